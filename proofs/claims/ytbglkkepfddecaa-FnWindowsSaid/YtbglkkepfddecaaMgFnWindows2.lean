/- Texts of the proof of FnWindows, joined in build order. -/
import Derived.Test.YtbglkkepfddecaaMgFnWindows1
-- Written by wip/tools/gen.py out of the translation (the kit's printer, one namespace a seat). Lean checks it.
namespace Go.Proofs.Ytbglkkepfddecaa.G
open Go.RowKit Go.Proofs.YtbglkkepfddecaaW.PrintWords Go.Proofs.YtbglkkepfddecaaW.PrintLast Go.Proofs.YtbglkkepfddecaaW.PrintMore
attribute [local go_sem] max2_int min2_int max_two min_two max_three min_three max_four min_four   -- for this text's walks alone
set_option linter.unusedVariables false
set_option linter.unusedSimpArgs false

/-! ### impl_GreatestDraft: function 26 -/
mutual
def impl_GreatestDraft.j0:Nat → List (S60) → Int → Int → Int → Bool → Option (Int × Bool)
 | 0,_,_,_,_,_=>none
 | k + 1,x0,x1,x2,x3,x29=>if x29 = true then (some (0,false)) else (impl_GreatestDraft.l0 k x0 x1 x3 (-1) x2)
def impl_GreatestDraft.l0:Nat → List (S60) → Int → Int → Int → Int → Option (Int × Bool)
 | 0,_,_,_,_,_=>none
 | k + 1,x0,x1,x3,x10,x11=>if x11 ≤ x3 then ((impl_heightAt.f k x0 x11).bind fun bt294=>(if x10 < 0 then (if bt294.2 = 0 then (none) else (impl_GreatestDraft.l0 k x0 x1 x3 (wrap64 (Int.tdiv bt294.1 bt294.2)) (wrap64 (x11 + 1)))) else (if bt294.2 = 0 then (none) else (if (wrap64 (Int.tdiv bt294.1 bt294.2)) < x10 then (impl_GreatestDraft.l0 k x0 x1 x3 (wrap64 (Int.tdiv bt294.1 bt294.2)) (wrap64 (x11 + 1))) else (impl_GreatestDraft.l0 k x0 x1 x3 x10 (wrap64 (x11 + 1))))))) else (some (wrap64 (x1 + x10),true))
end
def impl_GreatestDraft.f (k:Nat) (l0:List (S60)) (a1:Int) (a2:Int) (a3:Int):Option (Int × Bool):=(impl_holds.f k l0 (([a2,a3]:List Int))).bind fun t292=>(if t292 = true then ((impl_within.f a1 0 3000).bind fun t293=>(if t293 = true then (impl_GreatestDraft.j0 k l0 a1 a2 a3 (decide (a2 > a3))) else (impl_GreatestDraft.j0 k l0 a1 a2 a3 true))) else (impl_GreatestDraft.j0 k l0 a1 a2 a3 true))
set_option maxHeartbeats 8000000 in
set_option maxRecDepth 100000 in
theorem impl_GreatestDraft.calls (k:Nat) (A0:Option Addr) (c0:Nat) (l0:List (S60)) (a1:Int) (a2:Int) (a3:Int) (r1:Int) (r2:Bool) (w:World) (hr0:Kd.C k60 w A0 l0.length l0) (hc0:l0.length ≤ c0) (h:impl_GreatestDraft.f k l0 a1 a2 a3 = some (r1,r2)) :
  Calls Try.prog 26 #[.slice A0 l0.length c0,.int .i64 a1,.int .i64 a2,.int .i64 a3] w fun e w'=>e = .returned (.tuple #[.int .i64 r1,.bool r2]) ∧ Below w.heap.size w w':=by
 have HR0:=zM hr0;have HC0:=zM hc0;clear hr0 hc0;have HB:=zM (Below.refl w.heap.size w);have H:((impl_holds.f k l0 (([a2,a3]:List Int))).bind fun t292=>(if t292 = true then ((impl_within.f a1 0 3000).bind fun t293=>(if t293 = true then (impl_GreatestDraft.j0 k l0 a1 a2 a3 (decide (a2 > a3))) else (impl_GreatestDraft.j0 k l0 a1 a2 a3 true))) else (impl_GreatestDraft.j0 k l0 a1 a2 a3 true))) = some (r1,r2):=h
 clear h;have HC5:=zM H;clear H;go_enter Try.func26,Try.ntmps26
 go_upto_region 1 with (fail)
 go_cut [29] (fun v29 wc => ∃ (kq:Nat) (x29_4:Bool),v29 = .bool x29_4 ∧ Aside0 (impl_GreatestDraft.j0 kq l0 a1 a2 a3 x29_4 = some (r1,r2)) ∧ Aside0 (kq ≤ k) ∧ Aside0 (Below w.heap.size w wc))
 case first =>
  have H:=HC5.out;clear HC5;obtain ⟨y289,hy289⟩ : ∃ y_:List Int,y_ = (([a2,a3]:List Int)):=⟨_,rfl⟩
  replace H:((impl_holds.f k l0 y289).bind fun t292=>(if t292 = true then ((impl_within.f a1 0 3000).bind fun t293=>(if t293 = true then (impl_GreatestDraft.j0 k l0 a1 a2 a3 (decide (a2 > a3))) else (impl_GreatestDraft.j0 k l0 a1 a2 a3 true))) else (impl_GreatestDraft.j0 k l0 a1 a2 a3 true))) = some (r1,r2):=by first|(rw [hy289];with_reducible exact H)|(have H2_:=(Option.bind_some _ _).symm.trans H;rw [hy289];with_reducible exact H2_)|(have H2_:=(Option.bind_some _ _).symm.trans H;with_reducible exact H2_)|with_reducible exact H|(rw [hy289];exact H)|exact H
  have Ny289:=zM hy289;clear hy289;replace H:=Option.bind_eq_some_iff.mp H;obtain ⟨t292,A60,H⟩:=H;replace H:(if t292 = true then ((impl_within.f a1 0 3000).bind fun t293=>(if t293 = true then (impl_GreatestDraft.j0 k l0 a1 a2 a3 (decide (a2 > a3))) else (impl_GreatestDraft.j0 k l0 a1 a2 a3 true))) else (impl_GreatestDraft.j0 k l0 a1 a2 a3 true)) = some (r1,r2):=H
  have A6:=zM A60;clear A60;by_cases c7:t292 = true
  ·subst c7
   have H1:((impl_within.f a1 0 3000).bind fun t293=>(if t293 = true then (impl_GreatestDraft.j0 k l0 a1 a2 a3 (decide (a2 > a3))) else (impl_GreatestDraft.j0 k l0 a1 a2 a3 true))) = some (r1,r2):=by rw [if_pos rfl] at H;exact H
   clear H;have H:=H1;clear H1;replace H:=Option.bind_eq_some_iff.mp H;obtain ⟨t293,A80,H⟩:=H;replace H:(if t293 = true then (impl_GreatestDraft.j0 k l0 a1 a2 a3 (decide (a2 > a3))) else (impl_GreatestDraft.j0 k l0 a1 a2 a3 true)) = some (r1,r2):=H
   have A8:=zM A80;clear A80;by_cases c9:t293 = true
   ·subst c9
    have H1:(impl_GreatestDraft.j0 k l0 a1 a2 a3 (decide (a2 > a3))) = some (r1,r2):=by rw [if_pos rfl] at H;exact H
    clear H;have H:=H1;clear H1;have H':=zM H;clear H;go_wp2_with (first|((with_reducible refine gate_dst (N:=17) rfl ?_);refine Kd.R_lit (Kd.int .i64) _ 3 ?hg (N:=17) ?hd (xs:=([a2,a3]:List Int)) (inner:=[.int .i64 a2,.int .i64 a3]) (ok:=fun _=>True) (okp:=fun _=>True) ?hr ?hp (fun _ hk=>hk) trivial (Below.refl _ _) (Nat.le_refl _) (by simp) ?_;(case hd=>rfl);(case hg=>rfl);(case hr=>first|(go_simp;done)|(go_simp;rfl));(case hp=>exact (Reps.one (show Kd.M (Kd.int .i64) _ _ _ a2 [.int .i64 a2] from rfl) (Reps.one (show Kd.M (Kd.int .i64) _ _ _ a3 [.int .i64 a3] from rfl) (Reps.none _ _))));intro v290 w10 ho11 hb hg_ hnew_;clear hg_ hnew_;(first|rw [← Ny289.out] at ho11|(simp only [Int.reduceToNat] at ho11;rw [← Ny289.out] at ho11));have n0_:=zM (Kd.R_lower ho11 (zR (by repeat (first|(with_reducible first|exact HB.out|apply zD|apply zE|apply zF)|exact HB.out))));have n1_:=zM (zQ (by repeat (first|(with_reducible first|exact HB.out|apply zD|apply zE|apply zF)|exact HB.out)) hb);clear HB;have HO291:=n0_;have HB:=n1_;clear n0_ n1_;clear hb ho11;obtain ⟨Ao12,co12,eo12⟩:=Kd.R_slice HO291.out;subst eo12)|((with_reducible refine gate_callee (f:=62) rfl ?_);refine goesL_ (some 18) rfl rfl Try.func62 (by kernel_rfl) rfl #[.slice A0 l0.length c0,.slice Ao12 y289.length co12] rfl (by (try simp only [List.map_toArray,List.map_cons,List.map_nil]);first|done|rfl|(simp only [List.length_drop,List.length_take];rfl)) ?_;(with_reducible refine (impl_holds.calls k _ _ l0 _ _ y289 true _ ?side1 ?side2 ?side3 ?side4 A6.out).mono ?_);(case side1=>repeat (first|exact (zO HR0.out HB.out)|(with_reducible first|refine zG ?_ _|refine zH ?_ _|refine zI ?_)));(case side2=>exact HC0.out);(case side3=>repeat (first|exact (zN HO291.out).2.2|(with_reducible first|refine zG ?_ _|refine zH ?_ _|refine zI ?_)));(case side4=>exact (zN HO291.out).2.1);rintro e w13 ⟨rfl,hb⟩;refine ⟨_,rfl,?_⟩;have n0_:=zM (zP (by (with_reducible repeat (first|apply zA|apply zB|apply zC));exact HO291.out) hb);have n1_:=zM (zQ (by repeat (first|(with_reducible first|exact HB.out|apply zD|apply zE|apply zF)|exact HB.out)) hb);clear HO291;clear HB;have HO291:=n0_;have HB:=n1_;clear n0_ n1_;(try clear hb);(try clear hb2);(try clear hk);(try clear hi))|(go_at_call 54;(with_reducible refine (impl_within.calls a1 0 3000 true _ A8.out).mono ?_);rintro e w' ⟨rfl,⟨nd,rfl⟩⟩))
    go_meet
    case rel=>exact ⟨_,(decide (a2 > a3)),(by first|rfl|(simp;done)|(simp [*];done)),H',⟨by first|omega|exact Nat.le_refl _⟩,⟨by repeat (first|(with_reducible first|exact HB.out|apply zD|apply zE|apply zF)|exact HB.out)⟩⟩
   ·replace c9:=Bool.eq_false_iff.mpr c9
    subst c9;have H1:(impl_GreatestDraft.j0 k l0 a1 a2 a3 true) = some (r1,r2):=by rw [if_neg (show ¬ (false = true) by decide)] at H;exact H
    clear H;have H:=H1;clear H1;have H':=zM H;clear H;go_wp2_with (first|((with_reducible refine gate_dst (N:=17) rfl ?_);refine Kd.R_lit (Kd.int .i64) _ 3 ?hg (N:=17) ?hd (xs:=([a2,a3]:List Int)) (inner:=[.int .i64 a2,.int .i64 a3]) (ok:=fun _=>True) (okp:=fun _=>True) ?hr ?hp (fun _ hk=>hk) trivial (Below.refl _ _) (Nat.le_refl _) (by simp) ?_;(case hd=>rfl);(case hg=>rfl);(case hr=>first|(go_simp;done)|(go_simp;rfl));(case hp=>exact (Reps.one (show Kd.M (Kd.int .i64) _ _ _ a2 [.int .i64 a2] from rfl) (Reps.one (show Kd.M (Kd.int .i64) _ _ _ a3 [.int .i64 a3] from rfl) (Reps.none _ _))));intro v290 w14 ho15 hb hg_ hnew_;clear hg_ hnew_;(first|rw [← Ny289.out] at ho15|(simp only [Int.reduceToNat] at ho15;rw [← Ny289.out] at ho15));have n0_:=zM (Kd.R_lower ho15 (zR (by repeat (first|(with_reducible first|exact HB.out|apply zD|apply zE|apply zF)|exact HB.out))));have n1_:=zM (zQ (by repeat (first|(with_reducible first|exact HB.out|apply zD|apply zE|apply zF)|exact HB.out)) hb);clear HB;have HO291:=n0_;have HB:=n1_;clear n0_ n1_;clear hb ho15;obtain ⟨Ao16,co16,eo16⟩:=Kd.R_slice HO291.out;subst eo16)|((with_reducible refine gate_callee (f:=62) rfl ?_);refine goesL_ (some 18) rfl rfl Try.func62 (by kernel_rfl) rfl #[.slice A0 l0.length c0,.slice Ao16 y289.length co16] rfl (by (try simp only [List.map_toArray,List.map_cons,List.map_nil]);first|done|rfl|(simp only [List.length_drop,List.length_take];rfl)) ?_;(with_reducible refine (impl_holds.calls k _ _ l0 _ _ y289 true _ ?side1 ?side2 ?side3 ?side4 A6.out).mono ?_);(case side1=>repeat (first|exact (zO HR0.out HB.out)|(with_reducible first|refine zG ?_ _|refine zH ?_ _|refine zI ?_)));(case side2=>exact HC0.out);(case side3=>repeat (first|exact (zN HO291.out).2.2|(with_reducible first|refine zG ?_ _|refine zH ?_ _|refine zI ?_)));(case side4=>exact (zN HO291.out).2.1);rintro e w17 ⟨rfl,hb⟩;refine ⟨_,rfl,?_⟩;have n0_:=zM (zP (by (with_reducible repeat (first|apply zA|apply zB|apply zC));exact HO291.out) hb);have n1_:=zM (zQ (by repeat (first|(with_reducible first|exact HB.out|apply zD|apply zE|apply zF)|exact HB.out)) hb);clear HO291;clear HB;have HO291:=n0_;have HB:=n1_;clear n0_ n1_;(try clear hb);(try clear hb2);(try clear hk);(try clear hi))|(go_at_call 54;(with_reducible refine (impl_within.calls a1 0 3000 false _ A8.out).mono ?_);rintro e w' ⟨rfl,⟨nd,rfl⟩⟩))
    go_meet
    case rel=>exact ⟨_,(true),(by first|rfl|(simp;done)|(simp [*];done)),H',⟨by first|omega|exact Nat.le_refl _⟩,⟨by repeat (first|(with_reducible first|exact HB.out|apply zD|apply zE|apply zF)|exact HB.out)⟩⟩
  ·replace c7:=Bool.eq_false_iff.mpr c7
   subst c7;have H1:(impl_GreatestDraft.j0 k l0 a1 a2 a3 true) = some (r1,r2):=by rw [if_neg (show ¬ (false = true) by decide)] at H;exact H
   clear H;have H:=H1;clear H1;have H':=zM H;clear H;go_wp2_with (first|((with_reducible refine gate_dst (N:=17) rfl ?_);refine Kd.R_lit (Kd.int .i64) _ 3 ?hg (N:=17) ?hd (xs:=([a2,a3]:List Int)) (inner:=[.int .i64 a2,.int .i64 a3]) (ok:=fun _=>True) (okp:=fun _=>True) ?hr ?hp (fun _ hk=>hk) trivial (Below.refl _ _) (Nat.le_refl _) (by simp) ?_;(case hd=>rfl);(case hg=>rfl);(case hr=>first|(go_simp;done)|(go_simp;rfl));(case hp=>exact (Reps.one (show Kd.M (Kd.int .i64) _ _ _ a2 [.int .i64 a2] from rfl) (Reps.one (show Kd.M (Kd.int .i64) _ _ _ a3 [.int .i64 a3] from rfl) (Reps.none _ _))));intro v290 w18 ho19 hb hg_ hnew_;clear hg_ hnew_;(first|rw [← Ny289.out] at ho19|(simp only [Int.reduceToNat] at ho19;rw [← Ny289.out] at ho19));have n0_:=zM (Kd.R_lower ho19 (zR (by repeat (first|(with_reducible first|exact HB.out|apply zD|apply zE|apply zF)|exact HB.out))));have n1_:=zM (zQ (by repeat (first|(with_reducible first|exact HB.out|apply zD|apply zE|apply zF)|exact HB.out)) hb);clear HB;have HO291:=n0_;have HB:=n1_;clear n0_ n1_;clear hb ho19;obtain ⟨Ao20,co20,eo20⟩:=Kd.R_slice HO291.out;subst eo20)|((with_reducible refine gate_callee (f:=62) rfl ?_);refine goesL_ (some 18) rfl rfl Try.func62 (by kernel_rfl) rfl #[.slice A0 l0.length c0,.slice Ao20 y289.length co20] rfl (by (try simp only [List.map_toArray,List.map_cons,List.map_nil]);first|done|rfl|(simp only [List.length_drop,List.length_take];rfl)) ?_;(with_reducible refine (impl_holds.calls k _ _ l0 _ _ y289 false _ ?side1 ?side2 ?side3 ?side4 A6.out).mono ?_);(case side1=>repeat (first|exact (zO HR0.out HB.out)|(with_reducible first|refine zG ?_ _|refine zH ?_ _|refine zI ?_)));(case side2=>exact HC0.out);(case side3=>repeat (first|exact (zN HO291.out).2.2|(with_reducible first|refine zG ?_ _|refine zH ?_ _|refine zI ?_)));(case side4=>exact (zN HO291.out).2.1);rintro e w21 ⟨rfl,hb⟩;refine ⟨_,rfl,?_⟩;have n0_:=zM (zP (by (with_reducible repeat (first|apply zA|apply zB|apply zC));exact HO291.out) hb);have n1_:=zM (zQ (by repeat (first|(with_reducible first|exact HB.out|apply zD|apply zE|apply zF)|exact HB.out)) hb);clear HO291;clear HB;have HO291:=n0_;have HB:=n1_;clear n0_ n1_;(try clear hb);(try clear hb2);(try clear hk);(try clear hi)))
   go_meet
   case rel=>exact ⟨_,(true),(by first|rfl|(simp;done)|(simp [*];done)),H',⟨by first|omega|exact Nat.le_refl _⟩,⟨by repeat (first|(with_reducible first|exact HB.out|apply zD|apply zE|apply zF)|exact HB.out)⟩⟩
 case rest =>
  clear HC5;(try clear c2);(try clear p2);(try clear c6);(try clear c7);(try clear c9);obtain ⟨kq,x29_4,rfl,HA,HJ4,HB⟩:=hcut;cases kq with
  | zero=>exact absurd HA.out (by simp [impl_GreatestDraft.j0])
  | succ kj4 =>
   have H:=HA.out;clear HA;simp only [impl_GreatestDraft.j0] at H
   by_cases c22:x29_4 = true
   ·subst c22
    have H1:(some (0,false)) = some (r1,r2):=by rw [if_pos rfl] at H;exact H
    clear H;have H:=H1;clear H1;simp only [Option.some.injEq,Prod.mk.injEq] at H
    obtain ⟨rfl,rfl⟩:=H;go_wp2
    go_ret2
    exact ⟨by first|rfl|(simp [errW_none,errW_some] <;> rfl)|(simp [*,errW_none,errW_some] <;> rfl),by repeat (first|(with_reducible first|exact HB.out|apply zD|apply zE|apply zF)|exact HB.out)⟩
   ·replace c22:=Bool.eq_false_iff.mpr c22
    subst c22;have H1:(impl_GreatestDraft.l0 kj4 l0 a1 a3 (-1) a2) = some (r1,r2):=by rw [if_neg (show ¬ (false = true) by decide)] at H;exact H
    clear H;have H:=H1;clear H1;have H':=zM H;clear H;go_wp2
    go_loopg [10,11] kj4 (fun kq v10 v11 w' => ∃ (x10_2:Int) (x11_2:Int),v10 = .int .i64 x10_2 ∧ v11 = .int .i64 x11_2 ∧ Aside0 (impl_GreatestDraft.l0 kq l0 a1 a3 x10_2 x11_2 = some (r1,r2)) ∧ Aside0 (kq ≤ kj4) ∧ Aside0 (Below w.heap.size w w'))
    case atStart=>exact ⟨((-1)),(a2),(by first|rfl|(simp;done)|(simp [*];done)),(by first|rfl|(simp;done)|(simp [*];done)),H',⟨Nat.le_refl _⟩,⟨by repeat (first|(with_reducible first|exact HB.out|apply zD|apply zE|apply zF)|exact HB.out)⟩⟩
    case round =>
     clear H';(try clear c2);(try clear p2);(try clear c6);(try clear c7);(try clear c9);(try clear c22);(try clear p2);obtain ⟨x10_2,x11_2,rfl,rfl,HA,HK2,HB⟩:=hrel;cases gk with
     | zero=>exact absurd HA.out (by simp [impl_GreatestDraft.l0])
     | succ k2 =>
      have H:=HA.out;clear HA;simp only [impl_GreatestDraft.l0] at H
      by_cases c23:x11_2 ≤ a3
      ·rw [if_pos c23] at H
       have c23b0:decide (x11_2 ≤ a3) = true:=decide_eq_true c23
       clear c23;replace H:=Option.bind_eq_some_iff.mp H;obtain ⟨⟨t294,t295⟩,A240,H⟩:=H;replace H:(if x10_2 < 0 then (if t295 = 0 then (none) else (impl_GreatestDraft.l0 k2 l0 a1 a3 (wrap64 (Int.tdiv t294 t295)) (wrap64 (x11_2 + 1)))) else (if t295 = 0 then (none) else (if (wrap64 (Int.tdiv t294 t295)) < x10_2 then (impl_GreatestDraft.l0 k2 l0 a1 a3 (wrap64 (Int.tdiv t294 t295)) (wrap64 (x11_2 + 1))) else (impl_GreatestDraft.l0 k2 l0 a1 a3 x10_2 (wrap64 (x11_2 + 1)))))) = some (r1,r2):=H
       have A24:=zM A240;clear A240;by_cases c25:x10_2 < 0
       ·rw [if_pos c25] at H
        have c25b0:decide (x10_2 < 0) = true:=decide_eq_true c25
        clear c25;by_cases c26:t295 = 0
        ·rw [if_pos c26] at H
         exact absurd H (by simp)
        ·rw [if_neg c26] at H
         have c26b0:(t295 == 0) = false:=beq_eq_false_iff_ne.mpr c26
         have c26b1:(t295 != 0) = true:=bne_iff_ne.mpr c26
         have H':=zM H;clear H;go_wp2_with (first|((with_reducible refine gate_callee (f:=63) rfl ?_);refine goesL_ (some 39) rfl rfl Try.func63 (by kernel_rfl) rfl #[.slice A0 l0.length c0,.int .i64 x11_2] rfl (by (try simp only [List.map_toArray,List.map_cons,List.map_nil]);first|done|rfl|(simp only [List.length_drop,List.length_take];rfl)) ?_;(with_reducible refine (impl_heightAt.calls k2 _ _ l0 x11_2 t294 t295 _ ?side1 ?side2 A24.out).mono ?_);(case side1=>repeat (first|exact (zO HR0.out HB.out)|(with_reducible first|refine zG ?_ _|refine zH ?_ _|refine zI ?_)));(case side2=>exact HC0.out);rintro e w27 ⟨rfl,hb⟩;refine ⟨_,rfl,?_⟩;have n0_:=zM (zQ (by repeat (first|(with_reducible first|exact HB.out|apply zD|apply zE|apply zF)|exact HB.out)) hb);clear HB;have HB:=n0_;clear n0_;(try clear hb);(try clear hb2);(try clear hk);(try clear hi)))
         go_roundg k2
         case measure=>have:=HJ4.out;have:=HK2.out;omega
         case rel=>exact ⟨(wrap64 (Int.tdiv t294 t295)),(wrap64 (x11_2 + 1)),(by first|rfl|(simp;done)|(simp [*];done)),(by first|rfl|(simp;done)|(simp [*];done)),H',⟨by have:=HJ4.out;have:=HK2.out;omega⟩,⟨by repeat (first|(with_reducible first|exact HB.out|apply zD|apply zE|apply zF)|exact HB.out)⟩⟩
       ·rw [if_neg c25] at H
        have c25b0:decide (x10_2 < 0) = false:=decide_eq_false c25
        clear c25;by_cases c28:t295 = 0
        ·rw [if_pos c28] at H
         exact absurd H (by simp)
        ·rw [if_neg c28] at H
         have c28b0:(t295 == 0) = false:=beq_eq_false_iff_ne.mpr c28
         have c28b1:(t295 != 0) = true:=bne_iff_ne.mpr c28
         by_cases c29:(wrap64 (Int.tdiv t294 t295)) < x10_2
         ·rw [if_pos c29] at H
          have c29b0:decide ((wrap64 (Int.tdiv t294 t295)) < x10_2) = true:=decide_eq_true c29
          clear c29;have H':=zM H;clear H;go_wp2_with (first|((with_reducible refine gate_callee (f:=63) rfl ?_);refine goesL_ (some 39) rfl rfl Try.func63 (by kernel_rfl) rfl #[.slice A0 l0.length c0,.int .i64 x11_2] rfl (by (try simp only [List.map_toArray,List.map_cons,List.map_nil]);first|done|rfl|(simp only [List.length_drop,List.length_take];rfl)) ?_;(with_reducible refine (impl_heightAt.calls k2 _ _ l0 x11_2 t294 t295 _ ?side1 ?side2 A24.out).mono ?_);(case side1=>repeat (first|exact (zO HR0.out HB.out)|(with_reducible first|refine zG ?_ _|refine zH ?_ _|refine zI ?_)));(case side2=>exact HC0.out);rintro e w30 ⟨rfl,hb⟩;refine ⟨_,rfl,?_⟩;have n0_:=zM (zQ (by repeat (first|(with_reducible first|exact HB.out|apply zD|apply zE|apply zF)|exact HB.out)) hb);clear HB;have HB:=n0_;clear n0_;(try clear hb);(try clear hb2);(try clear hk);(try clear hi)))
          go_roundg k2
          case measure=>have:=HJ4.out;have:=HK2.out;omega
          case rel=>exact ⟨(wrap64 (Int.tdiv t294 t295)),(wrap64 (x11_2 + 1)),(by first|rfl|(simp;done)|(simp [*];done)),(by first|rfl|(simp;done)|(simp [*];done)),H',⟨by have:=HJ4.out;have:=HK2.out;omega⟩,⟨by repeat (first|(with_reducible first|exact HB.out|apply zD|apply zE|apply zF)|exact HB.out)⟩⟩
         ·rw [if_neg c29] at H
          have c29b0:decide ((wrap64 (Int.tdiv t294 t295)) < x10_2) = false:=decide_eq_false c29
          clear c29;have H':=zM H;clear H;go_wp2_with (first|((with_reducible refine gate_callee (f:=63) rfl ?_);refine goesL_ (some 39) rfl rfl Try.func63 (by kernel_rfl) rfl #[.slice A0 l0.length c0,.int .i64 x11_2] rfl (by (try simp only [List.map_toArray,List.map_cons,List.map_nil]);first|done|rfl|(simp only [List.length_drop,List.length_take];rfl)) ?_;(with_reducible refine (impl_heightAt.calls k2 _ _ l0 x11_2 t294 t295 _ ?side1 ?side2 A24.out).mono ?_);(case side1=>repeat (first|exact (zO HR0.out HB.out)|(with_reducible first|refine zG ?_ _|refine zH ?_ _|refine zI ?_)));(case side2=>exact HC0.out);rintro e w31 ⟨rfl,hb⟩;refine ⟨_,rfl,?_⟩;have n0_:=zM (zQ (by repeat (first|(with_reducible first|exact HB.out|apply zD|apply zE|apply zF)|exact HB.out)) hb);clear HB;have HB:=n0_;clear n0_;(try clear hb);(try clear hb2);(try clear hk);(try clear hi)))
          go_roundg k2
          case measure=>have:=HJ4.out;have:=HK2.out;omega
          case rel=>exact ⟨(x10_2),(wrap64 (x11_2 + 1)),(by first|rfl|(simp;done)|(simp [*];done)),(by first|rfl|(simp;done)|(simp [*];done)),H',⟨by have:=HJ4.out;have:=HK2.out;omega⟩,⟨by repeat (first|(with_reducible first|exact HB.out|apply zD|apply zE|apply zF)|exact HB.out)⟩⟩
      ·rw [if_neg c23] at H
       have c23b0:decide (x11_2 ≤ a3) = false:=decide_eq_false c23
       clear c23;simp only [Option.some.injEq,Prod.mk.injEq] at H
       obtain ⟨rfl,rfl⟩:=H;go_wp2
       go_ret2
       exact ⟨by first|rfl|(simp [errW_none,errW_some] <;> rfl)|(simp [*,errW_none,errW_some] <;> rfl),by repeat (first|(with_reducible first|exact HB.out|apply zD|apply zE|apply zF)|exact HB.out)⟩



/-! ### spec_l15Deep: function 66 -/
def spec_l15Deep.f (k:Nat) (l0:List (S60)) (a1:Int) (a2:Int):Option (Bool):=(spec_l15Height.f k l0 a1).bind fun bt416=>(some (decide (bt416.1 ≥ (wrap64 (a2 * bt416.2)))))
set_option maxHeartbeats 8000000 in
set_option maxRecDepth 100000 in
theorem spec_l15Deep.calls (k:Nat) (A0:Option Addr) (c0:Nat) (l0:List (S60)) (a1:Int) (a2:Int) (r:Bool) (w:World) (hr0:Kd.C k60 w A0 l0.length l0) (hc0:l0.length ≤ c0) (h:spec_l15Deep.f k l0 a1 a2 = some r) :
  Calls Try.prog 66 #[.slice A0 l0.length c0,.int .i64 a1,.int .i64 a2] w fun e w'=>e = .returned (.bool r) ∧ Below w.heap.size w w':=by
 have HR0:=zM hr0;have HC0:=zM hc0;clear hr0 hc0;have HB:=zM (Below.refl w.heap.size w);have H:((spec_l15Height.f k l0 a1).bind fun bt416=>(some (decide (bt416.1 ≥ (wrap64 (a2 * bt416.2)))))) = some r:=h
 clear h;replace H:=Option.bind_eq_some_iff.mp H;obtain ⟨⟨t416,t417⟩,A40,H⟩:=H;replace H:(some (decide (t416 ≥ (wrap64 (a2 * t417))))) = some r:=H
 have A4:=zM A40;clear A40;obtain rfl:=Option.some.inj H;go_enter Try.func66,Try.ntmps66
 go_wp2_with (first|((with_reducible refine gate_callee (f:=60) rfl ?_);refine goesL_ (some 12) rfl rfl Try.func60 (by kernel_rfl) rfl #[.slice A0 l0.length c0,.int .i64 a1] rfl (by (try simp only [List.map_toArray,List.map_cons,List.map_nil]);first|done|rfl|(simp only [List.length_drop,List.length_take];rfl)) ?_;(with_reducible refine (spec_l15Height.calls k _ _ l0 a1 t416 t417 _ ?side1 ?side2 A4.out).mono ?_);(case side1=>repeat (first|exact HR0.out|(with_reducible first|refine zG ?_ _|refine zH ?_ _|refine zI ?_)));(case side2=>exact HC0.out);rintro e w5 ⟨rfl,hb⟩;refine ⟨_,rfl,?_⟩;have n0_:=zM (zQ (by repeat (first|(with_reducible first|exact HB.out|apply zD|apply zE|apply zF)|exact HB.out)) hb);clear HB;have HB:=n0_;clear n0_;(try clear hb);(try clear hb2);(try clear hk);(try clear hi)))
 go_ret
 exact ⟨by first|rfl|(simp [errW_none,errW_some] <;> rfl)|(simp [*,errW_none,errW_some] <;> rfl),by repeat (first|(with_reducible first|exact HB.out|apply zD|apply zE|apply zF)|exact HB.out)⟩



/-! ### spec_ShipWindow: function 34 -/
mutual
def spec_ShipWindow.j0:Nat → List (S60) → Int → Int → Int → Int → Bool → Option (Int × Bool)
 | 0,_,_,_,_,_,_=>none
 | k + 1,x0,x1,x2,x3,x4,x33=>if x33 = true then (some (0,false)) else (spec_ShipWindow.l0 k x0 x1 x2 x4 x3)
def spec_ShipWindow.l0:Nat → List (S60) → Int → Int → Int → Int → Option (Int × Bool)
 | 0,_,_,_,_,_=>none
 | k + 1,x0,x1,x2,x4,x12=>if 0 ≤ (wrap64 ((x0.length:Int) - 1)) then (if (wrap64 ((x0.length:Int) - 1)) < (x0.length:Int) then (if (wrap64 (x12 + x4)) ≤ ((rd_T60 x0 (wrap64 ((x0.length:Int) - 1))).f0) then (spec_ShipWindow.l1 k x0 x1 x2 x4 x12 true x12) else (some (0,false))) else (none)) else (none)
def spec_ShipWindow.l1:Nat → List (S60) → Int → Int → Int → Int → Bool → Int → Option (Int × Bool)
 | 0,_,_,_,_,_,_,_=>none
 | k + 1,x0,x1,x2,x4,x12,x13,x14=>if x14 ≤ (wrap64 (x12 + x4)) then (if x13 = true then ((spec_l15Deep.f k x0 x14 (wrap64 (x1 - x2))).bind fun t423=>(spec_ShipWindow.l1 k x0 x1 x2 x4 x12 t423 (wrap64 (x14 + 1)))) else (spec_ShipWindow.l1 k x0 x1 x2 x4 x12 false (wrap64 (x14 + 1)))) else (if x13 = true then (some (x12,true)) else (spec_ShipWindow.l0 k x0 x1 x2 x4 (wrap64 (x12 + 1))))
end
def spec_ShipWindow.f (k:Nat) (l0:List (S60)) (a1:Int) (a2:Int) (a3:Int) (a4:Int):Option (Int × Bool):=(spec_l15Holds.f k l0 a3).bind fun t418=>(if t418 = true then ((spec_l1In.f a1 0 3000).bind fun t419=>(if t419 = true then ((spec_l1In.f a2 0 3000).bind fun t420=>(if t420 = true then ((spec_l1In.f a4 0 240).bind fun t421=>(spec_ShipWindow.j0 k l0 a1 a2 a3 a4 (!t421))) else (spec_ShipWindow.j0 k l0 a1 a2 a3 a4 true))) else (spec_ShipWindow.j0 k l0 a1 a2 a3 a4 true))) else (spec_ShipWindow.j0 k l0 a1 a2 a3 a4 true))
set_option maxHeartbeats 8000000 in
set_option maxRecDepth 100000 in
theorem spec_ShipWindow.calls (k:Nat) (A0:Option Addr) (c0:Nat) (l0:List (S60)) (a1:Int) (a2:Int) (a3:Int) (a4:Int) (r1:Int) (r2:Bool) (w:World) (hr0:Kd.C k60 w A0 l0.length l0) (hc0:l0.length ≤ c0) (h:spec_ShipWindow.f k l0 a1 a2 a3 a4 = some (r1,r2)) :
  Calls Try.prog 34 #[.slice A0 l0.length c0,.int .i64 a1,.int .i64 a2,.int .i64 a3,.int .i64 a4] w fun e w'=>e = .returned (.tuple #[.int .i64 r1,.bool r2]) ∧ Below w.heap.size w w':=by
 have HR0:=zM hr0;have HC0:=zM hc0;clear hr0 hc0;have HB:=zM (Below.refl w.heap.size w);have H:((spec_l15Holds.f k l0 a3).bind fun t418=>(if t418 = true then ((spec_l1In.f a1 0 3000).bind fun t419=>(if t419 = true then ((spec_l1In.f a2 0 3000).bind fun t420=>(if t420 = true then ((spec_l1In.f a4 0 240).bind fun t421=>(spec_ShipWindow.j0 k l0 a1 a2 a3 a4 (!t421))) else (spec_ShipWindow.j0 k l0 a1 a2 a3 a4 true))) else (spec_ShipWindow.j0 k l0 a1 a2 a3 a4 true))) else (spec_ShipWindow.j0 k l0 a1 a2 a3 a4 true))) = some (r1,r2):=h
 clear h;have HC6:=zM H;clear H;go_enter Try.func34,Try.ntmps34
 go_upto_region 1 with (fail)
 go_cut [33] (fun v33 wc => ∃ (kq:Nat) (x33_5:Bool),v33 = .bool x33_5 ∧ Aside0 (spec_ShipWindow.j0 kq l0 a1 a2 a3 a4 x33_5 = some (r1,r2)) ∧ Aside0 (kq ≤ k) ∧ Aside0 (Below w.heap.size w wc))
 case first =>
  have H:=HC6.out;clear HC6;replace H:=Option.bind_eq_some_iff.mp H;obtain ⟨t418,A70,H⟩:=H;replace H:(if t418 = true then ((spec_l1In.f a1 0 3000).bind fun t419=>(if t419 = true then ((spec_l1In.f a2 0 3000).bind fun t420=>(if t420 = true then ((spec_l1In.f a4 0 240).bind fun t421=>(spec_ShipWindow.j0 k l0 a1 a2 a3 a4 (!t421))) else (spec_ShipWindow.j0 k l0 a1 a2 a3 a4 true))) else (spec_ShipWindow.j0 k l0 a1 a2 a3 a4 true))) else (spec_ShipWindow.j0 k l0 a1 a2 a3 a4 true)) = some (r1,r2):=H
  have A7:=zM A70;clear A70;by_cases c8:t418 = true
  ·subst c8
   have H1:((spec_l1In.f a1 0 3000).bind fun t419=>(if t419 = true then ((spec_l1In.f a2 0 3000).bind fun t420=>(if t420 = true then ((spec_l1In.f a4 0 240).bind fun t421=>(spec_ShipWindow.j0 k l0 a1 a2 a3 a4 (!t421))) else (spec_ShipWindow.j0 k l0 a1 a2 a3 a4 true))) else (spec_ShipWindow.j0 k l0 a1 a2 a3 a4 true))) = some (r1,r2):=by rw [if_pos rfl] at H;exact H
   clear H;have H:=H1;clear H1;replace H:=Option.bind_eq_some_iff.mp H;obtain ⟨t419,A90,H⟩:=H;replace H:(if t419 = true then ((spec_l1In.f a2 0 3000).bind fun t420=>(if t420 = true then ((spec_l1In.f a4 0 240).bind fun t421=>(spec_ShipWindow.j0 k l0 a1 a2 a3 a4 (!t421))) else (spec_ShipWindow.j0 k l0 a1 a2 a3 a4 true))) else (spec_ShipWindow.j0 k l0 a1 a2 a3 a4 true)) = some (r1,r2):=H
   have A9:=zM A90;clear A90;by_cases c10:t419 = true
   ·subst c10
    have H1:((spec_l1In.f a2 0 3000).bind fun t420=>(if t420 = true then ((spec_l1In.f a4 0 240).bind fun t421=>(spec_ShipWindow.j0 k l0 a1 a2 a3 a4 (!t421))) else (spec_ShipWindow.j0 k l0 a1 a2 a3 a4 true))) = some (r1,r2):=by rw [if_pos rfl] at H;exact H
    clear H;have H:=H1;clear H1;replace H:=Option.bind_eq_some_iff.mp H;obtain ⟨t420,A110,H⟩:=H;replace H:(if t420 = true then ((spec_l1In.f a4 0 240).bind fun t421=>(spec_ShipWindow.j0 k l0 a1 a2 a3 a4 (!t421))) else (spec_ShipWindow.j0 k l0 a1 a2 a3 a4 true)) = some (r1,r2):=H
    have A11:=zM A110;clear A110;by_cases c12:t420 = true
    ·subst c12
     have H1:((spec_l1In.f a4 0 240).bind fun t421=>(spec_ShipWindow.j0 k l0 a1 a2 a3 a4 (!t421))) = some (r1,r2):=by rw [if_pos rfl] at H;exact H
     clear H;have H:=H1;clear H1;replace H:=Option.bind_eq_some_iff.mp H;obtain ⟨t421,A130,H⟩:=H;replace H:(spec_ShipWindow.j0 k l0 a1 a2 a3 a4 (!t421)) = some (r1,r2):=H
     have A13:=zM A130;clear A130;have H':=zM H;clear H;go_wp2_with (first|((with_reducible refine gate_callee (f:=59) rfl ?_);refine goesL_ (some 17) rfl rfl Try.func59 (by kernel_rfl) rfl #[.slice A0 l0.length c0,.int .i64 a3] rfl (by (try simp only [List.map_toArray,List.map_cons,List.map_nil]);first|done|rfl|(simp only [List.length_drop,List.length_take];rfl)) ?_;(with_reducible refine (spec_l15Holds.calls k _ _ l0 a3 true _ ?side1 ?side2 A7.out).mono ?_);(case side1=>repeat (first|exact (zO HR0.out HB.out)|(with_reducible first|refine zG ?_ _|refine zH ?_ _|refine zI ?_)));(case side2=>exact HC0.out);rintro e w' ⟨rfl,⟨nd,rfl⟩⟩;refine ⟨_,rfl,?_⟩)|(go_at_call 56;(with_reducible refine (spec_l1In.calls a1 0 3000 true _ A9.out).mono ?_);rintro e w' ⟨rfl,⟨nd,rfl⟩⟩)|(go_at_call 56;(with_reducible refine (spec_l1In.calls a2 0 3000 true _ A11.out).mono ?_);rintro e w' ⟨rfl,⟨nd,rfl⟩⟩)|(go_at_call 56;(with_reducible refine (spec_l1In.calls a4 0 240 t421 _ A13.out).mono ?_);rintro e w' ⟨rfl,⟨nd,rfl⟩⟩))
     go_meet
     case rel=>exact ⟨_,(!t421),(by first|rfl|(simp;done)|(simp [*];done)),H',⟨by first|omega|exact Nat.le_refl _⟩,⟨by repeat (first|(with_reducible first|exact HB.out|apply zD|apply zE|apply zF)|exact HB.out)⟩⟩
    ·replace c12:=Bool.eq_false_iff.mpr c12
     subst c12;have H1:(spec_ShipWindow.j0 k l0 a1 a2 a3 a4 true) = some (r1,r2):=by rw [if_neg (show ¬ (false = true) by decide)] at H;exact H
     clear H;have H:=H1;clear H1;have H':=zM H;clear H;go_wp2_with (first|((with_reducible refine gate_callee (f:=59) rfl ?_);refine goesL_ (some 17) rfl rfl Try.func59 (by kernel_rfl) rfl #[.slice A0 l0.length c0,.int .i64 a3] rfl (by (try simp only [List.map_toArray,List.map_cons,List.map_nil]);first|done|rfl|(simp only [List.length_drop,List.length_take];rfl)) ?_;(with_reducible refine (spec_l15Holds.calls k _ _ l0 a3 true _ ?side1 ?side2 A7.out).mono ?_);(case side1=>repeat (first|exact (zO HR0.out HB.out)|(with_reducible first|refine zG ?_ _|refine zH ?_ _|refine zI ?_)));(case side2=>exact HC0.out);rintro e w' ⟨rfl,⟨nd,rfl⟩⟩;refine ⟨_,rfl,?_⟩)|(go_at_call 56;(with_reducible refine (spec_l1In.calls a1 0 3000 true _ A9.out).mono ?_);rintro e w' ⟨rfl,⟨nd,rfl⟩⟩)|(go_at_call 56;(with_reducible refine (spec_l1In.calls a2 0 3000 false _ A11.out).mono ?_);rintro e w' ⟨rfl,⟨nd,rfl⟩⟩))
     go_meet
     case rel=>exact ⟨_,(true),(by first|rfl|(simp;done)|(simp [*];done)),H',⟨by first|omega|exact Nat.le_refl _⟩,⟨by repeat (first|(with_reducible first|exact HB.out|apply zD|apply zE|apply zF)|exact HB.out)⟩⟩
   ·replace c10:=Bool.eq_false_iff.mpr c10
    subst c10;have H1:(spec_ShipWindow.j0 k l0 a1 a2 a3 a4 true) = some (r1,r2):=by rw [if_neg (show ¬ (false = true) by decide)] at H;exact H
    clear H;have H:=H1;clear H1;have H':=zM H;clear H;go_wp2_with (first|((with_reducible refine gate_callee (f:=59) rfl ?_);refine goesL_ (some 17) rfl rfl Try.func59 (by kernel_rfl) rfl #[.slice A0 l0.length c0,.int .i64 a3] rfl (by (try simp only [List.map_toArray,List.map_cons,List.map_nil]);first|done|rfl|(simp only [List.length_drop,List.length_take];rfl)) ?_;(with_reducible refine (spec_l15Holds.calls k _ _ l0 a3 true _ ?side1 ?side2 A7.out).mono ?_);(case side1=>repeat (first|exact (zO HR0.out HB.out)|(with_reducible first|refine zG ?_ _|refine zH ?_ _|refine zI ?_)));(case side2=>exact HC0.out);rintro e w' ⟨rfl,⟨nd,rfl⟩⟩;refine ⟨_,rfl,?_⟩)|(go_at_call 56;(with_reducible refine (spec_l1In.calls a1 0 3000 false _ A9.out).mono ?_);rintro e w' ⟨rfl,⟨nd,rfl⟩⟩))
    go_meet
    case rel=>exact ⟨_,(true),(by first|rfl|(simp;done)|(simp [*];done)),H',⟨by first|omega|exact Nat.le_refl _⟩,⟨by repeat (first|(with_reducible first|exact HB.out|apply zD|apply zE|apply zF)|exact HB.out)⟩⟩
  ·replace c8:=Bool.eq_false_iff.mpr c8
   subst c8;have H1:(spec_ShipWindow.j0 k l0 a1 a2 a3 a4 true) = some (r1,r2):=by rw [if_neg (show ¬ (false = true) by decide)] at H;exact H
   clear H;have H:=H1;clear H1;have H':=zM H;clear H;go_wp2_with (first|((with_reducible refine gate_callee (f:=59) rfl ?_);refine goesL_ (some 17) rfl rfl Try.func59 (by kernel_rfl) rfl #[.slice A0 l0.length c0,.int .i64 a3] rfl (by (try simp only [List.map_toArray,List.map_cons,List.map_nil]);first|done|rfl|(simp only [List.length_drop,List.length_take];rfl)) ?_;(with_reducible refine (spec_l15Holds.calls k _ _ l0 a3 false _ ?side1 ?side2 A7.out).mono ?_);(case side1=>repeat (first|exact (zO HR0.out HB.out)|(with_reducible first|refine zG ?_ _|refine zH ?_ _|refine zI ?_)));(case side2=>exact HC0.out);rintro e w' ⟨rfl,⟨nd,rfl⟩⟩;refine ⟨_,rfl,?_⟩))
   go_meet
   case rel=>exact ⟨_,(true),(by first|rfl|(simp;done)|(simp [*];done)),H',⟨by first|omega|exact Nat.le_refl _⟩,⟨by repeat (first|(with_reducible first|exact HB.out|apply zD|apply zE|apply zF)|exact HB.out)⟩⟩
 case rest =>
  clear HC6;(try clear c1);(try clear p2);(try clear c3);(try clear c5);(try clear c8);(try clear c10);(try clear c12);obtain ⟨kq,x33_5,rfl,HA,HJ5,HB⟩:=hcut;cases kq with
  | zero=>exact absurd HA.out (by simp [spec_ShipWindow.j0])
  | succ kj5 =>
   have H:=HA.out;clear HA;simp only [spec_ShipWindow.j0] at H
   by_cases c14:x33_5 = true
   ·subst c14
    have H1:(some (0,false)) = some (r1,r2):=by rw [if_pos rfl] at H;exact H
    clear H;have H:=H1;clear H1;simp only [Option.some.injEq,Prod.mk.injEq] at H
    obtain ⟨rfl,rfl⟩:=H;go_wp2
    go_ret2
    exact ⟨by first|rfl|(simp [errW_none,errW_some] <;> rfl)|(simp [*,errW_none,errW_some] <;> rfl),by repeat (first|(with_reducible first|exact HB.out|apply zD|apply zE|apply zF)|exact HB.out)⟩
   ·replace c14:=Bool.eq_false_iff.mpr c14
    subst c14;have H1:(spec_ShipWindow.l0 kj5 l0 a1 a2 a4 a3) = some (r1,r2):=by rw [if_neg (show ¬ (false = true) by decide)] at H;exact H
    clear H;have H:=H1;clear H1;have H':=zM H;clear H;go_wp2
    go_loopg [12] kj5 (fun kq v12 w' => ∃ (x12_2:Int),v12 = .int .i64 x12_2 ∧ Aside0 (spec_ShipWindow.l0 kq l0 a1 a2 a4 x12_2 = some (r1,r2)) ∧ Aside0 (kq ≤ kj5) ∧ Aside0 (Below w.heap.size w w'))
    case atStart=>exact ⟨(a3),(by first|rfl|(simp;done)|(simp [*];done)),H',⟨Nat.le_refl _⟩,⟨by repeat (first|(with_reducible first|exact HB.out|apply zD|apply zE|apply zF)|exact HB.out)⟩⟩
    case round =>
     clear H';(try clear c1);(try clear p2);(try clear c3);(try clear c5);(try clear c8);(try clear c10);(try clear c12);(try clear c14);(try clear p2);obtain ⟨x12_2,rfl,HA,HK2,HB⟩:=hrel;cases gk with
     | zero=>exact absurd HA.out (by simp [spec_ShipWindow.l0])
     | succ k2 =>
      have H:=HA.out;clear HA;simp only [spec_ShipWindow.l0] at H
      obtain ⟨ji15,hji15⟩ : ∃ j_:Int,(wrap64 ((l0.length:Int) - 1)) = j_:=⟨_,rfl⟩
      replace H:(if 0 ≤ (ji15) then (if (ji15) < (l0.length:Int) then (if (wrap64 (x12_2 + a4)) ≤ ((rd_T60 l0 (ji15)).f0) then (spec_ShipWindow.l1 k2 l0 a1 a2 a4 x12_2 true x12_2) else (some (0,false))) else (none)) else (none)) = some (r1,r2):=by first|(rw [hji15] at H;exact H)|(simp only [hji15] at H ⊢;exact H)
      have hji15w:(IntKind.i64.wrap ((l0.length:Int) - 1)) = ji15:=(i64_w _).trans hji15
      by_cases c16:0 ≤ (ji15)
      ·rw [if_pos c16] at H
       have c16b0:decide (0 ≤ (ji15)) = true:=decide_eq_true c16
       clear c16;by_cases c17:(ji15) < (l0.length:Int)
       ·rw [if_pos c17] at H
        have c17b0:decide ((ji15) < (l0.length:Int)) = true:=decide_eq_true c17
        clear c17;by_cases c18:(wrap64 (x12_2 + a4)) ≤ ((rd_T60 l0 (ji15)).f0)
        ·rw [if_pos c18] at H
         have c18b0:decide ((wrap64 (x12_2 + a4)) ≤ ((rd_T60 l0 (ji15)).f0)) = true:=decide_eq_true c18
         clear c18;have H':=zM H;clear H;have p422:0 ≤ ((ji15):Int):=of_decide_eq_true (by first|(with_reducible assumption)|assumption)
         have q422:(ji15) < (l0.length:Int):=of_decide_eq_true (by first|(with_reducible assumption)|assumption)
         obtain ⟨ad422,e422,hx422_0,hx422_1⟩:=at_T60 HR0.out (ji15) p422 q422;cases e422
         replace hx422_0:=zS HB.out hx422_0;replace hx422_1:=zS HB.out hx422_1;replace p422:=eq_true p422;replace q422:=eq_true q422;go_wp2
         go_loopg [13,14] k2 (fun kq v13 v14 w' => ∃ (x13_3:Bool) (x14_3:Int),v13 = .bool x13_3 ∧ v14 = .int .i64 x14_3 ∧ Aside0 (spec_ShipWindow.l1 kq l0 a1 a2 a4 x12_2 x13_3 x14_3 = some (r1,r2)) ∧ Aside0 (kq ≤ k2) ∧ Aside0 (Below w.heap.size w w'))
         case atStart=>exact ⟨(true),(x12_2),(by first|rfl|(simp;done)|(simp [*];done)),(by first|rfl|(simp;done)|(simp [*];done)),H',⟨Nat.le_refl _⟩,⟨by repeat (first|(with_reducible first|exact HB.out|apply zD|apply zE|apply zF)|exact HB.out)⟩⟩
         case round =>
          clear H';(try clear c1);(try clear p2);(try clear c3);(try clear p4);(try clear q4);(try clear hx4);(try clear c5);(try clear p6);(try clear c8);(try clear c10);(try clear c12);(try clear c14);(try clear c16);(try clear c16b0);(try clear c17);(try clear c17b0);(try clear c18);(try clear c18b0);(try clear hx422_0);(try clear hx422_1);(try clear p2);(try clear p422);(try clear q422);obtain ⟨x13_3,x14_3,rfl,rfl,HA,HK3,HB⟩:=hrel;cases gk with
          | zero=>exact absurd HA.out (by simp [spec_ShipWindow.l1])
          | succ k3 =>
           have H:=HA.out;clear HA;simp only [spec_ShipWindow.l1] at H
           by_cases c19:x14_3 ≤ (wrap64 (x12_2 + a4))
           ·rw [if_pos c19] at H
            have c19b0:decide (x14_3 ≤ (wrap64 (x12_2 + a4))) = true:=decide_eq_true c19
            clear c19;by_cases c20:x13_3 = true
            ·subst c20
             have H1:((spec_l15Deep.f k3 l0 x14_3 (wrap64 (a1 - a2))).bind fun t423=>(spec_ShipWindow.l1 k3 l0 a1 a2 a4 x12_2 t423 (wrap64 (x14_3 + 1)))) = some (r1,r2):=by rw [if_pos rfl] at H;exact H
             clear H;have H:=H1;clear H1;replace H:=Option.bind_eq_some_iff.mp H;obtain ⟨t423,A210,H⟩:=H;replace H:(spec_ShipWindow.l1 k3 l0 a1 a2 a4 x12_2 t423 (wrap64 (x14_3 + 1))) = some (r1,r2):=H
             have A21:=zM A210;clear A210;have H':=zM H;clear H;go_wp2_with (first|(go_at_call 66;(with_reducible refine (spec_l15Deep.calls k3 _ _ l0 x14_3 (wrap64 (a1 - a2)) t423 _ ?side1 ?side2 A21.out).mono ?_);(case side1=>repeat (first|exact (zO HR0.out HB.out)|(with_reducible first|refine zG ?_ _|refine zH ?_ _|refine zI ?_)));(case side2=>exact HC0.out);rintro e w22 ⟨rfl,hb⟩;have n0_:=zM (zQ (by repeat (first|(with_reducible first|exact HB.out|apply zD|apply zE|apply zF)|exact HB.out)) hb);clear HB;have HB:=n0_;clear n0_;(try clear hb);(try clear hb2);(try clear hk);(try clear hi)))
             go_roundg k3
             case measure=>have:=HJ5.out;have:=HK2.out;have:=HK3.out;omega
             case rel=>exact ⟨(t423),(wrap64 (x14_3 + 1)),(by first|rfl|(simp;done)|(simp [*];done)),(by first|rfl|(simp;done)|(simp [*];done)),H',⟨by have:=HJ5.out;have:=HK2.out;have:=HK3.out;omega⟩,⟨by repeat (first|(with_reducible first|exact HB.out|apply zD|apply zE|apply zF)|exact HB.out)⟩⟩
            ·replace c20:=Bool.eq_false_iff.mpr c20
             subst c20;have H1:(spec_ShipWindow.l1 k3 l0 a1 a2 a4 x12_2 false (wrap64 (x14_3 + 1))) = some (r1,r2):=by rw [if_neg (show ¬ (false = true) by decide)] at H;exact H
             clear H;have H:=H1;clear H1;have H':=zM H;clear H;go_wp2
             go_roundg k3
             case measure=>have:=HJ5.out;have:=HK2.out;have:=HK3.out;omega
             case rel=>exact ⟨(false),(wrap64 (x14_3 + 1)),(by first|rfl|(simp;done)|(simp [*];done)),(by first|rfl|(simp;done)|(simp [*];done)),H',⟨by have:=HJ5.out;have:=HK2.out;have:=HK3.out;omega⟩,⟨by repeat (first|(with_reducible first|exact HB.out|apply zD|apply zE|apply zF)|exact HB.out)⟩⟩
           ·rw [if_neg c19] at H
            have c19b0:decide (x14_3 ≤ (wrap64 (x12_2 + a4))) = false:=decide_eq_false c19
            clear c19;by_cases c23:x13_3 = true
            ·subst c23
             have H1:(some (x12_2,true)) = some (r1,r2):=by rw [if_pos rfl] at H;exact H
             clear H;have H:=H1;clear H1;simp only [Option.some.injEq,Prod.mk.injEq] at H
             obtain ⟨rfl,rfl⟩:=H;go_wp2
             go_ret2
             exact ⟨by first|rfl|(simp [errW_none,errW_some] <;> rfl)|(simp only [← hji15];first|rfl|(simp [errW_none,errW_some] <;> rfl))|(simp [*,errW_none,errW_some] <;> rfl),by repeat (first|(with_reducible first|exact HB.out|apply zD|apply zE|apply zF)|exact HB.out)⟩
            ·replace c23:=Bool.eq_false_iff.mpr c23
             subst c23;have H1:(spec_ShipWindow.l0 k3 l0 a1 a2 a4 (wrap64 (x12_2 + 1))) = some (r1,r2):=by rw [if_neg (show ¬ (false = true) by decide)] at H;exact H
             clear H;have H:=H1;clear H1;have H':=zM H;clear H;go_wp2
             go_roundg k3
             case measure=>have:=HJ5.out;have:=HK2.out;have:=HK3.out;omega
             case rel=>exact ⟨(wrap64 (x12_2 + 1)),(by first|rfl|(simp;done)|(simp [*];done)),H',⟨by have:=HJ5.out;have:=HK2.out;have:=HK3.out;omega⟩,⟨by repeat (first|(with_reducible first|exact HB.out|apply zD|apply zE|apply zF)|exact HB.out)⟩⟩
        ·rw [if_neg c18] at H
         have c18b0:decide ((wrap64 (x12_2 + a4)) ≤ ((rd_T60 l0 (ji15)).f0)) = false:=decide_eq_false c18
         clear c18;simp only [Option.some.injEq,Prod.mk.injEq] at H
         obtain ⟨rfl,rfl⟩:=H;have p422:0 ≤ ((ji15):Int):=of_decide_eq_true (by first|(with_reducible assumption)|assumption)
         have q422:(ji15) < (l0.length:Int):=of_decide_eq_true (by first|(with_reducible assumption)|assumption)
         obtain ⟨ad422,e422,hx422_0,hx422_1⟩:=at_T60 HR0.out (ji15) p422 q422;cases e422
         replace hx422_0:=zS HB.out hx422_0;replace hx422_1:=zS HB.out hx422_1;replace p422:=eq_true p422;replace q422:=eq_true q422;go_wp2
         go_ret2
         exact ⟨by first|rfl|(simp [errW_none,errW_some] <;> rfl)|(simp only [← hji15];first|rfl|(simp [errW_none,errW_some] <;> rfl))|(simp [*,errW_none,errW_some] <;> rfl),by repeat (first|(with_reducible first|exact HB.out|apply zD|apply zE|apply zF)|exact HB.out)⟩
       ·rw [if_neg c17] at H
        exact absurd H (by simp)
      ·rw [if_neg c16] at H
       exact absurd H (by simp)



/-! ### impl_isDeep: function 67 -/
def impl_isDeep.f (k:Nat) (l0:List (S60)) (a1:Int) (a2:Int):Option (Bool):=(impl_heightAt.f k l0 a1).bind fun bt424=>(some (decide (bt424.1 ≥ (wrap64 (a2 * bt424.2)))))
set_option maxHeartbeats 8000000 in
set_option maxRecDepth 100000 in
theorem impl_isDeep.calls (k:Nat) (A0:Option Addr) (c0:Nat) (l0:List (S60)) (a1:Int) (a2:Int) (r:Bool) (w:World) (hr0:Kd.C k60 w A0 l0.length l0) (hc0:l0.length ≤ c0) (h:impl_isDeep.f k l0 a1 a2 = some r) :
  Calls Try.prog 67 #[.slice A0 l0.length c0,.int .i64 a1,.int .i64 a2] w fun e w'=>e = .returned (.bool r) ∧ Below w.heap.size w w':=by
 have HR0:=zM hr0;have HC0:=zM hc0;clear hr0 hc0;have HB:=zM (Below.refl w.heap.size w);have H:((impl_heightAt.f k l0 a1).bind fun bt424=>(some (decide (bt424.1 ≥ (wrap64 (a2 * bt424.2)))))) = some r:=h
 clear h;replace H:=Option.bind_eq_some_iff.mp H;obtain ⟨⟨t424,t425⟩,A40,H⟩:=H;replace H:(some (decide (t424 ≥ (wrap64 (a2 * t425))))) = some r:=H
 have A4:=zM A40;clear A40;obtain rfl:=Option.some.inj H;go_enter Try.func67,Try.ntmps67
 go_wp2_with (first|((with_reducible refine gate_callee (f:=63) rfl ?_);refine goesL_ (some 12) rfl rfl Try.func63 (by kernel_rfl) rfl #[.slice A0 l0.length c0,.int .i64 a1] rfl (by (try simp only [List.map_toArray,List.map_cons,List.map_nil]);first|done|rfl|(simp only [List.length_drop,List.length_take];rfl)) ?_;(with_reducible refine (impl_heightAt.calls k _ _ l0 a1 t424 t425 _ ?side1 ?side2 A4.out).mono ?_);(case side1=>repeat (first|exact HR0.out|(with_reducible first|refine zG ?_ _|refine zH ?_ _|refine zI ?_)));(case side2=>exact HC0.out);rintro e w5 ⟨rfl,hb⟩;refine ⟨_,rfl,?_⟩;have n0_:=zM (zQ (by repeat (first|(with_reducible first|exact HB.out|apply zD|apply zE|apply zF)|exact HB.out)) hb);clear HB;have HB:=n0_;clear n0_;(try clear hb);(try clear hb2);(try clear hk);(try clear hi)))
 go_ret
 exact ⟨by first|rfl|(simp [errW_none,errW_some] <;> rfl)|(simp [*,errW_none,errW_some] <;> rfl),by repeat (first|(with_reducible first|exact HB.out|apply zD|apply zE|apply zF)|exact HB.out)⟩



/-! ### impl_ShipWindow: function 35 -/
mutual
def impl_ShipWindow.j0:Nat → List (S60) → Int → Int → Int → Int → Bool → Option (Int × Bool)
 | 0,_,_,_,_,_,_=>none
 | k + 1,x0,x1,x2,x3,x4,x33=>if x33 = true then (some (0,false)) else (impl_ShipWindow.l0 k x0 x1 x2 x4 0 x3)
def impl_ShipWindow.l0:Nat → List (S60) → Int → Int → Int → Int → Int → Option (Int × Bool)
 | 0,_,_,_,_,_,_=>none
 | k + 1,x0,x1,x2,x4,x12,x13=>if 0 ≤ (wrap64 ((x0.length:Int) - 1)) then (if (wrap64 ((x0.length:Int) - 1)) < (x0.length:Int) then (if x13 ≤ ((rd_T60 x0 (wrap64 ((x0.length:Int) - 1))).f0) then ((impl_isDeep.f k x0 x13 (wrap64 (x1 - x2))).bind fun t434=>(if t434 = true then (if (wrap64 (x12 + 1)) = (wrap64 (x4 + 1)) then (some (wrap64 (x13 - x4),true)) else (impl_ShipWindow.l0 k x0 x1 x2 x4 (wrap64 (x12 + 1)) (wrap64 (x13 + 1)))) else (if 0 = (wrap64 (x4 + 1)) then (some (wrap64 (x13 - x4),true)) else (impl_ShipWindow.l0 k x0 x1 x2 x4 0 (wrap64 (x13 + 1)))))) else (some (0,false))) else (none)) else (none)
end
def impl_ShipWindow.f (k:Nat) (l0:List (S60)) (a1:Int) (a2:Int) (a3:Int) (a4:Int):Option (Int × Bool):=(impl_holds.f k l0 (([a3]:List Int))).bind fun t429=>(if t429 = true then ((impl_within.f a1 0 3000).bind fun t430=>(if t430 = true then ((impl_within.f a2 0 3000).bind fun t431=>(if t431 = true then ((impl_within.f a4 0 240).bind fun t432=>(impl_ShipWindow.j0 k l0 a1 a2 a3 a4 (!t432))) else (impl_ShipWindow.j0 k l0 a1 a2 a3 a4 true))) else (impl_ShipWindow.j0 k l0 a1 a2 a3 a4 true))) else (impl_ShipWindow.j0 k l0 a1 a2 a3 a4 true))
set_option maxHeartbeats 8000000 in
set_option maxRecDepth 100000 in
theorem impl_ShipWindow.calls (k:Nat) (A0:Option Addr) (c0:Nat) (l0:List (S60)) (a1:Int) (a2:Int) (a3:Int) (a4:Int) (r1:Int) (r2:Bool) (w:World) (hr0:Kd.C k60 w A0 l0.length l0) (hc0:l0.length ≤ c0) (h:impl_ShipWindow.f k l0 a1 a2 a3 a4 = some (r1,r2)) :
  Calls Try.prog 35 #[.slice A0 l0.length c0,.int .i64 a1,.int .i64 a2,.int .i64 a3,.int .i64 a4] w fun e w'=>e = .returned (.tuple #[.int .i64 r1,.bool r2]) ∧ Below w.heap.size w w':=by
 have HR0:=zM hr0;have HC0:=zM hc0;clear hr0 hc0;have HB:=zM (Below.refl w.heap.size w);have H:((impl_holds.f k l0 (([a3]:List Int))).bind fun t429=>(if t429 = true then ((impl_within.f a1 0 3000).bind fun t430=>(if t430 = true then ((impl_within.f a2 0 3000).bind fun t431=>(if t431 = true then ((impl_within.f a4 0 240).bind fun t432=>(impl_ShipWindow.j0 k l0 a1 a2 a3 a4 (!t432))) else (impl_ShipWindow.j0 k l0 a1 a2 a3 a4 true))) else (impl_ShipWindow.j0 k l0 a1 a2 a3 a4 true))) else (impl_ShipWindow.j0 k l0 a1 a2 a3 a4 true))) = some (r1,r2):=h
 clear h;have HC6:=zM H;clear H;go_enter Try.func35,Try.ntmps35
 go_upto_region 1 with (fail)
 go_cut [33] (fun v33 wc => ∃ (kq:Nat) (x33_5:Bool),v33 = .bool x33_5 ∧ Aside0 (impl_ShipWindow.j0 kq l0 a1 a2 a3 a4 x33_5 = some (r1,r2)) ∧ Aside0 (kq ≤ k) ∧ Aside0 (Below w.heap.size w wc))
 case first =>
  have H:=HC6.out;clear HC6;obtain ⟨y426,hy426⟩ : ∃ y_:List Int,y_ = (([a3]:List Int)):=⟨_,rfl⟩
  replace H:((impl_holds.f k l0 y426).bind fun t429=>(if t429 = true then ((impl_within.f a1 0 3000).bind fun t430=>(if t430 = true then ((impl_within.f a2 0 3000).bind fun t431=>(if t431 = true then ((impl_within.f a4 0 240).bind fun t432=>(impl_ShipWindow.j0 k l0 a1 a2 a3 a4 (!t432))) else (impl_ShipWindow.j0 k l0 a1 a2 a3 a4 true))) else (impl_ShipWindow.j0 k l0 a1 a2 a3 a4 true))) else (impl_ShipWindow.j0 k l0 a1 a2 a3 a4 true))) = some (r1,r2):=by first|(rw [hy426];with_reducible exact H)|(have H2_:=(Option.bind_some _ _).symm.trans H;rw [hy426];with_reducible exact H2_)|(have H2_:=(Option.bind_some _ _).symm.trans H;with_reducible exact H2_)|with_reducible exact H|(rw [hy426];exact H)|exact H
  have Ny426:=zM hy426;clear hy426;replace H:=Option.bind_eq_some_iff.mp H;obtain ⟨t429,A70,H⟩:=H;replace H:(if t429 = true then ((impl_within.f a1 0 3000).bind fun t430=>(if t430 = true then ((impl_within.f a2 0 3000).bind fun t431=>(if t431 = true then ((impl_within.f a4 0 240).bind fun t432=>(impl_ShipWindow.j0 k l0 a1 a2 a3 a4 (!t432))) else (impl_ShipWindow.j0 k l0 a1 a2 a3 a4 true))) else (impl_ShipWindow.j0 k l0 a1 a2 a3 a4 true))) else (impl_ShipWindow.j0 k l0 a1 a2 a3 a4 true)) = some (r1,r2):=H
  have A7:=zM A70;clear A70;by_cases c8:t429 = true
  ·subst c8
   have H1:((impl_within.f a1 0 3000).bind fun t430=>(if t430 = true then ((impl_within.f a2 0 3000).bind fun t431=>(if t431 = true then ((impl_within.f a4 0 240).bind fun t432=>(impl_ShipWindow.j0 k l0 a1 a2 a3 a4 (!t432))) else (impl_ShipWindow.j0 k l0 a1 a2 a3 a4 true))) else (impl_ShipWindow.j0 k l0 a1 a2 a3 a4 true))) = some (r1,r2):=by rw [if_pos rfl] at H;exact H
   clear H;have H:=H1;clear H1;replace H:=Option.bind_eq_some_iff.mp H;obtain ⟨t430,A90,H⟩:=H;replace H:(if t430 = true then ((impl_within.f a2 0 3000).bind fun t431=>(if t431 = true then ((impl_within.f a4 0 240).bind fun t432=>(impl_ShipWindow.j0 k l0 a1 a2 a3 a4 (!t432))) else (impl_ShipWindow.j0 k l0 a1 a2 a3 a4 true))) else (impl_ShipWindow.j0 k l0 a1 a2 a3 a4 true)) = some (r1,r2):=H
   have A9:=zM A90;clear A90;by_cases c10:t430 = true
   ·subst c10
    have H1:((impl_within.f a2 0 3000).bind fun t431=>(if t431 = true then ((impl_within.f a4 0 240).bind fun t432=>(impl_ShipWindow.j0 k l0 a1 a2 a3 a4 (!t432))) else (impl_ShipWindow.j0 k l0 a1 a2 a3 a4 true))) = some (r1,r2):=by rw [if_pos rfl] at H;exact H
    clear H;have H:=H1;clear H1;replace H:=Option.bind_eq_some_iff.mp H;obtain ⟨t431,A110,H⟩:=H;replace H:(if t431 = true then ((impl_within.f a4 0 240).bind fun t432=>(impl_ShipWindow.j0 k l0 a1 a2 a3 a4 (!t432))) else (impl_ShipWindow.j0 k l0 a1 a2 a3 a4 true)) = some (r1,r2):=H
    have A11:=zM A110;clear A110;by_cases c12:t431 = true
    ·subst c12
     have H1:((impl_within.f a4 0 240).bind fun t432=>(impl_ShipWindow.j0 k l0 a1 a2 a3 a4 (!t432))) = some (r1,r2):=by rw [if_pos rfl] at H;exact H
     clear H;have H:=H1;clear H1;replace H:=Option.bind_eq_some_iff.mp H;obtain ⟨t432,A130,H⟩:=H;replace H:(impl_ShipWindow.j0 k l0 a1 a2 a3 a4 (!t432)) = some (r1,r2):=H
     have A13:=zM A130;clear A130;have H':=zM H;clear H;go_wp2_with (first|((with_reducible refine gate_dst (N:=16) rfl ?_);refine Kd.R_lit (Kd.int .i64) _ 3 ?hg (N:=16) ?hd (xs:=([a3]:List Int)) (inner:=[.int .i64 a3]) (ok:=fun _=>True) (okp:=fun _=>True) ?hr ?hp (fun _ hk=>hk) trivial (Below.refl _ _) (Nat.le_refl _) (by simp) ?_;(case hd=>rfl);(case hg=>rfl);(case hr=>first|(go_simp;done)|(go_simp;rfl));(case hp=>exact (Reps.one (show Kd.M (Kd.int .i64) _ _ _ a3 [.int .i64 a3] from rfl) (Reps.none _ _)));intro v427 w14 ho15 hb hg_ hnew_;clear hg_ hnew_;(first|rw [← Ny426.out] at ho15|(simp only [Int.reduceToNat] at ho15;rw [← Ny426.out] at ho15));have n0_:=zM (Kd.R_lower ho15 (zR (by repeat (first|(with_reducible first|exact HB.out|apply zD|apply zE|apply zF)|exact HB.out))));have n1_:=zM (zQ (by repeat (first|(with_reducible first|exact HB.out|apply zD|apply zE|apply zF)|exact HB.out)) hb);clear HB;have HO428:=n0_;have HB:=n1_;clear n0_ n1_;clear hb ho15;obtain ⟨Ao16,co16,eo16⟩:=Kd.R_slice HO428.out;subst eo16)|((with_reducible refine gate_callee (f:=62) rfl ?_);refine goesL_ (some 17) rfl rfl Try.func62 (by kernel_rfl) rfl #[.slice A0 l0.length c0,.slice Ao16 y426.length co16] rfl (by (try simp only [List.map_toArray,List.map_cons,List.map_nil]);first|done|rfl|(simp only [List.length_drop,List.length_take];rfl)) ?_;(with_reducible refine (impl_holds.calls k _ _ l0 _ _ y426 true _ ?side1 ?side2 ?side3 ?side4 A7.out).mono ?_);(case side1=>repeat (first|exact (zO HR0.out HB.out)|(with_reducible first|refine zG ?_ _|refine zH ?_ _|refine zI ?_)));(case side2=>exact HC0.out);(case side3=>repeat (first|exact (zN HO428.out).2.2|(with_reducible first|refine zG ?_ _|refine zH ?_ _|refine zI ?_)));(case side4=>exact (zN HO428.out).2.1);rintro e w17 ⟨rfl,hb⟩;refine ⟨_,rfl,?_⟩;have n0_:=zM (zP (by (with_reducible repeat (first|apply zA|apply zB|apply zC));exact HO428.out) hb);have n1_:=zM (zQ (by repeat (first|(with_reducible first|exact HB.out|apply zD|apply zE|apply zF)|exact HB.out)) hb);clear HO428;clear HB;have HO428:=n0_;have HB:=n1_;clear n0_ n1_;(try clear hb);(try clear hb2);(try clear hk);(try clear hi))|(go_at_call 54;(with_reducible refine (impl_within.calls a1 0 3000 true _ A9.out).mono ?_);rintro e w' ⟨rfl,⟨nd,rfl⟩⟩)|(go_at_call 54;(with_reducible refine (impl_within.calls a2 0 3000 true _ A11.out).mono ?_);rintro e w' ⟨rfl,⟨nd,rfl⟩⟩)|(go_at_call 54;(with_reducible refine (impl_within.calls a4 0 240 t432 _ A13.out).mono ?_);rintro e w' ⟨rfl,⟨nd,rfl⟩⟩))
     go_meet
     case rel=>exact ⟨_,(!t432),(by first|rfl|(simp;done)|(simp [*];done)),H',⟨by first|omega|exact Nat.le_refl _⟩,⟨by repeat (first|(with_reducible first|exact HB.out|apply zD|apply zE|apply zF)|exact HB.out)⟩⟩
    ·replace c12:=Bool.eq_false_iff.mpr c12
     subst c12;have H1:(impl_ShipWindow.j0 k l0 a1 a2 a3 a4 true) = some (r1,r2):=by rw [if_neg (show ¬ (false = true) by decide)] at H;exact H
     clear H;have H:=H1;clear H1;have H':=zM H;clear H;go_wp2_with (first|((with_reducible refine gate_dst (N:=16) rfl ?_);refine Kd.R_lit (Kd.int .i64) _ 3 ?hg (N:=16) ?hd (xs:=([a3]:List Int)) (inner:=[.int .i64 a3]) (ok:=fun _=>True) (okp:=fun _=>True) ?hr ?hp (fun _ hk=>hk) trivial (Below.refl _ _) (Nat.le_refl _) (by simp) ?_;(case hd=>rfl);(case hg=>rfl);(case hr=>first|(go_simp;done)|(go_simp;rfl));(case hp=>exact (Reps.one (show Kd.M (Kd.int .i64) _ _ _ a3 [.int .i64 a3] from rfl) (Reps.none _ _)));intro v427 w18 ho19 hb hg_ hnew_;clear hg_ hnew_;(first|rw [← Ny426.out] at ho19|(simp only [Int.reduceToNat] at ho19;rw [← Ny426.out] at ho19));have n0_:=zM (Kd.R_lower ho19 (zR (by repeat (first|(with_reducible first|exact HB.out|apply zD|apply zE|apply zF)|exact HB.out))));have n1_:=zM (zQ (by repeat (first|(with_reducible first|exact HB.out|apply zD|apply zE|apply zF)|exact HB.out)) hb);clear HB;have HO428:=n0_;have HB:=n1_;clear n0_ n1_;clear hb ho19;obtain ⟨Ao20,co20,eo20⟩:=Kd.R_slice HO428.out;subst eo20)|((with_reducible refine gate_callee (f:=62) rfl ?_);refine goesL_ (some 17) rfl rfl Try.func62 (by kernel_rfl) rfl #[.slice A0 l0.length c0,.slice Ao20 y426.length co20] rfl (by (try simp only [List.map_toArray,List.map_cons,List.map_nil]);first|done|rfl|(simp only [List.length_drop,List.length_take];rfl)) ?_;(with_reducible refine (impl_holds.calls k _ _ l0 _ _ y426 true _ ?side1 ?side2 ?side3 ?side4 A7.out).mono ?_);(case side1=>repeat (first|exact (zO HR0.out HB.out)|(with_reducible first|refine zG ?_ _|refine zH ?_ _|refine zI ?_)));(case side2=>exact HC0.out);(case side3=>repeat (first|exact (zN HO428.out).2.2|(with_reducible first|refine zG ?_ _|refine zH ?_ _|refine zI ?_)));(case side4=>exact (zN HO428.out).2.1);rintro e w21 ⟨rfl,hb⟩;refine ⟨_,rfl,?_⟩;have n0_:=zM (zP (by (with_reducible repeat (first|apply zA|apply zB|apply zC));exact HO428.out) hb);have n1_:=zM (zQ (by repeat (first|(with_reducible first|exact HB.out|apply zD|apply zE|apply zF)|exact HB.out)) hb);clear HO428;clear HB;have HO428:=n0_;have HB:=n1_;clear n0_ n1_;(try clear hb);(try clear hb2);(try clear hk);(try clear hi))|(go_at_call 54;(with_reducible refine (impl_within.calls a1 0 3000 true _ A9.out).mono ?_);rintro e w' ⟨rfl,⟨nd,rfl⟩⟩)|(go_at_call 54;(with_reducible refine (impl_within.calls a2 0 3000 false _ A11.out).mono ?_);rintro e w' ⟨rfl,⟨nd,rfl⟩⟩))
     go_meet
     case rel=>exact ⟨_,(true),(by first|rfl|(simp;done)|(simp [*];done)),H',⟨by first|omega|exact Nat.le_refl _⟩,⟨by repeat (first|(with_reducible first|exact HB.out|apply zD|apply zE|apply zF)|exact HB.out)⟩⟩
   ·replace c10:=Bool.eq_false_iff.mpr c10
    subst c10;have H1:(impl_ShipWindow.j0 k l0 a1 a2 a3 a4 true) = some (r1,r2):=by rw [if_neg (show ¬ (false = true) by decide)] at H;exact H
    clear H;have H:=H1;clear H1;have H':=zM H;clear H;go_wp2_with (first|((with_reducible refine gate_dst (N:=16) rfl ?_);refine Kd.R_lit (Kd.int .i64) _ 3 ?hg (N:=16) ?hd (xs:=([a3]:List Int)) (inner:=[.int .i64 a3]) (ok:=fun _=>True) (okp:=fun _=>True) ?hr ?hp (fun _ hk=>hk) trivial (Below.refl _ _) (Nat.le_refl _) (by simp) ?_;(case hd=>rfl);(case hg=>rfl);(case hr=>first|(go_simp;done)|(go_simp;rfl));(case hp=>exact (Reps.one (show Kd.M (Kd.int .i64) _ _ _ a3 [.int .i64 a3] from rfl) (Reps.none _ _)));intro v427 w22 ho23 hb hg_ hnew_;clear hg_ hnew_;(first|rw [← Ny426.out] at ho23|(simp only [Int.reduceToNat] at ho23;rw [← Ny426.out] at ho23));have n0_:=zM (Kd.R_lower ho23 (zR (by repeat (first|(with_reducible first|exact HB.out|apply zD|apply zE|apply zF)|exact HB.out))));have n1_:=zM (zQ (by repeat (first|(with_reducible first|exact HB.out|apply zD|apply zE|apply zF)|exact HB.out)) hb);clear HB;have HO428:=n0_;have HB:=n1_;clear n0_ n1_;clear hb ho23;obtain ⟨Ao24,co24,eo24⟩:=Kd.R_slice HO428.out;subst eo24)|((with_reducible refine gate_callee (f:=62) rfl ?_);refine goesL_ (some 17) rfl rfl Try.func62 (by kernel_rfl) rfl #[.slice A0 l0.length c0,.slice Ao24 y426.length co24] rfl (by (try simp only [List.map_toArray,List.map_cons,List.map_nil]);first|done|rfl|(simp only [List.length_drop,List.length_take];rfl)) ?_;(with_reducible refine (impl_holds.calls k _ _ l0 _ _ y426 true _ ?side1 ?side2 ?side3 ?side4 A7.out).mono ?_);(case side1=>repeat (first|exact (zO HR0.out HB.out)|(with_reducible first|refine zG ?_ _|refine zH ?_ _|refine zI ?_)));(case side2=>exact HC0.out);(case side3=>repeat (first|exact (zN HO428.out).2.2|(with_reducible first|refine zG ?_ _|refine zH ?_ _|refine zI ?_)));(case side4=>exact (zN HO428.out).2.1);rintro e w25 ⟨rfl,hb⟩;refine ⟨_,rfl,?_⟩;have n0_:=zM (zP (by (with_reducible repeat (first|apply zA|apply zB|apply zC));exact HO428.out) hb);have n1_:=zM (zQ (by repeat (first|(with_reducible first|exact HB.out|apply zD|apply zE|apply zF)|exact HB.out)) hb);clear HO428;clear HB;have HO428:=n0_;have HB:=n1_;clear n0_ n1_;(try clear hb);(try clear hb2);(try clear hk);(try clear hi))|(go_at_call 54;(with_reducible refine (impl_within.calls a1 0 3000 false _ A9.out).mono ?_);rintro e w' ⟨rfl,⟨nd,rfl⟩⟩))
    go_meet
    case rel=>exact ⟨_,(true),(by first|rfl|(simp;done)|(simp [*];done)),H',⟨by first|omega|exact Nat.le_refl _⟩,⟨by repeat (first|(with_reducible first|exact HB.out|apply zD|apply zE|apply zF)|exact HB.out)⟩⟩
  ·replace c8:=Bool.eq_false_iff.mpr c8
   subst c8;have H1:(impl_ShipWindow.j0 k l0 a1 a2 a3 a4 true) = some (r1,r2):=by rw [if_neg (show ¬ (false = true) by decide)] at H;exact H
   clear H;have H:=H1;clear H1;have H':=zM H;clear H;go_wp2_with (first|((with_reducible refine gate_dst (N:=16) rfl ?_);refine Kd.R_lit (Kd.int .i64) _ 3 ?hg (N:=16) ?hd (xs:=([a3]:List Int)) (inner:=[.int .i64 a3]) (ok:=fun _=>True) (okp:=fun _=>True) ?hr ?hp (fun _ hk=>hk) trivial (Below.refl _ _) (Nat.le_refl _) (by simp) ?_;(case hd=>rfl);(case hg=>rfl);(case hr=>first|(go_simp;done)|(go_simp;rfl));(case hp=>exact (Reps.one (show Kd.M (Kd.int .i64) _ _ _ a3 [.int .i64 a3] from rfl) (Reps.none _ _)));intro v427 w26 ho27 hb hg_ hnew_;clear hg_ hnew_;(first|rw [← Ny426.out] at ho27|(simp only [Int.reduceToNat] at ho27;rw [← Ny426.out] at ho27));have n0_:=zM (Kd.R_lower ho27 (zR (by repeat (first|(with_reducible first|exact HB.out|apply zD|apply zE|apply zF)|exact HB.out))));have n1_:=zM (zQ (by repeat (first|(with_reducible first|exact HB.out|apply zD|apply zE|apply zF)|exact HB.out)) hb);clear HB;have HO428:=n0_;have HB:=n1_;clear n0_ n1_;clear hb ho27;obtain ⟨Ao28,co28,eo28⟩:=Kd.R_slice HO428.out;subst eo28)|((with_reducible refine gate_callee (f:=62) rfl ?_);refine goesL_ (some 17) rfl rfl Try.func62 (by kernel_rfl) rfl #[.slice A0 l0.length c0,.slice Ao28 y426.length co28] rfl (by (try simp only [List.map_toArray,List.map_cons,List.map_nil]);first|done|rfl|(simp only [List.length_drop,List.length_take];rfl)) ?_;(with_reducible refine (impl_holds.calls k _ _ l0 _ _ y426 false _ ?side1 ?side2 ?side3 ?side4 A7.out).mono ?_);(case side1=>repeat (first|exact (zO HR0.out HB.out)|(with_reducible first|refine zG ?_ _|refine zH ?_ _|refine zI ?_)));(case side2=>exact HC0.out);(case side3=>repeat (first|exact (zN HO428.out).2.2|(with_reducible first|refine zG ?_ _|refine zH ?_ _|refine zI ?_)));(case side4=>exact (zN HO428.out).2.1);rintro e w29 ⟨rfl,hb⟩;refine ⟨_,rfl,?_⟩;have n0_:=zM (zP (by (with_reducible repeat (first|apply zA|apply zB|apply zC));exact HO428.out) hb);have n1_:=zM (zQ (by repeat (first|(with_reducible first|exact HB.out|apply zD|apply zE|apply zF)|exact HB.out)) hb);clear HO428;clear HB;have HO428:=n0_;have HB:=n1_;clear n0_ n1_;(try clear hb);(try clear hb2);(try clear hk);(try clear hi)))
   go_meet
   case rel=>exact ⟨_,(true),(by first|rfl|(simp;done)|(simp [*];done)),H',⟨by first|omega|exact Nat.le_refl _⟩,⟨by repeat (first|(with_reducible first|exact HB.out|apply zD|apply zE|apply zF)|exact HB.out)⟩⟩
 case rest =>
  clear HC6;(try clear c1);(try clear p2);(try clear c3);(try clear c6);(try clear c8);(try clear c10);(try clear c12);obtain ⟨kq,x33_5,rfl,HA,HJ5,HB⟩:=hcut;cases kq with
  | zero=>exact absurd HA.out (by simp [impl_ShipWindow.j0])
  | succ kj5 =>
   have H:=HA.out;clear HA;simp only [impl_ShipWindow.j0] at H
   by_cases c30:x33_5 = true
   ·subst c30
    have H1:(some (0,false)) = some (r1,r2):=by rw [if_pos rfl] at H;exact H
    clear H;have H:=H1;clear H1;simp only [Option.some.injEq,Prod.mk.injEq] at H
    obtain ⟨rfl,rfl⟩:=H;go_wp2
    go_ret2
    exact ⟨by first|rfl|(simp [errW_none,errW_some] <;> rfl)|(simp [*,errW_none,errW_some] <;> rfl),by repeat (first|(with_reducible first|exact HB.out|apply zD|apply zE|apply zF)|exact HB.out)⟩
   ·replace c30:=Bool.eq_false_iff.mpr c30
    subst c30;have H1:(impl_ShipWindow.l0 kj5 l0 a1 a2 a4 0 a3) = some (r1,r2):=by rw [if_neg (show ¬ (false = true) by decide)] at H;exact H
    clear H;have H:=H1;clear H1;have H':=zM H;clear H;go_wp2
    go_loopg [12,13] kj5 (fun kq v12 v13 w' => ∃ (x12_2:Int) (x13_2:Int),v12 = .int .i64 x12_2 ∧ v13 = .int .i64 x13_2 ∧ Aside0 (impl_ShipWindow.l0 kq l0 a1 a2 a4 x12_2 x13_2 = some (r1,r2)) ∧ Aside0 (kq ≤ kj5) ∧ Aside0 (Below w.heap.size w w'))
    case atStart=>exact ⟨(0),(a3),(by first|rfl|(simp;done)|(simp [*];done)),(by first|rfl|(simp;done)|(simp [*];done)),H',⟨Nat.le_refl _⟩,⟨by repeat (first|(with_reducible first|exact HB.out|apply zD|apply zE|apply zF)|exact HB.out)⟩⟩
    case round =>
     clear H';(try clear c1);(try clear p2);(try clear c3);(try clear c6);(try clear c8);(try clear c10);(try clear c12);(try clear c30);(try clear p2);obtain ⟨x12_2,x13_2,rfl,rfl,HA,HK2,HB⟩:=hrel;cases gk with
     | zero=>exact absurd HA.out (by simp [impl_ShipWindow.l0])
     | succ k2 =>
      have H:=HA.out;clear HA;simp only [impl_ShipWindow.l0] at H
      obtain ⟨ji31,hji31⟩ : ∃ j_:Int,(wrap64 ((l0.length:Int) - 1)) = j_:=⟨_,rfl⟩
      replace H:(if 0 ≤ (ji31) then (if (ji31) < (l0.length:Int) then (if x13_2 ≤ ((rd_T60 l0 (ji31)).f0) then ((impl_isDeep.f k2 l0 x13_2 (wrap64 (a1 - a2))).bind fun t434=>(if t434 = true then (if (wrap64 (x12_2 + 1)) = (wrap64 (a4 + 1)) then (some (wrap64 (x13_2 - a4),true)) else (impl_ShipWindow.l0 k2 l0 a1 a2 a4 (wrap64 (x12_2 + 1)) (wrap64 (x13_2 + 1)))) else (if 0 = (wrap64 (a4 + 1)) then (some (wrap64 (x13_2 - a4),true)) else (impl_ShipWindow.l0 k2 l0 a1 a2 a4 0 (wrap64 (x13_2 + 1)))))) else (some (0,false))) else (none)) else (none)) = some (r1,r2):=by first|(rw [hji31] at H;exact H)|(simp only [hji31] at H ⊢;exact H)
      have hji31w:(IntKind.i64.wrap ((l0.length:Int) - 1)) = ji31:=(i64_w _).trans hji31
      by_cases c32:0 ≤ (ji31)
      ·rw [if_pos c32] at H
       have c32b0:decide (0 ≤ (ji31)) = true:=decide_eq_true c32
       clear c32;by_cases c33:(ji31) < (l0.length:Int)
       ·rw [if_pos c33] at H
        have c33b0:decide ((ji31) < (l0.length:Int)) = true:=decide_eq_true c33
        clear c33;by_cases c34:x13_2 ≤ ((rd_T60 l0 (ji31)).f0)
        ·rw [if_pos c34] at H
         have c34b0:decide (x13_2 ≤ ((rd_T60 l0 (ji31)).f0)) = true:=decide_eq_true c34
         clear c34;replace H:=Option.bind_eq_some_iff.mp H;obtain ⟨t434,A350,H⟩:=H;replace H:(if t434 = true then (if (wrap64 (x12_2 + 1)) = (wrap64 (a4 + 1)) then (some (wrap64 (x13_2 - a4),true)) else (impl_ShipWindow.l0 k2 l0 a1 a2 a4 (wrap64 (x12_2 + 1)) (wrap64 (x13_2 + 1)))) else (if 0 = (wrap64 (a4 + 1)) then (some (wrap64 (x13_2 - a4),true)) else (impl_ShipWindow.l0 k2 l0 a1 a2 a4 0 (wrap64 (x13_2 + 1))))) = some (r1,r2):=H
         have A35:=zM A350;clear A350;by_cases c36:t434 = true
         ·subst c36
          have H1:(if (wrap64 (x12_2 + 1)) = (wrap64 (a4 + 1)) then (some (wrap64 (x13_2 - a4),true)) else (impl_ShipWindow.l0 k2 l0 a1 a2 a4 (wrap64 (x12_2 + 1)) (wrap64 (x13_2 + 1)))) = some (r1,r2):=by rw [if_pos rfl] at H;exact H
          clear H;have H:=H1;clear H1;by_cases c37:(wrap64 (x12_2 + 1)) = (wrap64 (a4 + 1))
          ·rw [if_pos c37] at H
           have c37b0:((wrap64 (x12_2 + 1)) == (wrap64 (a4 + 1))) = true:=beq_iff_eq.mpr c37
           have c37b1:((wrap64 (x12_2 + 1)) != (wrap64 (a4 + 1))) = false:=bne_eq_false_iff_eq.mpr c37
           clear c37;simp only [Option.some.injEq,Prod.mk.injEq] at H
           obtain ⟨rfl,rfl⟩:=H;have p433:0 ≤ ((ji31):Int):=of_decide_eq_true (by first|(with_reducible assumption)|assumption)
           have q433:(ji31) < (l0.length:Int):=of_decide_eq_true (by first|(with_reducible assumption)|assumption)
           obtain ⟨ad433,e433,hx433_0,hx433_1⟩:=at_T60 HR0.out (ji31) p433 q433;cases e433
           replace hx433_0:=zS HB.out hx433_0;replace hx433_1:=zS HB.out hx433_1;replace p433:=eq_true p433;replace q433:=eq_true q433;go_wp2_with (first|((with_reducible refine gate_callee (f:=67) rfl ?_);refine goesL_ (some 53) rfl rfl Try.func67 (by kernel_rfl) rfl #[.slice (some ad433) l0.length c0,.int .i64 x13_2,.int .i64 (wrap64 (a1 - a2))] rfl (by (try simp only [List.map_toArray,List.map_cons,List.map_nil]);first|done|rfl|(simp only [List.length_drop,List.length_take];rfl)) ?_;(with_reducible refine (impl_isDeep.calls k2 _ _ l0 x13_2 (wrap64 (a1 - a2)) true _ ?side1 ?side2 A35.out).mono ?_);(case side1=>repeat (first|exact (zO HR0.out HB.out)|(with_reducible first|refine zG ?_ _|refine zH ?_ _|refine zI ?_)));(case side2=>exact HC0.out);rintro e w38 ⟨rfl,hb⟩;refine ⟨_,rfl,?_⟩;have n0_:=zM (zQ (by repeat (first|(with_reducible first|exact HB.out|apply zD|apply zE|apply zF)|exact HB.out)) hb);clear HB;have HB:=n0_;clear n0_;(try clear hb);(try clear hb2);(try clear hk);(try clear hi)))
           go_ret2
           exact ⟨by first|rfl|(simp [errW_none,errW_some] <;> rfl)|(simp only [← hji31];first|rfl|(simp [errW_none,errW_some] <;> rfl))|(simp [*,errW_none,errW_some] <;> rfl),by repeat (first|(with_reducible first|exact HB.out|apply zD|apply zE|apply zF)|exact HB.out)⟩
          ·rw [if_neg c37] at H
           have c37b0:((wrap64 (x12_2 + 1)) == (wrap64 (a4 + 1))) = false:=beq_eq_false_iff_ne.mpr c37
           have c37b1:((wrap64 (x12_2 + 1)) != (wrap64 (a4 + 1))) = true:=bne_iff_ne.mpr c37
           have H':=zM H;clear H;have p433:0 ≤ ((ji31):Int):=of_decide_eq_true (by first|(with_reducible assumption)|assumption)
           have q433:(ji31) < (l0.length:Int):=of_decide_eq_true (by first|(with_reducible assumption)|assumption)
           obtain ⟨ad433,e433,hx433_0,hx433_1⟩:=at_T60 HR0.out (ji31) p433 q433;cases e433
           replace hx433_0:=zS HB.out hx433_0;replace hx433_1:=zS HB.out hx433_1;replace p433:=eq_true p433;replace q433:=eq_true q433;go_wp2_with (first|((with_reducible refine gate_callee (f:=67) rfl ?_);refine goesL_ (some 53) rfl rfl Try.func67 (by kernel_rfl) rfl #[.slice (some ad433) l0.length c0,.int .i64 x13_2,.int .i64 (wrap64 (a1 - a2))] rfl (by (try simp only [List.map_toArray,List.map_cons,List.map_nil]);first|done|rfl|(simp only [List.length_drop,List.length_take];rfl)) ?_;(with_reducible refine (impl_isDeep.calls k2 _ _ l0 x13_2 (wrap64 (a1 - a2)) true _ ?side1 ?side2 A35.out).mono ?_);(case side1=>repeat (first|exact (zO HR0.out HB.out)|(with_reducible first|refine zG ?_ _|refine zH ?_ _|refine zI ?_)));(case side2=>exact HC0.out);rintro e w39 ⟨rfl,hb⟩;refine ⟨_,rfl,?_⟩;have n0_:=zM (zQ (by repeat (first|(with_reducible first|exact HB.out|apply zD|apply zE|apply zF)|exact HB.out)) hb);clear HB;have HB:=n0_;clear n0_;(try clear hb);(try clear hb2);(try clear hk);(try clear hi)))
           go_roundg k2
           case measure=>have:=HJ5.out;have:=HK2.out;omega
           case rel=>exact ⟨(wrap64 (x12_2 + 1)),(wrap64 (x13_2 + 1)),(by first|rfl|(simp;done)|(simp [*];done)),(by first|rfl|(simp;done)|(simp [*];done)),H',⟨by have:=HJ5.out;have:=HK2.out;omega⟩,⟨by repeat (first|(with_reducible first|exact HB.out|apply zD|apply zE|apply zF)|exact HB.out)⟩⟩
         ·replace c36:=Bool.eq_false_iff.mpr c36
          subst c36;have H1:(if 0 = (wrap64 (a4 + 1)) then (some (wrap64 (x13_2 - a4),true)) else (impl_ShipWindow.l0 k2 l0 a1 a2 a4 0 (wrap64 (x13_2 + 1)))) = some (r1,r2):=by rw [if_neg (show ¬ (false = true) by decide)] at H;exact H
          clear H;have H:=H1;clear H1;by_cases c40:0 = (wrap64 (a4 + 1))
          ·rw [if_pos c40] at H
           have c40b0:(0 == (wrap64 (a4 + 1))) = true:=beq_iff_eq.mpr c40
           have c40b1:(0 != (wrap64 (a4 + 1))) = false:=bne_eq_false_iff_eq.mpr c40
           clear c40;simp only [Option.some.injEq,Prod.mk.injEq] at H
           obtain ⟨rfl,rfl⟩:=H;have p433:0 ≤ ((ji31):Int):=of_decide_eq_true (by first|(with_reducible assumption)|assumption)
           have q433:(ji31) < (l0.length:Int):=of_decide_eq_true (by first|(with_reducible assumption)|assumption)
           obtain ⟨ad433,e433,hx433_0,hx433_1⟩:=at_T60 HR0.out (ji31) p433 q433;cases e433
           replace hx433_0:=zS HB.out hx433_0;replace hx433_1:=zS HB.out hx433_1;replace p433:=eq_true p433;replace q433:=eq_true q433;go_wp2_with (first|((with_reducible refine gate_callee (f:=67) rfl ?_);refine goesL_ (some 53) rfl rfl Try.func67 (by kernel_rfl) rfl #[.slice (some ad433) l0.length c0,.int .i64 x13_2,.int .i64 (wrap64 (a1 - a2))] rfl (by (try simp only [List.map_toArray,List.map_cons,List.map_nil]);first|done|rfl|(simp only [List.length_drop,List.length_take];rfl)) ?_;(with_reducible refine (impl_isDeep.calls k2 _ _ l0 x13_2 (wrap64 (a1 - a2)) false _ ?side1 ?side2 A35.out).mono ?_);(case side1=>repeat (first|exact (zO HR0.out HB.out)|(with_reducible first|refine zG ?_ _|refine zH ?_ _|refine zI ?_)));(case side2=>exact HC0.out);rintro e w41 ⟨rfl,hb⟩;refine ⟨_,rfl,?_⟩;have n0_:=zM (zQ (by repeat (first|(with_reducible first|exact HB.out|apply zD|apply zE|apply zF)|exact HB.out)) hb);clear HB;have HB:=n0_;clear n0_;(try clear hb);(try clear hb2);(try clear hk);(try clear hi)))
           go_ret2
           exact ⟨by first|rfl|(simp [errW_none,errW_some] <;> rfl)|(simp only [← hji31];first|rfl|(simp [errW_none,errW_some] <;> rfl))|(simp [*,errW_none,errW_some] <;> rfl),by repeat (first|(with_reducible first|exact HB.out|apply zD|apply zE|apply zF)|exact HB.out)⟩
          ·rw [if_neg c40] at H
           have c40b0:(0 == (wrap64 (a4 + 1))) = false:=beq_eq_false_iff_ne.mpr c40
           have c40b1:(0 != (wrap64 (a4 + 1))) = true:=bne_iff_ne.mpr c40
           have H':=zM H;clear H;have p433:0 ≤ ((ji31):Int):=of_decide_eq_true (by first|(with_reducible assumption)|assumption)
           have q433:(ji31) < (l0.length:Int):=of_decide_eq_true (by first|(with_reducible assumption)|assumption)
           obtain ⟨ad433,e433,hx433_0,hx433_1⟩:=at_T60 HR0.out (ji31) p433 q433;cases e433
           replace hx433_0:=zS HB.out hx433_0;replace hx433_1:=zS HB.out hx433_1;replace p433:=eq_true p433;replace q433:=eq_true q433;go_wp2_with (first|((with_reducible refine gate_callee (f:=67) rfl ?_);refine goesL_ (some 53) rfl rfl Try.func67 (by kernel_rfl) rfl #[.slice (some ad433) l0.length c0,.int .i64 x13_2,.int .i64 (wrap64 (a1 - a2))] rfl (by (try simp only [List.map_toArray,List.map_cons,List.map_nil]);first|done|rfl|(simp only [List.length_drop,List.length_take];rfl)) ?_;(with_reducible refine (impl_isDeep.calls k2 _ _ l0 x13_2 (wrap64 (a1 - a2)) false _ ?side1 ?side2 A35.out).mono ?_);(case side1=>repeat (first|exact (zO HR0.out HB.out)|(with_reducible first|refine zG ?_ _|refine zH ?_ _|refine zI ?_)));(case side2=>exact HC0.out);rintro e w42 ⟨rfl,hb⟩;refine ⟨_,rfl,?_⟩;have n0_:=zM (zQ (by repeat (first|(with_reducible first|exact HB.out|apply zD|apply zE|apply zF)|exact HB.out)) hb);clear HB;have HB:=n0_;clear n0_;(try clear hb);(try clear hb2);(try clear hk);(try clear hi)))
           go_roundg k2
           case measure=>have:=HJ5.out;have:=HK2.out;omega
           case rel=>exact ⟨(0),(wrap64 (x13_2 + 1)),(by first|rfl|(simp;done)|(simp [*];done)),(by first|rfl|(simp;done)|(simp [*];done)),H',⟨by have:=HJ5.out;have:=HK2.out;omega⟩,⟨by repeat (first|(with_reducible first|exact HB.out|apply zD|apply zE|apply zF)|exact HB.out)⟩⟩
        ·rw [if_neg c34] at H
         have c34b0:decide (x13_2 ≤ ((rd_T60 l0 (ji31)).f0)) = false:=decide_eq_false c34
         clear c34;simp only [Option.some.injEq,Prod.mk.injEq] at H
         obtain ⟨rfl,rfl⟩:=H;have p433:0 ≤ ((ji31):Int):=of_decide_eq_true (by first|(with_reducible assumption)|assumption)
         have q433:(ji31) < (l0.length:Int):=of_decide_eq_true (by first|(with_reducible assumption)|assumption)
         obtain ⟨ad433,e433,hx433_0,hx433_1⟩:=at_T60 HR0.out (ji31) p433 q433;cases e433
         replace hx433_0:=zS HB.out hx433_0;replace hx433_1:=zS HB.out hx433_1;replace p433:=eq_true p433;replace q433:=eq_true q433;go_wp2
         go_ret2
         exact ⟨by first|rfl|(simp [errW_none,errW_some] <;> rfl)|(simp only [← hji31];first|rfl|(simp [errW_none,errW_some] <;> rfl))|(simp [*,errW_none,errW_some] <;> rfl),by repeat (first|(with_reducible first|exact HB.out|apply zD|apply zE|apply zF)|exact HB.out)⟩
       ·rw [if_neg c33] at H
        exact absurd H (by simp)
      ·rw [if_neg c32] at H
       exact absurd H (by simp)



/-! ### spec_l1Most: function 64 -/
def spec_l1Most.f (a0:Int) (a1:Int):Option (Int):=if a0 > a1 then (some a0) else (some a1)
set_option maxHeartbeats 8000000 in
set_option maxRecDepth 100000 in
theorem spec_l1Most.calls (a0:Int) (a1:Int) (r:Int) (w:World) (h:spec_l1Most.f a0 a1 = some r) :
  Calls Try.prog 64 #[.int .i64 a0,.int .i64 a1] w fun e w'=>e = .returned (.int .i64 r) ∧ Drawn0 w w':=by
 have H:(if a0 > a1 then (some a0) else (some a1)) = some r:=h
 clear h;by_cases c3:a0 > a1
 ·rw [if_pos c3] at H
  have c3b0:decide (a1 < a0) = true:=decide_eq_true c3
  clear c3;obtain rfl:=Option.some.inj H;go_enter Try.func64,Try.ntmps64
  go_wp2
  go_ret
  exact ⟨by first|rfl|(simp;done)|(simp [*];done),by repeat (first|exact Drawn0.refl _|apply Drawn0.step)⟩
 ·rw [if_neg c3] at H
  have c3b0:decide (a1 < a0) = false:=decide_eq_false c3
  clear c3;obtain rfl:=Option.some.inj H;go_enter Try.func64,Try.ntmps64
  go_wp2
  go_ret
  exact ⟨by first|rfl|(simp;done)|(simp [*];done),by repeat (first|exact Drawn0.refl _|apply Drawn0.step)⟩

/-! ### spec_l15Common: function 74 -/
def spec_l15Common.l0:Nat → Int → Int → Option (Int)
 | 0,_,_=>none
 | k + 1,x0,x1=>if x1 = 0 then (some x0) else (spec_l15Common.l0 k x1 (Int.tmod x0 x1))
def spec_l15Common.f (k:Nat) (a0:Int) (a1:Int):Option (Int):=(spec_l1Most.f a0 (wrap64 (-a0))).bind fun t222=>((spec_l1Most.f a1 (wrap64 (-a1))).bind fun t223=>(spec_l15Common.l0 k t222 t223))
set_option maxHeartbeats 8000000 in
set_option maxRecDepth 100000 in
theorem spec_l15Common.calls (k:Nat) (a0:Int) (a1:Int) (r:Int) (w:World) (h:spec_l15Common.f k a0 a1 = some r) :
  Calls Try.prog 74 #[.int .i64 a0,.int .i64 a1] w fun e w'=>e = .returned (.int .i64 r) ∧ Drawn0 w w':=by
 have H:((spec_l1Most.f a0 (wrap64 (-a0))).bind fun t222=>((spec_l1Most.f a1 (wrap64 (-a1))).bind fun t223=>(spec_l15Common.l0 k t222 t223))) = some r:=h
 clear h;replace H:=Option.bind_eq_some_iff.mp H;obtain ⟨t222,A30,H⟩:=H;replace H:((spec_l1Most.f a1 (wrap64 (-a1))).bind fun t223=>(spec_l15Common.l0 k t222 t223)) = some r:=H
 have A3:=zM A30;clear A30;replace H:=Option.bind_eq_some_iff.mp H;obtain ⟨t223,A40,H⟩:=H;replace H:(spec_l15Common.l0 k t222 t223) = some r:=H
 have A4:=zM A40;clear A40;have H':=zM H;clear H;go_enter Try.func74,Try.ntmps74
 go_wp2_with (first|((with_reducible refine gate_callee (f:=64) rfl ?_);refine goesL_ (some 9) rfl rfl Try.func64 (by kernel_rfl) rfl #[.int .i64 a0,.int .i64 (wrap64 (-a0))] rfl (by (try simp only [List.map_toArray,List.map_cons,List.map_nil]);first|done|rfl|(simp only [List.length_drop,List.length_take];rfl)) ?_;(with_reducible refine (spec_l1Most.calls a0 (wrap64 (-a0)) t222 _ A3.out).mono ?_);rintro e w' ⟨rfl,⟨nd,rfl⟩⟩;refine ⟨_,rfl,?_⟩)|((with_reducible refine gate_callee (f:=64) rfl ?_);refine goesL_ (some 13) rfl rfl Try.func64 (by kernel_rfl) rfl #[.int .i64 a1,.int .i64 (wrap64 (-a1))] rfl (by (try simp only [List.map_toArray,List.map_cons,List.map_nil]);first|done|rfl|(simp only [List.length_drop,List.length_take];rfl)) ?_;(with_reducible refine (spec_l1Most.calls a1 (wrap64 (-a1)) t223 _ A4.out).mono ?_);rintro e w' ⟨rfl,⟨nd,rfl⟩⟩;refine ⟨_,rfl,?_⟩))
 go_loopg [0,1] k (fun kq v0 v1 w' => ∃ (x0_1:Int) (x1_1:Int),v0 = .int .i64 x0_1 ∧ v1 = .int .i64 x1_1 ∧ Aside0 (spec_l15Common.l0 kq x0_1 x1_1 = some r) ∧ Aside0 (kq ≤ k) ∧ Drawn0 w w')
 case atStart=>exact ⟨(t222),(t223),(by first|rfl|(simp;done)|(simp [*];done)),(by first|rfl|(simp;done)|(simp [*];done)),H',⟨Nat.le_refl _⟩,by repeat (first|exact Drawn0.refl _|apply Drawn0.step)⟩
 case round =>
  clear H';(try clear p2);obtain ⟨x0_1,x1_1,rfl,rfl,HA,HK1,⟨m1,rfl⟩⟩:=hrel;cases gk with
  | zero=>exact absurd HA.out (by simp [spec_l15Common.l0])
  | succ k1 =>
   have H:=HA.out;clear HA;simp only [spec_l15Common.l0] at H
   by_cases c5:x1_1 = 0
   ·rw [if_pos c5] at H
    have c5b0:(x1_1 == 0) = true:=beq_iff_eq.mpr c5
    have c5b1:(x1_1 != 0) = false:=bne_eq_false_iff_eq.mpr c5
    clear c5;obtain rfl:=Option.some.inj H;go_wp2
    go_ret
    exact ⟨by first|rfl|(simp;done)|(simp [*];done),by repeat (first|exact Drawn0.refl _|apply Drawn0.step)⟩
   ·rw [if_neg c5] at H
    have c5b0:(x1_1 == 0) = false:=beq_eq_false_iff_ne.mpr c5
    have c5b1:(x1_1 != 0) = true:=bne_iff_ne.mpr c5
    have H':=zM H;clear H;go_wp2
    go_roundg k1
    case measure=>have:=HK1.out;omega
    case rel=>exact ⟨(x1_1),(Int.tmod x0_1 x1_1),(by first|rfl|(simp;done)|(simp [*];done)),(by first|rfl|(simp;done)|(simp [*];done)),H',⟨by have:=HK1.out;omega⟩,by repeat (first|exact Drawn0.refl _|apply Drawn0.step)⟩

/-! ### spec_l15Reduce: function 57 -/
def spec_l15Reduce.f (k:Nat) (a0:Int) (a1:Int):Option (Int × Int):=(spec_l15Common.f k a0 a1).bind fun t224=>(if t224 = 0 then (none) else (some (wrap64 (Int.tdiv a0 t224),wrap64 (Int.tdiv a1 t224))))
set_option maxHeartbeats 8000000 in
set_option maxRecDepth 100000 in
theorem spec_l15Reduce.calls (k:Nat) (a0:Int) (a1:Int) (r1:Int) (r2:Int) (w:World) (h:spec_l15Reduce.f k a0 a1 = some (r1,r2)) :
  Calls Try.prog 57 #[.int .i64 a0,.int .i64 a1] w fun e w'=>e = .returned (.tuple #[.int .i64 r1,.int .i64 r2]) ∧ Drawn0 w w':=by
 have H:((spec_l15Common.f k a0 a1).bind fun t224=>(if t224 = 0 then (none) else (some (wrap64 (Int.tdiv a0 t224),wrap64 (Int.tdiv a1 t224))))) = some (r1,r2):=h
 clear h;replace H:=Option.bind_eq_some_iff.mp H;obtain ⟨t224,A30,H⟩:=H;replace H:(if t224 = 0 then (none) else (some (wrap64 (Int.tdiv a0 t224),wrap64 (Int.tdiv a1 t224)))) = some (r1,r2):=H
 have A3:=zM A30;clear A30;by_cases c4:t224 = 0
 ·rw [if_pos c4] at H
  exact absurd H (by simp)
 ·rw [if_neg c4] at H
  have c4b0:(t224 == 0) = false:=beq_eq_false_iff_ne.mpr c4
  have c4b1:(t224 != 0) = true:=bne_iff_ne.mpr c4
  simp only [Option.some.injEq,Prod.mk.injEq] at H
  obtain ⟨rfl,rfl⟩:=H;go_enter Try.func57,Try.ntmps57
  go_wp2_with (first|(go_at_call 74;(with_reducible refine (spec_l15Common.calls k a0 a1 t224 _ A3.out).mono ?_);rintro e w' ⟨rfl,⟨nd,rfl⟩⟩;(try first|exact ⟨rfl,_,World.drewN_drewN _ _ _⟩|exact ⟨rfl,_,zW _ _ _ _⟩)))
  repeat (go_quiet (first|(go_at_call 74;(with_reducible refine (spec_l15Common.calls k a0 a1 t224 _ A3.out).mono ?_);rintro e w' ⟨rfl,⟨nd,rfl⟩⟩;(try first|exact ⟨rfl,_,World.drewN_drewN _ _ _⟩|exact ⟨rfl,_,zW _ _ _ _⟩)));try go_wp2_with (first|(go_at_call 74;(with_reducible refine (spec_l15Common.calls k a0 a1 t224 _ A3.out).mono ?_);rintro e w' ⟨rfl,⟨nd,rfl⟩⟩;(try first|exact ⟨rfl,_,World.drewN_drewN _ _ _⟩|exact ⟨rfl,_,zW _ _ _ _⟩))))
  go_ret2
  exact ⟨by first|rfl|(simp;done)|(simp [*];done),by repeat (first|exact Drawn0.refl _|apply Drawn0.step)⟩



/-! ### impl_fraction: function 58 -/
def impl_fraction.l0:Nat → Int → Int → Int → Int → Option (Int × Int)
 | 0,_,_,_,_=>none
 | k + 1,x0,x1,x6,x7=>if x7 = 0 then (if ((decide (x6 < 0)) != (decide (x1 < 0))) = true then (if (wrap64 (-x6)) = 0 then (none) else (some (wrap64 (Int.tdiv x0 (wrap64 (-x6))),wrap64 (Int.tdiv x1 (wrap64 (-x6)))))) else (if x6 = 0 then (none) else (some (wrap64 (Int.tdiv x0 x6),wrap64 (Int.tdiv x1 x6))))) else (impl_fraction.l0 k x0 x1 x7 (Int.tmod x6 x7))
def impl_fraction.f (k:Nat) (a0:Int) (a1:Int):Option (Int × Int):=impl_fraction.l0 k a0 a1 a0 a1
set_option maxHeartbeats 8000000 in
set_option maxRecDepth 100000 in
theorem impl_fraction.calls (k:Nat) (a0:Int) (a1:Int) (r1:Int) (r2:Int) (w:World) (h:impl_fraction.f k a0 a1 = some (r1,r2)) :
  Calls Try.prog 58 #[.int .i64 a0,.int .i64 a1] w fun e w'=>e = .returned (.tuple #[.int .i64 r1,.int .i64 r2]) ∧ Drawn0 w w':=by
 have H:(impl_fraction.l0 k a0 a1 a0 a1) = some (r1,r2):=h
 clear h;have H':=zM H;clear H;go_enter Try.func58,Try.ntmps58
 go_wp2
 repeat (go_quiet (fail);try go_wp2)
 go_loopg [6,7] k (fun kq v6 v7 w' => ∃ (x6_1:Int) (x7_1:Int),v6 = .int .i64 x6_1 ∧ v7 = .int .i64 x7_1 ∧ Aside0 (impl_fraction.l0 kq a0 a1 x6_1 x7_1 = some (r1,r2)) ∧ Aside0 (kq ≤ k) ∧ Drawn0 w w')
 case atStart=>exact ⟨(a0),(a1),(by first|rfl|(simp;done)|(simp [*];done)),(by first|rfl|(simp;done)|(simp [*];done)),H',⟨Nat.le_refl _⟩,by repeat (first|exact Drawn0.refl _|apply Drawn0.step)⟩
 case round =>
  clear H';(try clear p2);obtain ⟨x6_1,x7_1,rfl,rfl,HA,HK1,⟨m1,rfl⟩⟩:=hrel;cases gk with
  | zero=>exact absurd HA.out (by simp [impl_fraction.l0])
  | succ k1 =>
   have H:=HA.out;clear HA;simp only [impl_fraction.l0] at H
   by_cases c3:x7_1 = 0
   ·rw [if_pos c3] at H
    have c3b0:(x7_1 == 0) = true:=beq_iff_eq.mpr c3
    have c3b1:(x7_1 != 0) = false:=bne_eq_false_iff_eq.mpr c3
    clear c3;by_cases c4:((decide (x6_1 < 0)) != (decide (a1 < 0))) = true
    ·rw [if_pos c4] at H
     have c4b0:((decide (x6_1 < 0)) != (decide (a1 < 0))) = true:=c4
     (try (have c4b1:decide ((decide (x6_1 < 0)) = (decide (a1 < 0))) = false:=by simpa using c4))
     (try (have c4b2:((decide (x6_1 < 0)) == (decide (a1 < 0))) = false:=by simpa using c4))
     (try (have c4b3:¬ ((decide (x6_1 < 0)) = (decide (a1 < 0))):=by simpa using c4))
     clear c4;by_cases c5:(wrap64 (-x6_1)) = 0
     ·rw [if_pos c5] at H
      exact absurd H (by simp)
     ·rw [if_neg c5] at H
      have c5b0:((wrap64 (-x6_1)) == 0) = false:=beq_eq_false_iff_ne.mpr c5
      have c5b1:((wrap64 (-x6_1)) != 0) = true:=bne_iff_ne.mpr c5
      simp only [Option.some.injEq,Prod.mk.injEq] at H
      obtain ⟨rfl,rfl⟩:=H;go_wp2
      repeat (go_quiet (fail);try go_wp2)
      go_ret2
      exact ⟨by first|rfl|(simp;done)|(simp [*];done),by repeat (first|exact Drawn0.refl _|apply Drawn0.step)⟩
    ·rw [if_neg c4] at H
     have c4b0:((decide (x6_1 < 0)) != (decide (a1 < 0))) = false:=by simpa using c4
     (try (have c4b1:decide ((decide (x6_1 < 0)) = (decide (a1 < 0))) = true:=by simpa using c4))
     (try (have c4b2:((decide (x6_1 < 0)) == (decide (a1 < 0))) = true:=by simpa using c4))
     clear c4;by_cases c6:x6_1 = 0
     ·rw [if_pos c6] at H
      exact absurd H (by simp)
     ·rw [if_neg c6] at H
      have c6b0:(x6_1 == 0) = false:=beq_eq_false_iff_ne.mpr c6
      have c6b1:(x6_1 != 0) = true:=bne_iff_ne.mpr c6
      simp only [Option.some.injEq,Prod.mk.injEq] at H
      obtain ⟨rfl,rfl⟩:=H;go_wp2
      repeat (go_quiet (fail);try go_wp2)
      go_ret2
      exact ⟨by first|rfl|(simp;done)|(simp [*];done),by repeat (first|exact Drawn0.refl _|apply Drawn0.step)⟩
   ·rw [if_neg c3] at H
    have c3b0:(x7_1 == 0) = false:=beq_eq_false_iff_ne.mpr c3
    have c3b1:(x7_1 != 0) = true:=bne_iff_ne.mpr c3
    have H':=zM H;clear H;go_wp2
    repeat (go_quiet (fail);try go_wp2)
    go_roundg k1
    case measure=>have:=HK1.out;omega
    case rel=>exact ⟨(x7_1),(Int.tmod x6_1 x7_1),(by first|rfl|(simp;done)|(simp [*];done)),(by first|rfl|(simp;done)|(simp [*];done)),H',⟨by have:=HK1.out;omega⟩,by repeat (first|exact Drawn0.refl _|apply Drawn0.step)⟩



/-! ### spec_HeightAt: function 36 -/
def spec_HeightAt.f (k:Nat) (l0:List (S60)) (a1:Int):Option (Int × Int × Bool):=(spec_l15Holds.f k l0 a1).bind fun t450=>(if t450 = true then ((spec_l15Height.f k l0 a1).bind fun bt451=>((spec_l15Reduce.f k bt451.1 bt451.2).bind fun bt453=>(some (bt453.1,bt453.2,true)))) else (some (0,0,false)))
set_option maxHeartbeats 8000000 in
set_option maxRecDepth 100000 in
theorem spec_HeightAt.calls (k:Nat) (A0:Option Addr) (c0:Nat) (l0:List (S60)) (a1:Int) (r1:Int) (r2:Int) (r3:Bool) (w:World) (hr0:Kd.C k60 w A0 l0.length l0) (hc0:l0.length ≤ c0) (h:spec_HeightAt.f k l0 a1 = some (r1,r2,r3)) :
  Calls Try.prog 36 #[.slice A0 l0.length c0,.int .i64 a1] w fun e w'=>e = .returned (.tuple #[.int .i64 r1,.int .i64 r2,.bool r3]) ∧ Below w.heap.size w w':=by
 have HR0:=zM hr0;have HC0:=zM hc0;clear hr0 hc0;have HB:=zM (Below.refl w.heap.size w);have H:((spec_l15Holds.f k l0 a1).bind fun t450=>(if t450 = true then ((spec_l15Height.f k l0 a1).bind fun bt451=>((spec_l15Reduce.f k bt451.1 bt451.2).bind fun bt453=>(some (bt453.1,bt453.2,true)))) else (some (0,0,false)))) = some (r1,r2,r3):=h
 clear h;replace H:=Option.bind_eq_some_iff.mp H;obtain ⟨t450,A30,H⟩:=H;replace H:(if t450 = true then ((spec_l15Height.f k l0 a1).bind fun bt451=>((spec_l15Reduce.f k bt451.1 bt451.2).bind fun bt453=>(some (bt453.1,bt453.2,true)))) else (some (0,0,false))) = some (r1,r2,r3):=H
 have A3:=zM A30;clear A30;by_cases c4:t450 = true
 ·subst c4
  have H1:((spec_l15Height.f k l0 a1).bind fun bt451=>((spec_l15Reduce.f k bt451.1 bt451.2).bind fun bt453=>(some (bt453.1,bt453.2,true)))) = some (r1,r2,r3):=by rw [if_pos rfl] at H;exact H
  clear H;have H:=H1;clear H1;replace H:=Option.bind_eq_some_iff.mp H;obtain ⟨⟨t451,t452⟩,A50,H⟩:=H;replace H:((spec_l15Reduce.f k t451 t452).bind fun bt453=>(some (bt453.1,bt453.2,true))) = some (r1,r2,r3):=H
  have A5:=zM A50;clear A50;replace H:=Option.bind_eq_some_iff.mp H;obtain ⟨⟨t453,t454⟩,A60,H⟩:=H;replace H:(some (t453,t454,true)) = some (r1,r2,r3):=H
  have A6:=zM A60;clear A60;simp only [Option.some.injEq,Prod.mk.injEq] at H
  obtain ⟨rfl,rfl,rfl⟩:=H;go_enter Try.func36,Try.ntmps36
  go_wp2_with (first|((with_reducible refine gate_callee (f:=59) rfl ?_);refine goesL_ (some 11) rfl rfl Try.func59 (by kernel_rfl) rfl #[.slice A0 l0.length c0,.int .i64 a1] rfl (by (try simp only [List.map_toArray,List.map_cons,List.map_nil]);first|done|rfl|(simp only [List.length_drop,List.length_take];rfl)) ?_;(with_reducible refine (spec_l15Holds.calls k _ _ l0 a1 true _ ?side1 ?side2 A3.out).mono ?_);(case side1=>repeat (first|exact HR0.out|(with_reducible first|refine zG ?_ _|refine zH ?_ _|refine zI ?_)));(case side2=>exact HC0.out);rintro e w' ⟨rfl,⟨nd,rfl⟩⟩;refine ⟨_,rfl,?_⟩)|((with_reducible refine gate_callee (f:=60) rfl ?_);refine goesL_ (some 16) rfl rfl Try.func60 (by kernel_rfl) rfl #[.slice A0 l0.length c0,.int .i64 a1] rfl (by (try simp only [List.map_toArray,List.map_cons,List.map_nil]);first|done|rfl|(simp only [List.length_drop,List.length_take];rfl)) ?_;(with_reducible refine (spec_l15Height.calls k _ _ l0 a1 t451 t452 _ ?side1 ?side2 A5.out).mono ?_);(case side1=>repeat (first|exact HR0.out|(with_reducible first|refine zG ?_ _|refine zH ?_ _|refine zI ?_)));(case side2=>exact HC0.out);rintro e w7 ⟨rfl,hb⟩;refine ⟨_,rfl,?_⟩;have n0_:=zM (zQ (by repeat (first|(with_reducible first|exact HB.out|apply zD|apply zE|apply zF)|exact HB.out)) hb);clear HB;have HB:=n0_;clear n0_;(try clear hb);(try clear hb2);(try clear hk);(try clear hi))|((with_reducible refine gate_callee (f:=57) rfl ?_);refine goesL_ (some 22) rfl rfl Try.func57 (by kernel_rfl) rfl #[.int .i64 t451,.int .i64 t452] rfl (by (try simp only [List.map_toArray,List.map_cons,List.map_nil]);first|done|rfl|(simp only [List.length_drop,List.length_take];rfl)) ?_;(with_reducible refine (spec_l15Reduce.calls k t451 t452 t453 t454 _ A6.out).mono ?_);rintro e w' ⟨rfl,⟨nd,rfl⟩⟩;refine ⟨_,rfl,?_⟩))
  go_ret3
  exact ⟨by first|rfl|(simp [errW_none,errW_some] <;> rfl)|(simp [*,errW_none,errW_some] <;> rfl),by repeat (first|(with_reducible first|exact HB.out|apply zD|apply zE|apply zF)|exact HB.out)⟩
 ·replace c4:=Bool.eq_false_iff.mpr c4
  subst c4;have H1:(some (0,0,false)) = some (r1,r2,r3):=by rw [if_neg (show ¬ (false = true) by decide)] at H;exact H
  clear H;have H:=H1;clear H1;simp only [Option.some.injEq,Prod.mk.injEq] at H
  obtain ⟨rfl,rfl,rfl⟩:=H;go_enter Try.func36,Try.ntmps36
  go_wp2_with (first|((with_reducible refine gate_callee (f:=59) rfl ?_);refine goesL_ (some 11) rfl rfl Try.func59 (by kernel_rfl) rfl #[.slice A0 l0.length c0,.int .i64 a1] rfl (by (try simp only [List.map_toArray,List.map_cons,List.map_nil]);first|done|rfl|(simp only [List.length_drop,List.length_take];rfl)) ?_;(with_reducible refine (spec_l15Holds.calls k _ _ l0 a1 false _ ?side1 ?side2 A3.out).mono ?_);(case side1=>repeat (first|exact HR0.out|(with_reducible first|refine zG ?_ _|refine zH ?_ _|refine zI ?_)));(case side2=>exact HC0.out);rintro e w' ⟨rfl,⟨nd,rfl⟩⟩;refine ⟨_,rfl,?_⟩))
  go_ret3
  exact ⟨by first|rfl|(simp [errW_none,errW_some] <;> rfl)|(simp [*,errW_none,errW_some] <;> rfl),by repeat (first|(with_reducible first|exact HB.out|apply zD|apply zE|apply zF)|exact HB.out)⟩

/-! ### impl_HeightAt: function 37 -/
def impl_HeightAt.f (k:Nat) (l0:List (S60)) (a1:Int):Option (Int × Int × Bool):=(impl_holds.f k l0 (([a1]:List Int))).bind fun t458=>(if t458 = true then ((impl_heightAt.f k l0 a1).bind fun bt459=>((impl_fraction.f k bt459.1 bt459.2).bind fun bt461=>(some (bt461.1,bt461.2,true)))) else (some (0,0,false)))
set_option maxHeartbeats 8000000 in
set_option maxRecDepth 100000 in
theorem impl_HeightAt.calls (k:Nat) (A0:Option Addr) (c0:Nat) (l0:List (S60)) (a1:Int) (r1:Int) (r2:Int) (r3:Bool) (w:World) (hr0:Kd.C k60 w A0 l0.length l0) (hc0:l0.length ≤ c0) (h:impl_HeightAt.f k l0 a1 = some (r1,r2,r3)) :
  Calls Try.prog 37 #[.slice A0 l0.length c0,.int .i64 a1] w fun e w'=>e = .returned (.tuple #[.int .i64 r1,.int .i64 r2,.bool r3]) ∧ Below w.heap.size w w':=by
 have HR0:=zM hr0;have HC0:=zM hc0;clear hr0 hc0;have HB:=zM (Below.refl w.heap.size w);have H:((impl_holds.f k l0 (([a1]:List Int))).bind fun t458=>(if t458 = true then ((impl_heightAt.f k l0 a1).bind fun bt459=>((impl_fraction.f k bt459.1 bt459.2).bind fun bt461=>(some (bt461.1,bt461.2,true)))) else (some (0,0,false)))) = some (r1,r2,r3):=h
 clear h;obtain ⟨y455,hy455⟩ : ∃ y_:List Int,y_ = (([a1]:List Int)):=⟨_,rfl⟩
 replace H:((impl_holds.f k l0 y455).bind fun t458=>(if t458 = true then ((impl_heightAt.f k l0 a1).bind fun bt459=>((impl_fraction.f k bt459.1 bt459.2).bind fun bt461=>(some (bt461.1,bt461.2,true)))) else (some (0,0,false)))) = some (r1,r2,r3):=by first|(rw [hy455];with_reducible exact H)|(have H2_:=(Option.bind_some _ _).symm.trans H;rw [hy455];with_reducible exact H2_)|(have H2_:=(Option.bind_some _ _).symm.trans H;with_reducible exact H2_)|with_reducible exact H|(rw [hy455];exact H)|exact H
 have Ny455:=zM hy455;clear hy455;replace H:=Option.bind_eq_some_iff.mp H;obtain ⟨t458,A30,H⟩:=H;replace H:(if t458 = true then ((impl_heightAt.f k l0 a1).bind fun bt459=>((impl_fraction.f k bt459.1 bt459.2).bind fun bt461=>(some (bt461.1,bt461.2,true)))) else (some (0,0,false))) = some (r1,r2,r3):=H
 have A3:=zM A30;clear A30;by_cases c4:t458 = true
 ·subst c4
  have H1:((impl_heightAt.f k l0 a1).bind fun bt459=>((impl_fraction.f k bt459.1 bt459.2).bind fun bt461=>(some (bt461.1,bt461.2,true)))) = some (r1,r2,r3):=by rw [if_pos rfl] at H;exact H
  clear H;have H:=H1;clear H1;replace H:=Option.bind_eq_some_iff.mp H;obtain ⟨⟨t459,t460⟩,A50,H⟩:=H;replace H:((impl_fraction.f k t459 t460).bind fun bt461=>(some (bt461.1,bt461.2,true))) = some (r1,r2,r3):=H
  have A5:=zM A50;clear A50;replace H:=Option.bind_eq_some_iff.mp H;obtain ⟨⟨t461,t462⟩,A60,H⟩:=H;replace H:(some (t461,t462,true)) = some (r1,r2,r3):=H
  have A6:=zM A60;clear A60;simp only [Option.some.injEq,Prod.mk.injEq] at H
  obtain ⟨rfl,rfl,rfl⟩:=H;go_enter Try.func37,Try.ntmps37
  go_wp2_with (first|((with_reducible refine gate_dst (N:=11) rfl ?_);refine Kd.R_lit (Kd.int .i64) _ 3 ?hg (N:=11) ?hd (xs:=([a1]:List Int)) (inner:=[.int .i64 a1]) (ok:=fun _=>True) (okp:=fun _=>True) ?hr ?hp (fun _ hk=>hk) trivial (Below.refl _ _) (Nat.le_refl _) (by simp) ?_;(case hd=>rfl);(case hg=>rfl);(case hr=>first|(go_simp;done)|(go_simp;rfl));(case hp=>exact (Reps.one (show Kd.M (Kd.int .i64) _ _ _ a1 [.int .i64 a1] from rfl) (Reps.none _ _)));intro v456 w7 ho8 hb hg_ hnew_;clear hg_ hnew_;(first|rw [← Ny455.out] at ho8|(simp only [Int.reduceToNat] at ho8;rw [← Ny455.out] at ho8));have n0_:=zM (Kd.R_lower ho8 (zR (by repeat (first|(with_reducible first|exact HB.out|apply zD|apply zE|apply zF)|exact HB.out))));have n1_:=zM (zQ (by repeat (first|(with_reducible first|exact HB.out|apply zD|apply zE|apply zF)|exact HB.out)) hb);clear HB;have HO457:=n0_;have HB:=n1_;clear n0_ n1_;clear hb ho8;obtain ⟨Ao9,co9,eo9⟩:=Kd.R_slice HO457.out;subst eo9)|((with_reducible refine gate_callee (f:=62) rfl ?_);refine goesL_ (some 12) rfl rfl Try.func62 (by kernel_rfl) rfl #[.slice A0 l0.length c0,.slice Ao9 y455.length co9] rfl (by (try simp only [List.map_toArray,List.map_cons,List.map_nil]);first|done|rfl|(simp only [List.length_drop,List.length_take];rfl)) ?_;(with_reducible refine (impl_holds.calls k _ _ l0 _ _ y455 true _ ?side1 ?side2 ?side3 ?side4 A3.out).mono ?_);(case side1=>repeat (first|exact (zO HR0.out HB.out)|(with_reducible first|refine zG ?_ _|refine zH ?_ _|refine zI ?_)));(case side2=>exact HC0.out);(case side3=>repeat (first|exact (zN HO457.out).2.2|(with_reducible first|refine zG ?_ _|refine zH ?_ _|refine zI ?_)));(case side4=>exact (zN HO457.out).2.1);rintro e w10 ⟨rfl,hb⟩;refine ⟨_,rfl,?_⟩;have n0_:=zM (zP (by (with_reducible repeat (first|apply zA|apply zB|apply zC));exact HO457.out) hb);have n1_:=zM (zQ (by repeat (first|(with_reducible first|exact HB.out|apply zD|apply zE|apply zF)|exact HB.out)) hb);clear HO457;clear HB;have HO457:=n0_;have HB:=n1_;clear n0_ n1_;(try clear hb);(try clear hb2);(try clear hk);(try clear hi))|((with_reducible refine gate_callee (f:=63) rfl ?_);refine goesL_ (some 17) rfl rfl Try.func63 (by kernel_rfl) rfl #[.slice A0 l0.length c0,.int .i64 a1] rfl (by (try simp only [List.map_toArray,List.map_cons,List.map_nil]);first|done|rfl|(simp only [List.length_drop,List.length_take];rfl)) ?_;(with_reducible refine (impl_heightAt.calls k _ _ l0 a1 t459 t460 _ ?side1 ?side2 A5.out).mono ?_);(case side1=>repeat (first|exact (zO HR0.out HB.out)|(with_reducible first|refine zG ?_ _|refine zH ?_ _|refine zI ?_)));(case side2=>exact HC0.out);rintro e w11 ⟨rfl,hb⟩;refine ⟨_,rfl,?_⟩;have n0_:=zM (zP (by (with_reducible repeat (first|apply zA|apply zB|apply zC));exact HO457.out) hb);have n1_:=zM (zQ (by repeat (first|(with_reducible first|exact HB.out|apply zD|apply zE|apply zF)|exact HB.out)) hb);clear HO457;clear HB;have HO457:=n0_;have HB:=n1_;clear n0_ n1_;(try clear hb);(try clear hb2);(try clear hk);(try clear hi))|((with_reducible refine gate_callee (f:=58) rfl ?_);refine goesL_ (some 20) rfl rfl Try.func58 (by kernel_rfl) rfl #[.int .i64 t459,.int .i64 t460] rfl (by (try simp only [List.map_toArray,List.map_cons,List.map_nil]);first|done|rfl|(simp only [List.length_drop,List.length_take];rfl)) ?_;(with_reducible refine (impl_fraction.calls k t459 t460 t461 t462 _ A6.out).mono ?_);rintro e w' ⟨rfl,⟨nd,rfl⟩⟩;refine ⟨_,rfl,?_⟩))
  go_ret3
  exact ⟨by first|rfl|(simp [errW_none,errW_some] <;> rfl)|(simp [*,errW_none,errW_some] <;> rfl),by repeat (first|(with_reducible first|exact HB.out|apply zD|apply zE|apply zF)|exact HB.out)⟩
 ·replace c4:=Bool.eq_false_iff.mpr c4
  subst c4;have H1:(some (0,0,false)) = some (r1,r2,r3):=by rw [if_neg (show ¬ (false = true) by decide)] at H;exact H
  clear H;have H:=H1;clear H1;simp only [Option.some.injEq,Prod.mk.injEq] at H
  obtain ⟨rfl,rfl,rfl⟩:=H;go_enter Try.func37,Try.ntmps37
  go_wp2_with (first|((with_reducible refine gate_dst (N:=11) rfl ?_);refine Kd.R_lit (Kd.int .i64) _ 3 ?hg (N:=11) ?hd (xs:=([a1]:List Int)) (inner:=[.int .i64 a1]) (ok:=fun _=>True) (okp:=fun _=>True) ?hr ?hp (fun _ hk=>hk) trivial (Below.refl _ _) (Nat.le_refl _) (by simp) ?_;(case hd=>rfl);(case hg=>rfl);(case hr=>first|(go_simp;done)|(go_simp;rfl));(case hp=>exact (Reps.one (show Kd.M (Kd.int .i64) _ _ _ a1 [.int .i64 a1] from rfl) (Reps.none _ _)));intro v456 w12 ho13 hb hg_ hnew_;clear hg_ hnew_;(first|rw [← Ny455.out] at ho13|(simp only [Int.reduceToNat] at ho13;rw [← Ny455.out] at ho13));have n0_:=zM (Kd.R_lower ho13 (zR (by repeat (first|(with_reducible first|exact HB.out|apply zD|apply zE|apply zF)|exact HB.out))));have n1_:=zM (zQ (by repeat (first|(with_reducible first|exact HB.out|apply zD|apply zE|apply zF)|exact HB.out)) hb);clear HB;have HO457:=n0_;have HB:=n1_;clear n0_ n1_;clear hb ho13;obtain ⟨Ao14,co14,eo14⟩:=Kd.R_slice HO457.out;subst eo14)|((with_reducible refine gate_callee (f:=62) rfl ?_);refine goesL_ (some 12) rfl rfl Try.func62 (by kernel_rfl) rfl #[.slice A0 l0.length c0,.slice Ao14 y455.length co14] rfl (by (try simp only [List.map_toArray,List.map_cons,List.map_nil]);first|done|rfl|(simp only [List.length_drop,List.length_take];rfl)) ?_;(with_reducible refine (impl_holds.calls k _ _ l0 _ _ y455 false _ ?side1 ?side2 ?side3 ?side4 A3.out).mono ?_);(case side1=>repeat (first|exact (zO HR0.out HB.out)|(with_reducible first|refine zG ?_ _|refine zH ?_ _|refine zI ?_)));(case side2=>exact HC0.out);(case side3=>repeat (first|exact (zN HO457.out).2.2|(with_reducible first|refine zG ?_ _|refine zH ?_ _|refine zI ?_)));(case side4=>exact (zN HO457.out).2.1);rintro e w15 ⟨rfl,hb⟩;refine ⟨_,rfl,?_⟩;have n0_:=zM (zP (by (with_reducible repeat (first|apply zA|apply zB|apply zC));exact HO457.out) hb);have n1_:=zM (zQ (by repeat (first|(with_reducible first|exact HB.out|apply zD|apply zE|apply zF)|exact HB.out)) hb);clear HO457;clear HB;have HO457:=n0_;have HB:=n1_;clear n0_ n1_;(try clear hb);(try clear hb2);(try clear hk);(try clear hi)))
  go_ret3
  exact ⟨by first|rfl|(simp [errW_none,errW_some] <;> rfl)|(simp [*,errW_none,errW_some] <;> rfl),by repeat (first|(with_reducible first|exact HB.out|apply zD|apply zE|apply zF)|exact HB.out)⟩



/-! ### spec_DeepWindows: function 38 -/
mutual
def spec_DeepWindows.j0:Nat → List (S60) → Int → List (S66) → Bool → Option ((List (S66)) × Bool)
 | 0,_,_,_,_=>none
 | k + 1,x0,x1,x6,x17=>if x17 = true then (some (x6,false)) else (if 0 < (x0.length:Int) then (spec_DeepWindows.l0 k x0 x1 x6 ((rd_T60 x0 0).f0)) else (none))
def spec_DeepWindows.l0:Nat → List (S60) → Int → List (S66) → Int → Option ((List (S66)) × Bool)
 | 0,_,_,_,_=>none
 | k + 1,x0,x1,x6,x7=>if 0 ≤ (wrap64 ((x0.length:Int) - 1)) then (if (wrap64 ((x0.length:Int) - 1)) < (x0.length:Int) then (if x7 ≤ ((rd_T60 x0 (wrap64 ((x0.length:Int) - 1))).f0) then ((spec_l15Deep.f k x0 x7 x1).bind fun t487=>(if t487 = true then (if (x6.length:Int) > 0 then (if 0 ≤ (wrap64 ((x6.length:Int) - 1)) then (if (wrap64 ((x6.length:Int) - 1)) < (x6.length:Int) then (if ((rd_T66 x6 (wrap64 ((x6.length:Int) - 1))).f1) = (wrap64 (x7 - 1)) then (spec_DeepWindows.l0 k x0 x1 (x6.set ((wrap64 ((x6.length:Int) - 1)):Int).toNat (⟨(rd_T66 x6 (wrap64 ((x6.length:Int) - 1))).f0,x7⟩ : S66)) (wrap64 (x7 + 1))) else (if x6.length < 8796093022208 then (spec_DeepWindows.l0 k x0 x1 (x6 ++ [(⟨x7,x7⟩ : S66)]) (wrap64 (x7 + 1))) else (none))) else (none)) else (none)) else (if x6.length < 8796093022208 then (spec_DeepWindows.l0 k x0 x1 (x6 ++ [(⟨x7,x7⟩ : S66)]) (wrap64 (x7 + 1))) else (none))) else (spec_DeepWindows.l0 k x0 x1 x6 (wrap64 (x7 + 1))))) else (some (x6,true))) else (none)) else (none)
end
def spec_DeepWindows.f (k:Nat) (l0:List (S60)) (a1:Int):Option ((List (S66)) × Bool):=(some (([]:List (S66)):List (S66))).bind fun y480=>((spec_l15Good.f k l0).bind fun t483=>(if t483 = true then ((spec_l1In.f a1 0 2000).bind fun t484=>(spec_DeepWindows.j0 k l0 a1 y480 (!t484))) else (spec_DeepWindows.j0 k l0 a1 y480 true)))
set_option maxHeartbeats 8000000 in
set_option maxRecDepth 100000 in
theorem spec_DeepWindows.calls (k:Nat) (A0:Option Addr) (c0:Nat) (l0:List (S60)) (a1:Int) (r1:List (S66)) (r2:Bool) (w:World) (hr0:Kd.C k60 w A0 l0.length l0) (hc0:l0.length ≤ c0) (h:spec_DeepWindows.f k l0 a1 = some (r1,r2)) :
  Calls Try.prog 38 #[.slice A0 l0.length c0,.int .i64 a1] w fun e w' => ∃ v0_:Value,e = .returned (.tuple #[v0_,.bool r2]) ∧ Kd.R k66 66 w' w.heap.size (fun _=>True) v0_ r1 ∧ Below w.heap.size w w':=by
 have hu66:=Try.underlying66;have HR0:=zM hr0;have HC0:=zM hc0;clear hr0 hc0;have HB:=zM (Below.refl w.heap.size w);have H:((some (([]:List (S66)):List (S66))).bind fun y480=>((spec_l15Good.f k l0).bind fun t483=>(if t483 = true then ((spec_l1In.f a1 0 2000).bind fun t484=>(spec_DeepWindows.j0 k l0 a1 y480 (!t484))) else (spec_DeepWindows.j0 k l0 a1 y480 true)))) = some (r1,r2):=h
 clear h;obtain ⟨y480,hy480⟩ : ∃ y_:List (S66),y_ = (([]:List (S66))):=⟨_,rfl⟩
 replace H:((spec_l15Good.f k l0).bind fun t483=>(if t483 = true then ((spec_l1In.f a1 0 2000).bind fun t484=>(spec_DeepWindows.j0 k l0 a1 y480 (!t484))) else (spec_DeepWindows.j0 k l0 a1 y480 true))) = some (r1,r2):=by first|(rw [hy480];with_reducible exact H)|(have H2_:=(Option.bind_some _ _).symm.trans H;rw [hy480];with_reducible exact H2_)|(have H2_:=(Option.bind_some _ _).symm.trans H;with_reducible exact H2_)|with_reducible exact H|(rw [hy480];exact H)|exact H
 have Ny480:=zM hy480;clear hy480;have HC3:=zM H;clear H;go_enter Try.func38,Try.ntmps38
 go_upto_region 2 with (first|((with_reducible refine gate_dst (N:=9) rfl ?_);refine Kd.R_lit k66 _ 66 ?hg (N:=9) ?hd (xs:=([]:List (S66))) (inner:=[]) (ok:=fun _=>True) (okp:=fun _=>True) ?hr ?hp (fun _ hk=>hk) trivial (Below.refl _ _) (Nat.le_refl _) (by simp) ?_;(case hd=>rfl);(case hg=>rfl);(case hr=>first|(go_simp;done)|(go_simp;rfl));(case hp=>exact (Reps.none _ _));intro v481 w4 ho5 hb hg_ hnew_;clear hg_ hnew_;(first|rw [← Ny480.out] at ho5|(simp only [Int.reduceToNat] at ho5;rw [← Ny480.out] at ho5));have n0_:=zM (Kd.R_lower ho5 (zR (by repeat (first|(with_reducible first|exact HB.out|apply zD|apply zE|apply zF)|exact HB.out))));have n1_:=zM (zQ (by repeat (first|(with_reducible first|exact HB.out|apply zD|apply zE|apply zF)|exact HB.out)) hb);clear HB;have HO482:=n0_;have HB:=n1_;clear n0_ n1_;clear hb ho5))
 (try simp only [Act.put,zT,zU,zV])
 go_cut [17] (fun v17 wc => ∃ (kq:Nat) (x17_2:Bool),v17 = .bool x17_2 ∧ Aside0 (spec_DeepWindows.j0 kq l0 a1 y480 x17_2 = some (r1,r2)) ∧ Aside0 (kq ≤ k) ∧ Aside0 (Kd.R k66 66 wc w.heap.size (fun _=>True) v481 y480) ∧ Aside0 (Below w.heap.size w wc))
 case first =>
  have H:=HC3.out;clear HC3;replace H:=Option.bind_eq_some_iff.mp H;obtain ⟨t483,A60,H⟩:=H;replace H:(if t483 = true then ((spec_l1In.f a1 0 2000).bind fun t484=>(spec_DeepWindows.j0 k l0 a1 y480 (!t484))) else (spec_DeepWindows.j0 k l0 a1 y480 true)) = some (r1,r2):=H
  have A6:=zM A60;clear A60;by_cases c7:t483 = true
  ·subst c7
   have H1:((spec_l1In.f a1 0 2000).bind fun t484=>(spec_DeepWindows.j0 k l0 a1 y480 (!t484))) = some (r1,r2):=by rw [if_pos rfl] at H;exact H
   clear H;have H:=H1;clear H1;replace H:=Option.bind_eq_some_iff.mp H;obtain ⟨t484,A80,H⟩:=H;replace H:(spec_DeepWindows.j0 k l0 a1 y480 (!t484)) = some (r1,r2):=H
   have A8:=zM A80;clear A80;have H':=zM H;clear H;go_wp2_with (first|((with_reducible refine gate_callee (f:=52) rfl ?_);refine goesL_ (some 11) rfl rfl Try.func52 (by kernel_rfl) rfl #[.slice A0 l0.length c0] rfl (by (try simp only [List.map_toArray,List.map_cons,List.map_nil]);first|done|rfl|(simp only [List.length_drop,List.length_take];rfl)) ?_;(with_reducible refine (spec_l15Good.calls k _ _ l0 true _ ?side1 ?side2 A6.out).mono ?_);(case side1=>repeat (first|exact (zO HR0.out HB.out)|(with_reducible first|refine zG ?_ _|refine zH ?_ _|refine zI ?_)));(case side2=>exact HC0.out);rintro e w' ⟨rfl,⟨nd,rfl⟩⟩;refine ⟨_,rfl,?_⟩)|(go_at_call 56;(with_reducible refine (spec_l1In.calls a1 0 2000 t484 _ A8.out).mono ?_);rintro e w' ⟨rfl,⟨nd,rfl⟩⟩))
   go_meet
   case rel=>exact ⟨_,(!t484),(by first|rfl|(simp;done)|(simp [*];done)),H',⟨by first|omega|exact Nat.le_refl _⟩,⟨by (with_reducible repeat (first|apply zA|apply zB|apply zC));exact HO482.out⟩,⟨by repeat (first|(with_reducible first|exact HB.out|apply zD|apply zE|apply zF)|exact HB.out)⟩⟩
  ·replace c7:=Bool.eq_false_iff.mpr c7
   subst c7;have H1:(spec_DeepWindows.j0 k l0 a1 y480 true) = some (r1,r2):=by rw [if_neg (show ¬ (false = true) by decide)] at H;exact H
   clear H;have H:=H1;clear H1;have H':=zM H;clear H;go_wp2_with (first|((with_reducible refine gate_callee (f:=52) rfl ?_);refine goesL_ (some 11) rfl rfl Try.func52 (by kernel_rfl) rfl #[.slice A0 l0.length c0] rfl (by (try simp only [List.map_toArray,List.map_cons,List.map_nil]);first|done|rfl|(simp only [List.length_drop,List.length_take];rfl)) ?_;(with_reducible refine (spec_l15Good.calls k _ _ l0 false _ ?side1 ?side2 A6.out).mono ?_);(case side1=>repeat (first|exact (zO HR0.out HB.out)|(with_reducible first|refine zG ?_ _|refine zH ?_ _|refine zI ?_)));(case side2=>exact HC0.out);rintro e w' ⟨rfl,⟨nd,rfl⟩⟩;refine ⟨_,rfl,?_⟩))
   go_meet
   case rel=>exact ⟨_,(true),(by first|rfl|(simp;done)|(simp [*];done)),H',⟨by first|omega|exact Nat.le_refl _⟩,⟨by (with_reducible repeat (first|apply zA|apply zB|apply zC));exact HO482.out⟩,⟨by repeat (first|(with_reducible first|exact HB.out|apply zD|apply zE|apply zF)|exact HB.out)⟩⟩
 case rest =>
  clear HC3;(try clear p2);(try clear c3);(try clear c5);(try clear c7);obtain ⟨kq,x17_2,rfl,HA,HJ2,HO_6,HB⟩:=hcut;cases kq with
  | zero=>exact absurd HA.out (by simp [spec_DeepWindows.j0])
  | succ kj2 =>
   have H:=HA.out;clear HA;simp only [spec_DeepWindows.j0] at H
   by_cases c9:x17_2 = true
   ·subst c9
    have H1:(some (y480,false)) = some (r1,r2):=by rw [if_pos rfl] at H;exact H
    clear H;have H:=H1;clear H1;simp only [Option.some.injEq,Prod.mk.injEq] at H
    obtain ⟨rfl,rfl⟩:=H;go_wp2
    go_ret2
    exact ⟨_,by first|rfl|(simp [errW_none,errW_some] <;> rfl)|(simp [*,errW_none,errW_some] <;> rfl),by (with_reducible repeat (first|apply zA|apply zB|apply zC));exact HO_6.out,by repeat (first|(with_reducible first|exact HB.out|apply zD|apply zE|apply zF)|exact HB.out)⟩
   ·replace c9:=Bool.eq_false_iff.mpr c9
    subst c9;have H1:(if 0 < (l0.length:Int) then (spec_DeepWindows.l0 kj2 l0 a1 y480 ((rd_T60 l0 0).f0)) else (none)) = some (r1,r2):=by rw [if_neg (show ¬ (false = true) by decide)] at H;exact H
    clear H;have H:=H1;clear H1;by_cases c10:0 < (l0.length:Int)
    ·rw [if_pos c10] at H
     have c10b0:decide (0 < (l0.length:Int)) = true:=decide_eq_true c10
     have c10b1:decide (0 < l0.length) = true:=decide_eq_true (by omega)
     clear c10;have H':=zM H;clear H;have p485:0 ≤ (0:Int):=(by omega)
     have q485:0 < (l0.length:Int):=of_decide_eq_true (by first|(with_reducible assumption)|assumption)
     obtain ⟨ad485,e485,hx485_0,hx485_1⟩:=at_T60 HR0.out 0 p485 q485;cases e485
     have qi485:(0 < l0.length) = True:=eq_true (by omega)
     (try rw [show ((0:Int)).toNat = 0 from rfl] at hx485_0)
     (try rw [show 0 * 2 = 0 from rfl] at hx485_0)
     (try rw [Addr.add_zero'] at hx485_0)
     (try rw [show ((0:Int)).toNat = 0 from rfl] at hx485_1)
     (try rw [show 0 * 2 = 0 from rfl] at hx485_1)
     (try rw [Addr.add_zero'] at hx485_1)
     replace hx485_0:=zS HB.out hx485_0;replace hx485_1:=zS HB.out hx485_1;replace p485:=eq_true p485;replace q485:=eq_true q485;go_wp2
     go_loopg [6,7] kj2 (fun kq v6 v7 w' => ∃ (x6_2:List (S66)) (x7_2:Int),v7 = .int .i64 x7_2 ∧ Aside0 (spec_DeepWindows.l0 kq l0 a1 x6_2 x7_2 = some (r1,r2)) ∧ Aside0 (kq ≤ kj2) ∧ Aside0 (Kd.R k66 66 w' w.heap.size (fun _=>True) v6 x6_2) ∧ Aside0 (Below w.heap.size w w'))
     case atStart=>exact ⟨(y480),((rd_T60 l0 0).f0),(by first|rfl|(simp;done)|(simp [*];done)),H',⟨Nat.le_refl _⟩,⟨by (with_reducible repeat (first|apply zA|apply zB|apply zC));exact HO_6.out⟩,⟨by repeat (first|(with_reducible first|exact HB.out|apply zD|apply zE|apply zF)|exact HB.out)⟩⟩
     case round =>
      clear H';(try clear c1);(try clear p2);(try clear c3);(try clear p4);(try clear q4);(try clear hx4);(try clear qi4);(try clear c5);(try clear c7);(try clear c9);(try clear c10);(try clear c10b0);(try clear c10b1);(try clear hx485_0);(try clear hx485_1);(try clear p2);(try clear p485);(try clear q485);obtain ⟨x6_2,x7_2,rfl,HA,HK2,HO_6,HB⟩:=hrel;cases gk with
      | zero=>exact absurd HA.out (by simp [spec_DeepWindows.l0])
      | succ k2 =>
       have H:=HA.out;clear HA;simp only [spec_DeepWindows.l0] at H
       obtain ⟨ji11,hji11⟩ : ∃ j_:Int,(wrap64 ((l0.length:Int) - 1)) = j_:=⟨_,rfl⟩
       replace H:(if 0 ≤ (ji11) then (if (ji11) < (l0.length:Int) then (if x7_2 ≤ ((rd_T60 l0 (ji11)).f0) then ((spec_l15Deep.f k2 l0 x7_2 a1).bind fun t487=>(if t487 = true then (if (x6_2.length:Int) > 0 then (if 0 ≤ (wrap64 ((x6_2.length:Int) - 1)) then (if (wrap64 ((x6_2.length:Int) - 1)) < (x6_2.length:Int) then (if ((rd_T66 x6_2 (wrap64 ((x6_2.length:Int) - 1))).f1) = (wrap64 (x7_2 - 1)) then (spec_DeepWindows.l0 k2 l0 a1 (x6_2.set ((wrap64 ((x6_2.length:Int) - 1)):Int).toNat (⟨(rd_T66 x6_2 (wrap64 ((x6_2.length:Int) - 1))).f0,x7_2⟩ : S66)) (wrap64 (x7_2 + 1))) else (if x6_2.length < 8796093022208 then (spec_DeepWindows.l0 k2 l0 a1 (x6_2 ++ [(⟨x7_2,x7_2⟩ : S66)]) (wrap64 (x7_2 + 1))) else (none))) else (none)) else (none)) else (if x6_2.length < 8796093022208 then (spec_DeepWindows.l0 k2 l0 a1 (x6_2 ++ [(⟨x7_2,x7_2⟩ : S66)]) (wrap64 (x7_2 + 1))) else (none))) else (spec_DeepWindows.l0 k2 l0 a1 x6_2 (wrap64 (x7_2 + 1))))) else (some (x6_2,true))) else (none)) else (none)) = some (r1,r2):=by first|(rw [hji11] at H;exact H)|(simp only [hji11] at H ⊢;exact H)
       have hji11w:(IntKind.i64.wrap ((l0.length:Int) - 1)) = ji11:=(i64_w _).trans hji11
       by_cases c12:0 ≤ (ji11)
       ·rw [if_pos c12] at H
        have c12b0:decide (0 ≤ (ji11)) = true:=decide_eq_true c12
        clear c12;by_cases c13:(ji11) < (l0.length:Int)
        ·rw [if_pos c13] at H
         have c13b0:decide ((ji11) < (l0.length:Int)) = true:=decide_eq_true c13
         clear c13;by_cases c14:x7_2 ≤ ((rd_T60 l0 (ji11)).f0)
         ·rw [if_pos c14] at H
          have c14b0:decide (x7_2 ≤ ((rd_T60 l0 (ji11)).f0)) = true:=decide_eq_true c14
          clear c14;replace H:=Option.bind_eq_some_iff.mp H;obtain ⟨t487,A150,H⟩:=H;replace H:(if t487 = true then (if (x6_2.length:Int) > 0 then (if 0 ≤ (wrap64 ((x6_2.length:Int) - 1)) then (if (wrap64 ((x6_2.length:Int) - 1)) < (x6_2.length:Int) then (if ((rd_T66 x6_2 (wrap64 ((x6_2.length:Int) - 1))).f1) = (wrap64 (x7_2 - 1)) then (spec_DeepWindows.l0 k2 l0 a1 (x6_2.set ((wrap64 ((x6_2.length:Int) - 1)):Int).toNat (⟨(rd_T66 x6_2 (wrap64 ((x6_2.length:Int) - 1))).f0,x7_2⟩ : S66)) (wrap64 (x7_2 + 1))) else (if x6_2.length < 8796093022208 then (spec_DeepWindows.l0 k2 l0 a1 (x6_2 ++ [(⟨x7_2,x7_2⟩ : S66)]) (wrap64 (x7_2 + 1))) else (none))) else (none)) else (none)) else (if x6_2.length < 8796093022208 then (spec_DeepWindows.l0 k2 l0 a1 (x6_2 ++ [(⟨x7_2,x7_2⟩ : S66)]) (wrap64 (x7_2 + 1))) else (none))) else (spec_DeepWindows.l0 k2 l0 a1 x6_2 (wrap64 (x7_2 + 1)))) = some (r1,r2):=H
          have A15:=zM A150;clear A150;by_cases c16:t487 = true
          ·subst c16
           have H1:(if (x6_2.length:Int) > 0 then (if 0 ≤ (wrap64 ((x6_2.length:Int) - 1)) then (if (wrap64 ((x6_2.length:Int) - 1)) < (x6_2.length:Int) then (if ((rd_T66 x6_2 (wrap64 ((x6_2.length:Int) - 1))).f1) = (wrap64 (x7_2 - 1)) then (spec_DeepWindows.l0 k2 l0 a1 (x6_2.set ((wrap64 ((x6_2.length:Int) - 1)):Int).toNat (⟨(rd_T66 x6_2 (wrap64 ((x6_2.length:Int) - 1))).f0,x7_2⟩ : S66)) (wrap64 (x7_2 + 1))) else (if x6_2.length < 8796093022208 then (spec_DeepWindows.l0 k2 l0 a1 (x6_2 ++ [(⟨x7_2,x7_2⟩ : S66)]) (wrap64 (x7_2 + 1))) else (none))) else (none)) else (none)) else (if x6_2.length < 8796093022208 then (spec_DeepWindows.l0 k2 l0 a1 (x6_2 ++ [(⟨x7_2,x7_2⟩ : S66)]) (wrap64 (x7_2 + 1))) else (none))) = some (r1,r2):=by rw [if_pos rfl] at H;exact H
           clear H;have H:=H1;clear H1;by_cases c17:(x6_2.length:Int) > 0
           ·rw [if_pos c17] at H
            have c17b0:decide (0 < (x6_2.length:Int)) = true:=decide_eq_true c17
            have c17b1:decide (0 < x6_2.length) = true:=decide_eq_true (by omega)
            clear c17;obtain ⟨ji18,hji18⟩ : ∃ j_:Int,(wrap64 ((x6_2.length:Int) - 1)) = j_:=⟨_,rfl⟩
            replace H:(if 0 ≤ (ji18) then (if (ji18) < (x6_2.length:Int) then (if ((rd_T66 x6_2 (ji18)).f1) = (wrap64 (x7_2 - 1)) then (spec_DeepWindows.l0 k2 l0 a1 (x6_2.set ((ji18):Int).toNat (⟨(rd_T66 x6_2 (ji18)).f0,x7_2⟩ : S66)) (wrap64 (x7_2 + 1))) else (if x6_2.length < 8796093022208 then (spec_DeepWindows.l0 k2 l0 a1 (x6_2 ++ [(⟨x7_2,x7_2⟩ : S66)]) (wrap64 (x7_2 + 1))) else (none))) else (none)) else (none)) = some (r1,r2):=by first|(rw [hji18] at H;exact H)|(simp only [hji18] at H ⊢;exact H)
            (try rw [hji18] at A15)
            have hji18w:(IntKind.i64.wrap ((x6_2.length:Int) - 1)) = ji18:=(i64_w _).trans hji18
            by_cases c19:0 ≤ (ji18)
            ·rw [if_pos c19] at H
             have c19b0:decide (0 ≤ (ji18)) = true:=decide_eq_true c19
             clear c19;by_cases c20:(ji18) < (x6_2.length:Int)
             ·rw [if_pos c20] at H
              have c20b0:decide ((ji18) < (x6_2.length:Int)) = true:=decide_eq_true c20
              clear c20;by_cases c21:((rd_T66 x6_2 (ji18)).f1) = (wrap64 (x7_2 - 1))
              ·rw [if_pos c21] at H
               have c21b0:(((rd_T66 x6_2 (ji18)).f1) == (wrap64 (x7_2 - 1))) = true:=beq_iff_eq.mpr c21
               have c21b1:(((rd_T66 x6_2 (ji18)).f1) != (wrap64 (x7_2 - 1))) = false:=bne_eq_false_iff_eq.mpr c21
               clear c21;obtain ⟨y490,hy490⟩ : ∃ y_:List (S66),y_ = (x6_2.set ((ji18):Int).toNat (⟨(rd_T66 x6_2 (ji18)).f0,x7_2⟩ : S66)):=⟨_,rfl⟩
               replace H:(spec_DeepWindows.l0 k2 l0 a1 y490 (wrap64 (x7_2 + 1))) = some (r1,r2):=by first|(rw [hy490];with_reducible exact H)|(have H2_:=(Option.bind_some _ _).symm.trans H;rw [hy490];with_reducible exact H2_)|(have H2_:=(Option.bind_some _ _).symm.trans H;with_reducible exact H2_)|with_reducible exact H|(rw [hy490];exact H)|exact H
               have Ny490:=zM hy490;clear hy490;have H':=zM H;clear H;have p486:0 ≤ ((ji11):Int):=of_decide_eq_true (by first|(with_reducible assumption)|assumption)
               have q486:(ji11) < (l0.length:Int):=of_decide_eq_true (by first|(with_reducible assumption)|assumption)
               obtain ⟨ad486,e486,hx486_0,hx486_1⟩:=at_T60 HR0.out (ji11) p486 q486;obtain rfl:ad485 = ad486:=(by injection e486)
               replace hx486_0:=zS HB.out hx486_0;replace hx486_1:=zS HB.out hx486_1;replace p486:=eq_true p486;replace q486:=eq_true q486;go_wp2_with (first|((with_reducible refine gate_callee (f:=66) rfl ?_);refine goesL_ (some 37) rfl rfl Try.func66 (by kernel_rfl) rfl #[.slice (some ad485) l0.length c0,.int .i64 x7_2,.int .i64 a1] rfl (by (try simp only [List.map_toArray,List.map_cons,List.map_nil]);first|done|rfl|(simp only [List.length_drop,List.length_take];rfl)) ?_;(with_reducible refine (spec_l15Deep.calls k2 _ _ l0 x7_2 a1 true _ ?side1 ?side2 A15.out).mono ?_);(case side1=>repeat (first|exact (zO HR0.out HB.out)|(with_reducible first|refine zG ?_ _|refine zH ?_ _|refine zI ?_)));(case side2=>exact HC0.out);rintro e w23 ⟨rfl,hb⟩;refine ⟨_,rfl,?_⟩;have n0_:=zM (zP (by (with_reducible repeat (first|apply zA|apply zB|apply zC));exact HO_6.out) hb);have n1_:=zM (zQ (by repeat (first|(with_reducible first|exact HB.out|apply zD|apply zE|apply zF)|exact HB.out)) hb);clear HO_6;clear HB;have HO_6:=n0_;have HB:=n1_;clear n0_ n1_;(try clear hb);(try clear hb2);(try clear hk);(try clear hi);obtain ⟨Ao24,co24,eo24⟩:=Kd.R_slice HO_6.out;subst eo24;have p488:0 ≤ ((ji18):Int):=of_decide_eq_true (by first|(with_reducible assumption)|assumption);have q488:(ji18) < (x6_2.length:Int):=of_decide_eq_true (by first|(with_reducible assumption)|assumption);obtain ⟨ad488,e488,hx488_0,hx488_1⟩:=at_T66 (zN HO_6.out).2.2 (ji18) p488 q488;cases e488;replace p488:=eq_true p488;replace q488:=eq_true q488;have p489:0 ≤ ((ji18):Int):=of_decide_eq_true (by first|(with_reducible assumption)|assumption);have q489:(ji18) < (x6_2.length:Int):=of_decide_eq_true (by first|(with_reducible assumption)|assumption);obtain ⟨ad489,e489,hx489_0,hx489_1⟩:=at_T66 (zN HO_6.out).2.2 (ji18) p489 q489;obtain rfl:ad488 = ad489:=(by injection e489);replace p489:=eq_true p489;replace q489:=eq_true q489;have p22:0 ≤ ((ji18):Int):=of_decide_eq_true (by first|(with_reducible assumption)|assumption);have q22:((ji18):Int) < ((x6_2.length:Int):Int):=of_decide_eq_true (by first|(with_reducible assumption)|assumption);obtain ⟨go22,co22,eo22,gb22,gl22,cl22,HG22⟩:=Kd.R_form HO_6.out (by omega);(first|cases eo22|(injection eo22 with ea_ en_ ec_;(first|subst ea_|(injection ea_ with ea_;subst ea_));subst ec_;clear en_));have GB22:=zM gb22;have GG22:=zM HG22;clear gb22 gl22 HG22;(first|simp only [add_plain] at hx488_0|skip);(first|simp only [add_plain] at hx488_1|skip);(first|simp only [add_plain] at hx489_0|skip);(first|simp only [add_plain] at hx489_1|skip);obtain ⟨ce22,hcl22,hM22,hcc22,hfr22⟩:=Kd.R_elem HO_6.out z66 ((ji18):Int) p22 q22;obtain rfl:=k66_openM hM22;have hx22_0:w23.cell? ⟨go22,((ji18):Int).toNat * 2,none⟩ = some (.int .i64 ((rd_T66 x6_2 (ji18)).f0)):=hcc22 0 _ rfl;have hx22_1:w23.cell? ⟨go22,((ji18):Int).toNat * 2 + 1,none⟩ = some (.int .i64 ((rd_T66 x6_2 (ji18)).f1)):=hcc22 1 _ rfl;have hf22_0:w23.frozen? ⟨go22,((ji18):Int).toNat * 2,none⟩ = false:=hfr22 0;have hf22_1:w23.frozen? ⟨go22,((ji18):Int).toNat * 2 + 1,none⟩ = false:=hfr22 1;clear hcl22 hcc22 hfr22;(try clear hM22);replace p22:=eq_true p22;replace q22:=eq_true q22;have HX25:=zM (show Kd.R k66 66 w23 w.heap.size (fun _=>True) (.slice (some ⟨go22,0,none⟩) x6_2.length co24) x6_2 from (by (with_reducible repeat (first|apply zA|apply zB|apply zC));exact HO_6.out));obtain ⟨ce25,hcl25,hM25,hcc25,hfr25⟩:=Kd.R_elem HX25.out z66 ((ji18):Int) (of_decide_eq_true (by first|(with_reducible assumption)|assumption)) (by have h_:((ji18):Int) < ((x6_2.length:Int):Int):=of_decide_eq_true (by first|(with_reducible assumption)|assumption);first|exact h_|(have e_:=(zN HO_6.out).1;omega)|simpa using h_);obtain rfl:=k66_openM hM25;have HP25:=Kd.R_seg HX25.out ((ji18):Int) (of_decide_eq_true (by first|(with_reducible assumption)|assumption)) (by have h_:((ji18):Int) < ((x6_2.length:Int):Int):=of_decide_eq_true (by first|(with_reducible assumption)|assumption);first|exact h_|(have e_:=(zN HO_6.out).1;omega)|simpa using h_) (seg:=[.int .i64 ((rd_T66 x6_2 (ji18)).f0),.int .i64 x7_2]) (j:=0) hcl25 hcc25 (show 2 ≤ 2 from by decide) (x':=(⟨(rd_T66 x6_2 (ji18)).f0,x7_2⟩ : S66)) (k66_mkM _ _ _ (⟨(rd_T66 x6_2 (ji18)).f0,x7_2⟩ : S66) ) (fun _ hk=>hk);have hx25_0:=hcc25 0 _ rfl;(try simp only [show (k66).sz = 2 from rfl,Nat.mul_one,Nat.add_zero] at hx25_0);have hf25_0:=hfr25 0;(try simp only [show (k66).sz = 2 from rfl,Nat.mul_one,Nat.add_zero] at hf25_0);have hx25_1:=hcc25 1 _ rfl;(try simp only [show (k66).sz = 2 from rfl,Nat.mul_one,Nat.add_zero] at hx25_1);have hf25_1:=hfr25 1;(try simp only [show (k66).sz = 2 from rfl,Nat.mul_one,Nat.add_zero] at hf25_1);clear hcl25 hcc25 hfr25;(try clear hM25))|((with_reducible refine gate_store (t:=66) (p:=65) rfl ?_);refine store_event (t:=66) (p:=65) (v:=?vo_w26) (w1:=((w23.setCell ⟨go22,((ji18):Int).toNat * 2,none⟩ (.int .i64 ((rd_T66 x6_2 (ji18)).f0))).setCell ⟨go22,((ji18):Int).toNat * 2 + 1,none⟩ (.int .i64 x7_2))) ?hg ?ho ?hn ?hr ?_;(case ho=>rfl);(case hg=>rfl);(case hn=>rfl);(case hr=>first|(go_simp;done)|(go_simp;rfl));intro w26 hw;have hg:w23.grownBy w26 (some go22):=(by rw [hw];exact HP25.2);have hp_:Kd.R k66 66 w26 w.heap.size (fun _=>True) (.slice (some ⟨go22,0,none⟩) x6_2.length co24) y490:=(by rw [hw,Ny490.out];exact HP25.1);clear HP25;have n0_:=zM (hp_);have n1_:=zM ((by rw [hw];exact below_set (below_set (HB.out) GB22.out) GB22.out:Below w.heap.size w w26));clear HO_6;clear HB;have HO_6:=n0_;have HB:=n1_;clear n0_ n1_;clear hg hw hp_))
               go_roundg k2
               case measure=>have:=HJ2.out;have:=HK2.out;omega
               case rel=>exact ⟨(y490),(wrap64 (x7_2 + 1)),(by first|rfl|(simp;done)|(simp [*];done)),H',⟨by have:=HJ2.out;have:=HK2.out;omega⟩,⟨by (with_reducible repeat (first|apply zA|apply zB|apply zC));exact HO_6.out⟩,⟨by repeat (first|(with_reducible first|exact HB.out|apply zD|apply zE|apply zF)|exact HB.out)⟩⟩
              ·rw [if_neg c21] at H
               have c21b0:(((rd_T66 x6_2 (ji18)).f1) == (wrap64 (x7_2 - 1))) = false:=beq_eq_false_iff_ne.mpr c21
               have c21b1:(((rd_T66 x6_2 (ji18)).f1) != (wrap64 (x7_2 - 1))) = true:=bne_iff_ne.mpr c21
               by_cases c27:x6_2.length < 8796093022208
               ·rw [if_pos c27] at H
                have LMc27:=zM c27;clear c27;obtain ⟨y491,hy491⟩ : ∃ y_:List (S66),y_ = (x6_2 ++ [(⟨x7_2,x7_2⟩ : S66)]):=⟨_,rfl⟩
                replace H:(spec_DeepWindows.l0 k2 l0 a1 y491 (wrap64 (x7_2 + 1))) = some (r1,r2):=by first|(rw [hy491];with_reducible exact H)|(have H2_:=(Option.bind_some _ _).symm.trans H;rw [hy491];with_reducible exact H2_)|(have H2_:=(Option.bind_some _ _).symm.trans H;with_reducible exact H2_)|with_reducible exact H|(rw [hy491];exact H)|exact H
                have Ny491:=zM hy491;clear hy491;have H':=zM H;clear H;have p486:0 ≤ ((ji11):Int):=of_decide_eq_true (by first|(with_reducible assumption)|assumption)
                have q486:(ji11) < (l0.length:Int):=of_decide_eq_true (by first|(with_reducible assumption)|assumption)
                obtain ⟨ad486,e486,hx486_0,hx486_1⟩:=at_T60 HR0.out (ji11) p486 q486;obtain rfl:ad485 = ad486:=(by injection e486)
                replace hx486_0:=zS HB.out hx486_0;replace hx486_1:=zS HB.out hx486_1;replace p486:=eq_true p486;replace q486:=eq_true q486;go_wp2_with (first|((with_reducible refine gate_callee (f:=66) rfl ?_);refine goesL_ (some 37) rfl rfl Try.func66 (by kernel_rfl) rfl #[.slice (some ad485) l0.length c0,.int .i64 x7_2,.int .i64 a1] rfl (by (try simp only [List.map_toArray,List.map_cons,List.map_nil]);first|done|rfl|(simp only [List.length_drop,List.length_take];rfl)) ?_;(with_reducible refine (spec_l15Deep.calls k2 _ _ l0 x7_2 a1 true _ ?side1 ?side2 A15.out).mono ?_);(case side1=>repeat (first|exact (zO HR0.out HB.out)|(with_reducible first|refine zG ?_ _|refine zH ?_ _|refine zI ?_)));(case side2=>exact HC0.out);rintro e w28 ⟨rfl,hb⟩;refine ⟨_,rfl,?_⟩;have n0_:=zM (zP (by (with_reducible repeat (first|apply zA|apply zB|apply zC));exact HO_6.out) hb);have n1_:=zM (zQ (by repeat (first|(with_reducible first|exact HB.out|apply zD|apply zE|apply zF)|exact HB.out)) hb);clear HO_6;clear HB;have HO_6:=n0_;have HB:=n1_;clear n0_ n1_;(try clear hb);(try clear hb2);(try clear hk);(try clear hi);obtain ⟨Ao29,co29,eo29⟩:=Kd.R_slice HO_6.out;subst eo29;have p488:0 ≤ ((ji18):Int):=of_decide_eq_true (by first|(with_reducible assumption)|assumption);have q488:(ji18) < (x6_2.length:Int):=of_decide_eq_true (by first|(with_reducible assumption)|assumption);obtain ⟨ad488,e488,hx488_0,hx488_1⟩:=at_T66 (zN HO_6.out).2.2 (ji18) p488 q488;cases e488;replace p488:=eq_true p488;replace q488:=eq_true q488)|((with_reducible refine gate_builtin (b := .append) (xs := #[.tmp 66,.tmp 70]) rfl ?_);at_builtin;refine Kd.R_append k66 (w0:=w) w.heap.size rfl (.tmp 66) (.tmp 70) 50 66 (.agg #[(.int .i64 0),(.int .i64 0)]) 16 rfl Try.underlying50 info66 rfl (by decide) (by omega) (.slice (some ad488) x6_2.length co29) x6_2 (⟨x7_2,x7_2⟩ : S66) [.int .i64 x7_2,.int .i64 x7_2] (fun _=>True) (fun _=>False) rfl rfl ?aP (fun _ hk=>hk.elim) ?aF ?aO ?aB ?aS ?aL ?_;(case aP=>exact k66_mkM _ _ _ (⟨x7_2,x7_2⟩ : S66));(case aB=>exact (by repeat (first|(with_reducible first|exact HB.out|apply zD|apply zE|apply zF)|exact HB.out)));(case aF=>exact (fun _ _=>trivial));(case aO=>exact (by (with_reducible repeat (first|apply zA|apply zB|apply zC));exact HO_6.out));(case aS=>exact (zR (by repeat (first|(with_reducible first|exact HB.out|apply zD|apply zE|apply zF)|exact HB.out))));(case aL=>have:=LMc27.out;omega);intro v492 w30 ho hb hg hat;rw [← Ny491.out] at ho;have n0_:=zM (hb);have n1_:=zM (ho);clear HB;clear HO_6;have HB:=n0_;have HO493:=n1_;clear n0_ n1_;clear ho hb hg hat))
                go_roundg k2
                case measure=>have:=HJ2.out;have:=HK2.out;omega
                case rel=>exact ⟨(y491),(wrap64 (x7_2 + 1)),(by first|rfl|(simp;done)|(simp [*];done)),H',⟨by have:=HJ2.out;have:=HK2.out;omega⟩,⟨by (with_reducible repeat (first|apply zA|apply zB|apply zC));exact HO493.out⟩,⟨by repeat (first|(with_reducible first|exact HB.out|apply zD|apply zE|apply zF)|exact HB.out)⟩⟩
               ·rw [if_neg c27] at H
                exact absurd H (by simp)
             ·rw [if_neg c20] at H
              exact absurd H (by simp)
            ·rw [if_neg c19] at H
             exact absurd H (by simp)
           ·rw [if_neg c17] at H
            have c17b0:decide (0 < (x6_2.length:Int)) = false:=decide_eq_false c17
            have c17b1:decide (0 < x6_2.length) = false:=decide_eq_false (by omega)
            clear c17;by_cases c31:x6_2.length < 8796093022208
            ·rw [if_pos c31] at H
             have LMc31:=zM c31;clear c31;obtain ⟨y494,hy494⟩ : ∃ y_:List (S66),y_ = (x6_2 ++ [(⟨x7_2,x7_2⟩ : S66)]):=⟨_,rfl⟩
             replace H:(spec_DeepWindows.l0 k2 l0 a1 y494 (wrap64 (x7_2 + 1))) = some (r1,r2):=by first|(rw [hy494];with_reducible exact H)|(have H2_:=(Option.bind_some _ _).symm.trans H;rw [hy494];with_reducible exact H2_)|(have H2_:=(Option.bind_some _ _).symm.trans H;with_reducible exact H2_)|with_reducible exact H|(rw [hy494];exact H)|exact H
             have Ny494:=zM hy494;clear hy494;have H':=zM H;clear H;have p486:0 ≤ ((ji11):Int):=of_decide_eq_true (by first|(with_reducible assumption)|assumption)
             have q486:(ji11) < (l0.length:Int):=of_decide_eq_true (by first|(with_reducible assumption)|assumption)
             obtain ⟨ad486,e486,hx486_0,hx486_1⟩:=at_T60 HR0.out (ji11) p486 q486;obtain rfl:ad485 = ad486:=(by injection e486)
             replace hx486_0:=zS HB.out hx486_0;replace hx486_1:=zS HB.out hx486_1;replace p486:=eq_true p486;replace q486:=eq_true q486;go_wp2_with (first|((with_reducible refine gate_callee (f:=66) rfl ?_);refine goesL_ (some 37) rfl rfl Try.func66 (by kernel_rfl) rfl #[.slice (some ad485) l0.length c0,.int .i64 x7_2,.int .i64 a1] rfl (by (try simp only [List.map_toArray,List.map_cons,List.map_nil]);first|done|rfl|(simp only [List.length_drop,List.length_take];rfl)) ?_;(with_reducible refine (spec_l15Deep.calls k2 _ _ l0 x7_2 a1 true _ ?side1 ?side2 A15.out).mono ?_);(case side1=>repeat (first|exact (zO HR0.out HB.out)|(with_reducible first|refine zG ?_ _|refine zH ?_ _|refine zI ?_)));(case side2=>exact HC0.out);rintro e w32 ⟨rfl,hb⟩;refine ⟨_,rfl,?_⟩;have n0_:=zM (zP (by (with_reducible repeat (first|apply zA|apply zB|apply zC));exact HO_6.out) hb);have n1_:=zM (zQ (by repeat (first|(with_reducible first|exact HB.out|apply zD|apply zE|apply zF)|exact HB.out)) hb);clear HO_6;clear HB;have HO_6:=n0_;have HB:=n1_;clear n0_ n1_;(try clear hb);(try clear hb2);(try clear hk);(try clear hi);obtain ⟨Ao33,co33,eo33⟩:=Kd.R_slice HO_6.out;subst eo33)|((with_reducible refine gate_builtin (b := .append) (xs := #[.tmp 66,.tmp 70]) rfl ?_);at_builtin;refine Kd.R_append k66 (w0:=w) w.heap.size rfl (.tmp 66) (.tmp 70) 50 66 (.agg #[(.int .i64 0),(.int .i64 0)]) 16 rfl Try.underlying50 info66 rfl (by decide) (by omega) (.slice Ao33 x6_2.length co33) x6_2 (⟨x7_2,x7_2⟩ : S66) [.int .i64 x7_2,.int .i64 x7_2] (fun _=>True) (fun _=>False) rfl rfl ?aP (fun _ hk=>hk.elim) ?aF ?aO ?aB ?aS ?aL ?_;(case aP=>exact k66_mkM _ _ _ (⟨x7_2,x7_2⟩ : S66));(case aB=>exact (by repeat (first|(with_reducible first|exact HB.out|apply zD|apply zE|apply zF)|exact HB.out)));(case aF=>exact (fun _ _=>trivial));(case aO=>exact (by (with_reducible repeat (first|apply zA|apply zB|apply zC));exact HO_6.out));(case aS=>exact (zR (by repeat (first|(with_reducible first|exact HB.out|apply zD|apply zE|apply zF)|exact HB.out))));(case aL=>have:=LMc31.out;omega);intro v495 w34 ho hb hg hat;rw [← Ny494.out] at ho;have n0_:=zM (hb);have n1_:=zM (ho);clear HB;clear HO_6;have HB:=n0_;have HO496:=n1_;clear n0_ n1_;clear ho hb hg hat))
             go_roundg k2
             case measure=>have:=HJ2.out;have:=HK2.out;omega
             case rel=>exact ⟨(y494),(wrap64 (x7_2 + 1)),(by first|rfl|(simp;done)|(simp [*];done)),H',⟨by have:=HJ2.out;have:=HK2.out;omega⟩,⟨by (with_reducible repeat (first|apply zA|apply zB|apply zC));exact HO496.out⟩,⟨by repeat (first|(with_reducible first|exact HB.out|apply zD|apply zE|apply zF)|exact HB.out)⟩⟩
            ·rw [if_neg c31] at H
             exact absurd H (by simp)
          ·replace c16:=Bool.eq_false_iff.mpr c16
           subst c16;have H1:(spec_DeepWindows.l0 k2 l0 a1 x6_2 (wrap64 (x7_2 + 1))) = some (r1,r2):=by rw [if_neg (show ¬ (false = true) by decide)] at H;exact H
           clear H;have H:=H1;clear H1;have H':=zM H;clear H;have p486:0 ≤ ((ji11):Int):=of_decide_eq_true (by first|(with_reducible assumption)|assumption)
           have q486:(ji11) < (l0.length:Int):=of_decide_eq_true (by first|(with_reducible assumption)|assumption)
           obtain ⟨ad486,e486,hx486_0,hx486_1⟩:=at_T60 HR0.out (ji11) p486 q486;obtain rfl:ad485 = ad486:=(by injection e486)
           replace hx486_0:=zS HB.out hx486_0;replace hx486_1:=zS HB.out hx486_1;replace p486:=eq_true p486;replace q486:=eq_true q486;go_wp2_with (first|((with_reducible refine gate_callee (f:=66) rfl ?_);refine goesL_ (some 37) rfl rfl Try.func66 (by kernel_rfl) rfl #[.slice (some ad485) l0.length c0,.int .i64 x7_2,.int .i64 a1] rfl (by (try simp only [List.map_toArray,List.map_cons,List.map_nil]);first|done|rfl|(simp only [List.length_drop,List.length_take];rfl)) ?_;(with_reducible refine (spec_l15Deep.calls k2 _ _ l0 x7_2 a1 false _ ?side1 ?side2 A15.out).mono ?_);(case side1=>repeat (first|exact (zO HR0.out HB.out)|(with_reducible first|refine zG ?_ _|refine zH ?_ _|refine zI ?_)));(case side2=>exact HC0.out);rintro e w35 ⟨rfl,hb⟩;refine ⟨_,rfl,?_⟩;have n0_:=zM (zP (by (with_reducible repeat (first|apply zA|apply zB|apply zC));exact HO_6.out) hb);have n1_:=zM (zQ (by repeat (first|(with_reducible first|exact HB.out|apply zD|apply zE|apply zF)|exact HB.out)) hb);clear HO_6;clear HB;have HO_6:=n0_;have HB:=n1_;clear n0_ n1_;(try clear hb);(try clear hb2);(try clear hk);(try clear hi)))
           go_roundg k2
           case measure=>have:=HJ2.out;have:=HK2.out;omega
           case rel=>exact ⟨(x6_2),(wrap64 (x7_2 + 1)),(by first|rfl|(simp;done)|(simp [*];done)),H',⟨by have:=HJ2.out;have:=HK2.out;omega⟩,⟨by (with_reducible repeat (first|apply zA|apply zB|apply zC));exact HO_6.out⟩,⟨by repeat (first|(with_reducible first|exact HB.out|apply zD|apply zE|apply zF)|exact HB.out)⟩⟩
         ·rw [if_neg c14] at H
          have c14b0:decide (x7_2 ≤ ((rd_T60 l0 (ji11)).f0)) = false:=decide_eq_false c14
          clear c14;simp only [Option.some.injEq,Prod.mk.injEq] at H
          obtain ⟨rfl,rfl⟩:=H;have p486:0 ≤ ((ji11):Int):=of_decide_eq_true (by first|(with_reducible assumption)|assumption)
          have q486:(ji11) < (l0.length:Int):=of_decide_eq_true (by first|(with_reducible assumption)|assumption)
          obtain ⟨ad486,e486,hx486_0,hx486_1⟩:=at_T60 HR0.out (ji11) p486 q486;obtain rfl:ad485 = ad486:=(by injection e486)
          replace hx486_0:=zS HB.out hx486_0;replace hx486_1:=zS HB.out hx486_1;replace p486:=eq_true p486;replace q486:=eq_true q486;go_wp2
          go_ret2
          exact ⟨_,by first|rfl|(simp [errW_none,errW_some] <;> rfl)|(simp only [← hji11];first|rfl|(simp [errW_none,errW_some] <;> rfl))|(simp [*,errW_none,errW_some] <;> rfl),by (with_reducible repeat (first|apply zA|apply zB|apply zC));exact HO_6.out,by repeat (first|(with_reducible first|exact HB.out|apply zD|apply zE|apply zF)|exact HB.out)⟩
        ·rw [if_neg c13] at H
         exact absurd H (by simp)
       ·rw [if_neg c12] at H
        exact absurd H (by simp)
    ·rw [if_neg c10] at H
     exact absurd H (by simp)



/-! ### impl_DeepWindows: function 39 -/
mutual
def impl_DeepWindows.j0:Nat → List (S60) → Int → Bool → Option ((List (S66)) × Bool)
 | 0,_,_,_=>none
 | k + 1,x0,x1,x16=>if x16 = true then (some (([]:List (S66)),false)) else (if 0 < (x0.length:Int) then (impl_DeepWindows.l0 k x0 x1 (([]:List (S66))) ((rd_T60 x0 0).f0)) else (none))
def impl_DeepWindows.l0:Nat → List (S60) → Int → List (S66) → Int → Option ((List (S66)) × Bool)
 | 0,_,_,_,_=>none
 | k + 1,x0,x1,x6,x7=>if 0 ≤ (wrap64 ((x0.length:Int) - 1)) then (if (wrap64 ((x0.length:Int) - 1)) < (x0.length:Int) then (if x7 ≤ ((rd_T60 x0 (wrap64 ((x0.length:Int) - 1))).f0) then ((impl_isDeep.f k x0 x7 x1).bind fun t504=>(if t504 = true then (if (wrap64 ((x6.length:Int) - 1)) ≥ 0 then (if 0 ≤ (wrap64 ((x6.length:Int) - 1)) then (if (wrap64 ((x6.length:Int) - 1)) < (x6.length:Int) then (if ((rd_T66 x6 (wrap64 ((x6.length:Int) - 1))).f1) = (wrap64 (x7 - 1)) then (impl_DeepWindows.l0 k x0 x1 (x6.set ((wrap64 ((x6.length:Int) - 1)):Int).toNat (⟨(rd_T66 x6 (wrap64 ((x6.length:Int) - 1))).f0,x7⟩ : S66)) (wrap64 (x7 + 1))) else (if x6.length < 8796093022208 then (impl_DeepWindows.l0 k x0 x1 (x6 ++ [(⟨x7,x7⟩ : S66)]) (wrap64 (x7 + 1))) else (none))) else (none)) else (none)) else (if x6.length < 8796093022208 then (impl_DeepWindows.l0 k x0 x1 (x6 ++ [(⟨x7,x7⟩ : S66)]) (wrap64 (x7 + 1))) else (none))) else (impl_DeepWindows.l0 k x0 x1 x6 (wrap64 (x7 + 1))))) else (some (x6,true))) else (none)) else (none)
end
def impl_DeepWindows.f (k:Nat) (l0:List (S60)) (a1:Int):Option ((List (S66)) × Bool):=(impl_IsValidTides.f k l0).bind fun t497=>(if t497 = true then ((impl_within.f a1 0 2000).bind fun t498=>(impl_DeepWindows.j0 k l0 a1 (!t498))) else (impl_DeepWindows.j0 k l0 a1 true))
set_option maxHeartbeats 8000000 in
set_option maxRecDepth 100000 in
theorem impl_DeepWindows.calls (k:Nat) (A0:Option Addr) (c0:Nat) (l0:List (S60)) (a1:Int) (r1:List (S66)) (r2:Bool) (w:World) (hr0:Kd.C k60 w A0 l0.length l0) (hc0:l0.length ≤ c0) (h:impl_DeepWindows.f k l0 a1 = some (r1,r2)) :
  Calls Try.prog 39 #[.slice A0 l0.length c0,.int .i64 a1] w fun e w' => ∃ v0_:Value,e = .returned (.tuple #[v0_,.bool r2]) ∧ Kd.R k66 66 w' w.heap.size (fun _=>True) v0_ r1 ∧ Below w.heap.size w w':=by
 have hu66:=Try.underlying66;have HR0:=zM hr0;have HC0:=zM hc0;clear hr0 hc0;have HB:=zM (Below.refl w.heap.size w);have H:((impl_IsValidTides.f k l0).bind fun t497=>(if t497 = true then ((impl_within.f a1 0 2000).bind fun t498=>(impl_DeepWindows.j0 k l0 a1 (!t498))) else (impl_DeepWindows.j0 k l0 a1 true))) = some (r1,r2):=h
 clear h;have HC3:=zM H;clear H;go_enter Try.func39,Try.ntmps39
 go_upto_region 1 with (fail)
 go_cut [16] (fun v16 wc => ∃ (kq:Nat) (x16_2:Bool),v16 = .bool x16_2 ∧ Aside0 (impl_DeepWindows.j0 kq l0 a1 x16_2 = some (r1,r2)) ∧ Aside0 (kq ≤ k) ∧ Aside0 (Below w.heap.size w wc))
 case first =>
  have H:=HC3.out;clear HC3;replace H:=Option.bind_eq_some_iff.mp H;obtain ⟨t497,A40,H⟩:=H;replace H:(if t497 = true then ((impl_within.f a1 0 2000).bind fun t498=>(impl_DeepWindows.j0 k l0 a1 (!t498))) else (impl_DeepWindows.j0 k l0 a1 true)) = some (r1,r2):=H
  have A4:=zM A40;clear A40;by_cases c5:t497 = true
  ·subst c5
   have H1:((impl_within.f a1 0 2000).bind fun t498=>(impl_DeepWindows.j0 k l0 a1 (!t498))) = some (r1,r2):=by rw [if_pos rfl] at H;exact H
   clear H;have H:=H1;clear H1;replace H:=Option.bind_eq_some_iff.mp H;obtain ⟨t498,A60,H⟩:=H;replace H:(impl_DeepWindows.j0 k l0 a1 (!t498)) = some (r1,r2):=H
   have A6:=zM A60;clear A60;have H':=zM H;clear H;go_wp2_with (first|((with_reducible refine gate_callee (f:=17) rfl ?_);refine goesL_ (some 10) rfl rfl Try.func17 (by kernel_rfl) rfl #[.slice A0 l0.length c0] rfl (by (try simp only [List.map_toArray,List.map_cons,List.map_nil]);first|done|rfl|(simp only [List.length_drop,List.length_take];rfl)) ?_;(with_reducible refine (impl_IsValidTides.calls k _ _ l0 true _ ?side1 ?side2 A4.out).mono ?_);(case side1=>repeat (first|exact (zO HR0.out HB.out)|(with_reducible first|refine zG ?_ _|refine zH ?_ _|refine zI ?_)));(case side2=>exact HC0.out);rintro e w7 ⟨rfl,hb⟩;refine ⟨_,rfl,?_⟩;have n0_:=zM (zQ (by repeat (first|(with_reducible first|exact HB.out|apply zD|apply zE|apply zF)|exact HB.out)) hb);clear HB;have HB:=n0_;clear n0_;(try clear hb);(try clear hb2);(try clear hk);(try clear hi))|(go_at_call 54;(with_reducible refine (impl_within.calls a1 0 2000 t498 _ A6.out).mono ?_);rintro e w' ⟨rfl,⟨nd,rfl⟩⟩))
   go_meet
   case rel=>exact ⟨_,(!t498),(by first|rfl|(simp;done)|(simp [*];done)),H',⟨by first|omega|exact Nat.le_refl _⟩,⟨by repeat (first|(with_reducible first|exact HB.out|apply zD|apply zE|apply zF)|exact HB.out)⟩⟩
  ·replace c5:=Bool.eq_false_iff.mpr c5
   subst c5;have H1:(impl_DeepWindows.j0 k l0 a1 true) = some (r1,r2):=by rw [if_neg (show ¬ (false = true) by decide)] at H;exact H
   clear H;have H:=H1;clear H1;have H':=zM H;clear H;go_wp2_with (first|((with_reducible refine gate_callee (f:=17) rfl ?_);refine goesL_ (some 10) rfl rfl Try.func17 (by kernel_rfl) rfl #[.slice A0 l0.length c0] rfl (by (try simp only [List.map_toArray,List.map_cons,List.map_nil]);first|done|rfl|(simp only [List.length_drop,List.length_take];rfl)) ?_;(with_reducible refine (impl_IsValidTides.calls k _ _ l0 false _ ?side1 ?side2 A4.out).mono ?_);(case side1=>repeat (first|exact (zO HR0.out HB.out)|(with_reducible first|refine zG ?_ _|refine zH ?_ _|refine zI ?_)));(case side2=>exact HC0.out);rintro e w8 ⟨rfl,hb⟩;refine ⟨_,rfl,?_⟩;have n0_:=zM (zQ (by repeat (first|(with_reducible first|exact HB.out|apply zD|apply zE|apply zF)|exact HB.out)) hb);clear HB;have HB:=n0_;clear n0_;(try clear hb);(try clear hb2);(try clear hk);(try clear hi)))
   go_meet
   case rel=>exact ⟨_,(true),(by first|rfl|(simp;done)|(simp [*];done)),H',⟨by first|omega|exact Nat.le_refl _⟩,⟨by repeat (first|(with_reducible first|exact HB.out|apply zD|apply zE|apply zF)|exact HB.out)⟩⟩
 case rest =>
  clear HC3;(try clear c1);(try clear p2);(try clear c3);(try clear c5);obtain ⟨kq,x16_2,rfl,HA,HJ2,HB⟩:=hcut;cases kq with
  | zero=>exact absurd HA.out (by simp [impl_DeepWindows.j0])
  | succ kj2 =>
   have H:=HA.out;clear HA;simp only [impl_DeepWindows.j0] at H
   by_cases c9:x16_2 = true
   ·subst c9
    have H1:(some (([]:List (S66)),false)) = some (r1,r2):=by rw [if_pos rfl] at H;exact H
    clear H;have H:=H1;clear H1;simp only [Option.some.injEq,Prod.mk.injEq] at H
    obtain ⟨rfl,rfl⟩:=H;go_wp2
    go_ret2
    exact ⟨_,by first|rfl|(simp [errW_none,errW_some] <;> rfl)|(simp [*,errW_none,errW_some] <;> rfl),by first|exact Kd.R_nil _ _ _ _ _|exact Kd.N_nil _ _ _ _ _|exact Kd.V_nil _ _ _ _ _|exact Kd.Q_nil _ _ _ _ _|exact Kd.S_nil _ _ _ _ _,by repeat (first|(with_reducible first|exact HB.out|apply zD|apply zE|apply zF)|exact HB.out)⟩
   ·replace c9:=Bool.eq_false_iff.mpr c9
    subst c9;have H1:(if 0 < (l0.length:Int) then (impl_DeepWindows.l0 kj2 l0 a1 (([]:List (S66))) ((rd_T60 l0 0).f0)) else (none)) = some (r1,r2):=by rw [if_neg (show ¬ (false = true) by decide)] at H;exact H
    clear H;have H:=H1;clear H1;obtain ⟨y499,hy499⟩ : ∃ y_:List (S66),y_ = (([]:List (S66))):=⟨_,rfl⟩
    replace H:(if 0 < (l0.length:Int) then (impl_DeepWindows.l0 kj2 l0 a1 y499 ((rd_T60 l0 0).f0)) else (none)) = some (r1,r2):=by first|(rw [hy499];with_reducible exact H)|(have H2_:=(Option.bind_some _ _).symm.trans H;rw [hy499];with_reducible exact H2_)|(have H2_:=(Option.bind_some _ _).symm.trans H;with_reducible exact H2_)|with_reducible exact H|(rw [hy499];exact H)|exact H
    have Ny499:=zM hy499;clear hy499;by_cases c10:0 < (l0.length:Int)
    ·rw [if_pos c10] at H
     have c10b0:decide (0 < (l0.length:Int)) = true:=decide_eq_true c10
     have c10b1:decide (0 < l0.length) = true:=decide_eq_true (by omega)
     clear c10;have H':=zM H;clear H;go_wp2_with (first|((with_reducible refine gate_dst (N:=17) rfl ?_);refine Kd.R_lit k66 _ 66 ?hg (N:=17) ?hd (xs:=([]:List (S66))) (inner:=[]) (ok:=fun _=>True) (okp:=fun _=>True) ?hr ?hp (fun _ hk=>hk) trivial (Below.refl _ _) (Nat.le_refl _) (by simp) ?_;(case hd=>rfl);(case hg=>rfl);(case hr=>first|(go_simp;done)|(go_simp;rfl));(case hp=>exact (Reps.none _ _));intro v500 w11 ho12 hb hg_ hnew_;clear hg_ hnew_;(first|rw [← Ny499.out] at ho12|(simp only [Int.reduceToNat] at ho12;rw [← Ny499.out] at ho12));have n0_:=zM (Kd.R_lower ho12 (zR (by repeat (first|(with_reducible first|exact HB.out|apply zD|apply zE|apply zF)|exact HB.out))));have n1_:=zM (zQ (by repeat (first|(with_reducible first|exact HB.out|apply zD|apply zE|apply zF)|exact HB.out)) hb);clear HB;have HO501:=n0_;have HB:=n1_;clear n0_ n1_;clear hb ho12;have p502:0 ≤ (0:Int):=(by omega);have q502:0 < (l0.length:Int):=of_decide_eq_true (by first|(with_reducible assumption)|assumption);obtain ⟨ad502,e502,hx502_0,hx502_1⟩:=at_T60 HR0.out 0 p502 q502;cases e502;have qi502:(0 < l0.length) = True:=eq_true (by omega);(try rw [show ((0:Int)).toNat = 0 from rfl] at hx502_0);(try rw [show 0 * 2 = 0 from rfl] at hx502_0);(try rw [Addr.add_zero'] at hx502_0);(try rw [show ((0:Int)).toNat = 0 from rfl] at hx502_1);(try rw [show 0 * 2 = 0 from rfl] at hx502_1);(try rw [Addr.add_zero'] at hx502_1);replace hx502_0:=zS HB.out hx502_0;replace hx502_1:=zS HB.out hx502_1;replace p502:=eq_true p502;replace q502:=eq_true q502))
     go_loopg [6,7] kj2 (fun kq v6 v7 w' => ∃ (x6_2:List (S66)) (x7_2:Int),v7 = .int .i64 x7_2 ∧ Aside0 (impl_DeepWindows.l0 kq l0 a1 x6_2 x7_2 = some (r1,r2)) ∧ Aside0 (kq ≤ kj2) ∧ Aside0 (Kd.R k66 66 w' w.heap.size (fun _=>True) v6 x6_2) ∧ Aside0 (Below w.heap.size w w'))
     case atStart=>exact ⟨(y499),((rd_T60 l0 0).f0),(by first|rfl|(simp;done)|(simp [*];done)),H',⟨Nat.le_refl _⟩,⟨by (with_reducible repeat (first|apply zA|apply zB|apply zC));exact HO501.out⟩,⟨by repeat (first|(with_reducible first|exact HB.out|apply zD|apply zE|apply zF)|exact HB.out)⟩⟩
     case round =>
      clear H';(try clear c1);(try clear p2);(try clear c3);(try clear c5);(try clear p5);(try clear q5);(try clear hx5);(try clear qi5);(try clear c9);(try clear c10);(try clear c10b0);(try clear c10b1);(try clear hx502_0);(try clear hx502_1);(try clear p2);(try clear p502);(try clear q502);obtain ⟨x6_2,x7_2,rfl,HA,HK2,HO_6,HB⟩:=hrel;cases gk with
      | zero=>exact absurd HA.out (by simp [impl_DeepWindows.l0])
      | succ k2 =>
       have H:=HA.out;clear HA;simp only [impl_DeepWindows.l0] at H
       obtain ⟨ji13,hji13⟩ : ∃ j_:Int,(wrap64 ((l0.length:Int) - 1)) = j_:=⟨_,rfl⟩
       replace H:(if 0 ≤ (ji13) then (if (ji13) < (l0.length:Int) then (if x7_2 ≤ ((rd_T60 l0 (ji13)).f0) then ((impl_isDeep.f k2 l0 x7_2 a1).bind fun t504=>(if t504 = true then (if (wrap64 ((x6_2.length:Int) - 1)) ≥ 0 then (if 0 ≤ (wrap64 ((x6_2.length:Int) - 1)) then (if (wrap64 ((x6_2.length:Int) - 1)) < (x6_2.length:Int) then (if ((rd_T66 x6_2 (wrap64 ((x6_2.length:Int) - 1))).f1) = (wrap64 (x7_2 - 1)) then (impl_DeepWindows.l0 k2 l0 a1 (x6_2.set ((wrap64 ((x6_2.length:Int) - 1)):Int).toNat (⟨(rd_T66 x6_2 (wrap64 ((x6_2.length:Int) - 1))).f0,x7_2⟩ : S66)) (wrap64 (x7_2 + 1))) else (if x6_2.length < 8796093022208 then (impl_DeepWindows.l0 k2 l0 a1 (x6_2 ++ [(⟨x7_2,x7_2⟩ : S66)]) (wrap64 (x7_2 + 1))) else (none))) else (none)) else (none)) else (if x6_2.length < 8796093022208 then (impl_DeepWindows.l0 k2 l0 a1 (x6_2 ++ [(⟨x7_2,x7_2⟩ : S66)]) (wrap64 (x7_2 + 1))) else (none))) else (impl_DeepWindows.l0 k2 l0 a1 x6_2 (wrap64 (x7_2 + 1))))) else (some (x6_2,true))) else (none)) else (none)) = some (r1,r2):=by first|(rw [hji13] at H;exact H)|(simp only [hji13] at H ⊢;exact H)
       have hji13w:(IntKind.i64.wrap ((l0.length:Int) - 1)) = ji13:=(i64_w _).trans hji13
       by_cases c14:0 ≤ (ji13)
       ·rw [if_pos c14] at H
        have c14b0:decide (0 ≤ (ji13)) = true:=decide_eq_true c14
        clear c14;by_cases c15:(ji13) < (l0.length:Int)
        ·rw [if_pos c15] at H
         have c15b0:decide ((ji13) < (l0.length:Int)) = true:=decide_eq_true c15
         clear c15;by_cases c16:x7_2 ≤ ((rd_T60 l0 (ji13)).f0)
         ·rw [if_pos c16] at H
          have c16b0:decide (x7_2 ≤ ((rd_T60 l0 (ji13)).f0)) = true:=decide_eq_true c16
          clear c16;replace H:=Option.bind_eq_some_iff.mp H;obtain ⟨t504,A170,H⟩:=H;replace H:(if t504 = true then (if (wrap64 ((x6_2.length:Int) - 1)) ≥ 0 then (if 0 ≤ (wrap64 ((x6_2.length:Int) - 1)) then (if (wrap64 ((x6_2.length:Int) - 1)) < (x6_2.length:Int) then (if ((rd_T66 x6_2 (wrap64 ((x6_2.length:Int) - 1))).f1) = (wrap64 (x7_2 - 1)) then (impl_DeepWindows.l0 k2 l0 a1 (x6_2.set ((wrap64 ((x6_2.length:Int) - 1)):Int).toNat (⟨(rd_T66 x6_2 (wrap64 ((x6_2.length:Int) - 1))).f0,x7_2⟩ : S66)) (wrap64 (x7_2 + 1))) else (if x6_2.length < 8796093022208 then (impl_DeepWindows.l0 k2 l0 a1 (x6_2 ++ [(⟨x7_2,x7_2⟩ : S66)]) (wrap64 (x7_2 + 1))) else (none))) else (none)) else (none)) else (if x6_2.length < 8796093022208 then (impl_DeepWindows.l0 k2 l0 a1 (x6_2 ++ [(⟨x7_2,x7_2⟩ : S66)]) (wrap64 (x7_2 + 1))) else (none))) else (impl_DeepWindows.l0 k2 l0 a1 x6_2 (wrap64 (x7_2 + 1)))) = some (r1,r2):=H
          have A17:=zM A170;clear A170;by_cases c18:t504 = true
          ·subst c18
           have H1:(if (wrap64 ((x6_2.length:Int) - 1)) ≥ 0 then (if 0 ≤ (wrap64 ((x6_2.length:Int) - 1)) then (if (wrap64 ((x6_2.length:Int) - 1)) < (x6_2.length:Int) then (if ((rd_T66 x6_2 (wrap64 ((x6_2.length:Int) - 1))).f1) = (wrap64 (x7_2 - 1)) then (impl_DeepWindows.l0 k2 l0 a1 (x6_2.set ((wrap64 ((x6_2.length:Int) - 1)):Int).toNat (⟨(rd_T66 x6_2 (wrap64 ((x6_2.length:Int) - 1))).f0,x7_2⟩ : S66)) (wrap64 (x7_2 + 1))) else (if x6_2.length < 8796093022208 then (impl_DeepWindows.l0 k2 l0 a1 (x6_2 ++ [(⟨x7_2,x7_2⟩ : S66)]) (wrap64 (x7_2 + 1))) else (none))) else (none)) else (none)) else (if x6_2.length < 8796093022208 then (impl_DeepWindows.l0 k2 l0 a1 (x6_2 ++ [(⟨x7_2,x7_2⟩ : S66)]) (wrap64 (x7_2 + 1))) else (none))) = some (r1,r2):=by rw [if_pos rfl] at H;exact H
           clear H;have H:=H1;clear H1;by_cases c19:(wrap64 ((x6_2.length:Int) - 1)) ≥ 0
           ·rw [if_pos c19] at H
            have c19b0:decide (0 ≤ (wrap64 ((x6_2.length:Int) - 1))) = true:=decide_eq_true c19
            clear c19;obtain ⟨ji20,hji20⟩ : ∃ j_:Int,(wrap64 ((x6_2.length:Int) - 1)) = j_:=⟨_,rfl⟩
            replace H:(if 0 ≤ (ji20) then (if (ji20) < (x6_2.length:Int) then (if ((rd_T66 x6_2 (ji20)).f1) = (wrap64 (x7_2 - 1)) then (impl_DeepWindows.l0 k2 l0 a1 (x6_2.set ((ji20):Int).toNat (⟨(rd_T66 x6_2 (ji20)).f0,x7_2⟩ : S66)) (wrap64 (x7_2 + 1))) else (if x6_2.length < 8796093022208 then (impl_DeepWindows.l0 k2 l0 a1 (x6_2 ++ [(⟨x7_2,x7_2⟩ : S66)]) (wrap64 (x7_2 + 1))) else (none))) else (none)) else (none)) = some (r1,r2):=by first|(rw [hji20] at H;exact H)|(simp only [hji20] at H ⊢;exact H)
            (try rw [hji20] at c19b0)
            (try rw [hji20] at A17)
            have hji20w:(IntKind.i64.wrap ((x6_2.length:Int) - 1)) = ji20:=(i64_w _).trans hji20
            by_cases c21:0 ≤ (ji20)
            ·rw [if_pos c21] at H
             have c21b0:decide (0 ≤ (ji20)) = true:=decide_eq_true c21
             clear c21;by_cases c22:(ji20) < (x6_2.length:Int)
             ·rw [if_pos c22] at H
              have c22b0:decide ((ji20) < (x6_2.length:Int)) = true:=decide_eq_true c22
              clear c22;by_cases c23:((rd_T66 x6_2 (ji20)).f1) = (wrap64 (x7_2 - 1))
              ·rw [if_pos c23] at H
               have c23b0:(((rd_T66 x6_2 (ji20)).f1) == (wrap64 (x7_2 - 1))) = true:=beq_iff_eq.mpr c23
               have c23b1:(((rd_T66 x6_2 (ji20)).f1) != (wrap64 (x7_2 - 1))) = false:=bne_eq_false_iff_eq.mpr c23
               clear c23;obtain ⟨y506,hy506⟩ : ∃ y_:List (S66),y_ = (x6_2.set ((ji20):Int).toNat (⟨(rd_T66 x6_2 (ji20)).f0,x7_2⟩ : S66)):=⟨_,rfl⟩
               replace H:(impl_DeepWindows.l0 k2 l0 a1 y506 (wrap64 (x7_2 + 1))) = some (r1,r2):=by first|(rw [hy506];with_reducible exact H)|(have H2_:=(Option.bind_some _ _).symm.trans H;rw [hy506];with_reducible exact H2_)|(have H2_:=(Option.bind_some _ _).symm.trans H;with_reducible exact H2_)|with_reducible exact H|(rw [hy506];exact H)|exact H
               have Ny506:=zM hy506;clear hy506;have H':=zM H;clear H;have p503:0 ≤ ((ji13):Int):=of_decide_eq_true (by first|(with_reducible assumption)|assumption)
               have q503:(ji13) < (l0.length:Int):=of_decide_eq_true (by first|(with_reducible assumption)|assumption)
               obtain ⟨ad503,e503,hx503_0,hx503_1⟩:=at_T60 HR0.out (ji13) p503 q503;obtain rfl:ad502 = ad503:=(by injection e503)
               replace hx503_0:=zS HB.out hx503_0;replace hx503_1:=zS HB.out hx503_1;replace p503:=eq_true p503;replace q503:=eq_true q503;obtain ⟨Ao25,co25,eo25⟩:=Kd.R_slice HO_6.out;subst eo25;go_wp2_with (first|((with_reducible refine gate_callee (f:=67) rfl ?_);refine goesL_ (some 46) rfl rfl Try.func67 (by kernel_rfl) rfl #[.slice (some ad502) l0.length c0,.int .i64 x7_2,.int .i64 a1] rfl (by (try simp only [List.map_toArray,List.map_cons,List.map_nil]);first|done|rfl|(simp only [List.length_drop,List.length_take];rfl)) ?_;(with_reducible refine (impl_isDeep.calls k2 _ _ l0 x7_2 a1 true _ ?side1 ?side2 A17.out).mono ?_);(case side1=>repeat (first|exact (zO HR0.out HB.out)|(with_reducible first|refine zG ?_ _|refine zH ?_ _|refine zI ?_)));(case side2=>exact HC0.out);rintro e w26 ⟨rfl,hb⟩;refine ⟨_,rfl,?_⟩;have n0_:=zM (zP (by (with_reducible repeat (first|apply zA|apply zB|apply zC));exact HO_6.out) hb);have n1_:=zM (zQ (by repeat (first|(with_reducible first|exact HB.out|apply zD|apply zE|apply zF)|exact HB.out)) hb);clear HO_6;clear HB;have HO_6:=n0_;have HB:=n1_;clear n0_ n1_;(try clear hb);(try clear hb2);(try clear hk);(try clear hi);have p505:0 ≤ ((ji20):Int):=of_decide_eq_true (by first|(with_reducible assumption)|assumption);have q505:(ji20) < (x6_2.length:Int):=of_decide_eq_true (by first|(with_reducible assumption)|assumption);obtain ⟨ad505,e505,hx505_0,hx505_1⟩:=at_T66 (zN HO_6.out).2.2 (ji20) p505 q505;cases e505;replace p505:=eq_true p505;replace q505:=eq_true q505;have p24:0 ≤ ((ji20):Int):=of_decide_eq_true (by first|(with_reducible assumption)|assumption);have q24:((ji20):Int) < ((x6_2.length:Int):Int):=of_decide_eq_true (by first|(with_reducible assumption)|assumption);obtain ⟨go24,co24,eo24,gb24,gl24,cl24,HG24⟩:=Kd.R_form HO_6.out (by omega);(first|cases eo24|(injection eo24 with ea_ en_ ec_;(first|subst ea_|(injection ea_ with ea_;subst ea_));subst ec_;clear en_));have GB24:=zM gb24;have GG24:=zM HG24;clear gb24 gl24 HG24;(first|simp only [add_plain] at hx505_0|skip);(first|simp only [add_plain] at hx505_1|skip);obtain ⟨ce24,hcl24,hM24,hcc24,hfr24⟩:=Kd.R_elem HO_6.out z66 ((ji20):Int) p24 q24;obtain rfl:=k66_openM hM24;have hx24_0:w26.cell? ⟨go24,((ji20):Int).toNat * 2,none⟩ = some (.int .i64 ((rd_T66 x6_2 (ji20)).f0)):=hcc24 0 _ rfl;have hx24_1:w26.cell? ⟨go24,((ji20):Int).toNat * 2 + 1,none⟩ = some (.int .i64 ((rd_T66 x6_2 (ji20)).f1)):=hcc24 1 _ rfl;have hf24_0:w26.frozen? ⟨go24,((ji20):Int).toNat * 2,none⟩ = false:=hfr24 0;have hf24_1:w26.frozen? ⟨go24,((ji20):Int).toNat * 2 + 1,none⟩ = false:=hfr24 1;clear hcl24 hcc24 hfr24;(try clear hM24);replace p24:=eq_true p24;replace q24:=eq_true q24;have HX27:=zM (show Kd.R k66 66 w26 w.heap.size (fun _=>True) (.slice (some ⟨go24,0,none⟩) x6_2.length co25) x6_2 from (by (with_reducible repeat (first|apply zA|apply zB|apply zC));exact HO_6.out));obtain ⟨ce27,hcl27,hM27,hcc27,hfr27⟩:=Kd.R_elem HX27.out z66 ((ji20):Int) (of_decide_eq_true (by first|(with_reducible assumption)|assumption)) (by have h_:((ji20):Int) < ((x6_2.length:Int):Int):=of_decide_eq_true (by first|(with_reducible assumption)|assumption);first|exact h_|(have e_:=(zN HO_6.out).1;omega)|simpa using h_);obtain rfl:=k66_openM hM27;have HP27:=Kd.R_seg HX27.out ((ji20):Int) (of_decide_eq_true (by first|(with_reducible assumption)|assumption)) (by have h_:((ji20):Int) < ((x6_2.length:Int):Int):=of_decide_eq_true (by first|(with_reducible assumption)|assumption);first|exact h_|(have e_:=(zN HO_6.out).1;omega)|simpa using h_) (seg:=[.int .i64 x7_2]) (j:=1) hcl27 hcc27 (show 2 ≤ 2 from by decide) (x':=(⟨(rd_T66 x6_2 (ji20)).f0,x7_2⟩ : S66)) (k66_mkM _ _ _ (⟨(rd_T66 x6_2 (ji20)).f0,x7_2⟩ : S66) ) (fun _ hk=>hk);have hx27_1:=hcc27 1 _ rfl;(try simp only [show (k66).sz = 2 from rfl,Nat.mul_one,Nat.add_zero] at hx27_1);have hf27_1:=hfr27 1;(try simp only [show (k66).sz = 2 from rfl,Nat.mul_one,Nat.add_zero] at hf27_1);clear hcl27 hcc27 hfr27;(try clear hM27))|((with_reducible refine gate_store (t:=3) (p:=65) rfl ?_);refine store_event (t:=3) (p:=65) (v:=?vo_w28) (w1:=(w26.setCell ⟨go24,((ji20):Int).toNat * 2 + 1,none⟩ (.int .i64 x7_2))) ?hg ?ho ?hn ?hr ?_;(case ho=>rfl);(case hg=>rfl);(case hn=>rfl);(case hr=>first|(go_simp;done)|(go_simp;rfl));intro w28 hw;have hg:w26.grownBy w28 (some go24):=(by rw [hw];exact HP27.2);have hp_:Kd.R k66 66 w28 w.heap.size (fun _=>True) (.slice (some ⟨go24,0,none⟩) x6_2.length co25) y506:=(by rw [hw,Ny506.out];exact HP27.1);clear HP27;have n0_:=zM (hp_);have n1_:=zM ((by rw [hw];exact below_set (HB.out) GB24.out:Below w.heap.size w w28));clear HO_6;clear HB;have HO_6:=n0_;have HB:=n1_;clear n0_ n1_;clear hg hw hp_))
               go_roundg k2
               case measure=>have:=HJ2.out;have:=HK2.out;omega
               case rel=>exact ⟨(y506),(wrap64 (x7_2 + 1)),(by first|rfl|(simp;done)|(simp [*];done)),H',⟨by have:=HJ2.out;have:=HK2.out;omega⟩,⟨by (with_reducible repeat (first|apply zA|apply zB|apply zC));exact HO_6.out⟩,⟨by repeat (first|(with_reducible first|exact HB.out|apply zD|apply zE|apply zF)|exact HB.out)⟩⟩
              ·rw [if_neg c23] at H
               have c23b0:(((rd_T66 x6_2 (ji20)).f1) == (wrap64 (x7_2 - 1))) = false:=beq_eq_false_iff_ne.mpr c23
               have c23b1:(((rd_T66 x6_2 (ji20)).f1) != (wrap64 (x7_2 - 1))) = true:=bne_iff_ne.mpr c23
               by_cases c29:x6_2.length < 8796093022208
               ·rw [if_pos c29] at H
                have LMc29:=zM c29;clear c29;obtain ⟨y507,hy507⟩ : ∃ y_:List (S66),y_ = (x6_2 ++ [(⟨x7_2,x7_2⟩ : S66)]):=⟨_,rfl⟩
                replace H:(impl_DeepWindows.l0 k2 l0 a1 y507 (wrap64 (x7_2 + 1))) = some (r1,r2):=by first|(rw [hy507];with_reducible exact H)|(have H2_:=(Option.bind_some _ _).symm.trans H;rw [hy507];with_reducible exact H2_)|(have H2_:=(Option.bind_some _ _).symm.trans H;with_reducible exact H2_)|with_reducible exact H|(rw [hy507];exact H)|exact H
                have Ny507:=zM hy507;clear hy507;have H':=zM H;clear H;have p503:0 ≤ ((ji13):Int):=of_decide_eq_true (by first|(with_reducible assumption)|assumption)
                have q503:(ji13) < (l0.length:Int):=of_decide_eq_true (by first|(with_reducible assumption)|assumption)
                obtain ⟨ad503,e503,hx503_0,hx503_1⟩:=at_T60 HR0.out (ji13) p503 q503;obtain rfl:ad502 = ad503:=(by injection e503)
                replace hx503_0:=zS HB.out hx503_0;replace hx503_1:=zS HB.out hx503_1;replace p503:=eq_true p503;replace q503:=eq_true q503;obtain ⟨Ao30,co30,eo30⟩:=Kd.R_slice HO_6.out;subst eo30;go_wp2_with (first|((with_reducible refine gate_callee (f:=67) rfl ?_);refine goesL_ (some 46) rfl rfl Try.func67 (by kernel_rfl) rfl #[.slice (some ad502) l0.length c0,.int .i64 x7_2,.int .i64 a1] rfl (by (try simp only [List.map_toArray,List.map_cons,List.map_nil]);first|done|rfl|(simp only [List.length_drop,List.length_take];rfl)) ?_;(with_reducible refine (impl_isDeep.calls k2 _ _ l0 x7_2 a1 true _ ?side1 ?side2 A17.out).mono ?_);(case side1=>repeat (first|exact (zO HR0.out HB.out)|(with_reducible first|refine zG ?_ _|refine zH ?_ _|refine zI ?_)));(case side2=>exact HC0.out);rintro e w31 ⟨rfl,hb⟩;refine ⟨_,rfl,?_⟩;have n0_:=zM (zP (by (with_reducible repeat (first|apply zA|apply zB|apply zC));exact HO_6.out) hb);have n1_:=zM (zQ (by repeat (first|(with_reducible first|exact HB.out|apply zD|apply zE|apply zF)|exact HB.out)) hb);clear HO_6;clear HB;have HO_6:=n0_;have HB:=n1_;clear n0_ n1_;(try clear hb);(try clear hb2);(try clear hk);(try clear hi);have p505:0 ≤ ((ji20):Int):=of_decide_eq_true (by first|(with_reducible assumption)|assumption);have q505:(ji20) < (x6_2.length:Int):=of_decide_eq_true (by first|(with_reducible assumption)|assumption);obtain ⟨ad505,e505,hx505_0,hx505_1⟩:=at_T66 (zN HO_6.out).2.2 (ji20) p505 q505;cases e505;replace p505:=eq_true p505;replace q505:=eq_true q505)|((with_reducible refine gate_builtin (b := .append) (xs := #[.tmp 36,.tmp 40]) rfl ?_);at_builtin;refine Kd.R_append k66 (w0:=w) w.heap.size rfl (.tmp 36) (.tmp 40) 50 66 (.agg #[(.int .i64 0),(.int .i64 0)]) 16 rfl Try.underlying50 info66 rfl (by decide) (by omega) (.slice (some ad505) x6_2.length co30) x6_2 (⟨x7_2,x7_2⟩ : S66) [.int .i64 x7_2,.int .i64 x7_2] (fun _=>True) (fun _=>False) rfl rfl ?aP (fun _ hk=>hk.elim) ?aF ?aO ?aB ?aS ?aL ?_;(case aP=>exact k66_mkM _ _ _ (⟨x7_2,x7_2⟩ : S66));(case aB=>exact (by repeat (first|(with_reducible first|exact HB.out|apply zD|apply zE|apply zF)|exact HB.out)));(case aF=>exact (fun _ _=>trivial));(case aO=>exact (by (with_reducible repeat (first|apply zA|apply zB|apply zC));exact HO_6.out));(case aS=>exact (zR (by repeat (first|(with_reducible first|exact HB.out|apply zD|apply zE|apply zF)|exact HB.out))));(case aL=>have:=LMc29.out;omega);intro v508 w32 ho hb hg hat;rw [← Ny507.out] at ho;have n0_:=zM (hb);have n1_:=zM (ho);clear HB;clear HO_6;have HB:=n0_;have HO509:=n1_;clear n0_ n1_;clear ho hb hg hat))
                go_roundg k2
                case measure=>have:=HJ2.out;have:=HK2.out;omega
                case rel=>exact ⟨(y507),(wrap64 (x7_2 + 1)),(by first|rfl|(simp;done)|(simp [*];done)),H',⟨by have:=HJ2.out;have:=HK2.out;omega⟩,⟨by (with_reducible repeat (first|apply zA|apply zB|apply zC));exact HO509.out⟩,⟨by repeat (first|(with_reducible first|exact HB.out|apply zD|apply zE|apply zF)|exact HB.out)⟩⟩
               ·rw [if_neg c29] at H
                exact absurd H (by simp)
             ·rw [if_neg c22] at H
              exact absurd H (by simp)
            ·rw [if_neg c21] at H
             exact absurd H (by simp)
           ·rw [if_neg c19] at H
            have c19b0:decide (0 ≤ (wrap64 ((x6_2.length:Int) - 1))) = false:=decide_eq_false c19
            clear c19;by_cases c33:x6_2.length < 8796093022208
            ·rw [if_pos c33] at H
             have LMc33:=zM c33;clear c33;obtain ⟨y510,hy510⟩ : ∃ y_:List (S66),y_ = (x6_2 ++ [(⟨x7_2,x7_2⟩ : S66)]):=⟨_,rfl⟩
             replace H:(impl_DeepWindows.l0 k2 l0 a1 y510 (wrap64 (x7_2 + 1))) = some (r1,r2):=by first|(rw [hy510];with_reducible exact H)|(have H2_:=(Option.bind_some _ _).symm.trans H;rw [hy510];with_reducible exact H2_)|(have H2_:=(Option.bind_some _ _).symm.trans H;with_reducible exact H2_)|with_reducible exact H|(rw [hy510];exact H)|exact H
             have Ny510:=zM hy510;clear hy510;have H':=zM H;clear H;have p503:0 ≤ ((ji13):Int):=of_decide_eq_true (by first|(with_reducible assumption)|assumption)
             have q503:(ji13) < (l0.length:Int):=of_decide_eq_true (by first|(with_reducible assumption)|assumption)
             obtain ⟨ad503,e503,hx503_0,hx503_1⟩:=at_T60 HR0.out (ji13) p503 q503;obtain rfl:ad502 = ad503:=(by injection e503)
             replace hx503_0:=zS HB.out hx503_0;replace hx503_1:=zS HB.out hx503_1;replace p503:=eq_true p503;replace q503:=eq_true q503;obtain ⟨Ao34,co34,eo34⟩:=Kd.R_slice HO_6.out;subst eo34;go_wp2_with (first|((with_reducible refine gate_callee (f:=67) rfl ?_);refine goesL_ (some 46) rfl rfl Try.func67 (by kernel_rfl) rfl #[.slice (some ad502) l0.length c0,.int .i64 x7_2,.int .i64 a1] rfl (by (try simp only [List.map_toArray,List.map_cons,List.map_nil]);first|done|rfl|(simp only [List.length_drop,List.length_take];rfl)) ?_;(with_reducible refine (impl_isDeep.calls k2 _ _ l0 x7_2 a1 true _ ?side1 ?side2 A17.out).mono ?_);(case side1=>repeat (first|exact (zO HR0.out HB.out)|(with_reducible first|refine zG ?_ _|refine zH ?_ _|refine zI ?_)));(case side2=>exact HC0.out);rintro e w35 ⟨rfl,hb⟩;refine ⟨_,rfl,?_⟩;have n0_:=zM (zP (by (with_reducible repeat (first|apply zA|apply zB|apply zC));exact HO_6.out) hb);have n1_:=zM (zQ (by repeat (first|(with_reducible first|exact HB.out|apply zD|apply zE|apply zF)|exact HB.out)) hb);clear HO_6;clear HB;have HO_6:=n0_;have HB:=n1_;clear n0_ n1_;(try clear hb);(try clear hb2);(try clear hk);(try clear hi))|((with_reducible refine gate_builtin (b := .append) (xs := #[.tmp 36,.tmp 40]) rfl ?_);at_builtin;refine Kd.R_append k66 (w0:=w) w.heap.size rfl (.tmp 36) (.tmp 40) 50 66 (.agg #[(.int .i64 0),(.int .i64 0)]) 16 rfl Try.underlying50 info66 rfl (by decide) (by omega) (.slice Ao34 x6_2.length co34) x6_2 (⟨x7_2,x7_2⟩ : S66) [.int .i64 x7_2,.int .i64 x7_2] (fun _=>True) (fun _=>False) rfl rfl ?aP (fun _ hk=>hk.elim) ?aF ?aO ?aB ?aS ?aL ?_;(case aP=>exact k66_mkM _ _ _ (⟨x7_2,x7_2⟩ : S66));(case aB=>exact (by repeat (first|(with_reducible first|exact HB.out|apply zD|apply zE|apply zF)|exact HB.out)));(case aF=>exact (fun _ _=>trivial));(case aO=>exact (by (with_reducible repeat (first|apply zA|apply zB|apply zC));exact HO_6.out));(case aS=>exact (zR (by repeat (first|(with_reducible first|exact HB.out|apply zD|apply zE|apply zF)|exact HB.out))));(case aL=>have:=LMc33.out;omega);intro v511 w36 ho hb hg hat;rw [← Ny510.out] at ho;have n0_:=zM (hb);have n1_:=zM (ho);clear HB;clear HO_6;have HB:=n0_;have HO512:=n1_;clear n0_ n1_;clear ho hb hg hat))
             go_roundg k2
             case measure=>have:=HJ2.out;have:=HK2.out;omega
             case rel=>exact ⟨(y510),(wrap64 (x7_2 + 1)),(by first|rfl|(simp;done)|(simp [*];done)),H',⟨by have:=HJ2.out;have:=HK2.out;omega⟩,⟨by (with_reducible repeat (first|apply zA|apply zB|apply zC));exact HO512.out⟩,⟨by repeat (first|(with_reducible first|exact HB.out|apply zD|apply zE|apply zF)|exact HB.out)⟩⟩
            ·rw [if_neg c33] at H
             exact absurd H (by simp)
          ·replace c18:=Bool.eq_false_iff.mpr c18
           subst c18;have H1:(impl_DeepWindows.l0 k2 l0 a1 x6_2 (wrap64 (x7_2 + 1))) = some (r1,r2):=by rw [if_neg (show ¬ (false = true) by decide)] at H;exact H
           clear H;have H:=H1;clear H1;have H':=zM H;clear H;have p503:0 ≤ ((ji13):Int):=of_decide_eq_true (by first|(with_reducible assumption)|assumption)
           have q503:(ji13) < (l0.length:Int):=of_decide_eq_true (by first|(with_reducible assumption)|assumption)
           obtain ⟨ad503,e503,hx503_0,hx503_1⟩:=at_T60 HR0.out (ji13) p503 q503;obtain rfl:ad502 = ad503:=(by injection e503)
           replace hx503_0:=zS HB.out hx503_0;replace hx503_1:=zS HB.out hx503_1;replace p503:=eq_true p503;replace q503:=eq_true q503;obtain ⟨Ao37,co37,eo37⟩:=Kd.R_slice HO_6.out;subst eo37;go_wp2_with (first|((with_reducible refine gate_callee (f:=67) rfl ?_);refine goesL_ (some 46) rfl rfl Try.func67 (by kernel_rfl) rfl #[.slice (some ad502) l0.length c0,.int .i64 x7_2,.int .i64 a1] rfl (by (try simp only [List.map_toArray,List.map_cons,List.map_nil]);first|done|rfl|(simp only [List.length_drop,List.length_take];rfl)) ?_;(with_reducible refine (impl_isDeep.calls k2 _ _ l0 x7_2 a1 false _ ?side1 ?side2 A17.out).mono ?_);(case side1=>repeat (first|exact (zO HR0.out HB.out)|(with_reducible first|refine zG ?_ _|refine zH ?_ _|refine zI ?_)));(case side2=>exact HC0.out);rintro e w38 ⟨rfl,hb⟩;refine ⟨_,rfl,?_⟩;have n0_:=zM (zP (by (with_reducible repeat (first|apply zA|apply zB|apply zC));exact HO_6.out) hb);have n1_:=zM (zQ (by repeat (first|(with_reducible first|exact HB.out|apply zD|apply zE|apply zF)|exact HB.out)) hb);clear HO_6;clear HB;have HO_6:=n0_;have HB:=n1_;clear n0_ n1_;(try clear hb);(try clear hb2);(try clear hk);(try clear hi)))
           go_roundg k2
           case measure=>have:=HJ2.out;have:=HK2.out;omega
           case rel=>exact ⟨(x6_2),(wrap64 (x7_2 + 1)),(by first|rfl|(simp;done)|(simp [*];done)),H',⟨by have:=HJ2.out;have:=HK2.out;omega⟩,⟨by (with_reducible repeat (first|apply zA|apply zB|apply zC));exact HO_6.out⟩,⟨by repeat (first|(with_reducible first|exact HB.out|apply zD|apply zE|apply zF)|exact HB.out)⟩⟩
         ·rw [if_neg c16] at H
          have c16b0:decide (x7_2 ≤ ((rd_T60 l0 (ji13)).f0)) = false:=decide_eq_false c16
          clear c16;simp only [Option.some.injEq,Prod.mk.injEq] at H
          obtain ⟨rfl,rfl⟩:=H;have p503:0 ≤ ((ji13):Int):=of_decide_eq_true (by first|(with_reducible assumption)|assumption)
          have q503:(ji13) < (l0.length:Int):=of_decide_eq_true (by first|(with_reducible assumption)|assumption)
          obtain ⟨ad503,e503,hx503_0,hx503_1⟩:=at_T60 HR0.out (ji13) p503 q503;obtain rfl:ad502 = ad503:=(by injection e503)
          replace hx503_0:=zS HB.out hx503_0;replace hx503_1:=zS HB.out hx503_1;replace p503:=eq_true p503;replace q503:=eq_true q503;go_wp2
          go_ret2
          exact ⟨_,by first|rfl|(simp [errW_none,errW_some] <;> rfl)|(simp only [← hji13];first|rfl|(simp [errW_none,errW_some] <;> rfl))|(simp [*,errW_none,errW_some] <;> rfl),by (with_reducible repeat (first|apply zA|apply zB|apply zC));exact HO_6.out,by repeat (first|(with_reducible first|exact HB.out|apply zD|apply zE|apply zF)|exact HB.out)⟩
        ·rw [if_neg c15] at H
         exact absurd H (by simp)
       ·rw [if_neg c14] at H
        exact absurd H (by simp)
    ·rw [if_neg c10] at H
     exact absurd H (by simp)



/-! ### laws_rBig: function 43 -/
def laws_rBig.f (l0:List Int):Option (Bool):=some (decide ((l0.length:Int) > 65536))
set_option maxHeartbeats 8000000 in
set_option maxRecDepth 100000 in
theorem laws_rBig.calls (A0:Option Addr) (c0:Nat) (l0:List Int) (r:Bool) (w:World) (hr0:Kd.C (Kd.int .u8) w A0 l0.length l0) (hc0:l0.length ≤ c0) (h:laws_rBig.f l0 = some r) :
  Calls Try.prog 43 #[.slice A0 l0.length c0] w fun e w'=>e = .returned (.bool r) ∧ Drawn0 w w':=by
 have HR0:=zM hr0;have HC0:=zM hc0;clear hr0 hc0;have H:(some (decide ((l0.length:Int) > 65536))) = some r:=h
 clear h;obtain rfl:=Option.some.inj H;go_enter Try.func43,Try.ntmps43
 go_wp2
 go_ret
 exact ⟨by first|rfl|(simp;done)|(simp [*];done),by repeat (first|exact Drawn0.refl _|apply Drawn0.step)⟩

/-- A state of type 87 at block g of W; what its slices lead to came in by w0. -/
def IsS87 (w0 W:World) (g:Nat) (f0:List Int) (f1:Int) (f2:Int):Prop := ∃ A0 c0,W.heap[g]? = some (.cells #[.slice A0 f0.length c0,.int .i64 f1,.int .u64 f2] 87 (0,0)) ∧ w0.heap.size ≤ g ∧ Kd.C (Kd.int .u8) w0 A0 f0.length f0
theorem IsS87.grown {w0 W:World} {g:Nat} {f0:List Int} {f1:Int} {f2:Int} {W1:World} {row:Option Nat} (h:IsS87 w0 W g f0 f1 f2) (hw:W.grownBy W1 row) (hne:some g ≠ row):IsS87 w0 W1 g f0 f1 f2:=by
 obtain ⟨A0,c0,hb,hg,hr0⟩:=h;exact ⟨A0,c0,blk_grown hb hw hne,hg,hr0⟩
theorem IsS87.below {w0 W:World} {g:Nat} {f0:List Int} {f1:Int} {f2:Int} {W1:World} (h:IsS87 w0 W g f0 f1 f2) (hw:Below W.heap.size W W1):IsS87 w0 W1 g f0 f1 f2:=h.grown (grown_of_below hw none) (by simp)
theorem IsS87.alloc {w0 W:World} {g:Nat} {f0:List Int} {f1:Int} {f2:Int} (h:IsS87 w0 W g f0 f1 f2) (o:Obj):IsS87 w0 (W.alloc o) g f0 f1 f2:=h.below (zD (Below.refl _ _) o)
theorem IsS87.drewN {w0 W:World} {g:Nat} {f0:List Int} {f1:Int} {f2:Int} (h:IsS87 w0 W g f0 f1 f2) (m:Nat):IsS87 w0 (W.drewN m) g f0 f1 f2:=h
theorem IsS87.drew {w0 W:World} {g:Nat} {f0:List Int} {f1:Int} {f2:Int} (h:IsS87 w0 W g f0 f1 f2):IsS87 w0 W.drew g f0 f1 f2:=h
theorem IsS87.apart {w0 W:World} {g:Nat} {f0:List Int} {f1:Int} {f2:Int} {α:Type} {d:Kd α} {e:Nat} {base:Nat} {ok:Nat → Prop} {v:Value} {xs:List α} (h:IsS87 w0 W g f0 f1 f2) (ho:d.R e W base ok v xs) (ht:∀ q,q ∈ e :: d.E → q ≠ 87):d.R e W base (fun k=>ok k ∧ k ≠ g) v xs:=by
 obtain ⟨A0,c0,hb,hg,hr0⟩:=h;exact Kd.R_types ho hb ht
theorem IsS87.own_ne {w0 W:World} {g:Nat} {f0:List Int} {f1:Int} {f2:Int} {α:Type} {d:Kd α} {e:Nat} {base:Nat} {ok:Nat → Prop} {v:Value} {xs:List α} (h:IsS87 w0 W g f0 f1 f2) (ho:d.R e W base ok v xs) (ht:e ≠ 87):some g ≠ v.ownBlock:=by
 obtain ⟨A0,c0,hb,hg,hr0⟩:=h;exact Kd.R_ne ho hb ht
theorem IsS87.lt {w0 W:World} {g:Nat} {f0:List Int} {f1:Int} {f2:Int} (h:IsS87 w0 W g f0 f1 f2):g < W.heap.size:=by
 obtain ⟨A0,c0,hb,hg,hr0⟩:=h;exact blk_lt hb
theorem IsS87.ge {w0 W:World} {g:Nat} {f0:List Int} {f1:Int} {f2:Int} (h:IsS87 w0 W g f0 f1 f2):w0.heap.size ≤ g:=by
 obtain ⟨A0,c0,hb,hg,hr0⟩:=h;exact hg
theorem IsS87.far {w0 W:World} {g:Nat} {f0:List Int} {f1:Int} {f2:Int} {p:Addr} (h:IsS87 w0 W g f0 f1 f2) (hne:g ≠ p.block) (u:Value):IsS87 w0 (W.setCell p u) g f0 f1 f2:=by
 obtain ⟨A0,c0,hb,hg,hr0⟩:=h;exact ⟨A0,c0,blk_far hb hne u,hg,hr0⟩
theorem cellS87_0 {W:World} {g:Nat} {A0:Option Addr} {c0:Nat} {f0:List Int} {f1:Int} {f2:Int} (h:W.heap[g]? = some (.cells #[.slice A0 f0.length c0,.int .i64 f1,.int .u64 f2] 87 (0,0))):W.cell? ⟨g,0,none⟩ = some (.slice A0 f0.length c0):=(blk_cell h 0).trans rfl
theorem cellS87_1 {W:World} {g:Nat} {A0:Option Addr} {c0:Nat} {f0:List Int} {f1:Int} {f2:Int} (h:W.heap[g]? = some (.cells #[.slice A0 f0.length c0,.int .i64 f1,.int .u64 f2] 87 (0,0))):W.cell? ⟨g,1,none⟩ = some (.int .i64 f1):=(blk_cell h 1).trans rfl
theorem IsS87.set_1 {w0 W:World} {g:Nat} {f0:List Int} {f1:Int} {f2:Int} (h:IsS87 w0 W g f0 f1 f2) (x:Int):IsS87 w0 (W.setCell ⟨g,1,none⟩ (.int .i64 x)) g f0 x f2:=by
 obtain ⟨A0,c0,hb,hg,hr0⟩:=h;exact ⟨A0,c0,by simpa using blk_set hb 1 (.int .i64 x),hg,hr0⟩
theorem cellS87_2 {W:World} {g:Nat} {A0:Option Addr} {c0:Nat} {f0:List Int} {f1:Int} {f2:Int} (h:W.heap[g]? = some (.cells #[.slice A0 f0.length c0,.int .i64 f1,.int .u64 f2] 87 (0,0))):W.cell? ⟨g,2,none⟩ = some (.int .u64 f2):=(blk_cell h 2).trans rfl
theorem IsS87.set_2 {w0 W:World} {g:Nat} {f0:List Int} {f1:Int} {f2:Int} (h:IsS87 w0 W g f0 f1 f2) (x:Int):IsS87 w0 (W.setCell ⟨g,2,none⟩ (.int .u64 x)) g f0 f1 x:=by
 obtain ⟨A0,c0,hb,hg,hr0⟩:=h;exact ⟨A0,c0,by simpa using blk_set hb 2 (.int .u64 x),hg,hr0⟩
/-! ### spec_l1Cur_next: function 75 -/
def spec_l1Cur_next.f (s0_0:List Int) (s0_1:Int) (s0_2:Int):Option (Int × Int × Int):=if s0_1 < (s0_0.length:Int) then (if 0 ≤ s0_1 then (if (wrap64 (s0_1 + 1)) ≤ (s0_0.length:Int) then (some (wrap64 (rd s0_0 s0_1),wrap64 (s0_1 + 1),IntKind.u64.wrap ((IntKind.u64.wrap ((IntKind.u64.wrap (s0_2 * 6364136223846793005)) + (IntKind.u64.wrap (wrap64 (rd s0_0 s0_1))))) + 906906))) else (some (wrap64 (Go.bits .and .u64 ((IntKind.u64.wrap ((IntKind.u64.wrap ((IntKind.u64.wrap (s0_2 * 6364136223846793005)) + (IntKind.u64.wrap (wrap64 (rd s0_0 s0_1))))) + 906906)) / 1099511627776) 255),wrap64 (s0_1 + 1),IntKind.u64.wrap ((IntKind.u64.wrap ((IntKind.u64.wrap (s0_2 * 6364136223846793005)) + (IntKind.u64.wrap (wrap64 (rd s0_0 s0_1))))) + 906906)))) else (none)) else (if (wrap64 (s0_1 + 1)) ≤ (s0_0.length:Int) then (some (0,wrap64 (s0_1 + 1),IntKind.u64.wrap ((IntKind.u64.wrap (IntKind.u64.wrap (s0_2 * 6364136223846793005))) + 906906))) else (some (wrap64 (Go.bits .and .u64 ((IntKind.u64.wrap ((IntKind.u64.wrap (IntKind.u64.wrap (s0_2 * 6364136223846793005))) + 906906)) / 1099511627776) 255),wrap64 (s0_1 + 1),IntKind.u64.wrap ((IntKind.u64.wrap (IntKind.u64.wrap (s0_2 * 6364136223846793005))) + 906906))))
set_option maxHeartbeats 8000000 in
set_option maxRecDepth 100000 in
theorem spec_l1Cur_next.calls (g:Nat) (s0_0:List Int) (s0_1:Int) (s0_2:Int) (r1:Int) (r2:Int) (r3:Int) (w0 w:World) (hI:IsS87 w0 w g s0_0 s0_1 s0_2) (hB:Below w0.heap.size w0 w) (h:spec_l1Cur_next.f s0_0 s0_1 s0_2 = some (r1,r2,r3)) :
  Calls Try.prog 75 #[.pointer (some ⟨g,0,none⟩)] w fun e w'=>e = .returned (.int .i64 r1) ∧ IsS87 w0 w' g s0_0 r2 r3 ∧ Below w0.heap.size w0 w' ∧ KeepBut w w' g none:=by
 have HI0:=zM hI;have HK:=zM (KeepBut.refl w g none);have HL:=zM hB.size;clear hI;have HW0:=zM hB.size;have HB:=zM hB;clear hB;have H:(if s0_1 < (s0_0.length:Int) then (if 0 ≤ s0_1 then (if (wrap64 (s0_1 + 1)) ≤ (s0_0.length:Int) then (some (wrap64 (rd s0_0 s0_1),wrap64 (s0_1 + 1),IntKind.u64.wrap ((IntKind.u64.wrap ((IntKind.u64.wrap (s0_2 * 6364136223846793005)) + (IntKind.u64.wrap (wrap64 (rd s0_0 s0_1))))) + 906906))) else (some (wrap64 (Go.bits .and .u64 ((IntKind.u64.wrap ((IntKind.u64.wrap ((IntKind.u64.wrap (s0_2 * 6364136223846793005)) + (IntKind.u64.wrap (wrap64 (rd s0_0 s0_1))))) + 906906)) / 1099511627776) 255),wrap64 (s0_1 + 1),IntKind.u64.wrap ((IntKind.u64.wrap ((IntKind.u64.wrap (s0_2 * 6364136223846793005)) + (IntKind.u64.wrap (wrap64 (rd s0_0 s0_1))))) + 906906)))) else (none)) else (if (wrap64 (s0_1 + 1)) ≤ (s0_0.length:Int) then (some (0,wrap64 (s0_1 + 1),IntKind.u64.wrap ((IntKind.u64.wrap (IntKind.u64.wrap (s0_2 * 6364136223846793005))) + 906906))) else (some (wrap64 (Go.bits .and .u64 ((IntKind.u64.wrap ((IntKind.u64.wrap (IntKind.u64.wrap (s0_2 * 6364136223846793005))) + 906906)) / 1099511627776) 255),wrap64 (s0_1 + 1),IntKind.u64.wrap ((IntKind.u64.wrap (IntKind.u64.wrap (s0_2 * 6364136223846793005))) + 906906))))) = some (r1,r2,r3):=h
 clear h;by_cases c2:s0_1 < (s0_0.length:Int)
 ·rw [if_pos c2] at H
  have c2b0:decide (s0_1 < (s0_0.length:Int)) = true:=decide_eq_true c2
  clear c2;by_cases c3:0 ≤ s0_1
  ·rw [if_pos c3] at H
   have c3b0:decide (0 ≤ s0_1) = true:=decide_eq_true c3
   clear c3;by_cases c4:(wrap64 (s0_1 + 1)) ≤ (s0_0.length:Int)
   ·rw [if_pos c4] at H
    have c4b0:decide ((wrap64 (s0_1 + 1)) ≤ (s0_0.length:Int)) = true:=decide_eq_true c4
    clear c4;simp only [Option.some.injEq,Prod.mk.injEq] at H
    obtain ⟨rfl,rfl,rfl⟩:=H;obtain ⟨ASz5_0,cSz5_0,HGz5,hgz5,HSz5_0⟩:=HI0.out;have hcz5_0:=cellS87_0 HGz5;have hcz5_1:=cellS87_1 HGz5;have hcz5_2:=cellS87_2 HGz5;have hfz5_1:=blk_frozen HGz5 1;have hfz5_2:=blk_frozen HGz5 2;clear HGz5 hgz5;have p557:0 ≤ (s0_1:Int):=of_decide_eq_true (by first|(with_reducible assumption)|assumption)
    have q557:s0_1 < (s0_0.length:Int):=of_decide_eq_true (by first|(with_reducible assumption)|assumption)
    obtain ⟨ad557,e557,hx557_0⟩:=Kd.at_int HSz5_0 s0_1 p557 q557;cases e557
    replace hx557_0:=pw_cell_below HB.out hx557_0;replace p557:=eq_true p557;replace q557:=eq_true q557;go_enter Try.func75,Try.ntmps75
    go_wp2
    repeat (go_quiet (fail);try go_wp2)
    go_ret
    exact ⟨by first|rfl|(simp [errW_none,errW_some] <;> rfl)|(simp [*,errW_none,errW_some] <;> rfl),by repeat (first|(with_reducible first|exact HI0.out|apply IsS87.alloc|apply IsS87.drewN|apply IsS87.drew|apply IsS87.set_1|apply IsS87.set_2)|exact HI0.out),by repeat (first|(with_reducible first|exact HB.out|apply zD|apply zE|apply zF|refine below_set ?_ (IsS87.ge HI0.out))|exact HB.out),by repeat (first|(with_reducible first|exact HK.out|apply KeepBut.set_|apply keep_drewN|apply keep_drew|apply keep_alloc)|exact HK.out)⟩
   ·rw [if_neg c4] at H
    have c4b0:decide ((wrap64 (s0_1 + 1)) ≤ (s0_0.length:Int)) = false:=decide_eq_false c4
    clear c4;simp only [Option.some.injEq,Prod.mk.injEq] at H
    obtain ⟨rfl,rfl,rfl⟩:=H;obtain ⟨ASz6_0,cSz6_0,HGz6,hgz6,HSz6_0⟩:=HI0.out;have hcz6_0:=cellS87_0 HGz6;have hcz6_1:=cellS87_1 HGz6;have hcz6_2:=cellS87_2 HGz6;have hfz6_1:=blk_frozen HGz6 1;have hfz6_2:=blk_frozen HGz6 2;clear HGz6 hgz6;have p557:0 ≤ (s0_1:Int):=of_decide_eq_true (by first|(with_reducible assumption)|assumption)
    have q557:s0_1 < (s0_0.length:Int):=of_decide_eq_true (by first|(with_reducible assumption)|assumption)
    obtain ⟨ad557,e557,hx557_0⟩:=Kd.at_int HSz6_0 s0_1 p557 q557;cases e557
    replace hx557_0:=pw_cell_below HB.out hx557_0;replace p557:=eq_true p557;replace q557:=eq_true q557;go_enter Try.func75,Try.ntmps75
    go_wp2
    repeat (go_quiet (fail);try go_wp2)
    go_ret
    exact ⟨by first|rfl|(simp [errW_none,errW_some] <;> rfl)|(simp [*,errW_none,errW_some] <;> rfl),by repeat (first|(with_reducible first|exact HI0.out|apply IsS87.alloc|apply IsS87.drewN|apply IsS87.drew|apply IsS87.set_1|apply IsS87.set_2)|exact HI0.out),by repeat (first|(with_reducible first|exact HB.out|apply zD|apply zE|apply zF|refine below_set ?_ (IsS87.ge HI0.out))|exact HB.out),by repeat (first|(with_reducible first|exact HK.out|apply KeepBut.set_|apply keep_drewN|apply keep_drew|apply keep_alloc)|exact HK.out)⟩
  ·rw [if_neg c3] at H
   exact absurd H (by simp)
 ·rw [if_neg c2] at H
  have c2b0:decide (s0_1 < (s0_0.length:Int)) = false:=decide_eq_false c2
  clear c2;by_cases c7:(wrap64 (s0_1 + 1)) ≤ (s0_0.length:Int)
  ·rw [if_pos c7] at H
   have c7b0:decide ((wrap64 (s0_1 + 1)) ≤ (s0_0.length:Int)) = true:=decide_eq_true c7
   clear c7;simp only [Option.some.injEq,Prod.mk.injEq] at H
   obtain ⟨rfl,rfl,rfl⟩:=H;obtain ⟨ASz8_0,cSz8_0,HGz8,hgz8,HSz8_0⟩:=HI0.out;have hcz8_0:=cellS87_0 HGz8;have hcz8_1:=cellS87_1 HGz8;have hcz8_2:=cellS87_2 HGz8;have hfz8_1:=blk_frozen HGz8 1;have hfz8_2:=blk_frozen HGz8 2;clear HGz8 hgz8;go_enter Try.func75,Try.ntmps75
   go_wp2
   repeat (go_quiet (fail);try go_wp2)
   go_ret
   exact ⟨by first|rfl|(simp [errW_none,errW_some] <;> rfl)|(simp [*,errW_none,errW_some] <;> rfl),by repeat (first|(with_reducible first|exact HI0.out|apply IsS87.alloc|apply IsS87.drewN|apply IsS87.drew|apply IsS87.set_1|apply IsS87.set_2)|exact HI0.out),by repeat (first|(with_reducible first|exact HB.out|apply zD|apply zE|apply zF|refine below_set ?_ (IsS87.ge HI0.out))|exact HB.out),by repeat (first|(with_reducible first|exact HK.out|apply KeepBut.set_|apply keep_drewN|apply keep_drew|apply keep_alloc)|exact HK.out)⟩
  ·rw [if_neg c7] at H
   have c7b0:decide ((wrap64 (s0_1 + 1)) ≤ (s0_0.length:Int)) = false:=decide_eq_false c7
   clear c7;simp only [Option.some.injEq,Prod.mk.injEq] at H
   obtain ⟨rfl,rfl,rfl⟩:=H;obtain ⟨ASz9_0,cSz9_0,HGz9,hgz9,HSz9_0⟩:=HI0.out;have hcz9_0:=cellS87_0 HGz9;have hcz9_1:=cellS87_1 HGz9;have hcz9_2:=cellS87_2 HGz9;have hfz9_1:=blk_frozen HGz9 1;have hfz9_2:=blk_frozen HGz9 2;clear HGz9 hgz9;go_enter Try.func75,Try.ntmps75
   go_wp2
   repeat (go_quiet (fail);try go_wp2)
   go_ret
   exact ⟨by first|rfl|(simp [errW_none,errW_some] <;> rfl)|(simp [*,errW_none,errW_some] <;> rfl),by repeat (first|(with_reducible first|exact HI0.out|apply IsS87.alloc|apply IsS87.drewN|apply IsS87.drew|apply IsS87.set_1|apply IsS87.set_2)|exact HI0.out),by repeat (first|(with_reducible first|exact HB.out|apply zD|apply zE|apply zF|refine below_set ?_ (IsS87.ge HI0.out))|exact HB.out),by repeat (first|(with_reducible first|exact HK.out|apply KeepBut.set_|apply keep_drewN|apply keep_drew|apply keep_alloc)|exact HK.out)⟩



/-! ### spec_l1Cur_pick: function 72 -/
def spec_l1Cur_pick.f (s0_0:List Int) (s0_1:Int) (s0_2:Int) (a1:Int):Option (Int × Int × Int):=if a1 ≤ 1 then (some (0,s0_1,s0_2)) else ((spec_l1Cur_next.f s0_0 s0_1 s0_2).bind fun bt558=>(if a1 > 200 then ((spec_l1Cur_next.f s0_0 bt558.2.1 bt558.2.2).bind fun bt561=>(if a1 = 0 then (none) else (some (Int.tmod (wrap64 ((wrap64 (bt558.1 * 256)) + bt561.1)) a1,bt561.2.1,bt561.2.2)))) else (if a1 = 0 then (none) else (some (Int.tmod bt558.1 a1,bt558.2.1,bt558.2.2)))))
set_option maxHeartbeats 8000000 in
set_option maxRecDepth 100000 in
theorem spec_l1Cur_pick.calls (g:Nat) (s0_0:List Int) (s0_1:Int) (s0_2:Int) (a1:Int) (r1:Int) (r2:Int) (r3:Int) (w0 w:World) (hI:IsS87 w0 w g s0_0 s0_1 s0_2) (hB:Below w0.heap.size w0 w) (h:spec_l1Cur_pick.f s0_0 s0_1 s0_2 a1 = some (r1,r2,r3)) :
  Calls Try.prog 72 #[.pointer (some ⟨g,0,none⟩),.int .i64 a1] w fun e w'=>e = .returned (.int .i64 r1) ∧ IsS87 w0 w' g s0_0 r2 r3 ∧ Below w0.heap.size w0 w' ∧ KeepBut w w' g none:=by
 have HI0:=zM hI;have HK:=zM (KeepBut.refl w g none);have HL:=zM hB.size;clear hI;have HW0:=zM hB.size;have HB:=zM hB;clear hB;have H:(if a1 ≤ 1 then (some (0,s0_1,s0_2)) else ((spec_l1Cur_next.f s0_0 s0_1 s0_2).bind fun bt558=>(if a1 > 200 then ((spec_l1Cur_next.f s0_0 bt558.2.1 bt558.2.2).bind fun bt561=>(if a1 = 0 then (none) else (some (Int.tmod (wrap64 ((wrap64 (bt558.1 * 256)) + bt561.1)) a1,bt561.2.1,bt561.2.2)))) else (if a1 = 0 then (none) else (some (Int.tmod bt558.1 a1,bt558.2.1,bt558.2.2)))))) = some (r1,r2,r3):=h
 clear h;by_cases c3:a1 ≤ 1
 ·rw [if_pos c3] at H
  have c3b0:decide (a1 ≤ 1) = true:=decide_eq_true c3
  clear c3;simp only [Option.some.injEq,Prod.mk.injEq] at H
  obtain ⟨rfl,rfl,rfl⟩:=H;go_enter Try.func72,Try.ntmps72
  go_wp2
  go_ret
  exact ⟨by first|rfl|(simp [errW_none,errW_some] <;> rfl)|(simp [*,errW_none,errW_some] <;> rfl),by repeat (first|(with_reducible first|exact HI0.out|apply IsS87.alloc|apply IsS87.drewN|apply IsS87.drew|apply IsS87.set_1|apply IsS87.set_2)|exact HI0.out),by repeat (first|(with_reducible first|exact HB.out|apply zD|apply zE|apply zF|refine below_set ?_ (IsS87.ge HI0.out))|exact HB.out),by repeat (first|(with_reducible first|exact HK.out|apply KeepBut.set_|apply keep_drewN|apply keep_drew|apply keep_alloc)|exact HK.out)⟩
 ·rw [if_neg c3] at H
  have c3b0:decide (a1 ≤ 1) = false:=decide_eq_false c3
  clear c3;replace H:=Option.bind_eq_some_iff.mp H;obtain ⟨⟨t558,t559,t560⟩,A40,H⟩:=H;replace H:(if a1 > 200 then ((spec_l1Cur_next.f s0_0 t559 t560).bind fun bt561=>(if a1 = 0 then (none) else (some (Int.tmod (wrap64 ((wrap64 (t558 * 256)) + bt561.1)) a1,bt561.2.1,bt561.2.2)))) else (if a1 = 0 then (none) else (some (Int.tmod t558 a1,t559,t560)))) = some (r1,r2,r3):=H
  have A4:=zM A40;clear A40;by_cases c5:a1 > 200
  ·rw [if_pos c5] at H
   have c5b0:decide (200 < a1) = true:=decide_eq_true c5
   clear c5;replace H:=Option.bind_eq_some_iff.mp H;obtain ⟨⟨t561,t562,t563⟩,A60,H⟩:=H;replace H:(if a1 = 0 then (none) else (some (Int.tmod (wrap64 ((wrap64 (t558 * 256)) + t561)) a1,t562,t563))) = some (r1,r2,r3):=H
   have A6:=zM A60;clear A60;by_cases c7:a1 = 0
   ·rw [if_pos c7] at H
    exact absurd H (by simp)
   ·rw [if_neg c7] at H
    have c7b0:(a1 == 0) = false:=beq_eq_false_iff_ne.mpr c7
    have c7b1:(a1 != 0) = true:=bne_iff_ne.mpr c7
    simp only [Option.some.injEq,Prod.mk.injEq] at H
    obtain ⟨rfl,rfl,rfl⟩:=H;go_enter Try.func72,Try.ntmps72
    go_wp2_with (first|((with_reducible refine gate_callee (f:=75) rfl ?_);refine goesL_ (some 9) rfl rfl Try.func75 (by kernel_rfl) rfl #[.pointer (some ⟨g,0,none⟩)] rfl (by (try simp only [List.map_toArray,List.map_cons,List.map_nil]);first|done|rfl|(simp only [List.length_drop,List.length_take];rfl)) ?_;(with_reducible refine (spec_l1Cur_next.calls g s0_0 s0_1 s0_2 t558 t559 t560 w0 _ ?side1 ?side2 A4.out).mono ?_);(case side1=>repeat (first|(with_reducible first|exact HI0.out|apply IsS87.alloc|apply IsS87.drewN|apply IsS87.drew|apply IsS87.set_1|apply IsS87.set_2)|exact HI0.out));(case side2=>repeat (first|(with_reducible first|exact HB.out|apply zD|apply zE|apply zF|refine below_set ?_ (IsS87.ge HI0.out))|exact HB.out));rintro e w8 ⟨rfl,hi,hb,hk⟩;refine ⟨_,rfl,?_⟩;have n0_:=zM (KeepBut.trans (by repeat (first|(with_reducible first|exact HK.out|apply KeepBut.set_|apply keep_drewN|apply keep_drew|apply keep_alloc)|exact HK.out)) hk (.inl rfl));have n1_:=zM (hb);have n2_:=zM (hi);clear HK;clear HB;clear HI0;have HK:=n0_;have HB:=n1_;have HI0:=n2_;clear n0_ n1_ n2_;(try clear hb);(try clear hb2);(try clear hk);(try clear hi))|((with_reducible refine gate_callee (f:=75) rfl ?_);refine goesL_ (some 15) rfl rfl Try.func75 (by kernel_rfl) rfl #[.pointer (some ⟨g,0,none⟩)] rfl (by (try simp only [List.map_toArray,List.map_cons,List.map_nil]);first|done|rfl|(simp only [List.length_drop,List.length_take];rfl)) ?_;(with_reducible refine (spec_l1Cur_next.calls g s0_0 t559 t560 t561 t562 t563 w0 _ ?side1 ?side2 A6.out).mono ?_);(case side1=>repeat (first|(with_reducible first|exact HI0.out|apply IsS87.alloc|apply IsS87.drewN|apply IsS87.drew|apply IsS87.set_1|apply IsS87.set_2)|exact HI0.out));(case side2=>repeat (first|(with_reducible first|exact HB.out|apply zD|apply zE|apply zF|refine below_set ?_ (IsS87.ge HI0.out))|exact HB.out));rintro e w9 ⟨rfl,hi,hb,hk⟩;refine ⟨_,rfl,?_⟩;have n0_:=zM (KeepBut.trans (by repeat (first|(with_reducible first|exact HK.out|apply KeepBut.set_|apply keep_drewN|apply keep_drew|apply keep_alloc)|exact HK.out)) hk (.inl rfl));have n1_:=zM (hb);have n2_:=zM (hi);clear HK;clear HB;clear HI0;have HK:=n0_;have HB:=n1_;have HI0:=n2_;clear n0_ n1_ n2_;(try clear hb);(try clear hb2);(try clear hk);(try clear hi)))
    go_ret
    exact ⟨by first|rfl|(simp [errW_none,errW_some] <;> rfl)|(simp [*,errW_none,errW_some] <;> rfl),by repeat (first|(with_reducible first|exact HI0.out|apply IsS87.alloc|apply IsS87.drewN|apply IsS87.drew|apply IsS87.set_1|apply IsS87.set_2)|exact HI0.out),by repeat (first|(with_reducible first|exact HB.out|apply zD|apply zE|apply zF|refine below_set ?_ (IsS87.ge HI0.out))|exact HB.out),by repeat (first|(with_reducible first|exact HK.out|apply KeepBut.set_|apply keep_drewN|apply keep_drew|apply keep_alloc)|exact HK.out)⟩
  ·rw [if_neg c5] at H
   have c5b0:decide (200 < a1) = false:=decide_eq_false c5
   clear c5;by_cases c10:a1 = 0
   ·rw [if_pos c10] at H
    exact absurd H (by simp)
   ·rw [if_neg c10] at H
    have c10b0:(a1 == 0) = false:=beq_eq_false_iff_ne.mpr c10
    have c10b1:(a1 != 0) = true:=bne_iff_ne.mpr c10
    simp only [Option.some.injEq,Prod.mk.injEq] at H
    obtain ⟨rfl,rfl,rfl⟩:=H;go_enter Try.func72,Try.ntmps72
    go_wp2_with (first|((with_reducible refine gate_callee (f:=75) rfl ?_);refine goesL_ (some 9) rfl rfl Try.func75 (by kernel_rfl) rfl #[.pointer (some ⟨g,0,none⟩)] rfl (by (try simp only [List.map_toArray,List.map_cons,List.map_nil]);first|done|rfl|(simp only [List.length_drop,List.length_take];rfl)) ?_;(with_reducible refine (spec_l1Cur_next.calls g s0_0 s0_1 s0_2 t558 t559 t560 w0 _ ?side1 ?side2 A4.out).mono ?_);(case side1=>repeat (first|(with_reducible first|exact HI0.out|apply IsS87.alloc|apply IsS87.drewN|apply IsS87.drew|apply IsS87.set_1|apply IsS87.set_2)|exact HI0.out));(case side2=>repeat (first|(with_reducible first|exact HB.out|apply zD|apply zE|apply zF|refine below_set ?_ (IsS87.ge HI0.out))|exact HB.out));rintro e w11 ⟨rfl,hi,hb,hk⟩;refine ⟨_,rfl,?_⟩;have n0_:=zM (KeepBut.trans (by repeat (first|(with_reducible first|exact HK.out|apply KeepBut.set_|apply keep_drewN|apply keep_drew|apply keep_alloc)|exact HK.out)) hk (.inl rfl));have n1_:=zM (hb);have n2_:=zM (hi);clear HK;clear HB;clear HI0;have HK:=n0_;have HB:=n1_;have HI0:=n2_;clear n0_ n1_ n2_;(try clear hb);(try clear hb2);(try clear hk);(try clear hi)))
    go_ret
    exact ⟨by first|rfl|(simp [errW_none,errW_some] <;> rfl)|(simp [*,errW_none,errW_some] <;> rfl),by repeat (first|(with_reducible first|exact HI0.out|apply IsS87.alloc|apply IsS87.drewN|apply IsS87.drew|apply IsS87.set_1|apply IsS87.set_2)|exact HI0.out),by repeat (first|(with_reducible first|exact HB.out|apply zD|apply zE|apply zF|refine below_set ?_ (IsS87.ge HI0.out))|exact HB.out),by repeat (first|(with_reducible first|exact HK.out|apply KeepBut.set_|apply keep_drewN|apply keep_drew|apply keep_alloc)|exact HK.out)⟩

/-! ### spec_l1Cur_among: function 70 -/
def spec_l1Cur_among.f (s0_0:List Int) (s0_1:Int) (s0_2:Int) (l1:List Int):Option (Int × Int × Int):=(spec_l1Cur_pick.f s0_0 s0_1 s0_2 (l1.length:Int)).bind fun bt564=>(if 0 ≤ bt564.1 then (if bt564.1 < (l1.length:Int) then (some (rd l1 bt564.1,bt564.2.1,bt564.2.2)) else (none)) else (none))
set_option maxHeartbeats 8000000 in
set_option maxRecDepth 100000 in
theorem spec_l1Cur_among.calls (g:Nat) (s0_0:List Int) (s0_1:Int) (s0_2:Int) (A1:Option Addr) (c1:Nat) (l1:List Int) (r1:Int) (r2:Int) (r3:Int) (w0 w:World) (hI:IsS87 w0 w g s0_0 s0_1 s0_2) (hB:Below w0.heap.size w0 w) (hr1:Kd.C (Kd.int .i64) w A1 l1.length l1) (hc1:l1.length ≤ c1) (hf1:∀ ad,A1 = some ad → 0 < l1.length → ad.block ≠ g) (h:spec_l1Cur_among.f s0_0 s0_1 s0_2 l1 = some (r1,r2,r3)) :
  Calls Try.prog 70 #[.pointer (some ⟨g,0,none⟩),.slice A1 l1.length c1] w fun e w'=>e = .returned (.int .i64 r1) ∧ IsS87 w0 w' g s0_0 r2 r3 ∧ Below w0.heap.size w0 w' ∧ KeepBut w w' g none:=by
 have HR1:=zM hr1;have HC1:=zM hc1;clear hr1 hc1;have HI0:=zM hI;have HK:=zM (KeepBut.refl w g none);have HL:=zM hB.size;clear hI;have HW0:=zM hB.size;have HB:=zM hB;clear hB;have H:((spec_l1Cur_pick.f s0_0 s0_1 s0_2 (l1.length:Int)).bind fun bt564=>(if 0 ≤ bt564.1 then (if bt564.1 < (l1.length:Int) then (some (rd l1 bt564.1,bt564.2.1,bt564.2.2)) else (none)) else (none))) = some (r1,r2,r3):=h
 clear h;replace H:=Option.bind_eq_some_iff.mp H;obtain ⟨⟨t564,t565,t566⟩,A30,H⟩:=H;replace H:(if 0 ≤ t564 then (if t564 < (l1.length:Int) then (some (rd l1 t564,t565,t566)) else (none)) else (none)) = some (r1,r2,r3):=H
 have A3:=zM A30;clear A30;by_cases c4:0 ≤ t564
 ·rw [if_pos c4] at H
  have c4b0:decide (0 ≤ t564) = true:=decide_eq_true c4
  clear c4;by_cases c5:t564 < (l1.length:Int)
  ·rw [if_pos c5] at H
   have c5b0:decide (t564 < (l1.length:Int)) = true:=decide_eq_true c5
   clear c5;simp only [Option.some.injEq,Prod.mk.injEq] at H
   obtain ⟨rfl,rfl,rfl⟩:=H;go_enter Try.func70,Try.ntmps70
   go_wp2_with (first|((with_reducible refine gate_callee (f:=72) rfl ?_);refine goesL_ (some 9) rfl rfl Try.func72 (by kernel_rfl) rfl #[.pointer (some ⟨g,0,none⟩),.int .i64 (l1.length:Int)] rfl (by (try simp only [List.map_toArray,List.map_cons,List.map_nil]);first|done|rfl|(simp only [List.length_drop,List.length_take];rfl)) ?_;(with_reducible refine (spec_l1Cur_pick.calls g s0_0 s0_1 s0_2 (l1.length:Int) t564 t565 t566 w0 _ ?side1 ?side2 A3.out).mono ?_);(case side1=>repeat (first|(with_reducible first|exact HI0.out|apply IsS87.alloc|apply IsS87.drewN|apply IsS87.drew|apply IsS87.set_1|apply IsS87.set_2)|exact HI0.out));(case side2=>repeat (first|(with_reducible first|exact HB.out|apply zD|apply zE|apply zF|refine below_set ?_ (IsS87.ge HI0.out))|exact HB.out));rintro e w6 ⟨rfl,hi,hb,hk⟩;refine ⟨_,rfl,?_⟩;have n0_:=zM (KeepBut.trans (by repeat (first|(with_reducible first|exact HK.out|apply KeepBut.set_|apply keep_drewN|apply keep_drew|apply keep_alloc)|exact HK.out)) hk (.inl rfl));have n1_:=zM (hb);have n2_:=zM (hi);clear HK;clear HB;clear HI0;have HK:=n0_;have HB:=n1_;have HI0:=n2_;clear n0_ n1_ n2_;(try clear hb);(try clear hb2);(try clear hk);(try clear hi);have p567:0 ≤ (t564:Int):=of_decide_eq_true (by first|(with_reducible assumption)|assumption);have q567:t564 < (l1.length:Int):=of_decide_eq_true (by first|(with_reducible assumption)|assumption);obtain ⟨ad567,e567,hx567_0⟩:=Kd.at_int HR1.out t564 p567 q567;cases e567;replace hx567_0:=keep_cell HK.out hx567_0 (by first|(rw [add_block];exact hf1 _ rfl (by omega))|exact hf1 _ rfl (by omega)|exact hf1 ad567 rfl (by omega));replace p567:=eq_true p567;replace q567:=eq_true q567))
   go_ret
   exact ⟨by first|rfl|(simp [errW_none,errW_some] <;> rfl)|(simp [*,errW_none,errW_some] <;> rfl),by repeat (first|(with_reducible first|exact HI0.out|apply IsS87.alloc|apply IsS87.drewN|apply IsS87.drew|apply IsS87.set_1|apply IsS87.set_2)|exact HI0.out),by repeat (first|(with_reducible first|exact HB.out|apply zD|apply zE|apply zF|refine below_set ?_ (IsS87.ge HI0.out))|exact HB.out),by repeat (first|(with_reducible first|exact HK.out|apply KeepBut.set_|apply keep_drewN|apply keep_drew|apply keep_alloc)|exact HK.out)⟩
  ·rw [if_neg c5] at H
   exact absurd H (by simp)
 ·rw [if_neg c4] at H
  exact absurd H (by simp)

/-! ### spec_l1Cur_one: function 71 -/
def spec_l1Cur_one.f (s0_0:List Int) (s0_1:Int) (s0_2:Int) (a1:Int):Option (Bool × Int × Int):=(spec_l1Cur_pick.f s0_0 s0_1 s0_2 a1).bind fun bt568=>(some ((bt568.1 == 0),bt568.2.1,bt568.2.2))
set_option maxHeartbeats 8000000 in
set_option maxRecDepth 100000 in
theorem spec_l1Cur_one.calls (g:Nat) (s0_0:List Int) (s0_1:Int) (s0_2:Int) (a1:Int) (r1:Bool) (r2:Int) (r3:Int) (w0 w:World) (hI:IsS87 w0 w g s0_0 s0_1 s0_2) (hB:Below w0.heap.size w0 w) (h:spec_l1Cur_one.f s0_0 s0_1 s0_2 a1 = some (r1,r2,r3)) :
  Calls Try.prog 71 #[.pointer (some ⟨g,0,none⟩),.int .i64 a1] w fun e w'=>e = .returned (.bool r1) ∧ IsS87 w0 w' g s0_0 r2 r3 ∧ Below w0.heap.size w0 w' ∧ KeepBut w w' g none:=by
 have HI0:=zM hI;have HK:=zM (KeepBut.refl w g none);have HL:=zM hB.size;clear hI;have HW0:=zM hB.size;have HB:=zM hB;clear hB;have H:((spec_l1Cur_pick.f s0_0 s0_1 s0_2 a1).bind fun bt568=>(some ((bt568.1 == 0),bt568.2.1,bt568.2.2))) = some (r1,r2,r3):=h
 clear h;replace H:=Option.bind_eq_some_iff.mp H;obtain ⟨⟨t568,t569,t570⟩,A30,H⟩:=H;replace H:(some ((t568 == 0),t569,t570)) = some (r1,r2,r3):=H
 have A3:=zM A30;clear A30;simp only [Option.some.injEq,Prod.mk.injEq] at H
 obtain ⟨rfl,rfl,rfl⟩:=H;go_enter Try.func71,Try.ntmps71
 go_wp2_with (first|((with_reducible refine gate_callee (f:=72) rfl ?_);refine goesL_ (some 7) rfl rfl Try.func72 (by kernel_rfl) rfl #[.pointer (some ⟨g,0,none⟩),.int .i64 a1] rfl (by (try simp only [List.map_toArray,List.map_cons,List.map_nil]);first|done|rfl|(simp only [List.length_drop,List.length_take];rfl)) ?_;(with_reducible refine (spec_l1Cur_pick.calls g s0_0 s0_1 s0_2 a1 t568 t569 t570 w0 _ ?side1 ?side2 A3.out).mono ?_);(case side1=>repeat (first|(with_reducible first|exact HI0.out|apply IsS87.alloc|apply IsS87.drewN|apply IsS87.drew|apply IsS87.set_1|apply IsS87.set_2)|exact HI0.out));(case side2=>repeat (first|(with_reducible first|exact HB.out|apply zD|apply zE|apply zF|refine below_set ?_ (IsS87.ge HI0.out))|exact HB.out));rintro e w4 ⟨rfl,hi,hb,hk⟩;refine ⟨_,rfl,?_⟩;have n0_:=zM (KeepBut.trans (by repeat (first|(with_reducible first|exact HK.out|apply KeepBut.set_|apply keep_drewN|apply keep_drew|apply keep_alloc)|exact HK.out)) hk (.inl rfl));have n1_:=zM (hb);have n2_:=zM (hi);clear HK;clear HB;clear HI0;have HK:=n0_;have HB:=n1_;have HI0:=n2_;clear n0_ n1_ n2_;(try clear hb);(try clear hb2);(try clear hk);(try clear hi)))
 go_ret
 exact ⟨by first|rfl|(simp [errW_none,errW_some] <;> rfl)|(simp [*,errW_none,errW_some] <;> rfl),by repeat (first|(with_reducible first|exact HI0.out|apply IsS87.alloc|apply IsS87.drewN|apply IsS87.drew|apply IsS87.set_1|apply IsS87.set_2)|exact HI0.out),by repeat (first|(with_reducible first|exact HB.out|apply zD|apply zE|apply zF|refine below_set ?_ (IsS87.ge HI0.out))|exact HB.out),by repeat (first|(with_reducible first|exact HK.out|apply KeepBut.set_|apply keep_drewN|apply keep_drew|apply keep_alloc)|exact HK.out)⟩

end Go.Proofs.Ytbglkkepfddecaa.G
