/- Texts of the proof of FnColumns, joined in build order. -/
import Derived.Test.YtcgfedaoimhejaaMgFnColumns1
import Derived.Test.YtcgfedaoimhejaaMgFnColumns2
import Derived.Test.YtcgfedaoimhejaaMgFnColumns3
import Derived.IntWalk
-- Written by wip/tools/gen.py out of the translation (the kit's printer, one namespace a seat). Lean checks it.
namespace Go.Proofs.Ytcgfedaoimhejaa.G
open Go.RowKit Go.Proofs.YtcgfedaoimhejaaW.PrintWords Go.Proofs.YtcgfedaoimhejaaW.PrintLast Go.Proofs.YtcgfedaoimhejaaW.PrintMore
attribute [local go_sem] max2_int min2_int max_two min_two max_three min_three max_four min_four   -- for this text's walks alone
set_option linter.unusedVariables false
set_option linter.unusedSimpArgs false

/-! ### spec_DrawSplitColumns: function 36 -/
mutual
def spec_DrawSplitColumns.l0:Nat → List Int → Int → List Int → Int → Int → Option (List Int × Int)
 | 0,_,_,_,_,_=>none
 | k + 1,x5,x6,x893000,x893001,x893002=>if x6 > 0 then ((spec_l1Cur_among.f x893000 x893001 x893002 (([1,3000,8000,12000,20000,32000]:List Int))).bind fun bt902=>(if x5.length < 17592186044416 then (spec_DrawSplitColumns.l0 k (x5 ++ [bt902.1]) (wrap64 (x6 - 1)) x893000 bt902.2.1 bt902.2.2) else (none))) else ((spec_l1Cur_pick.f x893000 x893001 x893002 30).bind fun bt908=>(if bt908.1 = 0 then (if x5.length < 17592186044416 then ((some (([1,2,3,0,4]:List Int):List Int)).bind fun y914=>((spec_l1Cur_pick.f x893000 bt908.2.1 bt908.2.2 24).bind fun bt917=>(if 0 ≤ (wrap64 (3 + (wrap64 (Int.tdiv bt917.1 11)))) then (if (wrap64 (3 + (wrap64 (Int.tdiv bt917.1 11)))) ≤ (y914.length:Int) then ((spec_l1Cur_among.f x893000 bt917.2.1 bt917.2.2 (y914.take ((wrap64 (3 + (wrap64 (Int.tdiv bt917.1 11)))):Int).toNat)).bind fun bt924=>(some ((x5 ++ [0]),bt924.1))) else (none)) else (none)))) else (none)) else (if bt908.1 = 1 then (spec_DrawSplitColumns.l1 k x5 x893000 bt908.2.1 bt908.2.2) else ((some (([1,2,3,0,4]:List Int):List Int)).bind fun y946=>((spec_l1Cur_pick.f x893000 bt908.2.1 bt908.2.2 24).bind fun bt949=>(if 0 ≤ (wrap64 (3 + (wrap64 (Int.tdiv bt949.1 11)))) then (if (wrap64 (3 + (wrap64 (Int.tdiv bt949.1 11)))) ≤ (y946.length:Int) then ((spec_l1Cur_among.f x893000 bt949.2.1 bt949.2.2 (y946.take ((wrap64 (3 + (wrap64 (Int.tdiv bt949.1 11)))):Int).toNat)).bind fun bt956=>(some (x5,bt956.1))) else (none)) else (none)))))))
def spec_DrawSplitColumns.l1:Nat → List Int → List Int → Int → Int → Option (List Int × Int)
 | 0,_,_,_,_=>none
 | k + 1,x5,x893000,x893001,x893002=>(spec_l1Cur_pick.f x893000 x893001 x893002 2).bind fun bt927=>(if (x5.length:Int) < (wrap64 (8 + bt927.1)) then (if x5.length < 17592186044416 then (spec_DrawSplitColumns.l1 k (x5 ++ [500]) x893000 bt927.2.1 bt927.2.2) else (none)) else ((some (([1,2,3,0,4]:List Int):List Int)).bind fun y933=>((spec_l1Cur_pick.f x893000 bt927.2.1 bt927.2.2 24).bind fun bt936=>(if 0 ≤ (wrap64 (3 + (wrap64 (Int.tdiv bt936.1 11)))) then (if (wrap64 (3 + (wrap64 (Int.tdiv bt936.1 11)))) ≤ (y933.length:Int) then ((spec_l1Cur_among.f x893000 bt936.2.1 bt936.2.2 (y933.take ((wrap64 (3 + (wrap64 (Int.tdiv bt936.1 11)))):Int).toNat)).bind fun bt943=>(some (x5,bt943.1))) else (none)) else (none)))))
end
def spec_DrawSplitColumns.f (k:Nat) (l0:List Int):Option (List Int × Int):=(spec_l1Cur_pick.f l0 0 0 8).bind fun bt896=>(spec_DrawSplitColumns.l0 k (([]:List Int)) bt896.1 l0 bt896.2.1 bt896.2.2)
set_option maxHeartbeats 8000000 in
set_option maxRecDepth 100000 in
theorem spec_DrawSplitColumns.calls (k:Nat) (A0:Option Addr) (c0:Nat) (l0:List Int) (r1:List Int) (r2:Int) (w:World) (hr0:Kd.C (Kd.int .u8) w A0 l0.length l0) (hc0:l0.length ≤ c0) (h:spec_DrawSplitColumns.f k l0 = some (r1,r2)) :
  Calls Try.prog 36 #[.slice A0 l0.length c0] w fun e w' => ∃ v0_:Value,e = .returned (.tuple #[v0_,.int .i64 r2]) ∧ Kd.R (Kd.int .i64) 3 w' w.heap.size (fun _=>True) v0_ r1 ∧ Below w.heap.size w w':=by
 have hu77:=Try.underlying77;have HR0:=zM hr0;have HC0:=zM hc0;clear hr0 hc0;have HB:=zM (Below.refl w.heap.size w);have H:((spec_l1Cur_pick.f l0 0 0 8).bind fun bt896=>(spec_DrawSplitColumns.l0 k (([]:List Int)) bt896.1 l0 bt896.2.1 bt896.2.2)) = some (r1,r2):=h
 clear h;obtain ⟨y893,hy893⟩ : ∃ y_:List Int,y_ = (([]:List Int)):=⟨_,rfl⟩
 replace H:((spec_l1Cur_pick.f l0 0 0 8).bind fun bt896=>(spec_DrawSplitColumns.l0 k y893 bt896.1 l0 bt896.2.1 bt896.2.2)) = some (r1,r2):=by first|(rw [hy893];with_reducible exact H)|(have H2_:=(Option.bind_some _ _).symm.trans H;rw [hy893];with_reducible exact H2_)|(have H2_:=(Option.bind_some _ _).symm.trans H;with_reducible exact H2_)|with_reducible exact H|(rw [hy893];exact H)|exact H
 have Ny893:=zM hy893;clear hy893;replace H:=Option.bind_eq_some_iff.mp H;obtain ⟨⟨t896,t897,t898⟩,A20,H⟩:=H;replace H:(spec_DrawSplitColumns.l0 k y893 t896 l0 t897 t898) = some (r1,r2):=H
 have A2:=zM A20;clear A20;have H':=zM H;clear H;go_enter Try.func36,Try.ntmps36
 go_wp2_with (first|((with_reducible refine gate_dst (N:=9) rfl ?_);refine box_event ?hg (N:=9) ?hd (cs := #[.slice A0 l0.length c0,.int .i64 0,.int .u64 0]) (t:=77) ?hr ?_;(case hd=>rfl);(case hg=>rfl);(case hr=>first|(go_simp;done)|(go_simp;rfl));intro gb892 hg w3 hbox hb;have n0_:=zM (zQ (by repeat (first|(with_reducible first|exact HB.out|apply zD|apply zE|apply zF)|exact HB.out)) hb);have n1_:=zM ((by rw [hg];exact (zR (by repeat (first|(with_reducible first|exact HB.out|apply zD|apply zE|apply zF)|exact HB.out))):w.heap.size ≤ gb892));have n2_:=zM ((by rw [hg];exact (zR (by repeat (first|(with_reducible first|exact HB.out|apply zD|apply zE|apply zF)|exact HB.out))):w.heap.size ≤ gb892));have n3_:=zM ((show IsS77 w w3 gb892 l0 0 0 from ⟨_,_,hbox,(by rw [hg];exact (zR (by repeat (first|(with_reducible first|exact HB.out|apply zD|apply zE|apply zF)|exact HB.out))):w.heap.size ≤ gb892),HR0.out⟩));clear HB;have HB:=n0_;have GW892:=n1_;have GE892:=n2_;have HI892:=n3_;clear n0_ n1_ n2_ n3_;clear hb hbox hg)|((with_reducible refine gate_dst (N:=10) rfl ?_);refine Kd.R_lit (Kd.int .i64) _ 3 ?hg (N:=10) ?hd (xs:=([]:List Int)) (inner:=[]) (ok:=fun _=>True) (okp:=fun _=>True) ?hr ?hp (fun _ hk=>hk) trivial (Below.refl _ _) (Nat.le_refl _) (by simp) ?_;(case hd=>rfl);(case hg=>rfl);(case hr=>first|(go_simp;done)|(go_simp;rfl));(case hp=>exact (Reps.none _ _));intro v894 w4 ho5 hb hg_ hnew_;clear hg_ hnew_;(first|rw [← Ny893.out] at ho5|(simp only [Int.reduceToNat] at ho5;rw [← Ny893.out] at ho5));have n0_:=zM (Kd.R_lower ho5 (zR (by repeat (first|(with_reducible first|exact HB.out|apply zD|apply zE|apply zF|refine below_set ?_ (IsS77.ge HI892.out))|exact HB.out))));have n1_:=zM (IsS77.below (by repeat (first|(with_reducible first|exact HI892.out|apply IsS77.alloc|apply IsS77.drewN|apply IsS77.drew|apply IsS77.set_1|apply IsS77.set_2)|exact HI892.out)) hb);have n2_:=zM (zQ (by repeat (first|(with_reducible first|exact HB.out|apply zD|apply zE|apply zF|refine below_set ?_ (IsS77.ge HI892.out))|exact HB.out)) hb);clear HI892;clear HB;have HO895:=n0_;have HI892:=n1_;have HB:=n2_;clear n0_ n1_ n2_;clear hb ho5)|((with_reducible refine gate_callee (f:=71) rfl ?_);refine goesL_ (some 12) rfl rfl Try.func71 (by kernel_rfl) rfl #[.pointer (some ⟨gb892,0,none⟩),.int .i64 8] rfl (by (try simp only [List.map_toArray,List.map_cons,List.map_nil]);first|done|rfl|(simp only [List.length_drop,List.length_take];rfl)) ?_;(with_reducible refine (spec_l1Cur_pick.calls gb892 l0 0 0 8 t896 t897 t898 w _ ?side1 ?side2 A2.out).mono ?_);(case side1=>repeat (first|(with_reducible first|exact HI892.out|apply IsS77.alloc|apply IsS77.drewN|apply IsS77.drew|apply IsS77.set_1|apply IsS77.set_2)|exact HI892.out));(case side2=>repeat (first|(with_reducible first|exact HB.out|apply zD|apply zE|apply zF|refine below_set ?_ (IsS77.ge HI892.out))|exact HB.out));rintro e w6 ⟨rfl,hi,hb,hk⟩;refine ⟨_,rfl,?_⟩;have n0_:=zM (Kd.R_mono (Kd.R_keep (IsS77.apart (show IsS77 w _ gb892 l0 0 0 from by repeat (first|(with_reducible first|exact HI892.out|apply IsS77.alloc|apply IsS77.drewN|apply IsS77.drew|apply IsS77.set_1|apply IsS77.set_2)|exact HI892.out)) (by (with_reducible repeat (first|apply zA|apply zB|apply zC));exact HO895.out) (by decide)) hk (fun _ h=>h.2)) (fun _ h=>h.1));have n1_:=zM (hb);have n2_:=zM (hi);clear HO895;clear HB;clear HI892;have HO895:=n0_;have HB:=n1_;have HI892:=n2_;clear n0_ n1_ n2_;(try clear hb);(try clear hb2);(try clear hk);(try clear hi)))
 go_loopg [5,6] k (fun kq v5 v6 w' => ∃ (x5_1:List Int) (x6_1:Int) (x893001_1:Int) (x893002_1:Int),v6 = .int .i64 x6_1 ∧ Aside0 (spec_DrawSplitColumns.l0 kq x5_1 x6_1 l0 x893001_1 x893002_1 = some (r1,r2)) ∧ Aside0 (kq ≤ k) ∧ Aside0 (Kd.R (Kd.int .i64) 3 w' w.heap.size (fun _=>True) v5 x5_1) ∧ Aside0 (IsS77 w w' gb892 l0 x893001_1 x893002_1) ∧ Aside0 (Below w.heap.size w w'))
 case atStart=>exact ⟨(y893),(t896),(t897),(t898),(by first|rfl|(simp;done)|(simp [*];done)),H',⟨Nat.le_refl _⟩,⟨by (with_reducible repeat (first|apply zA|apply zB|apply zC));exact HO895.out⟩,⟨by repeat (first|(with_reducible first|exact HI892.out|apply IsS77.alloc|apply IsS77.drewN|apply IsS77.drew|apply IsS77.set_1|apply IsS77.set_2)|exact HI892.out)⟩,⟨by repeat (first|(with_reducible first|exact HB.out|apply zD|apply zE|apply zF|refine below_set ?_ (IsS77.ge HI892.out))|exact HB.out)⟩⟩
 case round =>
  clear H';(try clear p2);(try clear c3);obtain ⟨x5_1,x6_1,x893001_1,x893002_1,rfl,HA,HK1,HO_5,HI892,HB⟩:=hrel;cases gk with
  | zero=>exact absurd HA.out (by simp [spec_DrawSplitColumns.l0])
  | succ k1 =>
   have H:=HA.out;clear HA;simp only [spec_DrawSplitColumns.l0] at H
   by_cases c7:x6_1 > 0
   ·rw [if_pos c7] at H
    have c7b0:decide (0 < x6_1) = true:=decide_eq_true c7
    clear c7;obtain ⟨y899,hy899⟩ : ∃ y_:List Int,y_ = (([1,3000,8000,12000,20000,32000]:List Int)):=⟨_,rfl⟩
    replace H:((spec_l1Cur_among.f l0 x893001_1 x893002_1 y899).bind fun bt902=>(if x5_1.length < 17592186044416 then (spec_DrawSplitColumns.l0 k1 (x5_1 ++ [bt902.1]) (wrap64 (x6_1 - 1)) l0 bt902.2.1 bt902.2.2) else (none))) = some (r1,r2):=by first|(rw [hy899];with_reducible exact H)|(have H2_:=(Option.bind_some _ _).symm.trans H;rw [hy899];with_reducible exact H2_)|(have H2_:=(Option.bind_some _ _).symm.trans H;with_reducible exact H2_)|with_reducible exact H|(rw [hy899];exact H)|exact H
    have Ny899:=zM hy899;clear hy899;replace H:=Option.bind_eq_some_iff.mp H;obtain ⟨⟨t902,t903,t904⟩,A80,H⟩:=H;replace H:(if x5_1.length < 17592186044416 then (spec_DrawSplitColumns.l0 k1 (x5_1 ++ [t902]) (wrap64 (x6_1 - 1)) l0 t903 t904) else (none)) = some (r1,r2):=H
    have A8:=zM A80;clear A80;by_cases c9:x5_1.length < 17592186044416
    ·rw [if_pos c9] at H
     have LMc9:=zM c9;clear c9;obtain ⟨y905,hy905⟩ : ∃ y_:List Int,y_ = (x5_1 ++ [t902]):=⟨_,rfl⟩
     replace H:(spec_DrawSplitColumns.l0 k1 y905 (wrap64 (x6_1 - 1)) l0 t903 t904) = some (r1,r2):=by first|(rw [hy905];with_reducible exact H)|(have H2_:=(Option.bind_some _ _).symm.trans H;rw [hy905];with_reducible exact H2_)|(have H2_:=(Option.bind_some _ _).symm.trans H;with_reducible exact H2_)|with_reducible exact H|(rw [hy905];exact H)|exact H
     have Ny905:=zM hy905;clear hy905;have H':=zM H;clear H;go_wp2_with (first|((with_reducible refine gate_dst (N:=19) rfl ?_);refine Kd.R_lit (Kd.int .i64) _ 3 ?hg (N:=19) ?hd (xs:=([1,3000,8000,12000,20000,32000]:List Int)) (inner:=[.int .i64 1,.int .i64 3000,.int .i64 8000,.int .i64 12000,.int .i64 20000,.int .i64 32000]) (ok:=fun _=>True) (okp:=fun _=>True) ?hr ?hp (fun _ hk=>hk) trivial (Below.refl _ _) (Nat.le_refl _) (by simp) ?_;(case hd=>rfl);(case hg=>rfl);(case hr=>first|(go_simp;done)|(go_simp;rfl));(case hp=>exact (Reps.one (show Kd.M (Kd.int .i64) _ _ _ 1 [.int .i64 1] from rfl) (Reps.one (show Kd.M (Kd.int .i64) _ _ _ 3000 [.int .i64 3000] from rfl) (Reps.one (show Kd.M (Kd.int .i64) _ _ _ 8000 [.int .i64 8000] from rfl) (Reps.one (show Kd.M (Kd.int .i64) _ _ _ 12000 [.int .i64 12000] from rfl) (Reps.one (show Kd.M (Kd.int .i64) _ _ _ 20000 [.int .i64 20000] from rfl) (Reps.one (show Kd.M (Kd.int .i64) _ _ _ 32000 [.int .i64 32000] from rfl) (Reps.none _ _))))))));intro v900 w10 ho11 hb hg_ hnew_;clear hg_ hnew_;(first|rw [← Ny899.out] at ho11|(simp only [Int.reduceToNat] at ho11;rw [← Ny899.out] at ho11));have n0_:=zM (Kd.R_elder' (by (with_reducible repeat (first|apply zA|apply zB|apply zC));exact HO_5.out) (Kd.R_base ho11) hb);have n1_:=zM (Kd.R_lower (Kd.R_new' ho11 (Kd.R_lt (by (with_reducible repeat (first|apply zA|apply zB|apply zC));exact HO_5.out))) (zR (by repeat (first|(with_reducible first|exact HB.out|apply zD|apply zE|apply zF|refine below_set ?_ (IsS77.ge HI892.out))|exact HB.out))));have n2_:=zM (IsS77.below (by repeat (first|(with_reducible first|exact HI892.out|apply IsS77.alloc|apply IsS77.drewN|apply IsS77.drew|apply IsS77.set_1|apply IsS77.set_2)|exact HI892.out)) hb);have n3_:=zM (zQ (by repeat (first|(with_reducible first|exact HB.out|apply zD|apply zE|apply zF|refine below_set ?_ (IsS77.ge HI892.out))|exact HB.out)) hb);clear HO_5;clear HI892;clear HB;have HO_5:=n0_;have HO901:=n1_;have HI892:=n2_;have HB:=n3_;clear n0_ n1_ n2_ n3_;clear hb ho11;obtain ⟨Ao12,co12,eo12⟩:=Kd.R_slice HO901.out;subst eo12)|((with_reducible refine gate_callee (f:=72) rfl ?_);refine goesL_ (some 20) rfl rfl Try.func72 (by kernel_rfl) rfl #[.pointer (some ⟨gb892,0,none⟩),.slice Ao12 y899.length co12] rfl (by (try simp only [List.map_toArray,List.map_cons,List.map_nil]);first|done|rfl|(simp only [List.length_drop,List.length_take];rfl)) ?_;(with_reducible refine (spec_l1Cur_among.calls gb892 l0 x893001_1 x893002_1 _ _ y899 t902 t903 t904 w _ ?side1 ?side2 ?side3 ?side4 ?side5 A8.out).mono ?_);(case side1=>repeat (first|(with_reducible first|exact HI892.out|apply IsS77.alloc|apply IsS77.drewN|apply IsS77.drew|apply IsS77.set_1|apply IsS77.set_2)|exact HI892.out));(case side2=>repeat (first|(with_reducible first|exact HB.out|apply zD|apply zE|apply zF|refine below_set ?_ (IsS77.ge HI892.out))|exact HB.out));(case side3=>repeat (first|exact (zN HO901.out).2.2|(with_reducible first|refine zG ?_ _|refine zH ?_ _|refine zI ?_)));(case side4=>exact (zN HO901.out).2.1);(case side5=>exact far_slice (IsS77.own_ne HI892.out HO901.out (by decide)));rintro e w13 ⟨rfl,hi,hb,hk⟩;refine ⟨_,rfl,?_⟩;have n0_:=zM (Kd.R_mono (Kd.R_keep (IsS77.apart (show IsS77 w _ gb892 l0 x893001_1 x893002_1 from by repeat (first|(with_reducible first|exact HI892.out|apply IsS77.alloc|apply IsS77.drewN|apply IsS77.drew|apply IsS77.set_1|apply IsS77.set_2)|exact HI892.out)) (by (with_reducible repeat (first|apply zA|apply zB|apply zC));exact HO_5.out) (by decide)) hk (fun _ h=>h.2)) (fun _ h=>h.1));have n1_:=zM (Kd.R_mono (Kd.R_keep (IsS77.apart (show IsS77 w _ gb892 l0 x893001_1 x893002_1 from by repeat (first|(with_reducible first|exact HI892.out|apply IsS77.alloc|apply IsS77.drewN|apply IsS77.drew|apply IsS77.set_1|apply IsS77.set_2)|exact HI892.out)) (by (with_reducible repeat (first|apply zA|apply zB|apply zC));exact HO901.out) (by decide)) hk (fun _ h=>h.2)) (fun _ h=>h.1));have n2_:=zM (hb);have n3_:=zM (hi);clear HO_5;clear HO901;clear HB;clear HI892;have HO_5:=n0_;have HO901:=n1_;have HB:=n2_;have HI892:=n3_;clear n0_ n1_ n2_ n3_;(try clear hb);(try clear hb2);(try clear hk);(try clear hi))|((with_reducible refine gate_builtin (b := .append) (xs := #[.tmp 17,.tmp 21]) rfl ?_);at_builtin;refine Kd.R_append (Kd.int .i64) (w0:=w) w.heap.size rfl (.tmp 17) (.tmp 21) 22 3 (.int .i64 0) 8 rfl Try.underlying22 info3 rfl (by decide) (by omega) u5 x5_1 t902 [.int .i64 t902] (fun k_=>some k_ ≠ (.slice Ao12 y899.length co12:Value).ownBlock) (fun _=>False) rfl rfl ?aP (fun _ hk=>hk.elim) ?aF ?aO ?aB ?aS ?aL ?_;(case aP=>exact rfl);(case aB=>exact (by repeat (first|(with_reducible first|exact HB.out|apply zD|apply zE|apply zF|refine below_set ?_ (IsS77.ge HI892.out))|exact HB.out)));(case aF=>exact (fun k_ hk=>Kd.fresh' (Kd.R_lt (by (with_reducible repeat (first|apply zA|apply zB|apply zC));exact HO901.out)) k_ hk));(case aO=>exact (by (with_reducible repeat (first|apply zA|apply zB|apply zC));exact Kd.R_mono HO_5.out (fun _ hk=>hk.2)));(case aS=>exact (zR (by repeat (first|(with_reducible first|exact HB.out|apply zD|apply zE|apply zF|refine below_set ?_ (IsS77.ge HI892.out))|exact HB.out))));(case aL=>have:=LMc9.out;omega);intro v906 w14 ho hb hg hat;rw [← Ny905.out] at ho;have n0_:=zM (IsS77.grown (by repeat (first|(with_reducible first|exact HI892.out|apply IsS77.alloc|apply IsS77.drewN|apply IsS77.drew|apply IsS77.set_1|apply IsS77.set_2)|exact HI892.out)) hg (IsS77.own_ne HI892.out HO_5.out (by decide)));have n1_:=zM (Kd.R_after (ok:=(fun _=>True)) (by (with_reducible repeat (first|apply zA|apply zB|apply zC));exact HO901.out) hg hat);have n2_:=zM (hb);have n3_:=zM (ho);clear HI892;clear HO901;clear HB;clear HO_5;have HI892:=n0_;have HO901:=n1_;have HB:=n2_;have HO907:=n3_;clear n0_ n1_ n2_ n3_;clear ho hb hg hat))
     go_roundg k1
     case measure=>have:=HK1.out;omega
     case rel=>exact ⟨(y905),(wrap64 (x6_1 - 1)),(t903),(t904),(by first|rfl|(simp;done)|(simp [*];done)),H',⟨by have:=HK1.out;omega⟩,⟨by (with_reducible repeat (first|apply zA|apply zB|apply zC));exact Kd.R_mono HO907.out (fun _ hk=>trivial)⟩,⟨by repeat (first|(with_reducible first|exact HI892.out|apply IsS77.alloc|apply IsS77.drewN|apply IsS77.drew|apply IsS77.set_1|apply IsS77.set_2)|exact HI892.out)⟩,⟨by repeat (first|(with_reducible first|exact HB.out|apply zD|apply zE|apply zF|refine below_set ?_ (IsS77.ge HI892.out))|exact HB.out)⟩⟩
    ·rw [if_neg c9] at H
     exact absurd H (by simp)
   ·rw [if_neg c7] at H
    have c7b0:decide (0 < x6_1) = false:=decide_eq_false c7
    clear c7;replace H:=Option.bind_eq_some_iff.mp H;obtain ⟨⟨t908,t909,t910⟩,A150,H⟩:=H;replace H:(if t908 = 0 then (if x5_1.length < 17592186044416 then ((some (([1,2,3,0,4]:List Int):List Int)).bind fun y914=>((spec_l1Cur_pick.f l0 t909 t910 24).bind fun bt917=>(if 0 ≤ (wrap64 (3 + (wrap64 (Int.tdiv bt917.1 11)))) then (if (wrap64 (3 + (wrap64 (Int.tdiv bt917.1 11)))) ≤ (y914.length:Int) then ((spec_l1Cur_among.f l0 bt917.2.1 bt917.2.2 (y914.take ((wrap64 (3 + (wrap64 (Int.tdiv bt917.1 11)))):Int).toNat)).bind fun bt924=>(some ((x5_1 ++ [0]),bt924.1))) else (none)) else (none)))) else (none)) else (if t908 = 1 then (spec_DrawSplitColumns.l1 k1 x5_1 l0 t909 t910) else ((some (([1,2,3,0,4]:List Int):List Int)).bind fun y946=>((spec_l1Cur_pick.f l0 t909 t910 24).bind fun bt949=>(if 0 ≤ (wrap64 (3 + (wrap64 (Int.tdiv bt949.1 11)))) then (if (wrap64 (3 + (wrap64 (Int.tdiv bt949.1 11)))) ≤ (y946.length:Int) then ((spec_l1Cur_among.f l0 bt949.2.1 bt949.2.2 (y946.take ((wrap64 (3 + (wrap64 (Int.tdiv bt949.1 11)))):Int).toNat)).bind fun bt956=>(some (x5_1,bt956.1))) else (none)) else (none)))))) = some (r1,r2):=H
    have A15:=zM A150;clear A150;by_cases c16:t908 = 0
    ·rw [if_pos c16] at H
     have c16b0:(t908 == 0) = true:=beq_iff_eq.mpr c16
     have c16b1:(t908 != 0) = false:=bne_eq_false_iff_eq.mpr c16
     clear c16;by_cases c17:x5_1.length < 17592186044416
     ·rw [if_pos c17] at H
      have LMc17:=zM c17;clear c17;obtain ⟨y911,hy911⟩ : ∃ y_:List Int,y_ = (x5_1 ++ [0]):=⟨_,rfl⟩
      replace H:((some (([1,2,3,0,4]:List Int):List Int)).bind fun y914=>((spec_l1Cur_pick.f l0 t909 t910 24).bind fun bt917=>(if 0 ≤ (wrap64 (3 + (wrap64 (Int.tdiv bt917.1 11)))) then (if (wrap64 (3 + (wrap64 (Int.tdiv bt917.1 11)))) ≤ (y914.length:Int) then ((spec_l1Cur_among.f l0 bt917.2.1 bt917.2.2 (y914.take ((wrap64 (3 + (wrap64 (Int.tdiv bt917.1 11)))):Int).toNat)).bind fun bt924=>(some (y911,bt924.1))) else (none)) else (none)))) = some (r1,r2):=by first|(rw [hy911];with_reducible exact H)|(have H2_:=(Option.bind_some _ _).symm.trans H;rw [hy911];with_reducible exact H2_)|(have H2_:=(Option.bind_some _ _).symm.trans H;with_reducible exact H2_)|with_reducible exact H|(rw [hy911];exact H)|exact H
      have Ny911:=zM hy911;clear hy911;obtain ⟨y914,hy914⟩ : ∃ y_:List Int,y_ = (([1,2,3,0,4]:List Int)):=⟨_,rfl⟩
      replace H:((spec_l1Cur_pick.f l0 t909 t910 24).bind fun bt917=>(if 0 ≤ (wrap64 (3 + (wrap64 (Int.tdiv bt917.1 11)))) then (if (wrap64 (3 + (wrap64 (Int.tdiv bt917.1 11)))) ≤ (y914.length:Int) then ((spec_l1Cur_among.f l0 bt917.2.1 bt917.2.2 (y914.take ((wrap64 (3 + (wrap64 (Int.tdiv bt917.1 11)))):Int).toNat)).bind fun bt924=>(some (y911,bt924.1))) else (none)) else (none))) = some (r1,r2):=by first|(rw [hy914];with_reducible exact H)|(have H2_:=(Option.bind_some _ _).symm.trans H;rw [hy914];with_reducible exact H2_)|(have H2_:=(Option.bind_some _ _).symm.trans H;with_reducible exact H2_)|with_reducible exact H|(rw [hy914];exact H)|exact H
      have Ny914:=zM hy914;clear hy914;replace H:=Option.bind_eq_some_iff.mp H;obtain ⟨⟨t917,t918,t919⟩,A180,H⟩:=H;replace H:(if 0 ≤ (wrap64 (3 + (wrap64 (Int.tdiv t917 11)))) then (if (wrap64 (3 + (wrap64 (Int.tdiv t917 11)))) ≤ (y914.length:Int) then ((spec_l1Cur_among.f l0 t918 t919 (y914.take ((wrap64 (3 + (wrap64 (Int.tdiv t917 11)))):Int).toNat)).bind fun bt924=>(some (y911,bt924.1))) else (none)) else (none)) = some (r1,r2):=H
      have A18:=zM A180;clear A180;obtain ⟨ji19,hji19⟩ : ∃ j_:Int,(wrap64 (3 + (wrap64 (Int.tdiv t917 11)))) = j_:=⟨_,rfl⟩
      replace H:(if 0 ≤ (ji19) then (if (ji19) ≤ (y914.length:Int) then ((spec_l1Cur_among.f l0 t918 t919 (y914.take ((ji19):Int).toNat)).bind fun bt924=>(some (y911,bt924.1))) else (none)) else (none)) = some (r1,r2):=by first|(rw [hji19] at H;exact H)|(simp only [hji19] at H ⊢;exact H)
      (try rw [hji19] at A15)
      (try rw [hji19] at A18)
      have hji19w:(IntKind.i64.wrap (3 + (wrap64 (Int.tdiv t917 11)))) = ji19:=(i64_w _).trans hji19
      by_cases c20:0 ≤ (ji19)
      ·rw [if_pos c20] at H
       have c20b0:=eq_true c20;have c20b1:decide (0 ≤ (ji19)) = true:=decide_eq_true c20
       clear c20;by_cases c21:(ji19) ≤ (y914.length:Int)
       ·rw [if_pos c21] at H
        have c21b0:=eq_true c21;have c21b1:decide ((ji19) ≤ (y914.length:Int)) = true:=decide_eq_true c21
        clear c21;obtain ⟨y920,hy920⟩ : ∃ y_:List Int,y_ = (y914.take ((ji19):Int).toNat):=⟨_,rfl⟩
        replace H:((spec_l1Cur_among.f l0 t918 t919 y920).bind fun bt924=>(some (y911,bt924.1))) = some (r1,r2):=by first|(rw [hy920];with_reducible exact H)|(have H2_:=(Option.bind_some _ _).symm.trans H;rw [hy920];with_reducible exact H2_)|(have H2_:=(Option.bind_some _ _).symm.trans H;with_reducible exact H2_)|with_reducible exact H|(rw [hy920];exact H)|exact H
        have Ny920:=zM hy920;clear hy920;replace H:=Option.bind_eq_some_iff.mp H;obtain ⟨⟨t924,t925,t926⟩,A220,H⟩:=H;replace H:(some (y911,t924)) = some (r1,r2):=H
        have A22:=zM A220;clear A220;simp only [Option.some.injEq,Prod.mk.injEq] at H
        obtain ⟨rfl,rfl⟩:=H;go_wp2_with (first|((with_reducible refine gate_callee (f:=71) rfl ?_);refine goesL_ (some 24) rfl rfl Try.func71 (by kernel_rfl) rfl #[.pointer (some ⟨gb892,0,none⟩),.int .i64 30] rfl (by (try simp only [List.map_toArray,List.map_cons,List.map_nil]);first|done|rfl|(simp only [List.length_drop,List.length_take];rfl)) ?_;(with_reducible refine (spec_l1Cur_pick.calls gb892 l0 x893001_1 x893002_1 30 t908 t909 t910 w _ ?side1 ?side2 A15.out).mono ?_);(case side1=>repeat (first|(with_reducible first|exact HI892.out|apply IsS77.alloc|apply IsS77.drewN|apply IsS77.drew|apply IsS77.set_1|apply IsS77.set_2)|exact HI892.out));(case side2=>repeat (first|(with_reducible first|exact HB.out|apply zD|apply zE|apply zF|refine below_set ?_ (IsS77.ge HI892.out))|exact HB.out));rintro e w23 ⟨rfl,hi,hb,hk⟩;refine ⟨_,rfl,?_⟩;have n0_:=zM (Kd.R_mono (Kd.R_keep (IsS77.apart (show IsS77 w _ gb892 l0 x893001_1 x893002_1 from by repeat (first|(with_reducible first|exact HI892.out|apply IsS77.alloc|apply IsS77.drewN|apply IsS77.drew|apply IsS77.set_1|apply IsS77.set_2)|exact HI892.out)) (by (with_reducible repeat (first|apply zA|apply zB|apply zC));exact HO_5.out) (by decide)) hk (fun _ h=>h.2)) (fun _ h=>h.1));have n1_:=zM (hb);have n2_:=zM (hi);clear HO_5;clear HB;clear HI892;have HO_5:=n0_;have HB:=n1_;have HI892:=n2_;clear n0_ n1_ n2_;(try clear hb);(try clear hb2);(try clear hk);(try clear hi))|((with_reducible refine gate_builtin (b := .append) (xs := #[.tmp 27,.tmp 28]) rfl ?_);at_builtin;refine Kd.R_append (Kd.int .i64) (w0:=w) w.heap.size rfl (.tmp 27) (.tmp 28) 22 3 (.int .i64 0) 8 rfl Try.underlying22 info3 rfl (by decide) (by omega) u5 x5_1 0 [.int .i64 0] (fun _=>True) (fun _=>False) rfl rfl ?aP (fun _ hk=>hk.elim) ?aF ?aO ?aB ?aS ?aL ?_;(case aP=>exact rfl);(case aB=>exact (by repeat (first|(with_reducible first|exact HB.out|apply zD|apply zE|apply zF|refine below_set ?_ (IsS77.ge HI892.out))|exact HB.out)));(case aF=>exact (fun _ _=>trivial));(case aO=>exact (by (with_reducible repeat (first|apply zA|apply zB|apply zC));exact HO_5.out));(case aS=>exact (zR (by repeat (first|(with_reducible first|exact HB.out|apply zD|apply zE|apply zF|refine below_set ?_ (IsS77.ge HI892.out))|exact HB.out))));(case aL=>have:=LMc17.out;omega);intro v912 w24 ho hb hg hat;rw [← Ny911.out] at ho;have n0_:=zM (IsS77.grown (by repeat (first|(with_reducible first|exact HI892.out|apply IsS77.alloc|apply IsS77.drewN|apply IsS77.drew|apply IsS77.set_1|apply IsS77.set_2)|exact HI892.out)) hg (IsS77.own_ne HI892.out HO_5.out (by decide)));have n1_:=zM (hb);have n2_:=zM (ho);clear HI892;clear HB;clear HO_5;have HI892:=n0_;have HB:=n1_;have HO913:=n2_;clear n0_ n1_ n2_;clear ho hb hg hat)|((with_reducible refine gate_dst (N:=43) rfl ?_);refine Kd.R_lit (Kd.int .i64) _ 3 ?hg (N:=43) ?hd (xs:=([1,2,3,0,4]:List Int)) (inner:=[.int .i64 1,.int .i64 2,.int .i64 3,.int .i64 0,.int .i64 4]) (ok:=fun _=>True) (okp:=fun _=>True) ?hr ?hp (fun _ hk=>hk) trivial (Below.refl _ _) (Nat.le_refl _) (by simp) ?_;(case hd=>rfl);(case hg=>rfl);(case hr=>first|(go_simp;done)|(go_simp;rfl));(case hp=>exact (Reps.one (show Kd.M (Kd.int .i64) _ _ _ 1 [.int .i64 1] from rfl) (Reps.one (show Kd.M (Kd.int .i64) _ _ _ 2 [.int .i64 2] from rfl) (Reps.one (show Kd.M (Kd.int .i64) _ _ _ 3 [.int .i64 3] from rfl) (Reps.one (show Kd.M (Kd.int .i64) _ _ _ 0 [.int .i64 0] from rfl) (Reps.one (show Kd.M (Kd.int .i64) _ _ _ 4 [.int .i64 4] from rfl) (Reps.none _ _)))))));intro v915 w25 ho26 hb hg_ hnew_;clear hg_ hnew_;(first|rw [← Ny914.out] at ho26|(simp only [Int.reduceToNat] at ho26;rw [← Ny914.out] at ho26));have n0_:=zM (Kd.R_elder' (by (with_reducible repeat (first|apply zA|apply zB|apply zC));exact HO913.out) (Kd.R_base ho26) hb);have n1_:=zM (Kd.R_lower (Kd.R_new' ho26 (Kd.R_lt (by (with_reducible repeat (first|apply zA|apply zB|apply zC));exact HO913.out))) (zR (by repeat (first|(with_reducible first|exact HB.out|apply zD|apply zE|apply zF|refine below_set ?_ (IsS77.ge HI892.out))|exact HB.out))));have n2_:=zM (IsS77.below (by repeat (first|(with_reducible first|exact HI892.out|apply IsS77.alloc|apply IsS77.drewN|apply IsS77.drew|apply IsS77.set_1|apply IsS77.set_2)|exact HI892.out)) hb);have n3_:=zM (zQ (by repeat (first|(with_reducible first|exact HB.out|apply zD|apply zE|apply zF|refine below_set ?_ (IsS77.ge HI892.out))|exact HB.out)) hb);clear HO913;clear HI892;clear HB;have HO913:=n0_;have HO916:=n1_;have HI892:=n2_;have HB:=n3_;clear n0_ n1_ n2_ n3_;clear hb ho26)|((with_reducible refine gate_callee (f:=71) rfl ?_);refine goesL_ (some 45) rfl rfl Try.func71 (by kernel_rfl) rfl #[.pointer (some ⟨gb892,0,none⟩),.int .i64 24] rfl (by (try simp only [List.map_toArray,List.map_cons,List.map_nil]);first|done|rfl|(simp only [List.length_drop,List.length_take];rfl)) ?_;(with_reducible refine (spec_l1Cur_pick.calls gb892 l0 t909 t910 24 t917 t918 t919 w _ ?side1 ?side2 A18.out).mono ?_);(case side1=>repeat (first|(with_reducible first|exact HI892.out|apply IsS77.alloc|apply IsS77.drewN|apply IsS77.drew|apply IsS77.set_1|apply IsS77.set_2)|exact HI892.out));(case side2=>repeat (first|(with_reducible first|exact HB.out|apply zD|apply zE|apply zF|refine below_set ?_ (IsS77.ge HI892.out))|exact HB.out));rintro e w27 ⟨rfl,hi,hb,hk⟩;refine ⟨_,rfl,?_⟩;have n0_:=zM (Kd.R_mono (Kd.R_keep (IsS77.apart (show IsS77 w _ gb892 l0 t909 t910 from by repeat (first|(with_reducible first|exact HI892.out|apply IsS77.alloc|apply IsS77.drewN|apply IsS77.drew|apply IsS77.set_1|apply IsS77.set_2)|exact HI892.out)) (by (with_reducible repeat (first|apply zA|apply zB|apply zC));exact HO913.out) (by decide)) hk (fun _ h=>h.2)) (fun _ h=>h.1));have n1_:=zM (Kd.R_mono (Kd.R_keep (IsS77.apart (show IsS77 w _ gb892 l0 t909 t910 from by repeat (first|(with_reducible first|exact HI892.out|apply IsS77.alloc|apply IsS77.drewN|apply IsS77.drew|apply IsS77.set_1|apply IsS77.set_2)|exact HI892.out)) (by (with_reducible repeat (first|apply zA|apply zB|apply zC));exact HO916.out) (by decide)) hk (fun _ h=>h.2)) (fun _ h=>h.1));have n2_:=zM (hb);have n3_:=zM (hi);clear HO913;clear HO916;clear HB;clear HI892;have HO913:=n0_;have HO916:=n1_;have HB:=n2_;have HI892:=n3_;clear n0_ n1_ n2_ n3_;(try clear hb);(try clear hb2);(try clear hk);(try clear hi);obtain ⟨Ao29,co29,eo29⟩:=Kd.R_slice HO916.out;subst eo29;have q28:((ji19):Int) ≤ ((y914.length:Int):Int):=of_decide_eq_true (by first|(with_reducible assumption)|assumption);obtain ⟨i028,hi028,_,hsz28,_⟩:=info_parts info3;have hroom28:y914.length ≤ co29:=(zN HO916.out).2.1;have hC28:Kd.C (Kd.int .i64) _ Ao29 y914.length y914:=(zN HO916.out).2.2;have hcut28:=cut_to (P:=Try.prog) 22 3 .i64 Try.underlying22 hi028 Ao29 y914.length co29 (ji19) (of_decide_eq_true (by first|(with_reducible assumption)|assumption)) q28 hroom28;have hr28:=Kd.C_take (m:=((ji19):Int).toNat) hC28 (by omega);have hy28:y920.length = ((ji19):Int).toNat:=(by rw [Ny920.out,List.length_take];omega);rw [← Ny920.out] at hr28;rw [← hy28] at hcut28;have HR923:=zM hr28;have HC923:=zM (show y920.length ≤ co29 from by omega);clear hr28 hC28 hroom28 hi028 hsz28;have KY28:=zM hy28;clear hy28;have KL28:=zM (show ((ji19):Int).toNat ≤ y914.length from by omega);replace q28:=eq_true q28)|((with_reducible refine gate_callee (f:=72) rfl ?_);refine goesL_ (some 49) rfl rfl Try.func72 (by kernel_rfl) rfl #[.pointer (some ⟨gb892,0,none⟩),.slice Ao29 y920.length co29] rfl (by (try simp only [List.map_toArray,List.map_cons,List.map_nil]);first|done|rfl|(simp only [List.length_drop,List.length_take];rfl)) ?_;(with_reducible refine (spec_l1Cur_among.calls gb892 l0 t918 t919 _ _ y920 t924 t925 t926 w _ ?side1 ?side2 ?side3 ?side4 ?side5 A22.out).mono ?_);(case side1=>repeat (first|(with_reducible first|exact HI892.out|apply IsS77.alloc|apply IsS77.drewN|apply IsS77.drew|apply IsS77.set_1|apply IsS77.set_2)|exact HI892.out));(case side2=>repeat (first|(with_reducible first|exact HB.out|apply zD|apply zE|apply zF|refine below_set ?_ (IsS77.ge HI892.out))|exact HB.out));(case side3=>repeat (first|exact (by repeat (first|(with_reducible exact HR923.out)|(with_reducible first|refine zG ?_ _|refine zH ?_ _|refine zI ?_)|exact HR923.out))|(with_reducible first|refine zG ?_ _|refine zH ?_ _|refine zI ?_)));(case side4=>exact HC923.out);(case side5=>exact fun ad he _ hc=>(IsS77.own_ne HI892.out HO916.out (by decide)) (by rw [he];simp [Value.ownBlock,hc]));rintro e w30 ⟨rfl,hi,hb,hk⟩;refine ⟨_,rfl,?_⟩;have n0_:=zM (Kd.R_mono (Kd.R_keep (IsS77.apart (show IsS77 w _ gb892 l0 t918 t919 from by repeat (first|(with_reducible first|exact HI892.out|apply IsS77.alloc|apply IsS77.drewN|apply IsS77.drew|apply IsS77.set_1|apply IsS77.set_2)|exact HI892.out)) (by (with_reducible repeat (first|apply zA|apply zB|apply zC));exact HO913.out) (by decide)) hk (fun _ h=>h.2)) (fun _ h=>h.1));have n1_:=zM (Kd.R_mono (Kd.R_keep (IsS77.apart (show IsS77 w _ gb892 l0 t918 t919 from by repeat (first|(with_reducible first|exact HI892.out|apply IsS77.alloc|apply IsS77.drewN|apply IsS77.drew|apply IsS77.set_1|apply IsS77.set_2)|exact HI892.out)) (by (with_reducible repeat (first|apply zA|apply zB|apply zC));exact HO916.out) (by decide)) hk (fun _ h=>h.2)) (fun _ h=>h.1));have n2_:=zM (hb);have n3_:=zM (hi);clear HO913;clear HO916;clear HB;clear HI892;have HO913:=n0_;have HO916:=n1_;have HB:=n2_;have HI892:=n3_;clear n0_ n1_ n2_ n3_;(try clear hb);(try clear hb2);(try clear hk);(try clear hi)))
        go_ret2
        exact ⟨_,by first|rfl|(simp [errW_none,errW_some] <;> rfl)|(simp only [← hji19];first|rfl|(simp [errW_none,errW_some] <;> rfl))|(simp [*,errW_none,errW_some] <;> rfl),by (with_reducible repeat (first|apply zA|apply zB|apply zC));exact Kd.R_mono HO913.out (fun _ hk=>trivial),by repeat (first|(with_reducible first|exact HB.out|apply zD|apply zE|apply zF|refine below_set ?_ (IsS77.ge HI892.out))|exact HB.out)⟩
       ·rw [if_neg c21] at H
        exact absurd H (by simp)
      ·rw [if_neg c20] at H
       exact absurd H (by simp)
     ·rw [if_neg c17] at H
      exact absurd H (by simp)
    ·rw [if_neg c16] at H
     have c16b0:(t908 == 0) = false:=beq_eq_false_iff_ne.mpr c16
     have c16b1:(t908 != 0) = true:=bne_iff_ne.mpr c16
     by_cases c31:t908 = 1
     ·rw [if_pos c31] at H
      have c31b0:(t908 == 1) = true:=beq_iff_eq.mpr c31
      have c31b1:(t908 != 1) = false:=bne_eq_false_iff_eq.mpr c31
      clear c31;have H':=zM H;clear H;go_wp2_with (first|((with_reducible refine gate_callee (f:=71) rfl ?_);refine goesL_ (some 24) rfl rfl Try.func71 (by kernel_rfl) rfl #[.pointer (some ⟨gb892,0,none⟩),.int .i64 30] rfl (by (try simp only [List.map_toArray,List.map_cons,List.map_nil]);first|done|rfl|(simp only [List.length_drop,List.length_take];rfl)) ?_;(with_reducible refine (spec_l1Cur_pick.calls gb892 l0 x893001_1 x893002_1 30 t908 t909 t910 w _ ?side1 ?side2 A15.out).mono ?_);(case side1=>repeat (first|(with_reducible first|exact HI892.out|apply IsS77.alloc|apply IsS77.drewN|apply IsS77.drew|apply IsS77.set_1|apply IsS77.set_2)|exact HI892.out));(case side2=>repeat (first|(with_reducible first|exact HB.out|apply zD|apply zE|apply zF|refine below_set ?_ (IsS77.ge HI892.out))|exact HB.out));rintro e w32 ⟨rfl,hi,hb,hk⟩;refine ⟨_,rfl,?_⟩;have n0_:=zM (Kd.R_mono (Kd.R_keep (IsS77.apart (show IsS77 w _ gb892 l0 x893001_1 x893002_1 from by repeat (first|(with_reducible first|exact HI892.out|apply IsS77.alloc|apply IsS77.drewN|apply IsS77.drew|apply IsS77.set_1|apply IsS77.set_2)|exact HI892.out)) (by (with_reducible repeat (first|apply zA|apply zB|apply zC));exact HO_5.out) (by decide)) hk (fun _ h=>h.2)) (fun _ h=>h.1));have n1_:=zM (hb);have n2_:=zM (hi);clear HO_5;clear HB;clear HI892;have HO_5:=n0_;have HB:=n1_;have HI892:=n2_;clear n0_ n1_ n2_;(try clear hb);(try clear hb2);(try clear hk);(try clear hi)))
      go_loopg [5] k1 (fun kq v5 w' => ∃ (x5_2:List Int) (x893001_2:Int) (x893002_2:Int),Aside0 (spec_DrawSplitColumns.l1 kq x5_2 l0 x893001_2 x893002_2 = some (r1,r2)) ∧ Aside0 (kq ≤ k1) ∧ Aside0 (Kd.R (Kd.int .i64) 3 w' w.heap.size (fun _=>True) v5 x5_2) ∧ Aside0 (IsS77 w w' gb892 l0 x893001_2 x893002_2) ∧ Aside0 (Below w.heap.size w w'))
      case atStart=>exact ⟨(x5_1),(t909),(t910),H',⟨Nat.le_refl _⟩,⟨by (with_reducible repeat (first|apply zA|apply zB|apply zC));exact HO_5.out⟩,⟨by repeat (first|(with_reducible first|exact HI892.out|apply IsS77.alloc|apply IsS77.drewN|apply IsS77.drew|apply IsS77.set_1|apply IsS77.set_2)|exact HI892.out)⟩,⟨by repeat (first|(with_reducible first|exact HB.out|apply zD|apply zE|apply zF|refine below_set ?_ (IsS77.ge HI892.out))|exact HB.out)⟩⟩
      case round =>
       clear H';(try clear c1);(try clear c2);(try clear p2);(try clear q2);(try clear c3);(try clear p6);(try clear c7);(try clear c7b0);(try clear c9);(try clear c16);(try clear c16b0);(try clear c16b1);(try clear c17);(try clear c20);(try clear c20b0);(try clear c20b1);(try clear c21);(try clear c21b0);(try clear c21b1);(try clear q28);(try clear c31);(try clear c31b0);(try clear c31b1);(try clear p2);(try clear q28);obtain ⟨x5_2,x893001_2,x893002_2,HA,HK2,HO_5,HI892,HB⟩:=hrel;cases gk with
       | zero=>exact absurd HA.out (by simp [spec_DrawSplitColumns.l1])
       | succ k2 =>
        have H:=HA.out;clear HA;simp only [spec_DrawSplitColumns.l1] at H
        replace H:=Option.bind_eq_some_iff.mp H;obtain ⟨⟨t927,t928,t929⟩,A330,H⟩:=H;replace H:(if (x5_2.length:Int) < (wrap64 (8 + t927)) then (if x5_2.length < 17592186044416 then (spec_DrawSplitColumns.l1 k2 (x5_2 ++ [500]) l0 t928 t929) else (none)) else ((some (([1,2,3,0,4]:List Int):List Int)).bind fun y933=>((spec_l1Cur_pick.f l0 t928 t929 24).bind fun bt936=>(if 0 ≤ (wrap64 (3 + (wrap64 (Int.tdiv bt936.1 11)))) then (if (wrap64 (3 + (wrap64 (Int.tdiv bt936.1 11)))) ≤ (y933.length:Int) then ((spec_l1Cur_among.f l0 bt936.2.1 bt936.2.2 (y933.take ((wrap64 (3 + (wrap64 (Int.tdiv bt936.1 11)))):Int).toNat)).bind fun bt943=>(some (x5_2,bt943.1))) else (none)) else (none))))) = some (r1,r2):=H
        have A33:=zM A330;clear A330;by_cases c34:(x5_2.length:Int) < (wrap64 (8 + t927))
        ·rw [if_pos c34] at H
         have c34b0:decide ((x5_2.length:Int) < (wrap64 (8 + t927))) = true:=decide_eq_true c34
         clear c34;by_cases c35:x5_2.length < 17592186044416
         ·rw [if_pos c35] at H
          have LMc35:=zM c35;clear c35;obtain ⟨y930,hy930⟩ : ∃ y_:List Int,y_ = (x5_2 ++ [500]):=⟨_,rfl⟩
          replace H:(spec_DrawSplitColumns.l1 k2 y930 l0 t928 t929) = some (r1,r2):=by first|(rw [hy930];with_reducible exact H)|(have H2_:=(Option.bind_some _ _).symm.trans H;rw [hy930];with_reducible exact H2_)|(have H2_:=(Option.bind_some _ _).symm.trans H;with_reducible exact H2_)|with_reducible exact H|(rw [hy930];exact H)|exact H
          have Ny930:=zM hy930;clear hy930;have H':=zM H;clear H;obtain ⟨Ao36,co36,eo36⟩:=Kd.R_slice HO_5.out;subst eo36;go_wp2_with (first|((with_reducible refine gate_callee (f:=71) rfl ?_);refine goesL_ (some 35) rfl rfl Try.func71 (by kernel_rfl) rfl #[.pointer (some ⟨gb892,0,none⟩),.int .i64 2] rfl (by (try simp only [List.map_toArray,List.map_cons,List.map_nil]);first|done|rfl|(simp only [List.length_drop,List.length_take];rfl)) ?_;(with_reducible refine (spec_l1Cur_pick.calls gb892 l0 x893001_2 x893002_2 2 t927 t928 t929 w _ ?side1 ?side2 A33.out).mono ?_);(case side1=>repeat (first|(with_reducible first|exact HI892.out|apply IsS77.alloc|apply IsS77.drewN|apply IsS77.drew|apply IsS77.set_1|apply IsS77.set_2)|exact HI892.out));(case side2=>repeat (first|(with_reducible first|exact HB.out|apply zD|apply zE|apply zF|refine below_set ?_ (IsS77.ge HI892.out))|exact HB.out));rintro e w37 ⟨rfl,hi,hb,hk⟩;refine ⟨_,rfl,?_⟩;have n0_:=zM (Kd.R_mono (Kd.R_keep (IsS77.apart (show IsS77 w _ gb892 l0 x893001_2 x893002_2 from by repeat (first|(with_reducible first|exact HI892.out|apply IsS77.alloc|apply IsS77.drewN|apply IsS77.drew|apply IsS77.set_1|apply IsS77.set_2)|exact HI892.out)) (by (with_reducible repeat (first|apply zA|apply zB|apply zC));exact HO_5.out) (by decide)) hk (fun _ h=>h.2)) (fun _ h=>h.1));have n1_:=zM (hb);have n2_:=zM (hi);clear HO_5;clear HB;clear HI892;have HO_5:=n0_;have HB:=n1_;have HI892:=n2_;clear n0_ n1_ n2_;(try clear hb);(try clear hb2);(try clear hk);(try clear hi))|((with_reducible refine gate_builtin (b := .append) (xs := #[.tmp 38,.tmp 39]) rfl ?_);at_builtin;refine Kd.R_append (Kd.int .i64) (w0:=w) w.heap.size rfl (.tmp 38) (.tmp 39) 22 3 (.int .i64 0) 8 rfl Try.underlying22 info3 rfl (by decide) (by omega) (.slice Ao36 x5_2.length co36) x5_2 500 [.int .i64 500] (fun _=>True) (fun _=>False) rfl rfl ?aP (fun _ hk=>hk.elim) ?aF ?aO ?aB ?aS ?aL ?_;(case aP=>exact rfl);(case aB=>exact (by repeat (first|(with_reducible first|exact HB.out|apply zD|apply zE|apply zF|refine below_set ?_ (IsS77.ge HI892.out))|exact HB.out)));(case aF=>exact (fun _ _=>trivial));(case aO=>exact (by (with_reducible repeat (first|apply zA|apply zB|apply zC));exact HO_5.out));(case aS=>exact (zR (by repeat (first|(with_reducible first|exact HB.out|apply zD|apply zE|apply zF|refine below_set ?_ (IsS77.ge HI892.out))|exact HB.out))));(case aL=>have:=LMc35.out;omega);intro v931 w38 ho hb hg hat;rw [← Ny930.out] at ho;have n0_:=zM (IsS77.grown (by repeat (first|(with_reducible first|exact HI892.out|apply IsS77.alloc|apply IsS77.drewN|apply IsS77.drew|apply IsS77.set_1|apply IsS77.set_2)|exact HI892.out)) hg (IsS77.own_ne HI892.out HO_5.out (by decide)));have n1_:=zM (hb);have n2_:=zM (ho);clear HI892;clear HB;clear HO_5;have HI892:=n0_;have HB:=n1_;have HO932:=n2_;clear n0_ n1_ n2_;clear ho hb hg hat))
          go_roundg k2
          case measure=>have:=HK1.out;have:=HK2.out;omega
          case rel=>exact ⟨(y930),(t928),(t929),H',⟨by have:=HK1.out;have:=HK2.out;omega⟩,⟨by (with_reducible repeat (first|apply zA|apply zB|apply zC));exact HO932.out⟩,⟨by repeat (first|(with_reducible first|exact HI892.out|apply IsS77.alloc|apply IsS77.drewN|apply IsS77.drew|apply IsS77.set_1|apply IsS77.set_2)|exact HI892.out)⟩,⟨by repeat (first|(with_reducible first|exact HB.out|apply zD|apply zE|apply zF|refine below_set ?_ (IsS77.ge HI892.out))|exact HB.out)⟩⟩
         ·rw [if_neg c35] at H
          exact absurd H (by simp)
        ·rw [if_neg c34] at H
         have c34b0:decide ((x5_2.length:Int) < (wrap64 (8 + t927))) = false:=decide_eq_false c34
         clear c34;obtain ⟨y933,hy933⟩ : ∃ y_:List Int,y_ = (([1,2,3,0,4]:List Int)):=⟨_,rfl⟩
         replace H:((spec_l1Cur_pick.f l0 t928 t929 24).bind fun bt936=>(if 0 ≤ (wrap64 (3 + (wrap64 (Int.tdiv bt936.1 11)))) then (if (wrap64 (3 + (wrap64 (Int.tdiv bt936.1 11)))) ≤ (y933.length:Int) then ((spec_l1Cur_among.f l0 bt936.2.1 bt936.2.2 (y933.take ((wrap64 (3 + (wrap64 (Int.tdiv bt936.1 11)))):Int).toNat)).bind fun bt943=>(some (x5_2,bt943.1))) else (none)) else (none))) = some (r1,r2):=by first|(rw [hy933];with_reducible exact H)|(have H2_:=(Option.bind_some _ _).symm.trans H;rw [hy933];with_reducible exact H2_)|(have H2_:=(Option.bind_some _ _).symm.trans H;with_reducible exact H2_)|with_reducible exact H|(rw [hy933];exact H)|exact H
         have Ny933:=zM hy933;clear hy933;replace H:=Option.bind_eq_some_iff.mp H;obtain ⟨⟨t936,t937,t938⟩,A390,H⟩:=H;replace H:(if 0 ≤ (wrap64 (3 + (wrap64 (Int.tdiv t936 11)))) then (if (wrap64 (3 + (wrap64 (Int.tdiv t936 11)))) ≤ (y933.length:Int) then ((spec_l1Cur_among.f l0 t937 t938 (y933.take ((wrap64 (3 + (wrap64 (Int.tdiv t936 11)))):Int).toNat)).bind fun bt943=>(some (x5_2,bt943.1))) else (none)) else (none)) = some (r1,r2):=H
         have A39:=zM A390;clear A390;obtain ⟨ji40,hji40⟩ : ∃ j_:Int,(wrap64 (3 + (wrap64 (Int.tdiv t936 11)))) = j_:=⟨_,rfl⟩
         replace H:(if 0 ≤ (ji40) then (if (ji40) ≤ (y933.length:Int) then ((spec_l1Cur_among.f l0 t937 t938 (y933.take ((ji40):Int).toNat)).bind fun bt943=>(some (x5_2,bt943.1))) else (none)) else (none)) = some (r1,r2):=by first|(rw [hji40] at H;exact H)|(simp only [hji40] at H ⊢;exact H)
         (try rw [hji40] at A33)
         (try rw [hji40] at A39)
         have hji40w:(IntKind.i64.wrap (3 + (wrap64 (Int.tdiv t936 11)))) = ji40:=(i64_w _).trans hji40
         by_cases c41:0 ≤ (ji40)
         ·rw [if_pos c41] at H
          have c41b0:=eq_true c41;have c41b1:decide (0 ≤ (ji40)) = true:=decide_eq_true c41
          clear c41;by_cases c42:(ji40) ≤ (y933.length:Int)
          ·rw [if_pos c42] at H
           have c42b0:=eq_true c42;have c42b1:decide ((ji40) ≤ (y933.length:Int)) = true:=decide_eq_true c42
           clear c42;obtain ⟨y939,hy939⟩ : ∃ y_:List Int,y_ = (y933.take ((ji40):Int).toNat):=⟨_,rfl⟩
           replace H:((spec_l1Cur_among.f l0 t937 t938 y939).bind fun bt943=>(some (x5_2,bt943.1))) = some (r1,r2):=by first|(rw [hy939];with_reducible exact H)|(have H2_:=(Option.bind_some _ _).symm.trans H;rw [hy939];with_reducible exact H2_)|(have H2_:=(Option.bind_some _ _).symm.trans H;with_reducible exact H2_)|with_reducible exact H|(rw [hy939];exact H)|exact H
           have Ny939:=zM hy939;clear hy939;replace H:=Option.bind_eq_some_iff.mp H;obtain ⟨⟨t943,t944,t945⟩,A430,H⟩:=H;replace H:(some (x5_2,t943)) = some (r1,r2):=H
           have A43:=zM A430;clear A430;simp only [Option.some.injEq,Prod.mk.injEq] at H
           obtain ⟨rfl,rfl⟩:=H;obtain ⟨Ao44,co44,eo44⟩:=Kd.R_slice HO_5.out;subst eo44;go_wp2_with (first|((with_reducible refine gate_callee (f:=71) rfl ?_);refine goesL_ (some 35) rfl rfl Try.func71 (by kernel_rfl) rfl #[.pointer (some ⟨gb892,0,none⟩),.int .i64 2] rfl (by (try simp only [List.map_toArray,List.map_cons,List.map_nil]);first|done|rfl|(simp only [List.length_drop,List.length_take];rfl)) ?_;(with_reducible refine (spec_l1Cur_pick.calls gb892 l0 x893001_2 x893002_2 2 t927 t928 t929 w _ ?side1 ?side2 A33.out).mono ?_);(case side1=>repeat (first|(with_reducible first|exact HI892.out|apply IsS77.alloc|apply IsS77.drewN|apply IsS77.drew|apply IsS77.set_1|apply IsS77.set_2)|exact HI892.out));(case side2=>repeat (first|(with_reducible first|exact HB.out|apply zD|apply zE|apply zF|refine below_set ?_ (IsS77.ge HI892.out))|exact HB.out));rintro e w45 ⟨rfl,hi,hb,hk⟩;refine ⟨_,rfl,?_⟩;have n0_:=zM (Kd.R_mono (Kd.R_keep (IsS77.apart (show IsS77 w _ gb892 l0 x893001_2 x893002_2 from by repeat (first|(with_reducible first|exact HI892.out|apply IsS77.alloc|apply IsS77.drewN|apply IsS77.drew|apply IsS77.set_1|apply IsS77.set_2)|exact HI892.out)) (by (with_reducible repeat (first|apply zA|apply zB|apply zC));exact HO_5.out) (by decide)) hk (fun _ h=>h.2)) (fun _ h=>h.1));have n1_:=zM (hb);have n2_:=zM (hi);clear HO_5;clear HB;clear HI892;have HO_5:=n0_;have HB:=n1_;have HI892:=n2_;clear n0_ n1_ n2_;(try clear hb);(try clear hb2);(try clear hk);(try clear hi))|((with_reducible refine gate_dst (N:=43) rfl ?_);refine Kd.R_lit (Kd.int .i64) _ 3 ?hg (N:=43) ?hd (xs:=([1,2,3,0,4]:List Int)) (inner:=[.int .i64 1,.int .i64 2,.int .i64 3,.int .i64 0,.int .i64 4]) (ok:=fun _=>True) (okp:=fun _=>True) ?hr ?hp (fun _ hk=>hk) trivial (Below.refl _ _) (Nat.le_refl _) (by simp) ?_;(case hd=>rfl);(case hg=>rfl);(case hr=>first|(go_simp;done)|(go_simp;rfl));(case hp=>exact (Reps.one (show Kd.M (Kd.int .i64) _ _ _ 1 [.int .i64 1] from rfl) (Reps.one (show Kd.M (Kd.int .i64) _ _ _ 2 [.int .i64 2] from rfl) (Reps.one (show Kd.M (Kd.int .i64) _ _ _ 3 [.int .i64 3] from rfl) (Reps.one (show Kd.M (Kd.int .i64) _ _ _ 0 [.int .i64 0] from rfl) (Reps.one (show Kd.M (Kd.int .i64) _ _ _ 4 [.int .i64 4] from rfl) (Reps.none _ _)))))));intro v934 w46 ho47 hb hg_ hnew_;clear hg_ hnew_;(first|rw [← Ny933.out] at ho47|(simp only [Int.reduceToNat] at ho47;rw [← Ny933.out] at ho47));have n0_:=zM (Kd.R_elder' (by (with_reducible repeat (first|apply zA|apply zB|apply zC));exact HO_5.out) (Kd.R_base ho47) hb);have n1_:=zM (Kd.R_lower (Kd.R_new' ho47 (Kd.R_lt (by (with_reducible repeat (first|apply zA|apply zB|apply zC));exact HO_5.out))) (zR (by repeat (first|(with_reducible first|exact HB.out|apply zD|apply zE|apply zF|refine below_set ?_ (IsS77.ge HI892.out))|exact HB.out))));have n2_:=zM (IsS77.below (by repeat (first|(with_reducible first|exact HI892.out|apply IsS77.alloc|apply IsS77.drewN|apply IsS77.drew|apply IsS77.set_1|apply IsS77.set_2)|exact HI892.out)) hb);have n3_:=zM (zQ (by repeat (first|(with_reducible first|exact HB.out|apply zD|apply zE|apply zF|refine below_set ?_ (IsS77.ge HI892.out))|exact HB.out)) hb);clear HO_5;clear HI892;clear HB;have HO_5:=n0_;have HO935:=n1_;have HI892:=n2_;have HB:=n3_;clear n0_ n1_ n2_ n3_;clear hb ho47)|((with_reducible refine gate_callee (f:=71) rfl ?_);refine goesL_ (some 45) rfl rfl Try.func71 (by kernel_rfl) rfl #[.pointer (some ⟨gb892,0,none⟩),.int .i64 24] rfl (by (try simp only [List.map_toArray,List.map_cons,List.map_nil]);first|done|rfl|(simp only [List.length_drop,List.length_take];rfl)) ?_;(with_reducible refine (spec_l1Cur_pick.calls gb892 l0 t928 t929 24 t936 t937 t938 w _ ?side1 ?side2 A39.out).mono ?_);(case side1=>repeat (first|(with_reducible first|exact HI892.out|apply IsS77.alloc|apply IsS77.drewN|apply IsS77.drew|apply IsS77.set_1|apply IsS77.set_2)|exact HI892.out));(case side2=>repeat (first|(with_reducible first|exact HB.out|apply zD|apply zE|apply zF|refine below_set ?_ (IsS77.ge HI892.out))|exact HB.out));rintro e w48 ⟨rfl,hi,hb,hk⟩;refine ⟨_,rfl,?_⟩;have n0_:=zM (Kd.R_mono (Kd.R_keep (IsS77.apart (show IsS77 w _ gb892 l0 t928 t929 from by repeat (first|(with_reducible first|exact HI892.out|apply IsS77.alloc|apply IsS77.drewN|apply IsS77.drew|apply IsS77.set_1|apply IsS77.set_2)|exact HI892.out)) (by (with_reducible repeat (first|apply zA|apply zB|apply zC));exact HO_5.out) (by decide)) hk (fun _ h=>h.2)) (fun _ h=>h.1));have n1_:=zM (Kd.R_mono (Kd.R_keep (IsS77.apart (show IsS77 w _ gb892 l0 t928 t929 from by repeat (first|(with_reducible first|exact HI892.out|apply IsS77.alloc|apply IsS77.drewN|apply IsS77.drew|apply IsS77.set_1|apply IsS77.set_2)|exact HI892.out)) (by (with_reducible repeat (first|apply zA|apply zB|apply zC));exact HO935.out) (by decide)) hk (fun _ h=>h.2)) (fun _ h=>h.1));have n2_:=zM (hb);have n3_:=zM (hi);clear HO_5;clear HO935;clear HB;clear HI892;have HO_5:=n0_;have HO935:=n1_;have HB:=n2_;have HI892:=n3_;clear n0_ n1_ n2_ n3_;(try clear hb);(try clear hb2);(try clear hk);(try clear hi);obtain ⟨Ao50,co50,eo50⟩:=Kd.R_slice HO935.out;subst eo50;have q49:((ji40):Int) ≤ ((y933.length:Int):Int):=of_decide_eq_true (by first|(with_reducible assumption)|assumption);obtain ⟨i049,hi049,_,hsz49,_⟩:=info_parts info3;have hroom49:y933.length ≤ co50:=(zN HO935.out).2.1;have hC49:Kd.C (Kd.int .i64) _ Ao50 y933.length y933:=(zN HO935.out).2.2;have hcut49:=cut_to (P:=Try.prog) 22 3 .i64 Try.underlying22 hi049 Ao50 y933.length co50 (ji40) (of_decide_eq_true (by first|(with_reducible assumption)|assumption)) q49 hroom49;have hr49:=Kd.C_take (m:=((ji40):Int).toNat) hC49 (by omega);have hy49:y939.length = ((ji40):Int).toNat:=(by rw [Ny939.out,List.length_take];omega);rw [← Ny939.out] at hr49;rw [← hy49] at hcut49;have HR942:=zM hr49;have HC942:=zM (show y939.length ≤ co50 from by omega);clear hr49 hC49 hroom49 hi049 hsz49;have KY49:=zM hy49;clear hy49;have KL49:=zM (show ((ji40):Int).toNat ≤ y933.length from by omega);replace q49:=eq_true q49)|((with_reducible refine gate_callee (f:=72) rfl ?_);refine goesL_ (some 49) rfl rfl Try.func72 (by kernel_rfl) rfl #[.pointer (some ⟨gb892,0,none⟩),.slice Ao50 y939.length co50] rfl (by (try simp only [List.map_toArray,List.map_cons,List.map_nil]);first|done|rfl|(simp only [List.length_drop,List.length_take];rfl)) ?_;(with_reducible refine (spec_l1Cur_among.calls gb892 l0 t937 t938 _ _ y939 t943 t944 t945 w _ ?side1 ?side2 ?side3 ?side4 ?side5 A43.out).mono ?_);(case side1=>repeat (first|(with_reducible first|exact HI892.out|apply IsS77.alloc|apply IsS77.drewN|apply IsS77.drew|apply IsS77.set_1|apply IsS77.set_2)|exact HI892.out));(case side2=>repeat (first|(with_reducible first|exact HB.out|apply zD|apply zE|apply zF|refine below_set ?_ (IsS77.ge HI892.out))|exact HB.out));(case side3=>repeat (first|exact (by repeat (first|(with_reducible exact HR942.out)|(with_reducible first|refine zG ?_ _|refine zH ?_ _|refine zI ?_)|exact HR942.out))|(with_reducible first|refine zG ?_ _|refine zH ?_ _|refine zI ?_)));(case side4=>exact HC942.out);(case side5=>exact fun ad he _ hc=>(IsS77.own_ne HI892.out HO935.out (by decide)) (by rw [he];simp [Value.ownBlock,hc]));rintro e w51 ⟨rfl,hi,hb,hk⟩;refine ⟨_,rfl,?_⟩;have n0_:=zM (Kd.R_mono (Kd.R_keep (IsS77.apart (show IsS77 w _ gb892 l0 t937 t938 from by repeat (first|(with_reducible first|exact HI892.out|apply IsS77.alloc|apply IsS77.drewN|apply IsS77.drew|apply IsS77.set_1|apply IsS77.set_2)|exact HI892.out)) (by (with_reducible repeat (first|apply zA|apply zB|apply zC));exact HO_5.out) (by decide)) hk (fun _ h=>h.2)) (fun _ h=>h.1));have n1_:=zM (Kd.R_mono (Kd.R_keep (IsS77.apart (show IsS77 w _ gb892 l0 t937 t938 from by repeat (first|(with_reducible first|exact HI892.out|apply IsS77.alloc|apply IsS77.drewN|apply IsS77.drew|apply IsS77.set_1|apply IsS77.set_2)|exact HI892.out)) (by (with_reducible repeat (first|apply zA|apply zB|apply zC));exact HO935.out) (by decide)) hk (fun _ h=>h.2)) (fun _ h=>h.1));have n2_:=zM (hb);have n3_:=zM (hi);clear HO_5;clear HO935;clear HB;clear HI892;have HO_5:=n0_;have HO935:=n1_;have HB:=n2_;have HI892:=n3_;clear n0_ n1_ n2_ n3_;(try clear hb);(try clear hb2);(try clear hk);(try clear hi)))
           go_ret2
           exact ⟨_,by first|rfl|(simp [errW_none,errW_some] <;> rfl)|(simp only [← hji40];first|rfl|(simp [errW_none,errW_some] <;> rfl))|(simp [*,errW_none,errW_some] <;> rfl),by (with_reducible repeat (first|apply zA|apply zB|apply zC));exact Kd.R_mono HO_5.out (fun _ hk=>trivial),by repeat (first|(with_reducible first|exact HB.out|apply zD|apply zE|apply zF|refine below_set ?_ (IsS77.ge HI892.out))|exact HB.out)⟩
          ·rw [if_neg c42] at H
           exact absurd H (by simp)
         ·rw [if_neg c41] at H
          exact absurd H (by simp)
     ·rw [if_neg c31] at H
      have c31b0:(t908 == 1) = false:=beq_eq_false_iff_ne.mpr c31
      have c31b1:(t908 != 1) = true:=bne_iff_ne.mpr c31
      obtain ⟨y946,hy946⟩ : ∃ y_:List Int,y_ = (([1,2,3,0,4]:List Int)):=⟨_,rfl⟩
      replace H:((spec_l1Cur_pick.f l0 t909 t910 24).bind fun bt949=>(if 0 ≤ (wrap64 (3 + (wrap64 (Int.tdiv bt949.1 11)))) then (if (wrap64 (3 + (wrap64 (Int.tdiv bt949.1 11)))) ≤ (y946.length:Int) then ((spec_l1Cur_among.f l0 bt949.2.1 bt949.2.2 (y946.take ((wrap64 (3 + (wrap64 (Int.tdiv bt949.1 11)))):Int).toNat)).bind fun bt956=>(some (x5_1,bt956.1))) else (none)) else (none))) = some (r1,r2):=by first|(rw [hy946];with_reducible exact H)|(have H2_:=(Option.bind_some _ _).symm.trans H;rw [hy946];with_reducible exact H2_)|(have H2_:=(Option.bind_some _ _).symm.trans H;with_reducible exact H2_)|with_reducible exact H|(rw [hy946];exact H)|exact H
      have Ny946:=zM hy946;clear hy946;replace H:=Option.bind_eq_some_iff.mp H;obtain ⟨⟨t949,t950,t951⟩,A520,H⟩:=H;replace H:(if 0 ≤ (wrap64 (3 + (wrap64 (Int.tdiv t949 11)))) then (if (wrap64 (3 + (wrap64 (Int.tdiv t949 11)))) ≤ (y946.length:Int) then ((spec_l1Cur_among.f l0 t950 t951 (y946.take ((wrap64 (3 + (wrap64 (Int.tdiv t949 11)))):Int).toNat)).bind fun bt956=>(some (x5_1,bt956.1))) else (none)) else (none)) = some (r1,r2):=H
      have A52:=zM A520;clear A520;obtain ⟨ji53,hji53⟩ : ∃ j_:Int,(wrap64 (3 + (wrap64 (Int.tdiv t949 11)))) = j_:=⟨_,rfl⟩
      replace H:(if 0 ≤ (ji53) then (if (ji53) ≤ (y946.length:Int) then ((spec_l1Cur_among.f l0 t950 t951 (y946.take ((ji53):Int).toNat)).bind fun bt956=>(some (x5_1,bt956.1))) else (none)) else (none)) = some (r1,r2):=by first|(rw [hji53] at H;exact H)|(simp only [hji53] at H ⊢;exact H)
      (try rw [hji53] at A15)
      (try rw [hji53] at A52)
      have hji53w:(IntKind.i64.wrap (3 + (wrap64 (Int.tdiv t949 11)))) = ji53:=(i64_w _).trans hji53
      by_cases c54:0 ≤ (ji53)
      ·rw [if_pos c54] at H
       have c54b0:=eq_true c54;have c54b1:decide (0 ≤ (ji53)) = true:=decide_eq_true c54
       clear c54;by_cases c55:(ji53) ≤ (y946.length:Int)
       ·rw [if_pos c55] at H
        have c55b0:=eq_true c55;have c55b1:decide ((ji53) ≤ (y946.length:Int)) = true:=decide_eq_true c55
        clear c55;obtain ⟨y952,hy952⟩ : ∃ y_:List Int,y_ = (y946.take ((ji53):Int).toNat):=⟨_,rfl⟩
        replace H:((spec_l1Cur_among.f l0 t950 t951 y952).bind fun bt956=>(some (x5_1,bt956.1))) = some (r1,r2):=by first|(rw [hy952];with_reducible exact H)|(have H2_:=(Option.bind_some _ _).symm.trans H;rw [hy952];with_reducible exact H2_)|(have H2_:=(Option.bind_some _ _).symm.trans H;with_reducible exact H2_)|with_reducible exact H|(rw [hy952];exact H)|exact H
        have Ny952:=zM hy952;clear hy952;replace H:=Option.bind_eq_some_iff.mp H;obtain ⟨⟨t956,t957,t958⟩,A560,H⟩:=H;replace H:(some (x5_1,t956)) = some (r1,r2):=H
        have A56:=zM A560;clear A560;simp only [Option.some.injEq,Prod.mk.injEq] at H
        obtain ⟨rfl,rfl⟩:=H;go_wp2_with (first|((with_reducible refine gate_callee (f:=71) rfl ?_);refine goesL_ (some 24) rfl rfl Try.func71 (by kernel_rfl) rfl #[.pointer (some ⟨gb892,0,none⟩),.int .i64 30] rfl (by (try simp only [List.map_toArray,List.map_cons,List.map_nil]);first|done|rfl|(simp only [List.length_drop,List.length_take];rfl)) ?_;(with_reducible refine (spec_l1Cur_pick.calls gb892 l0 x893001_1 x893002_1 30 t908 t909 t910 w _ ?side1 ?side2 A15.out).mono ?_);(case side1=>repeat (first|(with_reducible first|exact HI892.out|apply IsS77.alloc|apply IsS77.drewN|apply IsS77.drew|apply IsS77.set_1|apply IsS77.set_2)|exact HI892.out));(case side2=>repeat (first|(with_reducible first|exact HB.out|apply zD|apply zE|apply zF|refine below_set ?_ (IsS77.ge HI892.out))|exact HB.out));rintro e w57 ⟨rfl,hi,hb,hk⟩;refine ⟨_,rfl,?_⟩;have n0_:=zM (Kd.R_mono (Kd.R_keep (IsS77.apart (show IsS77 w _ gb892 l0 x893001_1 x893002_1 from by repeat (first|(with_reducible first|exact HI892.out|apply IsS77.alloc|apply IsS77.drewN|apply IsS77.drew|apply IsS77.set_1|apply IsS77.set_2)|exact HI892.out)) (by (with_reducible repeat (first|apply zA|apply zB|apply zC));exact HO_5.out) (by decide)) hk (fun _ h=>h.2)) (fun _ h=>h.1));have n1_:=zM (hb);have n2_:=zM (hi);clear HO_5;clear HB;clear HI892;have HO_5:=n0_;have HB:=n1_;have HI892:=n2_;clear n0_ n1_ n2_;(try clear hb);(try clear hb2);(try clear hk);(try clear hi))|((with_reducible refine gate_dst (N:=43) rfl ?_);refine Kd.R_lit (Kd.int .i64) _ 3 ?hg (N:=43) ?hd (xs:=([1,2,3,0,4]:List Int)) (inner:=[.int .i64 1,.int .i64 2,.int .i64 3,.int .i64 0,.int .i64 4]) (ok:=fun _=>True) (okp:=fun _=>True) ?hr ?hp (fun _ hk=>hk) trivial (Below.refl _ _) (Nat.le_refl _) (by simp) ?_;(case hd=>rfl);(case hg=>rfl);(case hr=>first|(go_simp;done)|(go_simp;rfl));(case hp=>exact (Reps.one (show Kd.M (Kd.int .i64) _ _ _ 1 [.int .i64 1] from rfl) (Reps.one (show Kd.M (Kd.int .i64) _ _ _ 2 [.int .i64 2] from rfl) (Reps.one (show Kd.M (Kd.int .i64) _ _ _ 3 [.int .i64 3] from rfl) (Reps.one (show Kd.M (Kd.int .i64) _ _ _ 0 [.int .i64 0] from rfl) (Reps.one (show Kd.M (Kd.int .i64) _ _ _ 4 [.int .i64 4] from rfl) (Reps.none _ _)))))));intro v947 w58 ho59 hb hg_ hnew_;clear hg_ hnew_;(first|rw [← Ny946.out] at ho59|(simp only [Int.reduceToNat] at ho59;rw [← Ny946.out] at ho59));have n0_:=zM (Kd.R_elder' (by (with_reducible repeat (first|apply zA|apply zB|apply zC));exact HO_5.out) (Kd.R_base ho59) hb);have n1_:=zM (Kd.R_lower (Kd.R_new' ho59 (Kd.R_lt (by (with_reducible repeat (first|apply zA|apply zB|apply zC));exact HO_5.out))) (zR (by repeat (first|(with_reducible first|exact HB.out|apply zD|apply zE|apply zF|refine below_set ?_ (IsS77.ge HI892.out))|exact HB.out))));have n2_:=zM (IsS77.below (by repeat (first|(with_reducible first|exact HI892.out|apply IsS77.alloc|apply IsS77.drewN|apply IsS77.drew|apply IsS77.set_1|apply IsS77.set_2)|exact HI892.out)) hb);have n3_:=zM (zQ (by repeat (first|(with_reducible first|exact HB.out|apply zD|apply zE|apply zF|refine below_set ?_ (IsS77.ge HI892.out))|exact HB.out)) hb);clear HO_5;clear HI892;clear HB;have HO_5:=n0_;have HO948:=n1_;have HI892:=n2_;have HB:=n3_;clear n0_ n1_ n2_ n3_;clear hb ho59)|((with_reducible refine gate_callee (f:=71) rfl ?_);refine goesL_ (some 45) rfl rfl Try.func71 (by kernel_rfl) rfl #[.pointer (some ⟨gb892,0,none⟩),.int .i64 24] rfl (by (try simp only [List.map_toArray,List.map_cons,List.map_nil]);first|done|rfl|(simp only [List.length_drop,List.length_take];rfl)) ?_;(with_reducible refine (spec_l1Cur_pick.calls gb892 l0 t909 t910 24 t949 t950 t951 w _ ?side1 ?side2 A52.out).mono ?_);(case side1=>repeat (first|(with_reducible first|exact HI892.out|apply IsS77.alloc|apply IsS77.drewN|apply IsS77.drew|apply IsS77.set_1|apply IsS77.set_2)|exact HI892.out));(case side2=>repeat (first|(with_reducible first|exact HB.out|apply zD|apply zE|apply zF|refine below_set ?_ (IsS77.ge HI892.out))|exact HB.out));rintro e w60 ⟨rfl,hi,hb,hk⟩;refine ⟨_,rfl,?_⟩;have n0_:=zM (Kd.R_mono (Kd.R_keep (IsS77.apart (show IsS77 w _ gb892 l0 t909 t910 from by repeat (first|(with_reducible first|exact HI892.out|apply IsS77.alloc|apply IsS77.drewN|apply IsS77.drew|apply IsS77.set_1|apply IsS77.set_2)|exact HI892.out)) (by (with_reducible repeat (first|apply zA|apply zB|apply zC));exact HO_5.out) (by decide)) hk (fun _ h=>h.2)) (fun _ h=>h.1));have n1_:=zM (Kd.R_mono (Kd.R_keep (IsS77.apart (show IsS77 w _ gb892 l0 t909 t910 from by repeat (first|(with_reducible first|exact HI892.out|apply IsS77.alloc|apply IsS77.drewN|apply IsS77.drew|apply IsS77.set_1|apply IsS77.set_2)|exact HI892.out)) (by (with_reducible repeat (first|apply zA|apply zB|apply zC));exact HO948.out) (by decide)) hk (fun _ h=>h.2)) (fun _ h=>h.1));have n2_:=zM (hb);have n3_:=zM (hi);clear HO_5;clear HO948;clear HB;clear HI892;have HO_5:=n0_;have HO948:=n1_;have HB:=n2_;have HI892:=n3_;clear n0_ n1_ n2_ n3_;(try clear hb);(try clear hb2);(try clear hk);(try clear hi);obtain ⟨Ao62,co62,eo62⟩:=Kd.R_slice HO948.out;subst eo62;have q61:((ji53):Int) ≤ ((y946.length:Int):Int):=of_decide_eq_true (by first|(with_reducible assumption)|assumption);obtain ⟨i061,hi061,_,hsz61,_⟩:=info_parts info3;have hroom61:y946.length ≤ co62:=(zN HO948.out).2.1;have hC61:Kd.C (Kd.int .i64) _ Ao62 y946.length y946:=(zN HO948.out).2.2;have hcut61:=cut_to (P:=Try.prog) 22 3 .i64 Try.underlying22 hi061 Ao62 y946.length co62 (ji53) (of_decide_eq_true (by first|(with_reducible assumption)|assumption)) q61 hroom61;have hr61:=Kd.C_take (m:=((ji53):Int).toNat) hC61 (by omega);have hy61:y952.length = ((ji53):Int).toNat:=(by rw [Ny952.out,List.length_take];omega);rw [← Ny952.out] at hr61;rw [← hy61] at hcut61;have HR955:=zM hr61;have HC955:=zM (show y952.length ≤ co62 from by omega);clear hr61 hC61 hroom61 hi061 hsz61;have KY61:=zM hy61;clear hy61;have KL61:=zM (show ((ji53):Int).toNat ≤ y946.length from by omega);replace q61:=eq_true q61)|((with_reducible refine gate_callee (f:=72) rfl ?_);refine goesL_ (some 49) rfl rfl Try.func72 (by kernel_rfl) rfl #[.pointer (some ⟨gb892,0,none⟩),.slice Ao62 y952.length co62] rfl (by (try simp only [List.map_toArray,List.map_cons,List.map_nil]);first|done|rfl|(simp only [List.length_drop,List.length_take];rfl)) ?_;(with_reducible refine (spec_l1Cur_among.calls gb892 l0 t950 t951 _ _ y952 t956 t957 t958 w _ ?side1 ?side2 ?side3 ?side4 ?side5 A56.out).mono ?_);(case side1=>repeat (first|(with_reducible first|exact HI892.out|apply IsS77.alloc|apply IsS77.drewN|apply IsS77.drew|apply IsS77.set_1|apply IsS77.set_2)|exact HI892.out));(case side2=>repeat (first|(with_reducible first|exact HB.out|apply zD|apply zE|apply zF|refine below_set ?_ (IsS77.ge HI892.out))|exact HB.out));(case side3=>repeat (first|exact (by repeat (first|(with_reducible exact HR955.out)|(with_reducible first|refine zG ?_ _|refine zH ?_ _|refine zI ?_)|exact HR955.out))|(with_reducible first|refine zG ?_ _|refine zH ?_ _|refine zI ?_)));(case side4=>exact HC955.out);(case side5=>exact fun ad he _ hc=>(IsS77.own_ne HI892.out HO948.out (by decide)) (by rw [he];simp [Value.ownBlock,hc]));rintro e w63 ⟨rfl,hi,hb,hk⟩;refine ⟨_,rfl,?_⟩;have n0_:=zM (Kd.R_mono (Kd.R_keep (IsS77.apart (show IsS77 w _ gb892 l0 t950 t951 from by repeat (first|(with_reducible first|exact HI892.out|apply IsS77.alloc|apply IsS77.drewN|apply IsS77.drew|apply IsS77.set_1|apply IsS77.set_2)|exact HI892.out)) (by (with_reducible repeat (first|apply zA|apply zB|apply zC));exact HO_5.out) (by decide)) hk (fun _ h=>h.2)) (fun _ h=>h.1));have n1_:=zM (Kd.R_mono (Kd.R_keep (IsS77.apart (show IsS77 w _ gb892 l0 t950 t951 from by repeat (first|(with_reducible first|exact HI892.out|apply IsS77.alloc|apply IsS77.drewN|apply IsS77.drew|apply IsS77.set_1|apply IsS77.set_2)|exact HI892.out)) (by (with_reducible repeat (first|apply zA|apply zB|apply zC));exact HO948.out) (by decide)) hk (fun _ h=>h.2)) (fun _ h=>h.1));have n2_:=zM (hb);have n3_:=zM (hi);clear HO_5;clear HO948;clear HB;clear HI892;have HO_5:=n0_;have HO948:=n1_;have HB:=n2_;have HI892:=n3_;clear n0_ n1_ n2_ n3_;(try clear hb);(try clear hb2);(try clear hk);(try clear hi)))
        go_ret2
        exact ⟨_,by first|rfl|(simp [errW_none,errW_some] <;> rfl)|(simp only [← hji53];first|rfl|(simp [errW_none,errW_some] <;> rfl))|(simp [*,errW_none,errW_some] <;> rfl),by (with_reducible repeat (first|apply zA|apply zB|apply zC));exact Kd.R_mono HO_5.out (fun _ hk=>trivial),by repeat (first|(with_reducible first|exact HB.out|apply zD|apply zE|apply zF|refine below_set ?_ (IsS77.ge HI892.out))|exact HB.out)⟩
       ·rw [if_neg c55] at H
        exact absurd H (by simp)
      ·rw [if_neg c54] at H
       exact absurd H (by simp)



/-! ### laws_rInts: function 40 -/
def laws_rInts.l0:Nat → List Int → List Int → Int → Option (Bool)
 | 0,_,_,_=>none
 | k + 1,x0,x1,x5=>if x5 < (x0.length:Int) then (if 0 ≤ x5 then (if x5 < (x1.length:Int) then (if (rd x0 x5) = (rd x1 x5) then (laws_rInts.l0 k x0 x1 (wrap64 (x5 + 1))) else (some false)) else (none)) else (none)) else (some true)
def laws_rInts.f (k:Nat) (l0:List Int) (l1:List Int):Option (Bool):=if (l0.length:Int) = (l1.length:Int) then (laws_rInts.l0 k l0 l1 0) else (some false)
set_option maxHeartbeats 8000000 in
set_option maxRecDepth 100000 in
theorem laws_rInts.calls (k:Nat) (A0:Option Addr) (c0:Nat) (l0:List Int) (A1:Option Addr) (c1:Nat) (l1:List Int) (r:Bool) (w:World) (hr0:Kd.C (Kd.int .i64) w A0 l0.length l0) (hc0:l0.length ≤ c0) (hr1:Kd.C (Kd.int .i64) w A1 l1.length l1) (hc1:l1.length ≤ c1) (h:laws_rInts.f k l0 l1 = some r) :
  Calls Try.prog 40 #[.slice A0 l0.length c0,.slice A1 l1.length c1] w fun e w'=>e = .returned (.bool r) ∧ Drawn0 w w':=by
 have HR0:=zM hr0;have HC0:=zM hc0;clear hr0 hc0;have HR1:=zM hr1;have HC1:=zM hc1;clear hr1 hc1;have H:(if (l0.length:Int) = (l1.length:Int) then (laws_rInts.l0 k l0 l1 0) else (some false)) = some r:=h
 clear h;by_cases c3:(l0.length:Int) = (l1.length:Int)
 ·rw [if_pos c3] at H
  have c3b0:((l0.length:Int) == (l1.length:Int)) = true:=beq_iff_eq.mpr c3
  have c3b1:((l0.length:Int) != (l1.length:Int)) = false:=bne_eq_false_iff_eq.mpr c3
  have c3b2:(l0.length == l1.length) = true:=by first|simpa using c3|(simp at c3 ⊢;omega)
  clear c3;have H':=zM H;clear H;go_enter Try.func40,Try.ntmps40
  go_wp2
  repeat (go_quiet (fail);try go_wp2)
  go_loopg [5] k (fun kq v5 w' => ∃ (x5_1:Int),v5 = .int .i64 x5_1 ∧ Aside0 (laws_rInts.l0 kq l0 l1 x5_1 = some r) ∧ Aside0 (kq ≤ k) ∧ Drawn0 w w')
  case atStart=>exact ⟨(0),(by first|rfl|(simp;done)|(simp [*];done)),H',⟨Nat.le_refl _⟩,by repeat (first|exact Drawn0.refl _|apply Drawn0.step)⟩
  case round =>
   clear H';(try clear c1);(try clear p2);(try clear c3);(try clear c3b0);(try clear c3b1);(try clear c3b2);obtain ⟨x5_1,rfl,HA,HK1,⟨m1,rfl⟩⟩:=hrel;cases gk with
   | zero=>exact absurd HA.out (by simp [laws_rInts.l0])
   | succ k1 =>
    have H:=HA.out;clear HA;simp only [laws_rInts.l0] at H
    by_cases c4:x5_1 < (l0.length:Int)
    ·rw [if_pos c4] at H
     have c4b0:decide (x5_1 < (l0.length:Int)) = true:=decide_eq_true c4
     clear c4;by_cases c5:0 ≤ x5_1
     ·rw [if_pos c5] at H
      have c5b0:decide (0 ≤ x5_1) = true:=decide_eq_true c5
      clear c5;by_cases c6:x5_1 < (l1.length:Int)
      ·rw [if_pos c6] at H
       have c6b0:decide (x5_1 < (l1.length:Int)) = true:=decide_eq_true c6
       clear c6;by_cases c7:(rd l0 x5_1) = (rd l1 x5_1)
       ·rw [if_pos c7] at H
        have c7b0:((rd l0 x5_1) == (rd l1 x5_1)) = true:=beq_iff_eq.mpr c7
        have c7b1:((rd l0 x5_1) != (rd l1 x5_1)) = false:=bne_eq_false_iff_eq.mpr c7
        clear c7;have H':=zM H;clear H;have p959:0 ≤ (x5_1:Int):=of_decide_eq_true (by first|(with_reducible assumption)|assumption)
        have q959:x5_1 < (l0.length:Int):=of_decide_eq_true (by first|(with_reducible assumption)|assumption)
        obtain ⟨ad959,e959,hx959_0⟩:=Kd.at_int HR0.out x5_1 p959 q959;cases e959
        replace p959:=eq_true p959;replace q959:=eq_true q959;have p960:0 ≤ (x5_1:Int):=of_decide_eq_true (by first|(with_reducible assumption)|assumption)
        have q960:x5_1 < (l1.length:Int):=of_decide_eq_true (by first|(with_reducible assumption)|assumption)
        obtain ⟨ad960,e960,hx960_0⟩:=Kd.at_int HR1.out x5_1 p960 q960;cases e960
        replace p960:=eq_true p960;replace q960:=eq_true q960;go_wp2
        repeat (go_quiet (fail);try go_wp2)
        go_roundg k1
        case measure=>have:=HK1.out;omega
        case rel=>exact ⟨(wrap64 (x5_1 + 1)),(by first|rfl|(simp;done)|(simp [*];done)),H',⟨by have:=HK1.out;omega⟩,by repeat (first|exact Drawn0.refl _|apply Drawn0.step)⟩
       ·rw [if_neg c7] at H
        have c7b0:((rd l0 x5_1) == (rd l1 x5_1)) = false:=beq_eq_false_iff_ne.mpr c7
        have c7b1:((rd l0 x5_1) != (rd l1 x5_1)) = true:=bne_iff_ne.mpr c7
        obtain rfl:=Option.some.inj H;have p959:0 ≤ (x5_1:Int):=of_decide_eq_true (by first|(with_reducible assumption)|assumption)
        have q959:x5_1 < (l0.length:Int):=of_decide_eq_true (by first|(with_reducible assumption)|assumption)
        obtain ⟨ad959,e959,hx959_0⟩:=Kd.at_int HR0.out x5_1 p959 q959;cases e959
        replace p959:=eq_true p959;replace q959:=eq_true q959;have p960:0 ≤ (x5_1:Int):=of_decide_eq_true (by first|(with_reducible assumption)|assumption)
        have q960:x5_1 < (l1.length:Int):=of_decide_eq_true (by first|(with_reducible assumption)|assumption)
        obtain ⟨ad960,e960,hx960_0⟩:=Kd.at_int HR1.out x5_1 p960 q960;cases e960
        replace p960:=eq_true p960;replace q960:=eq_true q960;go_wp2
        repeat (go_quiet (fail);try go_wp2)
        go_ret
        exact ⟨by first|rfl|(simp;done)|(simp [*];done),by repeat (first|exact Drawn0.refl _|apply Drawn0.step)⟩
      ·rw [if_neg c6] at H
       exact absurd H (by simp)
     ·rw [if_neg c5] at H
      exact absurd H (by simp)
    ·rw [if_neg c4] at H
     have c4b0:decide (x5_1 < (l0.length:Int)) = false:=decide_eq_false c4
     clear c4;obtain rfl:=Option.some.inj H;go_wp2
     repeat (go_quiet (fail);try go_wp2)
     go_ret
     exact ⟨by first|rfl|(simp;done)|(simp [*];done),by repeat (first|exact Drawn0.refl _|apply Drawn0.step)⟩
 ·rw [if_neg c3] at H
  have c3b0:((l0.length:Int) == (l1.length:Int)) = false:=beq_eq_false_iff_ne.mpr c3
  have c3b1:((l0.length:Int) != (l1.length:Int)) = true:=bne_iff_ne.mpr c3
  have c3b2:(l0.length == l1.length) = false:=by first|simpa using c3|(simp at c3 ⊢;omega)
  obtain rfl:=Option.some.inj H;go_enter Try.func40,Try.ntmps40
  go_wp2
  repeat (go_quiet (fail);try go_wp2)
  go_ret
  exact ⟨by first|rfl|(simp;done)|(simp [*];done),by repeat (first|exact Drawn0.refl _|apply Drawn0.step)⟩



/-! ### laws_rTable: function 37 -/
def laws_rTable.l0:Nat → List (List Int) → List (List Int) → Int → Option (Bool)
 | 0,_,_,_=>none
 | k + 1,x0,x1,x5=>if x5 < (x0.length:Int) then (if 0 ≤ x5 then (if x5 < (x1.length:Int) then ((laws_rInts.f k (rd_L1 x0 x5) (rd_L1 x1 x5)).bind fun t963=>(if t963 = true then (laws_rTable.l0 k x0 x1 (wrap64 (x5 + 1))) else (some false))) else (none)) else (none)) else (some true)
def laws_rTable.f (k:Nat) (l0:List (List Int)) (l1:List (List Int)):Option (Bool):=if (l0.length:Int) = (l1.length:Int) then (laws_rTable.l0 k l0 l1 0) else (some false)
set_option maxHeartbeats 8000000 in
set_option maxRecDepth 100000 in
theorem laws_rTable.calls (k:Nat) (A0:Option Addr) (c0:Nat) (l0:List (List Int)) (A1:Option Addr) (c1:Nat) (l1:List (List Int)) (r:Bool) (w:World) (hr0:Kd.C (Kd.slice 3 (Kd.int .i64)) w A0 l0.length l0) (hc0:l0.length ≤ c0) (hr1:Kd.C (Kd.slice 3 (Kd.int .i64)) w A1 l1.length l1) (hc1:l1.length ≤ c1) (h:laws_rTable.f k l0 l1 = some r) :
  Calls Try.prog 37 #[.slice A0 l0.length c0,.slice A1 l1.length c1] w fun e w'=>e = .returned (.bool r) ∧ Drawn0 w w':=by
 have HR0:=zM hr0;have HC0:=zM hc0;clear hr0 hc0;have HR1:=zM hr1;have HC1:=zM hc1;clear hr1 hc1;have H:(if (l0.length:Int) = (l1.length:Int) then (laws_rTable.l0 k l0 l1 0) else (some false)) = some r:=h
 clear h;by_cases c3:(l0.length:Int) = (l1.length:Int)
 ·rw [if_pos c3] at H
  have c3b0:((l0.length:Int) == (l1.length:Int)) = true:=beq_iff_eq.mpr c3
  have c3b1:((l0.length:Int) != (l1.length:Int)) = false:=bne_eq_false_iff_eq.mpr c3
  have c3b2:(l0.length == l1.length) = true:=by first|simpa using c3|(simp at c3 ⊢;omega)
  clear c3;have H':=zM H;clear H;go_enter Try.func37,Try.ntmps37
  go_wp2
  repeat (go_quiet (fail);try go_wp2)
  go_loopg [5] k (fun kq v5 w' => ∃ (x5_1:Int),v5 = .int .i64 x5_1 ∧ Aside0 (laws_rTable.l0 kq l0 l1 x5_1 = some r) ∧ Aside0 (kq ≤ k) ∧ Drawn0 w w')
  case atStart=>exact ⟨(0),(by first|rfl|(simp;done)|(simp [*];done)),H',⟨Nat.le_refl _⟩,by repeat (first|exact Drawn0.refl _|apply Drawn0.step)⟩
  case round =>
   clear H';(try clear c1);(try clear p2);(try clear c3);(try clear c3b0);(try clear c3b1);(try clear c3b2);obtain ⟨x5_1,rfl,HA,HK1,⟨m1,rfl⟩⟩:=hrel;cases gk with
   | zero=>exact absurd HA.out (by simp [laws_rTable.l0])
   | succ k1 =>
    have H:=HA.out;clear HA;simp only [laws_rTable.l0] at H
    by_cases c4:x5_1 < (l0.length:Int)
    ·rw [if_pos c4] at H
     have c4b0:decide (x5_1 < (l0.length:Int)) = true:=decide_eq_true c4
     clear c4;by_cases c5:0 ≤ x5_1
     ·rw [if_pos c5] at H
      have c5b0:decide (0 ≤ x5_1) = true:=decide_eq_true c5
      clear c5;by_cases c6:x5_1 < (l1.length:Int)
      ·rw [if_pos c6] at H
       have c6b0:decide (x5_1 < (l1.length:Int)) = true:=decide_eq_true c6
       clear c6;replace H:=Option.bind_eq_some_iff.mp H;obtain ⟨t963,A70,H⟩:=H;replace H:(if t963 = true then (laws_rTable.l0 k1 l0 l1 (wrap64 (x5_1 + 1))) else (some false)) = some r:=H
       have A7:=zM A70;clear A70;by_cases c8:t963 = true
       ·subst c8
        have H1:(laws_rTable.l0 k1 l0 l1 (wrap64 (x5_1 + 1))) = some r:=by rw [if_pos rfl] at H;exact H
        clear H;have H:=H1;clear H1;have H':=zM H;clear H;have p961:0 ≤ (x5_1:Int):=of_decide_eq_true (by first|(with_reducible assumption)|assumption)
        have q961:x5_1 < (l0.length:Int):=of_decide_eq_true (by first|(with_reducible assumption)|assumption)
        obtain ⟨ad961,A961_0,c961_0,e961,hx961_0,hl961_0,hi961_0⟩:=at_L1 HR0.out x5_1 p961 q961;cases e961
        have HR961_0:=zM hi961_0;have HC961_0:=zM hl961_0;clear hi961_0 hl961_0;replace p961:=eq_true p961;replace q961:=eq_true q961;have p962:0 ≤ (x5_1:Int):=of_decide_eq_true (by first|(with_reducible assumption)|assumption)
        have q962:x5_1 < (l1.length:Int):=of_decide_eq_true (by first|(with_reducible assumption)|assumption)
        obtain ⟨ad962,A962_0,c962_0,e962,hx962_0,hl962_0,hi962_0⟩:=at_L1 HR1.out x5_1 p962 q962;cases e962
        have HR962_0:=zM hi962_0;have HC962_0:=zM hl962_0;clear hi962_0 hl962_0;replace p962:=eq_true p962;replace q962:=eq_true q962;go_wp2_with (first|(go_at_call 40;(with_reducible refine (laws_rInts.calls k1 _ _ (rd_L1 l0 x5_1) _ _ (rd_L1 l1 x5_1) true _ ?side1 ?side2 ?side3 ?side4 A7.out).mono ?_);(case side1=>repeat (first|exact HR961_0.out|(with_reducible first|refine zG ?_ _|refine zH ?_ _|refine zI ?_)));(case side2=>exact HC961_0.out);(case side3=>repeat (first|exact HR962_0.out|(with_reducible first|refine zG ?_ _|refine zH ?_ _|refine zI ?_)));(case side4=>exact HC962_0.out);rintro e w' ⟨rfl,⟨nd,rfl⟩⟩;(try first|exact ⟨rfl,_,World.drewN_drewN _ _ _⟩|exact ⟨rfl,_,zW _ _ _ _⟩)))
        repeat (go_quiet (first|(go_at_call 40;(with_reducible refine (laws_rInts.calls k1 _ _ (rd_L1 l0 x5_1) _ _ (rd_L1 l1 x5_1) true _ ?side1 ?side2 ?side3 ?side4 A7.out).mono ?_);(case side1=>repeat (first|exact HR961_0.out|(with_reducible first|refine zG ?_ _|refine zH ?_ _|refine zI ?_)));(case side2=>exact HC961_0.out);(case side3=>repeat (first|exact HR962_0.out|(with_reducible first|refine zG ?_ _|refine zH ?_ _|refine zI ?_)));(case side4=>exact HC962_0.out);rintro e w' ⟨rfl,⟨nd,rfl⟩⟩;(try first|exact ⟨rfl,_,World.drewN_drewN _ _ _⟩|exact ⟨rfl,_,zW _ _ _ _⟩)));try go_wp2_with (first|(go_at_call 40;(with_reducible refine (laws_rInts.calls k1 _ _ (rd_L1 l0 x5_1) _ _ (rd_L1 l1 x5_1) true _ ?side1 ?side2 ?side3 ?side4 A7.out).mono ?_);(case side1=>repeat (first|exact HR961_0.out|(with_reducible first|refine zG ?_ _|refine zH ?_ _|refine zI ?_)));(case side2=>exact HC961_0.out);(case side3=>repeat (first|exact HR962_0.out|(with_reducible first|refine zG ?_ _|refine zH ?_ _|refine zI ?_)));(case side4=>exact HC962_0.out);rintro e w' ⟨rfl,⟨nd,rfl⟩⟩;(try first|exact ⟨rfl,_,World.drewN_drewN _ _ _⟩|exact ⟨rfl,_,zW _ _ _ _⟩))))
        go_roundg k1
        case measure=>have:=HK1.out;omega
        case rel=>exact ⟨(wrap64 (x5_1 + 1)),(by first|rfl|(simp;done)|(simp [*];done)),H',⟨by have:=HK1.out;omega⟩,by repeat (first|exact Drawn0.refl _|apply Drawn0.step)⟩
       ·replace c8:=Bool.eq_false_iff.mpr c8
        subst c8;have H1:(some false) = some r:=by rw [if_neg (show ¬ (false = true) by decide)] at H;exact H
        clear H;have H:=H1;clear H1;obtain rfl:=Option.some.inj H;have p961:0 ≤ (x5_1:Int):=of_decide_eq_true (by first|(with_reducible assumption)|assumption)
        have q961:x5_1 < (l0.length:Int):=of_decide_eq_true (by first|(with_reducible assumption)|assumption)
        obtain ⟨ad961,A961_0,c961_0,e961,hx961_0,hl961_0,hi961_0⟩:=at_L1 HR0.out x5_1 p961 q961;cases e961
        have HR961_0:=zM hi961_0;have HC961_0:=zM hl961_0;clear hi961_0 hl961_0;replace p961:=eq_true p961;replace q961:=eq_true q961;have p962:0 ≤ (x5_1:Int):=of_decide_eq_true (by first|(with_reducible assumption)|assumption)
        have q962:x5_1 < (l1.length:Int):=of_decide_eq_true (by first|(with_reducible assumption)|assumption)
        obtain ⟨ad962,A962_0,c962_0,e962,hx962_0,hl962_0,hi962_0⟩:=at_L1 HR1.out x5_1 p962 q962;cases e962
        have HR962_0:=zM hi962_0;have HC962_0:=zM hl962_0;clear hi962_0 hl962_0;replace p962:=eq_true p962;replace q962:=eq_true q962;go_wp2_with (first|(go_at_call 40;(with_reducible refine (laws_rInts.calls k1 _ _ (rd_L1 l0 x5_1) _ _ (rd_L1 l1 x5_1) false _ ?side1 ?side2 ?side3 ?side4 A7.out).mono ?_);(case side1=>repeat (first|exact HR961_0.out|(with_reducible first|refine zG ?_ _|refine zH ?_ _|refine zI ?_)));(case side2=>exact HC961_0.out);(case side3=>repeat (first|exact HR962_0.out|(with_reducible first|refine zG ?_ _|refine zH ?_ _|refine zI ?_)));(case side4=>exact HC962_0.out);rintro e w' ⟨rfl,⟨nd,rfl⟩⟩;(try first|exact ⟨rfl,_,World.drewN_drewN _ _ _⟩|exact ⟨rfl,_,zW _ _ _ _⟩)))
        repeat (go_quiet (first|(go_at_call 40;(with_reducible refine (laws_rInts.calls k1 _ _ (rd_L1 l0 x5_1) _ _ (rd_L1 l1 x5_1) false _ ?side1 ?side2 ?side3 ?side4 A7.out).mono ?_);(case side1=>repeat (first|exact HR961_0.out|(with_reducible first|refine zG ?_ _|refine zH ?_ _|refine zI ?_)));(case side2=>exact HC961_0.out);(case side3=>repeat (first|exact HR962_0.out|(with_reducible first|refine zG ?_ _|refine zH ?_ _|refine zI ?_)));(case side4=>exact HC962_0.out);rintro e w' ⟨rfl,⟨nd,rfl⟩⟩;(try first|exact ⟨rfl,_,World.drewN_drewN _ _ _⟩|exact ⟨rfl,_,zW _ _ _ _⟩)));try go_wp2_with (first|(go_at_call 40;(with_reducible refine (laws_rInts.calls k1 _ _ (rd_L1 l0 x5_1) _ _ (rd_L1 l1 x5_1) false _ ?side1 ?side2 ?side3 ?side4 A7.out).mono ?_);(case side1=>repeat (first|exact HR961_0.out|(with_reducible first|refine zG ?_ _|refine zH ?_ _|refine zI ?_)));(case side2=>exact HC961_0.out);(case side3=>repeat (first|exact HR962_0.out|(with_reducible first|refine zG ?_ _|refine zH ?_ _|refine zI ?_)));(case side4=>exact HC962_0.out);rintro e w' ⟨rfl,⟨nd,rfl⟩⟩;(try first|exact ⟨rfl,_,World.drewN_drewN _ _ _⟩|exact ⟨rfl,_,zW _ _ _ _⟩))))
        go_ret
        exact ⟨by first|rfl|(simp;done)|(simp [*];done),by repeat (first|exact Drawn0.refl _|apply Drawn0.step)⟩
      ·rw [if_neg c6] at H
       exact absurd H (by simp)
     ·rw [if_neg c5] at H
      exact absurd H (by simp)
    ·rw [if_neg c4] at H
     have c4b0:decide (x5_1 < (l0.length:Int)) = false:=decide_eq_false c4
     clear c4;obtain rfl:=Option.some.inj H;go_wp2
     repeat (go_quiet (fail);try go_wp2)
     go_ret
     exact ⟨by first|rfl|(simp;done)|(simp [*];done),by repeat (first|exact Drawn0.refl _|apply Drawn0.step)⟩
 ·rw [if_neg c3] at H
  have c3b0:((l0.length:Int) == (l1.length:Int)) = false:=beq_eq_false_iff_ne.mpr c3
  have c3b1:((l0.length:Int) != (l1.length:Int)) = true:=bne_iff_ne.mpr c3
  have c3b2:(l0.length == l1.length) = false:=by first|simpa using c3|(simp at c3 ⊢;omega)
  obtain rfl:=Option.some.inj H;go_enter Try.func37,Try.ntmps37
  go_wp2
  repeat (go_quiet (fail);try go_wp2)
  go_ret
  exact ⟨by first|rfl|(simp;done)|(simp [*];done),by repeat (first|exact Drawn0.refl _|apply Drawn0.step)⟩



/-! ### laws_rSum: function 38 -/
def laws_rSum.l0:Nat → List Int → Int → Int → Option (Int)
 | 0,_,_,_=>none
 | k + 1,x0,x3,x4=>if x4 < (x0.length:Int) then (if 0 ≤ x4 then (laws_rSum.l0 k x0 (wrap64 (x3 + (rd x0 x4))) (wrap64 (x4 + 1))) else (none)) else (some x3)
def laws_rSum.f (k:Nat) (l0:List Int):Option (Int):=laws_rSum.l0 k l0 0 0
set_option maxHeartbeats 8000000 in
set_option maxRecDepth 100000 in
theorem laws_rSum.calls (k:Nat) (A0:Option Addr) (c0:Nat) (l0:List Int) (r:Int) (w:World) (hr0:Kd.C (Kd.int .i64) w A0 l0.length l0) (hc0:l0.length ≤ c0) (h:laws_rSum.f k l0 = some r) :
  Calls Try.prog 38 #[.slice A0 l0.length c0] w fun e w'=>e = .returned (.int .i64 r) ∧ Drawn0 w w':=by
 have HR0:=zM hr0;have HC0:=zM hc0;clear hr0 hc0;have H:(laws_rSum.l0 k l0 0 0) = some r:=h
 clear h;have H':=zM H;clear H;go_enter Try.func38,Try.ntmps38
 go_wp2
 go_loopg [3,4] k (fun kq v3 v4 w' => ∃ (x3_1:Int) (x4_1:Int),v3 = .int .i64 x3_1 ∧ v4 = .int .i64 x4_1 ∧ Aside0 (laws_rSum.l0 kq l0 x3_1 x4_1 = some r) ∧ Aside0 (kq ≤ k) ∧ Drawn0 w w')
 case atStart=>exact ⟨(0),(0),(by first|rfl|(simp;done)|(simp [*];done)),(by first|rfl|(simp;done)|(simp [*];done)),H',⟨Nat.le_refl _⟩,by repeat (first|exact Drawn0.refl _|apply Drawn0.step)⟩
 case round =>
  clear H';obtain ⟨x3_1,x4_1,rfl,rfl,HA,HK1,⟨m1,rfl⟩⟩:=hrel;cases gk with
  | zero=>exact absurd HA.out (by simp [laws_rSum.l0])
  | succ k1 =>
   have H:=HA.out;clear HA;simp only [laws_rSum.l0] at H
   by_cases c2:x4_1 < (l0.length:Int)
   ·rw [if_pos c2] at H
    have c2b0:decide (x4_1 < (l0.length:Int)) = true:=decide_eq_true c2
    clear c2;by_cases c3:0 ≤ x4_1
    ·rw [if_pos c3] at H
     have c3b0:decide (0 ≤ x4_1) = true:=decide_eq_true c3
     clear c3;have H':=zM H;clear H;have p964:0 ≤ (x4_1:Int):=of_decide_eq_true (by first|(with_reducible assumption)|assumption)
     have q964:x4_1 < (l0.length:Int):=of_decide_eq_true (by first|(with_reducible assumption)|assumption)
     obtain ⟨ad964,e964,hx964_0⟩:=Kd.at_int HR0.out x4_1 p964 q964;cases e964
     replace p964:=eq_true p964;replace q964:=eq_true q964;go_wp2
     go_roundg k1
     case measure=>have:=HK1.out;omega
     case rel=>exact ⟨(wrap64 (x3_1 + (rd l0 x4_1))),(wrap64 (x4_1 + 1)),(by first|rfl|(simp;done)|(simp [*];done)),(by first|rfl|(simp;done)|(simp [*];done)),H',⟨by have:=HK1.out;omega⟩,by repeat (first|exact Drawn0.refl _|apply Drawn0.step)⟩
    ·rw [if_neg c3] at H
     exact absurd H (by simp)
   ·rw [if_neg c2] at H
    have c2b0:decide (x4_1 < (l0.length:Int)) = false:=decide_eq_false c2
    clear c2;obtain rfl:=Option.some.inj H;go_wp2
    go_ret
    exact ⟨by first|rfl|(simp;done)|(simp [*];done),by repeat (first|exact Drawn0.refl _|apply Drawn0.step)⟩



/-! ### spec_l1Cur_one: function 74 -/
def spec_l1Cur_one.f (s0_0:List Int) (s0_1:Int) (s0_2:Int) (a1:Int):Option (Bool × Int × Int):=(spec_l1Cur_pick.f s0_0 s0_1 s0_2 a1).bind fun bt965=>(some ((bt965.1 == 0),bt965.2.1,bt965.2.2))
set_option maxHeartbeats 8000000 in
set_option maxRecDepth 100000 in
theorem spec_l1Cur_one.calls (g:Nat) (s0_0:List Int) (s0_1:Int) (s0_2:Int) (a1:Int) (r1:Bool) (r2:Int) (r3:Int) (w0 w:World) (hI:IsS77 w0 w g s0_0 s0_1 s0_2) (hB:Below w0.heap.size w0 w) (h:spec_l1Cur_one.f s0_0 s0_1 s0_2 a1 = some (r1,r2,r3)) :
  Calls Try.prog 74 #[.pointer (some ⟨g,0,none⟩),.int .i64 a1] w fun e w'=>e = .returned (.bool r1) ∧ IsS77 w0 w' g s0_0 r2 r3 ∧ Below w0.heap.size w0 w' ∧ KeepBut w w' g none:=by
 have HI0:=zM hI;have HK:=zM (KeepBut.refl w g none);have HL:=zM hB.size;clear hI;have HW0:=zM hB.size;have HB:=zM hB;clear hB;have H:((spec_l1Cur_pick.f s0_0 s0_1 s0_2 a1).bind fun bt965=>(some ((bt965.1 == 0),bt965.2.1,bt965.2.2))) = some (r1,r2,r3):=h
 clear h;replace H:=Option.bind_eq_some_iff.mp H;obtain ⟨⟨t965,t966,t967⟩,A30,H⟩:=H;replace H:(some ((t965 == 0),t966,t967)) = some (r1,r2,r3):=H
 have A3:=zM A30;clear A30;simp only [Option.some.injEq,Prod.mk.injEq] at H
 obtain ⟨rfl,rfl,rfl⟩:=H;go_enter Try.func74,Try.ntmps74
 go_wp2_with (first|((with_reducible refine gate_callee (f:=71) rfl ?_);refine goesL_ (some 7) rfl rfl Try.func71 (by kernel_rfl) rfl #[.pointer (some ⟨g,0,none⟩),.int .i64 a1] rfl (by (try simp only [List.map_toArray,List.map_cons,List.map_nil]);first|done|rfl|(simp only [List.length_drop,List.length_take];rfl)) ?_;(with_reducible refine (spec_l1Cur_pick.calls g s0_0 s0_1 s0_2 a1 t965 t966 t967 w0 _ ?side1 ?side2 A3.out).mono ?_);(case side1=>repeat (first|(with_reducible first|exact HI0.out|apply IsS77.alloc|apply IsS77.drewN|apply IsS77.drew|apply IsS77.set_1|apply IsS77.set_2)|exact HI0.out));(case side2=>repeat (first|(with_reducible first|exact HB.out|apply zD|apply zE|apply zF|refine below_set ?_ (IsS77.ge HI0.out))|exact HB.out));rintro e w4 ⟨rfl,hi,hb,hk⟩;refine ⟨_,rfl,?_⟩;have n0_:=zM (KeepBut.trans (by repeat (first|(with_reducible first|exact HK.out|apply KeepBut.set_|apply keep_drewN|apply keep_drew|apply keep_alloc)|exact HK.out)) hk (.inl rfl));have n1_:=zM (hb);have n2_:=zM (hi);clear HK;clear HB;clear HI0;have HK:=n0_;have HB:=n1_;have HI0:=n2_;clear n0_ n1_ n2_;(try clear hb);(try clear hb2);(try clear hk);(try clear hi)))
 go_ret
 exact ⟨by first|rfl|(simp [errW_none,errW_some] <;> rfl)|(simp [*,errW_none,errW_some] <;> rfl),by repeat (first|(with_reducible first|exact HI0.out|apply IsS77.alloc|apply IsS77.drewN|apply IsS77.drew|apply IsS77.set_1|apply IsS77.set_2)|exact HI0.out),by repeat (first|(with_reducible first|exact HB.out|apply zD|apply zE|apply zF|refine below_set ?_ (IsS77.ge HI0.out))|exact HB.out),by repeat (first|(with_reducible first|exact HK.out|apply KeepBut.set_|apply keep_drewN|apply keep_drew|apply keep_alloc)|exact HK.out)⟩



/-! ### spec_DrawAddOnTop: function 39 -/
def spec_DrawAddOnTop.j0:Nat → List Int → Bool → List Int → Int → Int → Option (List Int × Int × Int × Int × Int)
 | 0,_,_,_,_,_=>none
 | k + 1,x6,x19,x970000,x970001,x970002=>if x19 = true then (if 3 ≤ (x6.length:Int) then ((some (([1,5000,20000,32000,0,32001]:List Int):List Int)).bind fun y981=>((spec_l1Cur_pick.f x970000 x970001 x970002 24).bind fun bt984=>(if 0 ≤ (wrap64 (4 + (wrap64 (Int.tdiv bt984.1 11)))) then (if (wrap64 (4 + (wrap64 (Int.tdiv bt984.1 11)))) ≤ (y981.length:Int) then ((spec_l1Cur_among.f x970000 bt984.2.1 bt984.2.2 (y981.take ((wrap64 (4 + (wrap64 (Int.tdiv bt984.1 11)))):Int).toNat)).bind fun bt991=>((spec_l1Cur_lashRules.f x970000 bt991.2.1 bt991.2.2).bind fun bt994=>(some ((x6.take (3:Int).toNat),bt991.1,bt994.1,bt994.2.1,bt994.2.2.1)))) else (none)) else (none)))) else (none)) else ((some (([1,5000,20000,32000,0,32001]:List Int):List Int)).bind fun y999=>((spec_l1Cur_pick.f x970000 x970001 x970002 24).bind fun bt1002=>(if 0 ≤ (wrap64 (4 + (wrap64 (Int.tdiv bt1002.1 11)))) then (if (wrap64 (4 + (wrap64 (Int.tdiv bt1002.1 11)))) ≤ (y999.length:Int) then ((spec_l1Cur_among.f x970000 bt1002.2.1 bt1002.2.2 (y999.take ((wrap64 (4 + (wrap64 (Int.tdiv bt1002.1 11)))):Int).toNat)).bind fun bt1009=>((spec_l1Cur_lashRules.f x970000 bt1009.2.1 bt1009.2.2).bind fun bt1012=>(some (x6,bt1009.1,bt1012.1,bt1012.2.1,bt1012.2.2.1)))) else (none)) else (none))))
def spec_DrawAddOnTop.f (k:Nat) (l0:List Int):Option (List Int × Int × Int × Int × Int):=(spec_l1Cur_column.f k l0 0 0).bind fun bt970=>(if (bt970.1.length:Int) > 3 then ((spec_l1Cur_one.f l0 bt970.2.1 bt970.2.2 4).bind fun bt975=>(spec_DrawAddOnTop.j0 k bt970.1 (!bt975.1) l0 bt975.2.1 bt975.2.2)) else (spec_DrawAddOnTop.j0 k bt970.1 false l0 bt970.2.1 bt970.2.2))
set_option maxHeartbeats 8000000 in
set_option maxRecDepth 100000 in
theorem spec_DrawAddOnTop.calls (k:Nat) (A0:Option Addr) (c0:Nat) (l0:List Int) (r1:List Int) (r2:Int) (r3:Int) (r4:Int) (r5:Int) (w:World) (hr0:Kd.C (Kd.int .u8) w A0 l0.length l0) (hc0:l0.length ≤ c0) (h:spec_DrawAddOnTop.f k l0 = some (r1,r2,r3,r4,r5)) :
  Calls Try.prog 39 #[.slice A0 l0.length c0] w fun e w' => ∃ v0_:Value,e = .returned (.tuple #[v0_,.int .i64 r2,.agg #[.int .i64 r3,.int .i64 r4,.int .i64 r5]]) ∧ Kd.R (Kd.int .i64) 3 w' w.heap.size (fun _=>True) v0_ r1 ∧ Below w.heap.size w w':=by
 have hu28:=Try.underlying28;have hu77:=Try.underlying77;have HR0:=zM hr0;have HC0:=zM hc0;clear hr0 hc0;have HB:=zM (Below.refl w.heap.size w);have H:((spec_l1Cur_column.f k l0 0 0).bind fun bt970=>(if (bt970.1.length:Int) > 3 then ((spec_l1Cur_one.f l0 bt970.2.1 bt970.2.2 4).bind fun bt975=>(spec_DrawAddOnTop.j0 k bt970.1 (!bt975.1) l0 bt975.2.1 bt975.2.2)) else (spec_DrawAddOnTop.j0 k bt970.1 false l0 bt970.2.1 bt970.2.2))) = some (r1,r2,r3,r4,r5):=h
 clear h;replace H:=Option.bind_eq_some_iff.mp H;obtain ⟨⟨t970,t973,t974⟩,A20,H⟩:=H;replace H:(if (t970.length:Int) > 3 then ((spec_l1Cur_one.f l0 t973 t974 4).bind fun bt975=>(spec_DrawAddOnTop.j0 k t970 (!bt975.1) l0 bt975.2.1 bt975.2.2)) else (spec_DrawAddOnTop.j0 k t970 false l0 t973 t974)) = some (r1,r2,r3,r4,r5):=H
 have A2:=zM A20;clear A20;have HC3:=zM H;clear H;go_enter Try.func39,Try.ntmps39
 go_upto_region 3 with (first|((with_reducible refine gate_dst (N:=4) rfl ?_);refine box_event ?hg (N:=4) ?hd (cs := #[.int .i64 0,.int .i64 0,.int .i64 0]) (t:=28) ?hr ?_;(case hd=>rfl);(case hg=>rfl);(case hr=>first|(go_simp;done)|(go_simp;rfl));intro gb968 hg w4 hbox hb;have n0_:=zM (zQ (by repeat (first|(with_reducible first|exact HB.out|apply zD|apply zE|apply zF)|exact HB.out)) hb);have n1_:=zM (hbox);have n2_:=zM ((by rw [hg];exact (zR (by repeat (first|(with_reducible first|exact HB.out|apply zD|apply zE|apply zF)|exact HB.out))):w.heap.size ≤ gb968));have n3_:=zM ((by rw [hg];exact (zR (by repeat (first|(with_reducible first|exact HB.out|apply zD|apply zE|apply zF)|exact HB.out))):w.heap.size ≤ gb968));clear HB;have HB:=n0_;have BK968:=n1_;have GW968:=n2_;have GE968:=n3_;clear n0_ n1_ n2_ n3_;clear hb hbox hg)|((with_reducible refine gate_dst (N:=9) rfl ?_);refine box_event ?hg (N:=9) ?hd (cs := #[.slice A0 l0.length c0,.int .i64 0,.int .u64 0]) (t:=77) ?hr ?_;(case hd=>rfl);(case hg=>rfl);(case hr=>first|(go_simp;done)|(go_simp;rfl));intro gb969 hg w5 hbox hb;have n0_:=zM (blk_below (g:=gb968) (o := .cells #[.int .i64 0,.int .i64 0,.int .i64 0] 28 (0,0)) (by (with_reducible repeat (first|refine zJ ?_ _|refine zK ?_|refine zL ?_ _));exact BK968.out) hb);have n1_:=zM (zQ (by repeat (first|(with_reducible first|exact HB.out|apply zD|apply zE|apply zF|refine below_set ?_ GE968.out)|exact HB.out)) hb);have n2_:=zM ((by rw [hg];exact (zR (by repeat (first|(with_reducible first|exact HB.out|apply zD|apply zE|apply zF|refine below_set ?_ GE968.out)|exact HB.out))):w.heap.size ≤ gb969));have n3_:=zM ((by rw [hg];exact (zR (by repeat (first|(with_reducible first|exact HB.out|apply zD|apply zE|apply zF|refine below_set ?_ GE968.out)|exact HB.out))):w.heap.size ≤ gb969));have n4_:=zM ((by rw [hg];exact Nat.ne_of_lt (blk_lt (g:=gb968) (o := .cells #[.int .i64 0,.int .i64 0,.int .i64 0] 28 (0,0)) (by (with_reducible repeat (first|refine zJ ?_ _|refine zK ?_|refine zL ?_ _));exact BK968.out)):gb968 ≠ gb969));have n5_:=zM ((by rw [hg];exact Nat.ne_of_gt (blk_lt (g:=gb968) (o := .cells #[.int .i64 0,.int .i64 0,.int .i64 0] 28 (0,0)) (by (with_reducible repeat (first|refine zJ ?_ _|refine zK ?_|refine zL ?_ _));exact BK968.out)):gb969 ≠ gb968));have n6_:=zM ((show IsS77 w w5 gb969 l0 0 0 from ⟨_,_,hbox,(by rw [hg];exact (zR (by repeat (first|(with_reducible first|exact HB.out|apply zD|apply zE|apply zF|refine below_set ?_ GE968.out)|exact HB.out))):w.heap.size ≤ gb969),HR0.out⟩));clear BK968;clear HB;have BK968:=n0_;have HB:=n1_;have GW969:=n2_;have GE969:=n3_;have NB968_969:=n4_;have NB969_968:=n5_;have HI969:=n6_;clear n0_ n1_ n2_ n3_ n4_ n5_ n6_;clear hb hbox hg)|((with_reducible refine gate_callee (f:=73) rfl ?_);refine goesL_ (some 11) rfl rfl Try.func73 (by kernel_rfl) rfl #[.pointer (some ⟨gb969,0,none⟩)] rfl (by (try simp only [List.map_toArray,List.map_cons,List.map_nil]);first|done|rfl|(simp only [List.length_drop,List.length_take];rfl)) ?_;(with_reducible refine (spec_l1Cur_column.calls k gb969 l0 0 0 t970 t973 t974 w _ ?side1 ?side2 A2.out).mono ?_);(case side1=>repeat (first|(with_reducible first|exact HI969.out|apply IsS77.alloc|apply IsS77.drewN|apply IsS77.drew|apply IsS77.set_1|apply IsS77.set_2|apply IsS77.far (hne:=NB969_968.out))|exact HI969.out));(case side2=>repeat (first|(with_reducible first|exact HB.out|apply zD|apply zE|apply zF|refine below_set ?_ (IsS77.ge HI969.out)|refine below_set ?_ GE968.out)|exact HB.out));rintro e w6 ⟨v971,rfl,ho0,hi,hb,hk⟩;refine ⟨_,rfl,?_⟩;have n0_:=zM (KeepBut.blk hk (g':=gb968) (o := .cells #[.int .i64 0,.int .i64 0,.int .i64 0] 28 (0,0)) (by (with_reducible repeat (first|refine zJ ?_ _|refine zK ?_|refine zL ?_ _));exact BK968.out) NB968_969.out (by simp));have n1_:=zM (Kd.R_lower ho0 (zR (by repeat (first|(with_reducible first|exact HB.out|apply zD|apply zE|apply zF|refine below_set ?_ (IsS77.ge HI969.out)|refine below_set ?_ GE968.out)|exact HB.out))));have n2_:=zM (hb);have n3_:=zM (hi);clear BK968;clear HB;clear HI969;have BK968:=n0_;have HO972:=n1_;have HB:=n2_;have HI969:=n3_;clear n0_ n1_ n2_ n3_;(try clear hb);(try clear hb2);(try clear hk);(try clear hi);(try clear ho0)))
 (try simp only [Act.put,zT,zU,zV])
 go_cut [19] (fun v19 wc => ∃ (kq:Nat) (x19_2:Bool) (x970001_2:Int) (x970002_2:Int),v19 = .bool x19_2 ∧ Aside0 (spec_DrawAddOnTop.j0 kq t970 x19_2 l0 x970001_2 x970002_2 = some (r1,r2,r3,r4,r5)) ∧ Aside0 (kq ≤ k) ∧ Aside0 (Kd.R (Kd.int .i64) 3 wc w.heap.size (fun _=>True) v971 t970) ∧ Aside0 (wc.heap[gb968]? = some (.cells #[.int .i64 0,.int .i64 0,.int .i64 0] 28 (0,0))) ∧ Aside0 (IsS77 w wc gb969 l0 x970001_2 x970002_2) ∧ Aside0 (Below w.heap.size w wc))
 case first =>
  have H:=HC3.out;clear HC3;by_cases c7:(t970.length:Int) > 3
  ·rw [if_pos c7] at H
   have c7b0:decide (3 < (t970.length:Int)) = true:=decide_eq_true c7
   have c7b1:decide (3 < t970.length) = true:=decide_eq_true (by omega)
   clear c7;(first|rw [c7b0]|(simp only [i64_w,i32_w];rw [c7b0])|skip)
   replace H:=Option.bind_eq_some_iff.mp H;obtain ⟨⟨t975,t976,t977⟩,A80,H⟩:=H;replace H:(spec_DrawAddOnTop.j0 k t970 (!t975) l0 t976 t977) = some (r1,r2,r3,r4,r5):=H
   have A8:=zM A80;clear A80;have H':=zM H;clear H;obtain ⟨Ao9,co9,eo9⟩:=Kd.R_slice HO972.out;subst eo9;go_wp2_with (first|(go_at_call 74;(with_reducible refine (spec_l1Cur_one.calls gb969 l0 t973 t974 4 t975 t976 t977 w _ ?side1 ?side2 A8.out).mono ?_);(case side1=>repeat (first|(with_reducible first|exact HI969.out|apply IsS77.alloc|apply IsS77.drewN|apply IsS77.drew|apply IsS77.set_1|apply IsS77.set_2|apply IsS77.far (hne:=NB969_968.out))|exact HI969.out));(case side2=>repeat (first|(with_reducible first|exact HB.out|apply zD|apply zE|apply zF|refine below_set ?_ (IsS77.ge HI969.out)|refine below_set ?_ GE968.out)|exact HB.out));rintro e w10 ⟨rfl,hi,hb,hk⟩;have n0_:=zM (KeepBut.blk hk (g':=gb968) (o := .cells #[.int .i64 0,.int .i64 0,.int .i64 0] 28 (0,0)) (by (with_reducible repeat (first|refine zJ ?_ _|refine zK ?_|refine zL ?_ _));exact BK968.out) NB968_969.out (by simp));have n1_:=zM (Kd.R_mono (Kd.R_keep (IsS77.apart (show IsS77 w _ gb969 l0 t973 t974 from by repeat (first|(with_reducible first|exact HI969.out|apply IsS77.alloc|apply IsS77.drewN|apply IsS77.drew|apply IsS77.set_1|apply IsS77.set_2|apply IsS77.far (hne:=NB969_968.out))|exact HI969.out)) (by (with_reducible repeat (first|apply zA|apply zB|apply zC));exact HO972.out) (by decide)) hk (fun _ h=>h.2)) (fun _ h=>h.1));have n2_:=zM (hb);have n3_:=zM (hi);clear BK968;clear HO972;clear HB;clear HI969;have BK968:=n0_;have HO972:=n1_;have HB:=n2_;have HI969:=n3_;clear n0_ n1_ n2_ n3_;(try clear hb);(try clear hb2);(try clear hk);(try clear hi)))
   go_meet
   case rel=>exact ⟨_,(!t975),(t976),(t977),(by first|rfl|(simp;done)|(simp [*];done)),H',⟨by first|omega|exact Nat.le_refl _⟩,⟨by (with_reducible repeat (first|apply zA|apply zB|apply zC));exact HO972.out⟩,⟨by (with_reducible repeat (first|refine zJ ?_ _|refine zK ?_|refine zL ?_ _));exact BK968.out⟩,⟨by repeat (first|(with_reducible first|exact HI969.out|apply IsS77.alloc|apply IsS77.drewN|apply IsS77.drew|apply IsS77.set_1|apply IsS77.set_2|apply IsS77.far (hne:=NB969_968.out))|exact HI969.out)⟩,⟨by repeat (first|(with_reducible first|exact HB.out|apply zD|apply zE|apply zF|refine below_set ?_ (IsS77.ge HI969.out)|refine below_set ?_ GE968.out)|exact HB.out)⟩⟩
  ·rw [if_neg c7] at H
   have c7b0:decide (3 < (t970.length:Int)) = false:=decide_eq_false c7
   have c7b1:decide (3 < t970.length) = false:=decide_eq_false (by omega)
   clear c7;(first|rw [c7b0]|(simp only [i64_w,i32_w];rw [c7b0])|skip)
   have H':=zM H;clear H;obtain ⟨Ao11,co11,eo11⟩:=Kd.R_slice HO972.out;subst eo11;go_wp2
   go_meet
   case rel=>exact ⟨_,(false),(t973),(t974),(by first|rfl|(simp;done)|(simp [*];done)),H',⟨by first|omega|exact Nat.le_refl _⟩,⟨by (with_reducible repeat (first|apply zA|apply zB|apply zC));exact HO972.out⟩,⟨by (with_reducible repeat (first|refine zJ ?_ _|refine zK ?_|refine zL ?_ _));exact BK968.out⟩,⟨by repeat (first|(with_reducible first|exact HI969.out|apply IsS77.alloc|apply IsS77.drewN|apply IsS77.drew|apply IsS77.set_1|apply IsS77.set_2|apply IsS77.far (hne:=NB969_968.out))|exact HI969.out)⟩,⟨by repeat (first|(with_reducible first|exact HB.out|apply zD|apply zE|apply zF|refine below_set ?_ (IsS77.ge HI969.out)|refine below_set ?_ GE968.out)|exact HB.out)⟩⟩
 case rest =>
  clear HC3;(try clear p2);(try clear c3);(try clear c7);(try clear c7b0);(try clear c7b1);obtain ⟨kq,x19_2,x970001_2,x970002_2,rfl,HA,HJ2,HO_6,BK968,HI969,HB⟩:=hcut;cases kq with
  | zero=>exact absurd HA.out (by simp [spec_DrawAddOnTop.j0])
  | succ kj2 =>
   have H:=HA.out;clear HA;simp only [spec_DrawAddOnTop.j0] at H
   by_cases c12:x19_2 = true
   ·subst c12
    have H1:(if 3 ≤ (t970.length:Int) then ((some (([1,5000,20000,32000,0,32001]:List Int):List Int)).bind fun y981=>((spec_l1Cur_pick.f l0 x970001_2 x970002_2 24).bind fun bt984=>(if 0 ≤ (wrap64 (4 + (wrap64 (Int.tdiv bt984.1 11)))) then (if (wrap64 (4 + (wrap64 (Int.tdiv bt984.1 11)))) ≤ (y981.length:Int) then ((spec_l1Cur_among.f l0 bt984.2.1 bt984.2.2 (y981.take ((wrap64 (4 + (wrap64 (Int.tdiv bt984.1 11)))):Int).toNat)).bind fun bt991=>((spec_l1Cur_lashRules.f l0 bt991.2.1 bt991.2.2).bind fun bt994=>(some ((t970.take (3:Int).toNat),bt991.1,bt994.1,bt994.2.1,bt994.2.2.1)))) else (none)) else (none)))) else (none)) = some (r1,r2,r3,r4,r5):=by rw [if_pos rfl] at H;exact H
    clear H;have H:=H1;clear H1;by_cases c13:3 ≤ (t970.length:Int)
    ·rw [if_pos c13] at H
     have c13b0:=eq_true c13;have c13b1:decide (3 ≤ (t970.length:Int)) = true:=decide_eq_true c13
     clear c13;obtain ⟨y978,hy978⟩ : ∃ y_:List Int,y_ = (t970.take (3:Int).toNat):=⟨_,rfl⟩
     replace H:((some (([1,5000,20000,32000,0,32001]:List Int):List Int)).bind fun y981=>((spec_l1Cur_pick.f l0 x970001_2 x970002_2 24).bind fun bt984=>(if 0 ≤ (wrap64 (4 + (wrap64 (Int.tdiv bt984.1 11)))) then (if (wrap64 (4 + (wrap64 (Int.tdiv bt984.1 11)))) ≤ (y981.length:Int) then ((spec_l1Cur_among.f l0 bt984.2.1 bt984.2.2 (y981.take ((wrap64 (4 + (wrap64 (Int.tdiv bt984.1 11)))):Int).toNat)).bind fun bt991=>((spec_l1Cur_lashRules.f l0 bt991.2.1 bt991.2.2).bind fun bt994=>(some (y978,bt991.1,bt994.1,bt994.2.1,bt994.2.2.1)))) else (none)) else (none)))) = some (r1,r2,r3,r4,r5):=by first|(rw [hy978];with_reducible exact H)|(have H2_:=(Option.bind_some _ _).symm.trans H;rw [hy978];with_reducible exact H2_)|(have H2_:=(Option.bind_some _ _).symm.trans H;with_reducible exact H2_)|with_reducible exact H|(rw [hy978];exact H)|exact H
     have Ny978:=zM hy978;clear hy978;obtain ⟨y981,hy981⟩ : ∃ y_:List Int,y_ = (([1,5000,20000,32000,0,32001]:List Int)):=⟨_,rfl⟩
     replace H:((spec_l1Cur_pick.f l0 x970001_2 x970002_2 24).bind fun bt984=>(if 0 ≤ (wrap64 (4 + (wrap64 (Int.tdiv bt984.1 11)))) then (if (wrap64 (4 + (wrap64 (Int.tdiv bt984.1 11)))) ≤ (y981.length:Int) then ((spec_l1Cur_among.f l0 bt984.2.1 bt984.2.2 (y981.take ((wrap64 (4 + (wrap64 (Int.tdiv bt984.1 11)))):Int).toNat)).bind fun bt991=>((spec_l1Cur_lashRules.f l0 bt991.2.1 bt991.2.2).bind fun bt994=>(some (y978,bt991.1,bt994.1,bt994.2.1,bt994.2.2.1)))) else (none)) else (none))) = some (r1,r2,r3,r4,r5):=by first|(rw [hy981];with_reducible exact H)|(have H2_:=(Option.bind_some _ _).symm.trans H;rw [hy981];with_reducible exact H2_)|(have H2_:=(Option.bind_some _ _).symm.trans H;with_reducible exact H2_)|with_reducible exact H|(rw [hy981];exact H)|exact H
     have Ny981:=zM hy981;clear hy981;replace H:=Option.bind_eq_some_iff.mp H;obtain ⟨⟨t984,t985,t986⟩,A140,H⟩:=H;replace H:(if 0 ≤ (wrap64 (4 + (wrap64 (Int.tdiv t984 11)))) then (if (wrap64 (4 + (wrap64 (Int.tdiv t984 11)))) ≤ (y981.length:Int) then ((spec_l1Cur_among.f l0 t985 t986 (y981.take ((wrap64 (4 + (wrap64 (Int.tdiv t984 11)))):Int).toNat)).bind fun bt991=>((spec_l1Cur_lashRules.f l0 bt991.2.1 bt991.2.2).bind fun bt994=>(some (y978,bt991.1,bt994.1,bt994.2.1,bt994.2.2.1)))) else (none)) else (none)) = some (r1,r2,r3,r4,r5):=H
     have A14:=zM A140;clear A140;obtain ⟨ji15,hji15⟩ : ∃ j_:Int,(wrap64 (4 + (wrap64 (Int.tdiv t984 11)))) = j_:=⟨_,rfl⟩
     replace H:(if 0 ≤ (ji15) then (if (ji15) ≤ (y981.length:Int) then ((spec_l1Cur_among.f l0 t985 t986 (y981.take ((ji15):Int).toNat)).bind fun bt991=>((spec_l1Cur_lashRules.f l0 bt991.2.1 bt991.2.2).bind fun bt994=>(some (y978,bt991.1,bt994.1,bt994.2.1,bt994.2.2.1)))) else (none)) else (none)) = some (r1,r2,r3,r4,r5):=by first|(rw [hji15] at H;exact H)|(simp only [hji15] at H ⊢;exact H)
     (try rw [hji15] at A14)
     have hji15w:(IntKind.i64.wrap (4 + (wrap64 (Int.tdiv t984 11)))) = ji15:=(i64_w _).trans hji15
     by_cases c16:0 ≤ (ji15)
     ·rw [if_pos c16] at H
      have c16b0:=eq_true c16;have c16b1:decide (0 ≤ (ji15)) = true:=decide_eq_true c16
      clear c16;by_cases c17:(ji15) ≤ (y981.length:Int)
      ·rw [if_pos c17] at H
       have c17b0:=eq_true c17;have c17b1:decide ((ji15) ≤ (y981.length:Int)) = true:=decide_eq_true c17
       clear c17;obtain ⟨y987,hy987⟩ : ∃ y_:List Int,y_ = (y981.take ((ji15):Int).toNat):=⟨_,rfl⟩
       replace H:((spec_l1Cur_among.f l0 t985 t986 y987).bind fun bt991=>((spec_l1Cur_lashRules.f l0 bt991.2.1 bt991.2.2).bind fun bt994=>(some (y978,bt991.1,bt994.1,bt994.2.1,bt994.2.2.1)))) = some (r1,r2,r3,r4,r5):=by first|(rw [hy987];with_reducible exact H)|(have H2_:=(Option.bind_some _ _).symm.trans H;rw [hy987];with_reducible exact H2_)|(have H2_:=(Option.bind_some _ _).symm.trans H;with_reducible exact H2_)|with_reducible exact H|(rw [hy987];exact H)|exact H
       have Ny987:=zM hy987;clear hy987;replace H:=Option.bind_eq_some_iff.mp H;obtain ⟨⟨t991,t992,t993⟩,A180,H⟩:=H;replace H:((spec_l1Cur_lashRules.f l0 t992 t993).bind fun bt994=>(some (y978,t991,bt994.1,bt994.2.1,bt994.2.2.1))) = some (r1,r2,r3,r4,r5):=H
       have A18:=zM A180;clear A180;replace H:=Option.bind_eq_some_iff.mp H;obtain ⟨⟨t994,t995,t996,t997,t998⟩,A190,H⟩:=H;replace H:(some (y978,t991,t994,t995,t996)) = some (r1,r2,r3,r4,r5):=H
       have A19:=zM A190;clear A190;simp only [Option.some.injEq,Prod.mk.injEq] at H
       obtain ⟨rfl,rfl,rfl,rfl,rfl⟩:=H;obtain ⟨Ao20,co20,eo20⟩:=Kd.R_slice HO_6.out;subst eo20;have q21:(3:Int) ≤ ((t970.length:Int):Int):=of_decide_eq_true (by first|(with_reducible assumption)|assumption)
       obtain ⟨i021,hi021,_,hsz21,_⟩:=info_parts info3;have hcut21:=cut_to (P:=Try.prog) 22 3 .i64 Try.underlying22 hi021 Ao20 t970.length co20 3 (by omega) q21 (zN HO_6.out).2.1
       have hr21:=Kd.R_take (m:=(3:Int).toNat) HO_6.out (by omega)
       have hy21:y978.length = (3:Int).toNat:=(by rw [Ny978.out,List.length_take];omega)
       rw [← Ny978.out] at hr21;rw [← hy21] at hr21 hcut21
       clear hy21 hi021 hsz21 HO_6;have HO980:=zM hr21;clear hr21;replace q21:=eq_true q21;go_wp2_with (first|((with_reducible refine gate_dst (N:=24) rfl ?_);refine Kd.R_lit (Kd.int .i64) _ 3 ?hg (N:=24) ?hd (xs:=([1,5000,20000,32000,0,32001]:List Int)) (inner:=[.int .i64 1,.int .i64 5000,.int .i64 20000,.int .i64 32000,.int .i64 0,.int .i64 32001]) (ok:=fun _=>True) (okp:=fun _=>True) ?hr ?hp (fun _ hk=>hk) trivial (Below.refl _ _) (Nat.le_refl _) (by simp) ?_;(case hd=>rfl);(case hg=>rfl);(case hr=>first|(go_simp;done)|(go_simp;rfl));(case hp=>exact (Reps.one (show Kd.M (Kd.int .i64) _ _ _ 1 [.int .i64 1] from rfl) (Reps.one (show Kd.M (Kd.int .i64) _ _ _ 5000 [.int .i64 5000] from rfl) (Reps.one (show Kd.M (Kd.int .i64) _ _ _ 20000 [.int .i64 20000] from rfl) (Reps.one (show Kd.M (Kd.int .i64) _ _ _ 32000 [.int .i64 32000] from rfl) (Reps.one (show Kd.M (Kd.int .i64) _ _ _ 0 [.int .i64 0] from rfl) (Reps.one (show Kd.M (Kd.int .i64) _ _ _ 32001 [.int .i64 32001] from rfl) (Reps.none _ _))))))));intro v982 w22 ho23 hb hg_ hnew_;clear hg_ hnew_;(first|rw [← Ny981.out] at ho23|(simp only [Int.reduceToNat] at ho23;rw [← Ny981.out] at ho23));have n0_:=zM (Kd.R_elder' (by (with_reducible repeat (first|apply zA|apply zB|apply zC));exact HO980.out) (Kd.R_base ho23) hb);have n1_:=zM (Kd.R_lower (Kd.R_new' ho23 (Kd.R_lt (by (with_reducible repeat (first|apply zA|apply zB|apply zC));exact HO980.out))) (zR (by repeat (first|(with_reducible first|exact HB.out|apply zD|apply zE|apply zF|refine below_set ?_ (IsS77.ge HI969.out)|refine below_set ?_ GE968.out)|exact HB.out))));have n2_:=zM (blk_below (g:=gb968) (o := .cells #[.int .i64 0,.int .i64 0,.int .i64 0] 28 (0,0)) (by (with_reducible repeat (first|refine zJ ?_ _|refine zK ?_|refine zL ?_ _));exact BK968.out) hb);have n3_:=zM (IsS77.below (by repeat (first|(with_reducible first|exact HI969.out|apply IsS77.alloc|apply IsS77.drewN|apply IsS77.drew|apply IsS77.set_1|apply IsS77.set_2|apply IsS77.far (hne:=NB969_968.out))|exact HI969.out)) hb);have n4_:=zM (zQ (by repeat (first|(with_reducible first|exact HB.out|apply zD|apply zE|apply zF|refine below_set ?_ (IsS77.ge HI969.out)|refine below_set ?_ GE968.out)|exact HB.out)) hb);clear HO980;clear BK968;clear HI969;clear HB;have HO980:=n0_;have HO983:=n1_;have BK968:=n2_;have HI969:=n3_;have HB:=n4_;clear n0_ n1_ n2_ n3_ n4_;clear hb ho23)|((with_reducible refine gate_callee (f:=71) rfl ?_);refine goesL_ (some 26) rfl rfl Try.func71 (by kernel_rfl) rfl #[.pointer (some ⟨gb969,0,none⟩),.int .i64 24] rfl (by (try simp only [List.map_toArray,List.map_cons,List.map_nil]);first|done|rfl|(simp only [List.length_drop,List.length_take];rfl)) ?_;(with_reducible refine (spec_l1Cur_pick.calls gb969 l0 x970001_2 x970002_2 24 t984 t985 t986 w _ ?side1 ?side2 A14.out).mono ?_);(case side1=>repeat (first|(with_reducible first|exact HI969.out|apply IsS77.alloc|apply IsS77.drewN|apply IsS77.drew|apply IsS77.set_1|apply IsS77.set_2|apply IsS77.far (hne:=NB969_968.out))|exact HI969.out));(case side2=>repeat (first|(with_reducible first|exact HB.out|apply zD|apply zE|apply zF|refine below_set ?_ (IsS77.ge HI969.out)|refine below_set ?_ GE968.out)|exact HB.out));rintro e w24 ⟨rfl,hi,hb,hk⟩;refine ⟨_,rfl,?_⟩;have n0_:=zM (Kd.R_mono (Kd.R_keep (IsS77.apart (show IsS77 w _ gb969 l0 x970001_2 x970002_2 from by repeat (first|(with_reducible first|exact HI969.out|apply IsS77.alloc|apply IsS77.drewN|apply IsS77.drew|apply IsS77.set_1|apply IsS77.set_2|apply IsS77.far (hne:=NB969_968.out))|exact HI969.out)) (by (with_reducible repeat (first|apply zA|apply zB|apply zC));exact HO980.out) (by decide)) hk (fun _ h=>h.2)) (fun _ h=>h.1));have n1_:=zM (KeepBut.blk hk (g':=gb968) (o := .cells #[.int .i64 0,.int .i64 0,.int .i64 0] 28 (0,0)) (by (with_reducible repeat (first|refine zJ ?_ _|refine zK ?_|refine zL ?_ _));exact BK968.out) NB968_969.out (by simp));have n2_:=zM (Kd.R_mono (Kd.R_keep (IsS77.apart (show IsS77 w _ gb969 l0 x970001_2 x970002_2 from by repeat (first|(with_reducible first|exact HI969.out|apply IsS77.alloc|apply IsS77.drewN|apply IsS77.drew|apply IsS77.set_1|apply IsS77.set_2|apply IsS77.far (hne:=NB969_968.out))|exact HI969.out)) (by (with_reducible repeat (first|apply zA|apply zB|apply zC));exact HO983.out) (by decide)) hk (fun _ h=>h.2)) (fun _ h=>h.1));have n3_:=zM (hb);have n4_:=zM (hi);clear HO980;clear BK968;clear HO983;clear HB;clear HI969;have HO980:=n0_;have BK968:=n1_;have HO983:=n2_;have HB:=n3_;have HI969:=n4_;clear n0_ n1_ n2_ n3_ n4_;(try clear hb);(try clear hb2);(try clear hk);(try clear hi);obtain ⟨Ao26,co26,eo26⟩:=Kd.R_slice HO983.out;subst eo26;have q25:((ji15):Int) ≤ ((y981.length:Int):Int):=of_decide_eq_true (by first|(with_reducible assumption)|assumption);obtain ⟨i025,hi025,_,hsz25,_⟩:=info_parts info3;have hroom25:y981.length ≤ co26:=(zN HO983.out).2.1;have hC25:Kd.C (Kd.int .i64) _ Ao26 y981.length y981:=(zN HO983.out).2.2;have hcut25:=cut_to (P:=Try.prog) 22 3 .i64 Try.underlying22 hi025 Ao26 y981.length co26 (ji15) (of_decide_eq_true (by first|(with_reducible assumption)|assumption)) q25 hroom25;have hr25:=Kd.C_take (m:=((ji15):Int).toNat) hC25 (by omega);have hy25:y987.length = ((ji15):Int).toNat:=(by rw [Ny987.out,List.length_take];omega);rw [← Ny987.out] at hr25;rw [← hy25] at hcut25;have HR990:=zM hr25;have HC990:=zM (show y987.length ≤ co26 from by omega);clear hr25 hC25 hroom25 hi025 hsz25;have KY25:=zM hy25;clear hy25;have KL25:=zM (show ((ji15):Int).toNat ≤ y981.length from by omega);replace q25:=eq_true q25)|((with_reducible refine gate_callee (f:=72) rfl ?_);refine goesL_ (some 30) rfl rfl Try.func72 (by kernel_rfl) rfl #[.pointer (some ⟨gb969,0,none⟩),.slice Ao26 y987.length co26] rfl (by (try simp only [List.map_toArray,List.map_cons,List.map_nil]);first|done|rfl|(simp only [List.length_drop,List.length_take];rfl)) ?_;(with_reducible refine (spec_l1Cur_among.calls gb969 l0 t985 t986 _ _ y987 t991 t992 t993 w _ ?side1 ?side2 ?side3 ?side4 ?side5 A18.out).mono ?_);(case side1=>repeat (first|(with_reducible first|exact HI969.out|apply IsS77.alloc|apply IsS77.drewN|apply IsS77.drew|apply IsS77.set_1|apply IsS77.set_2|apply IsS77.far (hne:=NB969_968.out))|exact HI969.out));(case side2=>repeat (first|(with_reducible first|exact HB.out|apply zD|apply zE|apply zF|refine below_set ?_ (IsS77.ge HI969.out)|refine below_set ?_ GE968.out)|exact HB.out));(case side3=>repeat (first|exact (by repeat (first|(with_reducible exact HR990.out)|(with_reducible first|refine zG ?_ _|refine zH ?_ _|refine zI ?_)|exact HR990.out))|(with_reducible first|refine zG ?_ _|refine zH ?_ _|refine zI ?_)));(case side4=>exact HC990.out);(case side5=>exact fun ad he _ hc=>(IsS77.own_ne HI969.out HO983.out (by decide)) (by rw [he];simp [Value.ownBlock,hc]));rintro e w27 ⟨rfl,hi,hb,hk⟩;refine ⟨_,rfl,?_⟩;have n0_:=zM (Kd.R_mono (Kd.R_keep (IsS77.apart (show IsS77 w _ gb969 l0 t985 t986 from by repeat (first|(with_reducible first|exact HI969.out|apply IsS77.alloc|apply IsS77.drewN|apply IsS77.drew|apply IsS77.set_1|apply IsS77.set_2|apply IsS77.far (hne:=NB969_968.out))|exact HI969.out)) (by (with_reducible repeat (first|apply zA|apply zB|apply zC));exact HO980.out) (by decide)) hk (fun _ h=>h.2)) (fun _ h=>h.1));have n1_:=zM (KeepBut.blk hk (g':=gb968) (o := .cells #[.int .i64 0,.int .i64 0,.int .i64 0] 28 (0,0)) (by (with_reducible repeat (first|refine zJ ?_ _|refine zK ?_|refine zL ?_ _));exact BK968.out) NB968_969.out (by simp));have n2_:=zM (Kd.R_mono (Kd.R_keep (IsS77.apart (show IsS77 w _ gb969 l0 t985 t986 from by repeat (first|(with_reducible first|exact HI969.out|apply IsS77.alloc|apply IsS77.drewN|apply IsS77.drew|apply IsS77.set_1|apply IsS77.set_2|apply IsS77.far (hne:=NB969_968.out))|exact HI969.out)) (by (with_reducible repeat (first|apply zA|apply zB|apply zC));exact HO983.out) (by decide)) hk (fun _ h=>h.2)) (fun _ h=>h.1));have n3_:=zM (hb);have n4_:=zM (hi);clear HO980;clear BK968;clear HO983;clear HB;clear HI969;have HO980:=n0_;have BK968:=n1_;have HO983:=n2_;have HB:=n3_;have HI969:=n4_;clear n0_ n1_ n2_ n3_ n4_;(try clear hb);(try clear hb2);(try clear hk);(try clear hi))|((with_reducible refine gate_callee (f:=75) rfl ?_);refine goesL_ (some 32) rfl rfl Try.func75 (by kernel_rfl) rfl #[.pointer (some ⟨gb969,0,none⟩)] rfl (by (try simp only [List.map_toArray,List.map_cons,List.map_nil]);first|done|rfl|(simp only [List.length_drop,List.length_take];rfl)) ?_;(with_reducible refine (spec_l1Cur_lashRules.calls gb969 l0 t992 t993 t994 t995 t996 t997 t998 w _ ?side1 ?side2 A19.out).mono ?_);(case side1=>repeat (first|(with_reducible first|exact HI969.out|apply IsS77.alloc|apply IsS77.drewN|apply IsS77.drew|apply IsS77.set_1|apply IsS77.set_2|apply IsS77.far (hne:=NB969_968.out))|exact HI969.out));(case side2=>repeat (first|(with_reducible first|exact HB.out|apply zD|apply zE|apply zF|refine below_set ?_ (IsS77.ge HI969.out)|refine below_set ?_ GE968.out)|exact HB.out));rintro e w28 ⟨rfl,hi,hb,hk⟩;refine ⟨_,rfl,?_⟩;have n0_:=zM (Kd.R_mono (Kd.R_keep (IsS77.apart (show IsS77 w _ gb969 l0 t992 t993 from by repeat (first|(with_reducible first|exact HI969.out|apply IsS77.alloc|apply IsS77.drewN|apply IsS77.drew|apply IsS77.set_1|apply IsS77.set_2|apply IsS77.far (hne:=NB969_968.out))|exact HI969.out)) (by (with_reducible repeat (first|apply zA|apply zB|apply zC));exact HO980.out) (by decide)) hk (fun _ h=>h.2)) (fun _ h=>h.1));have n1_:=zM (KeepBut.blk hk (g':=gb968) (o := .cells #[.int .i64 0,.int .i64 0,.int .i64 0] 28 (0,0)) (by (with_reducible repeat (first|refine zJ ?_ _|refine zK ?_|refine zL ?_ _));exact BK968.out) NB968_969.out (by simp));have n2_:=zM (Kd.R_mono (Kd.R_keep (IsS77.apart (show IsS77 w _ gb969 l0 t992 t993 from by repeat (first|(with_reducible first|exact HI969.out|apply IsS77.alloc|apply IsS77.drewN|apply IsS77.drew|apply IsS77.set_1|apply IsS77.set_2|apply IsS77.far (hne:=NB969_968.out))|exact HI969.out)) (by (with_reducible repeat (first|apply zA|apply zB|apply zC));exact HO983.out) (by decide)) hk (fun _ h=>h.2)) (fun _ h=>h.1));have n3_:=zM (hb);have n4_:=zM (hi);clear HO980;clear BK968;clear HO983;clear HB;clear HI969;have HO980:=n0_;have BK968:=n1_;have HO983:=n2_;have HB:=n3_;have HI969:=n4_;clear n0_ n1_ n2_ n3_ n4_;(try clear hb);(try clear hb2);(try clear hk);(try clear hi);have hnb29:=NB968_969.out;have hnc29:=NB969_968.out;have hcz30_0:w28.cell? ⟨gb968,0,none⟩ = some (.int .i64 0):=(blk_cell BK968.out 0).trans rfl;have hcz30_1:w28.cell? ⟨gb968,1,none⟩ = some (.int .i64 0):=(blk_cell BK968.out 1).trans rfl;have hcz30_2:w28.cell? ⟨gb968,2,none⟩ = some (.int .i64 0):=(blk_cell BK968.out 2).trans rfl;have hfz30_0:=blk_frozen BK968.out 0;have hfz30_1:=blk_frozen BK968.out 1;have hfz30_2:=blk_frozen BK968.out 2))
       refine bodyPost_ret (results_list (rs:=[.tmp 2,.tmp 3,.cell 4 28]) rfl (by simp) (.tmp (.tmp (.cell gb968 28 #[.int .i64 t994,.int .i64 t995,.int .i64 t996] (0,0) _ rfl (by (with_reducible repeat (first|refine zJ ?_ _|refine zK ?_|refine zL ?_ _));refine blk_put (cs := #[.int .i64 t994,.int .i64 t995,.int .i64 0]) ?_ 2 _ rfl;(with_reducible repeat (first|refine zJ ?_ _|refine zK ?_|refine zL ?_ _));refine blk_put (cs := #[.int .i64 t994,.int .i64 0,.int .i64 0]) ?_ 1 _ rfl;(with_reducible repeat (first|refine zJ ?_ _|refine zK ?_|refine zL ?_ _));refine blk_put (cs := #[.int .i64 0,.int .i64 0,.int .i64 0]) ?_ 0 _ rfl;(with_reducible repeat (first|refine zJ ?_ _|refine zK ?_|refine zL ?_ _));exact BK968.out) Try.underlying28 rfl (by kernel_rfl) .nil)))) rfl ?_
       exact ⟨_,by first|rfl|(simp [errW_none,errW_some] <;> rfl)|(simp only [← hji15];first|rfl|(simp [errW_none,errW_some] <;> rfl))|(simp [*,errW_none,errW_some] <;> rfl),by (with_reducible repeat (first|apply zA|apply zB|apply zC));exact Kd.R_mono (Kd.R_far (p:=⟨gb968,2,none⟩) (Kd.R_far (p:=⟨gb968,1,none⟩) (Kd.R_far (p:=⟨gb968,0,none⟩) (Kd.R_types HO980.out BK968.out (by decide)) (fun _ hk=>hk.2) (.int .i64 t994)) (fun _ hk=>hk.2) (.int .i64 t995)) (fun _ hk=>hk.2) (.int .i64 t996)) (fun _ hk=>trivial),by repeat (first|(with_reducible first|exact HB.out|apply zD|apply zE|apply zF|refine below_set ?_ (IsS77.ge HI969.out)|refine below_set ?_ GE968.out)|exact HB.out)⟩
      ·rw [if_neg c17] at H
       exact absurd H (by simp)
     ·rw [if_neg c16] at H
      exact absurd H (by simp)
    ·rw [if_neg c13] at H
     exact absurd H (by simp)
   ·replace c12:=Bool.eq_false_iff.mpr c12
    subst c12;have H1:((some (([1,5000,20000,32000,0,32001]:List Int):List Int)).bind fun y999=>((spec_l1Cur_pick.f l0 x970001_2 x970002_2 24).bind fun bt1002=>(if 0 ≤ (wrap64 (4 + (wrap64 (Int.tdiv bt1002.1 11)))) then (if (wrap64 (4 + (wrap64 (Int.tdiv bt1002.1 11)))) ≤ (y999.length:Int) then ((spec_l1Cur_among.f l0 bt1002.2.1 bt1002.2.2 (y999.take ((wrap64 (4 + (wrap64 (Int.tdiv bt1002.1 11)))):Int).toNat)).bind fun bt1009=>((spec_l1Cur_lashRules.f l0 bt1009.2.1 bt1009.2.2).bind fun bt1012=>(some (t970,bt1009.1,bt1012.1,bt1012.2.1,bt1012.2.2.1)))) else (none)) else (none)))) = some (r1,r2,r3,r4,r5):=by rw [if_neg (show ¬ (false = true) by decide)] at H;exact H
    clear H;have H:=H1;clear H1;obtain ⟨y999,hy999⟩ : ∃ y_:List Int,y_ = (([1,5000,20000,32000,0,32001]:List Int)):=⟨_,rfl⟩
    replace H:((spec_l1Cur_pick.f l0 x970001_2 x970002_2 24).bind fun bt1002=>(if 0 ≤ (wrap64 (4 + (wrap64 (Int.tdiv bt1002.1 11)))) then (if (wrap64 (4 + (wrap64 (Int.tdiv bt1002.1 11)))) ≤ (y999.length:Int) then ((spec_l1Cur_among.f l0 bt1002.2.1 bt1002.2.2 (y999.take ((wrap64 (4 + (wrap64 (Int.tdiv bt1002.1 11)))):Int).toNat)).bind fun bt1009=>((spec_l1Cur_lashRules.f l0 bt1009.2.1 bt1009.2.2).bind fun bt1012=>(some (t970,bt1009.1,bt1012.1,bt1012.2.1,bt1012.2.2.1)))) else (none)) else (none))) = some (r1,r2,r3,r4,r5):=by first|(rw [hy999];with_reducible exact H)|(have H2_:=(Option.bind_some _ _).symm.trans H;rw [hy999];with_reducible exact H2_)|(have H2_:=(Option.bind_some _ _).symm.trans H;with_reducible exact H2_)|with_reducible exact H|(rw [hy999];exact H)|exact H
    have Ny999:=zM hy999;clear hy999;replace H:=Option.bind_eq_some_iff.mp H;obtain ⟨⟨t1002,t1003,t1004⟩,A310,H⟩:=H;replace H:(if 0 ≤ (wrap64 (4 + (wrap64 (Int.tdiv t1002 11)))) then (if (wrap64 (4 + (wrap64 (Int.tdiv t1002 11)))) ≤ (y999.length:Int) then ((spec_l1Cur_among.f l0 t1003 t1004 (y999.take ((wrap64 (4 + (wrap64 (Int.tdiv t1002 11)))):Int).toNat)).bind fun bt1009=>((spec_l1Cur_lashRules.f l0 bt1009.2.1 bt1009.2.2).bind fun bt1012=>(some (t970,bt1009.1,bt1012.1,bt1012.2.1,bt1012.2.2.1)))) else (none)) else (none)) = some (r1,r2,r3,r4,r5):=H
    have A31:=zM A310;clear A310;obtain ⟨ji32,hji32⟩ : ∃ j_:Int,(wrap64 (4 + (wrap64 (Int.tdiv t1002 11)))) = j_:=⟨_,rfl⟩
    replace H:(if 0 ≤ (ji32) then (if (ji32) ≤ (y999.length:Int) then ((spec_l1Cur_among.f l0 t1003 t1004 (y999.take ((ji32):Int).toNat)).bind fun bt1009=>((spec_l1Cur_lashRules.f l0 bt1009.2.1 bt1009.2.2).bind fun bt1012=>(some (t970,bt1009.1,bt1012.1,bt1012.2.1,bt1012.2.2.1)))) else (none)) else (none)) = some (r1,r2,r3,r4,r5):=by first|(rw [hji32] at H;exact H)|(simp only [hji32] at H ⊢;exact H)
    (try rw [hji32] at A31)
    have hji32w:(IntKind.i64.wrap (4 + (wrap64 (Int.tdiv t1002 11)))) = ji32:=(i64_w _).trans hji32
    by_cases c33:0 ≤ (ji32)
    ·rw [if_pos c33] at H
     have c33b0:=eq_true c33;have c33b1:decide (0 ≤ (ji32)) = true:=decide_eq_true c33
     clear c33;by_cases c34:(ji32) ≤ (y999.length:Int)
     ·rw [if_pos c34] at H
      have c34b0:=eq_true c34;have c34b1:decide ((ji32) ≤ (y999.length:Int)) = true:=decide_eq_true c34
      clear c34;obtain ⟨y1005,hy1005⟩ : ∃ y_:List Int,y_ = (y999.take ((ji32):Int).toNat):=⟨_,rfl⟩
      replace H:((spec_l1Cur_among.f l0 t1003 t1004 y1005).bind fun bt1009=>((spec_l1Cur_lashRules.f l0 bt1009.2.1 bt1009.2.2).bind fun bt1012=>(some (t970,bt1009.1,bt1012.1,bt1012.2.1,bt1012.2.2.1)))) = some (r1,r2,r3,r4,r5):=by first|(rw [hy1005];with_reducible exact H)|(have H2_:=(Option.bind_some _ _).symm.trans H;rw [hy1005];with_reducible exact H2_)|(have H2_:=(Option.bind_some _ _).symm.trans H;with_reducible exact H2_)|with_reducible exact H|(rw [hy1005];exact H)|exact H
      have Ny1005:=zM hy1005;clear hy1005;replace H:=Option.bind_eq_some_iff.mp H;obtain ⟨⟨t1009,t1010,t1011⟩,A350,H⟩:=H;replace H:((spec_l1Cur_lashRules.f l0 t1010 t1011).bind fun bt1012=>(some (t970,t1009,bt1012.1,bt1012.2.1,bt1012.2.2.1))) = some (r1,r2,r3,r4,r5):=H
      have A35:=zM A350;clear A350;replace H:=Option.bind_eq_some_iff.mp H;obtain ⟨⟨t1012,t1013,t1014,t1015,t1016⟩,A360,H⟩:=H;replace H:(some (t970,t1009,t1012,t1013,t1014)) = some (r1,r2,r3,r4,r5):=H
      have A36:=zM A360;clear A360;simp only [Option.some.injEq,Prod.mk.injEq] at H
      obtain ⟨rfl,rfl,rfl,rfl,rfl⟩:=H;go_wp2_with (first|((with_reducible refine gate_dst (N:=24) rfl ?_);refine Kd.R_lit (Kd.int .i64) _ 3 ?hg (N:=24) ?hd (xs:=([1,5000,20000,32000,0,32001]:List Int)) (inner:=[.int .i64 1,.int .i64 5000,.int .i64 20000,.int .i64 32000,.int .i64 0,.int .i64 32001]) (ok:=fun _=>True) (okp:=fun _=>True) ?hr ?hp (fun _ hk=>hk) trivial (Below.refl _ _) (Nat.le_refl _) (by simp) ?_;(case hd=>rfl);(case hg=>rfl);(case hr=>first|(go_simp;done)|(go_simp;rfl));(case hp=>exact (Reps.one (show Kd.M (Kd.int .i64) _ _ _ 1 [.int .i64 1] from rfl) (Reps.one (show Kd.M (Kd.int .i64) _ _ _ 5000 [.int .i64 5000] from rfl) (Reps.one (show Kd.M (Kd.int .i64) _ _ _ 20000 [.int .i64 20000] from rfl) (Reps.one (show Kd.M (Kd.int .i64) _ _ _ 32000 [.int .i64 32000] from rfl) (Reps.one (show Kd.M (Kd.int .i64) _ _ _ 0 [.int .i64 0] from rfl) (Reps.one (show Kd.M (Kd.int .i64) _ _ _ 32001 [.int .i64 32001] from rfl) (Reps.none _ _))))))));intro v1000 w37 ho38 hb hg_ hnew_;clear hg_ hnew_;(first|rw [← Ny999.out] at ho38|(simp only [Int.reduceToNat] at ho38;rw [← Ny999.out] at ho38));have n0_:=zM (Kd.R_elder' (by (with_reducible repeat (first|apply zA|apply zB|apply zC));exact HO_6.out) (Kd.R_base ho38) hb);have n1_:=zM (Kd.R_lower (Kd.R_new' ho38 (Kd.R_lt (by (with_reducible repeat (first|apply zA|apply zB|apply zC));exact HO_6.out))) (zR (by repeat (first|(with_reducible first|exact HB.out|apply zD|apply zE|apply zF|refine below_set ?_ (IsS77.ge HI969.out)|refine below_set ?_ GE968.out)|exact HB.out))));have n2_:=zM (blk_below (g:=gb968) (o := .cells #[.int .i64 0,.int .i64 0,.int .i64 0] 28 (0,0)) (by (with_reducible repeat (first|refine zJ ?_ _|refine zK ?_|refine zL ?_ _));exact BK968.out) hb);have n3_:=zM (IsS77.below (by repeat (first|(with_reducible first|exact HI969.out|apply IsS77.alloc|apply IsS77.drewN|apply IsS77.drew|apply IsS77.set_1|apply IsS77.set_2|apply IsS77.far (hne:=NB969_968.out))|exact HI969.out)) hb);have n4_:=zM (zQ (by repeat (first|(with_reducible first|exact HB.out|apply zD|apply zE|apply zF|refine below_set ?_ (IsS77.ge HI969.out)|refine below_set ?_ GE968.out)|exact HB.out)) hb);clear HO_6;clear BK968;clear HI969;clear HB;have HO_6:=n0_;have HO1001:=n1_;have BK968:=n2_;have HI969:=n3_;have HB:=n4_;clear n0_ n1_ n2_ n3_ n4_;clear hb ho38)|((with_reducible refine gate_callee (f:=71) rfl ?_);refine goesL_ (some 26) rfl rfl Try.func71 (by kernel_rfl) rfl #[.pointer (some ⟨gb969,0,none⟩),.int .i64 24] rfl (by (try simp only [List.map_toArray,List.map_cons,List.map_nil]);first|done|rfl|(simp only [List.length_drop,List.length_take];rfl)) ?_;(with_reducible refine (spec_l1Cur_pick.calls gb969 l0 x970001_2 x970002_2 24 t1002 t1003 t1004 w _ ?side1 ?side2 A31.out).mono ?_);(case side1=>repeat (first|(with_reducible first|exact HI969.out|apply IsS77.alloc|apply IsS77.drewN|apply IsS77.drew|apply IsS77.set_1|apply IsS77.set_2|apply IsS77.far (hne:=NB969_968.out))|exact HI969.out));(case side2=>repeat (first|(with_reducible first|exact HB.out|apply zD|apply zE|apply zF|refine below_set ?_ (IsS77.ge HI969.out)|refine below_set ?_ GE968.out)|exact HB.out));rintro e w39 ⟨rfl,hi,hb,hk⟩;refine ⟨_,rfl,?_⟩;have n0_:=zM (Kd.R_mono (Kd.R_keep (IsS77.apart (show IsS77 w _ gb969 l0 x970001_2 x970002_2 from by repeat (first|(with_reducible first|exact HI969.out|apply IsS77.alloc|apply IsS77.drewN|apply IsS77.drew|apply IsS77.set_1|apply IsS77.set_2|apply IsS77.far (hne:=NB969_968.out))|exact HI969.out)) (by (with_reducible repeat (first|apply zA|apply zB|apply zC));exact HO_6.out) (by decide)) hk (fun _ h=>h.2)) (fun _ h=>h.1));have n1_:=zM (KeepBut.blk hk (g':=gb968) (o := .cells #[.int .i64 0,.int .i64 0,.int .i64 0] 28 (0,0)) (by (with_reducible repeat (first|refine zJ ?_ _|refine zK ?_|refine zL ?_ _));exact BK968.out) NB968_969.out (by simp));have n2_:=zM (Kd.R_mono (Kd.R_keep (IsS77.apart (show IsS77 w _ gb969 l0 x970001_2 x970002_2 from by repeat (first|(with_reducible first|exact HI969.out|apply IsS77.alloc|apply IsS77.drewN|apply IsS77.drew|apply IsS77.set_1|apply IsS77.set_2|apply IsS77.far (hne:=NB969_968.out))|exact HI969.out)) (by (with_reducible repeat (first|apply zA|apply zB|apply zC));exact HO1001.out) (by decide)) hk (fun _ h=>h.2)) (fun _ h=>h.1));have n3_:=zM (hb);have n4_:=zM (hi);clear HO_6;clear BK968;clear HO1001;clear HB;clear HI969;have HO_6:=n0_;have BK968:=n1_;have HO1001:=n2_;have HB:=n3_;have HI969:=n4_;clear n0_ n1_ n2_ n3_ n4_;(try clear hb);(try clear hb2);(try clear hk);(try clear hi);obtain ⟨Ao41,co41,eo41⟩:=Kd.R_slice HO1001.out;subst eo41;have q40:((ji32):Int) ≤ ((y999.length:Int):Int):=of_decide_eq_true (by first|(with_reducible assumption)|assumption);obtain ⟨i040,hi040,_,hsz40,_⟩:=info_parts info3;have hroom40:y999.length ≤ co41:=(zN HO1001.out).2.1;have hC40:Kd.C (Kd.int .i64) _ Ao41 y999.length y999:=(zN HO1001.out).2.2;have hcut40:=cut_to (P:=Try.prog) 22 3 .i64 Try.underlying22 hi040 Ao41 y999.length co41 (ji32) (of_decide_eq_true (by first|(with_reducible assumption)|assumption)) q40 hroom40;have hr40:=Kd.C_take (m:=((ji32):Int).toNat) hC40 (by omega);have hy40:y1005.length = ((ji32):Int).toNat:=(by rw [Ny1005.out,List.length_take];omega);rw [← Ny1005.out] at hr40;rw [← hy40] at hcut40;have HR1008:=zM hr40;have HC1008:=zM (show y1005.length ≤ co41 from by omega);clear hr40 hC40 hroom40 hi040 hsz40;have KY40:=zM hy40;clear hy40;have KL40:=zM (show ((ji32):Int).toNat ≤ y999.length from by omega);replace q40:=eq_true q40)|((with_reducible refine gate_callee (f:=72) rfl ?_);refine goesL_ (some 30) rfl rfl Try.func72 (by kernel_rfl) rfl #[.pointer (some ⟨gb969,0,none⟩),.slice Ao41 y1005.length co41] rfl (by (try simp only [List.map_toArray,List.map_cons,List.map_nil]);first|done|rfl|(simp only [List.length_drop,List.length_take];rfl)) ?_;(with_reducible refine (spec_l1Cur_among.calls gb969 l0 t1003 t1004 _ _ y1005 t1009 t1010 t1011 w _ ?side1 ?side2 ?side3 ?side4 ?side5 A35.out).mono ?_);(case side1=>repeat (first|(with_reducible first|exact HI969.out|apply IsS77.alloc|apply IsS77.drewN|apply IsS77.drew|apply IsS77.set_1|apply IsS77.set_2|apply IsS77.far (hne:=NB969_968.out))|exact HI969.out));(case side2=>repeat (first|(with_reducible first|exact HB.out|apply zD|apply zE|apply zF|refine below_set ?_ (IsS77.ge HI969.out)|refine below_set ?_ GE968.out)|exact HB.out));(case side3=>repeat (first|exact (by repeat (first|(with_reducible exact HR1008.out)|(with_reducible first|refine zG ?_ _|refine zH ?_ _|refine zI ?_)|exact HR1008.out))|(with_reducible first|refine zG ?_ _|refine zH ?_ _|refine zI ?_)));(case side4=>exact HC1008.out);(case side5=>exact fun ad he _ hc=>(IsS77.own_ne HI969.out HO1001.out (by decide)) (by rw [he];simp [Value.ownBlock,hc]));rintro e w42 ⟨rfl,hi,hb,hk⟩;refine ⟨_,rfl,?_⟩;have n0_:=zM (Kd.R_mono (Kd.R_keep (IsS77.apart (show IsS77 w _ gb969 l0 t1003 t1004 from by repeat (first|(with_reducible first|exact HI969.out|apply IsS77.alloc|apply IsS77.drewN|apply IsS77.drew|apply IsS77.set_1|apply IsS77.set_2|apply IsS77.far (hne:=NB969_968.out))|exact HI969.out)) (by (with_reducible repeat (first|apply zA|apply zB|apply zC));exact HO_6.out) (by decide)) hk (fun _ h=>h.2)) (fun _ h=>h.1));have n1_:=zM (KeepBut.blk hk (g':=gb968) (o := .cells #[.int .i64 0,.int .i64 0,.int .i64 0] 28 (0,0)) (by (with_reducible repeat (first|refine zJ ?_ _|refine zK ?_|refine zL ?_ _));exact BK968.out) NB968_969.out (by simp));have n2_:=zM (Kd.R_mono (Kd.R_keep (IsS77.apart (show IsS77 w _ gb969 l0 t1003 t1004 from by repeat (first|(with_reducible first|exact HI969.out|apply IsS77.alloc|apply IsS77.drewN|apply IsS77.drew|apply IsS77.set_1|apply IsS77.set_2|apply IsS77.far (hne:=NB969_968.out))|exact HI969.out)) (by (with_reducible repeat (first|apply zA|apply zB|apply zC));exact HO1001.out) (by decide)) hk (fun _ h=>h.2)) (fun _ h=>h.1));have n3_:=zM (hb);have n4_:=zM (hi);clear HO_6;clear BK968;clear HO1001;clear HB;clear HI969;have HO_6:=n0_;have BK968:=n1_;have HO1001:=n2_;have HB:=n3_;have HI969:=n4_;clear n0_ n1_ n2_ n3_ n4_;(try clear hb);(try clear hb2);(try clear hk);(try clear hi))|((with_reducible refine gate_callee (f:=75) rfl ?_);refine goesL_ (some 32) rfl rfl Try.func75 (by kernel_rfl) rfl #[.pointer (some ⟨gb969,0,none⟩)] rfl (by (try simp only [List.map_toArray,List.map_cons,List.map_nil]);first|done|rfl|(simp only [List.length_drop,List.length_take];rfl)) ?_;(with_reducible refine (spec_l1Cur_lashRules.calls gb969 l0 t1010 t1011 t1012 t1013 t1014 t1015 t1016 w _ ?side1 ?side2 A36.out).mono ?_);(case side1=>repeat (first|(with_reducible first|exact HI969.out|apply IsS77.alloc|apply IsS77.drewN|apply IsS77.drew|apply IsS77.set_1|apply IsS77.set_2|apply IsS77.far (hne:=NB969_968.out))|exact HI969.out));(case side2=>repeat (first|(with_reducible first|exact HB.out|apply zD|apply zE|apply zF|refine below_set ?_ (IsS77.ge HI969.out)|refine below_set ?_ GE968.out)|exact HB.out));rintro e w43 ⟨rfl,hi,hb,hk⟩;refine ⟨_,rfl,?_⟩;have n0_:=zM (Kd.R_mono (Kd.R_keep (IsS77.apart (show IsS77 w _ gb969 l0 t1010 t1011 from by repeat (first|(with_reducible first|exact HI969.out|apply IsS77.alloc|apply IsS77.drewN|apply IsS77.drew|apply IsS77.set_1|apply IsS77.set_2|apply IsS77.far (hne:=NB969_968.out))|exact HI969.out)) (by (with_reducible repeat (first|apply zA|apply zB|apply zC));exact HO_6.out) (by decide)) hk (fun _ h=>h.2)) (fun _ h=>h.1));have n1_:=zM (KeepBut.blk hk (g':=gb968) (o := .cells #[.int .i64 0,.int .i64 0,.int .i64 0] 28 (0,0)) (by (with_reducible repeat (first|refine zJ ?_ _|refine zK ?_|refine zL ?_ _));exact BK968.out) NB968_969.out (by simp));have n2_:=zM (Kd.R_mono (Kd.R_keep (IsS77.apart (show IsS77 w _ gb969 l0 t1010 t1011 from by repeat (first|(with_reducible first|exact HI969.out|apply IsS77.alloc|apply IsS77.drewN|apply IsS77.drew|apply IsS77.set_1|apply IsS77.set_2|apply IsS77.far (hne:=NB969_968.out))|exact HI969.out)) (by (with_reducible repeat (first|apply zA|apply zB|apply zC));exact HO1001.out) (by decide)) hk (fun _ h=>h.2)) (fun _ h=>h.1));have n3_:=zM (hb);have n4_:=zM (hi);clear HO_6;clear BK968;clear HO1001;clear HB;clear HI969;have HO_6:=n0_;have BK968:=n1_;have HO1001:=n2_;have HB:=n3_;have HI969:=n4_;clear n0_ n1_ n2_ n3_ n4_;(try clear hb);(try clear hb2);(try clear hk);(try clear hi);have hnb44:=NB968_969.out;have hnc44:=NB969_968.out;have hcz45_0:w43.cell? ⟨gb968,0,none⟩ = some (.int .i64 0):=(blk_cell BK968.out 0).trans rfl;have hcz45_1:w43.cell? ⟨gb968,1,none⟩ = some (.int .i64 0):=(blk_cell BK968.out 1).trans rfl;have hcz45_2:w43.cell? ⟨gb968,2,none⟩ = some (.int .i64 0):=(blk_cell BK968.out 2).trans rfl;have hfz45_0:=blk_frozen BK968.out 0;have hfz45_1:=blk_frozen BK968.out 1;have hfz45_2:=blk_frozen BK968.out 2))
      refine bodyPost_ret (results_list (rs:=[.tmp 2,.tmp 3,.cell 4 28]) rfl (by simp) (.tmp (.tmp (.cell gb968 28 #[.int .i64 t1012,.int .i64 t1013,.int .i64 t1014] (0,0) _ rfl (by (with_reducible repeat (first|refine zJ ?_ _|refine zK ?_|refine zL ?_ _));refine blk_put (cs := #[.int .i64 t1012,.int .i64 t1013,.int .i64 0]) ?_ 2 _ rfl;(with_reducible repeat (first|refine zJ ?_ _|refine zK ?_|refine zL ?_ _));refine blk_put (cs := #[.int .i64 t1012,.int .i64 0,.int .i64 0]) ?_ 1 _ rfl;(with_reducible repeat (first|refine zJ ?_ _|refine zK ?_|refine zL ?_ _));refine blk_put (cs := #[.int .i64 0,.int .i64 0,.int .i64 0]) ?_ 0 _ rfl;(with_reducible repeat (first|refine zJ ?_ _|refine zK ?_|refine zL ?_ _));exact BK968.out) Try.underlying28 rfl (by kernel_rfl) .nil)))) rfl ?_
      exact ⟨_,by first|rfl|(simp [errW_none,errW_some] <;> rfl)|(simp only [← hji32];first|rfl|(simp [errW_none,errW_some] <;> rfl))|(simp [*,errW_none,errW_some] <;> rfl),by (with_reducible repeat (first|apply zA|apply zB|apply zC));exact Kd.R_mono (Kd.R_far (p:=⟨gb968,2,none⟩) (Kd.R_far (p:=⟨gb968,1,none⟩) (Kd.R_far (p:=⟨gb968,0,none⟩) (Kd.R_types HO_6.out BK968.out (by decide)) (fun _ hk=>hk.2) (.int .i64 t1012)) (fun _ hk=>hk.2) (.int .i64 t1013)) (fun _ hk=>hk.2) (.int .i64 t1014)) (fun _ hk=>trivial),by repeat (first|(with_reducible first|exact HB.out|apply zD|apply zE|apply zF|refine below_set ?_ (IsS77.ge HI969.out)|refine below_set ?_ GE968.out)|exact HB.out)⟩
     ·rw [if_neg c34] at H
      exact absurd H (by simp)
    ·rw [if_neg c33] at H
     exact absurd H (by simp)



/-! ### impl_ColumnWeight: function 41 -/
def impl_ColumnWeight.f (k:Nat) (l0:List Int) (a1_0:Int) (a1_1:Int) (a1_2:Int):Option (Int × Bool × Bool):=(impl_isLashed.f l0 a1_0 a1_1 a1_2).bind fun t1018=>(if t1018 = true then ((impl_sumOf.f k l0).bind fun t1019=>(some (t1019,decide (t1019 ≤ a1_0),true))) else (some (0,false,false)))
set_option maxHeartbeats 8000000 in
set_option maxRecDepth 100000 in
theorem impl_ColumnWeight.calls (k:Nat) (A0:Option Addr) (c0:Nat) (l0:List Int) (a1_0:Int) (a1_1:Int) (a1_2:Int) (r1:Int) (r2:Bool) (r3:Bool) (w:World) (hr0:Kd.C (Kd.int .i64) w A0 l0.length l0) (hc0:l0.length ≤ c0) (h:impl_ColumnWeight.f k l0 a1_0 a1_1 a1_2 = some (r1,r2,r3)) :
  Calls Try.prog 41 #[.slice A0 l0.length c0,.agg #[.int .i64 a1_0,.int .i64 a1_1,.int .i64 a1_2]] w fun e w'=>e = .returned (.tuple #[.int .i64 r1,.bool r2,.bool r3]) ∧ Below w.heap.size w w':=by
 have hu28:=Try.underlying28;have HR0:=zM hr0;have HC0:=zM hc0;clear hr0 hc0;have HB:=zM (Below.refl w.heap.size w);have H:((impl_isLashed.f l0 a1_0 a1_1 a1_2).bind fun t1018=>(if t1018 = true then ((impl_sumOf.f k l0).bind fun t1019=>(some (t1019,decide (t1019 ≤ a1_0),true))) else (some (0,false,false)))) = some (r1,r2,r3):=h
 clear h;replace H:=Option.bind_eq_some_iff.mp H;obtain ⟨t1018,A30,H⟩:=H;replace H:(if t1018 = true then ((impl_sumOf.f k l0).bind fun t1019=>(some (t1019,decide (t1019 ≤ a1_0),true))) else (some (0,false,false))) = some (r1,r2,r3):=H
 have A3:=zM A30;clear A30;by_cases c4:t1018 = true
 ·subst c4
  have H1:((impl_sumOf.f k l0).bind fun t1019=>(some (t1019,decide (t1019 ≤ a1_0),true))) = some (r1,r2,r3):=by rw [if_pos rfl] at H;exact H
  clear H;have H:=H1;clear H1;replace H:=Option.bind_eq_some_iff.mp H;obtain ⟨t1019,A50,H⟩:=H;replace H:(some (t1019,decide (t1019 ≤ a1_0),true)) = some (r1,r2,r3):=H
  have A5:=zM A50;clear A50;simp only [Option.some.injEq,Prod.mk.injEq] at H
  obtain ⟨rfl,rfl,rfl⟩:=H;go_enter Try.func41,Try.ntmps41
  go_wp2_with (first|((with_reducible refine gate_dst (N:=3) rfl ?_);refine box_event ?hg (N:=3) ?hd (cs := #[.int .i64 a1_0,.int .i64 a1_1,.int .i64 a1_2]) (t:=28) ?hr ?_;(case hd=>rfl);(case hg=>rfl);(case hr=>first|(go_simp;done)|(go_simp;rfl));intro gb1017 hg w6 hbox hb;have n0_:=zM (zQ (by repeat (first|(with_reducible first|exact HB.out|apply zD|apply zE|apply zF)|exact HB.out)) hb);have n1_:=zM (hbox);have n2_:=zM ((by rw [hg];exact (zR (by repeat (first|(with_reducible first|exact HB.out|apply zD|apply zE|apply zF)|exact HB.out))):w.heap.size ≤ gb1017));have n3_:=zM ((by rw [hg];exact (zR (by repeat (first|(with_reducible first|exact HB.out|apply zD|apply zE|apply zF)|exact HB.out))):w.heap.size ≤ gb1017));clear HB;have HB:=n0_;have BK1017:=n1_;have GW1017:=n2_;have GE1017:=n3_;clear n0_ n1_ n2_ n3_;clear hb hbox hg;have hcz7_0:w6.cell? ⟨gb1017,0,none⟩ = some (.int .i64 a1_0):=(blk_cell BK1017.out 0).trans rfl;have hcz7_1:w6.cell? ⟨gb1017,1,none⟩ = some (.int .i64 a1_1):=(blk_cell BK1017.out 1).trans rfl;have hcz7_2:w6.cell? ⟨gb1017,2,none⟩ = some (.int .i64 a1_2):=(blk_cell BK1017.out 2).trans rfl;have hfz7_0:=blk_frozen BK1017.out 0;have hfz7_1:=blk_frozen BK1017.out 1;have hfz7_2:=blk_frozen BK1017.out 2)|(go_at_call 47;(with_reducible refine (impl_isLashed.calls _ _ l0 a1_0 a1_1 a1_2 true _ ?side1 ?side2 A3.out).mono ?_);(case side1=>repeat (first|exact (zO HR0.out HB.out)|(with_reducible first|refine zG ?_ _|refine zH ?_ _|refine zI ?_)));(case side2=>exact HC0.out);rintro e w8 ⟨rfl,hb⟩;have n0_:=zM (blk_below (g:=gb1017) (o := .cells #[.int .i64 a1_0,.int .i64 a1_1,.int .i64 a1_2] 28 (0,0)) (by (with_reducible repeat (first|refine zJ ?_ _|refine zK ?_|refine zL ?_ _));exact BK1017.out) hb);have n1_:=zM (zQ (by repeat (first|(with_reducible first|exact HB.out|apply zD|apply zE|apply zF|refine below_set ?_ GE1017.out)|exact HB.out)) hb);clear BK1017;clear HB;have BK1017:=n0_;have HB:=n1_;clear n0_ n1_;(try clear hb);(try clear hb2);(try clear hk);(try clear hi))|(go_at_call 53;(with_reducible refine (impl_sumOf.calls k _ _ l0 t1019 _ ?side1 ?side2 A5.out).mono ?_);(case side1=>repeat (first|exact (zO HR0.out HB.out)|(with_reducible first|refine zG ?_ _|refine zH ?_ _|refine zI ?_)));(case side2=>exact HC0.out);rintro e w' ⟨rfl,⟨nd,rfl⟩⟩;(try first|exact ⟨rfl,_,World.drewN_drewN _ _ _⟩|exact ⟨rfl,_,zW _ _ _ _⟩);have hcz9_0:w8.cell? ⟨gb1017,0,none⟩ = some (.int .i64 a1_0):=(blk_cell BK1017.out 0).trans rfl;have hcz9_1:w8.cell? ⟨gb1017,1,none⟩ = some (.int .i64 a1_1):=(blk_cell BK1017.out 1).trans rfl;have hcz9_2:w8.cell? ⟨gb1017,2,none⟩ = some (.int .i64 a1_2):=(blk_cell BK1017.out 2).trans rfl;have hfz9_0:=blk_frozen BK1017.out 0;have hfz9_1:=blk_frozen BK1017.out 1;have hfz9_2:=blk_frozen BK1017.out 2))
  repeat (go_quiet (first|((with_reducible refine gate_dst (N:=3) rfl ?_);refine box_event ?hg (N:=3) ?hd (cs := #[.int .i64 a1_0,.int .i64 a1_1,.int .i64 a1_2]) (t:=28) ?hr ?_;(case hd=>rfl);(case hg=>rfl);(case hr=>first|(go_simp;done)|(go_simp;rfl));intro gb1017 hg w6 hbox hb;have n0_:=zM (zQ (by repeat (first|(with_reducible first|exact HB.out|apply zD|apply zE|apply zF)|exact HB.out)) hb);have n1_:=zM (hbox);have n2_:=zM ((by rw [hg];exact (zR (by repeat (first|(with_reducible first|exact HB.out|apply zD|apply zE|apply zF)|exact HB.out))):w.heap.size ≤ gb1017));have n3_:=zM ((by rw [hg];exact (zR (by repeat (first|(with_reducible first|exact HB.out|apply zD|apply zE|apply zF)|exact HB.out))):w.heap.size ≤ gb1017));clear HB;have HB:=n0_;have BK1017:=n1_;have GW1017:=n2_;have GE1017:=n3_;clear n0_ n1_ n2_ n3_;clear hb hbox hg;have hcz7_0:w6.cell? ⟨gb1017,0,none⟩ = some (.int .i64 a1_0):=(blk_cell BK1017.out 0).trans rfl;have hcz7_1:w6.cell? ⟨gb1017,1,none⟩ = some (.int .i64 a1_1):=(blk_cell BK1017.out 1).trans rfl;have hcz7_2:w6.cell? ⟨gb1017,2,none⟩ = some (.int .i64 a1_2):=(blk_cell BK1017.out 2).trans rfl;have hfz7_0:=blk_frozen BK1017.out 0;have hfz7_1:=blk_frozen BK1017.out 1;have hfz7_2:=blk_frozen BK1017.out 2)|(go_at_call 47;(with_reducible refine (impl_isLashed.calls _ _ l0 a1_0 a1_1 a1_2 true _ ?side1 ?side2 A3.out).mono ?_);(case side1=>repeat (first|exact (zO HR0.out HB.out)|(with_reducible first|refine zG ?_ _|refine zH ?_ _|refine zI ?_)));(case side2=>exact HC0.out);rintro e w8 ⟨rfl,hb⟩;have n0_:=zM (blk_below (g:=gb1017) (o := .cells #[.int .i64 a1_0,.int .i64 a1_1,.int .i64 a1_2] 28 (0,0)) (by (with_reducible repeat (first|refine zJ ?_ _|refine zK ?_|refine zL ?_ _));exact BK1017.out) hb);have n1_:=zM (zQ (by repeat (first|(with_reducible first|exact HB.out|apply zD|apply zE|apply zF|refine below_set ?_ GE1017.out)|exact HB.out)) hb);clear BK1017;clear HB;have BK1017:=n0_;have HB:=n1_;clear n0_ n1_;(try clear hb);(try clear hb2);(try clear hk);(try clear hi))|(go_at_call 53;(with_reducible refine (impl_sumOf.calls k _ _ l0 t1019 _ ?side1 ?side2 A5.out).mono ?_);(case side1=>repeat (first|exact (zO HR0.out HB.out)|(with_reducible first|refine zG ?_ _|refine zH ?_ _|refine zI ?_)));(case side2=>exact HC0.out);rintro e w' ⟨rfl,⟨nd,rfl⟩⟩;(try first|exact ⟨rfl,_,World.drewN_drewN _ _ _⟩|exact ⟨rfl,_,zW _ _ _ _⟩);have hcz9_0:w8.cell? ⟨gb1017,0,none⟩ = some (.int .i64 a1_0):=(blk_cell BK1017.out 0).trans rfl;have hcz9_1:w8.cell? ⟨gb1017,1,none⟩ = some (.int .i64 a1_1):=(blk_cell BK1017.out 1).trans rfl;have hcz9_2:w8.cell? ⟨gb1017,2,none⟩ = some (.int .i64 a1_2):=(blk_cell BK1017.out 2).trans rfl;have hfz9_0:=blk_frozen BK1017.out 0;have hfz9_1:=blk_frozen BK1017.out 1;have hfz9_2:=blk_frozen BK1017.out 2));try go_wp2_with (first|((with_reducible refine gate_dst (N:=3) rfl ?_);refine box_event ?hg (N:=3) ?hd (cs := #[.int .i64 a1_0,.int .i64 a1_1,.int .i64 a1_2]) (t:=28) ?hr ?_;(case hd=>rfl);(case hg=>rfl);(case hr=>first|(go_simp;done)|(go_simp;rfl));intro gb1017 hg w6 hbox hb;have n0_:=zM (zQ (by repeat (first|(with_reducible first|exact HB.out|apply zD|apply zE|apply zF)|exact HB.out)) hb);have n1_:=zM (hbox);have n2_:=zM ((by rw [hg];exact (zR (by repeat (first|(with_reducible first|exact HB.out|apply zD|apply zE|apply zF)|exact HB.out))):w.heap.size ≤ gb1017));have n3_:=zM ((by rw [hg];exact (zR (by repeat (first|(with_reducible first|exact HB.out|apply zD|apply zE|apply zF)|exact HB.out))):w.heap.size ≤ gb1017));clear HB;have HB:=n0_;have BK1017:=n1_;have GW1017:=n2_;have GE1017:=n3_;clear n0_ n1_ n2_ n3_;clear hb hbox hg;have hcz7_0:w6.cell? ⟨gb1017,0,none⟩ = some (.int .i64 a1_0):=(blk_cell BK1017.out 0).trans rfl;have hcz7_1:w6.cell? ⟨gb1017,1,none⟩ = some (.int .i64 a1_1):=(blk_cell BK1017.out 1).trans rfl;have hcz7_2:w6.cell? ⟨gb1017,2,none⟩ = some (.int .i64 a1_2):=(blk_cell BK1017.out 2).trans rfl;have hfz7_0:=blk_frozen BK1017.out 0;have hfz7_1:=blk_frozen BK1017.out 1;have hfz7_2:=blk_frozen BK1017.out 2)|(go_at_call 47;(with_reducible refine (impl_isLashed.calls _ _ l0 a1_0 a1_1 a1_2 true _ ?side1 ?side2 A3.out).mono ?_);(case side1=>repeat (first|exact (zO HR0.out HB.out)|(with_reducible first|refine zG ?_ _|refine zH ?_ _|refine zI ?_)));(case side2=>exact HC0.out);rintro e w8 ⟨rfl,hb⟩;have n0_:=zM (blk_below (g:=gb1017) (o := .cells #[.int .i64 a1_0,.int .i64 a1_1,.int .i64 a1_2] 28 (0,0)) (by (with_reducible repeat (first|refine zJ ?_ _|refine zK ?_|refine zL ?_ _));exact BK1017.out) hb);have n1_:=zM (zQ (by repeat (first|(with_reducible first|exact HB.out|apply zD|apply zE|apply zF|refine below_set ?_ GE1017.out)|exact HB.out)) hb);clear BK1017;clear HB;have BK1017:=n0_;have HB:=n1_;clear n0_ n1_;(try clear hb);(try clear hb2);(try clear hk);(try clear hi))|(go_at_call 53;(with_reducible refine (impl_sumOf.calls k _ _ l0 t1019 _ ?side1 ?side2 A5.out).mono ?_);(case side1=>repeat (first|exact (zO HR0.out HB.out)|(with_reducible first|refine zG ?_ _|refine zH ?_ _|refine zI ?_)));(case side2=>exact HC0.out);rintro e w' ⟨rfl,⟨nd,rfl⟩⟩;(try first|exact ⟨rfl,_,World.drewN_drewN _ _ _⟩|exact ⟨rfl,_,zW _ _ _ _⟩);have hcz9_0:w8.cell? ⟨gb1017,0,none⟩ = some (.int .i64 a1_0):=(blk_cell BK1017.out 0).trans rfl;have hcz9_1:w8.cell? ⟨gb1017,1,none⟩ = some (.int .i64 a1_1):=(blk_cell BK1017.out 1).trans rfl;have hcz9_2:w8.cell? ⟨gb1017,2,none⟩ = some (.int .i64 a1_2):=(blk_cell BK1017.out 2).trans rfl;have hfz9_0:=blk_frozen BK1017.out 0;have hfz9_1:=blk_frozen BK1017.out 1;have hfz9_2:=blk_frozen BK1017.out 2)))
  go_ret3
  exact ⟨by first|rfl|(simp [errW_none,errW_some] <;> rfl)|(simp [*,errW_none,errW_some] <;> rfl),by repeat (first|(with_reducible first|exact HB.out|apply zD|apply zE|apply zF|refine below_set ?_ GE1017.out)|exact HB.out)⟩
 ·replace c4:=Bool.eq_false_iff.mpr c4
  subst c4;have H1:(some (0,false,false)) = some (r1,r2,r3):=by rw [if_neg (show ¬ (false = true) by decide)] at H;exact H
  clear H;have H:=H1;clear H1;simp only [Option.some.injEq,Prod.mk.injEq] at H
  obtain ⟨rfl,rfl,rfl⟩:=H;go_enter Try.func41,Try.ntmps41
  go_wp2_with (first|((with_reducible refine gate_dst (N:=3) rfl ?_);refine box_event ?hg (N:=3) ?hd (cs := #[.int .i64 a1_0,.int .i64 a1_1,.int .i64 a1_2]) (t:=28) ?hr ?_;(case hd=>rfl);(case hg=>rfl);(case hr=>first|(go_simp;done)|(go_simp;rfl));intro gb1017 hg w10 hbox hb;have n0_:=zM (zQ (by repeat (first|(with_reducible first|exact HB.out|apply zD|apply zE|apply zF)|exact HB.out)) hb);have n1_:=zM (hbox);have n2_:=zM ((by rw [hg];exact (zR (by repeat (first|(with_reducible first|exact HB.out|apply zD|apply zE|apply zF)|exact HB.out))):w.heap.size ≤ gb1017));have n3_:=zM ((by rw [hg];exact (zR (by repeat (first|(with_reducible first|exact HB.out|apply zD|apply zE|apply zF)|exact HB.out))):w.heap.size ≤ gb1017));clear HB;have HB:=n0_;have BK1017:=n1_;have GW1017:=n2_;have GE1017:=n3_;clear n0_ n1_ n2_ n3_;clear hb hbox hg;have hcz11_0:w10.cell? ⟨gb1017,0,none⟩ = some (.int .i64 a1_0):=(blk_cell BK1017.out 0).trans rfl;have hcz11_1:w10.cell? ⟨gb1017,1,none⟩ = some (.int .i64 a1_1):=(blk_cell BK1017.out 1).trans rfl;have hcz11_2:w10.cell? ⟨gb1017,2,none⟩ = some (.int .i64 a1_2):=(blk_cell BK1017.out 2).trans rfl;have hfz11_0:=blk_frozen BK1017.out 0;have hfz11_1:=blk_frozen BK1017.out 1;have hfz11_2:=blk_frozen BK1017.out 2)|(go_at_call 47;(with_reducible refine (impl_isLashed.calls _ _ l0 a1_0 a1_1 a1_2 false _ ?side1 ?side2 A3.out).mono ?_);(case side1=>repeat (first|exact (zO HR0.out HB.out)|(with_reducible first|refine zG ?_ _|refine zH ?_ _|refine zI ?_)));(case side2=>exact HC0.out);rintro e w12 ⟨rfl,hb⟩;have n0_:=zM (blk_below (g:=gb1017) (o := .cells #[.int .i64 a1_0,.int .i64 a1_1,.int .i64 a1_2] 28 (0,0)) (by (with_reducible repeat (first|refine zJ ?_ _|refine zK ?_|refine zL ?_ _));exact BK1017.out) hb);have n1_:=zM (zQ (by repeat (first|(with_reducible first|exact HB.out|apply zD|apply zE|apply zF|refine below_set ?_ GE1017.out)|exact HB.out)) hb);clear BK1017;clear HB;have BK1017:=n0_;have HB:=n1_;clear n0_ n1_;(try clear hb);(try clear hb2);(try clear hk);(try clear hi)))
  repeat (go_quiet (first|((with_reducible refine gate_dst (N:=3) rfl ?_);refine box_event ?hg (N:=3) ?hd (cs := #[.int .i64 a1_0,.int .i64 a1_1,.int .i64 a1_2]) (t:=28) ?hr ?_;(case hd=>rfl);(case hg=>rfl);(case hr=>first|(go_simp;done)|(go_simp;rfl));intro gb1017 hg w10 hbox hb;have n0_:=zM (zQ (by repeat (first|(with_reducible first|exact HB.out|apply zD|apply zE|apply zF)|exact HB.out)) hb);have n1_:=zM (hbox);have n2_:=zM ((by rw [hg];exact (zR (by repeat (first|(with_reducible first|exact HB.out|apply zD|apply zE|apply zF)|exact HB.out))):w.heap.size ≤ gb1017));have n3_:=zM ((by rw [hg];exact (zR (by repeat (first|(with_reducible first|exact HB.out|apply zD|apply zE|apply zF)|exact HB.out))):w.heap.size ≤ gb1017));clear HB;have HB:=n0_;have BK1017:=n1_;have GW1017:=n2_;have GE1017:=n3_;clear n0_ n1_ n2_ n3_;clear hb hbox hg;have hcz11_0:w10.cell? ⟨gb1017,0,none⟩ = some (.int .i64 a1_0):=(blk_cell BK1017.out 0).trans rfl;have hcz11_1:w10.cell? ⟨gb1017,1,none⟩ = some (.int .i64 a1_1):=(blk_cell BK1017.out 1).trans rfl;have hcz11_2:w10.cell? ⟨gb1017,2,none⟩ = some (.int .i64 a1_2):=(blk_cell BK1017.out 2).trans rfl;have hfz11_0:=blk_frozen BK1017.out 0;have hfz11_1:=blk_frozen BK1017.out 1;have hfz11_2:=blk_frozen BK1017.out 2)|(go_at_call 47;(with_reducible refine (impl_isLashed.calls _ _ l0 a1_0 a1_1 a1_2 false _ ?side1 ?side2 A3.out).mono ?_);(case side1=>repeat (first|exact (zO HR0.out HB.out)|(with_reducible first|refine zG ?_ _|refine zH ?_ _|refine zI ?_)));(case side2=>exact HC0.out);rintro e w12 ⟨rfl,hb⟩;have n0_:=zM (blk_below (g:=gb1017) (o := .cells #[.int .i64 a1_0,.int .i64 a1_1,.int .i64 a1_2] 28 (0,0)) (by (with_reducible repeat (first|refine zJ ?_ _|refine zK ?_|refine zL ?_ _));exact BK1017.out) hb);have n1_:=zM (zQ (by repeat (first|(with_reducible first|exact HB.out|apply zD|apply zE|apply zF|refine below_set ?_ GE1017.out)|exact HB.out)) hb);clear BK1017;clear HB;have BK1017:=n0_;have HB:=n1_;clear n0_ n1_;(try clear hb);(try clear hb2);(try clear hk);(try clear hi)));try go_wp2_with (first|((with_reducible refine gate_dst (N:=3) rfl ?_);refine box_event ?hg (N:=3) ?hd (cs := #[.int .i64 a1_0,.int .i64 a1_1,.int .i64 a1_2]) (t:=28) ?hr ?_;(case hd=>rfl);(case hg=>rfl);(case hr=>first|(go_simp;done)|(go_simp;rfl));intro gb1017 hg w10 hbox hb;have n0_:=zM (zQ (by repeat (first|(with_reducible first|exact HB.out|apply zD|apply zE|apply zF)|exact HB.out)) hb);have n1_:=zM (hbox);have n2_:=zM ((by rw [hg];exact (zR (by repeat (first|(with_reducible first|exact HB.out|apply zD|apply zE|apply zF)|exact HB.out))):w.heap.size ≤ gb1017));have n3_:=zM ((by rw [hg];exact (zR (by repeat (first|(with_reducible first|exact HB.out|apply zD|apply zE|apply zF)|exact HB.out))):w.heap.size ≤ gb1017));clear HB;have HB:=n0_;have BK1017:=n1_;have GW1017:=n2_;have GE1017:=n3_;clear n0_ n1_ n2_ n3_;clear hb hbox hg;have hcz11_0:w10.cell? ⟨gb1017,0,none⟩ = some (.int .i64 a1_0):=(blk_cell BK1017.out 0).trans rfl;have hcz11_1:w10.cell? ⟨gb1017,1,none⟩ = some (.int .i64 a1_1):=(blk_cell BK1017.out 1).trans rfl;have hcz11_2:w10.cell? ⟨gb1017,2,none⟩ = some (.int .i64 a1_2):=(blk_cell BK1017.out 2).trans rfl;have hfz11_0:=blk_frozen BK1017.out 0;have hfz11_1:=blk_frozen BK1017.out 1;have hfz11_2:=blk_frozen BK1017.out 2)|(go_at_call 47;(with_reducible refine (impl_isLashed.calls _ _ l0 a1_0 a1_1 a1_2 false _ ?side1 ?side2 A3.out).mono ?_);(case side1=>repeat (first|exact (zO HR0.out HB.out)|(with_reducible first|refine zG ?_ _|refine zH ?_ _|refine zI ?_)));(case side2=>exact HC0.out);rintro e w12 ⟨rfl,hb⟩;have n0_:=zM (blk_below (g:=gb1017) (o := .cells #[.int .i64 a1_0,.int .i64 a1_1,.int .i64 a1_2] 28 (0,0)) (by (with_reducible repeat (first|refine zJ ?_ _|refine zK ?_|refine zL ?_ _));exact BK1017.out) hb);have n1_:=zM (zQ (by repeat (first|(with_reducible first|exact HB.out|apply zD|apply zE|apply zF|refine below_set ?_ GE1017.out)|exact HB.out)) hb);clear BK1017;clear HB;have BK1017:=n0_;have HB:=n1_;clear n0_ n1_;(try clear hb);(try clear hb2);(try clear hk);(try clear hi))))
  go_ret3
  exact ⟨by first|rfl|(simp [errW_none,errW_some] <;> rfl)|(simp [*,errW_none,errW_some] <;> rfl),by repeat (first|(with_reducible first|exact HB.out|apply zD|apply zE|apply zF|refine below_set ?_ GE1017.out)|exact HB.out)⟩

end Go.Proofs.Ytcgfedaoimhejaa.G

namespace Go.Proofs.Ytcgfedaoimhejaa.G
open Go.RowKit Go.Proofs.YtcgfedaoimhejaaW.PrintWords Go.Proofs.YtcgfedaoimhejaaW.PrintLast
set_option linter.unusedVariables false
set_option linter.unusedSimpArgs false
/-! Plain laws on printed functions: what holds from some number of rounds on, case by case and loop by loop. -/
theorem Ev.ite {α : Type} {c : Prop} [Decidable c] {A B : Nat → Option α} {r : α} (h1 : c → Ev A r) (h2 : ¬ c → Ev B r) : Ev (fun k=>if c then A k else B k) r:=by
  by_cases h : c
  · simpa only [if_pos h] using h1 h
  · simpa only [if_neg h] using h2 h
theorem Ev.val {α : Type} {v r : α} (h : v = r) : Ev (fun _=>some v) r:=by rw [h];exact Ev.now r
theorem Ev.eq {α : Type} {g : Nat → Option α} {r r' : α} (h : Ev g r) (e : r = r') : Ev g r':=e ▸ h
theorem wrap64_id {x : Int} (h1 : -9223372036854775808 ≤ x) (h2 : x ≤ 9223372036854775807) : wrap64 x = x:=IntWalk.wrap64_in x ⟨h1,h2⟩
/-- What holds of all indices from i up to, and without, n. -/
def All (P : Int → Prop) (i n : Int) : Prop := ∀ j,i ≤ j → j < n → P j
theorem All.end_ (P : Int → Prop) (n : Int) : All P n n:=fun j h1 h2=>by omega
theorem All.step {P : Int → Prop} {i n : Int} (h : i < n) : All P i n ↔ P i ∧ All P (i + 1) n:=by
  constructor
  · intro a
    exact ⟨a i (Int.le_refl _) h,fun j h1 h2=>a j (by omega) h2⟩
  · rintro ⟨p,a⟩ j h1 h2
    by_cases e : j = i
    · rw [e];exact p
    · exact a j (by omega) h2
/-- One of two values, by a statement. -/
noncomputable def chk {β : Type} (p : Prop) (a b : β) : β := @ite β p (Classical.propDecidable p) a b
theorem chk_pos {β : Type} {p : Prop} (h : p) (a b : β) : chk p a b = a:=by unfold chk;exact if_pos h
theorem chk_neg {β : Type} {p : Prop} (h : ¬ p) (a b : β) : chk p a b = b:=by unfold chk;exact if_neg h
theorem chk_congr {β : Type} {p q : Prop} (h : p ↔ q) (a b : β) : chk p a b = chk q a b:=by rw [propext h]
theorem chk_true {p : Prop} : chk p true false = true ↔ p:=by
  by_cases h : p
  · rw [chk_pos h];exact ⟨fun _=>h,fun _=>rfl⟩
  · rw [chk_neg h];exact ⟨(fun e=>by cases e),(fun e=>absurd e h)⟩
theorem chk_and {β : Type} {p q : Prop} (a b : β) : chk p (chk q a b) b = chk (p ∧ q) a b:=by
  by_cases h : p
  · rw [chk_pos h]
    exact chk_congr ⟨fun x=>⟨h,x⟩,fun x=>x.2⟩ _ _
  · rw [chk_neg h,chk_neg (fun x=>h x.1)]
/-- A loop that goes up, any state. -/
theorem Ev.up {σ β : Type} (g : Nat → σ → Int → Option β) (R : σ → Int → β) (I : σ → Int → Prop) (n : Int)
    (hend : ∀ s,I s n → Ev (fun k=>g k s n) (R s n))
    (hstep : ∀ s i,I s i → i < n → (∀ s',I s' (i + 1) → Ev (fun k=>g k s' (i + 1)) (R s' (i + 1))) → Ev (fun k=>g k s i) (R s i)) :
    ∀ s i,I s i → i ≤ n → Ev (fun k=>g k s i) (R s i):=by
  have main : ∀ (d : Nat) s i,I s i → i + d = n → Ev (fun k=>g k s i) (R s i):=by
    intro d
    induction d with
    | zero =>
      intro s i hI hd
      obtain rfl : i = n:=by omega
      exact hend s hI
    | succ d ih=>intro s i hI hd;exact hstep s i hI (by omega) (fun s' hI'=>ih s' (i + 1) hI' (by omega))
  intro s i hI hi
  exact main (n - i).toNat s i hI (by omega)
/-- A loop that tests each index. -/
theorem Ev.check {β : Type} (g : Nat → Int → Option β) (n : Int) (P : Int → Prop) (r0 r1 : β) (i0 : Int)
    (hend : Ev (fun k=>g k n) r0)
    (hstep : ∀ i,i0 ≤ i → i < n → ∀ r,Ev (fun k=>g k (i + 1)) r → Ev (fun k=>g k i) (chk (P i) r r1)) :
    ∀ i,i0 ≤ i → i ≤ n → Ev (fun k=>g k i) (chk (All P i n) r0 r1):=by
  intro i h0 hi
  refine Ev.up (fun k (_ : Unit) i=>g k i) (fun _ i=>chk (All P i n) r0 r1) (fun _ i=>i0 ≤ i) n (fun _ _=>?_) (fun _ i h0 hlt ih=>?_) () i h0 hi
  · rw [chk_pos (All.end_ P n)];exact hend
  · have:=hstep i h0 hlt _ (ih () (by omega))
    rw [chk_and,chk_congr (All.step hlt).symm] at this
    exact this
theorem Ev.upc {β : Type} (g : Nat → Int → Option β) (r : β) (n i0 : Int) (hend : Ev (fun k=>g k n) r) (hstep : ∀ i,i0 ≤ i → i < n → Ev (fun k=>g k (i + 1)) r → Ev (fun k=>g k i) r) :
    ∀ i,i0 ≤ i → i ≤ n → Ev (fun k=>g k i) r:=by
  intro i h0 hi
  exact Ev.up (fun k (_ : Unit) i=>g k i) (fun _ _=>r) (fun _ i=>i0 ≤ i) n (fun _ _=>hend) (fun _ i h0 hlt ih=>hstep i h0 hlt (ih () (by omega))) () i h0 hi
theorem mul_bd {x y A B : Int} (hA : 0 ≤ A) (hB : 0 ≤ B) (h1 : -A ≤ x) (h2 : x ≤ A) (h3 : -B ≤ y) (h4 : y ≤ B) : -(A * B) ≤ x * y ∧ x * y ≤ A * B:=by
  have hx : x.natAbs ≤ A.natAbs:=by omega
  have hy : y.natAbs ≤ B.natAbs:=by omega
  have h:=Nat.mul_le_mul hx hy
  rw [← Int.natAbs_mul,← Int.natAbs_mul] at h
  have hAB : 0 ≤ A * B:=Int.mul_nonneg hA hB
  omega


theorem impl_within_eq (a b c : Int) : impl_within.f a b c = some (decide (b ≤ a ∧ a ≤ c)):=by
  unfold impl_within.f
  split
  · rename_i h;congr 1;simp;omega
  · rename_i h;congr 1;simp;omega
theorem spec_l1In_eq (a b c : Int) : spec_l1In.f a b c = some (decide (b ≤ a ∧ a ≤ c)):=by
  unfold spec_l1In.f
  split
  · rename_i h;congr 1;simp;omega
  · rename_i h;congr 1;simp;omega
end Go.Proofs.Ytcgfedaoimhejaa.G

-- Written by wip/tools/gen.py out of the translation (the kit's printer, one namespace a seat). Lean checks it.
namespace Go.Proofs.Ytcgfedaoimhejaa.G
open Go.RowKit Go.Proofs.YtcgfedaoimhejaaW.PrintWords Go.Proofs.YtcgfedaoimhejaaW.PrintLast Go.Proofs.YtcgfedaoimhejaaW.PrintMore
attribute [local go_sem] max2_int min2_int max_two min_two max_three min_three max_four min_four   -- for this text's walks alone
set_option linter.unusedVariables false
set_option linter.unusedSimpArgs false

/-! ### impl_LashForces: function 15 -/
def impl_LashForces.f (k:Nat) (l0:List Int) (a1_0:Int) (a1_1:Int) (a1_2:Int):Option (List Int × Bool):=(impl_isLashed.f l0 a1_0 a1_1 a1_2).bind fun t163=>(if t163 = true then ((impl_forcesOf.f k l0 a1_0 a1_1 a1_2).bind fun t164=>(some (t164,true))) else (some (([]:List Int),false)))
set_option maxHeartbeats 8000000 in
set_option maxRecDepth 100000 in
theorem impl_LashForces.calls (k:Nat) (A0:Option Addr) (c0:Nat) (l0:List Int) (a1_0:Int) (a1_1:Int) (a1_2:Int) (r1:List Int) (r2:Bool) (w:World) (hr0:Kd.C (Kd.int .i64) w A0 l0.length l0) (hc0:l0.length ≤ c0) (h:impl_LashForces.f k l0 a1_0 a1_1 a1_2 = some (r1,r2)) :
  Calls Try.prog 15 #[.slice A0 l0.length c0,.agg #[.int .i64 a1_0,.int .i64 a1_1,.int .i64 a1_2]] w fun e w' => ∃ v0_:Value,e = .returned (.tuple #[v0_,.bool r2]) ∧ Kd.R (Kd.int .i64) 3 w' w.heap.size (fun _=>True) v0_ r1 ∧ Below w.heap.size w w':=by
 have hu28:=Try.underlying28;have HR0:=zM hr0;have HC0:=zM hc0;clear hr0 hc0;have HB:=zM (Below.refl w.heap.size w);have H:((impl_isLashed.f l0 a1_0 a1_1 a1_2).bind fun t163=>(if t163 = true then ((impl_forcesOf.f k l0 a1_0 a1_1 a1_2).bind fun t164=>(some (t164,true))) else (some (([]:List Int),false)))) = some (r1,r2):=h
 clear h;replace H:=Option.bind_eq_some_iff.mp H;obtain ⟨t163,A30,H⟩:=H;replace H:(if t163 = true then ((impl_forcesOf.f k l0 a1_0 a1_1 a1_2).bind fun t164=>(some (t164,true))) else (some (([]:List Int),false))) = some (r1,r2):=H
 have A3:=zM A30;clear A30;by_cases c4:t163 = true
 ·subst c4
  have H1:((impl_forcesOf.f k l0 a1_0 a1_1 a1_2).bind fun t164=>(some (t164,true))) = some (r1,r2):=by rw [if_pos rfl] at H;exact H
  clear H;have H:=H1;clear H1;replace H:=Option.bind_eq_some_iff.mp H;obtain ⟨t164,A50,H⟩:=H;replace H:(some (t164,true)) = some (r1,r2):=H
  have A5:=zM A50;clear A50;simp only [Option.some.injEq,Prod.mk.injEq] at H
  obtain ⟨rfl,rfl⟩:=H;go_enter Try.func15,Try.ntmps15
  go_wp2_with (first|((with_reducible refine gate_dst (N:=3) rfl ?_);refine box_event ?hg (N:=3) ?hd (cs := #[.int .i64 a1_0,.int .i64 a1_1,.int .i64 a1_2]) (t:=28) ?hr ?_;(case hd=>rfl);(case hg=>rfl);(case hr=>first|(go_simp;done)|(go_simp;rfl));intro gb162 hg w6 hbox hb;have n0_:=zM (zQ (by repeat (first|(with_reducible first|exact HB.out|apply zD|apply zE|apply zF)|exact HB.out)) hb);have n1_:=zM (hbox);have n2_:=zM ((by rw [hg];exact (zR (by repeat (first|(with_reducible first|exact HB.out|apply zD|apply zE|apply zF)|exact HB.out))):w.heap.size ≤ gb162));have n3_:=zM ((by rw [hg];exact (zR (by repeat (first|(with_reducible first|exact HB.out|apply zD|apply zE|apply zF)|exact HB.out))):w.heap.size ≤ gb162));clear HB;have HB:=n0_;have BK162:=n1_;have GW162:=n2_;have GE162:=n3_;clear n0_ n1_ n2_ n3_;clear hb hbox hg;have hcz7_0:w6.cell? ⟨gb162,0,none⟩ = some (.int .i64 a1_0):=(blk_cell BK162.out 0).trans rfl;have hcz7_1:w6.cell? ⟨gb162,1,none⟩ = some (.int .i64 a1_1):=(blk_cell BK162.out 1).trans rfl;have hcz7_2:w6.cell? ⟨gb162,2,none⟩ = some (.int .i64 a1_2):=(blk_cell BK162.out 2).trans rfl;have hfz7_0:=blk_frozen BK162.out 0;have hfz7_1:=blk_frozen BK162.out 1;have hfz7_2:=blk_frozen BK162.out 2)|((with_reducible refine gate_callee (f:=47) rfl ?_);refine goesL_ (some 8) rfl rfl Try.func47 (by kernel_rfl) rfl #[.slice A0 l0.length c0,.agg #[.int .i64 a1_0,.int .i64 a1_1,.int .i64 a1_2]] rfl (by (try simp only [List.map_toArray,List.map_cons,List.map_nil]);first|done|rfl|(simp only [List.length_drop,List.length_take];rfl)) ?_;(with_reducible refine (impl_isLashed.calls _ _ l0 a1_0 a1_1 a1_2 true _ ?side1 ?side2 A3.out).mono ?_);(case side1=>repeat (first|exact (zO HR0.out HB.out)|(with_reducible first|refine zG ?_ _|refine zH ?_ _|refine zI ?_)));(case side2=>exact HC0.out);rintro e w8 ⟨rfl,hb⟩;refine ⟨_,rfl,?_⟩;have n0_:=zM (blk_below (g:=gb162) (o := .cells #[.int .i64 a1_0,.int .i64 a1_1,.int .i64 a1_2] 28 (0,0)) (by (with_reducible repeat (first|refine zJ ?_ _|refine zK ?_|refine zL ?_ _));exact BK162.out) hb);have n1_:=zM (zQ (by repeat (first|(with_reducible first|exact HB.out|apply zD|apply zE|apply zF|refine below_set ?_ GE162.out)|exact HB.out)) hb);clear BK162;clear HB;have BK162:=n0_;have HB:=n1_;clear n0_ n1_;(try clear hb);(try clear hb2);(try clear hk);(try clear hi);have hcz9_0:w8.cell? ⟨gb162,0,none⟩ = some (.int .i64 a1_0):=(blk_cell BK162.out 0).trans rfl;have hcz9_1:w8.cell? ⟨gb162,1,none⟩ = some (.int .i64 a1_1):=(blk_cell BK162.out 1).trans rfl;have hcz9_2:w8.cell? ⟨gb162,2,none⟩ = some (.int .i64 a1_2):=(blk_cell BK162.out 2).trans rfl;have hfz9_0:=blk_frozen BK162.out 0;have hfz9_1:=blk_frozen BK162.out 1;have hfz9_2:=blk_frozen BK162.out 2)|((with_reducible refine gate_callee (f:=48) rfl ?_);refine goesL_ (some 12) rfl rfl Try.func48 (by kernel_rfl) rfl #[.slice A0 l0.length c0,.agg #[.int .i64 a1_0,.int .i64 a1_1,.int .i64 a1_2]] rfl (by (try simp only [List.map_toArray,List.map_cons,List.map_nil]);first|done|rfl|(simp only [List.length_drop,List.length_take];rfl)) ?_;(with_reducible refine (impl_forcesOf.calls k _ _ l0 a1_0 a1_1 a1_2 t164 _ ?side1 ?side2 A5.out).mono ?_);(case side1=>repeat (first|exact (zO HR0.out HB.out)|(with_reducible first|refine zG ?_ _|refine zH ?_ _|refine zI ?_)));(case side2=>exact HC0.out);rintro e w10 ⟨v165,rfl,ho0,hb⟩;refine ⟨_,rfl,?_⟩;have n0_:=zM (Kd.R_lower ho0 (zR (by repeat (first|(with_reducible first|exact HB.out|apply zD|apply zE|apply zF|refine below_set ?_ GE162.out)|exact HB.out))));have n1_:=zM (blk_below (g:=gb162) (o := .cells #[.int .i64 a1_0,.int .i64 a1_1,.int .i64 a1_2] 28 (0,0)) (by (with_reducible repeat (first|refine zJ ?_ _|refine zK ?_|refine zL ?_ _));exact BK162.out) hb);have n2_:=zM (zQ (by repeat (first|(with_reducible first|exact HB.out|apply zD|apply zE|apply zF|refine below_set ?_ GE162.out)|exact HB.out)) hb);clear BK162;clear HB;have HO166:=n0_;have BK162:=n1_;have HB:=n2_;clear n0_ n1_ n2_;(try clear hb);(try clear hb2);(try clear hk);(try clear hi);(try clear ho0)))
  go_ret2
  exact ⟨_,by first|rfl|(simp [errW_none,errW_some] <;> rfl)|(simp [*,errW_none,errW_some] <;> rfl),by (with_reducible repeat (first|apply zA|apply zB|apply zC));exact HO166.out,by repeat (first|(with_reducible first|exact HB.out|apply zD|apply zE|apply zF|refine below_set ?_ GE162.out)|exact HB.out)⟩
 ·replace c4:=Bool.eq_false_iff.mpr c4
  subst c4;have H1:(some (([]:List Int),false)) = some (r1,r2):=by rw [if_neg (show ¬ (false = true) by decide)] at H;exact H
  clear H;have H:=H1;clear H1;simp only [Option.some.injEq,Prod.mk.injEq] at H
  obtain ⟨rfl,rfl⟩:=H;go_enter Try.func15,Try.ntmps15
  go_wp2_with (first|((with_reducible refine gate_dst (N:=3) rfl ?_);refine box_event ?hg (N:=3) ?hd (cs := #[.int .i64 a1_0,.int .i64 a1_1,.int .i64 a1_2]) (t:=28) ?hr ?_;(case hd=>rfl);(case hg=>rfl);(case hr=>first|(go_simp;done)|(go_simp;rfl));intro gb162 hg w11 hbox hb;have n0_:=zM (zQ (by repeat (first|(with_reducible first|exact HB.out|apply zD|apply zE|apply zF)|exact HB.out)) hb);have n1_:=zM (hbox);have n2_:=zM ((by rw [hg];exact (zR (by repeat (first|(with_reducible first|exact HB.out|apply zD|apply zE|apply zF)|exact HB.out))):w.heap.size ≤ gb162));have n3_:=zM ((by rw [hg];exact (zR (by repeat (first|(with_reducible first|exact HB.out|apply zD|apply zE|apply zF)|exact HB.out))):w.heap.size ≤ gb162));clear HB;have HB:=n0_;have BK162:=n1_;have GW162:=n2_;have GE162:=n3_;clear n0_ n1_ n2_ n3_;clear hb hbox hg;have hcz12_0:w11.cell? ⟨gb162,0,none⟩ = some (.int .i64 a1_0):=(blk_cell BK162.out 0).trans rfl;have hcz12_1:w11.cell? ⟨gb162,1,none⟩ = some (.int .i64 a1_1):=(blk_cell BK162.out 1).trans rfl;have hcz12_2:w11.cell? ⟨gb162,2,none⟩ = some (.int .i64 a1_2):=(blk_cell BK162.out 2).trans rfl;have hfz12_0:=blk_frozen BK162.out 0;have hfz12_1:=blk_frozen BK162.out 1;have hfz12_2:=blk_frozen BK162.out 2)|((with_reducible refine gate_callee (f:=47) rfl ?_);refine goesL_ (some 8) rfl rfl Try.func47 (by kernel_rfl) rfl #[.slice A0 l0.length c0,.agg #[.int .i64 a1_0,.int .i64 a1_1,.int .i64 a1_2]] rfl (by (try simp only [List.map_toArray,List.map_cons,List.map_nil]);first|done|rfl|(simp only [List.length_drop,List.length_take];rfl)) ?_;(with_reducible refine (impl_isLashed.calls _ _ l0 a1_0 a1_1 a1_2 false _ ?side1 ?side2 A3.out).mono ?_);(case side1=>repeat (first|exact (zO HR0.out HB.out)|(with_reducible first|refine zG ?_ _|refine zH ?_ _|refine zI ?_)));(case side2=>exact HC0.out);rintro e w13 ⟨rfl,hb⟩;refine ⟨_,rfl,?_⟩;have n0_:=zM (blk_below (g:=gb162) (o := .cells #[.int .i64 a1_0,.int .i64 a1_1,.int .i64 a1_2] 28 (0,0)) (by (with_reducible repeat (first|refine zJ ?_ _|refine zK ?_|refine zL ?_ _));exact BK162.out) hb);have n1_:=zM (zQ (by repeat (first|(with_reducible first|exact HB.out|apply zD|apply zE|apply zF|refine below_set ?_ GE162.out)|exact HB.out)) hb);clear BK162;clear HB;have BK162:=n0_;have HB:=n1_;clear n0_ n1_;(try clear hb);(try clear hb2);(try clear hk);(try clear hi)))
  go_ret2
  exact ⟨_,by first|rfl|(simp [errW_none,errW_some] <;> rfl)|(simp [*,errW_none,errW_some] <;> rfl),by first|exact Kd.R_nil _ _ _ _ _|exact Kd.N_nil _ _ _ _ _|exact Kd.V_nil _ _ _ _ _|exact Kd.Q_nil _ _ _ _ _|exact Kd.S_nil _ _ _ _ _,by repeat (first|(with_reducible first|exact HB.out|apply zD|apply zE|apply zF|refine below_set ?_ GE162.out)|exact HB.out)⟩



/-! ### spec_LashForces: function 12 -/
def spec_LashForces.f (k:Nat) (l0:List Int) (a1_0:Int) (a1_1:Int) (a1_2:Int):Option (List Int × Bool):=(spec_l12Good.f k l0).bind fun t126=>(if t126 = true then ((spec_l12Rules.f a1_0 a1_1 a1_2).bind fun t127=>(if t127 = true then ((spec_l12Forces.f k l0 a1_1).bind fun t128=>(some (t128,true))) else (some ((([]:List Int)),false)))) else (some ((([]:List Int)),false)))
set_option maxHeartbeats 8000000 in
set_option maxRecDepth 100000 in
theorem spec_LashForces.calls (k:Nat) (A0:Option Addr) (c0:Nat) (l0:List Int) (a1_0:Int) (a1_1:Int) (a1_2:Int) (r1:List Int) (r2:Bool) (w:World) (hr0:Kd.C (Kd.int .i64) w A0 l0.length l0) (hc0:l0.length ≤ c0) (h:spec_LashForces.f k l0 a1_0 a1_1 a1_2 = some (r1,r2)) :
  Calls Try.prog 12 #[.slice A0 l0.length c0,.agg #[.int .i64 a1_0,.int .i64 a1_1,.int .i64 a1_2]] w fun e w' => ∃ v0_:Value,e = .returned (.tuple #[v0_,.bool r2]) ∧ Kd.R (Kd.int .i64) 3 w' w.heap.size (fun _=>True) v0_ r1 ∧ Below w.heap.size w w':=by
 have hu28:=Try.underlying28;have HR0:=zM hr0;have HC0:=zM hc0;clear hr0 hc0;have HB:=zM (Below.refl w.heap.size w);have H:((spec_l12Good.f k l0).bind fun t126=>(if t126 = true then ((spec_l12Rules.f a1_0 a1_1 a1_2).bind fun t127=>(if t127 = true then ((spec_l12Forces.f k l0 a1_1).bind fun t128=>(some (t128,true))) else (some ((([]:List Int)),false)))) else (some ((([]:List Int)),false)))) = some (r1,r2):=h
 clear h;replace H:=Option.bind_eq_some_iff.mp H;obtain ⟨t126,A30,H⟩:=H;replace H:(if t126 = true then ((spec_l12Rules.f a1_0 a1_1 a1_2).bind fun t127=>(if t127 = true then ((spec_l12Forces.f k l0 a1_1).bind fun t128=>(some (t128,true))) else (some ((([]:List Int)),false)))) else (some ((([]:List Int)),false))) = some (r1,r2):=H
 have A3:=zM A30;clear A30;by_cases c4:t126 = true
 ·subst c4
  have H1:((spec_l12Rules.f a1_0 a1_1 a1_2).bind fun t127=>(if t127 = true then ((spec_l12Forces.f k l0 a1_1).bind fun t128=>(some (t128,true))) else (some ((([]:List Int)),false)))) = some (r1,r2):=by rw [if_pos rfl] at H;exact H
  clear H;have H:=H1;clear H1;replace H:=Option.bind_eq_some_iff.mp H;obtain ⟨t127,A50,H⟩:=H;replace H:(if t127 = true then ((spec_l12Forces.f k l0 a1_1).bind fun t128=>(some (t128,true))) else (some ((([]:List Int)),false))) = some (r1,r2):=H
  have A5:=zM A50;clear A50;by_cases c6:t127 = true
  ·subst c6
   have H1:((spec_l12Forces.f k l0 a1_1).bind fun t128=>(some (t128,true))) = some (r1,r2):=by rw [if_pos rfl] at H;exact H
   clear H;have H:=H1;clear H1;replace H:=Option.bind_eq_some_iff.mp H;obtain ⟨t128,A70,H⟩:=H;replace H:(some (t128,true)) = some (r1,r2):=H
   have A7:=zM A70;clear A70;simp only [Option.some.injEq,Prod.mk.injEq] at H
   obtain ⟨rfl,rfl⟩:=H;go_enter Try.func12,Try.ntmps12
   go_wp2_with (first|((with_reducible refine gate_dst (N:=3) rfl ?_);refine box_event ?hg (N:=3) ?hd (cs := #[.int .i64 a1_0,.int .i64 a1_1,.int .i64 a1_2]) (t:=28) ?hr ?_;(case hd=>rfl);(case hg=>rfl);(case hr=>first|(go_simp;done)|(go_simp;rfl));intro gb125 hg w8 hbox hb;have n0_:=zM (zQ (by repeat (first|(with_reducible first|exact HB.out|apply zD|apply zE|apply zF)|exact HB.out)) hb);have n1_:=zM (hbox);have n2_:=zM ((by rw [hg];exact (zR (by repeat (first|(with_reducible first|exact HB.out|apply zD|apply zE|apply zF)|exact HB.out))):w.heap.size ≤ gb125));have n3_:=zM ((by rw [hg];exact (zR (by repeat (first|(with_reducible first|exact HB.out|apply zD|apply zE|apply zF)|exact HB.out))):w.heap.size ≤ gb125));clear HB;have HB:=n0_;have BK125:=n1_;have GW125:=n2_;have GE125:=n3_;clear n0_ n1_ n2_ n3_;clear hb hbox hg)|((with_reducible refine gate_callee (f:=44) rfl ?_);refine goesL_ (some 7) rfl rfl Try.func44 (by kernel_rfl) rfl #[.slice A0 l0.length c0] rfl (by (try simp only [List.map_toArray,List.map_cons,List.map_nil]);first|done|rfl|(simp only [List.length_drop,List.length_take];rfl)) ?_;(with_reducible refine (spec_l12Good.calls k _ _ l0 true _ ?side1 ?side2 A3.out).mono ?_);(case side1=>repeat (first|exact (zO HR0.out HB.out)|(with_reducible first|refine zG ?_ _|refine zH ?_ _|refine zI ?_)));(case side2=>exact HC0.out);rintro e w' ⟨rfl,⟨nd,rfl⟩⟩;refine ⟨_,rfl,?_⟩;have hcz9_0:w8.cell? ⟨gb125,0,none⟩ = some (.int .i64 a1_0):=(blk_cell BK125.out 0).trans rfl;have hcz9_1:w8.cell? ⟨gb125,1,none⟩ = some (.int .i64 a1_1):=(blk_cell BK125.out 1).trans rfl;have hcz9_2:w8.cell? ⟨gb125,2,none⟩ = some (.int .i64 a1_2):=(blk_cell BK125.out 2).trans rfl;have hfz9_0:=blk_frozen BK125.out 0;have hfz9_1:=blk_frozen BK125.out 1;have hfz9_2:=blk_frozen BK125.out 2)|(go_at_call 45;(with_reducible refine (spec_l12Rules.calls a1_0 a1_1 a1_2 true _ A5.out).mono ?_);rintro e w10 ⟨rfl,hb⟩;have n0_:=zM (blk_below (g:=gb125) (o := .cells #[.int .i64 a1_0,.int .i64 a1_1,.int .i64 a1_2] 28 (0,0)) (by (with_reducible repeat (first|refine zJ ?_ _|refine zK ?_|refine zL ?_ _));exact BK125.out) hb);have n1_:=zM (zQ (by repeat (first|(with_reducible first|exact HB.out|apply zD|apply zE|apply zF|refine below_set ?_ GE125.out)|exact HB.out)) hb);clear BK125;clear HB;have BK125:=n0_;have HB:=n1_;clear n0_ n1_;(try clear hb);(try clear hb2);(try clear hk);(try clear hi);have hcz11_0:w10.cell? ⟨gb125,0,none⟩ = some (.int .i64 a1_0):=(blk_cell BK125.out 0).trans rfl;have hcz11_1:w10.cell? ⟨gb125,1,none⟩ = some (.int .i64 a1_1):=(blk_cell BK125.out 1).trans rfl;have hcz11_2:w10.cell? ⟨gb125,2,none⟩ = some (.int .i64 a1_2):=(blk_cell BK125.out 2).trans rfl;have hfz11_0:=blk_frozen BK125.out 0;have hfz11_1:=blk_frozen BK125.out 1;have hfz11_2:=blk_frozen BK125.out 2)|((with_reducible refine gate_callee (f:=46) rfl ?_);refine goesL_ (some 18) rfl rfl Try.func46 (by kernel_rfl) rfl #[.slice A0 l0.length c0,.int .i64 a1_1] rfl (by (try simp only [List.map_toArray,List.map_cons,List.map_nil]);first|done|rfl|(simp only [List.length_drop,List.length_take];rfl)) ?_;(with_reducible refine (spec_l12Forces.calls k _ _ l0 a1_1 t128 _ ?side1 ?side2 A7.out).mono ?_);(case side1=>repeat (first|exact (zO HR0.out HB.out)|(with_reducible first|refine zG ?_ _|refine zH ?_ _|refine zI ?_)));(case side2=>exact HC0.out);rintro e w12 ⟨v129,rfl,ho0,hb⟩;refine ⟨_,rfl,?_⟩;have n0_:=zM (Kd.R_lower ho0 (zR (by repeat (first|(with_reducible first|exact HB.out|apply zD|apply zE|apply zF|refine below_set ?_ GE125.out)|exact HB.out))));have n1_:=zM (blk_below (g:=gb125) (o := .cells #[.int .i64 a1_0,.int .i64 a1_1,.int .i64 a1_2] 28 (0,0)) (by (with_reducible repeat (first|refine zJ ?_ _|refine zK ?_|refine zL ?_ _));exact BK125.out) hb);have n2_:=zM (zQ (by repeat (first|(with_reducible first|exact HB.out|apply zD|apply zE|apply zF|refine below_set ?_ GE125.out)|exact HB.out)) hb);clear BK125;clear HB;have HO130:=n0_;have BK125:=n1_;have HB:=n2_;clear n0_ n1_ n2_;(try clear hb);(try clear hb2);(try clear hk);(try clear hi);(try clear ho0)))
   go_ret2
   exact ⟨_,by first|rfl|(simp [errW_none,errW_some] <;> rfl)|(simp [*,errW_none,errW_some] <;> rfl),by (with_reducible repeat (first|apply zA|apply zB|apply zC));exact HO130.out,by repeat (first|(with_reducible first|exact HB.out|apply zD|apply zE|apply zF|refine below_set ?_ GE125.out)|exact HB.out)⟩
  ·replace c6:=Bool.eq_false_iff.mpr c6
   subst c6;have H1:(some ((([]:List Int)),false)) = some (r1,r2):=by rw [if_neg (show ¬ (false = true) by decide)] at H;exact H
   clear H;have H:=H1;clear H1;obtain ⟨y131,hy131⟩ : ∃ y_:List Int,y_ = (([]:List Int)):=⟨_,rfl⟩
   replace H:(some (y131,false)) = some (r1,r2):=by first|(rw [hy131];with_reducible exact H)|(have H2_:=(Option.bind_some _ _).symm.trans H;rw [hy131];with_reducible exact H2_)|(have H2_:=(Option.bind_some _ _).symm.trans H;with_reducible exact H2_)|with_reducible exact H|(rw [hy131];exact H)|exact H
   have Ny131:=zM hy131;clear hy131;simp only [Option.some.injEq,Prod.mk.injEq] at H
   obtain ⟨rfl,rfl⟩:=H;go_enter Try.func12,Try.ntmps12
   go_wp2_with (first|((with_reducible refine gate_dst (N:=3) rfl ?_);refine box_event ?hg (N:=3) ?hd (cs := #[.int .i64 a1_0,.int .i64 a1_1,.int .i64 a1_2]) (t:=28) ?hr ?_;(case hd=>rfl);(case hg=>rfl);(case hr=>first|(go_simp;done)|(go_simp;rfl));intro gb125 hg w13 hbox hb;have n0_:=zM (zQ (by repeat (first|(with_reducible first|exact HB.out|apply zD|apply zE|apply zF)|exact HB.out)) hb);have n1_:=zM (hbox);have n2_:=zM ((by rw [hg];exact (zR (by repeat (first|(with_reducible first|exact HB.out|apply zD|apply zE|apply zF)|exact HB.out))):w.heap.size ≤ gb125));have n3_:=zM ((by rw [hg];exact (zR (by repeat (first|(with_reducible first|exact HB.out|apply zD|apply zE|apply zF)|exact HB.out))):w.heap.size ≤ gb125));clear HB;have HB:=n0_;have BK125:=n1_;have GW125:=n2_;have GE125:=n3_;clear n0_ n1_ n2_ n3_;clear hb hbox hg)|((with_reducible refine gate_callee (f:=44) rfl ?_);refine goesL_ (some 7) rfl rfl Try.func44 (by kernel_rfl) rfl #[.slice A0 l0.length c0] rfl (by (try simp only [List.map_toArray,List.map_cons,List.map_nil]);first|done|rfl|(simp only [List.length_drop,List.length_take];rfl)) ?_;(with_reducible refine (spec_l12Good.calls k _ _ l0 true _ ?side1 ?side2 A3.out).mono ?_);(case side1=>repeat (first|exact (zO HR0.out HB.out)|(with_reducible first|refine zG ?_ _|refine zH ?_ _|refine zI ?_)));(case side2=>exact HC0.out);rintro e w' ⟨rfl,⟨nd,rfl⟩⟩;refine ⟨_,rfl,?_⟩;have hcz14_0:w13.cell? ⟨gb125,0,none⟩ = some (.int .i64 a1_0):=(blk_cell BK125.out 0).trans rfl;have hcz14_1:w13.cell? ⟨gb125,1,none⟩ = some (.int .i64 a1_1):=(blk_cell BK125.out 1).trans rfl;have hcz14_2:w13.cell? ⟨gb125,2,none⟩ = some (.int .i64 a1_2):=(blk_cell BK125.out 2).trans rfl;have hfz14_0:=blk_frozen BK125.out 0;have hfz14_1:=blk_frozen BK125.out 1;have hfz14_2:=blk_frozen BK125.out 2)|(go_at_call 45;(with_reducible refine (spec_l12Rules.calls a1_0 a1_1 a1_2 false _ A5.out).mono ?_);rintro e w15 ⟨rfl,hb⟩;have n0_:=zM (blk_below (g:=gb125) (o := .cells #[.int .i64 a1_0,.int .i64 a1_1,.int .i64 a1_2] 28 (0,0)) (by (with_reducible repeat (first|refine zJ ?_ _|refine zK ?_|refine zL ?_ _));exact BK125.out) hb);have n1_:=zM (zQ (by repeat (first|(with_reducible first|exact HB.out|apply zD|apply zE|apply zF|refine below_set ?_ GE125.out)|exact HB.out)) hb);clear BK125;clear HB;have BK125:=n0_;have HB:=n1_;clear n0_ n1_;(try clear hb);(try clear hb2);(try clear hk);(try clear hi))|((with_reducible refine gate_dst (N:=14) rfl ?_);refine Kd.R_lit (Kd.int .i64) _ 3 ?hg (N:=14) ?hd (xs:=([]:List Int)) (inner:=[]) (ok:=fun _=>True) (okp:=fun _=>True) ?hr ?hp (fun _ hk=>hk) trivial (Below.refl _ _) (Nat.le_refl _) (by simp) ?_;(case hd=>rfl);(case hg=>rfl);(case hr=>first|(go_simp;done)|(go_simp;rfl));(case hp=>exact (Reps.none _ _));intro v132 w16 ho17 hb hg_ hnew_;clear hg_ hnew_;(first|rw [← Ny131.out] at ho17|(simp only [Int.reduceToNat] at ho17;rw [← Ny131.out] at ho17));have n0_:=zM (Kd.R_lower ho17 (zR (by repeat (first|(with_reducible first|exact HB.out|apply zD|apply zE|apply zF|refine below_set ?_ GE125.out)|exact HB.out))));have n1_:=zM (blk_below (g:=gb125) (o := .cells #[.int .i64 a1_0,.int .i64 a1_1,.int .i64 a1_2] 28 (0,0)) (by (with_reducible repeat (first|refine zJ ?_ _|refine zK ?_|refine zL ?_ _));exact BK125.out) hb);have n2_:=zM (zQ (by repeat (first|(with_reducible first|exact HB.out|apply zD|apply zE|apply zF|refine below_set ?_ GE125.out)|exact HB.out)) hb);clear BK125;clear HB;have HO133:=n0_;have BK125:=n1_;have HB:=n2_;clear n0_ n1_ n2_;clear hb ho17))
   go_ret2
   exact ⟨_,by first|rfl|(simp [errW_none,errW_some] <;> rfl)|(simp [*,errW_none,errW_some] <;> rfl),by (with_reducible repeat (first|apply zA|apply zB|apply zC));exact HO133.out,by repeat (first|(with_reducible first|exact HB.out|apply zD|apply zE|apply zF|refine below_set ?_ GE125.out)|exact HB.out)⟩
 ·replace c4:=Bool.eq_false_iff.mpr c4
  subst c4;have H1:(some ((([]:List Int)),false)) = some (r1,r2):=by rw [if_neg (show ¬ (false = true) by decide)] at H;exact H
  clear H;have H:=H1;clear H1;obtain ⟨y134,hy134⟩ : ∃ y_:List Int,y_ = (([]:List Int)):=⟨_,rfl⟩
  replace H:(some (y134,false)) = some (r1,r2):=by first|(rw [hy134];with_reducible exact H)|(have H2_:=(Option.bind_some _ _).symm.trans H;rw [hy134];with_reducible exact H2_)|(have H2_:=(Option.bind_some _ _).symm.trans H;with_reducible exact H2_)|with_reducible exact H|(rw [hy134];exact H)|exact H
  have Ny134:=zM hy134;clear hy134;simp only [Option.some.injEq,Prod.mk.injEq] at H
  obtain ⟨rfl,rfl⟩:=H;go_enter Try.func12,Try.ntmps12
  go_wp2_with (first|((with_reducible refine gate_dst (N:=3) rfl ?_);refine box_event ?hg (N:=3) ?hd (cs := #[.int .i64 a1_0,.int .i64 a1_1,.int .i64 a1_2]) (t:=28) ?hr ?_;(case hd=>rfl);(case hg=>rfl);(case hr=>first|(go_simp;done)|(go_simp;rfl));intro gb125 hg w18 hbox hb;have n0_:=zM (zQ (by repeat (first|(with_reducible first|exact HB.out|apply zD|apply zE|apply zF)|exact HB.out)) hb);have n1_:=zM (hbox);have n2_:=zM ((by rw [hg];exact (zR (by repeat (first|(with_reducible first|exact HB.out|apply zD|apply zE|apply zF)|exact HB.out))):w.heap.size ≤ gb125));have n3_:=zM ((by rw [hg];exact (zR (by repeat (first|(with_reducible first|exact HB.out|apply zD|apply zE|apply zF)|exact HB.out))):w.heap.size ≤ gb125));clear HB;have HB:=n0_;have BK125:=n1_;have GW125:=n2_;have GE125:=n3_;clear n0_ n1_ n2_ n3_;clear hb hbox hg)|((with_reducible refine gate_callee (f:=44) rfl ?_);refine goesL_ (some 7) rfl rfl Try.func44 (by kernel_rfl) rfl #[.slice A0 l0.length c0] rfl (by (try simp only [List.map_toArray,List.map_cons,List.map_nil]);first|done|rfl|(simp only [List.length_drop,List.length_take];rfl)) ?_;(with_reducible refine (spec_l12Good.calls k _ _ l0 false _ ?side1 ?side2 A3.out).mono ?_);(case side1=>repeat (first|exact (zO HR0.out HB.out)|(with_reducible first|refine zG ?_ _|refine zH ?_ _|refine zI ?_)));(case side2=>exact HC0.out);rintro e w' ⟨rfl,⟨nd,rfl⟩⟩;refine ⟨_,rfl,?_⟩)|((with_reducible refine gate_dst (N:=14) rfl ?_);refine Kd.R_lit (Kd.int .i64) _ 3 ?hg (N:=14) ?hd (xs:=([]:List Int)) (inner:=[]) (ok:=fun _=>True) (okp:=fun _=>True) ?hr ?hp (fun _ hk=>hk) trivial (Below.refl _ _) (Nat.le_refl _) (by simp) ?_;(case hd=>rfl);(case hg=>rfl);(case hr=>first|(go_simp;done)|(go_simp;rfl));(case hp=>exact (Reps.none _ _));intro v135 w19 ho20 hb hg_ hnew_;clear hg_ hnew_;(first|rw [← Ny134.out] at ho20|(simp only [Int.reduceToNat] at ho20;rw [← Ny134.out] at ho20));have n0_:=zM (Kd.R_lower ho20 (zR (by repeat (first|(with_reducible first|exact HB.out|apply zD|apply zE|apply zF|refine below_set ?_ GE125.out)|exact HB.out))));have n1_:=zM (blk_below (g:=gb125) (o := .cells #[.int .i64 a1_0,.int .i64 a1_1,.int .i64 a1_2] 28 (0,0)) (by (with_reducible repeat (first|refine zJ ?_ _|refine zK ?_|refine zL ?_ _));exact BK125.out) hb);have n2_:=zM (zQ (by repeat (first|(with_reducible first|exact HB.out|apply zD|apply zE|apply zF|refine below_set ?_ GE125.out)|exact HB.out)) hb);clear BK125;clear HB;have HO136:=n0_;have BK125:=n1_;have HB:=n2_;clear n0_ n1_ n2_;clear hb ho20))
  go_ret2
  exact ⟨_,by first|rfl|(simp [errW_none,errW_some] <;> rfl)|(simp [*,errW_none,errW_some] <;> rfl),by (with_reducible repeat (first|apply zA|apply zB|apply zC));exact HO136.out,by repeat (first|(with_reducible first|exact HB.out|apply zD|apply zE|apply zF|refine below_set ?_ GE125.out)|exact HB.out)⟩

end Go.Proofs.Ytcgfedaoimhejaa.G

namespace Go.Proofs.Ytcgfedaoimhejaa.G
open Go.RowKit Go.Proofs.YtcgfedaoimhejaaW.PrintWords Go.Proofs.YtcgfedaoimhejaaW.PrintLast
set_option linter.unusedVariables false
set_option linter.unusedSimpArgs false
def okW (l : List Int) (i : Int) : Prop:=1 ≤ rd l i ∧ rd l i ≤ 32000
def Col (l : List Int) : Prop:=(l.length : Int) ≤ 4 ∧ All (okW l) 0 (l.length : Int)
def Rules (L T S : Int) : Prop:=(1 ≤ L ∧ L ≤ 200000) ∧ (0 ≤ T ∧ T ≤ 100) ∧ (1 ≤ S ∧ S ≤ 100000)
def Lashed (l : List Int) (L T S : Int) : Prop:=Col l ∧ Rules L T S
theorem cont76_eq (l : List Int) : slices_ContainsFunc_int_int_76.f l = some (chk (All (okW l) 0 (l.length : Int)) false true):=by
  unfold slices_ContainsFunc_int_int_76.f
  congr 1
  have hb : (bad76 l l.length 0 ≥ 0) ↔ ¬ All (okW l) 0 (l.length : Int):=by
    rw [bad76_iff]
    constructor
    · intro h a
      refine h fun j _ hj=>?_
      have:=a (j : Int) (by omega) (by omega)
      unfold okW at this
      unfold good76;exact decide_eq_true this
    · intro h a
      refine h fun j h0 hj=>?_
      have:=a j.toNat (by omega) (by omega)
      rw [show ((j.toNat : Nat) : Int) = j from by omega] at this
      unfold good76 at this
      have h':=of_decide_eq_true this
      exact h'
  by_cases ha : All (okW l) 0 (l.length : Int)
  · rw [chk_pos ha];exact decide_eq_false (fun x=>hb.1 x ha)
  · rw [chk_neg ha];exact decide_eq_true (hb.2 ha)
theorem impl_col (l : List Int) : impl_IsValidColumn.f l = some (chk (Col l) true false):=by
  unfold impl_IsValidColumn.f
  simp only [cont76_eq,Option.bind_some]
  by_cases h1 : (l.length : Int) ≤ 4
  · rw [if_pos h1]
    by_cases h2 : All (okW l) 0 (l.length : Int)
    · rw [chk_pos h2,chk_pos (show Col l from ⟨h1,h2⟩)];rfl
    · rw [chk_neg h2,chk_neg (fun m : Col l=>h2 m.2)];rfl
  · rw [if_neg h1,chk_neg (fun m : Col l=>h1 m.1)]
theorem impl_lashed (l : List Int) (L T S : Int) : impl_isLashed.f l L T S = some (chk (Lashed l L T S) true false):=by
  unfold impl_isLashed.f
  simp only [impl_col,impl_within_eq,Option.bind_some,decide_eq_true_eq]
  by_cases h1 : Col l
  · rw [chk_pos h1]
    simp only [if_true]
    by_cases h2 : 1 ≤ L ∧ L ≤ 200000
    · rw [if_pos h2]
      by_cases h3 : 0 ≤ T ∧ T ≤ 100
      · rw [if_pos h3]
        by_cases h4 : 1 ≤ S ∧ S ≤ 100000
        · rw [decide_eq_true h4,chk_pos (show Lashed l L T S from ⟨h1,h2,h3,h4⟩)]
        · rw [decide_eq_false h4,chk_neg (fun m : Lashed l L T S=>h4 m.2.2.2)]
      · rw [if_neg h3,chk_neg (fun m : Lashed l L T S=>h3 m.2.2.1)]
    · rw [if_neg h2,chk_neg (fun m : Lashed l L T S=>h2 m.2.1)]
  · rw [chk_neg h1,chk_neg (fun m : Lashed l L T S=>h1 m.1)]
    rfl
theorem spec_col (l : List Int) (hl : (l.length : Int) ≤ 1099511627776) : Ev (fun k=>spec_l12Good.f k l) (chk (Col l) true false):=by
  unfold spec_l12Good.f spec_l12Weights.f
  have h:=Ev.check (fun k i=>spec_l12Weights.l0 k l 4 i) (l.length : Int) (okW l) (decide ((l.length : Int) ≤ 4)) false 0 (by
    refine Ev.step (fun k=>by rw [spec_l12Weights.l0]) ?_
    simp only [Int.lt_irrefl,if_false]
    exact Ev.now _) (by
    intro i h0 hlt r hr
    refine Ev.step (fun k=>by rw [spec_l12Weights.l0]) ?_
    simp (disch:=omega) only [if_pos,wrap64_id,spec_l1In_eq,Option.bind_some,decide_eq_true_eq]
    refine Ev.ite (fun g=>?_) (fun g=>?_)
    · rw [chk_pos (show okW l i from g)];exact hr
    · rw [chk_neg (show ¬ okW l i from g)];exact Ev.now _) 0 (by omega) (by omega)
  refine Ev.bind h ?_
  refine Ev.val ?_
  by_cases ha : All (okW l) 0 (l.length : Int)
  · rw [chk_pos ha]
    by_cases h4 : (l.length : Int) ≤ 4
    · rw [decide_eq_true h4,chk_pos (show Col l from ⟨h4,ha⟩)]
    · rw [decide_eq_false h4,chk_neg (fun m : Col l=>h4 m.1)]
  · rw [chk_neg ha,chk_neg (fun m : Col l=>ha m.2)]
theorem spec_rules (L T S : Int) : spec_l12Rules.f L T S = some (chk (Rules L T S) true false):=by
  unfold spec_l12Rules.f
  simp only [spec_l1In_eq,Option.bind_some,decide_eq_true_eq]
  by_cases h2 : 1 ≤ L ∧ L ≤ 200000
  · rw [if_pos h2]
    by_cases h3 : 0 ≤ T ∧ T ≤ 100
    · rw [if_pos h3]
      by_cases h4 : 1 ≤ S ∧ S ≤ 100000
      · rw [decide_eq_true h4,chk_pos (show Rules L T S from ⟨h2,h3,h4⟩)]
      · rw [decide_eq_false h4,chk_neg (fun m : Rules L T S=>h4 m.2.2)]
    · rw [if_neg h3,chk_neg (fun m : Rules L T S=>h3 m.2.1)]
  · rw [if_neg h2,chk_neg (fun m : Rules L T S=>h2 m.1)]
/-- The sum of d weights from i on. -/
def tot (l : List Int) (i : Int) : Nat → Int
  | 0=>0
  | d + 1=>tot l i d + rd l (i + d)
theorem tot_succ (l : List Int) (i : Int) (d : Nat) : tot l i (d + 1) = tot l i d + rd l (i + d):=rfl
theorem tot_bd {l : List Int} (h : Col l) (i : Int) (h0 : 0 ≤ i) : ∀ d : Nat,i + d ≤ (l.length : Int) → 0 ≤ tot l i d ∧ tot l i d ≤ 32000 * d:=by
  intro d
  induction d with
  | zero=>intro _;simp [tot]
  | succ d ih =>
    intro hd
    have:=ih (by omega)
    have o:=h.2 (i + d) (by omega) (by omega)
    unfold okW at o
    rw [tot_succ]
    omega
/-- The force at the foot of container i. -/
def fr (l : List Int) (T i : Int) : Int:=Int.tdiv (T * tot l i (l.length - i.toNat) + 99) 100
theorem rd_drop (l : List Int) (i j : Int) (h0 : 0 ≤ i) (j0 : 0 ≤ j) : rd (l.drop i.toNat) j = rd l (i + j):=by
  unfold rd
  rw [List.getD_eq_getElem?_getD,List.getD_eq_getElem?_getD,List.getElem?_drop,show i.toNat + j.toNat = (i + j).toNat from by omega]
theorem impl_sum {l : List Int} (h : Col l) (i : Int) (h0 : 0 ≤ i) (h1 : i ≤ (l.length : Int)) : Ev (fun k=>impl_sumOf.f k (l.drop i.toNat)) (tot l i (l.length - i.toNat)):=by
  have h4:=h.1
  have hd : (((l.drop i.toNat)).length : Int) = (l.length : Int) - i:=by rw [List.length_drop];omega
  unfold impl_sumOf.f
  rw [hd]
  refine Ev.up (fun k (s : Int) j=>impl_sumOf.l0 k s (l.drop i.toNat) ((l.length : Int) - i) j) (fun _ _=>tot l i (l.length - i.toNat)) (fun s j=>0 ≤ j ∧ s = tot l i j.toNat) ((l.length : Int) - i) ?_ ?_ 0 0 ⟨by omega,rfl⟩ (by omega)
  · rintro s ⟨_,rfl⟩
    refine Ev.step (fun k=>by rw [impl_sumOf.l0]) ?_
    simp only [Int.lt_irrefl,if_false]
    rw [show ((l.length : Int) - i).toNat = l.length - i.toNat from by omega]
    exact Ev.now _
  · rintro s j ⟨j0,rfl⟩ jlt ih
    have b:=tot_bd h i h0 j.toNat (by omega)
    have o:=h.2 (i + j) (by omega) (by omega)
    unfold okW at o
    refine Ev.step (fun k=>by rw [impl_sumOf.l0]) ?_
    simp (disch:=omega) only [if_pos,wrap64_id,rd_drop]
    refine ih _ ⟨by omega,?_⟩
    rw [show (j + 1).toNat = j.toNat + 1 from by omega,tot_succ,show ((j.toNat : Nat) : Int) = j from by omega]
theorem spec_sum {l : List Int} (h : Col l) (i : Int) (h0 : 0 ≤ i) (h1 : i ≤ (l.length : Int)) : Ev (fun k=>spec_l12Sum.f k l i) (tot l i (l.length - i.toNat)):=by
  have h4:=h.1
  unfold spec_l12Sum.f
  refine Ev.up (fun k (s : Int) j=>spec_l12Sum.l0 k l s j) (fun _ _=>tot l i (l.length - i.toNat)) (fun s j=>i ≤ j ∧ s = tot l i (j - i).toNat) (l.length : Int) ?_ ?_ 0 i ⟨by omega,by rw [show (i - i).toNat = 0 from by omega];rfl⟩ (by omega)
  · rintro s ⟨_,rfl⟩
    refine Ev.step (fun k=>by rw [spec_l12Sum.l0]) ?_
    simp only [Int.lt_irrefl,if_false]
    rw [show ((l.length : Int) - i).toNat = l.length - i.toNat from by omega]
    exact Ev.now _
  · rintro s j ⟨j0,rfl⟩ jlt ih
    have b:=tot_bd h i h0 (j - i).toNat (by omega)
    have o:=h.2 j (by omega) (by omega)
    unfold okW at o
    refine Ev.step (fun k=>by rw [spec_l12Sum.l0]) ?_
    simp (disch:=omega) only [if_pos,wrap64_id]
    refine ih _ ⟨by omega,?_⟩
    rw [show (j + 1 - i).toNat = (j - i).toNat + 1 from by omega,tot_succ,show i + (((j - i).toNat : Nat) : Int) = j from by omega]
def forcesTo (l : List Int) (T : Int) : Nat → List Int
  | 0=>[]
  | d + 1=>forcesTo l T d ++ [fr l T d]
theorem forcesTo_succ (l : List Int) (T : Int) (d : Nat) : forcesTo l T (d + 1) = forcesTo l T d ++ [fr l T d]:=rfl
theorem forces_len (l : List Int) (T : Int) : ∀ d : Nat,(forcesTo l T d).length = d:=by
  intro d
  induction d with
  | zero=>rfl
  | succ d ih=>rw [forcesTo_succ,List.length_append,ih];rfl
theorem prod_bd {l : List Int} (h : Col l) (T : Int) (hT : 0 ≤ T ∧ T ≤ 100) (i : Int) (h0 : 0 ≤ i) (h1 : i ≤ (l.length : Int)) : 0 ≤ T * tot l i (l.length - i.toNat) ∧ T * tot l i (l.length - i.toNat) ≤ 12800000:=by
  have h4:=h.1
  have b:=tot_bd h i h0 (l.length - i.toNat) (by omega)
  have m:=mul_bd (x:=T) (y:=tot l i (l.length - i.toNat)) (A:=100) (B:=128000) (by omega) (by omega) (by omega) (by omega) (by omega) (by omega)
  exact ⟨Int.mul_nonneg hT.1 b.1,by omega⟩
theorem fr_bd {l : List Int} (h : Col l) (T : Int) (hT : 0 ≤ T ∧ T ≤ 100) (i : Int) (h0 : 0 ≤ i) (h1 : i ≤ (l.length : Int)) : 0 ≤ fr l T i ∧ fr l T i ≤ 200000:=by
  have p:=prod_bd h T hT i h0 h1
  unfold fr
  rw [Int.tdiv_eq_ediv_of_nonneg (by omega)]
  omega
theorem forces_mem {l : List Int} (h : Col l) (T : Int) (hT : 0 ≤ T ∧ T ≤ 100) : ∀ d : Nat,d ≤ l.length → ∀ x ∈ forcesTo l T d,0 ≤ x ∧ x ≤ 200000:=by
  intro d
  induction d with
  | zero=>intro _ x hx;cases hx
  | succ d ih =>
    intro hd x hx
    rw [forcesTo_succ,List.mem_append] at hx
    rcases hx with hx|hx
    · exact ih (by omega) x hx
    · rw [List.mem_singleton] at hx
      rw [hx]
      exact fr_bd h T hT d (by omega) (by omega)
theorem rd_mem (xs : List Int) (i : Int) (h0 : 0 ≤ i) (h1 : i < (xs.length : Int)) : rd xs i ∈ xs:=by
  unfold rd
  rw [List.getD_eq_getElem?_getD,List.getElem?_eq_getElem (show i.toNat < xs.length by omega)]
  exact List.getElem_mem _
theorem impl_forces {l : List Int} (L T S : Int) (h : Col l) (hT : 0 ≤ T ∧ T ≤ 100) : Ev (fun k=>impl_forcesOf.f k l L T S) (forcesTo l T l.length):=by
  have h4:=h.1
  unfold impl_forcesOf.f
  refine Ev.up (fun k (s : List Int) j=>impl_forcesOf.l0 k l s (l.length : Int) j L T S) (fun _ _=>forcesTo l T l.length) (fun s j=>0 ≤ j ∧ s = forcesTo l T j.toNat) (l.length : Int) ?_ ?_ [] 0 ⟨by omega,rfl⟩ (by omega)
  · rintro s ⟨_,rfl⟩
    refine Ev.step (fun k=>by rw [impl_forcesOf.l0]) ?_
    simp only [Int.lt_irrefl,if_false,Int.toNat_natCast]
    exact Ev.now _
  · rintro s j ⟨j0,rfl⟩ jlt ih
    have p:=prod_bd h T hT j j0 (by omega)
    have fl:=forces_len l T j.toNat
    refine Ev.step (fun k=>by rw [impl_forcesOf.l0]) ?_
    simp (disch:=omega) only [if_pos]
    refine Ev.bind (impl_sum h j j0 (by omega)) ?_
    have e : impl_ceiling.f (wrap64 (T * tot l j (l.length - j.toNat))) 100 = some (fr l T j):=by
      unfold impl_ceiling.f fr
      rw [if_neg (by decide),wrap64_id (x:=T * tot l j (l.length - j.toNat)) (by omega) (by omega),wrap64_id (x:=T * tot l j (l.length - j.toNat) + 100) (by omega) (by omega),wrap64_id (x:=T * tot l j (l.length - j.toNat) + 100 - 1) (by omega) (by omega),show T * tot l j (l.length - j.toNat) + 100 - 1 = T * tot l j (l.length - j.toNat) + 99 from by omega]
      rw [wrap64_id]
      · rw [Int.tdiv_eq_ediv_of_nonneg (by omega)];omega
      · rw [Int.tdiv_eq_ediv_of_nonneg (by omega)];omega
    rw [e]
    simp (disch:=omega) only [if_pos,Option.bind_some,wrap64_id]
    refine ih _ ⟨by omega,?_⟩
    rw [show (j + 1).toNat = j.toNat + 1 from by omega,forcesTo_succ,show ((j.toNat : Nat) : Int) = j from by omega]
theorem spec_forces {l : List Int} (T : Int) (h : Col l) (hT : 0 ≤ T ∧ T ≤ 100) : Ev (fun k=>spec_l12Forces.f k l T) (forcesTo l T l.length):=by
  have h4:=h.1
  unfold spec_l12Forces.f
  refine Ev.up (fun k (s : List Int) j=>spec_l12Forces.l0 k l T s j) (fun _ _=>forcesTo l T l.length) (fun s j=>0 ≤ j ∧ s = forcesTo l T j.toNat) (l.length : Int) ?_ ?_ [] 0 ⟨by omega,rfl⟩ (by omega)
  · rintro s ⟨_,rfl⟩
    refine Ev.step (fun k=>by rw [spec_l12Forces.l0]) ?_
    simp only [Int.lt_irrefl,if_false,Int.toNat_natCast]
    exact Ev.now _
  · rintro s j ⟨j0,rfl⟩ jlt ih
    have p:=prod_bd h T hT j j0 (by omega)
    have fl:=forces_len l T j.toNat
    refine Ev.step (fun k=>by rw [spec_l12Forces.l0]) ?_
    simp (disch:=omega) only [if_pos]
    refine Ev.bind (spec_sum h j j0 (by omega)) ?_
    have e : wrap64 (Int.tdiv (wrap64 ((wrap64 (tot l j (l.length - j.toNat) * T)) + 99)) 100) = fr l T j:=by
      unfold fr
      rw [Int.mul_comm (tot l j (l.length - j.toNat)) T,wrap64_id (x:=T * tot l j (l.length - j.toNat)) (by omega) (by omega),wrap64_id (x:=T * tot l j (l.length - j.toNat) + 99) (by omega) (by omega)]
      rw [wrap64_id]
      · rw [Int.tdiv_eq_ediv_of_nonneg (by omega)];omega
      · rw [Int.tdiv_eq_ediv_of_nonneg (by omega)];omega
    rw [e]
    simp (disch:=omega) only [if_pos,wrap64_id]
    refine ih _ ⟨by omega,?_⟩
    rw [show (j + 1).toNat = j.toNat + 1 from by omega,forcesTo_succ,show ((j.toNat : Nat) : Int) = j from by omega]
noncomputable def forcesR (l : List Int) (L T S : Int) : List Int × Bool:=chk (Lashed l L T S) (forcesTo l T l.length,true) ([],false)
/-- The lashings for forces, from index i on. -/
def need (F : List Int) (S : Int) : Nat → Int → List Int → List Int × Bool
  | 0,_,a=>(a,true)
  | d + 1,i,a=>if Int.tdiv (rd F i + S - 1) S > 4 then ([],false) else need F S d (i + 1) (a ++ [Int.tdiv (rd F i + S - 1) S])
theorem need_succ (F : List Int) (S : Int) (d : Nat) (i : Int) (a : List Int) : need F S (d + 1) i a = if Int.tdiv (rd F i + S - 1) S > 4 then ([],false) else need F S d (i + 1) (a ++ [Int.tdiv (rd F i + S - 1) S]):=rfl
theorem tdiv_bd (x S : Int) (h0 : 0 ≤ x) (h1 : x ≤ 1000000) (hS : 1 ≤ S) : 0 ≤ Int.tdiv x S ∧ Int.tdiv x S ≤ 1000000:=by
  rw [Int.tdiv_eq_ediv_of_nonneg h0]
  refine ⟨Int.ediv_nonneg h0 (by omega),?_⟩
  have:=Int.ediv_le_self S h0
  omega
theorem impl_need (F : List Int) (L T S : Int) (hS : 1 ≤ S ∧ S ≤ 100000) (hF : ∀ x ∈ F,0 ≤ x ∧ x ≤ 200000) (h4 : (F.length : Int) ≤ 4) : ∀ (d : Nat) (i : Int) (a : List Int),0 ≤ i → i + d = (F.length : Int) → (a.length : Int) ≤ i → Ev (fun k=>impl_LashingsNeeded.l0 k a F (F.length : Int) i L T S) (need F S d i a):=by
  intro d
  induction d with
  | zero =>
    intro i a i0 hd ha
    refine Ev.step (fun k=>by rw [impl_LashingsNeeded.l0]) ?_
    simp (disch:=omega) only [if_neg]
    exact Ev.now _
  | succ d ih =>
    intro i a i0 hd ha
    have m:=hF _ (rd_mem F i i0 (by omega))
    have t:=tdiv_bd (rd F i + S - 1) S (by omega) (by omega) (by omega)
    refine Ev.step (fun k=>by rw [impl_LashingsNeeded.l0]) ?_
    simp (disch:=omega) only [if_pos,if_neg,impl_ceiling.f,Option.bind_some,wrap64_id]
    rw [need_succ]
    refine Ev.ite (fun g=>?_) (fun g=>?_)
    · rw [if_pos g];exact Ev.now _
    · rw [if_neg g]
      exact ih (i + 1) _ (by omega) (by omega) (by rw [List.length_append,List.length_singleton];omega)
theorem spec_need (F : List Int) (L T S : Int) (hS : 1 ≤ S ∧ S ≤ 100000) (hF : ∀ x ∈ F,0 ≤ x ∧ x ≤ 200000) (h4 : (F.length : Int) ≤ 4) : ∀ (d : Nat) (i : Int) (a : List Int),0 ≤ i → i + d = (F.length : Int) → (a.length : Int) ≤ i → Ev (fun k=>spec_LashingsNeeded.l0 k a F i L T S) (need F S d i a):=by
  intro d
  induction d with
  | zero =>
    intro i a i0 hd ha
    refine Ev.step (fun k=>by rw [spec_LashingsNeeded.l0]) ?_
    simp (disch:=omega) only [if_neg]
    exact Ev.now _
  | succ d ih =>
    intro i a i0 hd ha
    have m:=hF _ (rd_mem F i i0 (by omega))
    have t:=tdiv_bd (rd F i + S - 1) S (by omega) (by omega) (by omega)
    refine Ev.step (fun k=>by rw [spec_LashingsNeeded.l0]) ?_
    simp (disch:=omega) only [if_pos,if_neg,wrap64_id]
    rw [need_succ]
    refine Ev.ite (fun g=>?_) (fun g=>?_)
    · rw [if_pos g];exact Ev.now _
    · rw [if_neg g]
      exact ih (i + 1) _ (by omega) (by omega) (by rw [List.length_append,List.length_singleton];omega)
noncomputable def needR (l : List Int) (L T S : Int) : List Int × Bool:=chk (Lashed l L T S) (need (forcesTo l T l.length) S l.length 0 []) ([],false)
theorem impl_LashN (l : List Int) (L T S : Int) : Ev (fun k=>impl_LashingsNeeded.f k l L T S) (needR l L T S):=by
  unfold impl_LashingsNeeded.f needR
  simp only [impl_lashed,Option.bind_some]
  refine Ev.ite (fun h=>?_) (fun h=>?_)
  · have h:=chk_true.1 h
    rw [chk_pos h]
    have h4:=h.1.1
    have fl:=forces_len l T l.length
    refine Ev.bind (impl_forces L T S h.1 h.2.2.1) ?_
    exact impl_need _ L T S h.2.2.2 (forces_mem h.1 T h.2.2.1 l.length (Nat.le_refl _)) (by omega) l.length 0 [] (by omega) (by omega) (by simp)
  · rw [chk_neg (fun m=>h (chk_true.2 m))];exact Ev.now _
theorem spec_LashN (l : List Int) (hl : (l.length : Int) ≤ 1099511627776) (L T S : Int) : Ev (fun k=>spec_LashingsNeeded.f k l L T S) (needR l L T S):=by
  have no : ¬ Lashed l L T S → Ev (fun k=>spec_LashingsNeeded.j0 k l [] true L T S) (needR l L T S):=by
    intro h
    unfold needR
    rw [chk_neg h]
    refine Ev.step (fun k=>by rw [spec_LashingsNeeded.j0]) ?_
    simp only [if_true];exact Ev.now _
  unfold spec_LashingsNeeded.f
  simp only [Option.bind_some]
  refine Ev.bind (spec_col l hl) ?_
  refine Ev.ite (fun h=>?_) (fun h=>no (fun m=>h (chk_true.2 m.1)))
  have h:=chk_true.1 h
  simp only [spec_rules,Option.bind_some]
  by_cases g : Rules L T S
  · rw [chk_pos g]
    refine Ev.step (fun k=>by rw [spec_LashingsNeeded.j0]) ?_
    simp only [Bool.not_true,Bool.false_eq_true,if_false]
    refine Ev.bind (spec_forces T h g.2.1) ?_
    unfold needR
    rw [chk_pos (show Lashed l L T S from ⟨h,g⟩)]
    have h4:=h.1
    have fl:=forces_len l T l.length
    exact spec_need _ L T S g.2.2 (forces_mem h T g.2.1 l.length (Nat.le_refl _)) (by omega) l.length 0 [] (by omega) (by omega) (by simp)
  · rw [chk_neg g]
    exact no (fun m=>g m.2)

/-- All lists of numbers below n that begin with some, d more to come. -/
def chIn (f : List Int → List (List Int)) (dv : List Int) : Nat → Int → List (List Int)
  | 0,_=>[]
  | r + 1,k=>f (dv ++ [k]) ++ chIn f dv r (k + 1)
def chs (n : Nat) : Nat → List Int → List (List Int)
  | 0,dv=>[dv]
  | d + 1,dv=>chIn (chs n d) dv n 0
theorem rd_left (xs ys : List Int) (k : Int) (h0 : 0 ≤ k) (h1 : k < (xs.length : Int)) : rd (xs ++ ys) k = rd xs k:=by
  unfold rd
  rw [List.getD_eq_getElem?_getD,List.getD_eq_getElem?_getD,List.getElem?_append_left (by omega)]
theorem rd_last (xs : List Int) (x : Int) : rd (xs ++ [x]) (xs.length : Int) = x:=by
  unfold rd
  rw [List.getD_eq_getElem?_getD,List.getElem?_append_right (by omega),show ((xs.length : Int)).toNat - xs.length = 0 from by omega]
  rfl
theorem chs_begin (n : Nat) : ∀ (d : Nat) (dv l : List Int),l ∈ chs n d dv → ∃ q,l = dv ++ q ∧ q.length = d:=by
  intro d
  induction d with
  | zero =>
    intro dv l h
    refine ⟨[],?_,rfl⟩
    simpa [chs] using h
  | succ d ih =>
    intro dv l h
    have go : ∀ (r : Nat) (k : Int),l ∈ chIn (chs n d) dv r k → ∃ q,l = dv ++ q ∧ q.length = d + 1:=by
      intro r
      induction r with
      | zero=>intro k h;cases h
      | succ r ihr =>
        intro k h
        rcases List.mem_append.1 h with h|h
        · obtain ⟨q,e,hq⟩:=ih _ _ h
          exact ⟨k :: q,by rw [e,List.append_assoc];rfl,by rw [List.length_cons,hq]⟩
        · exact ihr _ h
    exact go n 0 h
end Go.Proofs.Ytcgfedaoimhejaa.G

/- What a division of weights into columns makes, and that a search with a bound finds the first best one of all. -/
namespace Go.Proofs.Ytcgfedaoimhejaa.G
open Go.RowKit Go.Proofs.YtcgfedaoimhejaaW.PrintWords Go.Proofs.YtcgfedaoimhejaaW.PrintLast
set_option linter.unusedVariables false
set_option linter.unusedSimpArgs false
/-- The weights of column k among the first i. -/
def colTo (ws dv : List Int) (k : Int) : Nat → List Int
  | 0=>[]
  | i + 1=>if rd dv i = k then colTo ws dv k i ++ [rd ws i] else colTo ws dv k i
def colOf (ws dv : List Int) (k : Int) : List Int:=colTo ws dv k dv.length
def colsTo (ws dv : List Int) (n i : Nat) : List (List Int):=(List.range n).map (fun k : Nat=>colTo ws dv (k : Int) i)
def colsOf (ws dv : List Int) (n : Nat) : List (List Int):=colsTo ws dv n dv.length
def colSum (ws dv : List Int) (k : Int) : Int:=tot (colOf ws dv k) 0 (colOf ws dv k).length
def mostTo (ws dv : List Int) : Nat → Int
  | 0=>0
  | k + 1=>mx (mostTo ws dv k) (colSum ws dv (k : Int))
def Fits (ws dv : List Int) (n : Nat) : Prop := ∀ k : Nat,k < n → (colOf ws dv (k : Int)).length ≤ 4
def Wts (ws : List Int) : Prop:=ws.length ≤ 8 ∧ All (okW ws) 0 (ws.length : Int)
theorem colTo_len (ws dv : List Int) (k : Int) : ∀ i : Nat,(colTo ws dv k i).length ≤ i
  | 0=>by simp [colTo]
  | i + 1=>by
    have:=colTo_len ws dv k i
    rw [colTo]
    split
    · rw [List.length_append,List.length_singleton];omega
    · omega
theorem colTo_mem (ws dv : List Int) (k : Int) : ∀ i : Nat,∀ x ∈ colTo ws dv k i,∃ j : Nat,j < i ∧ x = rd ws j
  | 0,x,h=>by simp [colTo] at h
  | i + 1,x,h=>by
    rw [colTo] at h
    split at h
    · rcases List.mem_append.1 h with h|h
      · obtain ⟨j,hj,e⟩:=colTo_mem ws dv k i x h
        exact ⟨j,by omega,e⟩
      · exact ⟨i,by omega,List.mem_singleton.1 h⟩
    · obtain ⟨j,hj,e⟩:=colTo_mem ws dv k i x h
      exact ⟨j,by omega,e⟩
theorem colTo_left (ws dv q : List Int) (k : Int) : ∀ i : Nat,i ≤ dv.length → colTo ws (dv ++ q) k i = colTo ws dv k i
  | 0,_=>rfl
  | i + 1,h=>by rw [colTo,colTo,colTo_left ws dv q k i (by omega),rd_left dv q (i : Int) (by omega) (by omega)]
theorem colTo_grow (ws dv : List Int) (k : Int) (i : Nat) : ∀ d : Nat,∃ e,colTo ws dv k (i + d) = colTo ws dv k i ++ e
  | 0=>⟨[],by simp⟩
  | d + 1=>by
    obtain ⟨e,he⟩:=colTo_grow ws dv k i d
    rw [show i + (d + 1) = i + d + 1 by omega,colTo]
    split
    · exact ⟨e ++ [rd ws ((i + d : Nat) : Int)],by rw [he,List.append_assoc]⟩
    · exact ⟨e,he⟩
theorem colOf_ext (ws dv q : List Int) (k : Int) : ∃ e,colOf ws (dv ++ q) k = colOf ws dv k ++ e:=by
  obtain ⟨e,he⟩:=colTo_grow ws (dv ++ q) k dv.length q.length
  refine ⟨e,?_⟩
  unfold colOf
  rw [List.length_append,he,colTo_left ws dv q k _ (Nat.le_refl _)]
theorem rd_right (xs ys : List Int) (j : Nat) : rd (xs ++ ys) ((xs.length : Int) + (j : Int)) = rd ys (j : Int):=by
  unfold rd
  rw [List.getD_eq_getElem?_getD,List.getD_eq_getElem?_getD,List.getElem?_append_right (by omega)]
  congr 2
  omega
theorem tot_left (a e : List Int) : ∀ d : Nat,d ≤ a.length → tot (a ++ e) 0 d = tot a 0 d
  | 0,_=>rfl
  | d + 1,h=>by rw [tot_succ,tot_succ,tot_left a e d (by omega),rd_left a e (0 + (d : Int)) (by omega) (by omega)]
theorem tot_app (a e : List Int) : ∀ d : Nat,tot (a ++ e) 0 (a.length + d) = tot a 0 a.length + tot e 0 d
  | 0=>by
    have:=tot_left a e a.length (Nat.le_refl _)
    simpa [tot] using this
  | d + 1=>by
    rw [show a.length + (d + 1) = a.length + d + 1 by omega,tot_succ,tot_app a e d,tot_succ]
    have:=rd_right a e d
    rw [show (0 : Int) + ((a.length + d : Nat) : Int) = (a.length : Int) + (d : Int) by omega,this,show (0 : Int) + (d : Int) = (d : Int) by omega]
    omega
theorem tot_nn (l : List Int) (h : ∀ x ∈ l,0 ≤ x) : ∀ d : Nat,d ≤ l.length → 0 ≤ tot l 0 d
  | 0,_=>by simp [tot]
  | d + 1,hd=>by
    have h1:=tot_nn l h d (by omega)
    have h2:=h _ (rd_mem l (0 + (d : Int)) (by omega) (by omega))
    rw [tot_succ]
    omega
theorem tot_up (l : List Int) (B : Int) (h : ∀ x ∈ l,x ≤ B) : ∀ d : Nat,d ≤ l.length → tot l 0 d ≤ B * (d : Int)
  | 0,_=>by simp [tot]
  | d + 1,hd=>by
    have h1:=tot_up l B h d (by omega)
    have h2:=h _ (rd_mem l (0 + (d : Int)) (by omega) (by omega))
    rw [tot_succ,show B * ((d + 1 : Nat) : Int) = B * (d : Int) + B by rw [Int.natCast_add,Int.mul_add];simp]
    omega
theorem mx_le (a b : Int) : a ≤ mx a b ∧ b ≤ mx a b:=by unfold mx;split <;> omega
theorem mx_mono {a b c d : Int} (h : a ≤ c) (k : b ≤ d) : mx a b ≤ mx c d:=by unfold mx;split <;> split <;> omega
theorem most_nn (ws dv : List Int) : ∀ n : Nat,0 ≤ mostTo ws dv n
  | 0=>Int.le_refl _
  | n + 1=>by
    have h1:=most_nn ws dv n
    have h2:=(mx_le (mostTo ws dv n) (colSum ws dv (n : Int))).1
    rw [mostTo]
    omega
theorem col_bd {ws : List Int} (hw : Wts ws) {dv : List Int} (hl : dv.length ≤ ws.length) (k : Int) : ∀ x ∈ colOf ws dv k,1 ≤ x ∧ x ≤ 32000:=fun x hx=>by
  obtain ⟨j,hj,rfl⟩:=colTo_mem ws dv k _ x hx
  exact hw.2 (j : Int) (by omega) (by omega)
theorem sum_grow {ws : List Int} (hw : Wts ws) {dv q : List Int} (hl : (dv ++ q).length ≤ ws.length) (k : Int) : colSum ws dv k ≤ colSum ws (dv ++ q) k:=by
  obtain ⟨e,he⟩:=colOf_ext ws dv q k
  have hb:=col_bd hw hl k
  unfold colSum
  rw [he] at hb ⊢
  rw [List.length_append,tot_app]
  have:=tot_nn e (fun x hx=>by have:=hb x (List.mem_append_right _ hx);omega) e.length (Nat.le_refl _)
  omega
theorem most_grow {ws : List Int} (hw : Wts ws) {dv q : List Int} (hl : (dv ++ q).length ≤ ws.length) : ∀ n : Nat,mostTo ws dv n ≤ mostTo ws (dv ++ q) n
  | 0=>Int.le_refl _
  | n + 1=>mx_mono (most_grow hw hl n) (sum_grow hw hl _)
theorem fits_less {ws dv q : List Int} {n : Nat} (h : Fits ws (dv ++ q) n) : Fits ws dv n:=fun k hk=>by
  obtain ⟨e,he⟩:=colOf_ext ws dv q (k : Int)
  have:=h k hk
  rw [he,List.length_append] at this
  omega
noncomputable def stepD (ws : List Int) (n : Nat) (s : List Int × Int) (l : List Int) : List Int × Int:=chk (Fits ws l n) (if s.2 < 0 ∨ mostTo ws l n < s.2 then (l,mostTo ws l n) else s) s
def Cut (ws : List Int) (n : Nat) (dv : List Int) (b : Int) : Prop := ¬ Fits ws dv n ∨ (0 ≤ b ∧ b ≤ mostTo ws dv n)
def splitIn (f : List Int → Int → List Int × Int) (dv : List Int) : Nat → Int → List Int × Int → List Int × Int
  | 0,_,s=>s
  | r + 1,k,s=>splitIn f dv r (k + 1) (if (s.2 < 0 ∧ 0 ≤ (f (dv ++ [k]) s.2).2) ∨ (f (dv ++ [k]) s.2).2 < s.2 then f (dv ++ [k]) s.2 else s)
noncomputable def splitOf (ws : List Int) (n : Nat) : Nat → List Int → Int → List Int × Int
  | 0,dv,b=>chk (Cut ws n dv b) ([],b) (dv,mostTo ws dv n)
  | d + 1,dv,b=>chk (Cut ws n dv b) ([],b) (splitIn (splitOf ws n d) dv n 0 ([],b))
theorem fold_same {α β : Type} (f : β → α → β) (s : β) : ∀ ls : List α,(∀ l ∈ ls,f s l = s) → ls.foldl f s = s
  | [],_=>rfl
  | l :: ls,h=>by rw [List.foldl_cons,h l List.mem_cons_self];exact fold_same f s ls (fun x hx=>h x (List.mem_cons_of_mem _ hx))
theorem split_fold {ws : List Int} (hw : Wts ws) (n : Nat) : ∀ (d : Nat) (dv : List Int) (s : List Int × Int),dv.length + d = ws.length →
    (((chs n d dv).foldl (stepD ws n) s = s ∧ splitOf ws n d dv s.2 = ([],s.2)) ∨ ((s.2 < 0 ∨ ((chs n d dv).foldl (stepD ws n) s).2 < s.2) ∧ 0 ≤ ((chs n d dv).foldl (stepD ws n) s).2 ∧ splitOf ws n d dv s.2 = (chs n d dv).foldl (stepD ws n) s)):=by
  have cut : ∀ (d : Nat) (dv : List Int) (s : List Int × Int),dv.length + d = ws.length → Cut ws n dv s.2 → (chs n d dv).foldl (stepD ws n) s = s:=by
    intro d dv s hd hc
    refine fold_same _ s _ (fun l hl=>?_)
    obtain ⟨q,rfl,hq⟩:=chs_begin n d dv l hl
    unfold stepD
    by_cases hf : Fits ws (dv ++ q) n
    · rw [chk_pos hf]
      refine if_neg (fun g=>?_)
      rcases hc with hc|hc
      · exact hc (fits_less hf)
      · have:=most_grow (q:=q) hw (by rw [List.length_append];omega) n (dv:=dv)
        omega
    · exact chk_neg hf _ _
  intro d
  induction d with
  | zero =>
    intro dv s hd
    by_cases hc : Cut ws n dv s.2
    · exact .inl ⟨cut 0 dv s hd hc,by rw [splitOf,chk_pos hc]⟩
    · right
      have hf : Fits ws dv n:=Classical.byContradiction (fun h=>hc (.inl h))
      have hb : s.2 < 0 ∨ mostTo ws dv n < s.2:=by
        have : ¬ (0 ≤ s.2 ∧ s.2 ≤ mostTo ws dv n):=fun h=>hc (.inr h)
        omega
      have e : (chs n 0 dv).foldl (stepD ws n) s = (dv,mostTo ws dv n):=by
        show stepD ws n s dv = _
        unfold stepD
        rw [chk_pos hf]
        exact if_pos hb
      rw [e]
      exact ⟨hb,most_nn ws dv n,by rw [splitOf,chk_neg hc]⟩
  | succ d ih =>
    intro dv s hd
    by_cases hc : Cut ws n dv s.2
    · exact .inl ⟨cut (d + 1) dv s hd hc,by rw [splitOf,chk_pos hc]⟩
    · have inner : ∀ (r : Nat) (k : Int) (s0 t : List Int × Int),t.2 = s0.2 →
          (((chIn (chs n d) dv r k).foldl (stepD ws n) s0 = s0 ∧ splitIn (splitOf ws n d) dv r k t = t) ∨ ((s0.2 < 0 ∨ ((chIn (chs n d) dv r k).foldl (stepD ws n) s0).2 < s0.2) ∧ 0 ≤ ((chIn (chs n d) dv r k).foldl (stepD ws n) s0).2 ∧ splitIn (splitOf ws n d) dv r k t = (chIn (chs n d) dv r k).foldl (stepD ws n) s0)):=by
        intro r
        induction r with
        | zero=>intro k s0 t ht;exact .inl ⟨rfl,rfl⟩
        | succ r ihr =>
          intro k s0 t ht
          rw [chIn,List.foldl_append,splitIn,ht]
          rcases ih (dv ++ [k]) s0 (by rw [List.length_append,List.length_singleton];omega) with ⟨h1,h2⟩|⟨h1,h2,h3⟩
          · rw [h1,h2,if_neg (by dsimp only;omega)]
            exact ihr (k + 1) s0 t ht
          · rw [h3]
            generalize hF : (chs n d (dv ++ [k])).foldl (stepD ws n) s0 = F at h1 h2 ⊢
            rw [if_pos (by omega)]
            rcases ihr (k + 1) F F rfl with ⟨g1,g2⟩|⟨g1,g2,g3⟩
            · rw [g1,g2];exact .inr ⟨h1,h2,rfl⟩
            · exact .inr ⟨by omega,g2,g3⟩
      rw [splitOf,chk_neg hc]
      exact inner n 0 s ([],s.2) rfl
theorem split_top {ws : List Int} (hw : Wts ws) (n : Nat) : splitOf ws n ws.length [] (-1) = (chs n ws.length []).foldl (stepD ws n) ([], -1):=by
  rcases split_fold hw n ws.length [] ([], -1) (by simp) with ⟨h1,h2⟩|⟨_,_,h3⟩
  · rw [h1];exact h2
  · exact h3
theorem chs_all (n : Nat) : ∀ (d : Nat) (dv q : List Int),q.length = d → (∀ x ∈ q,0 ≤ x ∧ x < (n : Int)) → dv ++ q ∈ chs n d dv:=by
  intro d
  induction d with
  | zero =>
    intro dv q hq _
    obtain rfl:=List.length_eq_zero_iff.1 hq
    simp [chs]
  | succ d ih =>
    intro dv q hq hx
    cases q with
    | nil=>simp at hq
    | cons x q =>
      have h1:=ih (dv ++ [x]) q (by simpa using hq) (fun y hy=>hx y (List.mem_cons_of_mem _ hy))
      have go : ∀ (r : Nat) (k : Int),k ≤ x → x < k + r → dv ++ x :: q ∈ chIn (chs n d) dv r k:=by
        intro r
        induction r with
        | zero=>intro k a b;omega
        | succ r ihr =>
          intro k a b
          rw [chIn]
          by_cases e : k = x
          · subst e
            refine List.mem_append_left _ ?_
            rw [List.append_assoc] at h1
            exact h1
          · exact List.mem_append_right _ (ihr (k + 1) (by omega) (by omega))
      have hx0:=hx x List.mem_cons_self
      exact go n 0 hx0.1 (by omega)
theorem chs_in (n : Nat) : ∀ (d : Nat) (dv l : List Int),l ∈ chs n d dv → (∀ x ∈ dv,0 ≤ x ∧ x < (n : Int)) → ∀ x ∈ l,0 ≤ x ∧ x < (n : Int):=by
  intro d
  induction d with
  | zero =>
    intro dv l h hd
    obtain rfl : l = dv:=by simpa [chs] using h
    exact hd
  | succ d ih =>
    intro dv l h hd
    have go : ∀ (r : Nat) (k : Int),0 ≤ k → k + r = (n : Int) → l ∈ chIn (chs n d) dv r k → ∀ x ∈ l,0 ≤ x ∧ x < (n : Int):=by
      intro r
      induction r with
      | zero=>intro k _ _ h;cases h
      | succ r ihr =>
        intro k k0 k1 h
        rcases List.mem_append.1 h with h|h
        · refine ih _ l h (fun x hx=>?_)
          rcases List.mem_append.1 hx with hx|hx
          · exact hd x hx
          · rw [List.mem_singleton.1 hx];omega
        · exact ihr (k + 1) (by omega) (by omega) h
    exact go n 0 (by omega) (by omega) h
/-- A division that fits. -/
def goodDv (m : Nat) : List Int:=(List.range m).map (fun i : Nat=>((i / 4 : Nat) : Int))
theorem rd_good (m i : Nat) (h : i < m) : rd (goodDv m) (i : Int) = ((i / 4 : Nat) : Int):=by
  unfold rd goodDv
  rw [Int.toNat_natCast,List.getD_eq_getElem?_getD,List.getElem?_map,List.getElem?_range h]
  rfl
theorem good_len (ws : List Int) (m k : Nat) : ∀ i : Nat,i ≤ m → (colTo ws (goodDv m) (k : Int) i).length = min (i - 4 * k) 4
  | 0,_=>by simp [colTo]
  | i + 1,h=>by
    have ih:=good_len ws m k i (by omega)
    rw [colTo,rd_good m i (by omega)]
    split
    · rw [List.length_append,List.length_singleton,ih];omega
    · rw [ih];omega
theorem good_fits (ws : List Int) (n : Nat) : Fits ws (goodDv ws.length) n:=fun k hk=>by
  unfold colOf
  rw [good_len ws ws.length k _ (by simp [goodDv])]
  omega
theorem step_nn (ws : List Int) (n : Nat) (s : List Int × Int) (l : List Int) (h : 0 ≤ s.2) : 0 ≤ (stepD ws n s l).2:=by
  unfold stepD
  by_cases hf : Fits ws l n
  · rw [chk_pos hf]
    split
    · exact most_nn ws l n
    · exact h
  · rw [chk_neg hf];exact h
theorem fold_nn (ws : List Int) (n : Nat) : ∀ (ls : List (List Int)) (s : List Int × Int),0 ≤ s.2 ∨ (∃ l ∈ ls,Fits ws l n) → 0 ≤ (ls.foldl (stepD ws n) s).2
  | [],s,h=>by
    rcases h with h|⟨l,hl,_⟩
    · exact h
    · cases hl
  | l :: ls,s,h=>by
    rw [List.foldl_cons]
    refine fold_nn ws n ls _ ?_
    rcases h with h|⟨l1,hl,hf⟩
    · exact .inl (step_nn ws n s l h)
    · rcases List.mem_cons.1 hl with rfl|hl
      · left
        unfold stepD
        rw [chk_pos hf]
        split
        · exact most_nn ws l1 n
        · omega
      · exact .inr ⟨l1,hl,hf⟩
noncomputable def foldD (ws : List Int) (n : Nat) : List Int × Int:=(chs n ws.length []).foldl (stepD ws n) ([], -1)
theorem foldD_nn {ws : List Int} {n : Nat} (hn : ws.length ≤ n * 4) : 0 ≤ (foldD ws n).2:=by
  refine fold_nn ws n _ _ (.inr ⟨goodDv ws.length,?_,good_fits ws n⟩)
  refine chs_all n ws.length [] (goodDv ws.length) (by simp [goodDv]) (fun x hx=>?_)
  obtain ⟨i,hi,rfl⟩:=List.mem_map.1 hx
  have:=List.mem_range.1 hi
  omega
theorem fold_inv (ws : List Int) (n : Nat) (all : List (List Int)) : ∀ (ls : List (List Int)) (s : List Int × Int),(∀ l ∈ ls,l ∈ all) → (s.2 < 0 ∨ (s.1 ∈ all ∧ Fits ws s.1 n ∧ s.2 = mostTo ws s.1 n)) → ((ls.foldl (stepD ws n) s).2 < 0 ∨ ((ls.foldl (stepD ws n) s).1 ∈ all ∧ Fits ws (ls.foldl (stepD ws n) s).1 n ∧ (ls.foldl (stepD ws n) s).2 = mostTo ws (ls.foldl (stepD ws n) s).1 n))
  | [],s,_,h=>h
  | l :: ls,s,ha,h=>by
    rw [List.foldl_cons]
    refine fold_inv ws n all ls _ (fun x hx=>ha x (List.mem_cons_of_mem _ hx)) ?_
    unfold stepD
    by_cases hf : Fits ws l n
    · rw [chk_pos hf]
      split
      · exact .inr ⟨ha l List.mem_cons_self,hf,rfl⟩
      · exact h
    · rw [chk_neg hf];exact h
theorem foldD_ok {ws : List Int} {n : Nat} (hn : ws.length ≤ n * 4) : (foldD ws n).1.length = ws.length ∧ (∀ x ∈ (foldD ws n).1,0 ≤ x ∧ x < (n : Int)) ∧ Fits ws (foldD ws n).1 n ∧ (foldD ws n).2 = mostTo ws (foldD ws n).1 n:=by
  have h0:=foldD_nn hn
  rcases fold_inv ws n (chs n ws.length []) (chs n ws.length []) ([], -1) (fun _ h=>h) (.inl (by decide)) with h|⟨h1,h2,h3⟩
  · unfold foldD at h0;omega
  · obtain ⟨q,e,hq⟩:=chs_begin n _ _ _ h1
    refine ⟨?_,chs_in n _ _ _ h1 (by simp),h2,h3⟩
    show ((chs n ws.length []).foldl (stepD ws n) ([], -1)).1.length = _
    rw [e,List.nil_append,hq]
/-- The same with the columns themselves. -/
noncomputable def stepC (ws : List Int) (n : Nat) (s : List (List Int) × Int) (l : List Int) : List (List Int) × Int:=chk (Fits ws l n) (if s.2 < 0 ∨ mostTo ws l n < s.2 then (colsOf ws l n,mostTo ws l n) else s) s
theorem fold_cols (ws : List Int) (n : Nat) : ∀ (ls : List (List Int)) (s : List Int × Int) (t : List (List Int) × Int),t.2 = s.2 → (0 ≤ s.2 → t.1 = colsOf ws s.1 n) → (ls.foldl (stepC ws n) t).2 = (ls.foldl (stepD ws n) s).2 ∧ (0 ≤ (ls.foldl (stepD ws n) s).2 → (ls.foldl (stepC ws n) t).1 = colsOf ws (ls.foldl (stepD ws n) s).1 n)
  | [],s,t,h,k=>⟨h,k⟩
  | l :: ls,s,t,h,k=>by
    rw [List.foldl_cons,List.foldl_cons]
    refine fold_cols ws n ls _ _ ?_ ?_
    · unfold stepC stepD
      by_cases hf : Fits ws l n
      · rw [chk_pos hf,chk_pos hf,h]
        split
        · rfl
        · exact h
      · rw [chk_neg hf,chk_neg hf];exact h
    · unfold stepC stepD
      by_cases hf : Fits ws l n
      · rw [chk_pos hf,chk_pos hf,h]
        split
        · exact fun _=>rfl
        · exact k
      · rw [chk_neg hf,chk_neg hf];exact k
noncomputable def foldC (ws : List Int) (n : Nat) : List (List Int) × Int:=(chs n ws.length []).foldl (stepC ws n) ([], -1)
theorem foldC_eq {ws : List Int} {n : Nat} (hn : ws.length ≤ n * 4) : foldC ws n = (colsOf ws (foldD ws n).1 n,(foldD ws n).2):=by
  have h:=fold_cols ws n (chs n ws.length []) ([], -1) ([], -1) rfl (fun h=>absurd h (by decide))
  have h1:=h.2 (foldD_nn hn)
  exact Prod.ext h1 h.1
def SplitOk (ws : List Int) (n : Int) : Prop:=Wts ws ∧ (1 ≤ n ∧ n ≤ 3) ∧ (ws.length : Int) ≤ n * 4
noncomputable def splitR (ws : List Int) (n : Int) : List (List Int) × Int × Bool:=chk (SplitOk ws n) ((foldC ws n.toNat).1,(foldC ws n.toNat).2,true) ([],0,false)
end Go.Proofs.Ytcgfedaoimhejaa.G

/- The reference's SplitColumns: the first best division of all. -/
namespace Go.Proofs.Ytcgfedaoimhejaa.G
open Go.RowKit Go.Proofs.YtcgfedaoimhejaaW.PrintWords Go.Proofs.YtcgfedaoimhejaaW.PrintLast
set_option linter.unusedVariables false
set_option linter.unusedSimpArgs false
theorem spec_mostEq (a b : Int) : spec_l1Most.f a b = some (mx a b):=by
  unfold spec_l1Most.f mx
  split <;> split <;> first|rfl|(congr 1;omega)
theorem own_eq (l : List Int) (h : (l.length : Int) ≤ 1048576) : spec_l1Own.f l = some l:=by
  unfold spec_l1Own.f
  simp only [Option.bind_some,List.length_nil,List.nil_append]
  rw [if_pos (by omega)]
theorem tot_bd9 {l : List Int} (hb : ∀ x ∈ l,1 ≤ x ∧ x ≤ 32000) (d : Nat) (hd : d ≤ l.length) : 0 ≤ tot l 0 d ∧ tot l 0 d ≤ 32000 * (d : Int) :=
  ⟨tot_nn l (fun x hx=>by have:=hb x hx;omega) d hd,tot_up l 32000 (fun x hx=>(hb x hx).2) d hd⟩
theorem impl_sumC {l : List Int} (h8 : l.length ≤ 8) (hb : ∀ x ∈ l,1 ≤ x ∧ x ≤ 32000) : Ev (fun k=>impl_sumOf.f k l) (tot l 0 l.length):=by
  unfold impl_sumOf.f
  have main : ∀ (d : Nat) (i : Nat),i + d = l.length → Ev (fun k=>impl_sumOf.l0 k (tot l 0 i) l (l.length : Int) (i : Int)) (tot l 0 l.length):=by
    intro d
    induction d with
    | zero =>
      intro i hi
      refine Ev.step (fun k=>by rw [impl_sumOf.l0]) ?_
      simp (disch:=omega) only [if_neg]
      rw [show i = l.length by omega]
      exact Ev.now _
    | succ d ih =>
      intro i hi
      have r:=ih (i + 1) (by omega)
      have b1:=tot_bd9 hb i (by omega)
      have b2:=tot_bd9 hb (i + 1) (by omega)
      rw [tot_succ,show (0 : Int) + (i : Int) = (i : Int) by omega] at r b2
      rw [show ((i + 1 : Nat) : Int) = (i : Int) + 1 by omega] at r
      refine Ev.step (fun k=>by rw [impl_sumOf.l0]) ?_
      simp (disch:=omega) only [if_pos,wrap64_id]
      exact r
  exact main l.length 0 (by omega)
theorem spec_sumC {l : List Int} (h8 : l.length ≤ 8) (hb : ∀ x ∈ l,1 ≤ x ∧ x ≤ 32000) : Ev (fun k=>spec_l12Sum.f k l 0) (tot l 0 l.length):=by
  unfold spec_l12Sum.f
  have main : ∀ (d : Nat) (i : Nat),i + d = l.length → Ev (fun k=>spec_l12Sum.l0 k l (tot l 0 i) (i : Int)) (tot l 0 l.length):=by
    intro d
    induction d with
    | zero =>
      intro i hi
      refine Ev.step (fun k=>by rw [spec_l12Sum.l0]) ?_
      simp (disch:=omega) only [if_neg]
      rw [show i = l.length by omega]
      exact Ev.now _
    | succ d ih =>
      intro i hi
      have r:=ih (i + 1) (by omega)
      have b1:=tot_bd9 hb i (by omega)
      have b2:=tot_bd9 hb (i + 1) (by omega)
      rw [tot_succ,show (0 : Int) + (i : Int) = (i : Int) by omega] at r b2
      rw [show ((i + 1 : Nat) : Int) = (i : Int) + 1 by omega] at r
      refine Ev.step (fun k=>by rw [spec_l12Sum.l0]) ?_
      simp (disch:=omega) only [if_pos,wrap64_id]
      exact r
  exact main l.length 0 (by omega)
theorem cols_succ (ws dv : List Int) (n i : Nat) : colsTo ws dv (n + 1) i = colsTo ws dv n i ++ [colTo ws dv (n : Int) i]:=by
  unfold colsTo
  rw [List.range_succ,List.map_append]
  rfl
theorem cols_len (ws dv : List Int) (n i : Nat) : (colsTo ws dv n i).length = n:=by simp [colsTo]
theorem rd_cols (ws dv : List Int) (n i k : Nat) (h : k < n) : rd_L1 (colsTo ws dv n i) (k : Int) = colTo ws dv (k : Int) i:=by
  unfold rd_L1 colsTo
  rw [Int.toNat_natCast,List.getD_eq_getElem?_getD,List.getElem?_map,List.getElem?_range h]
  rfl
theorem spec_columns {ws dv : List Int} (h8 : ws.length ≤ 8) (hl : dv.length ≤ ws.length) (n : Nat) (hn : n ≤ 3) : Ev (fun k=>spec_l12Columns.f k ws dv (n : Int)) (colsOf ws dv n):=by
  unfold spec_l12Columns.f
  have main : ∀ (d i : Nat),i + d = n → Ev (fun k=>spec_l12Columns.l0 k ws dv (n : Int) (colsTo ws dv i dv.length) (i : Int)) (colsOf ws dv n):=by
    intro d
    induction d with
    | zero =>
      intro i hi
      refine Ev.step (fun k=>by rw [spec_l12Columns.l0]) ?_
      simp (disch:=omega) only [if_neg]
      rw [show i = n by omega]
      exact Ev.now _
    | succ d ih =>
      intro i hi
      have r:=ih (i + 1) (by omega)
      rw [cols_succ,show ((i + 1 : Nat) : Int) = (i : Int) + 1 by omega] at r
      have hcl:=cols_len ws dv i dv.length
      have inner : ∀ (e j : Nat),j + e = dv.length → Ev (fun k=>spec_l12Columns.l1 k ws dv (n : Int) (colsTo ws dv i dv.length) (i : Int) (colTo ws dv (i : Int) j) (j : Int)) (colsOf ws dv n):=by
        intro e
        induction e with
        | zero =>
          intro j hj
          refine Ev.step (fun k=>by rw [spec_l12Columns.l1]) ?_
          simp (disch:=omega) only [if_neg,if_pos,wrap64_id]
          rw [show j = dv.length by omega]
          exact r
        | succ e ihe =>
          intro j hj
          have q:=ihe (j + 1) (by omega)
          have hc:=colTo_len ws dv (i : Int) j
          rw [colTo,show ((j + 1 : Nat) : Int) = (j : Int) + 1 by omega] at q
          refine Ev.step (fun k=>by rw [spec_l12Columns.l1]) ?_
          simp (disch:=omega) only [if_pos,wrap64_id]
          refine Ev.ite (fun g=>?_) (fun g=>?_)
          · rw [if_pos g] at q;exact q
          · rw [if_neg g] at q;exact q
      refine Ev.step (fun k=>by rw [spec_l12Columns.l0]) ?_
      simp (disch:=omega) only [if_pos]
      exact inner dv.length 0 (by omega)
  exact main n 0 (by omega)
theorem spec_mostD {ws dv : List Int} (hw : Wts ws) (hl : dv.length ≤ ws.length) (n : Nat) (hn : n ≤ 3) : Ev (fun k=>spec_l12Most.f k ws dv (n : Int)) (chk (Fits ws dv n) (mostTo ws dv n) (-1)):=by
  have h8:=hw.1
  unfold spec_l12Most.f
  refine Ev.bind (spec_columns h8 hl n hn) ?_
  have hcl:=cols_len ws dv n dv.length
  have main : ∀ (d i : Nat),i + d = n → Ev (fun k=>spec_l12Most.l0 k (n : Int) (mostTo ws dv i) (colsOf ws dv n) (i : Int)) (chk (∀ k : Nat,i ≤ k → k < n → (colOf ws dv (k : Int)).length ≤ 4) (mostTo ws dv n) (-1)):=by
    intro d
    induction d with
    | zero =>
      intro i hi
      refine Ev.step (fun k=>by rw [spec_l12Most.l0]) ?_
      simp (disch:=omega) only [if_neg]
      rw [chk_pos (fun k a b=>by omega),show i = n by omega]
      exact Ev.now _
    | succ d ih =>
      intro i hi
      have r:=ih (i + 1) (by omega)
      rw [show ((i + 1 : Nat) : Int) = (i : Int) + 1 by omega] at r
      have hcol : rd_L1 (colsOf ws dv n) (i : Int) = colOf ws dv (i : Int):=rd_cols ws dv n _ i (by omega)
      have hll : ((colsOf ws dv n).length : Int) = (n : Int):=by unfold colsOf;omega
      refine Ev.step (fun k=>by rw [spec_l12Most.l0]) ?_
      simp (disch:=omega) only [if_pos,hcol,wrap64_id]
      refine Ev.ite (fun g=>?_) (fun g=>?_)
      · rw [chk_neg (fun m=>by have:=m i (Nat.le_refl _) (by omega);omega)]
        exact Ev.now _
      · have hb:=col_bd hw hl (i : Int)
        refine Ev.bind (spec_sumC (by omega) hb) ?_
        simp only [spec_mostEq,Option.bind_some]
        rw [chk_congr (show (∀ k : Nat,i ≤ k → k < n → (colOf ws dv (k : Int)).length ≤ 4) ↔ (∀ k : Nat,i + 1 ≤ k → k < n → (colOf ws dv (k : Int)).length ≤ 4) from ⟨fun m k a b=>m k (by omega) b,fun m k a b=>by
          by_cases e : k = i
          · subst e;omega
          · exact m k (by omega) b⟩)]
        exact r
  have m:=main n 0 (by omega)
  rw [chk_congr (show (∀ k : Nat,0 ≤ k → k < n → (colOf ws dv (k : Int)).length ≤ 4) ↔ Fits ws dv n from ⟨fun m k b=>m k (Nat.zero_le _) b,fun m k _ b=>m k b⟩)] at m
  exact m
theorem spec_split {ws : List Int} (hw : Wts ws) (n : Nat) (hn : n ≤ 3) : ∀ (d : Nat) (dv : List Int) (b : Int),dv.length + d = ws.length → Ev (fun k=>spec_l12Split.f k ws (n : Int) dv b) (splitOf ws n d dv b):=by
  have h8:=hw.1
  have outer : ∀ (d : Nat) (dv : List Int) (b : Int) (R : List Int × Int),dv.length + d = ws.length → (¬ Cut ws n dv b → Ev (fun k=>spec_l12Split.j0 k ws (n : Int) dv b (mostTo ws dv n) false) R) → Ev (fun k=>spec_l12Split.f k ws (n : Int) dv b) (chk (Cut ws n dv b) ([],b) R):=by
    intro d dv b R hd h
    have hnn:=most_nn ws dv n
    have yes : ∀ x,Ev (fun k=>spec_l12Split.j0 k ws (n : Int) dv b x true) ([],b):=fun x=>by
      refine Ev.step (fun k=>by rw [spec_l12Split.j0]) ?_
      simp only [if_true]
      exact Ev.now _
    refine Ev.step (fun k=>by rw [spec_l12Split.f]) ?_
    refine Ev.bind (spec_mostD hw (by omega) n hn) ?_
    by_cases hf : Fits ws dv n
    · rw [chk_pos hf]
      simp (disch:=omega) only [if_neg]
      refine Ev.ite (fun g=>?_) (fun g=>?_)
      · by_cases g2 : mostTo ws dv n ≥ b
        · rw [chk_pos (.inr ⟨g,g2⟩),decide_eq_true g2];exact yes _
        · have hc : ¬ Cut ws n dv b:=fun m=>m.elim (fun q=>q hf) (fun q=>g2 q.2)
          rw [chk_neg hc,decide_eq_false g2];exact h hc
      · have hc : ¬ Cut ws n dv b:=fun m=>m.elim (fun q=>q hf) (fun q=>g q.1)
        rw [chk_neg hc];exact h hc
    · rw [chk_neg hf,chk_pos (.inl hf)]
      simp (disch:=omega) only [if_pos]
      exact yes _
  intro d
  induction d with
  | zero =>
    intro dv b hd
    rw [splitOf]
    refine outer 0 dv b _ hd (fun _=>?_)
    refine Ev.step (fun k=>by rw [spec_l12Split.j0]) ?_
    simp (disch:=omega) only [Bool.false_eq_true,if_false,if_pos]
    exact Ev.now _
  | succ d ih =>
    intro dv b hd
    rw [splitOf]
    refine outer (d + 1) dv b _ hd (fun _=>?_)
    refine Ev.step (fun k=>by rw [spec_l12Split.j0]) ?_
    simp (disch:=omega) only [Bool.false_eq_true,if_false,if_neg]
    have main : ∀ (r : Nat) (k : Int) (s : List Int × Int),0 ≤ k → k + r = (n : Int) → Ev (fun m=>spec_l12Split.l0 m ws (n : Int) dv s.2 s.1 k) (splitIn (splitOf ws n d) dv r k s):=by
      intro r
      induction r with
      | zero =>
        intro k s k0 hk
        refine Ev.step (fun m=>by rw [spec_l12Split.l0]) ?_
        simp (disch:=omega) only [if_neg]
        exact Ev.now _
      | succ r ihr =>
        intro k s k0 hk
        refine Ev.step (fun m=>by rw [spec_l12Split.l0]) ?_
        rw [own_eq dv (by omega)]
        simp (disch:=omega) only [if_pos,Option.bind_some,wrap64_id]
        refine Ev.bind (ih (dv ++ [k]) s.2 (by rw [List.length_append,List.length_singleton];omega)) ?_
        rw [splitIn]
        refine Ev.ite (fun g1=>?_) (fun g1=>?_)
        · refine Ev.ite (fun g2=>?_) (fun g2=>?_)
          · rw [if_pos (.inl ⟨g1,g2⟩)];exact ihr (k + 1) _ (by omega) (by omega)
          · refine Ev.ite (fun g3=>?_) (fun g3=>?_)
            · rw [if_pos (.inr g3)];exact ihr (k + 1) _ (by omega) (by omega)
            · rw [if_neg (fun m=>m.elim (fun q=>g2 q.2) g3)];exact ihr (k + 1) _ (by omega) (by omega)
        · refine Ev.ite (fun g3=>?_) (fun g3=>?_)
          · rw [if_pos (.inr g3)];exact ihr (k + 1) _ (by omega) (by omega)
          · rw [if_neg (fun m=>m.elim (fun q=>g1 q.1) g3)];exact ihr (k + 1) _ (by omega) (by omega)
    exact main n 0 ([],b) (by omega) (by omega)
theorem spec_wts (ws : List Int) (hl : (ws.length : Int) ≤ 1099511627776) : Ev (fun k=>spec_l12Weights.f k ws 8) (chk (Wts ws) true false):=by
  unfold spec_l12Weights.f
  have h:=Ev.check (fun k i=>spec_l12Weights.l0 k ws 8 i) (ws.length : Int) (okW ws) (decide ((ws.length : Int) ≤ 8)) false 0 (by
    refine Ev.step (fun k=>by rw [spec_l12Weights.l0]) ?_
    simp only [Int.lt_irrefl,if_false]
    exact Ev.now _) (by
    intro i h0 hlt r hr
    refine Ev.step (fun k=>by rw [spec_l12Weights.l0]) ?_
    simp (disch:=omega) only [if_pos,wrap64_id,spec_l1In_eq,Option.bind_some,decide_eq_true_eq]
    refine Ev.ite (fun g=>?_) (fun g=>?_)
    · rw [chk_pos (show okW ws i from g)];exact hr
    · rw [chk_neg (show ¬ okW ws i from g)];exact Ev.now _) 0 (by omega) (by omega)
  refine Ev.eq h ?_
  by_cases ha : All (okW ws) 0 (ws.length : Int)
  · rw [chk_pos ha]
    by_cases h4 : (ws.length : Int) ≤ 8
    · rw [decide_eq_true h4,chk_pos (show Wts ws from ⟨by omega,ha⟩)]
    · rw [decide_eq_false h4,chk_neg (fun m : Wts ws=>h4 (by have:=m.1;omega))]
  · rw [chk_neg ha,chk_neg (fun m : Wts ws=>ha m.2)]
theorem spec_splitR (ws : List Int) (hl : (ws.length : Int) ≤ 1099511627776) (n : Int) : Ev (fun k=>spec_SplitColumns.f k ws n) (splitR ws n):=by
  have no : ¬ SplitOk ws n → Ev (fun k=>spec_SplitColumns.j0 k ws n true) (splitR ws n):=by
    intro h
    unfold splitR
    rw [chk_neg h]
    refine Ev.step (fun k=>by rw [spec_SplitColumns.j0]) ?_
    simp only [if_true]
    exact Ev.now _
  unfold spec_SplitColumns.f
  refine Ev.bind (spec_wts ws hl) ?_
  by_cases hw : Wts ws
  · rw [chk_pos hw]
    simp only [if_true,spec_l1In_eq,Option.bind_some,decide_eq_true_eq]
    refine Ev.ite (fun g=>?_) (fun g=>no (fun m=>g m.2.1))
    rw [wrap64_id (x:=n * 4) (by omega) (by omega)]
    by_cases g2 : (ws.length : Int) > n * 4
    · rw [decide_eq_true g2]
      exact no (fun m=>by have:=m.2.2;omega)
    · rw [decide_eq_false g2]
      have hok : SplitOk ws n:=⟨hw,g,by omega⟩
      have h8:=hw.1
      obtain ⟨m,rfl⟩ : ∃ m : Nat,n = (m : Int):=⟨n.toNat,by omega⟩
      unfold splitR
      rw [chk_pos hok,Int.toNat_natCast,foldC_eq (by omega)]
      refine Ev.step (fun k=>by rw [spec_SplitColumns.j0]) ?_
      simp only [Bool.false_eq_true,if_false]
      refine Ev.bind (spec_split hw m (by omega) ws.length [] (-1) (by simp)) ?_
      rw [split_top hw m]
      have hF:=foldD_ok (n:=m) (ws:=ws) (by omega)
      refine Ev.bind (spec_columns h8 (show (foldD ws m).1.length ≤ ws.length by omega) m (by omega)) ?_
      exact Ev.now _
  · rw [chk_neg hw]
    simp only [Bool.false_eq_true,if_false]
    exact no (fun m=>hw m.1)
end Go.Proofs.Ytcgfedaoimhejaa.G
