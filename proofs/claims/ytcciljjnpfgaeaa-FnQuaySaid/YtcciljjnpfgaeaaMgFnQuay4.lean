/- Texts of the proof of FnQuay, joined in build order. -/
import Derived.Test.YtcciljjnpfgaeaaMgFnQuay1
import Derived.Test.YtcciljjnpfgaeaaMgFnQuay3
import Derived.Test.YtcciljjnpfgaeaaMgFnQuay2
-- Written by wip/tools/gen.py out of the translation (the kit's printer, one namespace a seat). Lean checks it.
namespace Go.Proofs.Ytcciljjnpfgaeaa.G
open Go.RowKit Go.Proofs.YtcciljjnpfgaeaaW.PrintWords Go.Proofs.YtcciljjnpfgaeaaW.PrintLast Go.Proofs.YtcciljjnpfgaeaaW.PrintMore
attribute [local go_sem] max2_int min2_int max_two min_two max_three min_three max_four min_four   -- for this text's walks alone
set_option linter.unusedVariables false
set_option linter.unusedSimpArgs false

/-! ### spec_l1Cur_ships: function 73 -/
mutual
def spec_l1Cur_ships.l0 : Nat → Int → List (S62) → Int → List Int → Int → Int → Option (Int × (List (S62)) × Int × Int)
 | 0,_,_,_,_,_,_=>none
 | k + 1,x4,x5,x6,x1000,x1001,x1002=>if x6 > 0 then ((spec_l1Cur_pick.f x1000 x1001 x1002 8).bind fun bt789=>((spec_l1Cur_pick.f x1000 bt789.2.1 bt789.2.2 12).bind fun bt792=>((spec_l1Cur_pick.f x1000 bt792.2.1 bt792.2.2 10).bind fun bt795=>((spec_l1Cur_pick.f x1000 bt795.2.1 bt795.2.2 4).bind fun bt798=>(if x5.length < 4398046511104 then (spec_l1Cur_ships.l0 k x4 (x5 ++ [(⟨wrap64 (2 + bt789.1),bt792.1,wrap64 (2 + bt795.1),wrap64 (1 + bt798.1)⟩ : S62)]) (wrap64 (x6 - 1)) x1000 bt798.2.1 bt798.2.2) else (none)))))) else ((spec_l1Cur_pick.f x1000 x1001 x1002 24).bind fun bt804=>(if bt804.1 = 0 then ((spec_l1Cur_among.f x1000 bt804.2.1 bt804.2.2 (([0,30,31,1] : List Int))).bind fun bt810=>(some (bt810.1,x5,bt810.2.1,bt810.2.2))) else (if bt804.1 = 1 then ((spec_l1Cur_among.f x1000 bt804.2.1 bt804.2.2 (([0,30,31] : List Int))).bind fun bt816=>((spec_l1Cur_among.f x1000 bt816.2.1 bt816.2.2 (([(-1),200,201,0] : List Int))).bind fun bt822=>((spec_l1Cur_among.f x1000 bt822.2.1 bt822.2.2 (([1,48,49,0] : List Int))).bind fun bt828=>((spec_l1Cur_among.f x1000 bt828.2.1 bt828.2.2 (([1,9,10,0] : List Int))).bind fun bt834=>(if x5.length < 4398046511104 then (some (x4,(x5 ++ [(⟨bt816.1,bt822.1,bt828.1,bt834.1⟩ : S62)]),bt834.2.1,bt834.2.2)) else (none)))))) else (if bt804.1 = 2 then (spec_l1Cur_ships.l1 k x4 x5 0 x1000 bt804.2.1 bt804.2.2) else (some (x4,x5,bt804.2.1,bt804.2.2))))))
def spec_l1Cur_ships.l1 : Nat → Int → List (S62) → Int → List Int → Int → Int → Option (Int × (List (S62)) × Int × Int)
 | 0,_,_,_,_,_,_=>none
 | k + 1,x4,x5,x7,x1000,x1001,x1002=>(spec_l1Cur_pick.f x1000 x1001 x1002 2).bind fun bt840=>(if (x5.length : Int) < (wrap64 (5 + bt840.1)) then (if x7 < 7 then (if x5.length < 4398046511104 then (spec_l1Cur_ships.l1 k x4 (x5 ++ [(⟨4,x7,3,1⟩ : S62)]) (wrap64 (x7 + 1)) x1000 bt840.2.1 bt840.2.2) else (none)) else (some (x4,x5,bt840.2.1,bt840.2.2))) else (some (x4,x5,bt840.2.1,bt840.2.2)))
end
def spec_l1Cur_ships.f (k : Nat) (s0_0 : List Int) (s0_1 : Int) (s0_2 : Int) : Option (Int × (List (S62)) × Int × Int):=(spec_l1Cur_among.f s0_0 s0_1 s0_2 (([10,12,15,20] : List Int))).bind fun bt780=>((spec_l1Cur_pick.f s0_0 bt780.2.1 bt780.2.2 5).bind fun bt786=>(spec_l1Cur_ships.l0 k bt780.1 (([] : List (S62))) bt786.1 s0_0 bt786.2.1 bt786.2.2))
theorem spec_l1Cur_ships.mono_l : ∀ k,(∀ y0 y1 y2 y3 y4 y5,LeO (spec_l1Cur_ships.l0 k y0 y1 y2 y3 y4 y5) (spec_l1Cur_ships.l0 (k + 1) y0 y1 y2 y3 y4 y5)) ∧ (∀ y0 y1 y2 y3 y4 y5,LeO (spec_l1Cur_ships.l1 k y0 y1 y2 y3 y4 y5) (spec_l1Cur_ships.l1 (k + 1) y0 y1 y2 y3 y4 y5))
 | 0=>⟨fun _ _ _ _ _ _ r h=>by simp [spec_l1Cur_ships.l0] at h,fun _ _ _ _ _ _ r h=>by simp [spec_l1Cur_ships.l1] at h⟩
 | k + 1=>by
  obtain ⟨ih0,ih1⟩:=spec_l1Cur_ships.mono_l k
  refine ⟨?_,?_⟩
  ·intro y0 y1 y2 y3 y4 y5
   unfold spec_l1Cur_ships.l0
   repeat' first
   | (with_reducible exact ih0 _ _ _ _ _ _)
   | (with_reducible exact ih1 _ _ _ _ _ _)
   | (with_reducible exact LeO.refl _)
   | (with_reducible exact LeO.none _)
   | (with_reducible refine LeO.ite ?_ ?_)
   | (with_reducible refine LeO.bind ?_ (fun _=>?_))
   | exact ih0 _ _ _ _ _ _
   | exact ih1 _ _ _ _ _ _
   | exact LeO.none _
   | refine LeO.ite ?_ ?_
   | refine LeO.bind ?_ (fun _=>?_)
  ·intro y0 y1 y2 y3 y4 y5
   unfold spec_l1Cur_ships.l1
   repeat' first
   | (with_reducible exact ih0 _ _ _ _ _ _)
   | (with_reducible exact ih1 _ _ _ _ _ _)
   | (with_reducible exact LeO.refl _)
   | (with_reducible exact LeO.none _)
   | (with_reducible refine LeO.ite ?_ ?_)
   | (with_reducible refine LeO.bind ?_ (fun _=>?_))
   | exact ih0 _ _ _ _ _ _
   | exact ih1 _ _ _ _ _ _
   | exact LeO.none _
   | refine LeO.ite ?_ ?_
   | refine LeO.bind ?_ (fun _=>?_)
theorem spec_l1Cur_ships.mono : ∀ a0 a1 a2 k,LeO (spec_l1Cur_ships.f k a0 a1 a2) (spec_l1Cur_ships.f (k + 1) a0 a1 a2):=by
 intro a0 a1 a2 k
 obtain ⟨ih0,ih1⟩:=spec_l1Cur_ships.mono_l k
 unfold spec_l1Cur_ships.f
 repeat' first
   | (with_reducible exact ih0 _ _ _ _ _ _)
   | (with_reducible exact ih1 _ _ _ _ _ _)
   | (with_reducible exact LeO.refl _)
   | (with_reducible exact LeO.none _)
   | (with_reducible refine LeO.ite ?_ ?_)
   | (with_reducible refine LeO.bind ?_ (fun _=>?_))
   | exact ih0 _ _ _ _ _ _
   | exact ih1 _ _ _ _ _ _
   | exact LeO.none _
   | refine LeO.ite ?_ ?_
   | refine LeO.bind ?_ (fun _=>?_)
set_option maxHeartbeats 8000000 in
set_option maxRecDepth 100000 in
theorem spec_l1Cur_ships.calls (k : Nat) (g : Nat) (s0_0 : List Int) (s0_1 : Int) (s0_2 : Int) (r1 : Int) (r2 : List (S62)) (r3 : Int) (r4 : Int) (w0 w : World) (hI : IsS90 w0 w g s0_0 s0_1 s0_2) (hB : Below w0.heap.size w0 w) (h : spec_l1Cur_ships.f k s0_0 s0_1 s0_2 = some (r1,r2,r3,r4)) :
  Calls Try.prog 73 #[.pointer (some ⟨g,0,none⟩)] w fun e w' => ∃ v1_ : Value,e = .returned (.tuple #[.int .i64 r1,v1_]) ∧ Kd.R k62 62 w' w.heap.size (fun _=>True) v1_ r2 ∧ IsS90 w0 w' g s0_0 r3 r4 ∧ Below w0.heap.size w0 w' ∧ KeepBut w w' g none:=by
 have hu62:=Try.underlying62
 have HI0:=zM hI
 have HK:=zM (KeepBut.refl w g none)
 have HL:=zM hB.size
 clear hI
 have HW0:=zM hB.size
 have HB:=zM hB
 clear hB
 have H : ((spec_l1Cur_among.f s0_0 s0_1 s0_2 (([10,12,15,20] : List Int))).bind fun bt780=>((spec_l1Cur_pick.f s0_0 bt780.2.1 bt780.2.2 5).bind fun bt786=>(spec_l1Cur_ships.l0 k bt780.1 (([] : List (S62))) bt786.1 s0_0 bt786.2.1 bt786.2.2))) = some (r1,r2,r3,r4):=h
 clear h
 obtain ⟨y777,hy777⟩ : ∃ y_ : List Int,y_ = (([10,12,15,20] : List Int)):=⟨_,rfl⟩
 replace H : ((spec_l1Cur_among.f s0_0 s0_1 s0_2 y777).bind fun bt780=>((spec_l1Cur_pick.f s0_0 bt780.2.1 bt780.2.2 5).bind fun bt786=>(spec_l1Cur_ships.l0 k bt780.1 (([] : List (S62))) bt786.1 s0_0 bt786.2.1 bt786.2.2))) = some (r1,r2,r3,r4):=by first|(rw [hy777];with_reducible exact H)|(have H2_:=(Option.bind_some _ _).symm.trans H;rw [hy777];with_reducible exact H2_)|(have H2_:=(Option.bind_some _ _).symm.trans H;with_reducible exact H2_)|with_reducible exact H|(rw [hy777];exact H)|exact H
 have Ny777:=zM hy777
 clear hy777
 replace H:=Option.bind_eq_some_iff.mp H
 obtain ⟨⟨t780,t781,t782⟩,A20,H⟩:=H
 replace H : ((spec_l1Cur_pick.f s0_0 t781 t782 5).bind fun bt786=>(spec_l1Cur_ships.l0 k t780 (([] : List (S62))) bt786.1 s0_0 bt786.2.1 bt786.2.2)) = some (r1,r2,r3,r4):=H
 have A2:=zM A20
 clear A20
 obtain ⟨y783,hy783⟩ : ∃ y_ : List (S62),y_ = (([] : List (S62))):=⟨_,rfl⟩
 replace H : ((spec_l1Cur_pick.f s0_0 t781 t782 5).bind fun bt786=>(spec_l1Cur_ships.l0 k t780 y783 bt786.1 s0_0 bt786.2.1 bt786.2.2)) = some (r1,r2,r3,r4):=by first|(rw [hy783];with_reducible exact H)|(have H2_:=(Option.bind_some _ _).symm.trans H;rw [hy783];with_reducible exact H2_)|(have H2_:=(Option.bind_some _ _).symm.trans H;with_reducible exact H2_)|with_reducible exact H|(rw [hy783];exact H)|exact H
 have Ny783:=zM hy783
 clear hy783
 replace H:=Option.bind_eq_some_iff.mp H
 obtain ⟨⟨t786,t787,t788⟩,A30,H⟩:=H
 replace H : (spec_l1Cur_ships.l0 k t780 y783 t786 s0_0 t787 t788) = some (r1,r2,r3,r4):=H
 have A3:=zM A30
 clear A30
 have H':=zM H
 clear H
 go_enter Try.func73,Try.ntmps73
 go_wp2_with (first|((with_reducible refine gate_dst (N:=9) rfl ?_);refine Kd.R_lit (Kd.int .i64) _ 3 ?hg (N:=9) ?hd (xs:=([10,12,15,20] : List Int)) (inner:=[.int .i64 10,.int .i64 12,.int .i64 15,.int .i64 20]) (ok:=fun _=>True) (okp:=fun _=>True) ?hr ?hp (fun _ hk=>hk) trivial (Below.refl _ _) (Nat.le_refl _) (by simp) ?_;(case hd=>rfl);(case hg=>rfl);(case hr=>first|(go_simp;done)|(go_simp;rfl));(case hp=>exact (Reps.one (show Kd.M (Kd.int .i64) _ _ _ 10 [.int .i64 10] from rfl) (Reps.one (show Kd.M (Kd.int .i64) _ _ _ 12 [.int .i64 12] from rfl) (Reps.one (show Kd.M (Kd.int .i64) _ _ _ 15 [.int .i64 15] from rfl) (Reps.one (show Kd.M (Kd.int .i64) _ _ _ 20 [.int .i64 20] from rfl) (Reps.none _ _))))));intro v778 w4 ho5 hb hg_ hnew_;clear hg_ hnew_;(first|rw [← Ny777.out] at ho5|(simp only [Int.reduceToNat] at ho5;rw [← Ny777.out] at ho5));have n0_:=zM (Kd.R_lower ho5 (keep_size (w:=w) (g:=g) (row:=none) (by repeat (first|(with_reducible first|exact HK.out|apply KeepBut.set_|apply keep_drewN|apply keep_drew|apply keep_alloc)|exact HK.out))));have n1_:=zM (IsS90.below (by repeat (first|(with_reducible first|exact HI0.out|apply IsS90.alloc|apply IsS90.drewN|apply IsS90.drew|apply IsS90.set_1|apply IsS90.set_2)|exact HI0.out)) hb);have n2_:=zM (KeepBut.trans (by repeat (first|(with_reducible first|exact HK.out|apply KeepBut.set_|apply keep_drewN|apply keep_drew|apply keep_alloc)|exact HK.out)) (KeepBut.of_below hb g none) (.inl rfl));have n3_:=zM (zQ (by repeat (first|(with_reducible first|exact HB.out|apply zD|apply zE|apply zF|refine below_set ?_ (IsS90.ge HI0.out))|exact HB.out)) hb);clear HI0;clear HK;clear HB;have HO779:=n0_;have HI0:=n1_;have HK:=n2_;have HB:=n3_;clear n0_ n1_ n2_ n3_;clear hb ho5;obtain ⟨Ao6,co6,eo6⟩:=Kd.R_slice HO779.out;subst eo6)|((with_reducible refine gate_callee (f:=77) rfl ?_);refine goesL_ (some 10) rfl rfl Try.func77 (by kernel_rfl) rfl #[.pointer (some ⟨g,0,none⟩),.slice Ao6 y777.length co6] rfl (by (try simp only [List.map_toArray,List.map_cons,List.map_nil]);first|done|rfl|(simp only [List.length_drop,List.length_take];rfl)) ?_;(with_reducible refine (spec_l1Cur_among.calls g s0_0 s0_1 s0_2 _ _ y777 t780 t781 t782 w0 _ ?side1 ?side2 ?side3 ?side4 ?side5 A2.out).mono ?_);(case side1=>repeat (first|(with_reducible first|exact HI0.out|apply IsS90.alloc|apply IsS90.drewN|apply IsS90.drew|apply IsS90.set_1|apply IsS90.set_2)|exact HI0.out));(case side2=>repeat (first|(with_reducible first|exact HB.out|apply zD|apply zE|apply zF|refine below_set ?_ (IsS90.ge HI0.out))|exact HB.out));(case side3=>repeat (first|exact (zN HO779.out).2.2|(with_reducible refine zG ?_ _)|(with_reducible refine zH ?_ _)|(with_reducible refine zI ?_)));(case side4=>exact (zN HO779.out).2.1);(case side5=>exact far_slice (IsS90.own_ne HI0.out HO779.out (by decide)));rintro e w7 ⟨rfl,hi,hb,hk⟩;refine ⟨_,rfl,?_⟩;have n0_:=zM (Kd.R_mono (Kd.R_keep (IsS90.apart (show IsS90 w0 _ g s0_0 s0_1 s0_2 from by repeat (first|(with_reducible first|exact HI0.out|apply IsS90.alloc|apply IsS90.drewN|apply IsS90.drew|apply IsS90.set_1|apply IsS90.set_2)|exact HI0.out)) (by (with_reducible repeat (first|apply zA|apply zB|apply zC));exact HO779.out) (by decide)) hk (fun _ h=>h.2)) (fun _ h=>h.1));have n1_:=zM (KeepBut.trans (by repeat (first|(with_reducible first|exact HK.out|apply KeepBut.set_|apply keep_drewN|apply keep_drew|apply keep_alloc)|exact HK.out)) hk (.inl rfl));have n2_:=zM (hb);have n3_:=zM (hi);clear HO779;clear HK;clear HB;clear HI0;have HO779:=n0_;have HK:=n1_;have HB:=n2_;have HI0:=n3_;clear n0_ n1_ n2_ n3_;(try clear hb);(try clear hb2);(try clear hk);(try clear hi))|((with_reducible refine gate_dst (N:=11) rfl ?_);refine Kd.R_lit k62 _ 62 ?hg (N:=11) ?hd (xs:=([] : List (S62))) (inner:=[]) (ok:=fun _=>True) (okp:=fun _=>True) ?hr ?hp (fun _ hk=>hk) trivial (Below.refl _ _) (Nat.le_refl _) (by simp) ?_;(case hd=>rfl);(case hg=>rfl);(case hr=>first|(go_simp;done)|(go_simp;rfl));(case hp=>exact (Reps.none _ _));intro v784 w8 ho9 hb hg_ hnew_;clear hg_ hnew_;(first|rw [← Ny783.out] at ho9|(simp only [Int.reduceToNat] at ho9;rw [← Ny783.out] at ho9));have n0_:=zM (zP (by (with_reducible repeat (first|apply zA|apply zB|apply zC));exact HO779.out) hb);have n1_:=zM (Kd.R_lower ho9 (keep_size (w:=w) (g:=g) (row:=none) (by repeat (first|(with_reducible first|exact HK.out|apply KeepBut.set_|apply keep_drewN|apply keep_drew|apply keep_alloc)|exact HK.out))));have n2_:=zM (IsS90.below (by repeat (first|(with_reducible first|exact HI0.out|apply IsS90.alloc|apply IsS90.drewN|apply IsS90.drew|apply IsS90.set_1|apply IsS90.set_2)|exact HI0.out)) hb);have n3_:=zM (KeepBut.trans (by repeat (first|(with_reducible first|exact HK.out|apply KeepBut.set_|apply keep_drewN|apply keep_drew|apply keep_alloc)|exact HK.out)) (KeepBut.of_below hb g none) (.inl rfl));have n4_:=zM (zQ (by repeat (first|(with_reducible first|exact HB.out|apply zD|apply zE|apply zF|refine below_set ?_ (IsS90.ge HI0.out))|exact HB.out)) hb);clear HO779;clear HI0;clear HK;clear HB;have HO779:=n0_;have HO785:=n1_;have HI0:=n2_;have HK:=n3_;have HB:=n4_;clear n0_ n1_ n2_ n3_ n4_;clear hb ho9)|((with_reducible refine gate_callee (f:=74) rfl ?_);refine goesL_ (some 13) rfl rfl Try.func74 (by kernel_rfl) rfl #[.pointer (some ⟨g,0,none⟩),.int .i64 5] rfl (by (try simp only [List.map_toArray,List.map_cons,List.map_nil]);first|done|rfl|(simp only [List.length_drop,List.length_take];rfl)) ?_;(with_reducible refine (spec_l1Cur_pick.calls g s0_0 t781 t782 5 t786 t787 t788 w0 _ ?side1 ?side2 A3.out).mono ?_);(case side1=>repeat (first|(with_reducible first|exact HI0.out|apply IsS90.alloc|apply IsS90.drewN|apply IsS90.drew|apply IsS90.set_1|apply IsS90.set_2)|exact HI0.out));(case side2=>repeat (first|(with_reducible first|exact HB.out|apply zD|apply zE|apply zF|refine below_set ?_ (IsS90.ge HI0.out))|exact HB.out));rintro e w10 ⟨rfl,hi,hb,hk⟩;refine ⟨_,rfl,?_⟩;have n0_:=zM (Kd.R_mono (Kd.R_keep (IsS90.apart (show IsS90 w0 _ g s0_0 t781 t782 from by repeat (first|(with_reducible first|exact HI0.out|apply IsS90.alloc|apply IsS90.drewN|apply IsS90.drew|apply IsS90.set_1|apply IsS90.set_2)|exact HI0.out)) (by (with_reducible repeat (first|apply zA|apply zB|apply zC));exact HO779.out) (by decide)) hk (fun _ h=>h.2)) (fun _ h=>h.1));have n1_:=zM (Kd.R_mono (Kd.R_keep (IsS90.apart (show IsS90 w0 _ g s0_0 t781 t782 from by repeat (first|(with_reducible first|exact HI0.out|apply IsS90.alloc|apply IsS90.drewN|apply IsS90.drew|apply IsS90.set_1|apply IsS90.set_2)|exact HI0.out)) (by (with_reducible repeat (first|apply zA|apply zB|apply zC));exact HO785.out) (by decide)) hk (fun _ h=>h.2)) (fun _ h=>h.1));have n2_:=zM (KeepBut.trans (by repeat (first|(with_reducible first|exact HK.out|apply KeepBut.set_|apply keep_drewN|apply keep_drew|apply keep_alloc)|exact HK.out)) hk (.inl rfl));have n3_:=zM (hb);have n4_:=zM (hi);clear HO779;clear HO785;clear HK;clear HB;clear HI0;have HO779:=n0_;have HO785:=n1_;have HK:=n2_;have HB:=n3_;have HI0:=n4_;clear n0_ n1_ n2_ n3_ n4_;(try clear hb);(try clear hb2);(try clear hk);(try clear hi)))
 go_loopg [5,6] k (fun kq v5 v6 w' => ∃ (x5_1 : List (S62)) (x6_1 : Int) (x1001_1 : Int) (x1002_1 : Int),v6 = .int .i64 x6_1 ∧ Aside0 (spec_l1Cur_ships.l0 kq t780 x5_1 x6_1 s0_0 x1001_1 x1002_1 = some (r1,r2,r3,r4)) ∧ Aside0 (kq ≤ k) ∧ Aside0 (Kd.R k62 62 w' w.heap.size (fun _=>True) v5 x5_1) ∧ Aside0 (IsS90 w0 w' g s0_0 x1001_1 x1002_1) ∧ Aside0 (KeepBut w w' g none) ∧ Aside0 (Below w0.heap.size w0 w'))
 case atStart=>exact ⟨(y783),(t786),(t787),(t788),(by first|rfl|(simp;done)|(simp [*];done)),H',⟨Nat.le_refl _⟩,⟨by (with_reducible repeat (first|apply zA|apply zB|apply zC));exact HO785.out⟩,⟨by repeat (first|(with_reducible first|exact HI0.out|apply IsS90.alloc|apply IsS90.drewN|apply IsS90.drew|apply IsS90.set_1|apply IsS90.set_2)|exact HI0.out)⟩,⟨by repeat (first|(with_reducible first|exact HK.out|apply KeepBut.set_|apply keep_drewN|apply keep_drew|apply keep_alloc)|exact HK.out)⟩,⟨by repeat (first|(with_reducible first|exact HB.out|apply zD|apply zE|apply zF|refine below_set ?_ (IsS90.ge HI0.out))|exact HB.out)⟩⟩
 case round =>
  clear H'
  try clear p2
  try clear c7
  obtain ⟨x5_1,x6_1,x1001_1,x1002_1,rfl,HA,HK1,HO_5,HI0,HK,HB⟩:=hrel
  cases gk with
  | zero=>exact absurd HA.out (by simp [spec_l1Cur_ships.l0])
  | succ k1 =>
   have H:=HA.out
   clear HA
   simp only [spec_l1Cur_ships.l0] at H
   by_cases c11 : x6_1 > 0
   ·rw [if_pos c11] at H
    have c11b0 : decide (0 < x6_1) = true:=decide_eq_true c11
    clear c11
    replace H:=Option.bind_eq_some_iff.mp H
    obtain ⟨⟨t789,t790,t791⟩,A120,H⟩:=H
    replace H : ((spec_l1Cur_pick.f s0_0 t790 t791 12).bind fun bt792=>((spec_l1Cur_pick.f s0_0 bt792.2.1 bt792.2.2 10).bind fun bt795=>((spec_l1Cur_pick.f s0_0 bt795.2.1 bt795.2.2 4).bind fun bt798=>(if x5_1.length < 4398046511104 then (spec_l1Cur_ships.l0 k1 t780 (x5_1 ++ [(⟨wrap64 (2 + t789),bt792.1,wrap64 (2 + bt795.1),wrap64 (1 + bt798.1)⟩ : S62)]) (wrap64 (x6_1 - 1)) s0_0 bt798.2.1 bt798.2.2) else (none))))) = some (r1,r2,r3,r4):=H
    have A12:=zM A120
    clear A120
    replace H:=Option.bind_eq_some_iff.mp H
    obtain ⟨⟨t792,t793,t794⟩,A130,H⟩:=H
    replace H : ((spec_l1Cur_pick.f s0_0 t793 t794 10).bind fun bt795=>((spec_l1Cur_pick.f s0_0 bt795.2.1 bt795.2.2 4).bind fun bt798=>(if x5_1.length < 4398046511104 then (spec_l1Cur_ships.l0 k1 t780 (x5_1 ++ [(⟨wrap64 (2 + t789),t792,wrap64 (2 + bt795.1),wrap64 (1 + bt798.1)⟩ : S62)]) (wrap64 (x6_1 - 1)) s0_0 bt798.2.1 bt798.2.2) else (none)))) = some (r1,r2,r3,r4):=H
    have A13:=zM A130
    clear A130
    replace H:=Option.bind_eq_some_iff.mp H
    obtain ⟨⟨t795,t796,t797⟩,A140,H⟩:=H
    replace H : ((spec_l1Cur_pick.f s0_0 t796 t797 4).bind fun bt798=>(if x5_1.length < 4398046511104 then (spec_l1Cur_ships.l0 k1 t780 (x5_1 ++ [(⟨wrap64 (2 + t789),t792,wrap64 (2 + t795),wrap64 (1 + bt798.1)⟩ : S62)]) (wrap64 (x6_1 - 1)) s0_0 bt798.2.1 bt798.2.2) else (none))) = some (r1,r2,r3,r4):=H
    have A14:=zM A140
    clear A140
    replace H:=Option.bind_eq_some_iff.mp H
    obtain ⟨⟨t798,t799,t800⟩,A150,H⟩:=H
    replace H : (if x5_1.length < 4398046511104 then (spec_l1Cur_ships.l0 k1 t780 (x5_1 ++ [(⟨wrap64 (2 + t789),t792,wrap64 (2 + t795),wrap64 (1 + t798)⟩ : S62)]) (wrap64 (x6_1 - 1)) s0_0 t799 t800) else (none)) = some (r1,r2,r3,r4):=H
    have A15:=zM A150
    clear A150
    by_cases c16 : x5_1.length < 4398046511104
    ·rw [if_pos c16] at H
     have LMc16:=zM c16
     clear c16
     obtain ⟨y801,hy801⟩ : ∃ y_ : List (S62),y_ = (x5_1 ++ [(⟨wrap64 (2 + t789),t792,wrap64 (2 + t795),wrap64 (1 + t798)⟩ : S62)]):=⟨_,rfl⟩
     replace H : (spec_l1Cur_ships.l0 k1 t780 y801 (wrap64 (x6_1 - 1)) s0_0 t799 t800) = some (r1,r2,r3,r4):=by first|(rw [hy801];with_reducible exact H)|(have H2_:=(Option.bind_some _ _).symm.trans H;rw [hy801];with_reducible exact H2_)|(have H2_:=(Option.bind_some _ _).symm.trans H;with_reducible exact H2_)|with_reducible exact H|(rw [hy801];exact H)|exact H
     have Ny801:=zM hy801
     clear hy801
     have H':=zM H
     clear H
     go_wp2_with (first|((with_reducible refine gate_callee (f:=74) rfl ?_);refine goesL_ (some 20) rfl rfl Try.func74 (by kernel_rfl) rfl #[.pointer (some ⟨g,0,none⟩),.int .i64 8] rfl (by (try simp only [List.map_toArray,List.map_cons,List.map_nil]);first|done|rfl|(simp only [List.length_drop,List.length_take];rfl)) ?_;(with_reducible refine (spec_l1Cur_pick.calls g s0_0 x1001_1 x1002_1 8 t789 t790 t791 w0 _ ?side1 ?side2 A12.out).mono ?_);(case side1=>repeat (first|(with_reducible first|exact HI0.out|apply IsS90.alloc|apply IsS90.drewN|apply IsS90.drew|apply IsS90.set_1|apply IsS90.set_2)|exact HI0.out));(case side2=>repeat (first|(with_reducible first|exact HB.out|apply zD|apply zE|apply zF|refine below_set ?_ (IsS90.ge HI0.out))|exact HB.out));rintro e w17 ⟨rfl,hi,hb,hk⟩;refine ⟨_,rfl,?_⟩;have n0_:=zM (Kd.R_mono (Kd.R_keep (IsS90.apart (show IsS90 w0 _ g s0_0 x1001_1 x1002_1 from by repeat (first|(with_reducible first|exact HI0.out|apply IsS90.alloc|apply IsS90.drewN|apply IsS90.drew|apply IsS90.set_1|apply IsS90.set_2)|exact HI0.out)) (by (with_reducible repeat (first|apply zA|apply zB|apply zC));exact HO_5.out) (by decide)) hk (fun _ h=>h.2)) (fun _ h=>h.1));have n1_:=zM (KeepBut.trans (by repeat (first|(with_reducible first|exact HK.out|apply KeepBut.set_|apply keep_drewN|apply keep_drew|apply keep_alloc)|exact HK.out)) hk (.inl rfl));have n2_:=zM (hb);have n3_:=zM (hi);clear HO_5;clear HK;clear HB;clear HI0;have HO_5:=n0_;have HK:=n1_;have HB:=n2_;have HI0:=n3_;clear n0_ n1_ n2_ n3_;(try clear hb);(try clear hb2);(try clear hk);(try clear hi))|((with_reducible refine gate_callee (f:=74) rfl ?_);refine goesL_ (some 23) rfl rfl Try.func74 (by kernel_rfl) rfl #[.pointer (some ⟨g,0,none⟩),.int .i64 12] rfl (by (try simp only [List.map_toArray,List.map_cons,List.map_nil]);first|done|rfl|(simp only [List.length_drop,List.length_take];rfl)) ?_;(with_reducible refine (spec_l1Cur_pick.calls g s0_0 t790 t791 12 t792 t793 t794 w0 _ ?side1 ?side2 A13.out).mono ?_);(case side1=>repeat (first|(with_reducible first|exact HI0.out|apply IsS90.alloc|apply IsS90.drewN|apply IsS90.drew|apply IsS90.set_1|apply IsS90.set_2)|exact HI0.out));(case side2=>repeat (first|(with_reducible first|exact HB.out|apply zD|apply zE|apply zF|refine below_set ?_ (IsS90.ge HI0.out))|exact HB.out));rintro e w18 ⟨rfl,hi,hb,hk⟩;refine ⟨_,rfl,?_⟩;have n0_:=zM (Kd.R_mono (Kd.R_keep (IsS90.apart (show IsS90 w0 _ g s0_0 t790 t791 from by repeat (first|(with_reducible first|exact HI0.out|apply IsS90.alloc|apply IsS90.drewN|apply IsS90.drew|apply IsS90.set_1|apply IsS90.set_2)|exact HI0.out)) (by (with_reducible repeat (first|apply zA|apply zB|apply zC));exact HO_5.out) (by decide)) hk (fun _ h=>h.2)) (fun _ h=>h.1));have n1_:=zM (KeepBut.trans (by repeat (first|(with_reducible first|exact HK.out|apply KeepBut.set_|apply keep_drewN|apply keep_drew|apply keep_alloc)|exact HK.out)) hk (.inl rfl));have n2_:=zM (hb);have n3_:=zM (hi);clear HO_5;clear HK;clear HB;clear HI0;have HO_5:=n0_;have HK:=n1_;have HB:=n2_;have HI0:=n3_;clear n0_ n1_ n2_ n3_;(try clear hb);(try clear hb2);(try clear hk);(try clear hi))|((with_reducible refine gate_callee (f:=74) rfl ?_);refine goesL_ (some 25) rfl rfl Try.func74 (by kernel_rfl) rfl #[.pointer (some ⟨g,0,none⟩),.int .i64 10] rfl (by (try simp only [List.map_toArray,List.map_cons,List.map_nil]);first|done|rfl|(simp only [List.length_drop,List.length_take];rfl)) ?_;(with_reducible refine (spec_l1Cur_pick.calls g s0_0 t793 t794 10 t795 t796 t797 w0 _ ?side1 ?side2 A14.out).mono ?_);(case side1=>repeat (first|(with_reducible first|exact HI0.out|apply IsS90.alloc|apply IsS90.drewN|apply IsS90.drew|apply IsS90.set_1|apply IsS90.set_2)|exact HI0.out));(case side2=>repeat (first|(with_reducible first|exact HB.out|apply zD|apply zE|apply zF|refine below_set ?_ (IsS90.ge HI0.out))|exact HB.out));rintro e w19 ⟨rfl,hi,hb,hk⟩;refine ⟨_,rfl,?_⟩;have n0_:=zM (Kd.R_mono (Kd.R_keep (IsS90.apart (show IsS90 w0 _ g s0_0 t793 t794 from by repeat (first|(with_reducible first|exact HI0.out|apply IsS90.alloc|apply IsS90.drewN|apply IsS90.drew|apply IsS90.set_1|apply IsS90.set_2)|exact HI0.out)) (by (with_reducible repeat (first|apply zA|apply zB|apply zC));exact HO_5.out) (by decide)) hk (fun _ h=>h.2)) (fun _ h=>h.1));have n1_:=zM (KeepBut.trans (by repeat (first|(with_reducible first|exact HK.out|apply KeepBut.set_|apply keep_drewN|apply keep_drew|apply keep_alloc)|exact HK.out)) hk (.inl rfl));have n2_:=zM (hb);have n3_:=zM (hi);clear HO_5;clear HK;clear HB;clear HI0;have HO_5:=n0_;have HK:=n1_;have HB:=n2_;have HI0:=n3_;clear n0_ n1_ n2_ n3_;(try clear hb);(try clear hb2);(try clear hk);(try clear hi))|((with_reducible refine gate_callee (f:=74) rfl ?_);refine goesL_ (some 28) rfl rfl Try.func74 (by kernel_rfl) rfl #[.pointer (some ⟨g,0,none⟩),.int .i64 4] rfl (by (try simp only [List.map_toArray,List.map_cons,List.map_nil]);first|done|rfl|(simp only [List.length_drop,List.length_take];rfl)) ?_;(with_reducible refine (spec_l1Cur_pick.calls g s0_0 t796 t797 4 t798 t799 t800 w0 _ ?side1 ?side2 A15.out).mono ?_);(case side1=>repeat (first|(with_reducible first|exact HI0.out|apply IsS90.alloc|apply IsS90.drewN|apply IsS90.drew|apply IsS90.set_1|apply IsS90.set_2)|exact HI0.out));(case side2=>repeat (first|(with_reducible first|exact HB.out|apply zD|apply zE|apply zF|refine below_set ?_ (IsS90.ge HI0.out))|exact HB.out));rintro e w20 ⟨rfl,hi,hb,hk⟩;refine ⟨_,rfl,?_⟩;have n0_:=zM (Kd.R_mono (Kd.R_keep (IsS90.apart (show IsS90 w0 _ g s0_0 t796 t797 from by repeat (first|(with_reducible first|exact HI0.out|apply IsS90.alloc|apply IsS90.drewN|apply IsS90.drew|apply IsS90.set_1|apply IsS90.set_2)|exact HI0.out)) (by (with_reducible repeat (first|apply zA|apply zB|apply zC));exact HO_5.out) (by decide)) hk (fun _ h=>h.2)) (fun _ h=>h.1));have n1_:=zM (KeepBut.trans (by repeat (first|(with_reducible first|exact HK.out|apply KeepBut.set_|apply keep_drewN|apply keep_drew|apply keep_alloc)|exact HK.out)) hk (.inl rfl));have n2_:=zM (hb);have n3_:=zM (hi);clear HO_5;clear HK;clear HB;clear HI0;have HO_5:=n0_;have HK:=n1_;have HB:=n2_;have HI0:=n3_;clear n0_ n1_ n2_ n3_;(try clear hb);(try clear hb2);(try clear hk);(try clear hi))|((with_reducible refine gate_builtin (b := .append) (xs := #[.tmp 18,.tmp 31]) rfl ?_);at_builtin;refine Kd.R_append k62 w.heap.size rfl (.tmp 18) (.tmp 31) 27 62 (.agg #[(.int .i64 0),(.int .i64 0),(.int .i64 0),(.int .i64 0)]) 32 rfl Try.underlying27 info62 rfl (by decide) (by omega) u5 x5_1 (⟨wrap64 (2 + t789),t792,wrap64 (2 + t795),wrap64 (1 + t798)⟩ : S62) [.int .i64 (wrap64 (2 + t789)),.int .i64 t792,.int .i64 (wrap64 (2 + t795)),.int .i64 (wrap64 (1 + t798))] (fun _=>True) (fun _=>False) rfl rfl ?aP (fun _ hk=>hk.elim) ?aF ?aO (Below.refl _ _) ?aS ?aL ?_;(case aP=>exact k62_mkM _ _ _ (⟨wrap64 (2 + t789),t792,wrap64 (2 + t795),wrap64 (1 + t798)⟩ : S62));(case aF=>exact (fun _ _=>trivial));(case aO=>exact (by (with_reducible repeat (first|apply zA|apply zB|apply zC));exact HO_5.out));(case aS=>exact (keep_size (w:=w) (g:=g) (row:=none) (by repeat (first|(with_reducible first|exact HK.out|apply KeepBut.set_|apply keep_drewN|apply keep_drew|apply keep_alloc)|exact HK.out))));(case aL=>have:=LMc16.out;omega);intro v802 w21 ho hb hg hat;rw [← Ny801.out] at ho;have n0_:=zM (IsS90.grown (by repeat (first|(with_reducible first|exact HI0.out|apply IsS90.alloc|apply IsS90.drewN|apply IsS90.drew|apply IsS90.set_1|apply IsS90.set_2)|exact HI0.out)) hg (IsS90.own_ne HI0.out HO_5.out (by decide)));have n1_:=zM (below_weaken (by repeat (first|(with_reducible first|exact HB.out|apply zD|apply zE|apply zF|refine below_set ?_ (IsS90.ge HI0.out))|exact HB.out)) HL.out hb);have n2_:=zM (KeepBut.trans (by repeat (first|(with_reducible first|exact HK.out|apply KeepBut.set_|apply keep_drewN|apply keep_drew|apply keep_alloc)|exact HK.out)) (KeepBut.of_grown hg g) (Kd.R_base2 HO_5.out));have n3_:=zM (ho);clear HI0;clear HB;clear HK;clear HO_5;have HI0:=n0_;have HB:=n1_;have HK:=n2_;have HO803:=n3_;clear n0_ n1_ n2_ n3_;clear ho hb hg hat))
     go_roundg k1
     case measure=>have:=HK1.out;omega
     case rel=>exact ⟨(y801),(wrap64 (x6_1 - 1)),(t799),(t800),(by first|rfl|(simp;done)|(simp [*];done)),H',⟨by have:=HK1.out;omega⟩,⟨by (with_reducible repeat (first|apply zA|apply zB|apply zC));exact HO803.out⟩,⟨by repeat (first|(with_reducible first|exact HI0.out|apply IsS90.alloc|apply IsS90.drewN|apply IsS90.drew|apply IsS90.set_1|apply IsS90.set_2)|exact HI0.out)⟩,⟨by repeat (first|(with_reducible first|exact HK.out|apply KeepBut.set_|apply keep_drewN|apply keep_drew|apply keep_alloc)|exact HK.out)⟩,⟨by repeat (first|(with_reducible first|exact HB.out|apply zD|apply zE|apply zF|refine below_set ?_ (IsS90.ge HI0.out))|exact HB.out)⟩⟩
    ·rw [if_neg c16] at H
     exact absurd H (by simp)
   ·rw [if_neg c11] at H
    have c11b0 : decide (0 < x6_1) = false:=decide_eq_false c11
    clear c11
    replace H:=Option.bind_eq_some_iff.mp H
    obtain ⟨⟨t804,t805,t806⟩,A220,H⟩:=H
    replace H : (if t804 = 0 then ((spec_l1Cur_among.f s0_0 t805 t806 (([0,30,31,1] : List Int))).bind fun bt810=>(some (bt810.1,x5_1,bt810.2.1,bt810.2.2))) else (if t804 = 1 then ((spec_l1Cur_among.f s0_0 t805 t806 (([0,30,31] : List Int))).bind fun bt816=>((spec_l1Cur_among.f s0_0 bt816.2.1 bt816.2.2 (([(-1),200,201,0] : List Int))).bind fun bt822=>((spec_l1Cur_among.f s0_0 bt822.2.1 bt822.2.2 (([1,48,49,0] : List Int))).bind fun bt828=>((spec_l1Cur_among.f s0_0 bt828.2.1 bt828.2.2 (([1,9,10,0] : List Int))).bind fun bt834=>(if x5_1.length < 4398046511104 then (some (t780,(x5_1 ++ [(⟨bt816.1,bt822.1,bt828.1,bt834.1⟩ : S62)]),bt834.2.1,bt834.2.2)) else (none)))))) else (if t804 = 2 then (spec_l1Cur_ships.l1 k1 t780 x5_1 0 s0_0 t805 t806) else (some (t780,x5_1,t805,t806))))) = some (r1,r2,r3,r4):=H
    have A22:=zM A220
    clear A220
    by_cases c23 : t804 = 0
    ·rw [if_pos c23] at H
     have c23b0 : (t804 == 0) = true:=beq_iff_eq.mpr c23
     have c23b1 : (t804 != 0) = false:=bne_eq_false_iff_eq.mpr c23
     clear c23
     obtain ⟨y807,hy807⟩ : ∃ y_ : List Int,y_ = (([0,30,31,1] : List Int)):=⟨_,rfl⟩
     replace H : ((spec_l1Cur_among.f s0_0 t805 t806 y807).bind fun bt810=>(some (bt810.1,x5_1,bt810.2.1,bt810.2.2))) = some (r1,r2,r3,r4):=by first|(rw [hy807];with_reducible exact H)|(have H2_:=(Option.bind_some _ _).symm.trans H;rw [hy807];with_reducible exact H2_)|(have H2_:=(Option.bind_some _ _).symm.trans H;with_reducible exact H2_)|with_reducible exact H|(rw [hy807];exact H)|exact H
     have Ny807:=zM hy807
     clear hy807
     replace H:=Option.bind_eq_some_iff.mp H
     obtain ⟨⟨t810,t811,t812⟩,A240,H⟩:=H
     replace H : (some (t810,x5_1,t811,t812)) = some (r1,r2,r3,r4):=H
     have A24:=zM A240
     clear A240
     simp only [Option.some.injEq,Prod.mk.injEq] at H
     obtain ⟨rfl,rfl,rfl,rfl⟩:=H
     go_wp2_with (first|((with_reducible refine gate_callee (f:=74) rfl ?_);refine goesL_ (some 34) rfl rfl Try.func74 (by kernel_rfl) rfl #[.pointer (some ⟨g,0,none⟩),.int .i64 24] rfl (by (try simp only [List.map_toArray,List.map_cons,List.map_nil]);first|done|rfl|(simp only [List.length_drop,List.length_take];rfl)) ?_;(with_reducible refine (spec_l1Cur_pick.calls g s0_0 x1001_1 x1002_1 24 t804 t805 t806 w0 _ ?side1 ?side2 A22.out).mono ?_);(case side1=>repeat (first|(with_reducible first|exact HI0.out|apply IsS90.alloc|apply IsS90.drewN|apply IsS90.drew|apply IsS90.set_1|apply IsS90.set_2)|exact HI0.out));(case side2=>repeat (first|(with_reducible first|exact HB.out|apply zD|apply zE|apply zF|refine below_set ?_ (IsS90.ge HI0.out))|exact HB.out));rintro e w25 ⟨rfl,hi,hb,hk⟩;refine ⟨_,rfl,?_⟩;have n0_:=zM (Kd.R_mono (Kd.R_keep (IsS90.apart (show IsS90 w0 _ g s0_0 x1001_1 x1002_1 from by repeat (first|(with_reducible first|exact HI0.out|apply IsS90.alloc|apply IsS90.drewN|apply IsS90.drew|apply IsS90.set_1|apply IsS90.set_2)|exact HI0.out)) (by (with_reducible repeat (first|apply zA|apply zB|apply zC));exact HO_5.out) (by decide)) hk (fun _ h=>h.2)) (fun _ h=>h.1));have n1_:=zM (KeepBut.trans (by repeat (first|(with_reducible first|exact HK.out|apply KeepBut.set_|apply keep_drewN|apply keep_drew|apply keep_alloc)|exact HK.out)) hk (.inl rfl));have n2_:=zM (hb);have n3_:=zM (hi);clear HO_5;clear HK;clear HB;clear HI0;have HO_5:=n0_;have HK:=n1_;have HB:=n2_;have HI0:=n3_;clear n0_ n1_ n2_ n3_;(try clear hb);(try clear hb2);(try clear hk);(try clear hi))|((with_reducible refine gate_dst (N:=38) rfl ?_);refine Kd.R_lit (Kd.int .i64) _ 3 ?hg (N:=38) ?hd (xs:=([0,30,31,1] : List Int)) (inner:=[.int .i64 0,.int .i64 30,.int .i64 31,.int .i64 1]) (ok:=fun _=>True) (okp:=fun _=>True) ?hr ?hp (fun _ hk=>hk) trivial (Below.refl _ _) (Nat.le_refl _) (by simp) ?_;(case hd=>rfl);(case hg=>rfl);(case hr=>first|(go_simp;done)|(go_simp;rfl));(case hp=>exact (Reps.one (show Kd.M (Kd.int .i64) _ _ _ 0 [.int .i64 0] from rfl) (Reps.one (show Kd.M (Kd.int .i64) _ _ _ 30 [.int .i64 30] from rfl) (Reps.one (show Kd.M (Kd.int .i64) _ _ _ 31 [.int .i64 31] from rfl) (Reps.one (show Kd.M (Kd.int .i64) _ _ _ 1 [.int .i64 1] from rfl) (Reps.none _ _))))));intro v808 w26 ho27 hb hg_ hnew_;clear hg_ hnew_;(first|rw [← Ny807.out] at ho27|(simp only [Int.reduceToNat] at ho27;rw [← Ny807.out] at ho27));have n0_:=zM (zP (by (with_reducible repeat (first|apply zA|apply zB|apply zC));exact HO_5.out) hb);have n1_:=zM (Kd.R_lower ho27 (keep_size (w:=w) (g:=g) (row:=none) (by repeat (first|(with_reducible first|exact HK.out|apply KeepBut.set_|apply keep_drewN|apply keep_drew|apply keep_alloc)|exact HK.out))));have n2_:=zM (IsS90.below (by repeat (first|(with_reducible first|exact HI0.out|apply IsS90.alloc|apply IsS90.drewN|apply IsS90.drew|apply IsS90.set_1|apply IsS90.set_2)|exact HI0.out)) hb);have n3_:=zM (KeepBut.trans (by repeat (first|(with_reducible first|exact HK.out|apply KeepBut.set_|apply keep_drewN|apply keep_drew|apply keep_alloc)|exact HK.out)) (KeepBut.of_below hb g none) (.inl rfl));have n4_:=zM (zQ (by repeat (first|(with_reducible first|exact HB.out|apply zD|apply zE|apply zF|refine below_set ?_ (IsS90.ge HI0.out))|exact HB.out)) hb);clear HO_5;clear HI0;clear HK;clear HB;have HO_5:=n0_;have HO809:=n1_;have HI0:=n2_;have HK:=n3_;have HB:=n4_;clear n0_ n1_ n2_ n3_ n4_;clear hb ho27;obtain ⟨Ao28,co28,eo28⟩:=Kd.R_slice HO809.out;subst eo28)|((with_reducible refine gate_callee (f:=77) rfl ?_);refine goesL_ (some 39) rfl rfl Try.func77 (by kernel_rfl) rfl #[.pointer (some ⟨g,0,none⟩),.slice Ao28 y807.length co28] rfl (by (try simp only [List.map_toArray,List.map_cons,List.map_nil]);first|done|rfl|(simp only [List.length_drop,List.length_take];rfl)) ?_;(with_reducible refine (spec_l1Cur_among.calls g s0_0 t805 t806 _ _ y807 t810 t811 t812 w0 _ ?side1 ?side2 ?side3 ?side4 ?side5 A24.out).mono ?_);(case side1=>repeat (first|(with_reducible first|exact HI0.out|apply IsS90.alloc|apply IsS90.drewN|apply IsS90.drew|apply IsS90.set_1|apply IsS90.set_2)|exact HI0.out));(case side2=>repeat (first|(with_reducible first|exact HB.out|apply zD|apply zE|apply zF|refine below_set ?_ (IsS90.ge HI0.out))|exact HB.out));(case side3=>repeat (first|exact (zN HO809.out).2.2|(with_reducible refine zG ?_ _)|(with_reducible refine zH ?_ _)|(with_reducible refine zI ?_)));(case side4=>exact (zN HO809.out).2.1);(case side5=>exact far_slice (IsS90.own_ne HI0.out HO809.out (by decide)));rintro e w29 ⟨rfl,hi,hb,hk⟩;refine ⟨_,rfl,?_⟩;have n0_:=zM (Kd.R_mono (Kd.R_keep (IsS90.apart (show IsS90 w0 _ g s0_0 t805 t806 from by repeat (first|(with_reducible first|exact HI0.out|apply IsS90.alloc|apply IsS90.drewN|apply IsS90.drew|apply IsS90.set_1|apply IsS90.set_2)|exact HI0.out)) (by (with_reducible repeat (first|apply zA|apply zB|apply zC));exact HO_5.out) (by decide)) hk (fun _ h=>h.2)) (fun _ h=>h.1));have n1_:=zM (Kd.R_mono (Kd.R_keep (IsS90.apart (show IsS90 w0 _ g s0_0 t805 t806 from by repeat (first|(with_reducible first|exact HI0.out|apply IsS90.alloc|apply IsS90.drewN|apply IsS90.drew|apply IsS90.set_1|apply IsS90.set_2)|exact HI0.out)) (by (with_reducible repeat (first|apply zA|apply zB|apply zC));exact HO809.out) (by decide)) hk (fun _ h=>h.2)) (fun _ h=>h.1));have n2_:=zM (KeepBut.trans (by repeat (first|(with_reducible first|exact HK.out|apply KeepBut.set_|apply keep_drewN|apply keep_drew|apply keep_alloc)|exact HK.out)) hk (.inl rfl));have n3_:=zM (hb);have n4_:=zM (hi);clear HO_5;clear HO809;clear HK;clear HB;clear HI0;have HO_5:=n0_;have HO809:=n1_;have HK:=n2_;have HB:=n3_;have HI0:=n4_;clear n0_ n1_ n2_ n3_ n4_;(try clear hb);(try clear hb2);(try clear hk);(try clear hi)))
     go_ret2
     exact ⟨_,by first|rfl|(simp [errW_none,errW_some] <;> rfl)|(simp [*,errW_none,errW_some] <;> rfl),by (with_reducible repeat (first|apply zA|apply zB|apply zC));exact HO_5.out,by repeat (first|(with_reducible first|exact HI0.out|apply IsS90.alloc|apply IsS90.drewN|apply IsS90.drew|apply IsS90.set_1|apply IsS90.set_2)|exact HI0.out),by repeat (first|(with_reducible first|exact HB.out|apply zD|apply zE|apply zF|refine below_set ?_ (IsS90.ge HI0.out))|exact HB.out),by repeat (first|(with_reducible first|exact HK.out|apply KeepBut.set_|apply keep_drewN|apply keep_drew|apply keep_alloc)|exact HK.out)⟩
    ·rw [if_neg c23] at H
     have c23b0 : (t804 == 0) = false:=beq_eq_false_iff_ne.mpr c23
     have c23b1 : (t804 != 0) = true:=bne_iff_ne.mpr c23
     by_cases c30 : t804 = 1
     ·rw [if_pos c30] at H
      have c30b0 : (t804 == 1) = true:=beq_iff_eq.mpr c30
      have c30b1 : (t804 != 1) = false:=bne_eq_false_iff_eq.mpr c30
      clear c30
      obtain ⟨y813,hy813⟩ : ∃ y_ : List Int,y_ = (([0,30,31] : List Int)):=⟨_,rfl⟩
      replace H : ((spec_l1Cur_among.f s0_0 t805 t806 y813).bind fun bt816=>((spec_l1Cur_among.f s0_0 bt816.2.1 bt816.2.2 (([(-1),200,201,0] : List Int))).bind fun bt822=>((spec_l1Cur_among.f s0_0 bt822.2.1 bt822.2.2 (([1,48,49,0] : List Int))).bind fun bt828=>((spec_l1Cur_among.f s0_0 bt828.2.1 bt828.2.2 (([1,9,10,0] : List Int))).bind fun bt834=>(if x5_1.length < 4398046511104 then (some (t780,(x5_1 ++ [(⟨bt816.1,bt822.1,bt828.1,bt834.1⟩ : S62)]),bt834.2.1,bt834.2.2)) else (none)))))) = some (r1,r2,r3,r4):=by first|(rw [hy813];with_reducible exact H)|(have H2_:=(Option.bind_some _ _).symm.trans H;rw [hy813];with_reducible exact H2_)|(have H2_:=(Option.bind_some _ _).symm.trans H;with_reducible exact H2_)|with_reducible exact H|(rw [hy813];exact H)|exact H
      have Ny813:=zM hy813
      clear hy813
      replace H:=Option.bind_eq_some_iff.mp H
      obtain ⟨⟨t816,t817,t818⟩,A310,H⟩:=H
      replace H : ((spec_l1Cur_among.f s0_0 t817 t818 (([(-1),200,201,0] : List Int))).bind fun bt822=>((spec_l1Cur_among.f s0_0 bt822.2.1 bt822.2.2 (([1,48,49,0] : List Int))).bind fun bt828=>((spec_l1Cur_among.f s0_0 bt828.2.1 bt828.2.2 (([1,9,10,0] : List Int))).bind fun bt834=>(if x5_1.length < 4398046511104 then (some (t780,(x5_1 ++ [(⟨t816,bt822.1,bt828.1,bt834.1⟩ : S62)]),bt834.2.1,bt834.2.2)) else (none))))) = some (r1,r2,r3,r4):=H
      have A31:=zM A310
      clear A310
      obtain ⟨y819,hy819⟩ : ∃ y_ : List Int,y_ = (([(-1),200,201,0] : List Int)):=⟨_,rfl⟩
      replace H : ((spec_l1Cur_among.f s0_0 t817 t818 y819).bind fun bt822=>((spec_l1Cur_among.f s0_0 bt822.2.1 bt822.2.2 (([1,48,49,0] : List Int))).bind fun bt828=>((spec_l1Cur_among.f s0_0 bt828.2.1 bt828.2.2 (([1,9,10,0] : List Int))).bind fun bt834=>(if x5_1.length < 4398046511104 then (some (t780,(x5_1 ++ [(⟨t816,bt822.1,bt828.1,bt834.1⟩ : S62)]),bt834.2.1,bt834.2.2)) else (none))))) = some (r1,r2,r3,r4):=by first|(rw [hy819];with_reducible exact H)|(have H2_:=(Option.bind_some _ _).symm.trans H;rw [hy819];with_reducible exact H2_)|(have H2_:=(Option.bind_some _ _).symm.trans H;with_reducible exact H2_)|with_reducible exact H|(rw [hy819];exact H)|exact H
      have Ny819:=zM hy819
      clear hy819
      replace H:=Option.bind_eq_some_iff.mp H
      obtain ⟨⟨t822,t823,t824⟩,A320,H⟩:=H
      replace H : ((spec_l1Cur_among.f s0_0 t823 t824 (([1,48,49,0] : List Int))).bind fun bt828=>((spec_l1Cur_among.f s0_0 bt828.2.1 bt828.2.2 (([1,9,10,0] : List Int))).bind fun bt834=>(if x5_1.length < 4398046511104 then (some (t780,(x5_1 ++ [(⟨t816,t822,bt828.1,bt834.1⟩ : S62)]),bt834.2.1,bt834.2.2)) else (none)))) = some (r1,r2,r3,r4):=H
      have A32:=zM A320
      clear A320
      obtain ⟨y825,hy825⟩ : ∃ y_ : List Int,y_ = (([1,48,49,0] : List Int)):=⟨_,rfl⟩
      replace H : ((spec_l1Cur_among.f s0_0 t823 t824 y825).bind fun bt828=>((spec_l1Cur_among.f s0_0 bt828.2.1 bt828.2.2 (([1,9,10,0] : List Int))).bind fun bt834=>(if x5_1.length < 4398046511104 then (some (t780,(x5_1 ++ [(⟨t816,t822,bt828.1,bt834.1⟩ : S62)]),bt834.2.1,bt834.2.2)) else (none)))) = some (r1,r2,r3,r4):=by first|(rw [hy825];with_reducible exact H)|(have H2_:=(Option.bind_some _ _).symm.trans H;rw [hy825];with_reducible exact H2_)|(have H2_:=(Option.bind_some _ _).symm.trans H;with_reducible exact H2_)|with_reducible exact H|(rw [hy825];exact H)|exact H
      have Ny825:=zM hy825
      clear hy825
      replace H:=Option.bind_eq_some_iff.mp H
      obtain ⟨⟨t828,t829,t830⟩,A330,H⟩:=H
      replace H : ((spec_l1Cur_among.f s0_0 t829 t830 (([1,9,10,0] : List Int))).bind fun bt834=>(if x5_1.length < 4398046511104 then (some (t780,(x5_1 ++ [(⟨t816,t822,t828,bt834.1⟩ : S62)]),bt834.2.1,bt834.2.2)) else (none))) = some (r1,r2,r3,r4):=H
      have A33:=zM A330
      clear A330
      obtain ⟨y831,hy831⟩ : ∃ y_ : List Int,y_ = (([1,9,10,0] : List Int)):=⟨_,rfl⟩
      replace H : ((spec_l1Cur_among.f s0_0 t829 t830 y831).bind fun bt834=>(if x5_1.length < 4398046511104 then (some (t780,(x5_1 ++ [(⟨t816,t822,t828,bt834.1⟩ : S62)]),bt834.2.1,bt834.2.2)) else (none))) = some (r1,r2,r3,r4):=by first|(rw [hy831];with_reducible exact H)|(have H2_:=(Option.bind_some _ _).symm.trans H;rw [hy831];with_reducible exact H2_)|(have H2_:=(Option.bind_some _ _).symm.trans H;with_reducible exact H2_)|with_reducible exact H|(rw [hy831];exact H)|exact H
      have Ny831:=zM hy831
      clear hy831
      replace H:=Option.bind_eq_some_iff.mp H
      obtain ⟨⟨t834,t835,t836⟩,A340,H⟩:=H
      replace H : (if x5_1.length < 4398046511104 then (some (t780,(x5_1 ++ [(⟨t816,t822,t828,t834⟩ : S62)]),t835,t836)) else (none)) = some (r1,r2,r3,r4):=H
      have A34:=zM A340
      clear A340
      by_cases c35 : x5_1.length < 4398046511104
      ·rw [if_pos c35] at H
       have LMc35:=zM c35
       clear c35
       obtain ⟨y837,hy837⟩ : ∃ y_ : List (S62),y_ = (x5_1 ++ [(⟨t816,t822,t828,t834⟩ : S62)]):=⟨_,rfl⟩
       replace H : (some (t780,y837,t835,t836)) = some (r1,r2,r3,r4):=by first|(rw [hy837];with_reducible exact H)|(have H2_:=(Option.bind_some _ _).symm.trans H;rw [hy837];with_reducible exact H2_)|(have H2_:=(Option.bind_some _ _).symm.trans H;with_reducible exact H2_)|with_reducible exact H|(rw [hy837];exact H)|exact H
       have Ny837:=zM hy837
       clear hy837
       simp only [Option.some.injEq,Prod.mk.injEq] at H
       obtain ⟨rfl,rfl,rfl,rfl⟩:=H
       go_wp2_with (first|((with_reducible refine gate_callee (f:=74) rfl ?_);refine goesL_ (some 34) rfl rfl Try.func74 (by kernel_rfl) rfl #[.pointer (some ⟨g,0,none⟩),.int .i64 24] rfl (by (try simp only [List.map_toArray,List.map_cons,List.map_nil]);first|done|rfl|(simp only [List.length_drop,List.length_take];rfl)) ?_;(with_reducible refine (spec_l1Cur_pick.calls g s0_0 x1001_1 x1002_1 24 t804 t805 t806 w0 _ ?side1 ?side2 A22.out).mono ?_);(case side1=>repeat (first|(with_reducible first|exact HI0.out|apply IsS90.alloc|apply IsS90.drewN|apply IsS90.drew|apply IsS90.set_1|apply IsS90.set_2)|exact HI0.out));(case side2=>repeat (first|(with_reducible first|exact HB.out|apply zD|apply zE|apply zF|refine below_set ?_ (IsS90.ge HI0.out))|exact HB.out));rintro e w36 ⟨rfl,hi,hb,hk⟩;refine ⟨_,rfl,?_⟩;have n0_:=zM (Kd.R_mono (Kd.R_keep (IsS90.apart (show IsS90 w0 _ g s0_0 x1001_1 x1002_1 from by repeat (first|(with_reducible first|exact HI0.out|apply IsS90.alloc|apply IsS90.drewN|apply IsS90.drew|apply IsS90.set_1|apply IsS90.set_2)|exact HI0.out)) (by (with_reducible repeat (first|apply zA|apply zB|apply zC));exact HO_5.out) (by decide)) hk (fun _ h=>h.2)) (fun _ h=>h.1));have n1_:=zM (KeepBut.trans (by repeat (first|(with_reducible first|exact HK.out|apply KeepBut.set_|apply keep_drewN|apply keep_drew|apply keep_alloc)|exact HK.out)) hk (.inl rfl));have n2_:=zM (hb);have n3_:=zM (hi);clear HO_5;clear HK;clear HB;clear HI0;have HO_5:=n0_;have HK:=n1_;have HB:=n2_;have HI0:=n3_;clear n0_ n1_ n2_ n3_;(try clear hb);(try clear hb2);(try clear hk);(try clear hi))|((with_reducible refine gate_dst (N:=44) rfl ?_);refine Kd.R_lit (Kd.int .i64) _ 3 ?hg (N:=44) ?hd (xs:=([0,30,31] : List Int)) (inner:=[.int .i64 0,.int .i64 30,.int .i64 31]) (ok:=fun _=>True) (okp:=fun _=>True) ?hr ?hp (fun _ hk=>hk) trivial (Below.refl _ _) (Nat.le_refl _) (by simp) ?_;(case hd=>rfl);(case hg=>rfl);(case hr=>first|(go_simp;done)|(go_simp;rfl));(case hp=>exact (Reps.one (show Kd.M (Kd.int .i64) _ _ _ 0 [.int .i64 0] from rfl) (Reps.one (show Kd.M (Kd.int .i64) _ _ _ 30 [.int .i64 30] from rfl) (Reps.one (show Kd.M (Kd.int .i64) _ _ _ 31 [.int .i64 31] from rfl) (Reps.none _ _)))));intro v814 w37 ho38 hb hg_ hnew_;clear hg_ hnew_;(first|rw [← Ny813.out] at ho38|(simp only [Int.reduceToNat] at ho38;rw [← Ny813.out] at ho38));have n0_:=zM (zP (by (with_reducible repeat (first|apply zA|apply zB|apply zC));exact HO_5.out) hb);have n1_:=zM (Kd.R_lower ho38 (keep_size (w:=w) (g:=g) (row:=none) (by repeat (first|(with_reducible first|exact HK.out|apply KeepBut.set_|apply keep_drewN|apply keep_drew|apply keep_alloc)|exact HK.out))));have n2_:=zM (IsS90.below (by repeat (first|(with_reducible first|exact HI0.out|apply IsS90.alloc|apply IsS90.drewN|apply IsS90.drew|apply IsS90.set_1|apply IsS90.set_2)|exact HI0.out)) hb);have n3_:=zM (KeepBut.trans (by repeat (first|(with_reducible first|exact HK.out|apply KeepBut.set_|apply keep_drewN|apply keep_drew|apply keep_alloc)|exact HK.out)) (KeepBut.of_below hb g none) (.inl rfl));have n4_:=zM (zQ (by repeat (first|(with_reducible first|exact HB.out|apply zD|apply zE|apply zF|refine below_set ?_ (IsS90.ge HI0.out))|exact HB.out)) hb);clear HO_5;clear HI0;clear HK;clear HB;have HO_5:=n0_;have HO815:=n1_;have HI0:=n2_;have HK:=n3_;have HB:=n4_;clear n0_ n1_ n2_ n3_ n4_;clear hb ho38;obtain ⟨Ao39,co39,eo39⟩:=Kd.R_slice HO815.out;subst eo39)|((with_reducible refine gate_callee (f:=77) rfl ?_);refine goesL_ (some 45) rfl rfl Try.func77 (by kernel_rfl) rfl #[.pointer (some ⟨g,0,none⟩),.slice Ao39 y813.length co39] rfl (by (try simp only [List.map_toArray,List.map_cons,List.map_nil]);first|done|rfl|(simp only [List.length_drop,List.length_take];rfl)) ?_;(with_reducible refine (spec_l1Cur_among.calls g s0_0 t805 t806 _ _ y813 t816 t817 t818 w0 _ ?side1 ?side2 ?side3 ?side4 ?side5 A31.out).mono ?_);(case side1=>repeat (first|(with_reducible first|exact HI0.out|apply IsS90.alloc|apply IsS90.drewN|apply IsS90.drew|apply IsS90.set_1|apply IsS90.set_2)|exact HI0.out));(case side2=>repeat (first|(with_reducible first|exact HB.out|apply zD|apply zE|apply zF|refine below_set ?_ (IsS90.ge HI0.out))|exact HB.out));(case side3=>repeat (first|exact (zN HO815.out).2.2|(with_reducible refine zG ?_ _)|(with_reducible refine zH ?_ _)|(with_reducible refine zI ?_)));(case side4=>exact (zN HO815.out).2.1);(case side5=>exact far_slice (IsS90.own_ne HI0.out HO815.out (by decide)));rintro e w40 ⟨rfl,hi,hb,hk⟩;refine ⟨_,rfl,?_⟩;have n0_:=zM (Kd.R_mono (Kd.R_keep (IsS90.apart (show IsS90 w0 _ g s0_0 t805 t806 from by repeat (first|(with_reducible first|exact HI0.out|apply IsS90.alloc|apply IsS90.drewN|apply IsS90.drew|apply IsS90.set_1|apply IsS90.set_2)|exact HI0.out)) (by (with_reducible repeat (first|apply zA|apply zB|apply zC));exact HO_5.out) (by decide)) hk (fun _ h=>h.2)) (fun _ h=>h.1));have n1_:=zM (Kd.R_mono (Kd.R_keep (IsS90.apart (show IsS90 w0 _ g s0_0 t805 t806 from by repeat (first|(with_reducible first|exact HI0.out|apply IsS90.alloc|apply IsS90.drewN|apply IsS90.drew|apply IsS90.set_1|apply IsS90.set_2)|exact HI0.out)) (by (with_reducible repeat (first|apply zA|apply zB|apply zC));exact HO815.out) (by decide)) hk (fun _ h=>h.2)) (fun _ h=>h.1));have n2_:=zM (KeepBut.trans (by repeat (first|(with_reducible first|exact HK.out|apply KeepBut.set_|apply keep_drewN|apply keep_drew|apply keep_alloc)|exact HK.out)) hk (.inl rfl));have n3_:=zM (hb);have n4_:=zM (hi);clear HO_5;clear HO815;clear HK;clear HB;clear HI0;have HO_5:=n0_;have HO815:=n1_;have HK:=n2_;have HB:=n3_;have HI0:=n4_;clear n0_ n1_ n2_ n3_ n4_;(try clear hb);(try clear hb2);(try clear hk);(try clear hi))|((with_reducible refine gate_dst (N:=47) rfl ?_);refine Kd.R_lit (Kd.int .i64) _ 3 ?hg (N:=47) ?hd (xs:=([(-1),200,201,0] : List Int)) (inner:=[.int .i64 (-1),.int .i64 200,.int .i64 201,.int .i64 0]) (ok:=fun _=>True) (okp:=fun _=>True) ?hr ?hp (fun _ hk=>hk) trivial (Below.refl _ _) (Nat.le_refl _) (by simp) ?_;(case hd=>rfl);(case hg=>rfl);(case hr=>first|(go_simp;done)|(go_simp;rfl));(case hp=>exact (Reps.one (show Kd.M (Kd.int .i64) _ _ _ (-1) [.int .i64 (-1)] from rfl) (Reps.one (show Kd.M (Kd.int .i64) _ _ _ 200 [.int .i64 200] from rfl) (Reps.one (show Kd.M (Kd.int .i64) _ _ _ 201 [.int .i64 201] from rfl) (Reps.one (show Kd.M (Kd.int .i64) _ _ _ 0 [.int .i64 0] from rfl) (Reps.none _ _))))));intro v820 w41 ho42 hb hg_ hnew_;clear hg_ hnew_;(first|rw [← Ny819.out] at ho42|(simp only [Int.reduceToNat] at ho42;rw [← Ny819.out] at ho42));have n0_:=zM (zP (by (with_reducible repeat (first|apply zA|apply zB|apply zC));exact HO_5.out) hb);have n1_:=zM (Kd.R_elder' (by (with_reducible repeat (first|apply zA|apply zB|apply zC));exact HO815.out) (Kd.R_base ho42) hb);have n2_:=zM (Kd.R_lower (Kd.R_new' ho42 (Kd.R_lt (by (with_reducible repeat (first|apply zA|apply zB|apply zC));exact HO815.out))) (keep_size (w:=w) (g:=g) (row:=none) (by repeat (first|(with_reducible first|exact HK.out|apply KeepBut.set_|apply keep_drewN|apply keep_drew|apply keep_alloc)|exact HK.out))));have n3_:=zM (IsS90.below (by repeat (first|(with_reducible first|exact HI0.out|apply IsS90.alloc|apply IsS90.drewN|apply IsS90.drew|apply IsS90.set_1|apply IsS90.set_2)|exact HI0.out)) hb);have n4_:=zM (KeepBut.trans (by repeat (first|(with_reducible first|exact HK.out|apply KeepBut.set_|apply keep_drewN|apply keep_drew|apply keep_alloc)|exact HK.out)) (KeepBut.of_below hb g none) (.inl rfl));have n5_:=zM (zQ (by repeat (first|(with_reducible first|exact HB.out|apply zD|apply zE|apply zF|refine below_set ?_ (IsS90.ge HI0.out))|exact HB.out)) hb);clear HO_5;clear HO815;clear HI0;clear HK;clear HB;have HO_5:=n0_;have HO815:=n1_;have HO821:=n2_;have HI0:=n3_;have HK:=n4_;have HB:=n5_;clear n0_ n1_ n2_ n3_ n4_ n5_;clear hb ho42;obtain ⟨Ao43,co43,eo43⟩:=Kd.R_slice HO821.out;subst eo43)|((with_reducible refine gate_callee (f:=77) rfl ?_);refine goesL_ (some 48) rfl rfl Try.func77 (by kernel_rfl) rfl #[.pointer (some ⟨g,0,none⟩),.slice Ao43 y819.length co43] rfl (by (try simp only [List.map_toArray,List.map_cons,List.map_nil]);first|done|rfl|(simp only [List.length_drop,List.length_take];rfl)) ?_;(with_reducible refine (spec_l1Cur_among.calls g s0_0 t817 t818 _ _ y819 t822 t823 t824 w0 _ ?side1 ?side2 ?side3 ?side4 ?side5 A32.out).mono ?_);(case side1=>repeat (first|(with_reducible first|exact HI0.out|apply IsS90.alloc|apply IsS90.drewN|apply IsS90.drew|apply IsS90.set_1|apply IsS90.set_2)|exact HI0.out));(case side2=>repeat (first|(with_reducible first|exact HB.out|apply zD|apply zE|apply zF|refine below_set ?_ (IsS90.ge HI0.out))|exact HB.out));(case side3=>repeat (first|exact (zN HO821.out).2.2|(with_reducible refine zG ?_ _)|(with_reducible refine zH ?_ _)|(with_reducible refine zI ?_)));(case side4=>exact (zN HO821.out).2.1);(case side5=>exact far_slice (IsS90.own_ne HI0.out HO821.out (by decide)));rintro e w44 ⟨rfl,hi,hb,hk⟩;refine ⟨_,rfl,?_⟩;have n0_:=zM (Kd.R_mono (Kd.R_keep (IsS90.apart (show IsS90 w0 _ g s0_0 t817 t818 from by repeat (first|(with_reducible first|exact HI0.out|apply IsS90.alloc|apply IsS90.drewN|apply IsS90.drew|apply IsS90.set_1|apply IsS90.set_2)|exact HI0.out)) (by (with_reducible repeat (first|apply zA|apply zB|apply zC));exact HO_5.out) (by decide)) hk (fun _ h=>h.2)) (fun _ h=>h.1));have n1_:=zM (Kd.R_mono (Kd.R_keep (IsS90.apart (show IsS90 w0 _ g s0_0 t817 t818 from by repeat (first|(with_reducible first|exact HI0.out|apply IsS90.alloc|apply IsS90.drewN|apply IsS90.drew|apply IsS90.set_1|apply IsS90.set_2)|exact HI0.out)) (by (with_reducible repeat (first|apply zA|apply zB|apply zC));exact HO815.out) (by decide)) hk (fun _ h=>h.2)) (fun _ h=>h.1));have n2_:=zM (Kd.R_mono (Kd.R_keep (IsS90.apart (show IsS90 w0 _ g s0_0 t817 t818 from by repeat (first|(with_reducible first|exact HI0.out|apply IsS90.alloc|apply IsS90.drewN|apply IsS90.drew|apply IsS90.set_1|apply IsS90.set_2)|exact HI0.out)) (by (with_reducible repeat (first|apply zA|apply zB|apply zC));exact HO821.out) (by decide)) hk (fun _ h=>h.2)) (fun _ h=>h.1));have n3_:=zM (KeepBut.trans (by repeat (first|(with_reducible first|exact HK.out|apply KeepBut.set_|apply keep_drewN|apply keep_drew|apply keep_alloc)|exact HK.out)) hk (.inl rfl));have n4_:=zM (hb);have n5_:=zM (hi);clear HO_5;clear HO815;clear HO821;clear HK;clear HB;clear HI0;have HO_5:=n0_;have HO815:=n1_;have HO821:=n2_;have HK:=n3_;have HB:=n4_;have HI0:=n5_;clear n0_ n1_ n2_ n3_ n4_ n5_;(try clear hb);(try clear hb2);(try clear hk);(try clear hi))|((with_reducible refine gate_dst (N:=50) rfl ?_);refine Kd.R_lit (Kd.int .i64) _ 3 ?hg (N:=50) ?hd (xs:=([1,48,49,0] : List Int)) (inner:=[.int .i64 1,.int .i64 48,.int .i64 49,.int .i64 0]) (ok:=fun _=>True) (okp:=fun _=>True) ?hr ?hp (fun _ hk=>hk) trivial (Below.refl _ _) (Nat.le_refl _) (by simp) ?_;(case hd=>rfl);(case hg=>rfl);(case hr=>first|(go_simp;done)|(go_simp;rfl));(case hp=>exact (Reps.one (show Kd.M (Kd.int .i64) _ _ _ 1 [.int .i64 1] from rfl) (Reps.one (show Kd.M (Kd.int .i64) _ _ _ 48 [.int .i64 48] from rfl) (Reps.one (show Kd.M (Kd.int .i64) _ _ _ 49 [.int .i64 49] from rfl) (Reps.one (show Kd.M (Kd.int .i64) _ _ _ 0 [.int .i64 0] from rfl) (Reps.none _ _))))));intro v826 w45 ho46 hb hg_ hnew_;clear hg_ hnew_;(first|rw [← Ny825.out] at ho46|(simp only [Int.reduceToNat] at ho46;rw [← Ny825.out] at ho46));have n0_:=zM (zP (by (with_reducible repeat (first|apply zA|apply zB|apply zC));exact HO_5.out) hb);have n1_:=zM (Kd.R_elder' (by (with_reducible repeat (first|apply zA|apply zB|apply zC));exact HO815.out) (Kd.R_base ho46) hb);have n2_:=zM (Kd.R_elder' (by (with_reducible repeat (first|apply zA|apply zB|apply zC));exact HO821.out) (Kd.R_base ho46) hb);have n3_:=zM (Kd.R_lower (Kd.R_new' (Kd.R_new' ho46 (Kd.R_lt (by (with_reducible repeat (first|apply zA|apply zB|apply zC));exact HO815.out))) (Kd.R_lt (by (with_reducible repeat (first|apply zA|apply zB|apply zC));exact HO821.out))) (keep_size (w:=w) (g:=g) (row:=none) (by repeat (first|(with_reducible first|exact HK.out|apply KeepBut.set_|apply keep_drewN|apply keep_drew|apply keep_alloc)|exact HK.out))));have n4_:=zM (IsS90.below (by repeat (first|(with_reducible first|exact HI0.out|apply IsS90.alloc|apply IsS90.drewN|apply IsS90.drew|apply IsS90.set_1|apply IsS90.set_2)|exact HI0.out)) hb);have n5_:=zM (KeepBut.trans (by repeat (first|(with_reducible first|exact HK.out|apply KeepBut.set_|apply keep_drewN|apply keep_drew|apply keep_alloc)|exact HK.out)) (KeepBut.of_below hb g none) (.inl rfl));have n6_:=zM (zQ (by repeat (first|(with_reducible first|exact HB.out|apply zD|apply zE|apply zF|refine below_set ?_ (IsS90.ge HI0.out))|exact HB.out)) hb);clear HO_5;clear HO815;clear HO821;clear HI0;clear HK;clear HB;have HO_5:=n0_;have HO815:=n1_;have HO821:=n2_;have HO827:=n3_;have HI0:=n4_;have HK:=n5_;have HB:=n6_;clear n0_ n1_ n2_ n3_ n4_ n5_ n6_;clear hb ho46;obtain ⟨Ao47,co47,eo47⟩:=Kd.R_slice HO827.out;subst eo47)|((with_reducible refine gate_callee (f:=77) rfl ?_);refine goesL_ (some 51) rfl rfl Try.func77 (by kernel_rfl) rfl #[.pointer (some ⟨g,0,none⟩),.slice Ao47 y825.length co47] rfl (by (try simp only [List.map_toArray,List.map_cons,List.map_nil]);first|done|rfl|(simp only [List.length_drop,List.length_take];rfl)) ?_;(with_reducible refine (spec_l1Cur_among.calls g s0_0 t823 t824 _ _ y825 t828 t829 t830 w0 _ ?side1 ?side2 ?side3 ?side4 ?side5 A33.out).mono ?_);(case side1=>repeat (first|(with_reducible first|exact HI0.out|apply IsS90.alloc|apply IsS90.drewN|apply IsS90.drew|apply IsS90.set_1|apply IsS90.set_2)|exact HI0.out));(case side2=>repeat (first|(with_reducible first|exact HB.out|apply zD|apply zE|apply zF|refine below_set ?_ (IsS90.ge HI0.out))|exact HB.out));(case side3=>repeat (first|exact (zN HO827.out).2.2|(with_reducible refine zG ?_ _)|(with_reducible refine zH ?_ _)|(with_reducible refine zI ?_)));(case side4=>exact (zN HO827.out).2.1);(case side5=>exact far_slice (IsS90.own_ne HI0.out HO827.out (by decide)));rintro e w48 ⟨rfl,hi,hb,hk⟩;refine ⟨_,rfl,?_⟩;have n0_:=zM (Kd.R_mono (Kd.R_keep (IsS90.apart (show IsS90 w0 _ g s0_0 t823 t824 from by repeat (first|(with_reducible first|exact HI0.out|apply IsS90.alloc|apply IsS90.drewN|apply IsS90.drew|apply IsS90.set_1|apply IsS90.set_2)|exact HI0.out)) (by (with_reducible repeat (first|apply zA|apply zB|apply zC));exact HO_5.out) (by decide)) hk (fun _ h=>h.2)) (fun _ h=>h.1));have n1_:=zM (Kd.R_mono (Kd.R_keep (IsS90.apart (show IsS90 w0 _ g s0_0 t823 t824 from by repeat (first|(with_reducible first|exact HI0.out|apply IsS90.alloc|apply IsS90.drewN|apply IsS90.drew|apply IsS90.set_1|apply IsS90.set_2)|exact HI0.out)) (by (with_reducible repeat (first|apply zA|apply zB|apply zC));exact HO815.out) (by decide)) hk (fun _ h=>h.2)) (fun _ h=>h.1));have n2_:=zM (Kd.R_mono (Kd.R_keep (IsS90.apart (show IsS90 w0 _ g s0_0 t823 t824 from by repeat (first|(with_reducible first|exact HI0.out|apply IsS90.alloc|apply IsS90.drewN|apply IsS90.drew|apply IsS90.set_1|apply IsS90.set_2)|exact HI0.out)) (by (with_reducible repeat (first|apply zA|apply zB|apply zC));exact HO821.out) (by decide)) hk (fun _ h=>h.2)) (fun _ h=>h.1));have n3_:=zM (Kd.R_mono (Kd.R_keep (IsS90.apart (show IsS90 w0 _ g s0_0 t823 t824 from by repeat (first|(with_reducible first|exact HI0.out|apply IsS90.alloc|apply IsS90.drewN|apply IsS90.drew|apply IsS90.set_1|apply IsS90.set_2)|exact HI0.out)) (by (with_reducible repeat (first|apply zA|apply zB|apply zC));exact HO827.out) (by decide)) hk (fun _ h=>h.2)) (fun _ h=>h.1));have n4_:=zM (KeepBut.trans (by repeat (first|(with_reducible first|exact HK.out|apply KeepBut.set_|apply keep_drewN|apply keep_drew|apply keep_alloc)|exact HK.out)) hk (.inl rfl));have n5_:=zM (hb);have n6_:=zM (hi);clear HO_5;clear HO815;clear HO821;clear HO827;clear HK;clear HB;clear HI0;have HO_5:=n0_;have HO815:=n1_;have HO821:=n2_;have HO827:=n3_;have HK:=n4_;have HB:=n5_;have HI0:=n6_;clear n0_ n1_ n2_ n3_ n4_ n5_ n6_;(try clear hb);(try clear hb2);(try clear hk);(try clear hi))|((with_reducible refine gate_dst (N:=53) rfl ?_);refine Kd.R_lit (Kd.int .i64) _ 3 ?hg (N:=53) ?hd (xs:=([1,9,10,0] : List Int)) (inner:=[.int .i64 1,.int .i64 9,.int .i64 10,.int .i64 0]) (ok:=fun _=>True) (okp:=fun _=>True) ?hr ?hp (fun _ hk=>hk) trivial (Below.refl _ _) (Nat.le_refl _) (by simp) ?_;(case hd=>rfl);(case hg=>rfl);(case hr=>first|(go_simp;done)|(go_simp;rfl));(case hp=>exact (Reps.one (show Kd.M (Kd.int .i64) _ _ _ 1 [.int .i64 1] from rfl) (Reps.one (show Kd.M (Kd.int .i64) _ _ _ 9 [.int .i64 9] from rfl) (Reps.one (show Kd.M (Kd.int .i64) _ _ _ 10 [.int .i64 10] from rfl) (Reps.one (show Kd.M (Kd.int .i64) _ _ _ 0 [.int .i64 0] from rfl) (Reps.none _ _))))));intro v832 w49 ho50 hb hg_ hnew_;clear hg_ hnew_;(first|rw [← Ny831.out] at ho50|(simp only [Int.reduceToNat] at ho50;rw [← Ny831.out] at ho50));have n0_:=zM (zP (by (with_reducible repeat (first|apply zA|apply zB|apply zC));exact HO_5.out) hb);have n1_:=zM (Kd.R_elder' (by (with_reducible repeat (first|apply zA|apply zB|apply zC));exact HO815.out) (Kd.R_base ho50) hb);have n2_:=zM (Kd.R_elder' (by (with_reducible repeat (first|apply zA|apply zB|apply zC));exact HO821.out) (Kd.R_base ho50) hb);have n3_:=zM (Kd.R_elder' (by (with_reducible repeat (first|apply zA|apply zB|apply zC));exact HO827.out) (Kd.R_base ho50) hb);have n4_:=zM (Kd.R_lower (Kd.R_new' (Kd.R_new' (Kd.R_new' ho50 (Kd.R_lt (by (with_reducible repeat (first|apply zA|apply zB|apply zC));exact HO815.out))) (Kd.R_lt (by (with_reducible repeat (first|apply zA|apply zB|apply zC));exact HO821.out))) (Kd.R_lt (by (with_reducible repeat (first|apply zA|apply zB|apply zC));exact HO827.out))) (keep_size (w:=w) (g:=g) (row:=none) (by repeat (first|(with_reducible first|exact HK.out|apply KeepBut.set_|apply keep_drewN|apply keep_drew|apply keep_alloc)|exact HK.out))));have n5_:=zM (IsS90.below (by repeat (first|(with_reducible first|exact HI0.out|apply IsS90.alloc|apply IsS90.drewN|apply IsS90.drew|apply IsS90.set_1|apply IsS90.set_2)|exact HI0.out)) hb);have n6_:=zM (KeepBut.trans (by repeat (first|(with_reducible first|exact HK.out|apply KeepBut.set_|apply keep_drewN|apply keep_drew|apply keep_alloc)|exact HK.out)) (KeepBut.of_below hb g none) (.inl rfl));have n7_:=zM (zQ (by repeat (first|(with_reducible first|exact HB.out|apply zD|apply zE|apply zF|refine below_set ?_ (IsS90.ge HI0.out))|exact HB.out)) hb);clear HO_5;clear HO815;clear HO821;clear HO827;clear HI0;clear HK;clear HB;have HO_5:=n0_;have HO815:=n1_;have HO821:=n2_;have HO827:=n3_;have HO833:=n4_;have HI0:=n5_;have HK:=n6_;have HB:=n7_;clear n0_ n1_ n2_ n3_ n4_ n5_ n6_ n7_;clear hb ho50;obtain ⟨Ao51,co51,eo51⟩:=Kd.R_slice HO833.out;subst eo51)|((with_reducible refine gate_callee (f:=77) rfl ?_);refine goesL_ (some 54) rfl rfl Try.func77 (by kernel_rfl) rfl #[.pointer (some ⟨g,0,none⟩),.slice Ao51 y831.length co51] rfl (by (try simp only [List.map_toArray,List.map_cons,List.map_nil]);first|done|rfl|(simp only [List.length_drop,List.length_take];rfl)) ?_;(with_reducible refine (spec_l1Cur_among.calls g s0_0 t829 t830 _ _ y831 t834 t835 t836 w0 _ ?side1 ?side2 ?side3 ?side4 ?side5 A34.out).mono ?_);(case side1=>repeat (first|(with_reducible first|exact HI0.out|apply IsS90.alloc|apply IsS90.drewN|apply IsS90.drew|apply IsS90.set_1|apply IsS90.set_2)|exact HI0.out));(case side2=>repeat (first|(with_reducible first|exact HB.out|apply zD|apply zE|apply zF|refine below_set ?_ (IsS90.ge HI0.out))|exact HB.out));(case side3=>repeat (first|exact (zN HO833.out).2.2|(with_reducible refine zG ?_ _)|(with_reducible refine zH ?_ _)|(with_reducible refine zI ?_)));(case side4=>exact (zN HO833.out).2.1);(case side5=>exact far_slice (IsS90.own_ne HI0.out HO833.out (by decide)));rintro e w52 ⟨rfl,hi,hb,hk⟩;refine ⟨_,rfl,?_⟩;have n0_:=zM (Kd.R_mono (Kd.R_keep (IsS90.apart (show IsS90 w0 _ g s0_0 t829 t830 from by repeat (first|(with_reducible first|exact HI0.out|apply IsS90.alloc|apply IsS90.drewN|apply IsS90.drew|apply IsS90.set_1|apply IsS90.set_2)|exact HI0.out)) (by (with_reducible repeat (first|apply zA|apply zB|apply zC));exact HO_5.out) (by decide)) hk (fun _ h=>h.2)) (fun _ h=>h.1));have n1_:=zM (Kd.R_mono (Kd.R_keep (IsS90.apart (show IsS90 w0 _ g s0_0 t829 t830 from by repeat (first|(with_reducible first|exact HI0.out|apply IsS90.alloc|apply IsS90.drewN|apply IsS90.drew|apply IsS90.set_1|apply IsS90.set_2)|exact HI0.out)) (by (with_reducible repeat (first|apply zA|apply zB|apply zC));exact HO815.out) (by decide)) hk (fun _ h=>h.2)) (fun _ h=>h.1));have n2_:=zM (Kd.R_mono (Kd.R_keep (IsS90.apart (show IsS90 w0 _ g s0_0 t829 t830 from by repeat (first|(with_reducible first|exact HI0.out|apply IsS90.alloc|apply IsS90.drewN|apply IsS90.drew|apply IsS90.set_1|apply IsS90.set_2)|exact HI0.out)) (by (with_reducible repeat (first|apply zA|apply zB|apply zC));exact HO821.out) (by decide)) hk (fun _ h=>h.2)) (fun _ h=>h.1));have n3_:=zM (Kd.R_mono (Kd.R_keep (IsS90.apart (show IsS90 w0 _ g s0_0 t829 t830 from by repeat (first|(with_reducible first|exact HI0.out|apply IsS90.alloc|apply IsS90.drewN|apply IsS90.drew|apply IsS90.set_1|apply IsS90.set_2)|exact HI0.out)) (by (with_reducible repeat (first|apply zA|apply zB|apply zC));exact HO827.out) (by decide)) hk (fun _ h=>h.2)) (fun _ h=>h.1));have n4_:=zM (Kd.R_mono (Kd.R_keep (IsS90.apart (show IsS90 w0 _ g s0_0 t829 t830 from by repeat (first|(with_reducible first|exact HI0.out|apply IsS90.alloc|apply IsS90.drewN|apply IsS90.drew|apply IsS90.set_1|apply IsS90.set_2)|exact HI0.out)) (by (with_reducible repeat (first|apply zA|apply zB|apply zC));exact HO833.out) (by decide)) hk (fun _ h=>h.2)) (fun _ h=>h.1));have n5_:=zM (KeepBut.trans (by repeat (first|(with_reducible first|exact HK.out|apply KeepBut.set_|apply keep_drewN|apply keep_drew|apply keep_alloc)|exact HK.out)) hk (.inl rfl));have n6_:=zM (hb);have n7_:=zM (hi);clear HO_5;clear HO815;clear HO821;clear HO827;clear HO833;clear HK;clear HB;clear HI0;have HO_5:=n0_;have HO815:=n1_;have HO821:=n2_;have HO827:=n3_;have HO833:=n4_;have HK:=n5_;have HB:=n6_;have HI0:=n7_;clear n0_ n1_ n2_ n3_ n4_ n5_ n6_ n7_;(try clear hb);(try clear hb2);(try clear hk);(try clear hi))|((with_reducible refine gate_builtin (b := .append) (xs := #[.tmp 42,.tmp 56]) rfl ?_);at_builtin;refine Kd.R_append k62 w.heap.size rfl (.tmp 42) (.tmp 56) 27 62 (.agg #[(.int .i64 0),(.int .i64 0),(.int .i64 0),(.int .i64 0)]) 32 rfl Try.underlying27 info62 rfl (by decide) (by omega) u5 x5_1 (⟨t816,t822,t828,t834⟩ : S62) [.int .i64 t816,.int .i64 t822,.int .i64 t828,.int .i64 t834] (fun _=>True) (fun _=>False) rfl rfl ?aP (fun _ hk=>hk.elim) ?aF ?aO (Below.refl _ _) ?aS ?aL ?_;(case aP=>exact k62_mkM _ _ _ (⟨t816,t822,t828,t834⟩ : S62));(case aF=>exact (fun _ _=>trivial));(case aO=>exact (by (with_reducible repeat (first|apply zA|apply zB|apply zC));exact HO_5.out));(case aS=>exact (keep_size (w:=w) (g:=g) (row:=none) (by repeat (first|(with_reducible first|exact HK.out|apply KeepBut.set_|apply keep_drewN|apply keep_drew|apply keep_alloc)|exact HK.out))));(case aL=>have:=LMc35.out;omega);intro v838 w53 ho hb hg hat;rw [← Ny837.out] at ho;have n0_:=zM (IsS90.grown (by repeat (first|(with_reducible first|exact HI0.out|apply IsS90.alloc|apply IsS90.drewN|apply IsS90.drew|apply IsS90.set_1|apply IsS90.set_2)|exact HI0.out)) hg (IsS90.own_ne HI0.out HO_5.out (by decide)));have n1_:=zM (Kd.R_over' (by (with_reducible repeat (first|apply zA|apply zB|apply zC));exact HO815.out) (Kd.R_typed (by (with_reducible repeat (first|apply zA|apply zB|apply zC));exact HO_5.out)) (by decide) hg);have n2_:=zM (Kd.R_over' (by (with_reducible repeat (first|apply zA|apply zB|apply zC));exact HO821.out) (Kd.R_typed (by (with_reducible repeat (first|apply zA|apply zB|apply zC));exact HO_5.out)) (by decide) hg);have n3_:=zM (Kd.R_over' (by (with_reducible repeat (first|apply zA|apply zB|apply zC));exact HO827.out) (Kd.R_typed (by (with_reducible repeat (first|apply zA|apply zB|apply zC));exact HO_5.out)) (by decide) hg);have n4_:=zM (Kd.R_over' (by (with_reducible repeat (first|apply zA|apply zB|apply zC));exact HO833.out) (Kd.R_typed (by (with_reducible repeat (first|apply zA|apply zB|apply zC));exact HO_5.out)) (by decide) hg);have n5_:=zM (below_weaken (by repeat (first|(with_reducible first|exact HB.out|apply zD|apply zE|apply zF|refine below_set ?_ (IsS90.ge HI0.out))|exact HB.out)) HL.out hb);have n6_:=zM (KeepBut.trans (by repeat (first|(with_reducible first|exact HK.out|apply KeepBut.set_|apply keep_drewN|apply keep_drew|apply keep_alloc)|exact HK.out)) (KeepBut.of_grown hg g) (Kd.R_base2 HO_5.out));have n7_:=zM (ho);clear HI0;clear HO815;clear HO821;clear HO827;clear HO833;clear HB;clear HK;clear HO_5;have HI0:=n0_;have HO815:=n1_;have HO821:=n2_;have HO827:=n3_;have HO833:=n4_;have HB:=n5_;have HK:=n6_;have HO839:=n7_;clear n0_ n1_ n2_ n3_ n4_ n5_ n6_ n7_;clear ho hb hg hat))
       go_ret2
       exact ⟨_,by first|rfl|(simp [errW_none,errW_some] <;> rfl)|(simp [*,errW_none,errW_some] <;> rfl),by (with_reducible repeat (first|apply zA|apply zB|apply zC));exact HO839.out,by repeat (first|(with_reducible first|exact HI0.out|apply IsS90.alloc|apply IsS90.drewN|apply IsS90.drew|apply IsS90.set_1|apply IsS90.set_2)|exact HI0.out),by repeat (first|(with_reducible first|exact HB.out|apply zD|apply zE|apply zF|refine below_set ?_ (IsS90.ge HI0.out))|exact HB.out),by repeat (first|(with_reducible first|exact HK.out|apply KeepBut.set_|apply keep_drewN|apply keep_drew|apply keep_alloc)|exact HK.out)⟩
      ·rw [if_neg c35] at H
       exact absurd H (by simp)
     ·rw [if_neg c30] at H
      have c30b0 : (t804 == 1) = false:=beq_eq_false_iff_ne.mpr c30
      have c30b1 : (t804 != 1) = true:=bne_iff_ne.mpr c30
      by_cases c54 : t804 = 2
      ·rw [if_pos c54] at H
       have c54b0 : (t804 == 2) = true:=beq_iff_eq.mpr c54
       have c54b1 : (t804 != 2) = false:=bne_eq_false_iff_eq.mpr c54
       clear c54
       have H':=zM H
       clear H
       go_wp2_with (first|((with_reducible refine gate_callee (f:=74) rfl ?_);refine goesL_ (some 34) rfl rfl Try.func74 (by kernel_rfl) rfl #[.pointer (some ⟨g,0,none⟩),.int .i64 24] rfl (by (try simp only [List.map_toArray,List.map_cons,List.map_nil]);first|done|rfl|(simp only [List.length_drop,List.length_take];rfl)) ?_;(with_reducible refine (spec_l1Cur_pick.calls g s0_0 x1001_1 x1002_1 24 t804 t805 t806 w0 _ ?side1 ?side2 A22.out).mono ?_);(case side1=>repeat (first|(with_reducible first|exact HI0.out|apply IsS90.alloc|apply IsS90.drewN|apply IsS90.drew|apply IsS90.set_1|apply IsS90.set_2)|exact HI0.out));(case side2=>repeat (first|(with_reducible first|exact HB.out|apply zD|apply zE|apply zF|refine below_set ?_ (IsS90.ge HI0.out))|exact HB.out));rintro e w55 ⟨rfl,hi,hb,hk⟩;refine ⟨_,rfl,?_⟩;have n0_:=zM (Kd.R_mono (Kd.R_keep (IsS90.apart (show IsS90 w0 _ g s0_0 x1001_1 x1002_1 from by repeat (first|(with_reducible first|exact HI0.out|apply IsS90.alloc|apply IsS90.drewN|apply IsS90.drew|apply IsS90.set_1|apply IsS90.set_2)|exact HI0.out)) (by (with_reducible repeat (first|apply zA|apply zB|apply zC));exact HO_5.out) (by decide)) hk (fun _ h=>h.2)) (fun _ h=>h.1));have n1_:=zM (KeepBut.trans (by repeat (first|(with_reducible first|exact HK.out|apply KeepBut.set_|apply keep_drewN|apply keep_drew|apply keep_alloc)|exact HK.out)) hk (.inl rfl));have n2_:=zM (hb);have n3_:=zM (hi);clear HO_5;clear HK;clear HB;clear HI0;have HO_5:=n0_;have HK:=n1_;have HB:=n2_;have HI0:=n3_;clear n0_ n1_ n2_ n3_;(try clear hb);(try clear hb2);(try clear hk);(try clear hi)))
       go_loopg [5,7] k1 (fun kq v5 v7 w' => ∃ (x5_2 : List (S62)) (x7_2 : Int) (x1001_2 : Int) (x1002_2 : Int),v7 = .int .i64 x7_2 ∧ Aside0 (spec_l1Cur_ships.l1 kq t780 x5_2 x7_2 s0_0 x1001_2 x1002_2 = some (r1,r2,r3,r4)) ∧ Aside0 (kq ≤ k1) ∧ Aside0 (Kd.R k62 62 w' w.heap.size (fun _=>True) v5 x5_2) ∧ Aside0 (IsS90 w0 w' g s0_0 x1001_2 x1002_2) ∧ Aside0 (KeepBut w w' g none) ∧ Aside0 (Below w0.heap.size w0 w'))
       case atStart=>exact ⟨(x5_1),(0),(t805),(t806),(by first|rfl|(simp;done)|(simp [*];done)),H',⟨Nat.le_refl _⟩,⟨by (with_reducible repeat (first|apply zA|apply zB|apply zC));exact HO_5.out⟩,⟨by repeat (first|(with_reducible first|exact HI0.out|apply IsS90.alloc|apply IsS90.drewN|apply IsS90.drew|apply IsS90.set_1|apply IsS90.set_2)|exact HI0.out)⟩,⟨by repeat (first|(with_reducible first|exact HK.out|apply KeepBut.set_|apply keep_drewN|apply keep_drew|apply keep_alloc)|exact HK.out)⟩,⟨by repeat (first|(with_reducible first|exact HB.out|apply zD|apply zE|apply zF|refine below_set ?_ (IsS90.ge HI0.out))|exact HB.out)⟩⟩
       case round =>
        clear H'
        try clear c1
        try clear c2
        try clear p2
        try clear c3
        try clear c5
        try clear p6
        try clear c7
        try clear c11
        try clear c11b0
        try clear c16
        try clear c23
        try clear c23b0
        try clear c23b1
        try clear c30
        try clear c30b0
        try clear c30b1
        try clear c35
        try clear c54
        try clear c54b0
        try clear c54b1
        try clear p2
        obtain ⟨x5_2,x7_2,x1001_2,x1002_2,rfl,HA,HK2,HO_5,HI0,HK,HB⟩:=hrel
        cases gk with
        | zero=>exact absurd HA.out (by simp [spec_l1Cur_ships.l1])
        | succ k2 =>
         have H:=HA.out
         clear HA
         simp only [spec_l1Cur_ships.l1] at H
         replace H:=Option.bind_eq_some_iff.mp H
         obtain ⟨⟨t840,t841,t842⟩,A560,H⟩:=H
         replace H : (if (x5_2.length : Int) < (wrap64 (5 + t840)) then (if x7_2 < 7 then (if x5_2.length < 4398046511104 then (spec_l1Cur_ships.l1 k2 t780 (x5_2 ++ [(⟨4,x7_2,3,1⟩ : S62)]) (wrap64 (x7_2 + 1)) s0_0 t841 t842) else (none)) else (some (t780,x5_2,t841,t842))) else (some (t780,x5_2,t841,t842))) = some (r1,r2,r3,r4):=H
         have A56:=zM A560
         clear A560
         by_cases c57 : (x5_2.length : Int) < (wrap64 (5 + t840))
         ·rw [if_pos c57] at H
          have c57b0 : decide ((x5_2.length : Int) < (wrap64 (5 + t840))) = true:=decide_eq_true c57
          clear c57
          by_cases c58 : x7_2 < 7
          ·rw [if_pos c58] at H
           have c58b0 : decide (x7_2 < 7) = true:=decide_eq_true c58
           clear c58
           by_cases c59 : x5_2.length < 4398046511104
           ·rw [if_pos c59] at H
            have LMc59:=zM c59
            clear c59
            obtain ⟨y843,hy843⟩ : ∃ y_ : List (S62),y_ = (x5_2 ++ [(⟨4,x7_2,3,1⟩ : S62)]):=⟨_,rfl⟩
            replace H : (spec_l1Cur_ships.l1 k2 t780 y843 (wrap64 (x7_2 + 1)) s0_0 t841 t842) = some (r1,r2,r3,r4):=by first|(rw [hy843];with_reducible exact H)|(have H2_:=(Option.bind_some _ _).symm.trans H;rw [hy843];with_reducible exact H2_)|(have H2_:=(Option.bind_some _ _).symm.trans H;with_reducible exact H2_)|with_reducible exact H|(rw [hy843];exact H)|exact H
            have Ny843:=zM hy843
            clear hy843
            have H':=zM H
            clear H
            obtain ⟨Ao60,co60,eo60⟩:=Kd.R_slice HO_5.out
            subst eo60
            go_wp2_with (first|((with_reducible refine gate_callee (f:=74) rfl ?_);refine goesL_ (some 63) rfl rfl Try.func74 (by kernel_rfl) rfl #[.pointer (some ⟨g,0,none⟩),.int .i64 2] rfl (by (try simp only [List.map_toArray,List.map_cons,List.map_nil]);first|done|rfl|(simp only [List.length_drop,List.length_take];rfl)) ?_;(with_reducible refine (spec_l1Cur_pick.calls g s0_0 x1001_2 x1002_2 2 t840 t841 t842 w0 _ ?side1 ?side2 A56.out).mono ?_);(case side1=>repeat (first|(with_reducible first|exact HI0.out|apply IsS90.alloc|apply IsS90.drewN|apply IsS90.drew|apply IsS90.set_1|apply IsS90.set_2)|exact HI0.out));(case side2=>repeat (first|(with_reducible first|exact HB.out|apply zD|apply zE|apply zF|refine below_set ?_ (IsS90.ge HI0.out))|exact HB.out));rintro e w61 ⟨rfl,hi,hb,hk⟩;refine ⟨_,rfl,?_⟩;have n0_:=zM (Kd.R_mono (Kd.R_keep (IsS90.apart (show IsS90 w0 _ g s0_0 x1001_2 x1002_2 from by repeat (first|(with_reducible first|exact HI0.out|apply IsS90.alloc|apply IsS90.drewN|apply IsS90.drew|apply IsS90.set_1|apply IsS90.set_2)|exact HI0.out)) (by (with_reducible repeat (first|apply zA|apply zB|apply zC));exact HO_5.out) (by decide)) hk (fun _ h=>h.2)) (fun _ h=>h.1));have n1_:=zM (KeepBut.trans (by repeat (first|(with_reducible first|exact HK.out|apply KeepBut.set_|apply keep_drewN|apply keep_drew|apply keep_alloc)|exact HK.out)) hk (.inl rfl));have n2_:=zM (hb);have n3_:=zM (hi);clear HO_5;clear HK;clear HB;clear HI0;have HO_5:=n0_;have HK:=n1_;have HB:=n2_;have HI0:=n3_;clear n0_ n1_ n2_ n3_;(try clear hb);(try clear hb2);(try clear hk);(try clear hi))|((with_reducible refine gate_builtin (b := .append) (xs := #[.tmp 72,.tmp 75]) rfl ?_);at_builtin;refine Kd.R_append k62 w.heap.size rfl (.tmp 72) (.tmp 75) 27 62 (.agg #[(.int .i64 0),(.int .i64 0),(.int .i64 0),(.int .i64 0)]) 32 rfl Try.underlying27 info62 rfl (by decide) (by omega) (.slice Ao60 x5_2.length co60) x5_2 (⟨4,x7_2,3,1⟩ : S62) [.int .i64 4,.int .i64 x7_2,.int .i64 3,.int .i64 1] (fun _=>True) (fun _=>False) rfl rfl ?aP (fun _ hk=>hk.elim) ?aF ?aO (Below.refl _ _) ?aS ?aL ?_;(case aP=>exact k62_mkM _ _ _ (⟨4,x7_2,3,1⟩ : S62));(case aF=>exact (fun _ _=>trivial));(case aO=>exact (by (with_reducible repeat (first|apply zA|apply zB|apply zC));exact HO_5.out));(case aS=>exact (keep_size (w:=w) (g:=g) (row:=none) (by repeat (first|(with_reducible first|exact HK.out|apply KeepBut.set_|apply keep_drewN|apply keep_drew|apply keep_alloc)|exact HK.out))));(case aL=>have:=LMc59.out;omega);intro v844 w62 ho hb hg hat;rw [← Ny843.out] at ho;have n0_:=zM (IsS90.grown (by repeat (first|(with_reducible first|exact HI0.out|apply IsS90.alloc|apply IsS90.drewN|apply IsS90.drew|apply IsS90.set_1|apply IsS90.set_2)|exact HI0.out)) hg (IsS90.own_ne HI0.out HO_5.out (by decide)));have n1_:=zM (below_weaken (by repeat (first|(with_reducible first|exact HB.out|apply zD|apply zE|apply zF|refine below_set ?_ (IsS90.ge HI0.out))|exact HB.out)) HL.out hb);have n2_:=zM (KeepBut.trans (by repeat (first|(with_reducible first|exact HK.out|apply KeepBut.set_|apply keep_drewN|apply keep_drew|apply keep_alloc)|exact HK.out)) (KeepBut.of_grown hg g) (Kd.R_base2 HO_5.out));have n3_:=zM (ho);clear HI0;clear HB;clear HK;clear HO_5;have HI0:=n0_;have HB:=n1_;have HK:=n2_;have HO845:=n3_;clear n0_ n1_ n2_ n3_;clear ho hb hg hat))
            go_roundg k2
            case measure=>have:=HK1.out;have:=HK2.out;omega
            case rel=>exact ⟨(y843),(wrap64 (x7_2 + 1)),(t841),(t842),(by first|rfl|(simp;done)|(simp [*];done)),H',⟨by have:=HK1.out;have:=HK2.out;omega⟩,⟨by (with_reducible repeat (first|apply zA|apply zB|apply zC));exact HO845.out⟩,⟨by repeat (first|(with_reducible first|exact HI0.out|apply IsS90.alloc|apply IsS90.drewN|apply IsS90.drew|apply IsS90.set_1|apply IsS90.set_2)|exact HI0.out)⟩,⟨by repeat (first|(with_reducible first|exact HK.out|apply KeepBut.set_|apply keep_drewN|apply keep_drew|apply keep_alloc)|exact HK.out)⟩,⟨by repeat (first|(with_reducible first|exact HB.out|apply zD|apply zE|apply zF|refine below_set ?_ (IsS90.ge HI0.out))|exact HB.out)⟩⟩
           ·rw [if_neg c59] at H
            exact absurd H (by simp)
          ·rw [if_neg c58] at H
           have c58b0 : decide (x7_2 < 7) = false:=decide_eq_false c58
           clear c58
           simp only [Option.some.injEq,Prod.mk.injEq] at H
           obtain ⟨rfl,rfl,rfl,rfl⟩:=H
           obtain ⟨Ao63,co63,eo63⟩:=Kd.R_slice HO_5.out
           subst eo63
           go_wp2_with (first|((with_reducible refine gate_callee (f:=74) rfl ?_);refine goesL_ (some 63) rfl rfl Try.func74 (by kernel_rfl) rfl #[.pointer (some ⟨g,0,none⟩),.int .i64 2] rfl (by (try simp only [List.map_toArray,List.map_cons,List.map_nil]);first|done|rfl|(simp only [List.length_drop,List.length_take];rfl)) ?_;(with_reducible refine (spec_l1Cur_pick.calls g s0_0 x1001_2 x1002_2 2 t840 t841 t842 w0 _ ?side1 ?side2 A56.out).mono ?_);(case side1=>repeat (first|(with_reducible first|exact HI0.out|apply IsS90.alloc|apply IsS90.drewN|apply IsS90.drew|apply IsS90.set_1|apply IsS90.set_2)|exact HI0.out));(case side2=>repeat (first|(with_reducible first|exact HB.out|apply zD|apply zE|apply zF|refine below_set ?_ (IsS90.ge HI0.out))|exact HB.out));rintro e w64 ⟨rfl,hi,hb,hk⟩;refine ⟨_,rfl,?_⟩;have n0_:=zM (Kd.R_mono (Kd.R_keep (IsS90.apart (show IsS90 w0 _ g s0_0 x1001_2 x1002_2 from by repeat (first|(with_reducible first|exact HI0.out|apply IsS90.alloc|apply IsS90.drewN|apply IsS90.drew|apply IsS90.set_1|apply IsS90.set_2)|exact HI0.out)) (by (with_reducible repeat (first|apply zA|apply zB|apply zC));exact HO_5.out) (by decide)) hk (fun _ h=>h.2)) (fun _ h=>h.1));have n1_:=zM (KeepBut.trans (by repeat (first|(with_reducible first|exact HK.out|apply KeepBut.set_|apply keep_drewN|apply keep_drew|apply keep_alloc)|exact HK.out)) hk (.inl rfl));have n2_:=zM (hb);have n3_:=zM (hi);clear HO_5;clear HK;clear HB;clear HI0;have HO_5:=n0_;have HK:=n1_;have HB:=n2_;have HI0:=n3_;clear n0_ n1_ n2_ n3_;(try clear hb);(try clear hb2);(try clear hk);(try clear hi)))
           go_ret2
           exact ⟨_,by first|rfl|(simp [errW_none,errW_some] <;> rfl)|(simp [*,errW_none,errW_some] <;> rfl),by (with_reducible repeat (first|apply zA|apply zB|apply zC));exact HO_5.out,by repeat (first|(with_reducible first|exact HI0.out|apply IsS90.alloc|apply IsS90.drewN|apply IsS90.drew|apply IsS90.set_1|apply IsS90.set_2)|exact HI0.out),by repeat (first|(with_reducible first|exact HB.out|apply zD|apply zE|apply zF|refine below_set ?_ (IsS90.ge HI0.out))|exact HB.out),by repeat (first|(with_reducible first|exact HK.out|apply KeepBut.set_|apply keep_drewN|apply keep_drew|apply keep_alloc)|exact HK.out)⟩
         ·rw [if_neg c57] at H
          have c57b0 : decide ((x5_2.length : Int) < (wrap64 (5 + t840))) = false:=decide_eq_false c57
          clear c57
          simp only [Option.some.injEq,Prod.mk.injEq] at H
          obtain ⟨rfl,rfl,rfl,rfl⟩:=H
          obtain ⟨Ao65,co65,eo65⟩:=Kd.R_slice HO_5.out
          subst eo65
          go_wp2_with (first|((with_reducible refine gate_callee (f:=74) rfl ?_);refine goesL_ (some 63) rfl rfl Try.func74 (by kernel_rfl) rfl #[.pointer (some ⟨g,0,none⟩),.int .i64 2] rfl (by (try simp only [List.map_toArray,List.map_cons,List.map_nil]);first|done|rfl|(simp only [List.length_drop,List.length_take];rfl)) ?_;(with_reducible refine (spec_l1Cur_pick.calls g s0_0 x1001_2 x1002_2 2 t840 t841 t842 w0 _ ?side1 ?side2 A56.out).mono ?_);(case side1=>repeat (first|(with_reducible first|exact HI0.out|apply IsS90.alloc|apply IsS90.drewN|apply IsS90.drew|apply IsS90.set_1|apply IsS90.set_2)|exact HI0.out));(case side2=>repeat (first|(with_reducible first|exact HB.out|apply zD|apply zE|apply zF|refine below_set ?_ (IsS90.ge HI0.out))|exact HB.out));rintro e w66 ⟨rfl,hi,hb,hk⟩;refine ⟨_,rfl,?_⟩;have n0_:=zM (Kd.R_mono (Kd.R_keep (IsS90.apart (show IsS90 w0 _ g s0_0 x1001_2 x1002_2 from by repeat (first|(with_reducible first|exact HI0.out|apply IsS90.alloc|apply IsS90.drewN|apply IsS90.drew|apply IsS90.set_1|apply IsS90.set_2)|exact HI0.out)) (by (with_reducible repeat (first|apply zA|apply zB|apply zC));exact HO_5.out) (by decide)) hk (fun _ h=>h.2)) (fun _ h=>h.1));have n1_:=zM (KeepBut.trans (by repeat (first|(with_reducible first|exact HK.out|apply KeepBut.set_|apply keep_drewN|apply keep_drew|apply keep_alloc)|exact HK.out)) hk (.inl rfl));have n2_:=zM (hb);have n3_:=zM (hi);clear HO_5;clear HK;clear HB;clear HI0;have HO_5:=n0_;have HK:=n1_;have HB:=n2_;have HI0:=n3_;clear n0_ n1_ n2_ n3_;(try clear hb);(try clear hb2);(try clear hk);(try clear hi)))
          go_ret2
          exact ⟨_,by first|rfl|(simp [errW_none,errW_some] <;> rfl)|(simp [*,errW_none,errW_some] <;> rfl),by (with_reducible repeat (first|apply zA|apply zB|apply zC));exact HO_5.out,by repeat (first|(with_reducible first|exact HI0.out|apply IsS90.alloc|apply IsS90.drewN|apply IsS90.drew|apply IsS90.set_1|apply IsS90.set_2)|exact HI0.out),by repeat (first|(with_reducible first|exact HB.out|apply zD|apply zE|apply zF|refine below_set ?_ (IsS90.ge HI0.out))|exact HB.out),by repeat (first|(with_reducible first|exact HK.out|apply KeepBut.set_|apply keep_drewN|apply keep_drew|apply keep_alloc)|exact HK.out)⟩
      ·rw [if_neg c54] at H
       have c54b0 : (t804 == 2) = false:=beq_eq_false_iff_ne.mpr c54
       have c54b1 : (t804 != 2) = true:=bne_iff_ne.mpr c54
       simp only [Option.some.injEq,Prod.mk.injEq] at H
       obtain ⟨rfl,rfl,rfl,rfl⟩:=H
       go_wp2_with (first|((with_reducible refine gate_callee (f:=74) rfl ?_);refine goesL_ (some 34) rfl rfl Try.func74 (by kernel_rfl) rfl #[.pointer (some ⟨g,0,none⟩),.int .i64 24] rfl (by (try simp only [List.map_toArray,List.map_cons,List.map_nil]);first|done|rfl|(simp only [List.length_drop,List.length_take];rfl)) ?_;(with_reducible refine (spec_l1Cur_pick.calls g s0_0 x1001_1 x1002_1 24 t804 t805 t806 w0 _ ?side1 ?side2 A22.out).mono ?_);(case side1=>repeat (first|(with_reducible first|exact HI0.out|apply IsS90.alloc|apply IsS90.drewN|apply IsS90.drew|apply IsS90.set_1|apply IsS90.set_2)|exact HI0.out));(case side2=>repeat (first|(with_reducible first|exact HB.out|apply zD|apply zE|apply zF|refine below_set ?_ (IsS90.ge HI0.out))|exact HB.out));rintro e w67 ⟨rfl,hi,hb,hk⟩;refine ⟨_,rfl,?_⟩;have n0_:=zM (Kd.R_mono (Kd.R_keep (IsS90.apart (show IsS90 w0 _ g s0_0 x1001_1 x1002_1 from by repeat (first|(with_reducible first|exact HI0.out|apply IsS90.alloc|apply IsS90.drewN|apply IsS90.drew|apply IsS90.set_1|apply IsS90.set_2)|exact HI0.out)) (by (with_reducible repeat (first|apply zA|apply zB|apply zC));exact HO_5.out) (by decide)) hk (fun _ h=>h.2)) (fun _ h=>h.1));have n1_:=zM (KeepBut.trans (by repeat (first|(with_reducible first|exact HK.out|apply KeepBut.set_|apply keep_drewN|apply keep_drew|apply keep_alloc)|exact HK.out)) hk (.inl rfl));have n2_:=zM (hb);have n3_:=zM (hi);clear HO_5;clear HK;clear HB;clear HI0;have HO_5:=n0_;have HK:=n1_;have HB:=n2_;have HI0:=n3_;clear n0_ n1_ n2_ n3_;(try clear hb);(try clear hb2);(try clear hk);(try clear hi)))
       go_ret2
       exact ⟨_,by first|rfl|(simp [errW_none,errW_some] <;> rfl)|(simp [*,errW_none,errW_some] <;> rfl),by (with_reducible repeat (first|apply zA|apply zB|apply zC));exact HO_5.out,by repeat (first|(with_reducible first|exact HI0.out|apply IsS90.alloc|apply IsS90.drewN|apply IsS90.drew|apply IsS90.set_1|apply IsS90.set_2)|exact HI0.out),by repeat (first|(with_reducible first|exact HB.out|apply zD|apply zE|apply zF|refine below_set ?_ (IsS90.ge HI0.out))|exact HB.out),by repeat (first|(with_reducible first|exact HK.out|apply KeepBut.set_|apply keep_drewN|apply keep_drew|apply keep_alloc)|exact HK.out)⟩

end Go.Proofs.Ytcciljjnpfgaeaa.G

-- Written by wip/tools/gen.py out of the translation (the kit's printer, one namespace a seat). Lean checks it.
namespace Go.Proofs.Ytcciljjnpfgaeaa.G
open Go.RowKit Go.Proofs.YtcciljjnpfgaeaaW.PrintWords Go.Proofs.YtcciljjnpfgaeaaW.PrintLast Go.Proofs.YtcciljjnpfgaeaaW.PrintMore
attribute [local go_sem] max2_int min2_int max_two min_two max_three min_three max_four min_four   -- for this text's walks alone
set_option linter.unusedVariables false
set_option linter.unusedSimpArgs false

/-! ### spec_l14InOrder: function 65 -/
def spec_l14InOrder.l0 : Nat → Int → List (S62) → List Int → List (S37) → List (S62) → List (S37) → Int → Option ((List (S37)) × Bool)
 | 0,_,_,_,_,_,_,_=>none
 | k + 1,x0,x1,x2,x8,x9,x10,x11=>if x11 < (x2.length : Int) then (if 0 ≤ x11 then (if 0 ≤ (rd x2 x11) then (if (rd x2 x11) < (x1.length : Int) then ((spec_l14Next.f k x0 ((rd_T62 x1 (rd x2 x11)).f0) ((rd_T62 x1 (rd x2 x11)).f1) ((rd_T62 x1 (rd x2 x11)).f2) ((rd_T62 x1 (rd x2 x11)).f3) x9 x10).bind fun bt526=>(if bt526.2.2 = true then (if x9.length < 4398046511104 then (if x10.length < 8796093022208 then (if (rd x2 x11) < (x8.length : Int) then (spec_l14InOrder.l0 k x0 x1 x2 (x8.set ((rd x2 x11) : Int).toNat (⟨bt526.1,bt526.2.1⟩ : S37)) (x9 ++ [(⟨(rd_T62 x1 (rd x2 x11)).f0,(rd_T62 x1 (rd x2 x11)).f1,(rd_T62 x1 (rd x2 x11)).f2,(rd_T62 x1 (rd x2 x11)).f3⟩ : S62)]) (x10 ++ [(⟨bt526.1,bt526.2.1⟩ : S37)]) (wrap64 (x11 + 1))) else (none)) else (none)) else (none)) else (some ((([] : List (S37))),false)))) else (none)) else (none)) else (none)) else (some (x8,true))
def spec_l14InOrder.f (k : Nat) (a0 : Int) (l1 : List (S62)) (l2 : List Int) : Option ((List (S37)) × Bool):=if 0 ≤ (l1.length : Int) then (if ((l1.length : Int) : Int).toNat ≤ 17592186044416 then (spec_l14InOrder.l0 k a0 l1 l2 (List.replicate ((l1.length : Int) : Int).toNat z37) (([] : List (S62))) (([] : List (S37))) 0) else (none)) else (none)
theorem spec_l14InOrder.mono_l : ∀ k,(∀ y0 y1 y2 y3 y4 y5 y6,LeO (spec_l14InOrder.l0 k y0 y1 y2 y3 y4 y5 y6) (spec_l14InOrder.l0 (k + 1) y0 y1 y2 y3 y4 y5 y6))
 | 0=>fun _ _ _ _ _ _ _ r h=>by simp [spec_l14InOrder.l0] at h
 | k + 1=>by
  have ih0:=spec_l14InOrder.mono_l k
  ·intro y0 y1 y2 y3 y4 y5 y6
   unfold spec_l14InOrder.l0
   repeat' first
   | (with_reducible exact ih0 _ _ _ _ _ _ _)
   | (with_reducible exact spec_l14Next.mono _ _ _ _ _ _ _ _)
   | (with_reducible exact LeO.refl _)
   | (with_reducible exact LeO.none _)
   | (with_reducible refine LeO.ite ?_ ?_)
   | (with_reducible refine LeO.bind ?_ (fun _=>?_))
   | exact ih0 _ _ _ _ _ _ _
   | exact spec_l14Next.mono _ _ _ _ _ _ _ _
   | exact LeO.none _
   | refine LeO.ite ?_ ?_
   | refine LeO.bind ?_ (fun _=>?_)
theorem spec_l14InOrder.mono : ∀ a0 a1 a2 k,LeO (spec_l14InOrder.f k a0 a1 a2) (spec_l14InOrder.f (k + 1) a0 a1 a2):=by
 intro a0 a1 a2 k
 have ih0:=spec_l14InOrder.mono_l k
 unfold spec_l14InOrder.f
 repeat' first
   | (with_reducible exact ih0 _ _ _ _ _ _ _)
   | (with_reducible exact spec_l14Next.mono _ _ _ _ _ _ _ _)
   | (with_reducible exact LeO.refl _)
   | (with_reducible exact LeO.none _)
   | (with_reducible refine LeO.ite ?_ ?_)
   | (with_reducible refine LeO.bind ?_ (fun _=>?_))
   | exact ih0 _ _ _ _ _ _ _
   | exact spec_l14Next.mono _ _ _ _ _ _ _ _
   | exact LeO.none _
   | refine LeO.ite ?_ ?_
   | refine LeO.bind ?_ (fun _=>?_)
def spec_l14InOrder.T11 : Bool × List (List Nat × List Nat):=(true,[([],[]),([],[]),([],[]),([1,2],[1,2]),([3],[3]),([],[]),([0,4,0,1,2,3,4,5],[0,4]),([6,5,0,1,2,3,4,5],[5,6])])
def spec_l14InOrder.B11 : List Nat:=[0,0,0,6,14,0,63,127]
theorem spec_l14InOrder.tab11 : rtab .any (opsOf Try.f65 11) = spec_l14InOrder.T11:=by kernel_rfl
theorem spec_l14InOrder.bits11 : waitsOk spec_l14InOrder.T11.2 spec_l14InOrder.B11 = true:=by kernel_rfl
set_option maxHeartbeats 8000000 in
set_option maxRecDepth 100000 in
theorem spec_l14InOrder.calls (k : Nat) (a0 : Int) (A1 : Option Addr) (c1 : Nat) (l1 : List (S62)) (A2 : Option Addr) (c2 : Nat) (l2 : List Int) (r1 : List (S37)) (r2 : Bool) (w : World) (hr1 : Kd.C k62 w A1 l1.length l1) (hc1 : l1.length ≤ c1) (hr2 : Kd.C (Kd.int .i64) w A2 l2.length l2) (hc2 : l2.length ≤ c2) (h : spec_l14InOrder.f k a0 l1 l2 = some (r1,r2)) :
  Calls Try.prog 65 #[.int .i64 a0,.slice A1 l1.length c1,.slice A2 l2.length c2] w fun e w' => ∃ v0_ : Value,e = .returned (.tuple #[v0_,.bool r2]) ∧ Kd.R k37 37 w' w.heap.size (fun _=>True) v0_ r1 ∧ Below w.heap.size w w':=by
 have hu62:=Try.underlying62
 have hu37:=Try.underlying37
 have HR1:=zM hr1
 have HC1:=zM hc1
 clear hr1 hc1
 have HR2:=zM hr2
 have HC2:=zM hc2
 clear hr2 hc2
 have HB:=zM (Below.refl w.heap.size w)
 have H : (if 0 ≤ (l1.length : Int) then (if ((l1.length : Int) : Int).toNat ≤ 17592186044416 then (spec_l14InOrder.l0 k a0 l1 l2 (List.replicate ((l1.length : Int) : Int).toNat z37) (([] : List (S62))) (([] : List (S37))) 0) else (none)) else (none)) = some (r1,r2):=h
 clear h
 by_cases c4 : 0 ≤ (l1.length : Int)
 ·rw [if_pos c4] at H
  have c4b0:=eq_true c4
  have c4b1 : decide (0 ≤ (l1.length : Int)) = true:=decide_eq_true c4
  clear c4
  by_cases c5 : ((l1.length : Int) : Int).toNat ≤ 17592186044416
  ·rw [if_pos c5] at H
   have c5b0:=eq_true c5
   have c5b1 : decide (((l1.length : Int) : Int).toNat ≤ 17592186044416) = true:=decide_eq_true c5
   clear c5
   obtain ⟨y515,hy515⟩ : ∃ y_ : List (S37),y_ = (List.replicate ((l1.length : Int) : Int).toNat z37):=⟨_,rfl⟩
   replace H : (spec_l14InOrder.l0 k a0 l1 l2 y515 (([] : List (S62))) (([] : List (S37))) 0) = some (r1,r2):=by first|(rw [hy515];with_reducible exact H)|(have H2_:=(Option.bind_some _ _).symm.trans H;rw [hy515];with_reducible exact H2_)|(have H2_:=(Option.bind_some _ _).symm.trans H;with_reducible exact H2_)|with_reducible exact H|(rw [hy515];exact H)|exact H
   have Ny515:=zM hy515
   clear hy515
   obtain ⟨y518,hy518⟩ : ∃ y_ : List (S62),y_ = (([] : List (S62))):=⟨_,rfl⟩
   replace H : (spec_l14InOrder.l0 k a0 l1 l2 y515 y518 (([] : List (S37))) 0) = some (r1,r2):=by first|(rw [hy518];with_reducible exact H)|(have H2_:=(Option.bind_some _ _).symm.trans H;rw [hy518];with_reducible exact H2_)|(have H2_:=(Option.bind_some _ _).symm.trans H;with_reducible exact H2_)|with_reducible exact H|(rw [hy518];exact H)|exact H
   have Ny518:=zM hy518
   clear hy518
   obtain ⟨y521,hy521⟩ : ∃ y_ : List (S37),y_ = (([] : List (S37))):=⟨_,rfl⟩
   replace H : (spec_l14InOrder.l0 k a0 l1 l2 y515 y518 y521 0) = some (r1,r2):=by first|(rw [hy521];with_reducible exact H)|(have H2_:=(Option.bind_some _ _).symm.trans H;rw [hy521];with_reducible exact H2_)|(have H2_:=(Option.bind_some _ _).symm.trans H;with_reducible exact H2_)|with_reducible exact H|(rw [hy521];exact H)|exact H
   have Ny521:=zM hy521
   clear hy521
   have H':=zM H
   clear H
   go_enter Try.func65,Try.ntmps65
   go_wp2_with (first|((with_reducible refine gate_dst (N:=16) rfl ?_);refine Kd.R_make k37 _ 37 rfl (N:=16) rfl 29 _ _ rfl (l1.length : Int) rfl rfl Try.underlying29 (.agg #[(.int .i64 0),(.int .i64 0)]) 16 info37 rfl (by decide) (by omega) z37 (ok:=fun _=>True) (okp:=fun _=>True) (k37_mkM _ _ _ z37 ) (fun _ hk=>hk) trivial (of_decide_eq_true (by first|(with_reducible assumption)|assumption)) (Nat.le_trans (Nat.mul_le_mul_right _ (of_decide_eq_true (by first|(with_reducible assumption)|assumption) : (l1.length : Int).toNat ≤ 17592186044416)) (by omega)) (Below.refl _ _) (Nat.le_refl _) ?_;intro v516 w6 ho7 hb hg_ hnew_;clear hg_ hnew_;(first|rw [← Ny515.out] at ho7|(simp only [Int.reduceToNat] at ho7;rw [← Ny515.out] at ho7));have n0_:=zM (Kd.R_lower ho7 (zR (by repeat (first|(with_reducible first|exact HB.out|apply zD|apply zE|apply zF)|exact HB.out))));have n1_:=zM (zQ (by repeat (first|(with_reducible first|exact HB.out|apply zD|apply zE|apply zF)|exact HB.out)) hb);clear HB;have HO517:=n0_;have HB:=n1_;clear n0_ n1_;clear hb ho7)|((with_reducible refine gate_dst (N:=17) rfl ?_);refine Kd.R_lit k62 _ 62 ?hg (N:=17) ?hd (xs:=([] : List (S62))) (inner:=[]) (ok:=fun _=>True) (okp:=fun _=>True) ?hr ?hp (fun _ hk=>hk) trivial (Below.refl _ _) (Nat.le_refl _) (by simp) ?_;(case hd=>rfl);(case hg=>rfl);(case hr=>first|(go_simp;done)|(go_simp;rfl));(case hp=>exact (Reps.none _ _));intro v519 w8 ho9 hb hg_ hnew_;clear hg_ hnew_;(first|rw [← Ny518.out] at ho9|(simp only [Int.reduceToNat] at ho9;rw [← Ny518.out] at ho9));have n0_:=zM (zP (by (with_reducible repeat (first|apply zA|apply zB|apply zC));exact HO517.out) hb);have n1_:=zM (Kd.R_lower ho9 (zR (by repeat (first|(with_reducible first|exact HB.out|apply zD|apply zE|apply zF)|exact HB.out))));have n2_:=zM (zQ (by repeat (first|(with_reducible first|exact HB.out|apply zD|apply zE|apply zF)|exact HB.out)) hb);clear HO517;clear HB;have HO517:=n0_;have HO520:=n1_;have HB:=n2_;clear n0_ n1_ n2_;clear hb ho9)|((with_reducible refine gate_dst (N:=18) rfl ?_);refine Kd.R_lit k37 _ 37 ?hg (N:=18) ?hd (xs:=([] : List (S37))) (inner:=[]) (ok:=fun _=>True) (okp:=fun _=>True) ?hr ?hp (fun _ hk=>hk) trivial (Below.refl _ _) (Nat.le_refl _) (by simp) ?_;(case hd=>rfl);(case hg=>rfl);(case hr=>first|(go_simp;done)|(go_simp;rfl));(case hp=>exact (Reps.none _ _));intro v522 w10 ho11 hb hg_ hnew_;clear hg_ hnew_;(first|rw [← Ny521.out] at ho11|(simp only [Int.reduceToNat] at ho11;rw [← Ny521.out] at ho11));have n0_:=zM (Kd.R_elder' (by (with_reducible repeat (first|apply zA|apply zB|apply zC));exact HO517.out) (Kd.R_base ho11) hb);have n1_:=zM (zP (by (with_reducible repeat (first|apply zA|apply zB|apply zC));exact HO520.out) hb);have n2_:=zM (Kd.R_lower (Kd.R_new' ho11 (Kd.R_lt (by (with_reducible repeat (first|apply zA|apply zB|apply zC));exact HO517.out))) (zR (by repeat (first|(with_reducible first|exact HB.out|apply zD|apply zE|apply zF)|exact HB.out))));have n3_:=zM (zQ (by repeat (first|(with_reducible first|exact HB.out|apply zD|apply zE|apply zF)|exact HB.out)) hb);clear HO517;clear HO520;clear HB;have HO517:=n0_;have HO520:=n1_;have HO523:=n2_;have HB:=n3_;clear n0_ n1_ n2_ n3_;clear hb ho11))
   go_loopg [9,10,11] k (fun kq v9 v10 v11 w' => ∃ (x8_1 : List (S37)) (x9_1 : List (S62)) (x10_1 : List (S37)) (x11_1 : Int),v11 = .int .i64 x11_1 ∧ Aside0 (spec_l14InOrder.l0 kq a0 l1 l2 x8_1 x9_1 x10_1 x11_1 = some (r1,r2)) ∧ Aside0 (kq ≤ k) ∧ Aside0 (Kd.R k37 37 w' w.heap.size (fun k_=>some k_ ≠ (v10 : Value).ownBlock) v516 x8_1) ∧ Aside0 (Kd.R k62 62 w' w.heap.size (fun _=>True) v9 x9_1) ∧ Aside0 (Kd.R k37 37 w' w.heap.size (fun k_=>some k_ ≠ (v516 : Value).ownBlock) v10 x10_1) ∧ Aside0 (Below w.heap.size w w'))
   case atStart=>exact ⟨(y515),(y518),(y521),(0),(by first|rfl|(simp;done)|(simp [*];done)),H',⟨Nat.le_refl _⟩,⟨by (with_reducible repeat (first|apply zA|apply zB|apply zC));exact Kd.R_mono HO517.out (fun _ hk=>hk.2)⟩,⟨by (with_reducible repeat (first|apply zA|apply zB|apply zC));exact HO520.out⟩,⟨by (with_reducible repeat (first|apply zA|apply zB|apply zC));exact Kd.R_mono HO523.out (fun _ hk=>hk.2)⟩,⟨by repeat (first|(with_reducible first|exact HB.out|apply zD|apply zE|apply zF)|exact HB.out)⟩⟩
   case round =>
    clear H'
    try clear c1
    try clear c2
    try clear p2
    try clear c4
    try clear c4b0
    try clear c4b1
    try clear c5
    try clear c5b0
    try clear c5b1
    try clear c6
    obtain ⟨x8_1,x9_1,x10_1,x11_1,rfl,HA,HK1,HO_8,HO_9,HO_10,HB⟩:=hrel
    cases gk with
    | zero=>exact absurd HA.out (by simp [spec_l14InOrder.l0])
    | succ k1 =>
     have H:=HA.out
     clear HA
     simp only [spec_l14InOrder.l0] at H
     by_cases c12 : x11_1 < (l2.length : Int)
     ·rw [if_pos c12] at H
      have c12b0 : decide (x11_1 < (l2.length : Int)) = true:=decide_eq_true c12
      clear c12
      by_cases c13 : 0 ≤ x11_1
      ·rw [if_pos c13] at H
       have c13b0 : decide (0 ≤ x11_1) = true:=decide_eq_true c13
       clear c13
       by_cases c14 : 0 ≤ (rd l2 x11_1)
       ·rw [if_pos c14] at H
        have c14b0 : decide (0 ≤ (rd l2 x11_1)) = true:=decide_eq_true c14
        clear c14
        by_cases c15 : (rd l2 x11_1) < (l1.length : Int)
        ·rw [if_pos c15] at H
         have c15b0 : decide ((rd l2 x11_1) < (l1.length : Int)) = true:=decide_eq_true c15
         clear c15
         replace H:=Option.bind_eq_some_iff.mp H
         obtain ⟨⟨t526,t527,t528⟩,A160,H⟩:=H
         replace H : (if t528 = true then (if x9_1.length < 4398046511104 then (if x10_1.length < 8796093022208 then (if (rd l2 x11_1) < (x8_1.length : Int) then (spec_l14InOrder.l0 k1 a0 l1 l2 (x8_1.set ((rd l2 x11_1) : Int).toNat (⟨t526,t527⟩ : S37)) (x9_1 ++ [(⟨(rd_T62 l1 (rd l2 x11_1)).f0,(rd_T62 l1 (rd l2 x11_1)).f1,(rd_T62 l1 (rd l2 x11_1)).f2,(rd_T62 l1 (rd l2 x11_1)).f3⟩ : S62)]) (x10_1 ++ [(⟨t526,t527⟩ : S37)]) (wrap64 (x11_1 + 1))) else (none)) else (none)) else (none)) else (some ((([] : List (S37))),false))) = some (r1,r2):=H
         have A16:=zM A160
         clear A160
         by_cases c17 : t528 = true
         ·subst c17
          have H1 : (if x9_1.length < 4398046511104 then (if x10_1.length < 8796093022208 then (if (rd l2 x11_1) < (x8_1.length : Int) then (spec_l14InOrder.l0 k1 a0 l1 l2 (x8_1.set ((rd l2 x11_1) : Int).toNat (⟨t526,t527⟩ : S37)) (x9_1 ++ [(⟨(rd_T62 l1 (rd l2 x11_1)).f0,(rd_T62 l1 (rd l2 x11_1)).f1,(rd_T62 l1 (rd l2 x11_1)).f2,(rd_T62 l1 (rd l2 x11_1)).f3⟩ : S62)]) (x10_1 ++ [(⟨t526,t527⟩ : S37)]) (wrap64 (x11_1 + 1))) else (none)) else (none)) else (none)) = some (r1,r2):=by rw [if_pos rfl] at H;exact H
          clear H
          have H:=H1
          clear H1
          by_cases c18 : x9_1.length < 4398046511104
          ·rw [if_pos c18] at H
           have LMc18:=zM c18
           clear c18
           obtain ⟨y532,hy532⟩ : ∃ y_ : List (S62),y_ = (x9_1 ++ [(⟨(rd_T62 l1 (rd l2 x11_1)).f0,(rd_T62 l1 (rd l2 x11_1)).f1,(rd_T62 l1 (rd l2 x11_1)).f2,(rd_T62 l1 (rd l2 x11_1)).f3⟩ : S62)]):=⟨_,rfl⟩
           replace H : (if x10_1.length < 8796093022208 then (if (rd l2 x11_1) < (x8_1.length : Int) then (spec_l14InOrder.l0 k1 a0 l1 l2 (x8_1.set ((rd l2 x11_1) : Int).toNat (⟨t526,t527⟩ : S37)) y532 (x10_1 ++ [(⟨t526,t527⟩ : S37)]) (wrap64 (x11_1 + 1))) else (none)) else (none)) = some (r1,r2):=by first|(rw [hy532];with_reducible exact H)|(have H2_:=(Option.bind_some _ _).symm.trans H;rw [hy532];with_reducible exact H2_)|(have H2_:=(Option.bind_some _ _).symm.trans H;with_reducible exact H2_)|with_reducible exact H|(rw [hy532];exact H)|exact H
           have Ny532:=zM hy532
           clear hy532
           by_cases c19 : x10_1.length < 8796093022208
           ·rw [if_pos c19] at H
            have LMc19:=zM c19
            clear c19
            obtain ⟨y535,hy535⟩ : ∃ y_ : List (S37),y_ = (x10_1 ++ [(⟨t526,t527⟩ : S37)]):=⟨_,rfl⟩
            replace H : (if (rd l2 x11_1) < (x8_1.length : Int) then (spec_l14InOrder.l0 k1 a0 l1 l2 (x8_1.set ((rd l2 x11_1) : Int).toNat (⟨t526,t527⟩ : S37)) y532 y535 (wrap64 (x11_1 + 1))) else (none)) = some (r1,r2):=by first|(rw [hy535];with_reducible exact H)|(have H2_:=(Option.bind_some _ _).symm.trans H;rw [hy535];with_reducible exact H2_)|(have H2_:=(Option.bind_some _ _).symm.trans H;with_reducible exact H2_)|with_reducible exact H|(rw [hy535];exact H)|exact H
            have Ny535:=zM hy535
            clear hy535
            by_cases c20 : (rd l2 x11_1) < (x8_1.length : Int)
            ·rw [if_pos c20] at H
             have c20b0 : decide ((rd l2 x11_1) < (x8_1.length : Int)) = true:=decide_eq_true c20
             clear c20
             obtain ⟨y539,hy539⟩ : ∃ y_ : List (S37),y_ = (x8_1.set ((rd l2 x11_1) : Int).toNat (⟨t526,t527⟩ : S37)):=⟨_,rfl⟩
             replace H : (spec_l14InOrder.l0 k1 a0 l1 l2 y539 y532 y535 (wrap64 (x11_1 + 1))) = some (r1,r2):=by first|(rw [hy539];with_reducible exact H)|(have H2_:=(Option.bind_some _ _).symm.trans H;rw [hy539];with_reducible exact H2_)|(have H2_:=(Option.bind_some _ _).symm.trans H;with_reducible exact H2_)|with_reducible exact H|(rw [hy539];exact H)|exact H
             have Ny539:=zM hy539
             clear hy539
             have H':=zM H
             clear H
             have p524 : 0 ≤ (x11_1 : Int):=of_decide_eq_true (by first|(with_reducible assumption)|assumption)
             have q524 : x11_1 < (l2.length : Int):=of_decide_eq_true (by first|(with_reducible assumption)|assumption)
             obtain ⟨ad524,e524,hx524_0⟩:=Kd.at_int HR2.out x11_1 p524 q524
             cases e524
             replace hx524_0:=(HB.out.cell (World.block_lt_of_cell? w _ hx524_0)).trans hx524_0
             replace p524:=eq_true p524
             replace q524:=eq_true q524
             have p525 : 0 ≤ ((rd l2 x11_1) : Int):=of_decide_eq_true (by first|(with_reducible assumption)|assumption)
             have q525 : (rd l2 x11_1) < (l1.length : Int):=of_decide_eq_true (by first|(with_reducible assumption)|assumption)
             obtain ⟨ad525,e525,hx525_0,hx525_1,hx525_2,hx525_3⟩:=at_T62 HR1.out (rd l2 x11_1) p525 q525
             cases e525
             replace hx525_0:=(HB.out.cell (World.block_lt_of_cell? w _ hx525_0)).trans hx525_0
             replace hx525_1:=(HB.out.cell (World.block_lt_of_cell? w _ hx525_1)).trans hx525_1
             replace hx525_2:=(HB.out.cell (World.block_lt_of_cell? w _ hx525_2)).trans hx525_2
             replace hx525_3:=(HB.out.cell (World.block_lt_of_cell? w _ hx525_3)).trans hx525_3
             replace p525:=eq_true p525
             replace q525:=eq_true q525
             obtain ⟨Ao22,co22,eo22⟩:=Kd.R_slice HO_9.out
             subst eo22
             obtain ⟨Ao23,co23,eo23⟩:=Kd.R_slice HO_10.out
             subst eo23
             try go_wp2_with (first|((with_reducible refine gate_callee (f:=60) rfl ?_);refine goesL_ (some 36) rfl rfl Try.func60 (by kernel_rfl) rfl #[.int .i64 a0,.agg #[.int .i64 ((rd_T62 l1 (rd l2 x11_1)).f0),.int .i64 ((rd_T62 l1 (rd l2 x11_1)).f1),.int .i64 ((rd_T62 l1 (rd l2 x11_1)).f2),.int .i64 ((rd_T62 l1 (rd l2 x11_1)).f3)],.slice Ao22 x9_1.length co22,.slice Ao23 x10_1.length co23] rfl (by (try simp only [List.map_toArray,List.map_cons,List.map_nil]);first|done|rfl|(simp only [List.length_drop,List.length_take];rfl)) ?_;(with_reducible refine (spec_l14Next.calls k1 a0 ((rd_T62 l1 (rd l2 x11_1)).f0) ((rd_T62 l1 (rd l2 x11_1)).f1) ((rd_T62 l1 (rd l2 x11_1)).f2) ((rd_T62 l1 (rd l2 x11_1)).f3) _ _ x9_1 _ _ x10_1 t526 t527 true _ ?side1 ?side2 ?side3 ?side4 A16.out).mono ?_);(case side1=>repeat (first|exact (zN HO_9.out).2.2|(with_reducible refine zG ?_ _)|(with_reducible refine zH ?_ _)|(with_reducible refine zI ?_)));(case side2=>exact (zN HO_9.out).2.1);(case side3=>repeat (first|exact (zN HO_10.out).2.2|(with_reducible refine zG ?_ _)|(with_reducible refine zH ?_ _)|(with_reducible refine zI ?_)));(case side4=>exact (zN HO_10.out).2.1);rintro e w24 ⟨rfl,hb⟩;refine ⟨_,rfl,?_⟩;have n0_:=zM (zP (by (with_reducible repeat (first|apply zA|apply zB|apply zC));exact HO_8.out) hb);have n1_:=zM (zP (by (with_reducible repeat (first|apply zA|apply zB|apply zC));exact HO_9.out) hb);have n2_:=zM (zP (by (with_reducible repeat (first|apply zA|apply zB|apply zC));exact HO_10.out) hb);have n3_:=zM (zQ (by repeat (first|(with_reducible first|exact HB.out|apply zD|apply zE|apply zF)|exact HB.out)) hb);clear HO_8;clear HO_9;clear HO_10;clear HB;have HO_8:=n0_;have HO_9:=n1_;have HO_10:=n2_;have HB:=n3_;clear n0_ n1_ n2_ n3_;(try clear hb);(try clear hb2);(try clear hk);(try clear hi))|((with_reducible refine gate_dst (N:=12) rfl ?_);refine box_event ?hg (N:=12) ?hd (cs := #[.int .i64 0,.int .i64 0]) (t:=37) ?hr ?_;(case hd=>rfl);(case hg=>rfl);(case hr=>first|(go_simp;done)|(go_simp;rfl));intro gb529 hg w25 hbox hb;have n0_:=zM (zP (Kd.R_elderB (by (with_reducible repeat (first|apply zA|apply zB|apply zC));exact HO_8.out) gb529 (Nat.le_of_eq hg.symm)) hb);have n1_:=zM (zP (by (with_reducible repeat (first|apply zA|apply zB|apply zC));exact HO_9.out) hb);have n2_:=zM (zP (Kd.R_elderB (by (with_reducible repeat (first|apply zA|apply zB|apply zC));exact HO_10.out) gb529 (Nat.le_of_eq hg.symm)) hb);have n3_:=zM (zQ (by repeat (first|(with_reducible first|exact HB.out|apply zD|apply zE|apply zF)|exact HB.out)) hb);have n4_:=zM (hbox);have n5_:=zM ((by rw [hg];exact (zR (by repeat (first|(with_reducible first|exact HB.out|apply zD|apply zE|apply zF)|exact HB.out))) : w.heap.size ≤ gb529));have n6_:=zM ((by rw [hg];exact (zR (by repeat (first|(with_reducible first|exact HB.out|apply zD|apply zE|apply zF)|exact HB.out))) : w.heap.size ≤ gb529));clear HO_8;clear HO_9;clear HO_10;clear HB;have HO_8:=n0_;have HO_9:=n1_;have HO_10:=n2_;have HB:=n3_;have BK529:=n4_;have GW529:=n5_;have GE529:=n6_;clear n0_ n1_ n2_ n3_ n4_ n5_ n6_;clear hb hbox hg;have hcz26_0 : w25.cell? ⟨gb529,0,none⟩ = some (.int .i64 0):=(blk_cell BK529.out 0).trans rfl;have hcz26_1 : w25.cell? ⟨gb529,1,none⟩ = some (.int .i64 0):=(blk_cell BK529.out 1).trans rfl;have hfz26_0:=blk_frozen BK529.out 0;have hfz26_1:=blk_frozen BK529.out 1;have p530 : 0 ≤ (x11_1 : Int):=of_decide_eq_true (by first|(with_reducible assumption)|assumption);have q530 : x11_1 < (l2.length : Int):=of_decide_eq_true (by first|(with_reducible assumption)|assumption);obtain ⟨ad530,e530,hx530_0⟩:=Kd.at_int HR2.out x11_1 p530 q530;obtain rfl : ad524 = ad530:=(by injection e530);have hn530_0 : ad524.block ≠ gb529:=Nat.ne_of_lt (Nat.lt_of_lt_of_le (by have:=World.block_lt_of_cell? _ _ hx530_0;first|rwa [add_block] at this|exact this) GW529.out);have hn530_1 : ad524.block ≠ gb529:=Nat.ne_of_lt (Nat.lt_of_lt_of_le (by have:=World.block_lt_of_cell? _ _ hx530_0;first|rwa [add_block] at this|exact this) GW529.out);replace hx530_0:=(HB.out.cell (World.block_lt_of_cell? w _ hx530_0)).trans hx530_0;replace hx530_0:=(cell_far (p:=⟨gb529,0,none⟩) (by first|(rw [add_block];exact hn530_0)|(show (Addr.add _ _).block ≠ _;rw [add_block];exact hn530_0)|exact hn530_0) (.int .i64 t526)).trans hx530_0;replace hx530_0:=(cell_far (p:=⟨gb529,1,none⟩) (by first|(rw [add_block];exact hn530_1)|(show (Addr.add _ _).block ≠ _;rw [add_block];exact hn530_1)|exact hn530_1) (.int .i64 t527)).trans hx530_0;clear hn530_0;clear hn530_1;replace p530:=eq_true p530;replace q530:=eq_true q530;have p531 : 0 ≤ ((rd l2 x11_1) : Int):=of_decide_eq_true (by first|(with_reducible assumption)|assumption);have q531 : (rd l2 x11_1) < (l1.length : Int):=of_decide_eq_true (by first|(with_reducible assumption)|assumption);obtain ⟨ad531,e531,hx531_0,hx531_1,hx531_2,hx531_3⟩:=at_T62 HR1.out (rd l2 x11_1) p531 q531;obtain rfl : ad525 = ad531:=(by injection e531);have hn531_0 : ad525.block ≠ gb529:=Nat.ne_of_lt (Nat.lt_of_lt_of_le (by have:=World.block_lt_of_cell? _ _ hx531_0;first|rwa [add_block] at this|exact this) GW529.out);have hn531_1 : ad525.block ≠ gb529:=Nat.ne_of_lt (Nat.lt_of_lt_of_le (by have:=World.block_lt_of_cell? _ _ hx531_0;first|rwa [add_block] at this|exact this) GW529.out);replace hx531_0:=(HB.out.cell (World.block_lt_of_cell? w _ hx531_0)).trans hx531_0;replace hx531_1:=(HB.out.cell (World.block_lt_of_cell? w _ hx531_1)).trans hx531_1;replace hx531_2:=(HB.out.cell (World.block_lt_of_cell? w _ hx531_2)).trans hx531_2;replace hx531_3:=(HB.out.cell (World.block_lt_of_cell? w _ hx531_3)).trans hx531_3;replace hx531_0:=(cell_far (p:=⟨gb529,0,none⟩) (by first|(rw [add_block];exact hn531_0)|(show (Addr.add _ _).block ≠ _;rw [add_block];exact hn531_0)|exact hn531_0) (.int .i64 t526)).trans hx531_0;replace hx531_1:=(cell_far (p:=⟨gb529,0,none⟩) (by first|(rw [add_block];exact hn531_0)|(show (Addr.add _ _).block ≠ _;rw [add_block];exact hn531_0)|exact hn531_0) (.int .i64 t526)).trans hx531_1;replace hx531_2:=(cell_far (p:=⟨gb529,0,none⟩) (by first|(rw [add_block];exact hn531_0)|(show (Addr.add _ _).block ≠ _;rw [add_block];exact hn531_0)|exact hn531_0) (.int .i64 t526)).trans hx531_2;replace hx531_3:=(cell_far (p:=⟨gb529,0,none⟩) (by first|(rw [add_block];exact hn531_0)|(show (Addr.add _ _).block ≠ _;rw [add_block];exact hn531_0)|exact hn531_0) (.int .i64 t526)).trans hx531_3;replace hx531_0:=(cell_far (p:=⟨gb529,1,none⟩) (by first|(rw [add_block];exact hn531_1)|(show (Addr.add _ _).block ≠ _;rw [add_block];exact hn531_1)|exact hn531_1) (.int .i64 t527)).trans hx531_0;replace hx531_1:=(cell_far (p:=⟨gb529,1,none⟩) (by first|(rw [add_block];exact hn531_1)|(show (Addr.add _ _).block ≠ _;rw [add_block];exact hn531_1)|exact hn531_1) (.int .i64 t527)).trans hx531_1;replace hx531_2:=(cell_far (p:=⟨gb529,1,none⟩) (by first|(rw [add_block];exact hn531_1)|(show (Addr.add _ _).block ≠ _;rw [add_block];exact hn531_1)|exact hn531_1) (.int .i64 t527)).trans hx531_2;replace hx531_3:=(cell_far (p:=⟨gb529,1,none⟩) (by first|(rw [add_block];exact hn531_1)|(show (Addr.add _ _).block ≠ _;rw [add_block];exact hn531_1)|exact hn531_1) (.int .i64 t527)).trans hx531_3;clear hn531_0;clear hn531_1;replace p531:=eq_true p531;replace q531:=eq_true q531)|((with_reducible refine gate_builtin (b := .append) (xs := #[.tmp 42,.tmp 50]) rfl ?_);at_builtin;refine Kd.R_append k62 (w0:=w) w.heap.size rfl (.tmp 42) (.tmp 50) 27 62 (.agg #[(.int .i64 0),(.int .i64 0),(.int .i64 0),(.int .i64 0)]) 32 rfl Try.underlying27 info62 rfl (by decide) (by omega) (.slice Ao22 x9_1.length co22) x9_1 (⟨(rd_T62 l1 (rd l2 x11_1)).f0,(rd_T62 l1 (rd l2 x11_1)).f1,(rd_T62 l1 (rd l2 x11_1)).f2,(rd_T62 l1 (rd l2 x11_1)).f3⟩ : S62) [.int .i64 ((rd_T62 l1 (rd l2 x11_1)).f0),.int .i64 ((rd_T62 l1 (rd l2 x11_1)).f1),.int .i64 ((rd_T62 l1 (rd l2 x11_1)).f2),.int .i64 ((rd_T62 l1 (rd l2 x11_1)).f3)] (fun _=>True) (fun _=>False) rfl (by first|(go_simp;done)|(go_simp;rfl)) ?aP (fun _ hk=>hk.elim) ?aF ?aO ?aB ?aS ?aL ?_;(case aP=>exact k62_mkM _ _ _ (⟨(rd_T62 l1 (rd l2 x11_1)).f0,(rd_T62 l1 (rd l2 x11_1)).f1,(rd_T62 l1 (rd l2 x11_1)).f2,(rd_T62 l1 (rd l2 x11_1)).f3⟩ : S62));(case aB=>exact (by repeat (first|(with_reducible first|exact HB.out|apply zD|apply zE|apply zF|refine below_set ?_ GE529.out)|exact HB.out)));(case aF=>exact (fun _ _=>trivial));(case aO=>exact (by (with_reducible repeat (first|apply zA|apply zB|apply zC));exact Kd.R_mono (Kd.R_far (p:=⟨gb529,1,none⟩) (Kd.R_far (p:=⟨gb529,0,none⟩) (Kd.R_types HO_9.out BK529.out (by decide)) (fun _ hk=>hk.2) (.int .i64 t526)) (fun _ hk=>hk.2) (.int .i64 t527)) (fun _ hk=>trivial)));(case aS=>exact (zR (by repeat (first|(with_reducible first|exact HB.out|apply zD|apply zE|apply zF|refine below_set ?_ GE529.out)|exact HB.out))));(case aL=>have:=LMc18.out;omega);intro v533 w27 ho hb hg hat;rw [← Ny532.out] at ho;have n0_:=zM (Kd.R_over' (by (with_reducible repeat (first|apply zA|apply zB|apply zC));exact (Kd.R_mono (Kd.R_far (p:=⟨gb529,1,none⟩) (Kd.R_far (p:=⟨gb529,0,none⟩) (Kd.R_mono HO_8.out (fun k_ hk=>(⟨hk,hk.2⟩ : _ ∧ k_ ≠ gb529))) (fun _ hk=>hk.2) (.int .i64 t526)) (fun _ hk=>hk.2) (.int .i64 t527)) (fun _ h_=>h_.1))) (Kd.R_typed (by (with_reducible repeat (first|apply zA|apply zB|apply zC));exact (Kd.R_mono (Kd.R_far (p:=⟨gb529,1,none⟩) (Kd.R_far (p:=⟨gb529,0,none⟩) (Kd.R_types HO_9.out BK529.out (by decide)) (fun _ hk=>hk.2) (.int .i64 t526)) (fun _ hk=>hk.2) (.int .i64 t527)) (fun _ h_=>h_.1)))) (by decide) hg);have n1_:=zM (Kd.R_over' (by (with_reducible repeat (first|apply zA|apply zB|apply zC));exact (Kd.R_mono (Kd.R_far (p:=⟨gb529,1,none⟩) (Kd.R_far (p:=⟨gb529,0,none⟩) (Kd.R_mono HO_10.out (fun k_ hk=>(⟨hk,hk.2⟩ : _ ∧ k_ ≠ gb529))) (fun _ hk=>hk.2) (.int .i64 t526)) (fun _ hk=>hk.2) (.int .i64 t527)) (fun _ h_=>h_.1))) (Kd.R_typed (by (with_reducible repeat (first|apply zA|apply zB|apply zC));exact (Kd.R_mono (Kd.R_far (p:=⟨gb529,1,none⟩) (Kd.R_far (p:=⟨gb529,0,none⟩) (Kd.R_types HO_9.out BK529.out (by decide)) (fun _ hk=>hk.2) (.int .i64 t526)) (fun _ hk=>hk.2) (.int .i64 t527)) (fun _ h_=>h_.1)))) (by decide) hg);have n2_:=zM (blk_grown (g:=gb529) (o := .cells #[.int .i64 t526,.int .i64 t527] 37 (0,0)) (by (with_reducible repeat (first|refine zJ ?_ _|refine zK ?_|refine zL ?_ _));refine blk_put (cs := #[.int .i64 t526,.int .i64 0]) ?_ 1 _ rfl;(with_reducible repeat (first|refine zJ ?_ _|refine zK ?_|refine zL ?_ _));refine blk_put (cs := #[.int .i64 0,.int .i64 0]) ?_ 0 _ rfl;(with_reducible repeat (first|refine zJ ?_ _|refine zK ?_|refine zL ?_ _));exact BK529.out) hg (Kd.R_ne HO_9.out BK529.out (by decide)));have n3_:=zM (hb);have n4_:=zM (ho);clear HO_8;clear HO_10;clear BK529;clear HB;clear HO_9;have HO_8:=n0_;have HO_10:=n1_;have BK529:=n2_;have HB:=n3_;have HO534:=n4_;clear n0_ n1_ n2_ n3_ n4_;clear ho hb hg hat;have hcz28_0 : w27.cell? ⟨gb529,0,none⟩ = some (.int .i64 t526):=(blk_cell BK529.out 0).trans rfl;have hcz28_1 : w27.cell? ⟨gb529,1,none⟩ = some (.int .i64 t527):=(blk_cell BK529.out 1).trans rfl;have hfz28_0:=blk_frozen BK529.out 0;have hfz28_1:=blk_frozen BK529.out 1)|((with_reducible refine gate_builtin (b := .append) (xs := #[.tmp 52,.tmp 54]) rfl ?_);at_builtin;refine Kd.R_append k37 (w0:=w) w.heap.size rfl (.tmp 52) (.tmp 54) 29 37 (.agg #[(.int .i64 0),(.int .i64 0)]) 16 rfl Try.underlying29 info37 rfl (by decide) (by omega) (.slice Ao23 x10_1.length co23) x10_1 (⟨t526,t527⟩ : S37) [.int .i64 t526,.int .i64 t527] (fun k_=>some k_ ≠ (v516 : Value).ownBlock ∧ k_ ≠ gb529) (fun _=>False) rfl rfl ?aP (fun _ hk=>hk.elim) ?aF ?aO ?aB ?aS ?aL ?_;(case aP=>exact k37_mkM _ _ _ (⟨t526,t527⟩ : S37));(case aB=>exact (by repeat (first|(with_reducible first|exact HB.out|apply zD|apply zE|apply zF|refine below_set ?_ GE529.out)|exact HB.out)));(case aF=>exact (fun k_ hk=>⟨Kd.fresh' (Kd.R_lt (by (with_reducible repeat (first|apply zA|apply zB|apply zC));exact HO_8.out)) k_ hk,Kd.freshB (g:=gb529) (o := .cells #[.int .i64 t526,.int .i64 t527] 37 (0,0)) (by (with_reducible repeat (first|refine zJ ?_ _|refine zK ?_|refine zL ?_ _));exact BK529.out) k_ hk⟩));(case aO=>exact (by (with_reducible repeat (first|apply zA|apply zB|apply zC));exact HO_10.out));(case aS=>exact (zR (by repeat (first|(with_reducible first|exact HB.out|apply zD|apply zE|apply zF|refine below_set ?_ GE529.out)|exact HB.out))));(case aL=>have:=LMc19.out;omega);intro v536 w29 ho hb hg hat;rw [← Ny535.out] at ho;have n0_:=zM (Kd.R_after (ok:=(fun k_=>k_ ≠ gb529)) (by (with_reducible repeat (first|apply zA|apply zB|apply zC));exact Kd.R_mono HO_8.out (fun _ hk=>⟨hk.2,hk.1⟩)) hg hat);have n1_:=zM (blk_grown (g:=gb529) (o := .cells #[.int .i64 t526,.int .i64 t527] 37 (0,0)) (by (with_reducible repeat (first|refine zJ ?_ _|refine zK ?_|refine zL ?_ _));exact BK529.out) hg (Kd.R_away HO_10.out (fun _ hk=>hk.2)));have n2_:=zM (Kd.R_over' (by (with_reducible repeat (first|apply zA|apply zB|apply zC));exact HO534.out) (Kd.R_typed (by (with_reducible repeat (first|apply zA|apply zB|apply zC));exact HO_10.out)) (by decide) hg);have n3_:=zM (hb);have n4_:=zM (ho);clear HO_8;clear BK529;clear HO534;clear HB;clear HO_10;have HO_8:=n0_;have BK529:=n1_;have HO534:=n2_;have HB:=n3_;have HO537:=n4_;clear n0_ n1_ n2_ n3_ n4_;clear ho hb hg hat))
             have n0_:=zM (zC HO_8.out)
             have n1_:=zM (zC HO534.out)
             have n2_:=zM (zC HO537.out)
             have n3_:=zM (zK BK529.out)
             have n4_:=zM (zF HB.out)
             clear HO_8
             clear HO534
             clear HO537
             clear BK529
             clear HB
             have HO_8:=n0_
             have HO534:=n1_
             have HO537:=n2_
             have BK529:=n3_
             have HB:=n4_
             clear n0_ n1_ n2_ n3_ n4_
             have p538 : 0 ≤ (x11_1 : Int):=of_decide_eq_true (by first|(with_reducible assumption)|assumption)
             have q538 : x11_1 < (l2.length : Int):=of_decide_eq_true (by first|(with_reducible assumption)|assumption)
             obtain ⟨ad538,e538,hx538_0⟩:=Kd.at_int HR2.out x11_1 p538 q538
             have hw538_0:=hx538_0
             obtain rfl : ad524 = ad538:=(by injection e538)
             replace hx538_0:=(HB.out.cell (World.block_lt_of_cell? w _ hx538_0)).trans hx538_0
             replace p538:=eq_true p538
             replace q538:=eq_true q538
             have p21 : 0 ≤ ((rd l2 x11_1) : Int):=of_decide_eq_true (by first|(with_reducible assumption)|assumption)
             have q21 : ((rd l2 x11_1) : Int) < ((x8_1.length : Int) : Int):=of_decide_eq_true (by first|(with_reducible assumption)|assumption)
             obtain ⟨go21,co21,eo21,gb21,gl21,cl21,HG21⟩:=Kd.R_form HO_8.out (by omega)
             (first|cases eo21|(injection eo21 with ea_ en_ ec_;(first|subst ea_|(injection ea_ with ea_;subst ea_));subst ec_;clear en_))
             have GB21:=zM gb21
             have GG21:=zM HG21
             clear gb21 gl21 HG21
             obtain ⟨ce21,hcl21,hM21,hcc21,hfr21⟩:=Kd.R_elem HO_8.out z37 ((rd l2 x11_1) : Int) p21 q21
             obtain rfl:=k37_openM hM21
             have hx21_0 : World.cell? _ ⟨go21,((rd l2 x11_1) : Int).toNat * 2,none⟩ = some (.int .i64 ((rd_T37 x8_1 (rd l2 x11_1)).f0)):=hcc21 0 _ rfl
             have hx21_1 : World.cell? _ ⟨go21,((rd l2 x11_1) : Int).toNat * 2 + 1,none⟩ = some (.int .i64 ((rd_T37 x8_1 (rd l2 x11_1)).f1)):=hcc21 1 _ rfl
             have hf21_0 : World.frozen? _ ⟨go21,((rd l2 x11_1) : Int).toNat * 2,none⟩ = false:=hfr21 0
             have hf21_1 : World.frozen? _ ⟨go21,((rd l2 x11_1) : Int).toNat * 2 + 1,none⟩ = false:=hfr21 1
             clear hcl21 hcc21 hfr21;(try clear hM21)
             replace p21:=eq_true p21
             replace q21:=eq_true q21
             obtain ⟨ce31,hcl31,hM31,hcc31,hfr31⟩:=Kd.R_elem HO_8.out z37 ((rd l2 x11_1) : Int) (of_decide_eq_true (by first|(with_reducible assumption)|assumption)) (by have h_ : ((rd l2 x11_1) : Int) < ((x8_1.length : Int) : Int):=of_decide_eq_true (by first|(with_reducible assumption)|assumption);first|exact h_|(have e_:=(zN HO_8.out).1;omega)|simpa using h_)
             obtain rfl:=k37_openM hM31
             have HP31:=(Kd.R_seg HO_8.out ((rd l2 x11_1) : Int) (of_decide_eq_true (by first|(with_reducible assumption)|assumption)) (by have h_ : ((rd l2 x11_1) : Int) < ((x8_1.length : Int) : Int):=of_decide_eq_true (by first|(with_reducible assumption)|assumption);first|exact h_|(have e_:=(zN HO_8.out).1;omega)|simpa using h_) (seg:=[.int .i64 t526,.int .i64 t527]) (j:=0) hcl31 hcc31 (show 2 ≤ 2 from by decide) (x':=(⟨t526,t527⟩ : S37)) (k37_mkM _ _ _ (⟨t526,t527⟩ : S37) ) (fun _ hk=>hk)).1
             rw [← Ny539.out] at HP31
             have HQ31:=zM HP31
             clear hcl31 hcc31 hfr31 HP31;(try clear hM31)
             refine start_ (n:=8) (S:=fun w'=>w'.cell? ⟨gb529,0,none⟩ = some (.int .i64 t526) ∧ w'.cell? ⟨gb529,1,none⟩ = some (.int .i64 t527) ∧ w'.cell? (ad524.add (x11_1).toNat) = some (.int .i64 (rd l2 x11_1))) (ds:=[7]) #[false,false,false,false,false,false,false,false] (by kernel_rfl) rfl rfl ⟨(blk_cell BK529.out 0).trans rfl,(blk_cell BK529.out 1).trans rfl,((HB.out.cell (World.block_lt_of_cell? w _ hw538_0)).trans hw538_0)⟩ (fun hHeld=>?_);refine with_tabW spec_l14InOrder.tab11 spec_l14InOrder.bits11 (fun HT_ HW_=>?_)
             generalize w29.drew = w30 at HO_8 HO534 HO537 BK529 HB GG21 HQ31 hf21_0 hf21_1 hx21_0 hx21_1 hx538_0 hHeld ⊢
             refine pure_ (i:=0) (N:=some 56) (v:=?_) (a':=?_) #[true,false,false,false,false,false,false,false] rfl rfl (any_of HT_.out (by kernel_rfl)) (fun _ _ _ h=>h) (Or.inl ⟨by rfl,?_⟩) ?_ ?_
             rotate_left
             ·intro w'
              go_simp
              with_reducible rfl
             rotate_left
             ·simp only [Act.put,List.setIfInBounds_toArray,List.set_cons_zero,List.set_cons_succ,i64_w,i32_w]
              rfl
             refine pure_ (i:=1) (N:=some 57) (v:=?_) (a':=?_) #[true,true,false,false,false,false,false,false] rfl rfl (any_of HT_.out (by kernel_rfl)) (fun _ _ _ h=>h) (Or.inl ⟨by rfl,?_⟩) ?_ ?_
             rotate_left
             ·intro w'
              go_simp
              with_reducible rfl
             rotate_left
             ·simp only [Act.put,List.setIfInBounds_toArray,List.set_cons_zero,List.set_cons_succ,i64_w,i32_w]
              rfl
             refine pure_ (i:=2) (N:=some 58) (v:=?_) (a':=?_) #[true,true,true,false,false,false,false,false] rfl rfl (any_of HT_.out (by kernel_rfl)) (fun _ _ _ h=>h) (Or.inl ⟨by rfl,?_⟩) ?_ ?_
             rotate_left
             ·intro w'
              go_simp
              with_reducible rfl
             rotate_left
             ·simp only [Act.put,List.setIfInBounds_toArray,List.set_cons_zero,List.set_cons_succ,i64_w,i32_w]
              rfl
             refine pure_ (i:=3) (N:=some 59) (v:=?_) (a':=?_) #[true,true,true,true,false,false,false,false] rfl rfl (any_of HT_.out (by kernel_rfl)) (fun _ _ _ h=>h) (Or.inl ⟨by rfl,?_⟩) ?_ ?_
             rotate_left
             ·intro w'
              go_simp
              with_reducible rfl
             rotate_left
             ·simp only [Act.put,List.setIfInBounds_toArray,List.set_cons_zero,List.set_cons_succ,i64_w,i32_w]
              rfl
             refine take_ (i:=4) (N:=some 60) (v:=?_) (a':=?_) #[true,true,true,true,true,false,false,false] rfl rfl (take_ofW HT_.out HW_.out (by kernel_rfl)) (fun _ _ _ h=>h) (Or.inl ⟨by rfl,?_⟩) hHeld ?_ ?_
             rotate_left
             ·rintro w' ⟨s0,s1,s2⟩
              go_simp
              with_reducible rfl
             rotate_left
             ·simp only [Act.put,List.setIfInBounds_toArray,List.set_cons_zero,List.set_cons_succ,i64_w,i32_w]
              rfl
             refine take_ (i:=5) (N:=some 61) (v:=?_) (a':=?_) #[true,true,true,true,true,true,false,false] rfl rfl (take_ofW HT_.out HW_.out (by kernel_rfl)) (fun _ _ _ h=>h) (Or.inl ⟨by rfl,?_⟩) hHeld ?_ ?_
             rotate_left
             ·rintro w' ⟨s0,s1,s2⟩
              go_simp
              with_reducible rfl
             rotate_left
             ·simp only [Act.put,List.setIfInBounds_toArray,List.set_cons_zero,List.set_cons_succ,i64_w,i32_w]
              rfl
             refine pure_ (i:=6) (N:=some 62) (v:=?_) (a':=?_) #[true,true,true,true,true,true,true,false] rfl rfl (any_of HT_.out (by kernel_rfl)) (fun _ _ _ h=>h) (Or.inl ⟨by rfl,?_⟩) ?_ ?_
             rotate_left
             ·intro w'
              go_simp
              with_reducible rfl
             rotate_left
             ·simp only [Act.put,List.setIfInBounds_toArray,List.set_cons_zero,List.set_cons_succ,i64_w,i32_w]
              rfl
             refine last_ (i:=7) (N:=none) #[true,true,true,true,true,true,true,true] rfl rfl (one_of HT_.out (by kernel_rfl)) (by decide) (fun K hK=>?_)
             refine skip_ (w1:=?_) (by rfl) rfl ?_ ?_
             rotate_left
             ·go_simp
              rfl
             refine hK.out _ _ ?_
             clear hK K
             refine done_ (done_of HT_.out (by kernel_rfl)) ?_
             try go_wp2
             go_roundg k1
             case measure=>have:=HK1.out;omega
             case rel=>exact ⟨(y539),(y532),(y535),(wrap64 (x11_1 + 1)),(by first|rfl|(simp;done)|(simp [*];done)),H',⟨by have:=HK1.out;omega⟩,⟨by (with_reducible repeat (first|apply zA|apply zB|apply zC));exact Kd.R_mono HQ31.out (fun _ hk=>hk.2)⟩,⟨by (with_reducible repeat (first|apply zA|apply zB|apply zC));exact Kd.R_mono (Kd.R_far (p:=⟨go21,((rd l2 x11_1) : Int).toNat * 2 + 1,none⟩) (Kd.R_far (p:=⟨go21,((rd l2 x11_1) : Int).toNat * 2,none⟩) (Kd.R_types HO534.out GG21.out (by decide)) (fun _ hk=>hk.2) (.int .i64 t526)) (fun _ hk=>hk.2) (.int .i64 t527)) (fun _ hk=>trivial)⟩,⟨by (with_reducible repeat (first|apply zA|apply zB|apply zC));exact Kd.R_mono (Kd.R_far (p:=⟨go21,((rd l2 x11_1) : Int).toNat * 2 + 1,none⟩) (Kd.R_far (p:=⟨go21,((rd l2 x11_1) : Int).toNat * 2,none⟩) (Kd.R_mono HO537.out (fun k_ hk=>(⟨hk,fun e_=>hk.1 (by rw [e_];rfl)⟩ : _ ∧ k_ ≠ go21))) (fun _ hk=>hk.2) (.int .i64 t526)) (fun _ hk=>hk.2) (.int .i64 t527)) (fun _ hk=>hk.1.1)⟩,⟨by repeat (first|(with_reducible first|exact HB.out|apply zD|apply zE|apply zF|refine below_set ?_ GB21.out|refine below_set ?_ GB21.out|refine below_set ?_ GE529.out)|exact HB.out)⟩⟩
            ·rw [if_neg c20] at H
             exact absurd H (by simp)
           ·rw [if_neg c19] at H
            exact absurd H (by simp)
          ·rw [if_neg c18] at H
           exact absurd H (by simp)
         ·replace c17:=Bool.eq_false_iff.mpr c17
          subst c17
          have H1 : (some ((([] : List (S37))),false)) = some (r1,r2):=by rw [if_neg (show ¬ (false = true) by decide)] at H;exact H
          clear H
          have H:=H1
          clear H1
          obtain ⟨y540,hy540⟩ : ∃ y_ : List (S37),y_ = (([] : List (S37))):=⟨_,rfl⟩
          replace H : (some (y540,false)) = some (r1,r2):=by first|(rw [hy540];with_reducible exact H)|(have H2_:=(Option.bind_some _ _).symm.trans H;rw [hy540];with_reducible exact H2_)|(have H2_:=(Option.bind_some _ _).symm.trans H;with_reducible exact H2_)|with_reducible exact H|(rw [hy540];exact H)|exact H
          have Ny540:=zM hy540
          clear hy540
          simp only [Option.some.injEq,Prod.mk.injEq] at H
          obtain ⟨rfl,rfl⟩:=H
          have p524 : 0 ≤ (x11_1 : Int):=of_decide_eq_true (by first|(with_reducible assumption)|assumption)
          have q524 : x11_1 < (l2.length : Int):=of_decide_eq_true (by first|(with_reducible assumption)|assumption)
          obtain ⟨ad524,e524,hx524_0⟩:=Kd.at_int HR2.out x11_1 p524 q524
          cases e524
          replace hx524_0:=(HB.out.cell (World.block_lt_of_cell? w _ hx524_0)).trans hx524_0
          replace p524:=eq_true p524
          replace q524:=eq_true q524
          have p525 : 0 ≤ ((rd l2 x11_1) : Int):=of_decide_eq_true (by first|(with_reducible assumption)|assumption)
          have q525 : (rd l2 x11_1) < (l1.length : Int):=of_decide_eq_true (by first|(with_reducible assumption)|assumption)
          obtain ⟨ad525,e525,hx525_0,hx525_1,hx525_2,hx525_3⟩:=at_T62 HR1.out (rd l2 x11_1) p525 q525
          cases e525
          replace hx525_0:=(HB.out.cell (World.block_lt_of_cell? w _ hx525_0)).trans hx525_0
          replace hx525_1:=(HB.out.cell (World.block_lt_of_cell? w _ hx525_1)).trans hx525_1
          replace hx525_2:=(HB.out.cell (World.block_lt_of_cell? w _ hx525_2)).trans hx525_2
          replace hx525_3:=(HB.out.cell (World.block_lt_of_cell? w _ hx525_3)).trans hx525_3
          replace p525:=eq_true p525
          replace q525:=eq_true q525
          obtain ⟨Ao32,co32,eo32⟩:=Kd.R_slice HO_9.out
          subst eo32
          obtain ⟨Ao33,co33,eo33⟩:=Kd.R_slice HO_10.out
          subst eo33
          go_wp2_with (first|((with_reducible refine gate_callee (f:=60) rfl ?_);refine goesL_ (some 36) rfl rfl Try.func60 (by kernel_rfl) rfl #[.int .i64 a0,.agg #[.int .i64 ((rd_T62 l1 (rd l2 x11_1)).f0),.int .i64 ((rd_T62 l1 (rd l2 x11_1)).f1),.int .i64 ((rd_T62 l1 (rd l2 x11_1)).f2),.int .i64 ((rd_T62 l1 (rd l2 x11_1)).f3)],.slice Ao32 x9_1.length co32,.slice Ao33 x10_1.length co33] rfl (by (try simp only [List.map_toArray,List.map_cons,List.map_nil]);first|done|rfl|(simp only [List.length_drop,List.length_take];rfl)) ?_;(with_reducible refine (spec_l14Next.calls k1 a0 ((rd_T62 l1 (rd l2 x11_1)).f0) ((rd_T62 l1 (rd l2 x11_1)).f1) ((rd_T62 l1 (rd l2 x11_1)).f2) ((rd_T62 l1 (rd l2 x11_1)).f3) _ _ x9_1 _ _ x10_1 t526 t527 false _ ?side1 ?side2 ?side3 ?side4 A16.out).mono ?_);(case side1=>repeat (first|exact (zN HO_9.out).2.2|(with_reducible refine zG ?_ _)|(with_reducible refine zH ?_ _)|(with_reducible refine zI ?_)));(case side2=>exact (zN HO_9.out).2.1);(case side3=>repeat (first|exact (zN HO_10.out).2.2|(with_reducible refine zG ?_ _)|(with_reducible refine zH ?_ _)|(with_reducible refine zI ?_)));(case side4=>exact (zN HO_10.out).2.1);rintro e w34 ⟨rfl,hb⟩;refine ⟨_,rfl,?_⟩;have n0_:=zM (zP (by (with_reducible repeat (first|apply zA|apply zB|apply zC));exact HO_8.out) hb);have n1_:=zM (zP (by (with_reducible repeat (first|apply zA|apply zB|apply zC));exact HO_9.out) hb);have n2_:=zM (zP (by (with_reducible repeat (first|apply zA|apply zB|apply zC));exact HO_10.out) hb);have n3_:=zM (zQ (by repeat (first|(with_reducible first|exact HB.out|apply zD|apply zE|apply zF)|exact HB.out)) hb);clear HO_8;clear HO_9;clear HO_10;clear HB;have HO_8:=n0_;have HO_9:=n1_;have HO_10:=n2_;have HB:=n3_;clear n0_ n1_ n2_ n3_;(try clear hb);(try clear hb2);(try clear hk);(try clear hi))|((with_reducible refine gate_dst (N:=12) rfl ?_);refine box_event ?hg (N:=12) ?hd (cs := #[.int .i64 0,.int .i64 0]) (t:=37) ?hr ?_;(case hd=>rfl);(case hg=>rfl);(case hr=>first|(go_simp;done)|(go_simp;rfl));intro gb529 hg w35 hbox hb;have n0_:=zM (zP (Kd.R_elderB (by (with_reducible repeat (first|apply zA|apply zB|apply zC));exact HO_8.out) gb529 (Nat.le_of_eq hg.symm)) hb);have n1_:=zM (zP (by (with_reducible repeat (first|apply zA|apply zB|apply zC));exact HO_9.out) hb);have n2_:=zM (zP (Kd.R_elderB (by (with_reducible repeat (first|apply zA|apply zB|apply zC));exact HO_10.out) gb529 (Nat.le_of_eq hg.symm)) hb);have n3_:=zM (zQ (by repeat (first|(with_reducible first|exact HB.out|apply zD|apply zE|apply zF)|exact HB.out)) hb);have n4_:=zM (hbox);have n5_:=zM ((by rw [hg];exact (zR (by repeat (first|(with_reducible first|exact HB.out|apply zD|apply zE|apply zF)|exact HB.out))) : w.heap.size ≤ gb529));have n6_:=zM ((by rw [hg];exact (zR (by repeat (first|(with_reducible first|exact HB.out|apply zD|apply zE|apply zF)|exact HB.out))) : w.heap.size ≤ gb529));clear HO_8;clear HO_9;clear HO_10;clear HB;have HO_8:=n0_;have HO_9:=n1_;have HO_10:=n2_;have HB:=n3_;have BK529:=n4_;have GW529:=n5_;have GE529:=n6_;clear n0_ n1_ n2_ n3_ n4_ n5_ n6_;clear hb hbox hg;have hcz36_0 : w35.cell? ⟨gb529,0,none⟩ = some (.int .i64 0):=(blk_cell BK529.out 0).trans rfl;have hcz36_1 : w35.cell? ⟨gb529,1,none⟩ = some (.int .i64 0):=(blk_cell BK529.out 1).trans rfl;have hfz36_0:=blk_frozen BK529.out 0;have hfz36_1:=blk_frozen BK529.out 1)|((with_reducible refine gate_dst (N:=41) rfl ?_);refine Kd.R_lit k37 _ 37 ?hg (N:=41) ?hd (xs:=([] : List (S37))) (inner:=[]) (ok:=fun _=>True) (okp:=fun _=>True) ?hr ?hp (fun _ hk=>hk) trivial (Below.refl _ _) (Nat.le_refl _) (by simp) ?_;(case hd=>rfl);(case hg=>rfl);(case hr=>first|(go_simp;done)|(go_simp;rfl));(case hp=>exact (Reps.none _ _));intro v541 w37 ho38 hb hg_ hnew_;clear hg_ hnew_;(first|rw [← Ny540.out] at ho38|(simp only [Int.reduceToNat] at ho38;rw [← Ny540.out] at ho38));have n0_:=zM (Kd.R_elder' (by (with_reducible repeat (first|apply zA|apply zB|apply zC));exact (Kd.R_mono (Kd.R_far (p:=⟨gb529,1,none⟩) (Kd.R_far (p:=⟨gb529,0,none⟩) (Kd.R_mono HO_8.out (fun k_ hk=>(⟨hk,hk.2⟩ : _ ∧ k_ ≠ gb529))) (fun _ hk=>hk.2) (.int .i64 t526)) (fun _ hk=>hk.2) (.int .i64 t527)) (fun _ h_=>h_.1))) (Kd.R_base ho38) hb);have n1_:=zM (zP (by (with_reducible repeat (first|apply zA|apply zB|apply zC));exact (Kd.R_mono (Kd.R_far (p:=⟨gb529,1,none⟩) (Kd.R_far (p:=⟨gb529,0,none⟩) (Kd.R_types HO_9.out BK529.out (by decide)) (fun _ hk=>hk.2) (.int .i64 t526)) (fun _ hk=>hk.2) (.int .i64 t527)) (fun _ h_=>h_.1))) hb);have n2_:=zM (Kd.R_elder' (by (with_reducible repeat (first|apply zA|apply zB|apply zC));exact (Kd.R_mono (Kd.R_far (p:=⟨gb529,1,none⟩) (Kd.R_far (p:=⟨gb529,0,none⟩) (Kd.R_mono HO_10.out (fun k_ hk=>(⟨hk,hk.2⟩ : _ ∧ k_ ≠ gb529))) (fun _ hk=>hk.2) (.int .i64 t526)) (fun _ hk=>hk.2) (.int .i64 t527)) (fun _ h_=>h_.1))) (Kd.R_base ho38) hb);have n3_:=zM (Kd.R_lower (Kd.R_newB (Kd.R_new' (Kd.R_new' ho38 (Kd.R_lt (by (with_reducible repeat (first|apply zA|apply zB|apply zC));exact (Kd.R_mono (Kd.R_far (p:=⟨gb529,1,none⟩) (Kd.R_far (p:=⟨gb529,0,none⟩) (Kd.R_mono HO_8.out (fun k_ hk=>(⟨hk,hk.2⟩ : _ ∧ k_ ≠ gb529))) (fun _ hk=>hk.2) (.int .i64 t526)) (fun _ hk=>hk.2) (.int .i64 t527)) (fun _ h_=>h_.1))))) (Kd.R_lt (by (with_reducible repeat (first|apply zA|apply zB|apply zC));exact (Kd.R_mono (Kd.R_far (p:=⟨gb529,1,none⟩) (Kd.R_far (p:=⟨gb529,0,none⟩) (Kd.R_mono HO_10.out (fun k_ hk=>(⟨hk,hk.2⟩ : _ ∧ k_ ≠ gb529))) (fun _ hk=>hk.2) (.int .i64 t526)) (fun _ hk=>hk.2) (.int .i64 t527)) (fun _ h_=>h_.1))))) (g:=gb529) (o := .cells #[.int .i64 t526,.int .i64 t527] 37 (0,0)) (by (with_reducible repeat (first|refine zJ ?_ _|refine zK ?_|refine zL ?_ _));refine blk_put (cs := #[.int .i64 t526,.int .i64 0]) ?_ 1 _ rfl;(with_reducible repeat (first|refine zJ ?_ _|refine zK ?_|refine zL ?_ _));refine blk_put (cs := #[.int .i64 0,.int .i64 0]) ?_ 0 _ rfl;(with_reducible repeat (first|refine zJ ?_ _|refine zK ?_|refine zL ?_ _));exact BK529.out)) (zR (by repeat (first|(with_reducible first|exact HB.out|apply zD|apply zE|apply zF|refine below_set ?_ GE529.out)|exact HB.out))));have n4_:=zM (blk_below (g:=gb529) (o := .cells #[.int .i64 t526,.int .i64 t527] 37 (0,0)) (by (with_reducible repeat (first|refine zJ ?_ _|refine zK ?_|refine zL ?_ _));refine blk_put (cs := #[.int .i64 t526,.int .i64 0]) ?_ 1 _ rfl;(with_reducible repeat (first|refine zJ ?_ _|refine zK ?_|refine zL ?_ _));refine blk_put (cs := #[.int .i64 0,.int .i64 0]) ?_ 0 _ rfl;(with_reducible repeat (first|refine zJ ?_ _|refine zK ?_|refine zL ?_ _));exact BK529.out) hb);have n5_:=zM (zQ (by repeat (first|(with_reducible first|exact HB.out|apply zD|apply zE|apply zF|refine below_set ?_ GE529.out)|exact HB.out)) hb);clear HO_8;clear HO_9;clear HO_10;clear BK529;clear HB;have HO_8:=n0_;have HO_9:=n1_;have HO_10:=n2_;have HO542:=n3_;have BK529:=n4_;have HB:=n5_;clear n0_ n1_ n2_ n3_ n4_ n5_;clear hb ho38))
          go_ret2
          exact ⟨_,by first|rfl|(simp [errW_none,errW_some] <;> rfl)|(simp [*,errW_none,errW_some] <;> rfl),by (with_reducible repeat (first|apply zA|apply zB|apply zC));exact Kd.R_mono HO542.out (fun _ hk=>trivial),by repeat (first|(with_reducible first|exact HB.out|apply zD|apply zE|apply zF|refine below_set ?_ GE529.out)|exact HB.out)⟩
        ·rw [if_neg c15] at H
         exact absurd H (by simp)
       ·rw [if_neg c14] at H
        exact absurd H (by simp)
      ·rw [if_neg c13] at H
       exact absurd H (by simp)
     ·rw [if_neg c12] at H
      have c12b0 : decide (x11_1 < (l2.length : Int)) = false:=decide_eq_false c12
      clear c12
      simp only [Option.some.injEq,Prod.mk.injEq] at H
      obtain ⟨rfl,rfl⟩:=H
      go_wp2
      go_ret2
      exact ⟨_,by first|rfl|(simp [errW_none,errW_some] <;> rfl)|(simp [*,errW_none,errW_some] <;> rfl),by (with_reducible repeat (first|apply zA|apply zB|apply zC));exact Kd.R_mono HO_8.out (fun _ hk=>trivial),by repeat (first|(with_reducible first|exact HB.out|apply zD|apply zE|apply zF)|exact HB.out)⟩
  ·rw [if_neg c5] at H
   exact absurd H (by simp)
 ·rw [if_neg c4] at H
  exact absurd H (by simp)

end Go.Proofs.Ytcciljjnpfgaeaa.G

-- Written by wip/tools/gen.py out of the translation (the kit's printer, one namespace a seat). Lean checks it.
namespace Go.Proofs.Ytcciljjnpfgaeaa.G
open Go.RowKit Go.Proofs.YtcciljjnpfgaeaaW.PrintWords Go.Proofs.YtcciljjnpfgaeaaW.PrintLast Go.Proofs.YtcciljjnpfgaeaaW.PrintMore
attribute [local go_sem] max2_int min2_int max_two min_two max_three min_three max_four min_four   -- for this text's walks alone
set_option linter.unusedVariables false
set_option linter.unusedSimpArgs false

/-! ### spec_l1Cur_one: function 75 -/
def spec_l1Cur_one.f (s0_0 : List Int) (s0_1 : Int) (s0_2 : Int) (a1 : Int) : Option (Bool × Int × Int):=(spec_l1Cur_pick.f s0_0 s0_1 s0_2 a1).bind fun bt846=>(some ((bt846.1 == 0),bt846.2.1,bt846.2.2))
set_option maxHeartbeats 8000000 in
set_option maxRecDepth 100000 in
theorem spec_l1Cur_one.calls (g : Nat) (s0_0 : List Int) (s0_1 : Int) (s0_2 : Int) (a1 : Int) (r1 : Bool) (r2 : Int) (r3 : Int) (w0 w : World) (hI : IsS90 w0 w g s0_0 s0_1 s0_2) (hB : Below w0.heap.size w0 w) (h : spec_l1Cur_one.f s0_0 s0_1 s0_2 a1 = some (r1,r2,r3)) :
  Calls Try.prog 75 #[.pointer (some ⟨g,0,none⟩),.int .i64 a1] w fun e w'=>e = .returned (.bool r1) ∧ IsS90 w0 w' g s0_0 r2 r3 ∧ Below w0.heap.size w0 w' ∧ KeepBut w w' g none:=by
 have HI0:=zM hI
 have HK:=zM (KeepBut.refl w g none)
 have HL:=zM hB.size
 clear hI
 have HW0:=zM hB.size
 have HB:=zM hB
 clear hB
 have H : ((spec_l1Cur_pick.f s0_0 s0_1 s0_2 a1).bind fun bt846=>(some ((bt846.1 == 0),bt846.2.1,bt846.2.2))) = some (r1,r2,r3):=h
 clear h
 replace H:=Option.bind_eq_some_iff.mp H
 obtain ⟨⟨t846,t847,t848⟩,A30,H⟩:=H
 replace H : (some ((t846 == 0),t847,t848)) = some (r1,r2,r3):=H
 have A3:=zM A30
 clear A30
 simp only [Option.some.injEq,Prod.mk.injEq] at H
 obtain ⟨rfl,rfl,rfl⟩:=H
 go_enter Try.func75,Try.ntmps75
 go_wp2_with (first|((with_reducible refine gate_callee (f:=74) rfl ?_);refine goesL_ (some 7) rfl rfl Try.func74 (by kernel_rfl) rfl #[.pointer (some ⟨g,0,none⟩),.int .i64 a1] rfl (by (try simp only [List.map_toArray,List.map_cons,List.map_nil]);first|done|rfl|(simp only [List.length_drop,List.length_take];rfl)) ?_;(with_reducible refine (spec_l1Cur_pick.calls g s0_0 s0_1 s0_2 a1 t846 t847 t848 w0 _ ?side1 ?side2 A3.out).mono ?_);(case side1=>repeat (first|(with_reducible first|exact HI0.out|apply IsS90.alloc|apply IsS90.drewN|apply IsS90.drew|apply IsS90.set_1|apply IsS90.set_2)|exact HI0.out));(case side2=>repeat (first|(with_reducible first|exact HB.out|apply zD|apply zE|apply zF|refine below_set ?_ (IsS90.ge HI0.out))|exact HB.out));rintro e w4 ⟨rfl,hi,hb,hk⟩;refine ⟨_,rfl,?_⟩;have n0_:=zM (KeepBut.trans (by repeat (first|(with_reducible first|exact HK.out|apply KeepBut.set_|apply keep_drewN|apply keep_drew|apply keep_alloc)|exact HK.out)) hk (.inl rfl));have n1_:=zM (hb);have n2_:=zM (hi);clear HK;clear HB;clear HI0;have HK:=n0_;have HB:=n1_;have HI0:=n2_;clear n0_ n1_ n2_;(try clear hb);(try clear hb2);(try clear hk);(try clear hi)))
 go_ret
 exact ⟨by first|rfl|(simp [errW_none,errW_some] <;> rfl)|(simp [*,errW_none,errW_some] <;> rfl),by repeat (first|(with_reducible first|exact HI0.out|apply IsS90.alloc|apply IsS90.drewN|apply IsS90.drew|apply IsS90.set_1|apply IsS90.set_2)|exact HI0.out),by repeat (first|(with_reducible first|exact HB.out|apply zD|apply zE|apply zF|refine below_set ?_ (IsS90.ge HI0.out))|exact HB.out),by repeat (first|(with_reducible first|exact HK.out|apply KeepBut.set_|apply keep_drewN|apply keep_drew|apply keep_alloc)|exact HK.out)⟩

end Go.Proofs.Ytcciljjnpfgaeaa.G
