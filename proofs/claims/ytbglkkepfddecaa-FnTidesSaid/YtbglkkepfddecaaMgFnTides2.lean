/- Texts of the proof of FnTides, joined in build order. -/
import Derived.Test.YtbglkkepfddecaaMgFnTides1
-- Written by wip/tools/gen.py out of the translation (the kit's printer, one namespace a seat). Lean checks it.
namespace Go.Proofs.Ytbglkkepfddecaa.G
open Go.RowKit Go.Proofs.YtbglkkepfddecaaW.PrintWords Go.Proofs.YtbglkkepfddecaaW.PrintLast Go.Proofs.YtbglkkepfddecaaW.PrintMore
attribute [local go_sem] max2_int min2_int max_two min_two max_three min_three max_four min_four   -- for this text's walks alone
set_option linter.unusedVariables false
set_option linter.unusedSimpArgs false

/-! ### impl_SteepestChange: function 28 -/
def impl_SteepestChange.l0 : Nat → List (S60) → Int → Int → Int → Int → Option (Int × Int × Int × Bool)
 | 0,_,_,_,_,_=>none
 | k + 1,x0,x6,x7,x8,x9=>if x9 < (x0.length : Int) then (if 0 ≤ x9 then (if 0 ≤ (wrap64 (x9 - 1)) then (if (wrap64 (x9 - 1)) < (x0.length : Int) then ((impl_size.f (wrap64 (((rd_T60 x0 x9).f1) - ((rd_T60 x0 (wrap64 (x9 - 1))).f1)))).bind fun t322=>(if (wrap64 (t322 * x7)) > (wrap64 (x6 * (wrap64 (((rd_T60 x0 x9).f0) - ((rd_T60 x0 (wrap64 (x9 - 1))).f0))))) then (impl_SteepestChange.l0 k x0 t322 (wrap64 (((rd_T60 x0 x9).f0) - ((rd_T60 x0 (wrap64 (x9 - 1))).f0))) (wrap64 (x9 - 1)) (wrap64 (x9 + 1))) else (impl_SteepestChange.l0 k x0 x6 x7 x8 (wrap64 (x9 + 1))))) else (none)) else (none)) else (none)) else ((impl_fraction.f k x6 x7).bind fun bt325=>(some (bt325.1,bt325.2,x8,true)))
def impl_SteepestChange.f (k : Nat) (l0 : List (S60)) : Option (Int × Int × Int × Bool):=(impl_IsValidTides.f k l0).bind fun t319=>(if t319 = true then (impl_SteepestChange.l0 k l0 0 1 0 1) else (some (0,0,0,false)))
def impl_SteepestChange.T7 : Bool × List (List Nat × List Nat):=(true,[([],[]),([],[]),([0,1],[0,1]),([2],[2]),([3],[3]),([],[]),([],[]),([6],[6]),([5,7],[5,7]),([8],[8]),([9],[9]),([4,10],[4,10]),([11],[11]),([],[]),([],[]),([13,14],[13,14]),([15],[15]),([16],[16]),([],[]),([],[]),([19],[19]),([18,20],[18,20]),([21],[21]),([22],[22]),([17,23],[17,23]),([12,12,0,1,2,3,4,5,6,7,8,9,10,11,12],[12]),([24,25,0,1,2,3,4,5,6,7,8,9,10,11,12,13,14,15,16,17,18,19,20,21,22,23,24,25],[24])])
def impl_SteepestChange.B7 : List Nat:=[0,0,3,7,15,0,0,64,224,480,992,2047,4095,0,0,24576,57344,122880,0,0,524288,1835008,3932160,8126464,16769024,8191,67108863]
theorem impl_SteepestChange.tab7 : rtab .any (opsOf Try.f28 7) = impl_SteepestChange.T7:=by kernel_rfl
theorem impl_SteepestChange.bits7 : waitsOk impl_SteepestChange.T7.2 impl_SteepestChange.B7 = true:=by kernel_rfl
set_option maxHeartbeats 8000000 in
set_option maxRecDepth 100000 in
theorem impl_SteepestChange.calls (k : Nat) (A0 : Option Addr) (c0 : Nat) (l0 : List (S60)) (r1 : Int) (r2 : Int) (r3 : Int) (r4 : Bool) (w : World) (hr0 : Kd.C k60 w A0 l0.length l0) (hc0 : l0.length ≤ c0) (h : impl_SteepestChange.f k l0 = some (r1,r2,r3,r4)) :
  Calls Try.prog 28 #[.slice A0 l0.length c0] w fun e w'=>e = .returned (.tuple #[.int .i64 r1,.int .i64 r2,.int .i64 r3,.bool r4]) ∧ Below w.heap.size w w':=by
 have HR0:=zM hr0
 have HC0:=zM hc0
 clear hr0 hc0
 have HB:=zM (Below.refl w.heap.size w)
 have H : ((impl_IsValidTides.f k l0).bind fun t319=>(if t319 = true then (impl_SteepestChange.l0 k l0 0 1 0 1) else (some (0,0,0,false)))) = some (r1,r2,r3,r4):=h
 clear h
 replace H:=Option.bind_eq_some_iff.mp H
 obtain ⟨t319,A20,H⟩:=H
 replace H : (if t319 = true then (impl_SteepestChange.l0 k l0 0 1 0 1) else (some (0,0,0,false))) = some (r1,r2,r3,r4):=H
 have A2:=zM A20
 clear A20
 by_cases c3 : t319 = true
 ·subst c3
  have H1 : (impl_SteepestChange.l0 k l0 0 1 0 1) = some (r1,r2,r3,r4):=by rw [if_pos rfl] at H;exact H
  clear H
  have H:=H1
  clear H1
  have H':=zM H
  clear H
  go_enter Try.func28,Try.ntmps28
  go_wp2_with (first|((with_reducible refine gate_callee (f:=17) rfl ?_);refine goesL_ (some 13) rfl rfl Try.func17 (by kernel_rfl) rfl #[.slice A0 l0.length c0] rfl (by (try simp only [List.map_toArray,List.map_cons,List.map_nil]);first|done|rfl|(simp only [List.length_drop,List.length_take];rfl)) ?_;(with_reducible refine (impl_IsValidTides.calls k _ _ l0 true _ ?side1 ?side2 A2.out).mono ?_);(case side1=>repeat (first|exact HR0.out|(with_reducible refine zG ?_ _)|(with_reducible refine zH ?_ _)|(with_reducible refine zI ?_)));(case side2=>exact HC0.out);rintro e w4 ⟨rfl,hb⟩;refine ⟨_,rfl,?_⟩;have n0_:=zM (zQ (by repeat (first|(with_reducible first|exact HB.out|apply zD|apply zE|apply zF)|exact HB.out)) hb);clear HB;have HB:=n0_;clear n0_;(try clear hb);(try clear hb2);(try clear hk);(try clear hi)))
  go_loopg [6,7,8,9] k (fun kq v6 v7 v8 v9 w' => ∃ (x6_1 : Int) (x7_1 : Int) (x8_1 : Int) (x9_1 : Int),v6 = .int .i64 x6_1 ∧ v7 = .int .i64 x7_1 ∧ v8 = .int .i64 x8_1 ∧ v9 = .int .i64 x9_1 ∧ Aside0 (impl_SteepestChange.l0 kq l0 x6_1 x7_1 x8_1 x9_1 = some (r1,r2,r3,r4)) ∧ Aside0 (kq ≤ k) ∧ Aside0 (Below w.heap.size w w'))
  case atStart=>exact ⟨(0),(1),(0),(1),(by first|rfl|(simp;done)|(simp [*];done)),(by first|rfl|(simp;done)|(simp [*];done)),(by first|rfl|(simp;done)|(simp [*];done)),(by first|rfl|(simp;done)|(simp [*];done)),H',⟨Nat.le_refl _⟩,⟨by repeat (first|(with_reducible first|exact HB.out|apply zD|apply zE|apply zF)|exact HB.out)⟩⟩
  case round =>
   clear H'
   try clear c1
   try clear c2
   try clear p2
   try clear c3
   obtain ⟨x6_1,x7_1,x8_1,x9_1,rfl,rfl,rfl,rfl,HA,HK1,HB⟩:=hrel
   cases gk with
   | zero=>exact absurd HA.out (by simp [impl_SteepestChange.l0])
   | succ k1 =>
    have H:=HA.out
    clear HA
    simp only [impl_SteepestChange.l0] at H
    by_cases c5 : x9_1 < (l0.length : Int)
    ·rw [if_pos c5] at H
     have c5b0 : decide (x9_1 < (l0.length : Int)) = true:=decide_eq_true c5
     clear c5
     by_cases c6 : 0 ≤ x9_1
     ·rw [if_pos c6] at H
      have c6b0 : decide (0 ≤ x9_1) = true:=decide_eq_true c6
      clear c6
      obtain ⟨ji7,hji7⟩ : ∃ j_ : Int,(wrap64 (x9_1 - 1)) = j_:=⟨_,rfl⟩
      replace H : (if 0 ≤ (ji7) then (if (ji7) < (l0.length : Int) then ((impl_size.f (wrap64 (((rd_T60 l0 x9_1).f1) - ((rd_T60 l0 (ji7)).f1)))).bind fun t322=>(if (wrap64 (t322 * x7_1)) > (wrap64 (x6_1 * (wrap64 (((rd_T60 l0 x9_1).f0) - ((rd_T60 l0 (ji7)).f0))))) then (impl_SteepestChange.l0 k1 l0 t322 (wrap64 (((rd_T60 l0 x9_1).f0) - ((rd_T60 l0 (ji7)).f0))) ji7 (wrap64 (x9_1 + 1))) else (impl_SteepestChange.l0 k1 l0 x6_1 x7_1 x8_1 (wrap64 (x9_1 + 1))))) else (none)) else (none)) = some (r1,r2,r3,r4):=by first|(rw [hji7] at H;exact H)|(simp only [hji7] at H ⊢;exact H)
      have hji7w : (IntKind.i64.wrap (x9_1 - 1)) = ji7:=(i64_w _).trans hji7
      by_cases c8 : 0 ≤ (ji7)
      ·rw [if_pos c8] at H
       have c8b0 : decide (0 ≤ (ji7)) = true:=decide_eq_true c8
       clear c8
       by_cases c9 : (ji7) < (l0.length : Int)
       ·rw [if_pos c9] at H
        have c9b0 : decide ((ji7) < (l0.length : Int)) = true:=decide_eq_true c9
        clear c9
        replace H:=Option.bind_eq_some_iff.mp H
        obtain ⟨t322,A100,H⟩:=H
        replace H : (if (wrap64 (t322 * x7_1)) > (wrap64 (x6_1 * (wrap64 (((rd_T60 l0 x9_1).f0) - ((rd_T60 l0 (ji7)).f0))))) then (impl_SteepestChange.l0 k1 l0 t322 (wrap64 (((rd_T60 l0 x9_1).f0) - ((rd_T60 l0 (ji7)).f0))) ji7 (wrap64 (x9_1 + 1))) else (impl_SteepestChange.l0 k1 l0 x6_1 x7_1 x8_1 (wrap64 (x9_1 + 1)))) = some (r1,r2,r3,r4):=H
        have A10:=zM A100
        clear A100
        by_cases c11 : (wrap64 (t322 * x7_1)) > (wrap64 (x6_1 * (wrap64 (((rd_T60 l0 x9_1).f0) - ((rd_T60 l0 (ji7)).f0)))))
        ·rw [if_pos c11] at H
         have c11b0 : decide ((wrap64 (x6_1 * (wrap64 (((rd_T60 l0 x9_1).f0) - ((rd_T60 l0 (ji7)).f0))))) < (wrap64 (t322 * x7_1))) = true:=decide_eq_true c11
         clear c11
         have H':=zM H
         clear H
         try go_wp2
         have n0_:=zM (zF HB.out)
         clear HB
         have HB:=n0_
         clear n0_
         have p320 : 0 ≤ (x9_1 : Int):=of_decide_eq_true (by first|(with_reducible assumption)|assumption)
         have q320 : x9_1 < (l0.length : Int):=of_decide_eq_true (by first|(with_reducible assumption)|assumption)
         obtain ⟨ad320,e320,hx320_0,hx320_1⟩:=at_T60 HR0.out x9_1 p320 q320
         have hw320_1:=hx320_1
         have hw320_0:=hx320_0
         cases e320
         replace hx320_0:=(HB.out.cell (World.block_lt_of_cell? w _ hx320_0)).trans hx320_0
         replace hx320_1:=(HB.out.cell (World.block_lt_of_cell? w _ hx320_1)).trans hx320_1
         replace p320:=eq_true p320
         replace q320:=eq_true q320
         have p321 : 0 ≤ ((ji7) : Int):=of_decide_eq_true (by first|(with_reducible assumption)|assumption)
         have q321 : (ji7) < (l0.length : Int):=of_decide_eq_true (by first|(with_reducible assumption)|assumption)
         obtain ⟨ad321,e321,hx321_0,hx321_1⟩:=at_T60 HR0.out (ji7) p321 q321
         have hw321_1:=hx321_1
         have hw321_0:=hx321_0
         obtain rfl : ad320 = ad321:=(by injection e321)
         replace hx321_0:=(HB.out.cell (World.block_lt_of_cell? w _ hx321_0)).trans hx321_0
         replace hx321_1:=(HB.out.cell (World.block_lt_of_cell? w _ hx321_1)).trans hx321_1
         replace p321:=eq_true p321
         replace q321:=eq_true q321
         have p323 : 0 ≤ (x9_1 : Int):=of_decide_eq_true (by first|(with_reducible assumption)|assumption)
         have q323 : x9_1 < (l0.length : Int):=of_decide_eq_true (by first|(with_reducible assumption)|assumption)
         obtain ⟨ad323,e323,hx323_0,hx323_1⟩:=at_T60 HR0.out x9_1 p323 q323
         have hw323_1:=hx323_1
         have hw323_0:=hx323_0
         obtain rfl : ad320 = ad323:=(by injection e323)
         replace hx323_0:=(HB.out.cell (World.block_lt_of_cell? w _ hx323_0)).trans hx323_0
         replace hx323_1:=(HB.out.cell (World.block_lt_of_cell? w _ hx323_1)).trans hx323_1
         replace p323:=eq_true p323
         replace q323:=eq_true q323
         have p324 : 0 ≤ ((ji7) : Int):=of_decide_eq_true (by first|(with_reducible assumption)|assumption)
         have q324 : (ji7) < (l0.length : Int):=of_decide_eq_true (by first|(with_reducible assumption)|assumption)
         obtain ⟨ad324,e324,hx324_0,hx324_1⟩:=at_T60 HR0.out (ji7) p324 q324
         have hw324_1:=hx324_1
         have hw324_0:=hx324_0
         obtain rfl : ad320 = ad324:=(by injection e324)
         replace hx324_0:=(HB.out.cell (World.block_lt_of_cell? w _ hx324_0)).trans hx324_0
         replace hx324_1:=(HB.out.cell (World.block_lt_of_cell? w _ hx324_1)).trans hx324_1
         replace p324:=eq_true p324
         replace q324:=eq_true q324
         refine start_ (n:=27) (S:=fun w'=>w'.cell? (ad320.add ((x9_1).toNat * 2)) = some (.int .i64 ((rd_T60 l0 x9_1).f0)) ∧ w'.cell? ⟨(ad320.add ((x9_1).toNat * 2)).block,(ad320.add ((x9_1).toNat * 2)).off + 1,none⟩ = some (.int .i64 ((rd_T60 l0 x9_1).f1)) ∧ w'.cell? (ad320.add (((ji7)).toNat * 2)) = some (.int .i64 ((rd_T60 l0 (ji7)).f0)) ∧ w'.cell? ⟨(ad320.add (((ji7)).toNat * 2)).block,(ad320.add (((ji7)).toNat * 2)).off + 1,none⟩ = some (.int .i64 ((rd_T60 l0 (ji7)).f1)) ∧ w'.cell? (ad320.add ((x9_1).toNat * 2)) = some (.int .i64 ((rd_T60 l0 x9_1).f0)) ∧ w'.cell? ⟨(ad320.add ((x9_1).toNat * 2)).block,(ad320.add ((x9_1).toNat * 2)).off + 1,none⟩ = some (.int .i64 ((rd_T60 l0 x9_1).f1)) ∧ w'.cell? (ad320.add (((ji7)).toNat * 2)) = some (.int .i64 ((rd_T60 l0 (ji7)).f0)) ∧ w'.cell? ⟨(ad320.add (((ji7)).toNat * 2)).block,(ad320.add (((ji7)).toNat * 2)).off + 1,none⟩ = some (.int .i64 ((rd_T60 l0 (ji7)).f1))) (ds:=[]) #[false,false,false,false,false,false,false,false,false,false,false,false,false,false,false,false,false,false,false,false,false,false,false,false,false,false,false] (by kernel_rfl) rfl rfl ⟨((HB.out.cell (World.block_lt_of_cell? w _ hw320_0)).trans hw320_0),((HB.out.cell (World.block_lt_of_cell? w _ hw320_1)).trans hw320_1),((HB.out.cell (World.block_lt_of_cell? w _ hw321_0)).trans hw321_0),((HB.out.cell (World.block_lt_of_cell? w _ hw321_1)).trans hw321_1),((HB.out.cell (World.block_lt_of_cell? w _ hw323_0)).trans hw323_0),((HB.out.cell (World.block_lt_of_cell? w _ hw323_1)).trans hw323_1),((HB.out.cell (World.block_lt_of_cell? w _ hw324_0)).trans hw324_0),((HB.out.cell (World.block_lt_of_cell? w _ hw324_1)).trans hw324_1)⟩ (fun hHeld=>?_);refine with_tabW impl_SteepestChange.tab7 impl_SteepestChange.bits7 (fun HT_ HW_=>?_)
         generalize wr.drew = w12 at HB hx320_0 hx320_1 hx321_0 hx321_1 hx323_0 hx323_1 hx324_0 hx324_1 hHeld ⊢
         refine pure_ (i:=0) (N:=some 21) (v:=?_) (a':=?_) #[true,false,false,false,false,false,false,false,false,false,false,false,false,false,false,false,false,false,false,false,false,false,false,false,false,false,false] rfl rfl (any_of HT_.out (by kernel_rfl)) (fun _ _ _ h=>h) (Or.inl ⟨by rfl,?_⟩) ?_ ?_
         rotate_left
         ·intro w'
          go_simp
          with_reducible rfl
         rotate_left
         ·simp only [Act.put,List.setIfInBounds_toArray,List.set_cons_zero,List.set_cons_succ,i64_w,i32_w]
          rfl
         refine pure_ (i:=1) (N:=some 22) (v:=?_) (a':=?_) #[true,true,false,false,false,false,false,false,false,false,false,false,false,false,false,false,false,false,false,false,false,false,false,false,false,false,false] rfl rfl (any_of HT_.out (by kernel_rfl)) (fun _ _ _ h=>h) (Or.inl ⟨by rfl,?_⟩) ?_ ?_
         rotate_left
         ·intro w'
          go_simp
          with_reducible rfl
         rotate_left
         ·simp only [Act.put,List.setIfInBounds_toArray,List.set_cons_zero,List.set_cons_succ,i64_w,i32_w]
          rfl
         refine pure_ (i:=2) (N:=some 23) (v:=?_) (a':=?_) #[true,true,true,false,false,false,false,false,false,false,false,false,false,false,false,false,false,false,false,false,false,false,false,false,false,false,false] rfl rfl (any_of HT_.out (by kernel_rfl)) (fun _ _ _ h=>h) (Or.inl ⟨by rfl,?_⟩) ?_ ?_
         rotate_left
         ·intro w'
          go_simp
          with_reducible rfl
         rotate_left
         ·simp only [Act.put,List.setIfInBounds_toArray,List.set_cons_zero,List.set_cons_succ,i64_w,i32_w]
          rfl
         refine pure_ (i:=3) (N:=some 24) (v:=?_) (a':=?_) #[true,true,true,true,false,false,false,false,false,false,false,false,false,false,false,false,false,false,false,false,false,false,false,false,false,false,false] rfl rfl (any_of HT_.out (by kernel_rfl)) (fun _ _ _ h=>h) (Or.inl ⟨by rfl,?_⟩) ?_ ?_
         rotate_left
         ·intro w'
          go_simp
          with_reducible rfl
         rotate_left
         ·simp only [Act.put,List.setIfInBounds_toArray,List.set_cons_zero,List.set_cons_succ,i64_w,i32_w]
          rfl
         refine pure_ (i:=5) (N:=some 26) (v:=?_) (a':=?_) #[true,true,true,true,false,true,false,false,false,false,false,false,false,false,false,false,false,false,false,false,false,false,false,false,false,false,false] rfl rfl (any_of HT_.out (by kernel_rfl)) (fun _ _ _ h=>h) (Or.inl ⟨by rfl,?_⟩) ?_ ?_
         rotate_left
         ·intro w'
          go_simp
          with_reducible rfl
         rotate_left
         ·simp only [Act.put,List.setIfInBounds_toArray,List.set_cons_zero,List.set_cons_succ,i64_w,i32_w]
          rfl
         refine pure_ (i:=6) (N:=some 27) (v:=?_) (a':=?_) #[true,true,true,true,false,true,true,false,false,false,false,false,false,false,false,false,false,false,false,false,false,false,false,false,false,false,false] rfl rfl (any_of HT_.out (by kernel_rfl)) (fun _ _ _ h=>h) (Or.inl ⟨by rfl,?_⟩) ?_ ?_
         rotate_left
         ·intro w'
          go_simp
          with_reducible rfl
         rotate_left
         ·simp only [Act.put,List.setIfInBounds_toArray,List.set_cons_zero,List.set_cons_succ,i64_w,i32_w]
          rfl
         refine pure_ (i:=7) (N:=some 28) (v:=?_) (a':=?_) #[true,true,true,true,false,true,true,true,false,false,false,false,false,false,false,false,false,false,false,false,false,false,false,false,false,false,false] rfl rfl (any_of HT_.out (by kernel_rfl)) (fun _ _ _ h=>h) (Or.inl ⟨by rfl,?_⟩) ?_ ?_
         rotate_left
         ·intro w'
          go_simp
          with_reducible rfl
         rotate_left
         ·simp only [Act.put,List.setIfInBounds_toArray,List.set_cons_zero,List.set_cons_succ,i64_w,i32_w]
          rfl
         refine pure_ (i:=8) (N:=some 29) (v:=?_) (a':=?_) #[true,true,true,true,false,true,true,true,true,false,false,false,false,false,false,false,false,false,false,false,false,false,false,false,false,false,false] rfl rfl (any_of HT_.out (by kernel_rfl)) (fun _ _ _ h=>h) (Or.inl ⟨by rfl,?_⟩) ?_ ?_
         rotate_left
         ·intro w'
          go_simp
          with_reducible rfl
         rotate_left
         ·simp only [Act.put,List.setIfInBounds_toArray,List.set_cons_zero,List.set_cons_succ,i64_w,i32_w]
          rfl
         refine pure_ (i:=9) (N:=some 30) (v:=?_) (a':=?_) #[true,true,true,true,false,true,true,true,true,true,false,false,false,false,false,false,false,false,false,false,false,false,false,false,false,false,false] rfl rfl (any_of HT_.out (by kernel_rfl)) (fun _ _ _ h=>h) (Or.inl ⟨by rfl,?_⟩) ?_ ?_
         rotate_left
         ·intro w'
          go_simp
          with_reducible rfl
         rotate_left
         ·simp only [Act.put,List.setIfInBounds_toArray,List.set_cons_zero,List.set_cons_succ,i64_w,i32_w]
          rfl
         refine pure_ (i:=13) (N:=some 34) (v:=?_) (a':=?_) #[true,true,true,true,false,true,true,true,true,true,false,false,false,true,false,false,false,false,false,false,false,false,false,false,false,false,false] rfl rfl (any_of HT_.out (by kernel_rfl)) (fun _ _ _ h=>h) (Or.inl ⟨by rfl,?_⟩) ?_ ?_
         rotate_left
         ·intro w'
          go_simp
          with_reducible rfl
         rotate_left
         ·simp only [Act.put,List.setIfInBounds_toArray,List.set_cons_zero,List.set_cons_succ,i64_w,i32_w]
          rfl
         refine pure_ (i:=14) (N:=some 35) (v:=?_) (a':=?_) #[true,true,true,true,false,true,true,true,true,true,false,false,false,true,true,false,false,false,false,false,false,false,false,false,false,false,false] rfl rfl (any_of HT_.out (by kernel_rfl)) (fun _ _ _ h=>h) (Or.inl ⟨by rfl,?_⟩) ?_ ?_
         rotate_left
         ·intro w'
          go_simp
          with_reducible rfl
         rotate_left
         ·simp only [Act.put,List.setIfInBounds_toArray,List.set_cons_zero,List.set_cons_succ,i64_w,i32_w]
          rfl
         refine pure_ (i:=15) (N:=some 36) (v:=?_) (a':=?_) #[true,true,true,true,false,true,true,true,true,true,false,false,false,true,true,true,false,false,false,false,false,false,false,false,false,false,false] rfl rfl (any_of HT_.out (by kernel_rfl)) (fun _ _ _ h=>h) (Or.inl ⟨by rfl,?_⟩) ?_ ?_
         rotate_left
         ·intro w'
          go_simp
          with_reducible rfl
         rotate_left
         ·simp only [Act.put,List.setIfInBounds_toArray,List.set_cons_zero,List.set_cons_succ,i64_w,i32_w]
          rfl
         refine pure_ (i:=16) (N:=some 37) (v:=?_) (a':=?_) #[true,true,true,true,false,true,true,true,true,true,false,false,false,true,true,true,true,false,false,false,false,false,false,false,false,false,false] rfl rfl (any_of HT_.out (by kernel_rfl)) (fun _ _ _ h=>h) (Or.inl ⟨by rfl,?_⟩) ?_ ?_
         rotate_left
         ·intro w'
          go_simp
          with_reducible rfl
         rotate_left
         ·simp only [Act.put,List.setIfInBounds_toArray,List.set_cons_zero,List.set_cons_succ,i64_w,i32_w]
          rfl
         refine pure_ (i:=18) (N:=some 39) (v:=?_) (a':=?_) #[true,true,true,true,false,true,true,true,true,true,false,false,false,true,true,true,true,false,true,false,false,false,false,false,false,false,false] rfl rfl (any_of HT_.out (by kernel_rfl)) (fun _ _ _ h=>h) (Or.inl ⟨by rfl,?_⟩) ?_ ?_
         rotate_left
         ·intro w'
          go_simp
          with_reducible rfl
         rotate_left
         ·simp only [Act.put,List.setIfInBounds_toArray,List.set_cons_zero,List.set_cons_succ,i64_w,i32_w]
          rfl
         refine pure_ (i:=19) (N:=some 40) (v:=?_) (a':=?_) #[true,true,true,true,false,true,true,true,true,true,false,false,false,true,true,true,true,false,true,true,false,false,false,false,false,false,false] rfl rfl (any_of HT_.out (by kernel_rfl)) (fun _ _ _ h=>h) (Or.inl ⟨by rfl,?_⟩) ?_ ?_
         rotate_left
         ·intro w'
          go_simp
          with_reducible rfl
         rotate_left
         ·simp only [Act.put,List.setIfInBounds_toArray,List.set_cons_zero,List.set_cons_succ,i64_w,i32_w]
          rfl
         refine pure_ (i:=20) (N:=some 41) (v:=?_) (a':=?_) #[true,true,true,true,false,true,true,true,true,true,false,false,false,true,true,true,true,false,true,true,true,false,false,false,false,false,false] rfl rfl (any_of HT_.out (by kernel_rfl)) (fun _ _ _ h=>h) (Or.inl ⟨by rfl,?_⟩) ?_ ?_
         rotate_left
         ·intro w'
          go_simp
          with_reducible rfl
         rotate_left
         ·simp only [Act.put,List.setIfInBounds_toArray,List.set_cons_zero,List.set_cons_succ,i64_w,i32_w]
          rfl
         refine pure_ (i:=21) (N:=some 42) (v:=?_) (a':=?_) #[true,true,true,true,false,true,true,true,true,true,false,false,false,true,true,true,true,false,true,true,true,true,false,false,false,false,false] rfl rfl (any_of HT_.out (by kernel_rfl)) (fun _ _ _ h=>h) (Or.inl ⟨by rfl,?_⟩) ?_ ?_
         rotate_left
         ·intro w'
          go_simp
          with_reducible rfl
         rotate_left
         ·simp only [Act.put,List.setIfInBounds_toArray,List.set_cons_zero,List.set_cons_succ,i64_w,i32_w]
          rfl
         refine pure_ (i:=22) (N:=some 43) (v:=?_) (a':=?_) #[true,true,true,true,false,true,true,true,true,true,false,false,false,true,true,true,true,false,true,true,true,true,true,false,false,false,false] rfl rfl (any_of HT_.out (by kernel_rfl)) (fun _ _ _ h=>h) (Or.inl ⟨by rfl,?_⟩) ?_ ?_
         rotate_left
         ·intro w'
          go_simp
          with_reducible rfl
         rotate_left
         ·simp only [Act.put,List.setIfInBounds_toArray,List.set_cons_zero,List.set_cons_succ,i64_w,i32_w]
          rfl
         refine take_ (i:=4) (N:=some 25) (v:=?_) (a':=?_) #[true,true,true,true,true,true,true,true,true,true,false,false,false,true,true,true,true,false,true,true,true,true,true,false,false,false,false] rfl rfl (take_ofW HT_.out HW_.out (by kernel_rfl)) (fun _ _ _ h=>h) (Or.inl ⟨by rfl,?_⟩) hHeld ?_ ?_
         rotate_left
         ·rintro w' ⟨s0,s1,s2,s3,s4,s5,s6,s7⟩
          go_simp
          with_reducible rfl
         rotate_left
         ·simp only [Act.put,List.setIfInBounds_toArray,List.set_cons_zero,List.set_cons_succ,i64_w,i32_w]
          rfl
         refine take_ (i:=10) (N:=some 31) (v:=?_) (a':=?_) #[true,true,true,true,true,true,true,true,true,true,true,false,false,true,true,true,true,false,true,true,true,true,true,false,false,false,false] rfl rfl (take_ofW HT_.out HW_.out (by kernel_rfl)) (fun _ _ _ h=>h) (Or.inl ⟨by rfl,?_⟩) hHeld ?_ ?_
         rotate_left
         ·rintro w' ⟨s0,s1,s2,s3,s4,s5,s6,s7⟩
          go_simp
          with_reducible rfl
         rotate_left
         ·simp only [Act.put,List.setIfInBounds_toArray,List.set_cons_zero,List.set_cons_succ,i64_w,i32_w]
          rfl
         refine pure_ (i:=11) (N:=some 32) (v:=?_) (a':=?_) #[true,true,true,true,true,true,true,true,true,true,true,true,false,true,true,true,true,false,true,true,true,true,true,false,false,false,false] rfl rfl (any_of HT_.out (by kernel_rfl)) (fun _ _ _ h=>h) (Or.inl ⟨by rfl,?_⟩) ?_ ?_
         rotate_left
         ·intro w'
          go_simp
          with_reducible rfl
         rotate_left
         ·simp only [Act.put,List.setIfInBounds_toArray,List.set_cons_zero,List.set_cons_succ,i64_w,i32_w]
          rfl
         refine take_ (i:=17) (N:=some 38) (v:=?_) (a':=?_) #[true,true,true,true,true,true,true,true,true,true,true,true,false,true,true,true,true,true,true,true,true,true,true,false,false,false,false] rfl rfl (take_ofW HT_.out HW_.out (by kernel_rfl)) (fun _ _ _ h=>h) (Or.inl ⟨by rfl,?_⟩) hHeld ?_ ?_
         rotate_left
         ·rintro w' ⟨s0,s1,s2,s3,s4,s5,s6,s7⟩
          go_simp
          with_reducible rfl
         rotate_left
         ·simp only [Act.put,List.setIfInBounds_toArray,List.set_cons_zero,List.set_cons_succ,i64_w,i32_w]
          rfl
         refine take_ (i:=23) (N:=some 44) (v:=?_) (a':=?_) #[true,true,true,true,true,true,true,true,true,true,true,true,false,true,true,true,true,true,true,true,true,true,true,true,false,false,false] rfl rfl (take_ofW HT_.out HW_.out (by kernel_rfl)) (fun _ _ _ h=>h) (Or.inl ⟨by rfl,?_⟩) hHeld ?_ ?_
         rotate_left
         ·rintro w' ⟨s0,s1,s2,s3,s4,s5,s6,s7⟩
          go_simp
          with_reducible rfl
         rotate_left
         ·simp only [Act.put,List.setIfInBounds_toArray,List.set_cons_zero,List.set_cons_succ,i64_w,i32_w]
          rfl
         refine pure_ (i:=24) (N:=some 45) (v:=?_) (a':=?_) #[true,true,true,true,true,true,true,true,true,true,true,true,false,true,true,true,true,true,true,true,true,true,true,true,true,false,false] rfl rfl (any_of HT_.out (by kernel_rfl)) (fun _ _ _ h=>h) (Or.inl ⟨by rfl,?_⟩) ?_ ?_
         rotate_left
         ·intro w'
          go_simp
          with_reducible rfl
         rotate_left
         ·simp only [Act.put,List.setIfInBounds_toArray,List.set_cons_zero,List.set_cons_succ,i64_w,i32_w]
          rfl
         refine one_ (i:=12) (N:=some 33) #[true,true,true,true,true,true,true,true,true,true,true,true,true,true,true,true,true,true,true,true,true,true,true,true,true,false,false] rfl rfl (one_of HT_.out (by kernel_rfl)) (by decide) (fun K hK=>?_)
         refine goes_ Try.func65 (by kernel_rfl) rfl #[.int .i64 (wrap64 (((rd_T60 l0 x9_1).f1) - ((rd_T60 l0 (ji7)).f1)))] (by rfl) rfl rfl (by (try simp only [List.map_toArray,List.map_cons,List.map_nil]);first|done|(simp only [hji7];rfl)|rfl|(simp only [List.length_drop,List.length_take];rfl)) ?_
         with_reducible refine (impl_size.calls (wrap64 (((rd_T60 l0 x9_1).f1) - ((rd_T60 l0 (ji7)).f1))) t322 _ A10.out).mono ?_
         rintro e w13 ⟨rfl,hb⟩
         refine ⟨_,rfl,?_⟩
         have n0_:=zM (zQ (by repeat (first|(with_reducible first|exact HB.out|apply zD|apply zE|apply zF)|exact HB.out)) hb)
         clear HB
         have HB:=n0_
         clear n0_
         (try clear hb)
         (try clear hb2)
         (try clear hk)
         (try clear hi)
         refine hK.out _ _ ⟨((HB.out.cell (World.block_lt_of_cell? w _ hw320_0)).trans hw320_0),((HB.out.cell (World.block_lt_of_cell? w _ hw320_1)).trans hw320_1),((HB.out.cell (World.block_lt_of_cell? w _ hw321_0)).trans hw321_0),((HB.out.cell (World.block_lt_of_cell? w _ hw321_1)).trans hw321_1),((HB.out.cell (World.block_lt_of_cell? w _ hw323_0)).trans hw323_0),((HB.out.cell (World.block_lt_of_cell? w _ hw323_1)).trans hw323_1),((HB.out.cell (World.block_lt_of_cell? w _ hw324_0)).trans hw324_0),((HB.out.cell (World.block_lt_of_cell? w _ hw324_1)).trans hw324_1)⟩ (fun hHeld=>?_)
         clear hK K
         refine norm_ (a':=?_) ?_ ?_
         rotate_left
         ·show Act.put _ (some 33) _ = _
          simp only [Act.put,List.setIfInBounds_toArray,List.set_cons_zero,List.set_cons_succ,i64_w,i32_w]
          rfl
         refine pure_ (i:=25) (N:=some 10) (v:=?_) (a':=?_) #[true,true,true,true,true,true,true,true,true,true,true,true,true,true,true,true,true,true,true,true,true,true,true,true,true,true,false] rfl rfl (any_of HT_.out (by kernel_rfl)) (fun _ _ _ h=>h) (Or.inl ⟨by rfl,?_⟩) ?_ ?_
         rotate_left
         ·intro w'
          go_simp
          with_reducible rfl
         rotate_left
         ·simp only [Act.put,List.setIfInBounds_toArray,List.set_cons_zero,List.set_cons_succ,i64_w,i32_w]
          rfl
         refine pure_ (i:=26) (N:=some 11) (v:=?_) (a':=?_) #[true,true,true,true,true,true,true,true,true,true,true,true,true,true,true,true,true,true,true,true,true,true,true,true,true,true,true] rfl rfl (any_of HT_.out (by kernel_rfl)) (fun _ _ _ h=>h) (Or.inl ⟨by rfl,?_⟩) ?_ ?_
         rotate_left
         ·intro w'
          go_simp
          with_reducible rfl
         rotate_left
         ·simp only [Act.put,List.setIfInBounds_toArray,List.set_cons_zero,List.set_cons_succ,i64_w,i32_w]
          rfl
         refine done_ (done_of HT_.out (by kernel_rfl)) ?_
         try go_wp2
         go_roundg k1
         case measure=>have:=HK1.out;omega
         case rel=>exact ⟨(t322),(wrap64 (((rd_T60 l0 x9_1).f0) - ((rd_T60 l0 (ji7)).f0))),(ji7),(wrap64 (x9_1 + 1)),(by first|rfl|(simp;done)|(simp [*];done)),(by first|rfl|(simp;done)|(simp only [← hji7] <;> (first|rfl|simp))|(simp [*];done)),(by first|rfl|(simp;done)|(simp only [← hji7] <;> (first|rfl|simp))|(simp [*];done)),(by first|rfl|(simp;done)|(simp [*];done)),H',⟨by have:=HK1.out;omega⟩,⟨by repeat (first|(with_reducible first|exact HB.out|apply zD|apply zE|apply zF)|exact HB.out)⟩⟩
        ·rw [if_neg c11] at H
         have c11b0 : decide ((wrap64 (x6_1 * (wrap64 (((rd_T60 l0 x9_1).f0) - ((rd_T60 l0 (ji7)).f0))))) < (wrap64 (t322 * x7_1))) = false:=decide_eq_false c11
         clear c11
         have H':=zM H
         clear H
         try go_wp2
         have n0_:=zM (zF HB.out)
         clear HB
         have HB:=n0_
         clear n0_
         have p320 : 0 ≤ (x9_1 : Int):=of_decide_eq_true (by first|(with_reducible assumption)|assumption)
         have q320 : x9_1 < (l0.length : Int):=of_decide_eq_true (by first|(with_reducible assumption)|assumption)
         obtain ⟨ad320,e320,hx320_0,hx320_1⟩:=at_T60 HR0.out x9_1 p320 q320
         have hw320_1:=hx320_1
         have hw320_0:=hx320_0
         cases e320
         replace hx320_0:=(HB.out.cell (World.block_lt_of_cell? w _ hx320_0)).trans hx320_0
         replace hx320_1:=(HB.out.cell (World.block_lt_of_cell? w _ hx320_1)).trans hx320_1
         replace p320:=eq_true p320
         replace q320:=eq_true q320
         have p321 : 0 ≤ ((ji7) : Int):=of_decide_eq_true (by first|(with_reducible assumption)|assumption)
         have q321 : (ji7) < (l0.length : Int):=of_decide_eq_true (by first|(with_reducible assumption)|assumption)
         obtain ⟨ad321,e321,hx321_0,hx321_1⟩:=at_T60 HR0.out (ji7) p321 q321
         have hw321_1:=hx321_1
         have hw321_0:=hx321_0
         obtain rfl : ad320 = ad321:=(by injection e321)
         replace hx321_0:=(HB.out.cell (World.block_lt_of_cell? w _ hx321_0)).trans hx321_0
         replace hx321_1:=(HB.out.cell (World.block_lt_of_cell? w _ hx321_1)).trans hx321_1
         replace p321:=eq_true p321
         replace q321:=eq_true q321
         have p323 : 0 ≤ (x9_1 : Int):=of_decide_eq_true (by first|(with_reducible assumption)|assumption)
         have q323 : x9_1 < (l0.length : Int):=of_decide_eq_true (by first|(with_reducible assumption)|assumption)
         obtain ⟨ad323,e323,hx323_0,hx323_1⟩:=at_T60 HR0.out x9_1 p323 q323
         have hw323_1:=hx323_1
         have hw323_0:=hx323_0
         obtain rfl : ad320 = ad323:=(by injection e323)
         replace hx323_0:=(HB.out.cell (World.block_lt_of_cell? w _ hx323_0)).trans hx323_0
         replace hx323_1:=(HB.out.cell (World.block_lt_of_cell? w _ hx323_1)).trans hx323_1
         replace p323:=eq_true p323
         replace q323:=eq_true q323
         have p324 : 0 ≤ ((ji7) : Int):=of_decide_eq_true (by first|(with_reducible assumption)|assumption)
         have q324 : (ji7) < (l0.length : Int):=of_decide_eq_true (by first|(with_reducible assumption)|assumption)
         obtain ⟨ad324,e324,hx324_0,hx324_1⟩:=at_T60 HR0.out (ji7) p324 q324
         have hw324_1:=hx324_1
         have hw324_0:=hx324_0
         obtain rfl : ad320 = ad324:=(by injection e324)
         replace hx324_0:=(HB.out.cell (World.block_lt_of_cell? w _ hx324_0)).trans hx324_0
         replace hx324_1:=(HB.out.cell (World.block_lt_of_cell? w _ hx324_1)).trans hx324_1
         replace p324:=eq_true p324
         replace q324:=eq_true q324
         refine start_ (n:=27) (S:=fun w'=>w'.cell? (ad320.add ((x9_1).toNat * 2)) = some (.int .i64 ((rd_T60 l0 x9_1).f0)) ∧ w'.cell? ⟨(ad320.add ((x9_1).toNat * 2)).block,(ad320.add ((x9_1).toNat * 2)).off + 1,none⟩ = some (.int .i64 ((rd_T60 l0 x9_1).f1)) ∧ w'.cell? (ad320.add (((ji7)).toNat * 2)) = some (.int .i64 ((rd_T60 l0 (ji7)).f0)) ∧ w'.cell? ⟨(ad320.add (((ji7)).toNat * 2)).block,(ad320.add (((ji7)).toNat * 2)).off + 1,none⟩ = some (.int .i64 ((rd_T60 l0 (ji7)).f1)) ∧ w'.cell? (ad320.add ((x9_1).toNat * 2)) = some (.int .i64 ((rd_T60 l0 x9_1).f0)) ∧ w'.cell? ⟨(ad320.add ((x9_1).toNat * 2)).block,(ad320.add ((x9_1).toNat * 2)).off + 1,none⟩ = some (.int .i64 ((rd_T60 l0 x9_1).f1)) ∧ w'.cell? (ad320.add (((ji7)).toNat * 2)) = some (.int .i64 ((rd_T60 l0 (ji7)).f0)) ∧ w'.cell? ⟨(ad320.add (((ji7)).toNat * 2)).block,(ad320.add (((ji7)).toNat * 2)).off + 1,none⟩ = some (.int .i64 ((rd_T60 l0 (ji7)).f1))) (ds:=[]) #[false,false,false,false,false,false,false,false,false,false,false,false,false,false,false,false,false,false,false,false,false,false,false,false,false,false,false] (by kernel_rfl) rfl rfl ⟨((HB.out.cell (World.block_lt_of_cell? w _ hw320_0)).trans hw320_0),((HB.out.cell (World.block_lt_of_cell? w _ hw320_1)).trans hw320_1),((HB.out.cell (World.block_lt_of_cell? w _ hw321_0)).trans hw321_0),((HB.out.cell (World.block_lt_of_cell? w _ hw321_1)).trans hw321_1),((HB.out.cell (World.block_lt_of_cell? w _ hw323_0)).trans hw323_0),((HB.out.cell (World.block_lt_of_cell? w _ hw323_1)).trans hw323_1),((HB.out.cell (World.block_lt_of_cell? w _ hw324_0)).trans hw324_0),((HB.out.cell (World.block_lt_of_cell? w _ hw324_1)).trans hw324_1)⟩ (fun hHeld=>?_);refine with_tabW impl_SteepestChange.tab7 impl_SteepestChange.bits7 (fun HT_ HW_=>?_)
         generalize wr.drew = w14 at HB hx320_0 hx320_1 hx321_0 hx321_1 hx323_0 hx323_1 hx324_0 hx324_1 hHeld ⊢
         refine pure_ (i:=0) (N:=some 21) (v:=?_) (a':=?_) #[true,false,false,false,false,false,false,false,false,false,false,false,false,false,false,false,false,false,false,false,false,false,false,false,false,false,false] rfl rfl (any_of HT_.out (by kernel_rfl)) (fun _ _ _ h=>h) (Or.inl ⟨by rfl,?_⟩) ?_ ?_
         rotate_left
         ·intro w'
          go_simp
          with_reducible rfl
         rotate_left
         ·simp only [Act.put,List.setIfInBounds_toArray,List.set_cons_zero,List.set_cons_succ,i64_w,i32_w]
          rfl
         refine pure_ (i:=1) (N:=some 22) (v:=?_) (a':=?_) #[true,true,false,false,false,false,false,false,false,false,false,false,false,false,false,false,false,false,false,false,false,false,false,false,false,false,false] rfl rfl (any_of HT_.out (by kernel_rfl)) (fun _ _ _ h=>h) (Or.inl ⟨by rfl,?_⟩) ?_ ?_
         rotate_left
         ·intro w'
          go_simp
          with_reducible rfl
         rotate_left
         ·simp only [Act.put,List.setIfInBounds_toArray,List.set_cons_zero,List.set_cons_succ,i64_w,i32_w]
          rfl
         refine pure_ (i:=2) (N:=some 23) (v:=?_) (a':=?_) #[true,true,true,false,false,false,false,false,false,false,false,false,false,false,false,false,false,false,false,false,false,false,false,false,false,false,false] rfl rfl (any_of HT_.out (by kernel_rfl)) (fun _ _ _ h=>h) (Or.inl ⟨by rfl,?_⟩) ?_ ?_
         rotate_left
         ·intro w'
          go_simp
          with_reducible rfl
         rotate_left
         ·simp only [Act.put,List.setIfInBounds_toArray,List.set_cons_zero,List.set_cons_succ,i64_w,i32_w]
          rfl
         refine pure_ (i:=3) (N:=some 24) (v:=?_) (a':=?_) #[true,true,true,true,false,false,false,false,false,false,false,false,false,false,false,false,false,false,false,false,false,false,false,false,false,false,false] rfl rfl (any_of HT_.out (by kernel_rfl)) (fun _ _ _ h=>h) (Or.inl ⟨by rfl,?_⟩) ?_ ?_
         rotate_left
         ·intro w'
          go_simp
          with_reducible rfl
         rotate_left
         ·simp only [Act.put,List.setIfInBounds_toArray,List.set_cons_zero,List.set_cons_succ,i64_w,i32_w]
          rfl
         refine pure_ (i:=5) (N:=some 26) (v:=?_) (a':=?_) #[true,true,true,true,false,true,false,false,false,false,false,false,false,false,false,false,false,false,false,false,false,false,false,false,false,false,false] rfl rfl (any_of HT_.out (by kernel_rfl)) (fun _ _ _ h=>h) (Or.inl ⟨by rfl,?_⟩) ?_ ?_
         rotate_left
         ·intro w'
          go_simp
          with_reducible rfl
         rotate_left
         ·simp only [Act.put,List.setIfInBounds_toArray,List.set_cons_zero,List.set_cons_succ,i64_w,i32_w]
          rfl
         refine pure_ (i:=6) (N:=some 27) (v:=?_) (a':=?_) #[true,true,true,true,false,true,true,false,false,false,false,false,false,false,false,false,false,false,false,false,false,false,false,false,false,false,false] rfl rfl (any_of HT_.out (by kernel_rfl)) (fun _ _ _ h=>h) (Or.inl ⟨by rfl,?_⟩) ?_ ?_
         rotate_left
         ·intro w'
          go_simp
          with_reducible rfl
         rotate_left
         ·simp only [Act.put,List.setIfInBounds_toArray,List.set_cons_zero,List.set_cons_succ,i64_w,i32_w]
          rfl
         refine pure_ (i:=7) (N:=some 28) (v:=?_) (a':=?_) #[true,true,true,true,false,true,true,true,false,false,false,false,false,false,false,false,false,false,false,false,false,false,false,false,false,false,false] rfl rfl (any_of HT_.out (by kernel_rfl)) (fun _ _ _ h=>h) (Or.inl ⟨by rfl,?_⟩) ?_ ?_
         rotate_left
         ·intro w'
          go_simp
          with_reducible rfl
         rotate_left
         ·simp only [Act.put,List.setIfInBounds_toArray,List.set_cons_zero,List.set_cons_succ,i64_w,i32_w]
          rfl
         refine pure_ (i:=8) (N:=some 29) (v:=?_) (a':=?_) #[true,true,true,true,false,true,true,true,true,false,false,false,false,false,false,false,false,false,false,false,false,false,false,false,false,false,false] rfl rfl (any_of HT_.out (by kernel_rfl)) (fun _ _ _ h=>h) (Or.inl ⟨by rfl,?_⟩) ?_ ?_
         rotate_left
         ·intro w'
          go_simp
          with_reducible rfl
         rotate_left
         ·simp only [Act.put,List.setIfInBounds_toArray,List.set_cons_zero,List.set_cons_succ,i64_w,i32_w]
          rfl
         refine pure_ (i:=9) (N:=some 30) (v:=?_) (a':=?_) #[true,true,true,true,false,true,true,true,true,true,false,false,false,false,false,false,false,false,false,false,false,false,false,false,false,false,false] rfl rfl (any_of HT_.out (by kernel_rfl)) (fun _ _ _ h=>h) (Or.inl ⟨by rfl,?_⟩) ?_ ?_
         rotate_left
         ·intro w'
          go_simp
          with_reducible rfl
         rotate_left
         ·simp only [Act.put,List.setIfInBounds_toArray,List.set_cons_zero,List.set_cons_succ,i64_w,i32_w]
          rfl
         refine pure_ (i:=13) (N:=some 34) (v:=?_) (a':=?_) #[true,true,true,true,false,true,true,true,true,true,false,false,false,true,false,false,false,false,false,false,false,false,false,false,false,false,false] rfl rfl (any_of HT_.out (by kernel_rfl)) (fun _ _ _ h=>h) (Or.inl ⟨by rfl,?_⟩) ?_ ?_
         rotate_left
         ·intro w'
          go_simp
          with_reducible rfl
         rotate_left
         ·simp only [Act.put,List.setIfInBounds_toArray,List.set_cons_zero,List.set_cons_succ,i64_w,i32_w]
          rfl
         refine pure_ (i:=14) (N:=some 35) (v:=?_) (a':=?_) #[true,true,true,true,false,true,true,true,true,true,false,false,false,true,true,false,false,false,false,false,false,false,false,false,false,false,false] rfl rfl (any_of HT_.out (by kernel_rfl)) (fun _ _ _ h=>h) (Or.inl ⟨by rfl,?_⟩) ?_ ?_
         rotate_left
         ·intro w'
          go_simp
          with_reducible rfl
         rotate_left
         ·simp only [Act.put,List.setIfInBounds_toArray,List.set_cons_zero,List.set_cons_succ,i64_w,i32_w]
          rfl
         refine pure_ (i:=15) (N:=some 36) (v:=?_) (a':=?_) #[true,true,true,true,false,true,true,true,true,true,false,false,false,true,true,true,false,false,false,false,false,false,false,false,false,false,false] rfl rfl (any_of HT_.out (by kernel_rfl)) (fun _ _ _ h=>h) (Or.inl ⟨by rfl,?_⟩) ?_ ?_
         rotate_left
         ·intro w'
          go_simp
          with_reducible rfl
         rotate_left
         ·simp only [Act.put,List.setIfInBounds_toArray,List.set_cons_zero,List.set_cons_succ,i64_w,i32_w]
          rfl
         refine pure_ (i:=16) (N:=some 37) (v:=?_) (a':=?_) #[true,true,true,true,false,true,true,true,true,true,false,false,false,true,true,true,true,false,false,false,false,false,false,false,false,false,false] rfl rfl (any_of HT_.out (by kernel_rfl)) (fun _ _ _ h=>h) (Or.inl ⟨by rfl,?_⟩) ?_ ?_
         rotate_left
         ·intro w'
          go_simp
          with_reducible rfl
         rotate_left
         ·simp only [Act.put,List.setIfInBounds_toArray,List.set_cons_zero,List.set_cons_succ,i64_w,i32_w]
          rfl
         refine pure_ (i:=18) (N:=some 39) (v:=?_) (a':=?_) #[true,true,true,true,false,true,true,true,true,true,false,false,false,true,true,true,true,false,true,false,false,false,false,false,false,false,false] rfl rfl (any_of HT_.out (by kernel_rfl)) (fun _ _ _ h=>h) (Or.inl ⟨by rfl,?_⟩) ?_ ?_
         rotate_left
         ·intro w'
          go_simp
          with_reducible rfl
         rotate_left
         ·simp only [Act.put,List.setIfInBounds_toArray,List.set_cons_zero,List.set_cons_succ,i64_w,i32_w]
          rfl
         refine pure_ (i:=19) (N:=some 40) (v:=?_) (a':=?_) #[true,true,true,true,false,true,true,true,true,true,false,false,false,true,true,true,true,false,true,true,false,false,false,false,false,false,false] rfl rfl (any_of HT_.out (by kernel_rfl)) (fun _ _ _ h=>h) (Or.inl ⟨by rfl,?_⟩) ?_ ?_
         rotate_left
         ·intro w'
          go_simp
          with_reducible rfl
         rotate_left
         ·simp only [Act.put,List.setIfInBounds_toArray,List.set_cons_zero,List.set_cons_succ,i64_w,i32_w]
          rfl
         refine pure_ (i:=20) (N:=some 41) (v:=?_) (a':=?_) #[true,true,true,true,false,true,true,true,true,true,false,false,false,true,true,true,true,false,true,true,true,false,false,false,false,false,false] rfl rfl (any_of HT_.out (by kernel_rfl)) (fun _ _ _ h=>h) (Or.inl ⟨by rfl,?_⟩) ?_ ?_
         rotate_left
         ·intro w'
          go_simp
          with_reducible rfl
         rotate_left
         ·simp only [Act.put,List.setIfInBounds_toArray,List.set_cons_zero,List.set_cons_succ,i64_w,i32_w]
          rfl
         refine pure_ (i:=21) (N:=some 42) (v:=?_) (a':=?_) #[true,true,true,true,false,true,true,true,true,true,false,false,false,true,true,true,true,false,true,true,true,true,false,false,false,false,false] rfl rfl (any_of HT_.out (by kernel_rfl)) (fun _ _ _ h=>h) (Or.inl ⟨by rfl,?_⟩) ?_ ?_
         rotate_left
         ·intro w'
          go_simp
          with_reducible rfl
         rotate_left
         ·simp only [Act.put,List.setIfInBounds_toArray,List.set_cons_zero,List.set_cons_succ,i64_w,i32_w]
          rfl
         refine pure_ (i:=22) (N:=some 43) (v:=?_) (a':=?_) #[true,true,true,true,false,true,true,true,true,true,false,false,false,true,true,true,true,false,true,true,true,true,true,false,false,false,false] rfl rfl (any_of HT_.out (by kernel_rfl)) (fun _ _ _ h=>h) (Or.inl ⟨by rfl,?_⟩) ?_ ?_
         rotate_left
         ·intro w'
          go_simp
          with_reducible rfl
         rotate_left
         ·simp only [Act.put,List.setIfInBounds_toArray,List.set_cons_zero,List.set_cons_succ,i64_w,i32_w]
          rfl
         refine take_ (i:=4) (N:=some 25) (v:=?_) (a':=?_) #[true,true,true,true,true,true,true,true,true,true,false,false,false,true,true,true,true,false,true,true,true,true,true,false,false,false,false] rfl rfl (take_ofW HT_.out HW_.out (by kernel_rfl)) (fun _ _ _ h=>h) (Or.inl ⟨by rfl,?_⟩) hHeld ?_ ?_
         rotate_left
         ·rintro w' ⟨s0,s1,s2,s3,s4,s5,s6,s7⟩
          go_simp
          with_reducible rfl
         rotate_left
         ·simp only [Act.put,List.setIfInBounds_toArray,List.set_cons_zero,List.set_cons_succ,i64_w,i32_w]
          rfl
         refine take_ (i:=10) (N:=some 31) (v:=?_) (a':=?_) #[true,true,true,true,true,true,true,true,true,true,true,false,false,true,true,true,true,false,true,true,true,true,true,false,false,false,false] rfl rfl (take_ofW HT_.out HW_.out (by kernel_rfl)) (fun _ _ _ h=>h) (Or.inl ⟨by rfl,?_⟩) hHeld ?_ ?_
         rotate_left
         ·rintro w' ⟨s0,s1,s2,s3,s4,s5,s6,s7⟩
          go_simp
          with_reducible rfl
         rotate_left
         ·simp only [Act.put,List.setIfInBounds_toArray,List.set_cons_zero,List.set_cons_succ,i64_w,i32_w]
          rfl
         refine pure_ (i:=11) (N:=some 32) (v:=?_) (a':=?_) #[true,true,true,true,true,true,true,true,true,true,true,true,false,true,true,true,true,false,true,true,true,true,true,false,false,false,false] rfl rfl (any_of HT_.out (by kernel_rfl)) (fun _ _ _ h=>h) (Or.inl ⟨by rfl,?_⟩) ?_ ?_
         rotate_left
         ·intro w'
          go_simp
          with_reducible rfl
         rotate_left
         ·simp only [Act.put,List.setIfInBounds_toArray,List.set_cons_zero,List.set_cons_succ,i64_w,i32_w]
          rfl
         refine take_ (i:=17) (N:=some 38) (v:=?_) (a':=?_) #[true,true,true,true,true,true,true,true,true,true,true,true,false,true,true,true,true,true,true,true,true,true,true,false,false,false,false] rfl rfl (take_ofW HT_.out HW_.out (by kernel_rfl)) (fun _ _ _ h=>h) (Or.inl ⟨by rfl,?_⟩) hHeld ?_ ?_
         rotate_left
         ·rintro w' ⟨s0,s1,s2,s3,s4,s5,s6,s7⟩
          go_simp
          with_reducible rfl
         rotate_left
         ·simp only [Act.put,List.setIfInBounds_toArray,List.set_cons_zero,List.set_cons_succ,i64_w,i32_w]
          rfl
         refine take_ (i:=23) (N:=some 44) (v:=?_) (a':=?_) #[true,true,true,true,true,true,true,true,true,true,true,true,false,true,true,true,true,true,true,true,true,true,true,true,false,false,false] rfl rfl (take_ofW HT_.out HW_.out (by kernel_rfl)) (fun _ _ _ h=>h) (Or.inl ⟨by rfl,?_⟩) hHeld ?_ ?_
         rotate_left
         ·rintro w' ⟨s0,s1,s2,s3,s4,s5,s6,s7⟩
          go_simp
          with_reducible rfl
         rotate_left
         ·simp only [Act.put,List.setIfInBounds_toArray,List.set_cons_zero,List.set_cons_succ,i64_w,i32_w]
          rfl
         refine pure_ (i:=24) (N:=some 45) (v:=?_) (a':=?_) #[true,true,true,true,true,true,true,true,true,true,true,true,false,true,true,true,true,true,true,true,true,true,true,true,true,false,false] rfl rfl (any_of HT_.out (by kernel_rfl)) (fun _ _ _ h=>h) (Or.inl ⟨by rfl,?_⟩) ?_ ?_
         rotate_left
         ·intro w'
          go_simp
          with_reducible rfl
         rotate_left
         ·simp only [Act.put,List.setIfInBounds_toArray,List.set_cons_zero,List.set_cons_succ,i64_w,i32_w]
          rfl
         refine one_ (i:=12) (N:=some 33) #[true,true,true,true,true,true,true,true,true,true,true,true,true,true,true,true,true,true,true,true,true,true,true,true,true,false,false] rfl rfl (one_of HT_.out (by kernel_rfl)) (by decide) (fun K hK=>?_)
         refine goes_ Try.func65 (by kernel_rfl) rfl #[.int .i64 (wrap64 (((rd_T60 l0 x9_1).f1) - ((rd_T60 l0 (ji7)).f1)))] (by rfl) rfl rfl (by (try simp only [List.map_toArray,List.map_cons,List.map_nil]);first|done|(simp only [hji7];rfl)|rfl|(simp only [List.length_drop,List.length_take];rfl)) ?_
         with_reducible refine (impl_size.calls (wrap64 (((rd_T60 l0 x9_1).f1) - ((rd_T60 l0 (ji7)).f1))) t322 _ A10.out).mono ?_
         rintro e w15 ⟨rfl,hb⟩
         refine ⟨_,rfl,?_⟩
         have n0_:=zM (zQ (by repeat (first|(with_reducible first|exact HB.out|apply zD|apply zE|apply zF)|exact HB.out)) hb)
         clear HB
         have HB:=n0_
         clear n0_
         (try clear hb)
         (try clear hb2)
         (try clear hk)
         (try clear hi)
         refine hK.out _ _ ⟨((HB.out.cell (World.block_lt_of_cell? w _ hw320_0)).trans hw320_0),((HB.out.cell (World.block_lt_of_cell? w _ hw320_1)).trans hw320_1),((HB.out.cell (World.block_lt_of_cell? w _ hw321_0)).trans hw321_0),((HB.out.cell (World.block_lt_of_cell? w _ hw321_1)).trans hw321_1),((HB.out.cell (World.block_lt_of_cell? w _ hw323_0)).trans hw323_0),((HB.out.cell (World.block_lt_of_cell? w _ hw323_1)).trans hw323_1),((HB.out.cell (World.block_lt_of_cell? w _ hw324_0)).trans hw324_0),((HB.out.cell (World.block_lt_of_cell? w _ hw324_1)).trans hw324_1)⟩ (fun hHeld=>?_)
         clear hK K
         refine norm_ (a':=?_) ?_ ?_
         rotate_left
         ·show Act.put _ (some 33) _ = _
          simp only [Act.put,List.setIfInBounds_toArray,List.set_cons_zero,List.set_cons_succ,i64_w,i32_w]
          rfl
         refine pure_ (i:=25) (N:=some 10) (v:=?_) (a':=?_) #[true,true,true,true,true,true,true,true,true,true,true,true,true,true,true,true,true,true,true,true,true,true,true,true,true,true,false] rfl rfl (any_of HT_.out (by kernel_rfl)) (fun _ _ _ h=>h) (Or.inl ⟨by rfl,?_⟩) ?_ ?_
         rotate_left
         ·intro w'
          go_simp
          with_reducible rfl
         rotate_left
         ·simp only [Act.put,List.setIfInBounds_toArray,List.set_cons_zero,List.set_cons_succ,i64_w,i32_w]
          rfl
         refine pure_ (i:=26) (N:=some 11) (v:=?_) (a':=?_) #[true,true,true,true,true,true,true,true,true,true,true,true,true,true,true,true,true,true,true,true,true,true,true,true,true,true,true] rfl rfl (any_of HT_.out (by kernel_rfl)) (fun _ _ _ h=>h) (Or.inl ⟨by rfl,?_⟩) ?_ ?_
         rotate_left
         ·intro w'
          go_simp
          with_reducible rfl
         rotate_left
         ·simp only [Act.put,List.setIfInBounds_toArray,List.set_cons_zero,List.set_cons_succ,i64_w,i32_w]
          rfl
         refine done_ (done_of HT_.out (by kernel_rfl)) ?_
         try go_wp2
         go_roundg k1
         case measure=>have:=HK1.out;omega
         case rel=>exact ⟨(x6_1),(x7_1),(x8_1),(wrap64 (x9_1 + 1)),(by first|rfl|(simp;done)|(simp [*];done)),(by first|rfl|(simp;done)|(simp [*];done)),(by first|rfl|(simp;done)|(simp [*];done)),(by first|rfl|(simp;done)|(simp [*];done)),H',⟨by have:=HK1.out;omega⟩,⟨by repeat (first|(with_reducible first|exact HB.out|apply zD|apply zE|apply zF)|exact HB.out)⟩⟩
       ·rw [if_neg c9] at H
        exact absurd H (by simp)
      ·rw [if_neg c8] at H
       exact absurd H (by simp)
     ·rw [if_neg c6] at H
      exact absurd H (by simp)
    ·rw [if_neg c5] at H
     have c5b0 : decide (x9_1 < (l0.length : Int)) = false:=decide_eq_false c5
     clear c5
     replace H:=Option.bind_eq_some_iff.mp H
     obtain ⟨⟨t325,t326⟩,A160,H⟩:=H
     replace H : (some (t325,t326,x8_1,true)) = some (r1,r2,r3,r4):=H
     have A16:=zM A160
     clear A160
     simp only [Option.some.injEq,Prod.mk.injEq] at H
     obtain ⟨rfl,rfl,rfl,rfl⟩:=H
     go_wp2_with (first|((with_reducible refine gate_callee (f:=58) rfl ?_);refine goesL_ (some 60) rfl rfl Try.func58 (by kernel_rfl) rfl #[.int .i64 x6_1,.int .i64 x7_1] rfl (by (try simp only [List.map_toArray,List.map_cons,List.map_nil]);first|done|rfl|(simp only [List.length_drop,List.length_take];rfl)) ?_;(with_reducible refine (impl_fraction.calls k1 x6_1 x7_1 t325 t326 _ A16.out).mono ?_);rintro e w' ⟨rfl,⟨nd,rfl⟩⟩;refine ⟨_,rfl,?_⟩))
     refine bodyPost_ret (results_list (rs:=[.tmp 2,.tmp 3,.tmp 4,.tmp 5]) rfl (by simp) (.tmp (.tmp (.tmp (.tmp .nil))))) rfl ?_
     exact ⟨by first|rfl|(simp [errW_none,errW_some] <;> rfl)|(simp [*,errW_none,errW_some] <;> rfl),by repeat (first|(with_reducible first|exact HB.out|apply zD|apply zE|apply zF)|exact HB.out)⟩
 ·replace c3:=Bool.eq_false_iff.mpr c3
  subst c3
  have H1 : (some (0,0,0,false)) = some (r1,r2,r3,r4):=by rw [if_neg (show ¬ (false = true) by decide)] at H;exact H
  clear H
  have H:=H1
  clear H1
  simp only [Option.some.injEq,Prod.mk.injEq] at H
  obtain ⟨rfl,rfl,rfl,rfl⟩:=H
  go_enter Try.func28,Try.ntmps28
  go_wp2_with (first|((with_reducible refine gate_callee (f:=17) rfl ?_);refine goesL_ (some 13) rfl rfl Try.func17 (by kernel_rfl) rfl #[.slice A0 l0.length c0] rfl (by (try simp only [List.map_toArray,List.map_cons,List.map_nil]);first|done|rfl|(simp only [List.length_drop,List.length_take];rfl)) ?_;(with_reducible refine (impl_IsValidTides.calls k _ _ l0 false _ ?side1 ?side2 A2.out).mono ?_);(case side1=>repeat (first|exact HR0.out|(with_reducible refine zG ?_ _)|(with_reducible refine zH ?_ _)|(with_reducible refine zI ?_)));(case side2=>exact HC0.out);rintro e w17 ⟨rfl,hb⟩;refine ⟨_,rfl,?_⟩;have n0_:=zM (zQ (by repeat (first|(with_reducible first|exact HB.out|apply zD|apply zE|apply zF)|exact HB.out)) hb);clear HB;have HB:=n0_;clear n0_;(try clear hb);(try clear hb2);(try clear hk);(try clear hi)))
  refine bodyPost_ret (results_list (rs:=[.tmp 2,.tmp 3,.tmp 4,.tmp 5]) rfl (by simp) (.tmp (.tmp (.tmp (.tmp .nil))))) rfl ?_
  exact ⟨by first|rfl|(simp [errW_none,errW_some] <;> rfl)|(simp [*,errW_none,errW_some] <;> rfl),by repeat (first|(with_reducible first|exact HB.out|apply zD|apply zE|apply zF)|exact HB.out)⟩

end Go.Proofs.Ytbglkkepfddecaa.G

-- Written by wip/tools/gen.py out of the translation (the kit's printer, one namespace a seat). Lean checks it.
namespace Go.Proofs.Ytbglkkepfddecaa.G
open Go.RowKit Go.Proofs.YtbglkkepfddecaaW.PrintWords Go.Proofs.YtbglkkepfddecaaW.PrintLast Go.Proofs.YtbglkkepfddecaaW.PrintMore
attribute [local go_sem] max2_int min2_int max_two min_two max_three min_three max_four min_four   -- for this text's walks alone
set_option linter.unusedVariables false
set_option linter.unusedSimpArgs false

/-! ### spec_TurningHours: function 29 -/
def spec_TurningHours.l0 : Nat → List (S60) → Bool → List Int → Int → Option (List Int × Bool)
 | 0,_,_,_,_=>none
 | k + 1,x0,x1,x6,x7=>if x7 < (x0.length : Int) then (if x7 = 0 then (if 0 ≤ x7 then (if 1 < (x0.length : Int) then (if ((decide (((rd_T60 x0 x7).f1) > ((rd_T60 x0 1).f1))) == x1) = true then (if x6.length < 17592186044416 then (spec_TurningHours.l0 k x0 x1 (x6 ++ [(rd_T60 x0 x7).f0]) (wrap64 (x7 + 1))) else (none)) else (spec_TurningHours.l0 k x0 x1 x6 (wrap64 (x7 + 1)))) else (none)) else (none)) else (if 0 ≤ x7 then (if 0 ≤ (wrap64 (x7 - 1)) then (if (wrap64 (x7 - 1)) < (x0.length : Int) then (if ((decide (((rd_T60 x0 x7).f1) > ((rd_T60 x0 (wrap64 (x7 - 1))).f1))) == x1) = true then (if x6.length < 17592186044416 then (spec_TurningHours.l0 k x0 x1 (x6 ++ [(rd_T60 x0 x7).f0]) (wrap64 (x7 + 1))) else (none)) else (spec_TurningHours.l0 k x0 x1 x6 (wrap64 (x7 + 1)))) else (none)) else (none)) else (none))) else (some (x6,true))
def spec_TurningHours.f (k : Nat) (l0 : List (S60)) (a1 : Bool) : Option (List Int × Bool):=(some (([] : List Int) : List Int)).bind fun y346=>((spec_l15Good.f k l0).bind fun t349=>(if t349 = true then (spec_TurningHours.l0 k l0 a1 y346 0) else (some (y346,false))))
set_option maxHeartbeats 8000000 in
set_option maxRecDepth 100000 in
theorem spec_TurningHours.calls (k : Nat) (A0 : Option Addr) (c0 : Nat) (l0 : List (S60)) (a1 : Bool) (r1 : List Int) (r2 : Bool) (w : World) (hr0 : Kd.C k60 w A0 l0.length l0) (hc0 : l0.length ≤ c0) (h : spec_TurningHours.f k l0 a1 = some (r1,r2)) :
  Calls Try.prog 29 #[.slice A0 l0.length c0,.bool a1] w fun e w' => ∃ v0_ : Value,e = .returned (.tuple #[v0_,.bool r2]) ∧ Kd.R (Kd.int .i64) 3 w' w.heap.size (fun _=>True) v0_ r1 ∧ Below w.heap.size w w':=by
 have HR0:=zM hr0
 have HC0:=zM hc0
 clear hr0 hc0
 have HB:=zM (Below.refl w.heap.size w)
 have H : ((some (([] : List Int) : List Int)).bind fun y346=>((spec_l15Good.f k l0).bind fun t349=>(if t349 = true then (spec_TurningHours.l0 k l0 a1 y346 0) else (some (y346,false))))) = some (r1,r2):=h
 clear h
 obtain ⟨y346,hy346⟩ : ∃ y_ : List Int,y_ = (([] : List Int)):=⟨_,rfl⟩
 replace H : ((spec_l15Good.f k l0).bind fun t349=>(if t349 = true then (spec_TurningHours.l0 k l0 a1 y346 0) else (some (y346,false)))) = some (r1,r2):=by first|(rw [hy346];with_reducible exact H)|(have H2_:=(Option.bind_some _ _).symm.trans H;rw [hy346];with_reducible exact H2_)|(have H2_:=(Option.bind_some _ _).symm.trans H;with_reducible exact H2_)|with_reducible exact H|(rw [hy346];exact H)|exact H
 have Ny346:=zM hy346
 clear hy346
 replace H:=Option.bind_eq_some_iff.mp H
 obtain ⟨t349,A30,H⟩:=H
 replace H : (if t349 = true then (spec_TurningHours.l0 k l0 a1 y346 0) else (some (y346,false))) = some (r1,r2):=H
 have A3:=zM A30
 clear A30
 by_cases c4 : t349 = true
 ·subst c4
  have H1 : (spec_TurningHours.l0 k l0 a1 y346 0) = some (r1,r2):=by rw [if_pos rfl] at H;exact H
  clear H
  have H:=H1
  clear H1
  have H':=zM H
  clear H
  go_enter Try.func29,Try.ntmps29
  go_wp2_with (first|((with_reducible refine gate_dst (N:=9) rfl ?_);refine Kd.R_lit (Kd.int .i64) _ 3 ?hg (N:=9) ?hd (xs:=([] : List Int)) (inner:=[]) (ok:=fun _=>True) (okp:=fun _=>True) ?hr ?hp (fun _ hk=>hk) trivial (Below.refl _ _) (Nat.le_refl _) (by simp) ?_;(case hd=>rfl);(case hg=>rfl);(case hr=>first|(go_simp;done)|(go_simp;rfl));(case hp=>exact (Reps.none _ _));intro v347 w5 ho6 hb hg_ hnew_;clear hg_ hnew_;(first|rw [← Ny346.out] at ho6|(simp only [Int.reduceToNat] at ho6;rw [← Ny346.out] at ho6));have n0_:=zM (Kd.R_lower ho6 (zR (by repeat (first|(with_reducible first|exact HB.out|apply zD|apply zE|apply zF)|exact HB.out))));have n1_:=zM (zQ (by repeat (first|(with_reducible first|exact HB.out|apply zD|apply zE|apply zF)|exact HB.out)) hb);clear HB;have HO348:=n0_;have HB:=n1_;clear n0_ n1_;clear hb ho6)|(go_at_call 52;(with_reducible refine (spec_l15Good.calls k _ _ l0 true _ ?side1 ?side2 A3.out).mono ?_);(case side1=>repeat (first|exact (zO HR0.out HB.out)|(with_reducible refine zG ?_ _)|(with_reducible refine zH ?_ _)|(with_reducible refine zI ?_)));(case side2=>exact HC0.out);rintro e w' ⟨rfl,⟨nd,rfl⟩⟩;(try first|exact ⟨rfl,_,World.drewN_drewN _ _ _⟩|exact ⟨rfl,_,Eq.trans (World.drewN_drewN _ _ _) (congrArg (World.drewN _) (Nat.add_assoc _ _ _))⟩)))
  repeat (go_quiet (first|((with_reducible refine gate_dst (N:=9) rfl ?_);refine Kd.R_lit (Kd.int .i64) _ 3 ?hg (N:=9) ?hd (xs:=([] : List Int)) (inner:=[]) (ok:=fun _=>True) (okp:=fun _=>True) ?hr ?hp (fun _ hk=>hk) trivial (Below.refl _ _) (Nat.le_refl _) (by simp) ?_;(case hd=>rfl);(case hg=>rfl);(case hr=>first|(go_simp;done)|(go_simp;rfl));(case hp=>exact (Reps.none _ _));intro v347 w5 ho6 hb hg_ hnew_;clear hg_ hnew_;(first|rw [← Ny346.out] at ho6|(simp only [Int.reduceToNat] at ho6;rw [← Ny346.out] at ho6));have n0_:=zM (Kd.R_lower ho6 (zR (by repeat (first|(with_reducible first|exact HB.out|apply zD|apply zE|apply zF)|exact HB.out))));have n1_:=zM (zQ (by repeat (first|(with_reducible first|exact HB.out|apply zD|apply zE|apply zF)|exact HB.out)) hb);clear HB;have HO348:=n0_;have HB:=n1_;clear n0_ n1_;clear hb ho6)|(go_at_call 52;(with_reducible refine (spec_l15Good.calls k _ _ l0 true _ ?side1 ?side2 A3.out).mono ?_);(case side1=>repeat (first|exact (zO HR0.out HB.out)|(with_reducible refine zG ?_ _)|(with_reducible refine zH ?_ _)|(with_reducible refine zI ?_)));(case side2=>exact HC0.out);rintro e w' ⟨rfl,⟨nd,rfl⟩⟩;(try first|exact ⟨rfl,_,World.drewN_drewN _ _ _⟩|exact ⟨rfl,_,Eq.trans (World.drewN_drewN _ _ _) (congrArg (World.drewN _) (Nat.add_assoc _ _ _))⟩)));try go_wp2_with (first|((with_reducible refine gate_dst (N:=9) rfl ?_);refine Kd.R_lit (Kd.int .i64) _ 3 ?hg (N:=9) ?hd (xs:=([] : List Int)) (inner:=[]) (ok:=fun _=>True) (okp:=fun _=>True) ?hr ?hp (fun _ hk=>hk) trivial (Below.refl _ _) (Nat.le_refl _) (by simp) ?_;(case hd=>rfl);(case hg=>rfl);(case hr=>first|(go_simp;done)|(go_simp;rfl));(case hp=>exact (Reps.none _ _));intro v347 w5 ho6 hb hg_ hnew_;clear hg_ hnew_;(first|rw [← Ny346.out] at ho6|(simp only [Int.reduceToNat] at ho6;rw [← Ny346.out] at ho6));have n0_:=zM (Kd.R_lower ho6 (zR (by repeat (first|(with_reducible first|exact HB.out|apply zD|apply zE|apply zF)|exact HB.out))));have n1_:=zM (zQ (by repeat (first|(with_reducible first|exact HB.out|apply zD|apply zE|apply zF)|exact HB.out)) hb);clear HB;have HO348:=n0_;have HB:=n1_;clear n0_ n1_;clear hb ho6)|(go_at_call 52;(with_reducible refine (spec_l15Good.calls k _ _ l0 true _ ?side1 ?side2 A3.out).mono ?_);(case side1=>repeat (first|exact (zO HR0.out HB.out)|(with_reducible refine zG ?_ _)|(with_reducible refine zH ?_ _)|(with_reducible refine zI ?_)));(case side2=>exact HC0.out);rintro e w' ⟨rfl,⟨nd,rfl⟩⟩;(try first|exact ⟨rfl,_,World.drewN_drewN _ _ _⟩|exact ⟨rfl,_,Eq.trans (World.drewN_drewN _ _ _) (congrArg (World.drewN _) (Nat.add_assoc _ _ _))⟩))))
  go_loopg [6,7] k (fun kq v6 v7 w' => ∃ (x6_1 : List Int) (x7_1 : Int),v7 = .int .i64 x7_1 ∧ Aside0 (spec_TurningHours.l0 kq l0 a1 x6_1 x7_1 = some (r1,r2)) ∧ Aside0 (kq ≤ k) ∧ Aside0 (Kd.R (Kd.int .i64) 3 w' w.heap.size (fun _=>True) v6 x6_1) ∧ Aside0 (Below w.heap.size w w'))
  case atStart=>exact ⟨(y346),(0),(by first|rfl|(simp;done)|(simp [*];done)),H',⟨Nat.le_refl _⟩,⟨by (with_reducible repeat (first|apply zA|apply zB|apply zC));exact HO348.out⟩,⟨by repeat (first|(with_reducible first|exact HB.out|apply zD|apply zE|apply zF)|exact HB.out)⟩⟩
  case round =>
   clear H'
   try clear c2
   try clear p2
   try clear c4
   obtain ⟨x6_1,x7_1,rfl,HA,HK1,HO_6,HB⟩:=hrel
   cases gk with
   | zero=>exact absurd HA.out (by simp [spec_TurningHours.l0])
   | succ k1 =>
    have H:=HA.out
    clear HA
    simp only [spec_TurningHours.l0] at H
    by_cases c7 : x7_1 < (l0.length : Int)
    ·rw [if_pos c7] at H
     have c7b0 : decide (x7_1 < (l0.length : Int)) = true:=decide_eq_true c7
     clear c7
     by_cases c8 : x7_1 = 0
     ·rw [if_pos c8] at H
      have c8b0 : (x7_1 == 0) = true:=beq_iff_eq.mpr c8
      have c8b1 : (x7_1 != 0) = false:=bne_eq_false_iff_eq.mpr c8
      clear c8
      by_cases c9 : 0 ≤ x7_1
      ·rw [if_pos c9] at H
       have c9b0 : decide (0 ≤ x7_1) = true:=decide_eq_true c9
       clear c9
       by_cases c10 : 1 < (l0.length : Int)
       ·rw [if_pos c10] at H
        have c10b0 : decide (1 < (l0.length : Int)) = true:=decide_eq_true c10
        have c10b1 : decide (1 < l0.length) = true:=decide_eq_true (by omega)
        clear c10
        by_cases c11 : ((decide (((rd_T60 l0 x7_1).f1) > ((rd_T60 l0 1).f1))) == a1) = true
        ·rw [if_pos c11] at H
         have c11b0 : ((decide (((rd_T60 l0 x7_1).f1) > ((rd_T60 l0 1).f1))) == a1) = true:=c11
         (try (have c11b1 : decide ((decide (((rd_T60 l0 x7_1).f1) > ((rd_T60 l0 1).f1))) = a1) = true:=by simpa using c11))
         (try (have c11b2 : ((decide (((rd_T60 l0 x7_1).f1) > ((rd_T60 l0 1).f1))) == a1) = true:=by simpa using c11))
         clear c11
         by_cases c12 : x6_1.length < 17592186044416
         ·rw [if_pos c12] at H
          have LMc12:=zM c12
          clear c12
          obtain ⟨y353,hy353⟩ : ∃ y_ : List Int,y_ = (x6_1 ++ [(rd_T60 l0 x7_1).f0]):=⟨_,rfl⟩
          replace H : (spec_TurningHours.l0 k1 l0 a1 y353 (wrap64 (x7_1 + 1))) = some (r1,r2):=by first|(rw [hy353];with_reducible exact H)|(have H2_:=(Option.bind_some _ _).symm.trans H;rw [hy353];with_reducible exact H2_)|(have H2_:=(Option.bind_some _ _).symm.trans H;with_reducible exact H2_)|with_reducible exact H|(rw [hy353];exact H)|exact H
          have Ny353:=zM hy353
          clear hy353
          have H':=zM H
          clear H
          have p350 : 0 ≤ (x7_1 : Int):=of_decide_eq_true (by first|(with_reducible assumption)|assumption)
          have q350 : x7_1 < (l0.length : Int):=of_decide_eq_true (by first|(with_reducible assumption)|assumption)
          obtain ⟨ad350,e350,hx350_0,hx350_1⟩:=at_T60 HR0.out x7_1 p350 q350
          cases e350
          replace hx350_0:=(HB.out.cell (World.block_lt_of_cell? w _ hx350_0)).trans hx350_0
          replace hx350_1:=(HB.out.cell (World.block_lt_of_cell? w _ hx350_1)).trans hx350_1
          replace p350:=eq_true p350
          replace q350:=eq_true q350
          have p351 : 0 ≤ (1 : Int):=(by omega)
          have q351 : 1 < (l0.length : Int):=of_decide_eq_true (by first|(with_reducible assumption)|assumption)
          obtain ⟨ad351,e351,hx351_0,hx351_1⟩:=at_T60 HR0.out 1 p351 q351
          obtain rfl : ad350 = ad351:=(by injection e351)
          (try simp only [show (1 : Int).toNat = 1 from rfl,Nat.reduceMul,Nat.reduceEqDiff,Go.Addr.add,↓reduceIte] at hx351_0)
          (try simp only [show (1 : Int).toNat = 1 from rfl,Nat.reduceMul,Nat.reduceEqDiff,Go.Addr.add,↓reduceIte] at hx351_1)
          have qi351 : (1 < l0.length) = True:=eq_true (by omega)
          (try rw [show ((1 : Int)).toNat = 1 from rfl] at hx351_0)
          (try rw [show 1 * 2 = 2 from rfl] at hx351_0)
          (try rw [show ((1 : Int)).toNat = 1 from rfl] at hx351_1)
          (try rw [show 1 * 2 = 2 from rfl] at hx351_1)
          replace hx351_0:=(HB.out.cell (World.block_lt_of_cell? w _ hx351_0)).trans hx351_0
          replace hx351_1:=(HB.out.cell (World.block_lt_of_cell? w _ hx351_1)).trans hx351_1
          replace p351:=eq_true p351
          replace q351:=eq_true q351
          have p352 : 0 ≤ (x7_1 : Int):=of_decide_eq_true (by first|(with_reducible assumption)|assumption)
          have q352 : x7_1 < (l0.length : Int):=of_decide_eq_true (by first|(with_reducible assumption)|assumption)
          obtain ⟨ad352,e352,hx352_0,hx352_1⟩:=at_T60 HR0.out x7_1 p352 q352
          obtain rfl : ad350 = ad352:=(by injection e352)
          replace hx352_0:=(HB.out.cell (World.block_lt_of_cell? w _ hx352_0)).trans hx352_0
          replace hx352_1:=(HB.out.cell (World.block_lt_of_cell? w _ hx352_1)).trans hx352_1
          replace p352:=eq_true p352
          replace q352:=eq_true q352
          go_wp2_with (first|((with_reducible refine gate_builtin (b := .append) (xs := #[.tmp 37,.tmp 43]) rfl ?_);at_builtin;refine Kd.R_append (Kd.int .i64) (w0:=w) w.heap.size rfl (.tmp 37) (.tmp 43) 40 3 (.int .i64 0) 8 rfl Try.underlying40 info3 rfl (by decide) (by omega) u6 x6_1 ((rd_T60 l0 x7_1).f0) [.int .i64 ((rd_T60 l0 x7_1).f0)] (fun _=>True) (fun _=>False) rfl rfl ?aP (fun _ hk=>hk.elim) ?aF ?aO ?aB ?aS ?aL ?_;(case aP=>exact rfl);(case aB=>exact (by repeat (first|(with_reducible first|exact HB.out|apply zD|apply zE|apply zF)|exact HB.out)));(case aF=>exact (fun _ _=>trivial));(case aO=>exact (by (with_reducible repeat (first|apply zA|apply zB|apply zC));exact HO_6.out));(case aS=>exact (zR (by repeat (first|(with_reducible first|exact HB.out|apply zD|apply zE|apply zF)|exact HB.out))));(case aL=>have:=LMc12.out;omega);intro v354 w13 ho hb hg hat;rw [← Ny353.out] at ho;have n0_:=zM (hb);have n1_:=zM (ho);clear HB;clear HO_6;have HB:=n0_;have HO355:=n1_;clear n0_ n1_;clear ho hb hg hat))
          repeat (go_quiet (first|((with_reducible refine gate_builtin (b := .append) (xs := #[.tmp 37,.tmp 43]) rfl ?_);at_builtin;refine Kd.R_append (Kd.int .i64) (w0:=w) w.heap.size rfl (.tmp 37) (.tmp 43) 40 3 (.int .i64 0) 8 rfl Try.underlying40 info3 rfl (by decide) (by omega) u6 x6_1 ((rd_T60 l0 x7_1).f0) [.int .i64 ((rd_T60 l0 x7_1).f0)] (fun _=>True) (fun _=>False) rfl rfl ?aP (fun _ hk=>hk.elim) ?aF ?aO ?aB ?aS ?aL ?_;(case aP=>exact rfl);(case aB=>exact (by repeat (first|(with_reducible first|exact HB.out|apply zD|apply zE|apply zF)|exact HB.out)));(case aF=>exact (fun _ _=>trivial));(case aO=>exact (by (with_reducible repeat (first|apply zA|apply zB|apply zC));exact HO_6.out));(case aS=>exact (zR (by repeat (first|(with_reducible first|exact HB.out|apply zD|apply zE|apply zF)|exact HB.out))));(case aL=>have:=LMc12.out;omega);intro v354 w13 ho hb hg hat;rw [← Ny353.out] at ho;have n0_:=zM (hb);have n1_:=zM (ho);clear HB;clear HO_6;have HB:=n0_;have HO355:=n1_;clear n0_ n1_;clear ho hb hg hat));try go_wp2_with (first|((with_reducible refine gate_builtin (b := .append) (xs := #[.tmp 37,.tmp 43]) rfl ?_);at_builtin;refine Kd.R_append (Kd.int .i64) (w0:=w) w.heap.size rfl (.tmp 37) (.tmp 43) 40 3 (.int .i64 0) 8 rfl Try.underlying40 info3 rfl (by decide) (by omega) u6 x6_1 ((rd_T60 l0 x7_1).f0) [.int .i64 ((rd_T60 l0 x7_1).f0)] (fun _=>True) (fun _=>False) rfl rfl ?aP (fun _ hk=>hk.elim) ?aF ?aO ?aB ?aS ?aL ?_;(case aP=>exact rfl);(case aB=>exact (by repeat (first|(with_reducible first|exact HB.out|apply zD|apply zE|apply zF)|exact HB.out)));(case aF=>exact (fun _ _=>trivial));(case aO=>exact (by (with_reducible repeat (first|apply zA|apply zB|apply zC));exact HO_6.out));(case aS=>exact (zR (by repeat (first|(with_reducible first|exact HB.out|apply zD|apply zE|apply zF)|exact HB.out))));(case aL=>have:=LMc12.out;omega);intro v354 w13 ho hb hg hat;rw [← Ny353.out] at ho;have n0_:=zM (hb);have n1_:=zM (ho);clear HB;clear HO_6;have HB:=n0_;have HO355:=n1_;clear n0_ n1_;clear ho hb hg hat)))
          go_roundg k1
          case measure=>have:=HK1.out;omega
          case rel=>exact ⟨(y353),(wrap64 (x7_1 + 1)),(by first|rfl|(simp;done)|(simp [*];done)),H',⟨by have:=HK1.out;omega⟩,⟨by (with_reducible repeat (first|apply zA|apply zB|apply zC));exact HO355.out⟩,⟨by repeat (first|(with_reducible first|exact HB.out|apply zD|apply zE|apply zF)|exact HB.out)⟩⟩
         ·rw [if_neg c12] at H
          exact absurd H (by simp)
        ·rw [if_neg c11] at H
         have c11b0 : ((decide (((rd_T60 l0 x7_1).f1) > ((rd_T60 l0 1).f1))) == a1) = false:=by simpa using c11
         (try (have c11b1 : decide ((decide (((rd_T60 l0 x7_1).f1) > ((rd_T60 l0 1).f1))) = a1) = false:=by simpa using c11))
         (try (have c11b2 : ((decide (((rd_T60 l0 x7_1).f1) > ((rd_T60 l0 1).f1))) == a1) = false:=by simpa using c11))
         (try (have c11b3 : ¬ ((decide (((rd_T60 l0 x7_1).f1) > ((rd_T60 l0 1).f1))) = a1):=by simpa using c11))
         clear c11
         have H':=zM H
         clear H
         have p350 : 0 ≤ (x7_1 : Int):=of_decide_eq_true (by first|(with_reducible assumption)|assumption)
         have q350 : x7_1 < (l0.length : Int):=of_decide_eq_true (by first|(with_reducible assumption)|assumption)
         obtain ⟨ad350,e350,hx350_0,hx350_1⟩:=at_T60 HR0.out x7_1 p350 q350
         cases e350
         replace hx350_0:=(HB.out.cell (World.block_lt_of_cell? w _ hx350_0)).trans hx350_0
         replace hx350_1:=(HB.out.cell (World.block_lt_of_cell? w _ hx350_1)).trans hx350_1
         replace p350:=eq_true p350
         replace q350:=eq_true q350
         have p351 : 0 ≤ (1 : Int):=(by omega)
         have q351 : 1 < (l0.length : Int):=of_decide_eq_true (by first|(with_reducible assumption)|assumption)
         obtain ⟨ad351,e351,hx351_0,hx351_1⟩:=at_T60 HR0.out 1 p351 q351
         obtain rfl : ad350 = ad351:=(by injection e351)
         (try simp only [show (1 : Int).toNat = 1 from rfl,Nat.reduceMul,Nat.reduceEqDiff,Go.Addr.add,↓reduceIte] at hx351_0)
         (try simp only [show (1 : Int).toNat = 1 from rfl,Nat.reduceMul,Nat.reduceEqDiff,Go.Addr.add,↓reduceIte] at hx351_1)
         have qi351 : (1 < l0.length) = True:=eq_true (by omega)
         (try rw [show ((1 : Int)).toNat = 1 from rfl] at hx351_0)
         (try rw [show 1 * 2 = 2 from rfl] at hx351_0)
         (try rw [show ((1 : Int)).toNat = 1 from rfl] at hx351_1)
         (try rw [show 1 * 2 = 2 from rfl] at hx351_1)
         replace hx351_0:=(HB.out.cell (World.block_lt_of_cell? w _ hx351_0)).trans hx351_0
         replace hx351_1:=(HB.out.cell (World.block_lt_of_cell? w _ hx351_1)).trans hx351_1
         replace p351:=eq_true p351
         replace q351:=eq_true q351
         go_wp2
         repeat (go_quiet (fail);try go_wp2)
         go_roundg k1
         case measure=>have:=HK1.out;omega
         case rel=>exact ⟨(x6_1),(wrap64 (x7_1 + 1)),(by first|rfl|(simp;done)|(simp [*];done)),H',⟨by have:=HK1.out;omega⟩,⟨by (with_reducible repeat (first|apply zA|apply zB|apply zC));exact HO_6.out⟩,⟨by repeat (first|(with_reducible first|exact HB.out|apply zD|apply zE|apply zF)|exact HB.out)⟩⟩
       ·rw [if_neg c10] at H
        exact absurd H (by simp)
      ·rw [if_neg c9] at H
       exact absurd H (by simp)
     ·rw [if_neg c8] at H
      have c8b0 : (x7_1 == 0) = false:=beq_eq_false_iff_ne.mpr c8
      have c8b1 : (x7_1 != 0) = true:=bne_iff_ne.mpr c8
      by_cases c14 : 0 ≤ x7_1
      ·rw [if_pos c14] at H
       have c14b0 : decide (0 ≤ x7_1) = true:=decide_eq_true c14
       clear c14
       obtain ⟨ji15,hji15⟩ : ∃ j_ : Int,(wrap64 (x7_1 - 1)) = j_:=⟨_,rfl⟩
       replace H : (if 0 ≤ (ji15) then (if (ji15) < (l0.length : Int) then (if ((decide (((rd_T60 l0 x7_1).f1) > ((rd_T60 l0 (ji15)).f1))) == a1) = true then (if x6_1.length < 17592186044416 then (spec_TurningHours.l0 k1 l0 a1 (x6_1 ++ [(rd_T60 l0 x7_1).f0]) (wrap64 (x7_1 + 1))) else (none)) else (spec_TurningHours.l0 k1 l0 a1 x6_1 (wrap64 (x7_1 + 1)))) else (none)) else (none)) = some (r1,r2):=by first|(rw [hji15] at H;exact H)|(simp only [hji15] at H ⊢;exact H)
       have hji15w : (IntKind.i64.wrap (x7_1 - 1)) = ji15:=(i64_w _).trans hji15
       by_cases c16 : 0 ≤ (ji15)
       ·rw [if_pos c16] at H
        have c16b0 : decide (0 ≤ (ji15)) = true:=decide_eq_true c16
        clear c16
        by_cases c17 : (ji15) < (l0.length : Int)
        ·rw [if_pos c17] at H
         have c17b0 : decide ((ji15) < (l0.length : Int)) = true:=decide_eq_true c17
         clear c17
         by_cases c18 : ((decide (((rd_T60 l0 x7_1).f1) > ((rd_T60 l0 (ji15)).f1))) == a1) = true
         ·rw [if_pos c18] at H
          have c18b0 : ((decide (((rd_T60 l0 x7_1).f1) > ((rd_T60 l0 (ji15)).f1))) == a1) = true:=c18
          (try (have c18b1 : decide ((decide (((rd_T60 l0 x7_1).f1) > ((rd_T60 l0 (ji15)).f1))) = a1) = true:=by simpa using c18))
          (try (have c18b2 : ((decide (((rd_T60 l0 x7_1).f1) > ((rd_T60 l0 (ji15)).f1))) == a1) = true:=by simpa using c18))
          clear c18
          by_cases c19 : x6_1.length < 17592186044416
          ·rw [if_pos c19] at H
           have LMc19:=zM c19
           clear c19
           obtain ⟨y359,hy359⟩ : ∃ y_ : List Int,y_ = (x6_1 ++ [(rd_T60 l0 x7_1).f0]):=⟨_,rfl⟩
           replace H : (spec_TurningHours.l0 k1 l0 a1 y359 (wrap64 (x7_1 + 1))) = some (r1,r2):=by first|(rw [hy359];with_reducible exact H)|(have H2_:=(Option.bind_some _ _).symm.trans H;rw [hy359];with_reducible exact H2_)|(have H2_:=(Option.bind_some _ _).symm.trans H;with_reducible exact H2_)|with_reducible exact H|(rw [hy359];exact H)|exact H
           have Ny359:=zM hy359
           clear hy359
           have H':=zM H
           clear H
           have p356 : 0 ≤ (x7_1 : Int):=of_decide_eq_true (by first|(with_reducible assumption)|assumption)
           have q356 : x7_1 < (l0.length : Int):=of_decide_eq_true (by first|(with_reducible assumption)|assumption)
           obtain ⟨ad356,e356,hx356_0,hx356_1⟩:=at_T60 HR0.out x7_1 p356 q356
           cases e356
           replace hx356_0:=(HB.out.cell (World.block_lt_of_cell? w _ hx356_0)).trans hx356_0
           replace hx356_1:=(HB.out.cell (World.block_lt_of_cell? w _ hx356_1)).trans hx356_1
           replace p356:=eq_true p356
           replace q356:=eq_true q356
           have p357 : 0 ≤ ((ji15) : Int):=of_decide_eq_true (by first|(with_reducible assumption)|assumption)
           have q357 : (ji15) < (l0.length : Int):=of_decide_eq_true (by first|(with_reducible assumption)|assumption)
           obtain ⟨ad357,e357,hx357_0,hx357_1⟩:=at_T60 HR0.out (ji15) p357 q357
           obtain rfl : ad356 = ad357:=(by injection e357)
           replace hx357_0:=(HB.out.cell (World.block_lt_of_cell? w _ hx357_0)).trans hx357_0
           replace hx357_1:=(HB.out.cell (World.block_lt_of_cell? w _ hx357_1)).trans hx357_1
           replace p357:=eq_true p357
           replace q357:=eq_true q357
           have p358 : 0 ≤ (x7_1 : Int):=of_decide_eq_true (by first|(with_reducible assumption)|assumption)
           have q358 : x7_1 < (l0.length : Int):=of_decide_eq_true (by first|(with_reducible assumption)|assumption)
           obtain ⟨ad358,e358,hx358_0,hx358_1⟩:=at_T60 HR0.out x7_1 p358 q358
           obtain rfl : ad356 = ad358:=(by injection e358)
           replace hx358_0:=(HB.out.cell (World.block_lt_of_cell? w _ hx358_0)).trans hx358_0
           replace hx358_1:=(HB.out.cell (World.block_lt_of_cell? w _ hx358_1)).trans hx358_1
           replace p358:=eq_true p358
           replace q358:=eq_true q358
           go_wp2_with (first|((with_reducible refine gate_builtin (b := .append) (xs := #[.tmp 37,.tmp 43]) rfl ?_);at_builtin;refine Kd.R_append (Kd.int .i64) (w0:=w) w.heap.size rfl (.tmp 37) (.tmp 43) 40 3 (.int .i64 0) 8 rfl Try.underlying40 info3 rfl (by decide) (by omega) u6 x6_1 ((rd_T60 l0 x7_1).f0) [.int .i64 ((rd_T60 l0 x7_1).f0)] (fun _=>True) (fun _=>False) rfl rfl ?aP (fun _ hk=>hk.elim) ?aF ?aO ?aB ?aS ?aL ?_;(case aP=>exact rfl);(case aB=>exact (by repeat (first|(with_reducible first|exact HB.out|apply zD|apply zE|apply zF)|exact HB.out)));(case aF=>exact (fun _ _=>trivial));(case aO=>exact (by (with_reducible repeat (first|apply zA|apply zB|apply zC));exact HO_6.out));(case aS=>exact (zR (by repeat (first|(with_reducible first|exact HB.out|apply zD|apply zE|apply zF)|exact HB.out))));(case aL=>have:=LMc19.out;omega);intro v360 w20 ho hb hg hat;rw [← Ny359.out] at ho;have n0_:=zM (hb);have n1_:=zM (ho);clear HB;clear HO_6;have HB:=n0_;have HO361:=n1_;clear n0_ n1_;clear ho hb hg hat))
           repeat (go_quiet (first|((with_reducible refine gate_builtin (b := .append) (xs := #[.tmp 37,.tmp 43]) rfl ?_);at_builtin;refine Kd.R_append (Kd.int .i64) (w0:=w) w.heap.size rfl (.tmp 37) (.tmp 43) 40 3 (.int .i64 0) 8 rfl Try.underlying40 info3 rfl (by decide) (by omega) u6 x6_1 ((rd_T60 l0 x7_1).f0) [.int .i64 ((rd_T60 l0 x7_1).f0)] (fun _=>True) (fun _=>False) rfl rfl ?aP (fun _ hk=>hk.elim) ?aF ?aO ?aB ?aS ?aL ?_;(case aP=>exact rfl);(case aB=>exact (by repeat (first|(with_reducible first|exact HB.out|apply zD|apply zE|apply zF)|exact HB.out)));(case aF=>exact (fun _ _=>trivial));(case aO=>exact (by (with_reducible repeat (first|apply zA|apply zB|apply zC));exact HO_6.out));(case aS=>exact (zR (by repeat (first|(with_reducible first|exact HB.out|apply zD|apply zE|apply zF)|exact HB.out))));(case aL=>have:=LMc19.out;omega);intro v360 w20 ho hb hg hat;rw [← Ny359.out] at ho;have n0_:=zM (hb);have n1_:=zM (ho);clear HB;clear HO_6;have HB:=n0_;have HO361:=n1_;clear n0_ n1_;clear ho hb hg hat));try go_wp2_with (first|((with_reducible refine gate_builtin (b := .append) (xs := #[.tmp 37,.tmp 43]) rfl ?_);at_builtin;refine Kd.R_append (Kd.int .i64) (w0:=w) w.heap.size rfl (.tmp 37) (.tmp 43) 40 3 (.int .i64 0) 8 rfl Try.underlying40 info3 rfl (by decide) (by omega) u6 x6_1 ((rd_T60 l0 x7_1).f0) [.int .i64 ((rd_T60 l0 x7_1).f0)] (fun _=>True) (fun _=>False) rfl rfl ?aP (fun _ hk=>hk.elim) ?aF ?aO ?aB ?aS ?aL ?_;(case aP=>exact rfl);(case aB=>exact (by repeat (first|(with_reducible first|exact HB.out|apply zD|apply zE|apply zF)|exact HB.out)));(case aF=>exact (fun _ _=>trivial));(case aO=>exact (by (with_reducible repeat (first|apply zA|apply zB|apply zC));exact HO_6.out));(case aS=>exact (zR (by repeat (first|(with_reducible first|exact HB.out|apply zD|apply zE|apply zF)|exact HB.out))));(case aL=>have:=LMc19.out;omega);intro v360 w20 ho hb hg hat;rw [← Ny359.out] at ho;have n0_:=zM (hb);have n1_:=zM (ho);clear HB;clear HO_6;have HB:=n0_;have HO361:=n1_;clear n0_ n1_;clear ho hb hg hat)))
           go_roundg k1
           case measure=>have:=HK1.out;omega
           case rel=>exact ⟨(y359),(wrap64 (x7_1 + 1)),(by first|rfl|(simp;done)|(simp [*];done)),H',⟨by have:=HK1.out;omega⟩,⟨by (with_reducible repeat (first|apply zA|apply zB|apply zC));exact HO361.out⟩,⟨by repeat (first|(with_reducible first|exact HB.out|apply zD|apply zE|apply zF)|exact HB.out)⟩⟩
          ·rw [if_neg c19] at H
           exact absurd H (by simp)
         ·rw [if_neg c18] at H
          have c18b0 : ((decide (((rd_T60 l0 x7_1).f1) > ((rd_T60 l0 (ji15)).f1))) == a1) = false:=by simpa using c18
          (try (have c18b1 : decide ((decide (((rd_T60 l0 x7_1).f1) > ((rd_T60 l0 (ji15)).f1))) = a1) = false:=by simpa using c18))
          (try (have c18b2 : ((decide (((rd_T60 l0 x7_1).f1) > ((rd_T60 l0 (ji15)).f1))) == a1) = false:=by simpa using c18))
          (try (have c18b3 : ¬ ((decide (((rd_T60 l0 x7_1).f1) > ((rd_T60 l0 (ji15)).f1))) = a1):=by simpa using c18))
          clear c18
          have H':=zM H
          clear H
          have p356 : 0 ≤ (x7_1 : Int):=of_decide_eq_true (by first|(with_reducible assumption)|assumption)
          have q356 : x7_1 < (l0.length : Int):=of_decide_eq_true (by first|(with_reducible assumption)|assumption)
          obtain ⟨ad356,e356,hx356_0,hx356_1⟩:=at_T60 HR0.out x7_1 p356 q356
          cases e356
          replace hx356_0:=(HB.out.cell (World.block_lt_of_cell? w _ hx356_0)).trans hx356_0
          replace hx356_1:=(HB.out.cell (World.block_lt_of_cell? w _ hx356_1)).trans hx356_1
          replace p356:=eq_true p356
          replace q356:=eq_true q356
          have p357 : 0 ≤ ((ji15) : Int):=of_decide_eq_true (by first|(with_reducible assumption)|assumption)
          have q357 : (ji15) < (l0.length : Int):=of_decide_eq_true (by first|(with_reducible assumption)|assumption)
          obtain ⟨ad357,e357,hx357_0,hx357_1⟩:=at_T60 HR0.out (ji15) p357 q357
          obtain rfl : ad356 = ad357:=(by injection e357)
          replace hx357_0:=(HB.out.cell (World.block_lt_of_cell? w _ hx357_0)).trans hx357_0
          replace hx357_1:=(HB.out.cell (World.block_lt_of_cell? w _ hx357_1)).trans hx357_1
          replace p357:=eq_true p357
          replace q357:=eq_true q357
          go_wp2
          repeat (go_quiet (fail);try go_wp2)
          go_roundg k1
          case measure=>have:=HK1.out;omega
          case rel=>exact ⟨(x6_1),(wrap64 (x7_1 + 1)),(by first|rfl|(simp;done)|(simp [*];done)),H',⟨by have:=HK1.out;omega⟩,⟨by (with_reducible repeat (first|apply zA|apply zB|apply zC));exact HO_6.out⟩,⟨by repeat (first|(with_reducible first|exact HB.out|apply zD|apply zE|apply zF)|exact HB.out)⟩⟩
        ·rw [if_neg c17] at H
         exact absurd H (by simp)
       ·rw [if_neg c16] at H
        exact absurd H (by simp)
      ·rw [if_neg c14] at H
       exact absurd H (by simp)
    ·rw [if_neg c7] at H
     have c7b0 : decide (x7_1 < (l0.length : Int)) = false:=decide_eq_false c7
     clear c7
     simp only [Option.some.injEq,Prod.mk.injEq] at H
     obtain ⟨rfl,rfl⟩:=H
     go_wp2
     repeat (go_quiet (fail);try go_wp2)
     go_ret2
     exact ⟨_,by first|rfl|(simp [errW_none,errW_some] <;> rfl)|(simp [*,errW_none,errW_some] <;> rfl),by (with_reducible repeat (first|apply zA|apply zB|apply zC));exact HO_6.out,by repeat (first|(with_reducible first|exact HB.out|apply zD|apply zE|apply zF)|exact HB.out)⟩
 ·replace c4:=Bool.eq_false_iff.mpr c4
  subst c4
  have H1 : (some (y346,false)) = some (r1,r2):=by rw [if_neg (show ¬ (false = true) by decide)] at H;exact H
  clear H
  have H:=H1
  clear H1
  simp only [Option.some.injEq,Prod.mk.injEq] at H
  obtain ⟨rfl,rfl⟩:=H
  go_enter Try.func29,Try.ntmps29
  go_wp2_with (first|((with_reducible refine gate_dst (N:=9) rfl ?_);refine Kd.R_lit (Kd.int .i64) _ 3 ?hg (N:=9) ?hd (xs:=([] : List Int)) (inner:=[]) (ok:=fun _=>True) (okp:=fun _=>True) ?hr ?hp (fun _ hk=>hk) trivial (Below.refl _ _) (Nat.le_refl _) (by simp) ?_;(case hd=>rfl);(case hg=>rfl);(case hr=>first|(go_simp;done)|(go_simp;rfl));(case hp=>exact (Reps.none _ _));intro v347 w21 ho22 hb hg_ hnew_;clear hg_ hnew_;(first|rw [← Ny346.out] at ho22|(simp only [Int.reduceToNat] at ho22;rw [← Ny346.out] at ho22));have n0_:=zM (Kd.R_lower ho22 (zR (by repeat (first|(with_reducible first|exact HB.out|apply zD|apply zE|apply zF)|exact HB.out))));have n1_:=zM (zQ (by repeat (first|(with_reducible first|exact HB.out|apply zD|apply zE|apply zF)|exact HB.out)) hb);clear HB;have HO348:=n0_;have HB:=n1_;clear n0_ n1_;clear hb ho22)|(go_at_call 52;(with_reducible refine (spec_l15Good.calls k _ _ l0 false _ ?side1 ?side2 A3.out).mono ?_);(case side1=>repeat (first|exact (zO HR0.out HB.out)|(with_reducible refine zG ?_ _)|(with_reducible refine zH ?_ _)|(with_reducible refine zI ?_)));(case side2=>exact HC0.out);rintro e w' ⟨rfl,⟨nd,rfl⟩⟩;(try first|exact ⟨rfl,_,World.drewN_drewN _ _ _⟩|exact ⟨rfl,_,Eq.trans (World.drewN_drewN _ _ _) (congrArg (World.drewN _) (Nat.add_assoc _ _ _))⟩)))
  repeat (go_quiet (first|((with_reducible refine gate_dst (N:=9) rfl ?_);refine Kd.R_lit (Kd.int .i64) _ 3 ?hg (N:=9) ?hd (xs:=([] : List Int)) (inner:=[]) (ok:=fun _=>True) (okp:=fun _=>True) ?hr ?hp (fun _ hk=>hk) trivial (Below.refl _ _) (Nat.le_refl _) (by simp) ?_;(case hd=>rfl);(case hg=>rfl);(case hr=>first|(go_simp;done)|(go_simp;rfl));(case hp=>exact (Reps.none _ _));intro v347 w21 ho22 hb hg_ hnew_;clear hg_ hnew_;(first|rw [← Ny346.out] at ho22|(simp only [Int.reduceToNat] at ho22;rw [← Ny346.out] at ho22));have n0_:=zM (Kd.R_lower ho22 (zR (by repeat (first|(with_reducible first|exact HB.out|apply zD|apply zE|apply zF)|exact HB.out))));have n1_:=zM (zQ (by repeat (first|(with_reducible first|exact HB.out|apply zD|apply zE|apply zF)|exact HB.out)) hb);clear HB;have HO348:=n0_;have HB:=n1_;clear n0_ n1_;clear hb ho22)|(go_at_call 52;(with_reducible refine (spec_l15Good.calls k _ _ l0 false _ ?side1 ?side2 A3.out).mono ?_);(case side1=>repeat (first|exact (zO HR0.out HB.out)|(with_reducible refine zG ?_ _)|(with_reducible refine zH ?_ _)|(with_reducible refine zI ?_)));(case side2=>exact HC0.out);rintro e w' ⟨rfl,⟨nd,rfl⟩⟩;(try first|exact ⟨rfl,_,World.drewN_drewN _ _ _⟩|exact ⟨rfl,_,Eq.trans (World.drewN_drewN _ _ _) (congrArg (World.drewN _) (Nat.add_assoc _ _ _))⟩)));try go_wp2_with (first|((with_reducible refine gate_dst (N:=9) rfl ?_);refine Kd.R_lit (Kd.int .i64) _ 3 ?hg (N:=9) ?hd (xs:=([] : List Int)) (inner:=[]) (ok:=fun _=>True) (okp:=fun _=>True) ?hr ?hp (fun _ hk=>hk) trivial (Below.refl _ _) (Nat.le_refl _) (by simp) ?_;(case hd=>rfl);(case hg=>rfl);(case hr=>first|(go_simp;done)|(go_simp;rfl));(case hp=>exact (Reps.none _ _));intro v347 w21 ho22 hb hg_ hnew_;clear hg_ hnew_;(first|rw [← Ny346.out] at ho22|(simp only [Int.reduceToNat] at ho22;rw [← Ny346.out] at ho22));have n0_:=zM (Kd.R_lower ho22 (zR (by repeat (first|(with_reducible first|exact HB.out|apply zD|apply zE|apply zF)|exact HB.out))));have n1_:=zM (zQ (by repeat (first|(with_reducible first|exact HB.out|apply zD|apply zE|apply zF)|exact HB.out)) hb);clear HB;have HO348:=n0_;have HB:=n1_;clear n0_ n1_;clear hb ho22)|(go_at_call 52;(with_reducible refine (spec_l15Good.calls k _ _ l0 false _ ?side1 ?side2 A3.out).mono ?_);(case side1=>repeat (first|exact (zO HR0.out HB.out)|(with_reducible refine zG ?_ _)|(with_reducible refine zH ?_ _)|(with_reducible refine zI ?_)));(case side2=>exact HC0.out);rintro e w' ⟨rfl,⟨nd,rfl⟩⟩;(try first|exact ⟨rfl,_,World.drewN_drewN _ _ _⟩|exact ⟨rfl,_,Eq.trans (World.drewN_drewN _ _ _) (congrArg (World.drewN _) (Nat.add_assoc _ _ _))⟩))))
  go_ret2
  exact ⟨_,by first|rfl|(simp [errW_none,errW_some] <;> rfl)|(simp [*,errW_none,errW_some] <;> rfl),by (with_reducible repeat (first|apply zA|apply zB|apply zC));exact HO348.out,by repeat (first|(with_reducible first|exact HB.out|apply zD|apply zE|apply zF)|exact HB.out)⟩

end Go.Proofs.Ytbglkkepfddecaa.G

-- Written by wip/tools/gen.py out of the translation (the kit's printer, one namespace a seat). Lean checks it.
namespace Go.Proofs.Ytbglkkepfddecaa.G
open Go.RowKit Go.Proofs.YtbglkkepfddecaaW.PrintWords Go.Proofs.YtbglkkepfddecaaW.PrintLast Go.Proofs.YtbglkkepfddecaaW.PrintMore
attribute [local go_sem] max2_int min2_int max_two min_two max_three min_three max_four min_four   -- for this text's walks alone
set_option linter.unusedVariables false
set_option linter.unusedSimpArgs false

theorem impl_TurningHours.set_same (w : World) (g o : Nat) (v v' : Value) : (w.setCell ⟨g,o,none⟩ v).setCell ⟨g,o,none⟩ v' = w.setCell ⟨g,o,none⟩ v':=by
 have h : ∀ (x : Array Obj) (i : Nat) (f f' : Obj → Obj),(x.modify i f).modify i f' = x.modify i (f' ∘ f):=by
  intro x i f f'
  apply Array.ext
  ·simp
  ·intro j h1 h2
   simp only [Array.getElem_modify]
   by_cases e : i = j <;> simp [e]
 unfold World.setCell
 simp only [h]
 congr 2
 funext o'
 cases o' <;> simp [Array.setIfInBounds_setIfInBounds]
theorem impl_TurningHours.set_back (w : World) (g : Nat) (a b c : Value) : ((w.setCell ⟨g,0,none⟩ a).setCell ⟨g,1,none⟩ b).setCell ⟨g,0,none⟩ c = (w.setCell ⟨g,0,none⟩ c).setCell ⟨g,1,none⟩ b:=by
 have h : ∀ (x : Array Obj) (i : Nat) (f f' : Obj → Obj),(x.modify i f).modify i f' = x.modify i (f' ∘ f):=by
  intro x i f f'
  apply Array.ext
  ·simp
  ·intro j h1 h2
   simp only [Array.getElem_modify]
   by_cases e : i = j <;> simp [e]
 unfold World.setCell
 simp only [h]
 congr 2
 funext o'
 cases o' with
 | cells cs e fr =>
  simp only [Function.comp,Option.isSome_none,Bool.false_eq_true,if_false]
  rw [Array.setIfInBounds_comm b c (show (1 : Nat) ≠ 0 by omega),Array.setIfInBounds_setIfInBounds]
 | _=>rfl
theorem impl_TurningHours.cell_back (w : World) (g : Nat) (a b c d u : Value) (h : w.cell? ⟨g,1,none⟩ = some u) : ((((w.setCell ⟨g,0,none⟩ a).setCell ⟨g,1,none⟩ b).setCell ⟨g,0,none⟩ c).setCell ⟨g,1,none⟩ d).cell? ⟨g,1,none⟩ = some d:=by
 rw [impl_TurningHours.set_back,impl_TurningHours.set_same]
 simp only [World.cell?,World.setCell,Array.getElem?_modify,if_true] at h ⊢
 cases hb : w.heap[g]? with
 | none=>rw [hb] at h;simp at h
 | some o =>
  rw [hb] at h
  cases o with
  | cells cs e fr =>
   have hl : 1 < cs.size:=by
    apply Classical.byContradiction
    intro hn
    simp at h
    rw [Array.getElem?_eq_none (by omega)] at h
    cases h
   simp [hl]
  | _=>simp at h
attribute [local go_sem] impl_TurningHours.cell_back
/-! ### impl_TurningHours: function 30 -/
def impl_TurningHours.l0 : Nat → List (S60) → Bool → List Int → List (S60) → Int → Int → Option (List Int × Bool)
 | 0,_,_,_,_,_,_=>none
 | k + 1,x0,x1,x6,x14,x15,x16=>if x16 < x15 then (if 0 ≤ x16 then (if x16 < (x14.length : Int) then (if 1 < (x0.length : Int) then (if x16 > 0 then (if 0 ≤ (wrap64 (x16 - 1)) then (if (wrap64 (x16 - 1)) < (x0.length : Int) then (if ((decide (((rd_T60 x14 x16).f1) > ((rd_T60 x0 (wrap64 (x16 - 1))).f1))) == x1) = true then (if x6.length < 17592186044416 then (impl_TurningHours.l0 k x0 x1 (x6 ++ [(rd_T60 x14 x16).f0]) x14 x15 (wrap64 (x16 + 1))) else (none)) else (impl_TurningHours.l0 k x0 x1 x6 x14 x15 (wrap64 (x16 + 1)))) else (none)) else (none)) else (if ((decide (((rd_T60 x14 x16).f1) > ((rd_T60 x0 1).f1))) == x1) = true then (if x6.length < 17592186044416 then (impl_TurningHours.l0 k x0 x1 (x6 ++ [(rd_T60 x14 x16).f0]) x14 x15 (wrap64 (x16 + 1))) else (none)) else (impl_TurningHours.l0 k x0 x1 x6 x14 x15 (wrap64 (x16 + 1))))) else (none)) else (none)) else (none)) else (some (x6,true))
def impl_TurningHours.f (k : Nat) (l0 : List (S60)) (a1 : Bool) : Option (List Int × Bool):=(impl_IsValidTides.f k l0).bind fun t362=>(if t362 = true then (impl_TurningHours.l0 k l0 a1 (([] : List Int)) l0 (l0.length : Int) 0) else (some (([] : List Int),false)))
set_option maxHeartbeats 8000000 in
set_option maxRecDepth 100000 in
theorem impl_TurningHours.calls (k : Nat) (A0 : Option Addr) (c0 : Nat) (l0 : List (S60)) (a1 : Bool) (r1 : List Int) (r2 : Bool) (w : World) (hr0 : Kd.C k60 w A0 l0.length l0) (hc0 : l0.length ≤ c0) (h : impl_TurningHours.f k l0 a1 = some (r1,r2)) :
  Calls Try.prog 30 #[.slice A0 l0.length c0,.bool a1] w fun e w' => ∃ v0_ : Value,e = .returned (.tuple #[v0_,.bool r2]) ∧ Kd.R (Kd.int .i64) 3 w' w.heap.size (fun _=>True) v0_ r1 ∧ Below w.heap.size w w':=by
 have hu60:=Try.underlying60
 have HR0:=zM hr0
 have HC0:=zM hc0
 clear hr0 hc0
 have HB:=zM (Below.refl w.heap.size w)
 have H : ((impl_IsValidTides.f k l0).bind fun t362=>(if t362 = true then (impl_TurningHours.l0 k l0 a1 (([] : List Int)) l0 (l0.length : Int) 0) else (some (([] : List Int),false)))) = some (r1,r2):=h
 clear h
 replace H:=Option.bind_eq_some_iff.mp H
 obtain ⟨t362,A30,H⟩:=H
 replace H : (if t362 = true then (impl_TurningHours.l0 k l0 a1 (([] : List Int)) l0 (l0.length : Int) 0) else (some (([] : List Int),false))) = some (r1,r2):=H
 have A3:=zM A30
 clear A30
 by_cases c4 : t362 = true
 ·subst c4
  have H1 : (impl_TurningHours.l0 k l0 a1 (([] : List Int)) l0 (l0.length : Int) 0) = some (r1,r2):=by rw [if_pos rfl] at H;exact H
  clear H
  have H:=H1
  clear H1
  obtain ⟨y363,hy363⟩ : ∃ y_ : List Int,y_ = (([] : List Int)):=⟨_,rfl⟩
  replace H : (impl_TurningHours.l0 k l0 a1 y363 l0 (l0.length : Int) 0) = some (r1,r2):=by first|(rw [hy363];with_reducible exact H)|(have H2_:=(Option.bind_some _ _).symm.trans H;rw [hy363];with_reducible exact H2_)|(have H2_:=(Option.bind_some _ _).symm.trans H;with_reducible exact H2_)|with_reducible exact H|(rw [hy363];exact H)|exact H
  have Ny363:=zM hy363
  clear hy363
  have H':=zM H
  clear H
  go_enter Try.func30,Try.ntmps30
  go_wp2_with (first|((with_reducible refine gate_callee (f:=17) rfl ?_);refine goesL_ (some 11) rfl rfl Try.func17 (by kernel_rfl) rfl #[.slice A0 l0.length c0] rfl (by (try simp only [List.map_toArray,List.map_cons,List.map_nil]);first|done|rfl|(simp only [List.length_drop,List.length_take];rfl)) ?_;(with_reducible refine (impl_IsValidTides.calls k _ _ l0 true _ ?side1 ?side2 A3.out).mono ?_);(case side1=>repeat (first|exact HR0.out|(with_reducible refine zG ?_ _)|(with_reducible refine zH ?_ _)|(with_reducible refine zI ?_)));(case side2=>exact HC0.out);rintro e w5 ⟨rfl,hb⟩;refine ⟨_,rfl,?_⟩;have n0_:=zM (zQ (by repeat (first|(with_reducible first|exact HB.out|apply zD|apply zE|apply zF)|exact HB.out)) hb);clear HB;have HB:=n0_;clear n0_;(try clear hb);(try clear hb2);(try clear hk);(try clear hi))|((with_reducible refine gate_dst (N:=13) rfl ?_);refine Kd.R_lit (Kd.int .i64) _ 3 ?hg (N:=13) ?hd (xs:=([] : List Int)) (inner:=[]) (ok:=fun _=>True) (okp:=fun _=>True) ?hr ?hp (fun _ hk=>hk) trivial (Below.refl _ _) (Nat.le_refl _) (by simp) ?_;(case hd=>rfl);(case hg=>rfl);(case hr=>first|(go_simp;done)|(go_simp;rfl));(case hp=>exact (Reps.none _ _));intro v364 w6 ho7 hb hg_ hnew_;clear hg_ hnew_;(first|rw [← Ny363.out] at ho7|(simp only [Int.reduceToNat] at ho7;rw [← Ny363.out] at ho7));have n0_:=zM (Kd.R_lower ho7 (zR (by repeat (first|(with_reducible first|exact HB.out|apply zD|apply zE|apply zF)|exact HB.out))));have n1_:=zM (zQ (by repeat (first|(with_reducible first|exact HB.out|apply zD|apply zE|apply zF)|exact HB.out)) hb);clear HB;have HO365:=n0_;have HB:=n1_;clear n0_ n1_;clear hb ho7))
  go_loopg [6,16] k (fun kq v6 v16 w' => ∃ (x6_1 : List Int) (x16_1 : Int),v16 = .int .i64 x16_1 ∧ Aside0 (impl_TurningHours.l0 kq l0 a1 x6_1 l0 (l0.length : Int) x16_1 = some (r1,r2)) ∧ Aside0 (kq ≤ k) ∧ Aside0 (Kd.R (Kd.int .i64) 3 w' w.heap.size (fun _=>True) v6 x6_1) ∧ Aside0 (Below w.heap.size w w'))
  case atStart=>exact ⟨(y363),(0),(by first|rfl|(simp;done)|(simp [*];done)),H',⟨Nat.le_refl _⟩,⟨by (with_reducible repeat (first|apply zA|apply zB|apply zC));exact HO365.out⟩,⟨by repeat (first|(with_reducible first|exact HB.out|apply zD|apply zE|apply zF)|exact HB.out)⟩⟩
  case round =>
   clear H'
   try clear c1
   try clear p2
   try clear c3
   try clear c4
   obtain ⟨x6_1,x16_1,rfl,HA,HK1,HO_6,HB⟩:=hrel
   cases gk with
   | zero=>exact absurd HA.out (by simp [impl_TurningHours.l0])
   | succ k1 =>
    have H:=HA.out
    clear HA
    simp only [impl_TurningHours.l0] at H
    by_cases c8 : x16_1 < (l0.length : Int)
    ·rw [if_pos c8] at H
     have c8b0 : decide (x16_1 < (l0.length : Int)) = true:=decide_eq_true c8
     clear c8
     by_cases c9 : 0 ≤ x16_1
     ·rw [if_pos c9] at H
      have c9b0 : decide (0 ≤ x16_1) = true:=decide_eq_true c9
      clear c9
      by_cases c10 : x16_1 < (l0.length : Int)
      ·rw [if_pos c10] at H
       have c10b0 : decide (x16_1 < (l0.length : Int)) = true:=decide_eq_true c10
       clear c10
       by_cases c11 : 1 < (l0.length : Int)
       ·rw [if_pos c11] at H
        have c11b0 : decide (1 < (l0.length : Int)) = true:=decide_eq_true c11
        have c11b1 : decide (1 < l0.length) = true:=decide_eq_true (by omega)
        clear c11
        by_cases c12 : x16_1 > 0
        ·rw [if_pos c12] at H
         have c12b0 : decide (0 < x16_1) = true:=decide_eq_true c12
         clear c12
         obtain ⟨ji13,hji13⟩ : ∃ j_ : Int,(wrap64 (x16_1 - 1)) = j_:=⟨_,rfl⟩
         replace H : (if 0 ≤ (ji13) then (if (ji13) < (l0.length : Int) then (if ((decide (((rd_T60 l0 x16_1).f1) > ((rd_T60 l0 (ji13)).f1))) == a1) = true then (if x6_1.length < 17592186044416 then (impl_TurningHours.l0 k1 l0 a1 (x6_1 ++ [(rd_T60 l0 x16_1).f0]) l0 (l0.length : Int) (wrap64 (x16_1 + 1))) else (none)) else (impl_TurningHours.l0 k1 l0 a1 x6_1 l0 (l0.length : Int) (wrap64 (x16_1 + 1)))) else (none)) else (none)) = some (r1,r2):=by first|(rw [hji13] at H;exact H)|(simp only [hji13] at H ⊢;exact H)
         have hji13w : (IntKind.i64.wrap (x16_1 - 1)) = ji13:=(i64_w _).trans hji13
         by_cases c14 : 0 ≤ (ji13)
         ·rw [if_pos c14] at H
          have c14b0 : decide (0 ≤ (ji13)) = true:=decide_eq_true c14
          clear c14
          by_cases c15 : (ji13) < (l0.length : Int)
          ·rw [if_pos c15] at H
           have c15b0 : decide ((ji13) < (l0.length : Int)) = true:=decide_eq_true c15
           clear c15
           by_cases c16 : ((decide (((rd_T60 l0 x16_1).f1) > ((rd_T60 l0 (ji13)).f1))) == a1) = true
           ·rw [if_pos c16] at H
            have c16b0 : ((decide (((rd_T60 l0 x16_1).f1) > ((rd_T60 l0 (ji13)).f1))) == a1) = true:=c16
            (try (have c16b1 : decide ((decide (((rd_T60 l0 x16_1).f1) > ((rd_T60 l0 (ji13)).f1))) = a1) = true:=by simpa using c16))
            (try (have c16b2 : ((decide (((rd_T60 l0 x16_1).f1) > ((rd_T60 l0 (ji13)).f1))) == a1) = true:=by simpa using c16))
            clear c16
            by_cases c17 : x6_1.length < 17592186044416
            ·rw [if_pos c17] at H
             have LMc17:=zM c17
             clear c17
             obtain ⟨y371,hy371⟩ : ∃ y_ : List Int,y_ = (x6_1 ++ [(rd_T60 l0 x16_1).f0]):=⟨_,rfl⟩
             replace H : (impl_TurningHours.l0 k1 l0 a1 y371 l0 (l0.length : Int) (wrap64 (x16_1 + 1))) = some (r1,r2):=by first|(rw [hy371];with_reducible exact H)|(have H2_:=(Option.bind_some _ _).symm.trans H;rw [hy371];with_reducible exact H2_)|(have H2_:=(Option.bind_some _ _).symm.trans H;with_reducible exact H2_)|with_reducible exact H|(rw [hy371];exact H)|exact H
             have Ny371:=zM hy371
             clear hy371
             have H':=zM H
             clear H
             have p366 : 0 ≤ (x16_1 : Int):=of_decide_eq_true (by first|(with_reducible assumption)|assumption)
             have q366 : x16_1 < (l0.length : Int):=of_decide_eq_true (by first|(with_reducible assumption)|assumption)
             obtain ⟨ad366,e366,hx366_0,hx366_1⟩:=at_T60 HR0.out x16_1 p366 q366
             cases e366
             replace hx366_0:=(HB.out.cell (World.block_lt_of_cell? w _ hx366_0)).trans hx366_0
             replace hx366_1:=(HB.out.cell (World.block_lt_of_cell? w _ hx366_1)).trans hx366_1
             replace p366:=eq_true p366
             replace q366:=eq_true q366
             go_wp2_with (first|((with_reducible refine gate_dst (N:=8) rfl ?_);refine box_event ?hg (N:=8) ?hd (cs := #[.int .i64 0,.int .i64 0]) (t:=60) ?hr ?_;(case hd=>rfl);(case hg=>rfl);(case hr=>first|(go_simp;done)|(go_simp;rfl));intro gb367 hg w18 hbox hb;have n0_:=zM (zP (by (with_reducible repeat (first|apply zA|apply zB|apply zC));exact HO_6.out) hb);have n1_:=zM (zQ (by repeat (first|(with_reducible first|exact HB.out|apply zD|apply zE|apply zF)|exact HB.out)) hb);have n2_:=zM (hbox);have n3_:=zM ((by rw [hg];exact (zR (by repeat (first|(with_reducible first|exact HB.out|apply zD|apply zE|apply zF)|exact HB.out))) : w.heap.size ≤ gb367));have n4_:=zM ((by rw [hg];exact (zR (by repeat (first|(with_reducible first|exact HB.out|apply zD|apply zE|apply zF)|exact HB.out))) : w.heap.size ≤ gb367));clear HO_6;clear HB;have HO_6:=n0_;have HB:=n1_;have BK367:=n2_;have GW367:=n3_;have GE367:=n4_;clear n0_ n1_ n2_ n3_ n4_;clear hb hbox hg;have hcz19_0 : w18.cell? ⟨gb367,0,none⟩ = some (.int .i64 0):=(blk_cell BK367.out 0).trans rfl;have hcz19_1 : w18.cell? ⟨gb367,1,none⟩ = some (.int .i64 0):=(blk_cell BK367.out 1).trans rfl;have hfz19_0:=blk_frozen BK367.out 0;have hfz19_1:=blk_frozen BK367.out 1;have p368 : 0 ≤ (1 : Int):=(by omega);have q368 : 1 < (l0.length : Int):=of_decide_eq_true (by first|(with_reducible assumption)|assumption);obtain ⟨ad368,e368,hx368_0,hx368_1⟩:=at_T60 HR0.out 1 p368 q368;obtain rfl : ad366 = ad368:=(by injection e368);(try simp only [show (1 : Int).toNat = 1 from rfl,Nat.reduceMul,Nat.reduceEqDiff,Go.Addr.add,↓reduceIte] at hx368_0);(try simp only [show (1 : Int).toNat = 1 from rfl,Nat.reduceMul,Nat.reduceEqDiff,Go.Addr.add,↓reduceIte] at hx368_1);have qi368 : (1 < l0.length) = True:=eq_true (by omega);(try rw [show ((1 : Int)).toNat = 1 from rfl] at hx368_0);(try rw [show 1 * 2 = 2 from rfl] at hx368_0);(try rw [show ((1 : Int)).toNat = 1 from rfl] at hx368_1);(try rw [show 1 * 2 = 2 from rfl] at hx368_1);have hn368_0 : ad366.block ≠ gb367:=Nat.ne_of_lt (Nat.lt_of_lt_of_le (by have:=World.block_lt_of_cell? _ _ hx368_0;first|rwa [add_block] at this|exact this) GW367.out);have hn368_1 : ad366.block ≠ gb367:=Nat.ne_of_lt (Nat.lt_of_lt_of_le (by have:=World.block_lt_of_cell? _ _ hx368_0;first|rwa [add_block] at this|exact this) GW367.out);replace hx368_0:=(HB.out.cell (World.block_lt_of_cell? w _ hx368_0)).trans hx368_0;replace hx368_1:=(HB.out.cell (World.block_lt_of_cell? w _ hx368_1)).trans hx368_1;replace hx368_0:=(cell_far (p:=⟨gb367,0,none⟩) (by first|(rw [add_block];exact hn368_0)|(show (Addr.add _ _).block ≠ _;rw [add_block];exact hn368_0)|exact hn368_0) (.int .i64 ((rd_T60 l0 x16_1).f0))).trans hx368_0;replace hx368_1:=(cell_far (p:=⟨gb367,0,none⟩) (by first|(rw [add_block];exact hn368_0)|(show (Addr.add _ _).block ≠ _;rw [add_block];exact hn368_0)|exact hn368_0) (.int .i64 ((rd_T60 l0 x16_1).f0))).trans hx368_1;replace hx368_0:=(cell_far (p:=⟨gb367,1,none⟩) (by first|(rw [add_block];exact hn368_1)|(show (Addr.add _ _).block ≠ _;rw [add_block];exact hn368_1)|exact hn368_1) (.int .i64 ((rd_T60 l0 x16_1).f1))).trans hx368_0;replace hx368_1:=(cell_far (p:=⟨gb367,1,none⟩) (by first|(rw [add_block];exact hn368_1)|(show (Addr.add _ _).block ≠ _;rw [add_block];exact hn368_1)|exact hn368_1) (.int .i64 ((rd_T60 l0 x16_1).f1))).trans hx368_1;clear hn368_0;clear hn368_1;replace p368:=eq_true p368;replace q368:=eq_true q368)|((with_reducible refine gate_dst (N:=9) rfl ?_);refine box_event ?hg (N:=9) ?hd (cs := #[.int .i64 0,.int .i64 0]) (t:=60) ?hr ?_;(case hd=>rfl);(case hg=>rfl);(case hr=>first|(go_simp;done)|(go_simp;rfl));intro gb369 hg w20 hbox hb;have n0_:=zM (zP (by (with_reducible repeat (first|apply zA|apply zB|apply zC));exact (Kd.R_mono (Kd.R_far (p:=⟨gb367,1,none⟩) (Kd.R_far (p:=⟨gb367,0,none⟩) (Kd.R_types HO_6.out BK367.out (by decide)) (fun _ hk=>hk.2) (.int .i64 ((rd_T60 l0 x16_1).f0))) (fun _ hk=>hk.2) (.int .i64 ((rd_T60 l0 x16_1).f1))) (fun _ h_=>h_.1))) hb);have n1_:=zM (blk_below (g:=gb367) (o := .cells #[.int .i64 ((rd_T60 l0 x16_1).f0),.int .i64 ((rd_T60 l0 x16_1).f1)] 60 (0,0)) (by (with_reducible repeat (first|refine zJ ?_ _|refine zK ?_|refine zL ?_ _));refine blk_put (cs := #[.int .i64 ((rd_T60 l0 x16_1).f0),.int .i64 0]) ?_ 1 _ rfl;(with_reducible repeat (first|refine zJ ?_ _|refine zK ?_|refine zL ?_ _));refine blk_put (cs := #[.int .i64 0,.int .i64 0]) ?_ 0 _ rfl;(with_reducible repeat (first|refine zJ ?_ _|refine zK ?_|refine zL ?_ _));exact BK367.out) hb);have n2_:=zM (zQ (by repeat (first|(with_reducible first|exact HB.out|apply zD|apply zE|apply zF|refine below_set ?_ GE367.out)|exact HB.out)) hb);have n3_:=zM (hbox);have n4_:=zM ((by rw [hg];exact (zR (by repeat (first|(with_reducible first|exact HB.out|apply zD|apply zE|apply zF|refine below_set ?_ GE367.out)|exact HB.out))) : w.heap.size ≤ gb369));have n5_:=zM ((by rw [hg];exact (zR (by repeat (first|(with_reducible first|exact HB.out|apply zD|apply zE|apply zF|refine below_set ?_ GE367.out)|exact HB.out))) : w.heap.size ≤ gb369));have n6_:=zM ((by rw [hg];exact Nat.ne_of_lt (blk_lt (g:=gb367) (o := .cells #[.int .i64 ((rd_T60 l0 x16_1).f0),.int .i64 ((rd_T60 l0 x16_1).f1)] 60 (0,0)) (by (with_reducible repeat (first|refine zJ ?_ _|refine zK ?_|refine zL ?_ _));refine blk_put (cs := #[.int .i64 ((rd_T60 l0 x16_1).f0),.int .i64 0]) ?_ 1 _ rfl;(with_reducible repeat (first|refine zJ ?_ _|refine zK ?_|refine zL ?_ _));refine blk_put (cs := #[.int .i64 0,.int .i64 0]) ?_ 0 _ rfl;(with_reducible repeat (first|refine zJ ?_ _|refine zK ?_|refine zL ?_ _));exact BK367.out)) : gb367 ≠ gb369));have n7_:=zM ((by rw [hg];exact Nat.ne_of_gt (blk_lt (g:=gb367) (o := .cells #[.int .i64 ((rd_T60 l0 x16_1).f0),.int .i64 ((rd_T60 l0 x16_1).f1)] 60 (0,0)) (by (with_reducible repeat (first|refine zJ ?_ _|refine zK ?_|refine zL ?_ _));refine blk_put (cs := #[.int .i64 ((rd_T60 l0 x16_1).f0),.int .i64 0]) ?_ 1 _ rfl;(with_reducible repeat (first|refine zJ ?_ _|refine zK ?_|refine zL ?_ _));refine blk_put (cs := #[.int .i64 0,.int .i64 0]) ?_ 0 _ rfl;(with_reducible repeat (first|refine zJ ?_ _|refine zK ?_|refine zL ?_ _));exact BK367.out)) : gb369 ≠ gb367));clear HO_6;clear BK367;clear HB;have HO_6:=n0_;have BK367:=n1_;have HB:=n2_;have BK369:=n3_;have GW369:=n4_;have GE369:=n5_;have NB367_369:=n6_;have NB369_367:=n7_;clear n0_ n1_ n2_ n3_ n4_ n5_ n6_ n7_;clear hb hbox hg;have hnb21:=NB369_367.out;have hnc21:=NB367_369.out;have hcz22_0 : w20.cell? ⟨gb369,0,none⟩ = some (.int .i64 0):=(blk_cell BK369.out 0).trans rfl;have hcz22_1 : w20.cell? ⟨gb369,1,none⟩ = some (.int .i64 0):=(blk_cell BK369.out 1).trans rfl;have hfz22_0:=blk_frozen BK369.out 0;have hfz22_1:=blk_frozen BK369.out 1;have p370 : 0 ≤ ((ji13) : Int):=of_decide_eq_true (by first|(with_reducible assumption)|assumption);have q370 : (ji13) < (l0.length : Int):=of_decide_eq_true (by first|(with_reducible assumption)|assumption);obtain ⟨ad370,e370,hx370_0,hx370_1⟩:=at_T60 HR0.out (ji13) p370 q370;obtain rfl : ad366 = ad370:=(by injection e370);have hn370_0 : ad366.block ≠ gb369:=Nat.ne_of_lt (Nat.lt_of_lt_of_le (by have:=World.block_lt_of_cell? _ _ hx370_0;first|rwa [add_block] at this|exact this) GW369.out);have hn370_1 : ad366.block ≠ gb369:=Nat.ne_of_lt (Nat.lt_of_lt_of_le (by have:=World.block_lt_of_cell? _ _ hx370_0;first|rwa [add_block] at this|exact this) GW369.out);replace hx370_0:=(HB.out.cell (World.block_lt_of_cell? w _ hx370_0)).trans hx370_0;replace hx370_1:=(HB.out.cell (World.block_lt_of_cell? w _ hx370_1)).trans hx370_1;replace hx370_0:=(cell_far (p:=⟨gb369,0,none⟩) (by first|(rw [add_block];exact hn370_0)|(show (Addr.add _ _).block ≠ _;rw [add_block];exact hn370_0)|exact hn370_0) (.int .i64 ((rd_T60 l0 1).f0))).trans hx370_0;replace hx370_1:=(cell_far (p:=⟨gb369,0,none⟩) (by first|(rw [add_block];exact hn370_0)|(show (Addr.add _ _).block ≠ _;rw [add_block];exact hn370_0)|exact hn370_0) (.int .i64 ((rd_T60 l0 1).f0))).trans hx370_1;replace hx370_0:=(cell_far (p:=⟨gb369,1,none⟩) (by first|(rw [add_block];exact hn370_1)|(show (Addr.add _ _).block ≠ _;rw [add_block];exact hn370_1)|exact hn370_1) (.int .i64 ((rd_T60 l0 1).f1))).trans hx370_0;replace hx370_1:=(cell_far (p:=⟨gb369,1,none⟩) (by first|(rw [add_block];exact hn370_1)|(show (Addr.add _ _).block ≠ _;rw [add_block];exact hn370_1)|exact hn370_1) (.int .i64 ((rd_T60 l0 1).f1))).trans hx370_1;clear hn370_0;clear hn370_1;replace p370:=eq_true p370;replace q370:=eq_true q370;have hcz23_0 : w20.cell? ⟨gb367,0,none⟩ = some (.int .i64 ((rd_T60 l0 x16_1).f0)):=(blk_cell BK367.out 0).trans rfl;have hcz23_1 : w20.cell? ⟨gb367,1,none⟩ = some (.int .i64 ((rd_T60 l0 x16_1).f1)):=(blk_cell BK367.out 1).trans rfl;have hfz23_0:=blk_frozen BK367.out 0;have hfz23_1:=blk_frozen BK367.out 1)|((with_reducible refine gate_builtin (b := .append) (xs := #[.tmp 38,.tmp 41]) rfl ?_);at_builtin;refine Kd.R_append (Kd.int .i64) (w0:=w) w.heap.size rfl (.tmp 38) (.tmp 41) 40 3 (.int .i64 0) 8 rfl Try.underlying40 info3 rfl (by decide) (by omega) u6 x6_1 ((rd_T60 l0 x16_1).f0) [.int .i64 ((rd_T60 l0 x16_1).f0)] (fun _=>True) (fun _=>False) rfl (by first|(go_simp;done)|(go_simp;rfl)) ?aP (fun _ hk=>hk.elim) ?aF ?aO ?aB ?aS ?aL ?_;(case aP=>exact rfl);(case aB=>exact (by repeat (first|(with_reducible first|exact HB.out|apply zD|apply zE|apply zF|refine below_set ?_ GE367.out|refine below_set ?_ GE369.out)|exact HB.out)));(case aF=>exact (fun _ _=>trivial));(case aO=>exact (by (with_reducible repeat (first|apply zA|apply zB|apply zC));exact Kd.R_mono (Kd.R_far (p:=⟨gb369,1,none⟩) (Kd.R_far (p:=⟨gb369,0,none⟩) (Kd.R_far (p:=⟨gb369,1,none⟩) (Kd.R_far (p:=⟨gb369,0,none⟩) (Kd.R_types HO_6.out BK369.out (by decide)) (fun _ hk=>hk.2) (.int .i64 ((rd_T60 l0 1).f0))) (fun _ hk=>hk.2) (.int .i64 ((rd_T60 l0 1).f1))) (fun _ hk=>hk.2) (.int .i64 ((rd_T60 l0 (ji13)).f0))) (fun _ hk=>hk.2) (.int .i64 ((rd_T60 l0 (ji13)).f1))) (fun _ hk=>trivial)));(case aS=>exact (zR (by repeat (first|(with_reducible first|exact HB.out|apply zD|apply zE|apply zF|refine below_set ?_ GE367.out|refine below_set ?_ GE369.out)|exact HB.out))));(case aL=>have:=LMc17.out;omega);intro v372 w24 ho hb hg hat;rw [← Ny371.out] at ho;have n0_:=zM (blk_grown (g:=gb367) (o := .cells #[.int .i64 ((rd_T60 l0 x16_1).f0),.int .i64 ((rd_T60 l0 x16_1).f1)] 60 (0,0)) (by (with_reducible repeat (first|refine zJ ?_ _|refine zK ?_|refine zL ?_ _));refine blk_far ?_ NB367_369.out _;(with_reducible repeat (first|refine zJ ?_ _|refine zK ?_|refine zL ?_ _));refine blk_far ?_ NB367_369.out _;(with_reducible repeat (first|refine zJ ?_ _|refine zK ?_|refine zL ?_ _));refine blk_far ?_ NB367_369.out _;(with_reducible repeat (first|refine zJ ?_ _|refine zK ?_|refine zL ?_ _));refine blk_far ?_ NB367_369.out _;(with_reducible repeat (first|refine zJ ?_ _|refine zK ?_|refine zL ?_ _));exact BK367.out) hg (Kd.R_ne HO_6.out BK367.out (by decide)));have n1_:=zM (blk_grown (g:=gb369) (o := .cells #[.int .i64 ((rd_T60 l0 (ji13)).f0),.int .i64 ((rd_T60 l0 (ji13)).f1)] 60 (0,0)) (by (with_reducible repeat (first|refine zJ ?_ _|refine zK ?_|refine zL ?_ _));refine blk_put (cs := #[.int .i64 ((rd_T60 l0 (ji13)).f0),.int .i64 ((rd_T60 l0 1).f1)]) ?_ 1 _ rfl;(with_reducible repeat (first|refine zJ ?_ _|refine zK ?_|refine zL ?_ _));refine blk_put (cs := #[.int .i64 ((rd_T60 l0 1).f0),.int .i64 ((rd_T60 l0 1).f1)]) ?_ 0 _ rfl;(with_reducible repeat (first|refine zJ ?_ _|refine zK ?_|refine zL ?_ _));refine blk_put (cs := #[.int .i64 ((rd_T60 l0 1).f0),.int .i64 0]) ?_ 1 _ rfl;(with_reducible repeat (first|refine zJ ?_ _|refine zK ?_|refine zL ?_ _));refine blk_put (cs := #[.int .i64 0,.int .i64 0]) ?_ 0 _ rfl;(with_reducible repeat (first|refine zJ ?_ _|refine zK ?_|refine zL ?_ _));exact BK369.out) hg (Kd.R_ne HO_6.out BK369.out (by decide)));have n2_:=zM (hb);have n3_:=zM (ho);clear BK367;clear BK369;clear HB;clear HO_6;have BK367:=n0_;have BK369:=n1_;have HB:=n2_;have HO373:=n3_;clear n0_ n1_ n2_ n3_;clear ho hb hg hat))
             go_roundg k1
             case measure=>have:=HK1.out;omega
             case rel=>exact ⟨(y371),(wrap64 (x16_1 + 1)),(by first|rfl|(simp;done)|(simp [*];done)),H',⟨by have:=HK1.out;omega⟩,⟨by (with_reducible repeat (first|apply zA|apply zB|apply zC));exact HO373.out⟩,⟨by repeat (first|(with_reducible first|exact HB.out|apply zD|apply zE|apply zF|refine below_set ?_ GE367.out|refine below_set ?_ GE369.out)|exact HB.out)⟩⟩
            ·rw [if_neg c17] at H
             exact absurd H (by simp)
           ·rw [if_neg c16] at H
            have c16b0 : ((decide (((rd_T60 l0 x16_1).f1) > ((rd_T60 l0 (ji13)).f1))) == a1) = false:=by simpa using c16
            (try (have c16b1 : decide ((decide (((rd_T60 l0 x16_1).f1) > ((rd_T60 l0 (ji13)).f1))) = a1) = false:=by simpa using c16))
            (try (have c16b2 : ((decide (((rd_T60 l0 x16_1).f1) > ((rd_T60 l0 (ji13)).f1))) == a1) = false:=by simpa using c16))
            (try (have c16b3 : ¬ ((decide (((rd_T60 l0 x16_1).f1) > ((rd_T60 l0 (ji13)).f1))) = a1):=by simpa using c16))
            clear c16
            have H':=zM H
            clear H
            have p366 : 0 ≤ (x16_1 : Int):=of_decide_eq_true (by first|(with_reducible assumption)|assumption)
            have q366 : x16_1 < (l0.length : Int):=of_decide_eq_true (by first|(with_reducible assumption)|assumption)
            obtain ⟨ad366,e366,hx366_0,hx366_1⟩:=at_T60 HR0.out x16_1 p366 q366
            cases e366
            replace hx366_0:=(HB.out.cell (World.block_lt_of_cell? w _ hx366_0)).trans hx366_0
            replace hx366_1:=(HB.out.cell (World.block_lt_of_cell? w _ hx366_1)).trans hx366_1
            replace p366:=eq_true p366
            replace q366:=eq_true q366
            go_wp2_with (first|((with_reducible refine gate_dst (N:=8) rfl ?_);refine box_event ?hg (N:=8) ?hd (cs := #[.int .i64 0,.int .i64 0]) (t:=60) ?hr ?_;(case hd=>rfl);(case hg=>rfl);(case hr=>first|(go_simp;done)|(go_simp;rfl));intro gb367 hg w25 hbox hb;have n0_:=zM (zP (by (with_reducible repeat (first|apply zA|apply zB|apply zC));exact HO_6.out) hb);have n1_:=zM (zQ (by repeat (first|(with_reducible first|exact HB.out|apply zD|apply zE|apply zF)|exact HB.out)) hb);have n2_:=zM (hbox);have n3_:=zM ((by rw [hg];exact (zR (by repeat (first|(with_reducible first|exact HB.out|apply zD|apply zE|apply zF)|exact HB.out))) : w.heap.size ≤ gb367));have n4_:=zM ((by rw [hg];exact (zR (by repeat (first|(with_reducible first|exact HB.out|apply zD|apply zE|apply zF)|exact HB.out))) : w.heap.size ≤ gb367));clear HO_6;clear HB;have HO_6:=n0_;have HB:=n1_;have BK367:=n2_;have GW367:=n3_;have GE367:=n4_;clear n0_ n1_ n2_ n3_ n4_;clear hb hbox hg;have hcz26_0 : w25.cell? ⟨gb367,0,none⟩ = some (.int .i64 0):=(blk_cell BK367.out 0).trans rfl;have hcz26_1 : w25.cell? ⟨gb367,1,none⟩ = some (.int .i64 0):=(blk_cell BK367.out 1).trans rfl;have hfz26_0:=blk_frozen BK367.out 0;have hfz26_1:=blk_frozen BK367.out 1;have p368 : 0 ≤ (1 : Int):=(by omega);have q368 : 1 < (l0.length : Int):=of_decide_eq_true (by first|(with_reducible assumption)|assumption);obtain ⟨ad368,e368,hx368_0,hx368_1⟩:=at_T60 HR0.out 1 p368 q368;obtain rfl : ad366 = ad368:=(by injection e368);(try simp only [show (1 : Int).toNat = 1 from rfl,Nat.reduceMul,Nat.reduceEqDiff,Go.Addr.add,↓reduceIte] at hx368_0);(try simp only [show (1 : Int).toNat = 1 from rfl,Nat.reduceMul,Nat.reduceEqDiff,Go.Addr.add,↓reduceIte] at hx368_1);have qi368 : (1 < l0.length) = True:=eq_true (by omega);(try rw [show ((1 : Int)).toNat = 1 from rfl] at hx368_0);(try rw [show 1 * 2 = 2 from rfl] at hx368_0);(try rw [show ((1 : Int)).toNat = 1 from rfl] at hx368_1);(try rw [show 1 * 2 = 2 from rfl] at hx368_1);have hn368_0 : ad366.block ≠ gb367:=Nat.ne_of_lt (Nat.lt_of_lt_of_le (by have:=World.block_lt_of_cell? _ _ hx368_0;first|rwa [add_block] at this|exact this) GW367.out);have hn368_1 : ad366.block ≠ gb367:=Nat.ne_of_lt (Nat.lt_of_lt_of_le (by have:=World.block_lt_of_cell? _ _ hx368_0;first|rwa [add_block] at this|exact this) GW367.out);replace hx368_0:=(HB.out.cell (World.block_lt_of_cell? w _ hx368_0)).trans hx368_0;replace hx368_1:=(HB.out.cell (World.block_lt_of_cell? w _ hx368_1)).trans hx368_1;replace hx368_0:=(cell_far (p:=⟨gb367,0,none⟩) (by first|(rw [add_block];exact hn368_0)|(show (Addr.add _ _).block ≠ _;rw [add_block];exact hn368_0)|exact hn368_0) (.int .i64 ((rd_T60 l0 x16_1).f0))).trans hx368_0;replace hx368_1:=(cell_far (p:=⟨gb367,0,none⟩) (by first|(rw [add_block];exact hn368_0)|(show (Addr.add _ _).block ≠ _;rw [add_block];exact hn368_0)|exact hn368_0) (.int .i64 ((rd_T60 l0 x16_1).f0))).trans hx368_1;replace hx368_0:=(cell_far (p:=⟨gb367,1,none⟩) (by first|(rw [add_block];exact hn368_1)|(show (Addr.add _ _).block ≠ _;rw [add_block];exact hn368_1)|exact hn368_1) (.int .i64 ((rd_T60 l0 x16_1).f1))).trans hx368_0;replace hx368_1:=(cell_far (p:=⟨gb367,1,none⟩) (by first|(rw [add_block];exact hn368_1)|(show (Addr.add _ _).block ≠ _;rw [add_block];exact hn368_1)|exact hn368_1) (.int .i64 ((rd_T60 l0 x16_1).f1))).trans hx368_1;clear hn368_0;clear hn368_1;replace p368:=eq_true p368;replace q368:=eq_true q368)|((with_reducible refine gate_dst (N:=9) rfl ?_);refine box_event ?hg (N:=9) ?hd (cs := #[.int .i64 0,.int .i64 0]) (t:=60) ?hr ?_;(case hd=>rfl);(case hg=>rfl);(case hr=>first|(go_simp;done)|(go_simp;rfl));intro gb369 hg w27 hbox hb;have n0_:=zM (zP (by (with_reducible repeat (first|apply zA|apply zB|apply zC));exact (Kd.R_mono (Kd.R_far (p:=⟨gb367,1,none⟩) (Kd.R_far (p:=⟨gb367,0,none⟩) (Kd.R_types HO_6.out BK367.out (by decide)) (fun _ hk=>hk.2) (.int .i64 ((rd_T60 l0 x16_1).f0))) (fun _ hk=>hk.2) (.int .i64 ((rd_T60 l0 x16_1).f1))) (fun _ h_=>h_.1))) hb);have n1_:=zM (blk_below (g:=gb367) (o := .cells #[.int .i64 ((rd_T60 l0 x16_1).f0),.int .i64 ((rd_T60 l0 x16_1).f1)] 60 (0,0)) (by (with_reducible repeat (first|refine zJ ?_ _|refine zK ?_|refine zL ?_ _));refine blk_put (cs := #[.int .i64 ((rd_T60 l0 x16_1).f0),.int .i64 0]) ?_ 1 _ rfl;(with_reducible repeat (first|refine zJ ?_ _|refine zK ?_|refine zL ?_ _));refine blk_put (cs := #[.int .i64 0,.int .i64 0]) ?_ 0 _ rfl;(with_reducible repeat (first|refine zJ ?_ _|refine zK ?_|refine zL ?_ _));exact BK367.out) hb);have n2_:=zM (zQ (by repeat (first|(with_reducible first|exact HB.out|apply zD|apply zE|apply zF|refine below_set ?_ GE367.out)|exact HB.out)) hb);have n3_:=zM (hbox);have n4_:=zM ((by rw [hg];exact (zR (by repeat (first|(with_reducible first|exact HB.out|apply zD|apply zE|apply zF|refine below_set ?_ GE367.out)|exact HB.out))) : w.heap.size ≤ gb369));have n5_:=zM ((by rw [hg];exact (zR (by repeat (first|(with_reducible first|exact HB.out|apply zD|apply zE|apply zF|refine below_set ?_ GE367.out)|exact HB.out))) : w.heap.size ≤ gb369));have n6_:=zM ((by rw [hg];exact Nat.ne_of_lt (blk_lt (g:=gb367) (o := .cells #[.int .i64 ((rd_T60 l0 x16_1).f0),.int .i64 ((rd_T60 l0 x16_1).f1)] 60 (0,0)) (by (with_reducible repeat (first|refine zJ ?_ _|refine zK ?_|refine zL ?_ _));refine blk_put (cs := #[.int .i64 ((rd_T60 l0 x16_1).f0),.int .i64 0]) ?_ 1 _ rfl;(with_reducible repeat (first|refine zJ ?_ _|refine zK ?_|refine zL ?_ _));refine blk_put (cs := #[.int .i64 0,.int .i64 0]) ?_ 0 _ rfl;(with_reducible repeat (first|refine zJ ?_ _|refine zK ?_|refine zL ?_ _));exact BK367.out)) : gb367 ≠ gb369));have n7_:=zM ((by rw [hg];exact Nat.ne_of_gt (blk_lt (g:=gb367) (o := .cells #[.int .i64 ((rd_T60 l0 x16_1).f0),.int .i64 ((rd_T60 l0 x16_1).f1)] 60 (0,0)) (by (with_reducible repeat (first|refine zJ ?_ _|refine zK ?_|refine zL ?_ _));refine blk_put (cs := #[.int .i64 ((rd_T60 l0 x16_1).f0),.int .i64 0]) ?_ 1 _ rfl;(with_reducible repeat (first|refine zJ ?_ _|refine zK ?_|refine zL ?_ _));refine blk_put (cs := #[.int .i64 0,.int .i64 0]) ?_ 0 _ rfl;(with_reducible repeat (first|refine zJ ?_ _|refine zK ?_|refine zL ?_ _));exact BK367.out)) : gb369 ≠ gb367));clear HO_6;clear BK367;clear HB;have HO_6:=n0_;have BK367:=n1_;have HB:=n2_;have BK369:=n3_;have GW369:=n4_;have GE369:=n5_;have NB367_369:=n6_;have NB369_367:=n7_;clear n0_ n1_ n2_ n3_ n4_ n5_ n6_ n7_;clear hb hbox hg;have hnb28:=NB369_367.out;have hnc28:=NB367_369.out;have hcz29_0 : w27.cell? ⟨gb369,0,none⟩ = some (.int .i64 0):=(blk_cell BK369.out 0).trans rfl;have hcz29_1 : w27.cell? ⟨gb369,1,none⟩ = some (.int .i64 0):=(blk_cell BK369.out 1).trans rfl;have hfz29_0:=blk_frozen BK369.out 0;have hfz29_1:=blk_frozen BK369.out 1;have p370 : 0 ≤ ((ji13) : Int):=of_decide_eq_true (by first|(with_reducible assumption)|assumption);have q370 : (ji13) < (l0.length : Int):=of_decide_eq_true (by first|(with_reducible assumption)|assumption);obtain ⟨ad370,e370,hx370_0,hx370_1⟩:=at_T60 HR0.out (ji13) p370 q370;obtain rfl : ad366 = ad370:=(by injection e370);have hn370_0 : ad366.block ≠ gb369:=Nat.ne_of_lt (Nat.lt_of_lt_of_le (by have:=World.block_lt_of_cell? _ _ hx370_0;first|rwa [add_block] at this|exact this) GW369.out);have hn370_1 : ad366.block ≠ gb369:=Nat.ne_of_lt (Nat.lt_of_lt_of_le (by have:=World.block_lt_of_cell? _ _ hx370_0;first|rwa [add_block] at this|exact this) GW369.out);replace hx370_0:=(HB.out.cell (World.block_lt_of_cell? w _ hx370_0)).trans hx370_0;replace hx370_1:=(HB.out.cell (World.block_lt_of_cell? w _ hx370_1)).trans hx370_1;replace hx370_0:=(cell_far (p:=⟨gb369,0,none⟩) (by first|(rw [add_block];exact hn370_0)|(show (Addr.add _ _).block ≠ _;rw [add_block];exact hn370_0)|exact hn370_0) (.int .i64 ((rd_T60 l0 1).f0))).trans hx370_0;replace hx370_1:=(cell_far (p:=⟨gb369,0,none⟩) (by first|(rw [add_block];exact hn370_0)|(show (Addr.add _ _).block ≠ _;rw [add_block];exact hn370_0)|exact hn370_0) (.int .i64 ((rd_T60 l0 1).f0))).trans hx370_1;replace hx370_0:=(cell_far (p:=⟨gb369,1,none⟩) (by first|(rw [add_block];exact hn370_1)|(show (Addr.add _ _).block ≠ _;rw [add_block];exact hn370_1)|exact hn370_1) (.int .i64 ((rd_T60 l0 1).f1))).trans hx370_0;replace hx370_1:=(cell_far (p:=⟨gb369,1,none⟩) (by first|(rw [add_block];exact hn370_1)|(show (Addr.add _ _).block ≠ _;rw [add_block];exact hn370_1)|exact hn370_1) (.int .i64 ((rd_T60 l0 1).f1))).trans hx370_1;clear hn370_0;clear hn370_1;replace p370:=eq_true p370;replace q370:=eq_true q370;have hcz30_0 : w27.cell? ⟨gb367,0,none⟩ = some (.int .i64 ((rd_T60 l0 x16_1).f0)):=(blk_cell BK367.out 0).trans rfl;have hcz30_1 : w27.cell? ⟨gb367,1,none⟩ = some (.int .i64 ((rd_T60 l0 x16_1).f1)):=(blk_cell BK367.out 1).trans rfl;have hfz30_0:=blk_frozen BK367.out 0;have hfz30_1:=blk_frozen BK367.out 1))
            go_roundg k1
            case measure=>have:=HK1.out;omega
            case rel=>exact ⟨(x6_1),(wrap64 (x16_1 + 1)),(by first|rfl|(simp;done)|(simp [*];done)),H',⟨by have:=HK1.out;omega⟩,⟨by (with_reducible repeat (first|apply zA|apply zB|apply zC));exact Kd.R_mono (Kd.R_far (p:=⟨gb369,1,none⟩) (Kd.R_far (p:=⟨gb369,0,none⟩) (Kd.R_far (p:=⟨gb369,1,none⟩) (Kd.R_far (p:=⟨gb369,0,none⟩) (Kd.R_types HO_6.out BK369.out (by decide)) (fun _ hk=>hk.2) (.int .i64 ((rd_T60 l0 1).f0))) (fun _ hk=>hk.2) (.int .i64 ((rd_T60 l0 1).f1))) (fun _ hk=>hk.2) (.int .i64 ((rd_T60 l0 (ji13)).f0))) (fun _ hk=>hk.2) (.int .i64 ((rd_T60 l0 (ji13)).f1))) (fun _ hk=>trivial)⟩,⟨by repeat (first|(with_reducible first|exact HB.out|apply zD|apply zE|apply zF|refine below_set ?_ GE367.out|refine below_set ?_ GE369.out)|exact HB.out)⟩⟩
          ·rw [if_neg c15] at H
           exact absurd H (by simp)
         ·rw [if_neg c14] at H
          exact absurd H (by simp)
        ·rw [if_neg c12] at H
         have c12b0 : decide (0 < x16_1) = false:=decide_eq_false c12
         clear c12
         by_cases c31 : ((decide (((rd_T60 l0 x16_1).f1) > ((rd_T60 l0 1).f1))) == a1) = true
         ·rw [if_pos c31] at H
          have c31b0 : ((decide (((rd_T60 l0 x16_1).f1) > ((rd_T60 l0 1).f1))) == a1) = true:=c31
          (try (have c31b1 : decide ((decide (((rd_T60 l0 x16_1).f1) > ((rd_T60 l0 1).f1))) = a1) = true:=by simpa using c31))
          (try (have c31b2 : ((decide (((rd_T60 l0 x16_1).f1) > ((rd_T60 l0 1).f1))) == a1) = true:=by simpa using c31))
          clear c31
          by_cases c32 : x6_1.length < 17592186044416
          ·rw [if_pos c32] at H
           have LMc32:=zM c32
           clear c32
           obtain ⟨y374,hy374⟩ : ∃ y_ : List Int,y_ = (x6_1 ++ [(rd_T60 l0 x16_1).f0]):=⟨_,rfl⟩
           replace H : (impl_TurningHours.l0 k1 l0 a1 y374 l0 (l0.length : Int) (wrap64 (x16_1 + 1))) = some (r1,r2):=by first|(rw [hy374];with_reducible exact H)|(have H2_:=(Option.bind_some _ _).symm.trans H;rw [hy374];with_reducible exact H2_)|(have H2_:=(Option.bind_some _ _).symm.trans H;with_reducible exact H2_)|with_reducible exact H|(rw [hy374];exact H)|exact H
           have Ny374:=zM hy374
           clear hy374
           have H':=zM H
           clear H
           have p366 : 0 ≤ (x16_1 : Int):=of_decide_eq_true (by first|(with_reducible assumption)|assumption)
           have q366 : x16_1 < (l0.length : Int):=of_decide_eq_true (by first|(with_reducible assumption)|assumption)
           obtain ⟨ad366,e366,hx366_0,hx366_1⟩:=at_T60 HR0.out x16_1 p366 q366
           cases e366
           replace hx366_0:=(HB.out.cell (World.block_lt_of_cell? w _ hx366_0)).trans hx366_0
           replace hx366_1:=(HB.out.cell (World.block_lt_of_cell? w _ hx366_1)).trans hx366_1
           replace p366:=eq_true p366
           replace q366:=eq_true q366
           go_wp2_with (first|((with_reducible refine gate_dst (N:=8) rfl ?_);refine box_event ?hg (N:=8) ?hd (cs := #[.int .i64 0,.int .i64 0]) (t:=60) ?hr ?_;(case hd=>rfl);(case hg=>rfl);(case hr=>first|(go_simp;done)|(go_simp;rfl));intro gb367 hg w33 hbox hb;have n0_:=zM (zP (by (with_reducible repeat (first|apply zA|apply zB|apply zC));exact HO_6.out) hb);have n1_:=zM (zQ (by repeat (first|(with_reducible first|exact HB.out|apply zD|apply zE|apply zF)|exact HB.out)) hb);have n2_:=zM (hbox);have n3_:=zM ((by rw [hg];exact (zR (by repeat (first|(with_reducible first|exact HB.out|apply zD|apply zE|apply zF)|exact HB.out))) : w.heap.size ≤ gb367));have n4_:=zM ((by rw [hg];exact (zR (by repeat (first|(with_reducible first|exact HB.out|apply zD|apply zE|apply zF)|exact HB.out))) : w.heap.size ≤ gb367));clear HO_6;clear HB;have HO_6:=n0_;have HB:=n1_;have BK367:=n2_;have GW367:=n3_;have GE367:=n4_;clear n0_ n1_ n2_ n3_ n4_;clear hb hbox hg;have hcz34_0 : w33.cell? ⟨gb367,0,none⟩ = some (.int .i64 0):=(blk_cell BK367.out 0).trans rfl;have hcz34_1 : w33.cell? ⟨gb367,1,none⟩ = some (.int .i64 0):=(blk_cell BK367.out 1).trans rfl;have hfz34_0:=blk_frozen BK367.out 0;have hfz34_1:=blk_frozen BK367.out 1;have p368 : 0 ≤ (1 : Int):=(by omega);have q368 : 1 < (l0.length : Int):=of_decide_eq_true (by first|(with_reducible assumption)|assumption);obtain ⟨ad368,e368,hx368_0,hx368_1⟩:=at_T60 HR0.out 1 p368 q368;obtain rfl : ad366 = ad368:=(by injection e368);(try simp only [show (1 : Int).toNat = 1 from rfl,Nat.reduceMul,Nat.reduceEqDiff,Go.Addr.add,↓reduceIte] at hx368_0);(try simp only [show (1 : Int).toNat = 1 from rfl,Nat.reduceMul,Nat.reduceEqDiff,Go.Addr.add,↓reduceIte] at hx368_1);have qi368 : (1 < l0.length) = True:=eq_true (by omega);(try rw [show ((1 : Int)).toNat = 1 from rfl] at hx368_0);(try rw [show 1 * 2 = 2 from rfl] at hx368_0);(try rw [show ((1 : Int)).toNat = 1 from rfl] at hx368_1);(try rw [show 1 * 2 = 2 from rfl] at hx368_1);have hn368_0 : ad366.block ≠ gb367:=Nat.ne_of_lt (Nat.lt_of_lt_of_le (by have:=World.block_lt_of_cell? _ _ hx368_0;first|rwa [add_block] at this|exact this) GW367.out);have hn368_1 : ad366.block ≠ gb367:=Nat.ne_of_lt (Nat.lt_of_lt_of_le (by have:=World.block_lt_of_cell? _ _ hx368_0;first|rwa [add_block] at this|exact this) GW367.out);replace hx368_0:=(HB.out.cell (World.block_lt_of_cell? w _ hx368_0)).trans hx368_0;replace hx368_1:=(HB.out.cell (World.block_lt_of_cell? w _ hx368_1)).trans hx368_1;replace hx368_0:=(cell_far (p:=⟨gb367,0,none⟩) (by first|(rw [add_block];exact hn368_0)|(show (Addr.add _ _).block ≠ _;rw [add_block];exact hn368_0)|exact hn368_0) (.int .i64 ((rd_T60 l0 x16_1).f0))).trans hx368_0;replace hx368_1:=(cell_far (p:=⟨gb367,0,none⟩) (by first|(rw [add_block];exact hn368_0)|(show (Addr.add _ _).block ≠ _;rw [add_block];exact hn368_0)|exact hn368_0) (.int .i64 ((rd_T60 l0 x16_1).f0))).trans hx368_1;replace hx368_0:=(cell_far (p:=⟨gb367,1,none⟩) (by first|(rw [add_block];exact hn368_1)|(show (Addr.add _ _).block ≠ _;rw [add_block];exact hn368_1)|exact hn368_1) (.int .i64 ((rd_T60 l0 x16_1).f1))).trans hx368_0;replace hx368_1:=(cell_far (p:=⟨gb367,1,none⟩) (by first|(rw [add_block];exact hn368_1)|(show (Addr.add _ _).block ≠ _;rw [add_block];exact hn368_1)|exact hn368_1) (.int .i64 ((rd_T60 l0 x16_1).f1))).trans hx368_1;clear hn368_0;clear hn368_1;replace p368:=eq_true p368;replace q368:=eq_true q368)|((with_reducible refine gate_dst (N:=9) rfl ?_);refine box_event ?hg (N:=9) ?hd (cs := #[.int .i64 0,.int .i64 0]) (t:=60) ?hr ?_;(case hd=>rfl);(case hg=>rfl);(case hr=>first|(go_simp;done)|(go_simp;rfl));intro gb369 hg w35 hbox hb;have n0_:=zM (zP (by (with_reducible repeat (first|apply zA|apply zB|apply zC));exact (Kd.R_mono (Kd.R_far (p:=⟨gb367,1,none⟩) (Kd.R_far (p:=⟨gb367,0,none⟩) (Kd.R_types HO_6.out BK367.out (by decide)) (fun _ hk=>hk.2) (.int .i64 ((rd_T60 l0 x16_1).f0))) (fun _ hk=>hk.2) (.int .i64 ((rd_T60 l0 x16_1).f1))) (fun _ h_=>h_.1))) hb);have n1_:=zM (blk_below (g:=gb367) (o := .cells #[.int .i64 ((rd_T60 l0 x16_1).f0),.int .i64 ((rd_T60 l0 x16_1).f1)] 60 (0,0)) (by (with_reducible repeat (first|refine zJ ?_ _|refine zK ?_|refine zL ?_ _));refine blk_put (cs := #[.int .i64 ((rd_T60 l0 x16_1).f0),.int .i64 0]) ?_ 1 _ rfl;(with_reducible repeat (first|refine zJ ?_ _|refine zK ?_|refine zL ?_ _));refine blk_put (cs := #[.int .i64 0,.int .i64 0]) ?_ 0 _ rfl;(with_reducible repeat (first|refine zJ ?_ _|refine zK ?_|refine zL ?_ _));exact BK367.out) hb);have n2_:=zM (zQ (by repeat (first|(with_reducible first|exact HB.out|apply zD|apply zE|apply zF|refine below_set ?_ GE367.out)|exact HB.out)) hb);have n3_:=zM (hbox);have n4_:=zM ((by rw [hg];exact (zR (by repeat (first|(with_reducible first|exact HB.out|apply zD|apply zE|apply zF|refine below_set ?_ GE367.out)|exact HB.out))) : w.heap.size ≤ gb369));have n5_:=zM ((by rw [hg];exact (zR (by repeat (first|(with_reducible first|exact HB.out|apply zD|apply zE|apply zF|refine below_set ?_ GE367.out)|exact HB.out))) : w.heap.size ≤ gb369));have n6_:=zM ((by rw [hg];exact Nat.ne_of_lt (blk_lt (g:=gb367) (o := .cells #[.int .i64 ((rd_T60 l0 x16_1).f0),.int .i64 ((rd_T60 l0 x16_1).f1)] 60 (0,0)) (by (with_reducible repeat (first|refine zJ ?_ _|refine zK ?_|refine zL ?_ _));refine blk_put (cs := #[.int .i64 ((rd_T60 l0 x16_1).f0),.int .i64 0]) ?_ 1 _ rfl;(with_reducible repeat (first|refine zJ ?_ _|refine zK ?_|refine zL ?_ _));refine blk_put (cs := #[.int .i64 0,.int .i64 0]) ?_ 0 _ rfl;(with_reducible repeat (first|refine zJ ?_ _|refine zK ?_|refine zL ?_ _));exact BK367.out)) : gb367 ≠ gb369));have n7_:=zM ((by rw [hg];exact Nat.ne_of_gt (blk_lt (g:=gb367) (o := .cells #[.int .i64 ((rd_T60 l0 x16_1).f0),.int .i64 ((rd_T60 l0 x16_1).f1)] 60 (0,0)) (by (with_reducible repeat (first|refine zJ ?_ _|refine zK ?_|refine zL ?_ _));refine blk_put (cs := #[.int .i64 ((rd_T60 l0 x16_1).f0),.int .i64 0]) ?_ 1 _ rfl;(with_reducible repeat (first|refine zJ ?_ _|refine zK ?_|refine zL ?_ _));refine blk_put (cs := #[.int .i64 0,.int .i64 0]) ?_ 0 _ rfl;(with_reducible repeat (first|refine zJ ?_ _|refine zK ?_|refine zL ?_ _));exact BK367.out)) : gb369 ≠ gb367));clear HO_6;clear BK367;clear HB;have HO_6:=n0_;have BK367:=n1_;have HB:=n2_;have BK369:=n3_;have GW369:=n4_;have GE369:=n5_;have NB367_369:=n6_;have NB369_367:=n7_;clear n0_ n1_ n2_ n3_ n4_ n5_ n6_ n7_;clear hb hbox hg;have hnb36:=NB369_367.out;have hnc36:=NB367_369.out;have hcz37_0 : w35.cell? ⟨gb369,0,none⟩ = some (.int .i64 0):=(blk_cell BK369.out 0).trans rfl;have hcz37_1 : w35.cell? ⟨gb369,1,none⟩ = some (.int .i64 0):=(blk_cell BK369.out 1).trans rfl;have hfz37_0:=blk_frozen BK369.out 0;have hfz37_1:=blk_frozen BK369.out 1;have hcz38_0 : w35.cell? ⟨gb367,0,none⟩ = some (.int .i64 ((rd_T60 l0 x16_1).f0)):=(blk_cell BK367.out 0).trans rfl;have hcz38_1 : w35.cell? ⟨gb367,1,none⟩ = some (.int .i64 ((rd_T60 l0 x16_1).f1)):=(blk_cell BK367.out 1).trans rfl;have hfz38_0:=blk_frozen BK367.out 0;have hfz38_1:=blk_frozen BK367.out 1)|((with_reducible refine gate_builtin (b := .append) (xs := #[.tmp 38,.tmp 41]) rfl ?_);at_builtin;refine Kd.R_append (Kd.int .i64) (w0:=w) w.heap.size rfl (.tmp 38) (.tmp 41) 40 3 (.int .i64 0) 8 rfl Try.underlying40 info3 rfl (by decide) (by omega) u6 x6_1 ((rd_T60 l0 x16_1).f0) [.int .i64 ((rd_T60 l0 x16_1).f0)] (fun _=>True) (fun _=>False) rfl (by first|(go_simp;done)|(go_simp;rfl)) ?aP (fun _ hk=>hk.elim) ?aF ?aO ?aB ?aS ?aL ?_;(case aP=>exact rfl);(case aB=>exact (by repeat (first|(with_reducible first|exact HB.out|apply zD|apply zE|apply zF|refine below_set ?_ GE367.out|refine below_set ?_ GE369.out)|exact HB.out)));(case aF=>exact (fun _ _=>trivial));(case aO=>exact (by (with_reducible repeat (first|apply zA|apply zB|apply zC));exact Kd.R_mono (Kd.R_far (p:=⟨gb369,1,none⟩) (Kd.R_far (p:=⟨gb369,0,none⟩) (Kd.R_types HO_6.out BK369.out (by decide)) (fun _ hk=>hk.2) (.int .i64 ((rd_T60 l0 1).f0))) (fun _ hk=>hk.2) (.int .i64 ((rd_T60 l0 1).f1))) (fun _ hk=>trivial)));(case aS=>exact (zR (by repeat (first|(with_reducible first|exact HB.out|apply zD|apply zE|apply zF|refine below_set ?_ GE367.out|refine below_set ?_ GE369.out)|exact HB.out))));(case aL=>have:=LMc32.out;omega);intro v375 w39 ho hb hg hat;rw [← Ny374.out] at ho;have n0_:=zM (blk_grown (g:=gb367) (o := .cells #[.int .i64 ((rd_T60 l0 x16_1).f0),.int .i64 ((rd_T60 l0 x16_1).f1)] 60 (0,0)) (by (with_reducible repeat (first|refine zJ ?_ _|refine zK ?_|refine zL ?_ _));refine blk_far ?_ NB367_369.out _;(with_reducible repeat (first|refine zJ ?_ _|refine zK ?_|refine zL ?_ _));refine blk_far ?_ NB367_369.out _;(with_reducible repeat (first|refine zJ ?_ _|refine zK ?_|refine zL ?_ _));exact BK367.out) hg (Kd.R_ne HO_6.out BK367.out (by decide)));have n1_:=zM (blk_grown (g:=gb369) (o := .cells #[.int .i64 ((rd_T60 l0 1).f0),.int .i64 ((rd_T60 l0 1).f1)] 60 (0,0)) (by (with_reducible repeat (first|refine zJ ?_ _|refine zK ?_|refine zL ?_ _));refine blk_put (cs := #[.int .i64 ((rd_T60 l0 1).f0),.int .i64 0]) ?_ 1 _ rfl;(with_reducible repeat (first|refine zJ ?_ _|refine zK ?_|refine zL ?_ _));refine blk_put (cs := #[.int .i64 0,.int .i64 0]) ?_ 0 _ rfl;(with_reducible repeat (first|refine zJ ?_ _|refine zK ?_|refine zL ?_ _));exact BK369.out) hg (Kd.R_ne HO_6.out BK369.out (by decide)));have n2_:=zM (hb);have n3_:=zM (ho);clear BK367;clear BK369;clear HB;clear HO_6;have BK367:=n0_;have BK369:=n1_;have HB:=n2_;have HO376:=n3_;clear n0_ n1_ n2_ n3_;clear ho hb hg hat))
           go_roundg k1
           case measure=>have:=HK1.out;omega
           case rel=>exact ⟨(y374),(wrap64 (x16_1 + 1)),(by first|rfl|(simp;done)|(simp [*];done)),H',⟨by have:=HK1.out;omega⟩,⟨by (with_reducible repeat (first|apply zA|apply zB|apply zC));exact HO376.out⟩,⟨by repeat (first|(with_reducible first|exact HB.out|apply zD|apply zE|apply zF|refine below_set ?_ GE367.out|refine below_set ?_ GE369.out)|exact HB.out)⟩⟩
          ·rw [if_neg c32] at H
           exact absurd H (by simp)
         ·rw [if_neg c31] at H
          have c31b0 : ((decide (((rd_T60 l0 x16_1).f1) > ((rd_T60 l0 1).f1))) == a1) = false:=by simpa using c31
          (try (have c31b1 : decide ((decide (((rd_T60 l0 x16_1).f1) > ((rd_T60 l0 1).f1))) = a1) = false:=by simpa using c31))
          (try (have c31b2 : ((decide (((rd_T60 l0 x16_1).f1) > ((rd_T60 l0 1).f1))) == a1) = false:=by simpa using c31))
          (try (have c31b3 : ¬ ((decide (((rd_T60 l0 x16_1).f1) > ((rd_T60 l0 1).f1))) = a1):=by simpa using c31))
          clear c31
          have H':=zM H
          clear H
          have p366 : 0 ≤ (x16_1 : Int):=of_decide_eq_true (by first|(with_reducible assumption)|assumption)
          have q366 : x16_1 < (l0.length : Int):=of_decide_eq_true (by first|(with_reducible assumption)|assumption)
          obtain ⟨ad366,e366,hx366_0,hx366_1⟩:=at_T60 HR0.out x16_1 p366 q366
          cases e366
          replace hx366_0:=(HB.out.cell (World.block_lt_of_cell? w _ hx366_0)).trans hx366_0
          replace hx366_1:=(HB.out.cell (World.block_lt_of_cell? w _ hx366_1)).trans hx366_1
          replace p366:=eq_true p366
          replace q366:=eq_true q366
          go_wp2_with (first|((with_reducible refine gate_dst (N:=8) rfl ?_);refine box_event ?hg (N:=8) ?hd (cs := #[.int .i64 0,.int .i64 0]) (t:=60) ?hr ?_;(case hd=>rfl);(case hg=>rfl);(case hr=>first|(go_simp;done)|(go_simp;rfl));intro gb367 hg w40 hbox hb;have n0_:=zM (zP (by (with_reducible repeat (first|apply zA|apply zB|apply zC));exact HO_6.out) hb);have n1_:=zM (zQ (by repeat (first|(with_reducible first|exact HB.out|apply zD|apply zE|apply zF)|exact HB.out)) hb);have n2_:=zM (hbox);have n3_:=zM ((by rw [hg];exact (zR (by repeat (first|(with_reducible first|exact HB.out|apply zD|apply zE|apply zF)|exact HB.out))) : w.heap.size ≤ gb367));have n4_:=zM ((by rw [hg];exact (zR (by repeat (first|(with_reducible first|exact HB.out|apply zD|apply zE|apply zF)|exact HB.out))) : w.heap.size ≤ gb367));clear HO_6;clear HB;have HO_6:=n0_;have HB:=n1_;have BK367:=n2_;have GW367:=n3_;have GE367:=n4_;clear n0_ n1_ n2_ n3_ n4_;clear hb hbox hg;have hcz41_0 : w40.cell? ⟨gb367,0,none⟩ = some (.int .i64 0):=(blk_cell BK367.out 0).trans rfl;have hcz41_1 : w40.cell? ⟨gb367,1,none⟩ = some (.int .i64 0):=(blk_cell BK367.out 1).trans rfl;have hfz41_0:=blk_frozen BK367.out 0;have hfz41_1:=blk_frozen BK367.out 1;have p368 : 0 ≤ (1 : Int):=(by omega);have q368 : 1 < (l0.length : Int):=of_decide_eq_true (by first|(with_reducible assumption)|assumption);obtain ⟨ad368,e368,hx368_0,hx368_1⟩:=at_T60 HR0.out 1 p368 q368;obtain rfl : ad366 = ad368:=(by injection e368);(try simp only [show (1 : Int).toNat = 1 from rfl,Nat.reduceMul,Nat.reduceEqDiff,Go.Addr.add,↓reduceIte] at hx368_0);(try simp only [show (1 : Int).toNat = 1 from rfl,Nat.reduceMul,Nat.reduceEqDiff,Go.Addr.add,↓reduceIte] at hx368_1);have qi368 : (1 < l0.length) = True:=eq_true (by omega);(try rw [show ((1 : Int)).toNat = 1 from rfl] at hx368_0);(try rw [show 1 * 2 = 2 from rfl] at hx368_0);(try rw [show ((1 : Int)).toNat = 1 from rfl] at hx368_1);(try rw [show 1 * 2 = 2 from rfl] at hx368_1);have hn368_0 : ad366.block ≠ gb367:=Nat.ne_of_lt (Nat.lt_of_lt_of_le (by have:=World.block_lt_of_cell? _ _ hx368_0;first|rwa [add_block] at this|exact this) GW367.out);have hn368_1 : ad366.block ≠ gb367:=Nat.ne_of_lt (Nat.lt_of_lt_of_le (by have:=World.block_lt_of_cell? _ _ hx368_0;first|rwa [add_block] at this|exact this) GW367.out);replace hx368_0:=(HB.out.cell (World.block_lt_of_cell? w _ hx368_0)).trans hx368_0;replace hx368_1:=(HB.out.cell (World.block_lt_of_cell? w _ hx368_1)).trans hx368_1;replace hx368_0:=(cell_far (p:=⟨gb367,0,none⟩) (by first|(rw [add_block];exact hn368_0)|(show (Addr.add _ _).block ≠ _;rw [add_block];exact hn368_0)|exact hn368_0) (.int .i64 ((rd_T60 l0 x16_1).f0))).trans hx368_0;replace hx368_1:=(cell_far (p:=⟨gb367,0,none⟩) (by first|(rw [add_block];exact hn368_0)|(show (Addr.add _ _).block ≠ _;rw [add_block];exact hn368_0)|exact hn368_0) (.int .i64 ((rd_T60 l0 x16_1).f0))).trans hx368_1;replace hx368_0:=(cell_far (p:=⟨gb367,1,none⟩) (by first|(rw [add_block];exact hn368_1)|(show (Addr.add _ _).block ≠ _;rw [add_block];exact hn368_1)|exact hn368_1) (.int .i64 ((rd_T60 l0 x16_1).f1))).trans hx368_0;replace hx368_1:=(cell_far (p:=⟨gb367,1,none⟩) (by first|(rw [add_block];exact hn368_1)|(show (Addr.add _ _).block ≠ _;rw [add_block];exact hn368_1)|exact hn368_1) (.int .i64 ((rd_T60 l0 x16_1).f1))).trans hx368_1;clear hn368_0;clear hn368_1;replace p368:=eq_true p368;replace q368:=eq_true q368)|((with_reducible refine gate_dst (N:=9) rfl ?_);refine box_event ?hg (N:=9) ?hd (cs := #[.int .i64 0,.int .i64 0]) (t:=60) ?hr ?_;(case hd=>rfl);(case hg=>rfl);(case hr=>first|(go_simp;done)|(go_simp;rfl));intro gb369 hg w42 hbox hb;have n0_:=zM (zP (by (with_reducible repeat (first|apply zA|apply zB|apply zC));exact (Kd.R_mono (Kd.R_far (p:=⟨gb367,1,none⟩) (Kd.R_far (p:=⟨gb367,0,none⟩) (Kd.R_types HO_6.out BK367.out (by decide)) (fun _ hk=>hk.2) (.int .i64 ((rd_T60 l0 x16_1).f0))) (fun _ hk=>hk.2) (.int .i64 ((rd_T60 l0 x16_1).f1))) (fun _ h_=>h_.1))) hb);have n1_:=zM (blk_below (g:=gb367) (o := .cells #[.int .i64 ((rd_T60 l0 x16_1).f0),.int .i64 ((rd_T60 l0 x16_1).f1)] 60 (0,0)) (by (with_reducible repeat (first|refine zJ ?_ _|refine zK ?_|refine zL ?_ _));refine blk_put (cs := #[.int .i64 ((rd_T60 l0 x16_1).f0),.int .i64 0]) ?_ 1 _ rfl;(with_reducible repeat (first|refine zJ ?_ _|refine zK ?_|refine zL ?_ _));refine blk_put (cs := #[.int .i64 0,.int .i64 0]) ?_ 0 _ rfl;(with_reducible repeat (first|refine zJ ?_ _|refine zK ?_|refine zL ?_ _));exact BK367.out) hb);have n2_:=zM (zQ (by repeat (first|(with_reducible first|exact HB.out|apply zD|apply zE|apply zF|refine below_set ?_ GE367.out)|exact HB.out)) hb);have n3_:=zM (hbox);have n4_:=zM ((by rw [hg];exact (zR (by repeat (first|(with_reducible first|exact HB.out|apply zD|apply zE|apply zF|refine below_set ?_ GE367.out)|exact HB.out))) : w.heap.size ≤ gb369));have n5_:=zM ((by rw [hg];exact (zR (by repeat (first|(with_reducible first|exact HB.out|apply zD|apply zE|apply zF|refine below_set ?_ GE367.out)|exact HB.out))) : w.heap.size ≤ gb369));have n6_:=zM ((by rw [hg];exact Nat.ne_of_lt (blk_lt (g:=gb367) (o := .cells #[.int .i64 ((rd_T60 l0 x16_1).f0),.int .i64 ((rd_T60 l0 x16_1).f1)] 60 (0,0)) (by (with_reducible repeat (first|refine zJ ?_ _|refine zK ?_|refine zL ?_ _));refine blk_put (cs := #[.int .i64 ((rd_T60 l0 x16_1).f0),.int .i64 0]) ?_ 1 _ rfl;(with_reducible repeat (first|refine zJ ?_ _|refine zK ?_|refine zL ?_ _));refine blk_put (cs := #[.int .i64 0,.int .i64 0]) ?_ 0 _ rfl;(with_reducible repeat (first|refine zJ ?_ _|refine zK ?_|refine zL ?_ _));exact BK367.out)) : gb367 ≠ gb369));have n7_:=zM ((by rw [hg];exact Nat.ne_of_gt (blk_lt (g:=gb367) (o := .cells #[.int .i64 ((rd_T60 l0 x16_1).f0),.int .i64 ((rd_T60 l0 x16_1).f1)] 60 (0,0)) (by (with_reducible repeat (first|refine zJ ?_ _|refine zK ?_|refine zL ?_ _));refine blk_put (cs := #[.int .i64 ((rd_T60 l0 x16_1).f0),.int .i64 0]) ?_ 1 _ rfl;(with_reducible repeat (first|refine zJ ?_ _|refine zK ?_|refine zL ?_ _));refine blk_put (cs := #[.int .i64 0,.int .i64 0]) ?_ 0 _ rfl;(with_reducible repeat (first|refine zJ ?_ _|refine zK ?_|refine zL ?_ _));exact BK367.out)) : gb369 ≠ gb367));clear HO_6;clear BK367;clear HB;have HO_6:=n0_;have BK367:=n1_;have HB:=n2_;have BK369:=n3_;have GW369:=n4_;have GE369:=n5_;have NB367_369:=n6_;have NB369_367:=n7_;clear n0_ n1_ n2_ n3_ n4_ n5_ n6_ n7_;clear hb hbox hg;have hnb43:=NB369_367.out;have hnc43:=NB367_369.out;have hcz44_0 : w42.cell? ⟨gb369,0,none⟩ = some (.int .i64 0):=(blk_cell BK369.out 0).trans rfl;have hcz44_1 : w42.cell? ⟨gb369,1,none⟩ = some (.int .i64 0):=(blk_cell BK369.out 1).trans rfl;have hfz44_0:=blk_frozen BK369.out 0;have hfz44_1:=blk_frozen BK369.out 1;have hcz45_0 : w42.cell? ⟨gb367,0,none⟩ = some (.int .i64 ((rd_T60 l0 x16_1).f0)):=(blk_cell BK367.out 0).trans rfl;have hcz45_1 : w42.cell? ⟨gb367,1,none⟩ = some (.int .i64 ((rd_T60 l0 x16_1).f1)):=(blk_cell BK367.out 1).trans rfl;have hfz45_0:=blk_frozen BK367.out 0;have hfz45_1:=blk_frozen BK367.out 1))
          go_roundg k1
          case measure=>have:=HK1.out;omega
          case rel=>exact ⟨(x6_1),(wrap64 (x16_1 + 1)),(by first|rfl|(simp;done)|(simp [*];done)),H',⟨by have:=HK1.out;omega⟩,⟨by (with_reducible repeat (first|apply zA|apply zB|apply zC));exact Kd.R_mono (Kd.R_far (p:=⟨gb369,1,none⟩) (Kd.R_far (p:=⟨gb369,0,none⟩) (Kd.R_types HO_6.out BK369.out (by decide)) (fun _ hk=>hk.2) (.int .i64 ((rd_T60 l0 1).f0))) (fun _ hk=>hk.2) (.int .i64 ((rd_T60 l0 1).f1))) (fun _ hk=>trivial)⟩,⟨by repeat (first|(with_reducible first|exact HB.out|apply zD|apply zE|apply zF|refine below_set ?_ GE367.out|refine below_set ?_ GE369.out)|exact HB.out)⟩⟩
       ·rw [if_neg c11] at H
        exact absurd H (by simp)
      ·rw [if_neg c10] at H
       exact absurd H (by simp)
     ·rw [if_neg c9] at H
      exact absurd H (by simp)
    ·rw [if_neg c8] at H
     have c8b0 : decide (x16_1 < (l0.length : Int)) = false:=decide_eq_false c8
     clear c8
     simp only [Option.some.injEq,Prod.mk.injEq] at H
     obtain ⟨rfl,rfl⟩:=H
     go_wp2
     go_ret2
     exact ⟨_,by first|rfl|(simp [errW_none,errW_some] <;> rfl)|(simp [*,errW_none,errW_some] <;> rfl),by (with_reducible repeat (first|apply zA|apply zB|apply zC));exact HO_6.out,by repeat (first|(with_reducible first|exact HB.out|apply zD|apply zE|apply zF)|exact HB.out)⟩
 ·replace c4:=Bool.eq_false_iff.mpr c4
  subst c4
  have H1 : (some (([] : List Int),false)) = some (r1,r2):=by rw [if_neg (show ¬ (false = true) by decide)] at H;exact H
  clear H
  have H:=H1
  clear H1
  simp only [Option.some.injEq,Prod.mk.injEq] at H
  obtain ⟨rfl,rfl⟩:=H
  go_enter Try.func30,Try.ntmps30
  go_wp2_with (first|((with_reducible refine gate_callee (f:=17) rfl ?_);refine goesL_ (some 11) rfl rfl Try.func17 (by kernel_rfl) rfl #[.slice A0 l0.length c0] rfl (by (try simp only [List.map_toArray,List.map_cons,List.map_nil]);first|done|rfl|(simp only [List.length_drop,List.length_take];rfl)) ?_;(with_reducible refine (impl_IsValidTides.calls k _ _ l0 false _ ?side1 ?side2 A3.out).mono ?_);(case side1=>repeat (first|exact HR0.out|(with_reducible refine zG ?_ _)|(with_reducible refine zH ?_ _)|(with_reducible refine zI ?_)));(case side2=>exact HC0.out);rintro e w46 ⟨rfl,hb⟩;refine ⟨_,rfl,?_⟩;have n0_:=zM (zQ (by repeat (first|(with_reducible first|exact HB.out|apply zD|apply zE|apply zF)|exact HB.out)) hb);clear HB;have HB:=n0_;clear n0_;(try clear hb);(try clear hb2);(try clear hk);(try clear hi)))
  go_ret2
  exact ⟨_,by first|rfl|(simp [errW_none,errW_some] <;> rfl)|(simp [*,errW_none,errW_some] <;> rfl),by first|exact Kd.R_nil _ _ _ _ _|exact Kd.N_nil _ _ _ _ _|exact Kd.V_nil _ _ _ _ _|exact Kd.Q_nil _ _ _ _ _|exact Kd.S_nil _ _ _ _ _,by repeat (first|(with_reducible first|exact HB.out|apply zD|apply zE|apply zF)|exact HB.out)⟩

end Go.Proofs.Ytbglkkepfddecaa.G

-- Written by wip/tools/gen.py out of the translation (the kit's printer, one namespace a seat). Lean checks it.
namespace Go.Proofs.Ytbglkkepfddecaa.G
open Go.RowKit Go.Proofs.YtbglkkepfddecaaW.PrintWords Go.Proofs.YtbglkkepfddecaaW.PrintLast Go.Proofs.YtbglkkepfddecaaW.PrintMore
attribute [local go_sem] max2_int min2_int max_two min_two max_three min_three max_four min_four   -- for this text's walks alone
set_option linter.unusedVariables false
set_option linter.unusedSimpArgs false

/-! ### laws_rBig: function 43 -/
def laws_rBig.f (l0 : List Int) : Option (Bool):=some (decide ((l0.length : Int) > 65536))
set_option maxHeartbeats 8000000 in
set_option maxRecDepth 100000 in
theorem laws_rBig.calls (A0 : Option Addr) (c0 : Nat) (l0 : List Int) (r : Bool) (w : World) (hr0 : Kd.C (Kd.int .u8) w A0 l0.length l0) (hc0 : l0.length ≤ c0) (h : laws_rBig.f l0 = some r) :
  Calls Try.prog 43 #[.slice A0 l0.length c0] w fun e w'=>e = .returned (.bool r) ∧ Drawn0 w w':=by
 have HR0:=zM hr0
 have HC0:=zM hc0
 clear hr0 hc0
 have H : (some (decide ((l0.length : Int) > 65536))) = some r:=h
 clear h
 obtain rfl:=Option.some.inj H
 go_enter Try.func43,Try.ntmps43
 go_wp2
 go_ret
 exact ⟨by first|rfl|(simp;done)|(simp [*];done),by repeat (first|exact Drawn0.refl _|apply Drawn0.step)⟩

/-- A state of type 87 at block g of W; what its slices lead to came in by w0. -/
def IsS87 (w0 W : World) (g : Nat) (f0 : List Int) (f1 : Int) (f2 : Int) : Prop := ∃ A0 c0,W.heap[g]? = some (.cells #[.slice A0 f0.length c0,.int .i64 f1,.int .u64 f2] 87 (0,0)) ∧ w0.heap.size ≤ g ∧ Kd.C (Kd.int .u8) w0 A0 f0.length f0
theorem IsS87.grown {w0 W : World} {g : Nat} {f0 : List Int} {f1 : Int} {f2 : Int} {W1 : World} {row : Option Nat} (h : IsS87 w0 W g f0 f1 f2) (hw : W.grownBy W1 row) (hne : some g ≠ row) : IsS87 w0 W1 g f0 f1 f2:=by
 obtain ⟨A0,c0,hb,hg,hr0⟩:=h
 exact ⟨A0,c0,blk_grown hb hw hne,hg,hr0⟩
theorem IsS87.below {w0 W : World} {g : Nat} {f0 : List Int} {f1 : Int} {f2 : Int} {W1 : World} (h : IsS87 w0 W g f0 f1 f2) (hw : Below W.heap.size W W1) : IsS87 w0 W1 g f0 f1 f2:=h.grown (grown_of_below hw none) (by simp)
theorem IsS87.alloc {w0 W : World} {g : Nat} {f0 : List Int} {f1 : Int} {f2 : Int} (h : IsS87 w0 W g f0 f1 f2) (o : Obj) : IsS87 w0 (W.alloc o) g f0 f1 f2:=h.below (zD (Below.refl _ _) o)
theorem IsS87.drewN {w0 W : World} {g : Nat} {f0 : List Int} {f1 : Int} {f2 : Int} (h : IsS87 w0 W g f0 f1 f2) (m : Nat) : IsS87 w0 (W.drewN m) g f0 f1 f2:=h
theorem IsS87.drew {w0 W : World} {g : Nat} {f0 : List Int} {f1 : Int} {f2 : Int} (h : IsS87 w0 W g f0 f1 f2) : IsS87 w0 W.drew g f0 f1 f2:=h
theorem IsS87.apart {w0 W : World} {g : Nat} {f0 : List Int} {f1 : Int} {f2 : Int} {α : Type} {d : Kd α} {e : Nat} {base : Nat} {ok : Nat → Prop} {v : Value} {xs : List α} (h : IsS87 w0 W g f0 f1 f2) (ho : d.R e W base ok v xs) (ht : ∀ q,q ∈ e :: d.E → q ≠ 87) : d.R e W base (fun k=>ok k ∧ k ≠ g) v xs:=by
 obtain ⟨A0,c0,hb,hg,hr0⟩:=h
 exact Kd.R_types ho hb ht
theorem IsS87.own_ne {w0 W : World} {g : Nat} {f0 : List Int} {f1 : Int} {f2 : Int} {α : Type} {d : Kd α} {e : Nat} {base : Nat} {ok : Nat → Prop} {v : Value} {xs : List α} (h : IsS87 w0 W g f0 f1 f2) (ho : d.R e W base ok v xs) (ht : e ≠ 87) : some g ≠ v.ownBlock:=by
 obtain ⟨A0,c0,hb,hg,hr0⟩:=h
 exact Kd.R_ne ho hb ht
theorem IsS87.lt {w0 W : World} {g : Nat} {f0 : List Int} {f1 : Int} {f2 : Int} (h : IsS87 w0 W g f0 f1 f2) : g < W.heap.size:=by
 obtain ⟨A0,c0,hb,hg,hr0⟩:=h
 exact blk_lt hb
theorem IsS87.ge {w0 W : World} {g : Nat} {f0 : List Int} {f1 : Int} {f2 : Int} (h : IsS87 w0 W g f0 f1 f2) : w0.heap.size ≤ g:=by
 obtain ⟨A0,c0,hb,hg,hr0⟩:=h
 exact hg
theorem IsS87.far {w0 W : World} {g : Nat} {f0 : List Int} {f1 : Int} {f2 : Int} {p : Addr} (h : IsS87 w0 W g f0 f1 f2) (hne : g ≠ p.block) (u : Value) : IsS87 w0 (W.setCell p u) g f0 f1 f2:=by
 obtain ⟨A0,c0,hb,hg,hr0⟩:=h
 exact ⟨A0,c0,blk_far hb hne u,hg,hr0⟩
theorem cellS87_0 {W : World} {g : Nat} {A0 : Option Addr} {c0 : Nat} {f0 : List Int} {f1 : Int} {f2 : Int} (h : W.heap[g]? = some (.cells #[.slice A0 f0.length c0,.int .i64 f1,.int .u64 f2] 87 (0,0))) : W.cell? ⟨g,0,none⟩ = some (.slice A0 f0.length c0):=(blk_cell h 0).trans rfl
theorem cellS87_1 {W : World} {g : Nat} {A0 : Option Addr} {c0 : Nat} {f0 : List Int} {f1 : Int} {f2 : Int} (h : W.heap[g]? = some (.cells #[.slice A0 f0.length c0,.int .i64 f1,.int .u64 f2] 87 (0,0))) : W.cell? ⟨g,1,none⟩ = some (.int .i64 f1):=(blk_cell h 1).trans rfl
theorem IsS87.set_1 {w0 W : World} {g : Nat} {f0 : List Int} {f1 : Int} {f2 : Int} (h : IsS87 w0 W g f0 f1 f2) (x : Int) : IsS87 w0 (W.setCell ⟨g,1,none⟩ (.int .i64 x)) g f0 x f2:=by
 obtain ⟨A0,c0,hb,hg,hr0⟩:=h
 exact ⟨A0,c0,by simpa using blk_set hb 1 (.int .i64 x),hg,hr0⟩
theorem cellS87_2 {W : World} {g : Nat} {A0 : Option Addr} {c0 : Nat} {f0 : List Int} {f1 : Int} {f2 : Int} (h : W.heap[g]? = some (.cells #[.slice A0 f0.length c0,.int .i64 f1,.int .u64 f2] 87 (0,0))) : W.cell? ⟨g,2,none⟩ = some (.int .u64 f2):=(blk_cell h 2).trans rfl
theorem IsS87.set_2 {w0 W : World} {g : Nat} {f0 : List Int} {f1 : Int} {f2 : Int} (h : IsS87 w0 W g f0 f1 f2) (x : Int) : IsS87 w0 (W.setCell ⟨g,2,none⟩ (.int .u64 x)) g f0 f1 x:=by
 obtain ⟨A0,c0,hb,hg,hr0⟩:=h
 exact ⟨A0,c0,by simpa using blk_set hb 2 (.int .u64 x),hg,hr0⟩
/-! ### spec_l1Cur_next: function 75 -/
def spec_l1Cur_next.f (s0_0 : List Int) (s0_1 : Int) (s0_2 : Int) : Option (Int × Int × Int):=if s0_1 < (s0_0.length : Int) then (if 0 ≤ s0_1 then (if (wrap64 (s0_1 + 1)) ≤ (s0_0.length : Int) then (some (wrap64 (rd s0_0 s0_1),wrap64 (s0_1 + 1),IntKind.u64.wrap ((IntKind.u64.wrap ((IntKind.u64.wrap (s0_2 * 6364136223846793005)) + (IntKind.u64.wrap (wrap64 (rd s0_0 s0_1))))) + 906906))) else (some (wrap64 (Go.bits .and .u64 ((IntKind.u64.wrap ((IntKind.u64.wrap ((IntKind.u64.wrap (s0_2 * 6364136223846793005)) + (IntKind.u64.wrap (wrap64 (rd s0_0 s0_1))))) + 906906)) / 1099511627776) 255),wrap64 (s0_1 + 1),IntKind.u64.wrap ((IntKind.u64.wrap ((IntKind.u64.wrap (s0_2 * 6364136223846793005)) + (IntKind.u64.wrap (wrap64 (rd s0_0 s0_1))))) + 906906)))) else (none)) else (if (wrap64 (s0_1 + 1)) ≤ (s0_0.length : Int) then (some (0,wrap64 (s0_1 + 1),IntKind.u64.wrap ((IntKind.u64.wrap (IntKind.u64.wrap (s0_2 * 6364136223846793005))) + 906906))) else (some (wrap64 (Go.bits .and .u64 ((IntKind.u64.wrap ((IntKind.u64.wrap (IntKind.u64.wrap (s0_2 * 6364136223846793005))) + 906906)) / 1099511627776) 255),wrap64 (s0_1 + 1),IntKind.u64.wrap ((IntKind.u64.wrap (IntKind.u64.wrap (s0_2 * 6364136223846793005))) + 906906))))
set_option maxHeartbeats 8000000 in
set_option maxRecDepth 100000 in
theorem spec_l1Cur_next.calls (g : Nat) (s0_0 : List Int) (s0_1 : Int) (s0_2 : Int) (r1 : Int) (r2 : Int) (r3 : Int) (w0 w : World) (hI : IsS87 w0 w g s0_0 s0_1 s0_2) (hB : Below w0.heap.size w0 w) (h : spec_l1Cur_next.f s0_0 s0_1 s0_2 = some (r1,r2,r3)) :
  Calls Try.prog 75 #[.pointer (some ⟨g,0,none⟩)] w fun e w'=>e = .returned (.int .i64 r1) ∧ IsS87 w0 w' g s0_0 r2 r3 ∧ Below w0.heap.size w0 w' ∧ KeepBut w w' g none:=by
 have HI0:=zM hI
 have HK:=zM (KeepBut.refl w g none)
 have HL:=zM hB.size
 clear hI
 have HW0:=zM hB.size
 have HB:=zM hB
 clear hB
 have H : (if s0_1 < (s0_0.length : Int) then (if 0 ≤ s0_1 then (if (wrap64 (s0_1 + 1)) ≤ (s0_0.length : Int) then (some (wrap64 (rd s0_0 s0_1),wrap64 (s0_1 + 1),IntKind.u64.wrap ((IntKind.u64.wrap ((IntKind.u64.wrap (s0_2 * 6364136223846793005)) + (IntKind.u64.wrap (wrap64 (rd s0_0 s0_1))))) + 906906))) else (some (wrap64 (Go.bits .and .u64 ((IntKind.u64.wrap ((IntKind.u64.wrap ((IntKind.u64.wrap (s0_2 * 6364136223846793005)) + (IntKind.u64.wrap (wrap64 (rd s0_0 s0_1))))) + 906906)) / 1099511627776) 255),wrap64 (s0_1 + 1),IntKind.u64.wrap ((IntKind.u64.wrap ((IntKind.u64.wrap (s0_2 * 6364136223846793005)) + (IntKind.u64.wrap (wrap64 (rd s0_0 s0_1))))) + 906906)))) else (none)) else (if (wrap64 (s0_1 + 1)) ≤ (s0_0.length : Int) then (some (0,wrap64 (s0_1 + 1),IntKind.u64.wrap ((IntKind.u64.wrap (IntKind.u64.wrap (s0_2 * 6364136223846793005))) + 906906))) else (some (wrap64 (Go.bits .and .u64 ((IntKind.u64.wrap ((IntKind.u64.wrap (IntKind.u64.wrap (s0_2 * 6364136223846793005))) + 906906)) / 1099511627776) 255),wrap64 (s0_1 + 1),IntKind.u64.wrap ((IntKind.u64.wrap (IntKind.u64.wrap (s0_2 * 6364136223846793005))) + 906906))))) = some (r1,r2,r3):=h
 clear h
 by_cases c2 : s0_1 < (s0_0.length : Int)
 ·rw [if_pos c2] at H
  have c2b0 : decide (s0_1 < (s0_0.length : Int)) = true:=decide_eq_true c2
  clear c2
  by_cases c3 : 0 ≤ s0_1
  ·rw [if_pos c3] at H
   have c3b0 : decide (0 ≤ s0_1) = true:=decide_eq_true c3
   clear c3
   by_cases c4 : (wrap64 (s0_1 + 1)) ≤ (s0_0.length : Int)
   ·rw [if_pos c4] at H
    have c4b0 : decide ((wrap64 (s0_1 + 1)) ≤ (s0_0.length : Int)) = true:=decide_eq_true c4
    clear c4
    simp only [Option.some.injEq,Prod.mk.injEq] at H
    obtain ⟨rfl,rfl,rfl⟩:=H
    obtain ⟨ASz5_0,cSz5_0,HGz5,hgz5,HSz5_0⟩:=HI0.out
    have hcz5_0:=cellS87_0 HGz5
    have hcz5_1:=cellS87_1 HGz5
    have hcz5_2:=cellS87_2 HGz5
    have hfz5_1:=blk_frozen HGz5 1
    have hfz5_2:=blk_frozen HGz5 2
    clear HGz5 hgz5
    have p557 : 0 ≤ (s0_1 : Int):=of_decide_eq_true (by first|(with_reducible assumption)|assumption)
    have q557 : s0_1 < (s0_0.length : Int):=of_decide_eq_true (by first|(with_reducible assumption)|assumption)
    obtain ⟨ad557,e557,hx557_0⟩:=Kd.at_int HSz5_0 s0_1 p557 q557
    cases e557
    replace hx557_0:=pw_cell_below HB.out hx557_0
    replace p557:=eq_true p557
    replace q557:=eq_true q557
    go_enter Try.func75,Try.ntmps75
    go_wp2
    repeat (go_quiet (fail);try go_wp2)
    go_ret
    exact ⟨by first|rfl|(simp [errW_none,errW_some] <;> rfl)|(simp [*,errW_none,errW_some] <;> rfl),by repeat (first|(with_reducible first|exact HI0.out|apply IsS87.alloc|apply IsS87.drewN|apply IsS87.drew|apply IsS87.set_1|apply IsS87.set_2)|exact HI0.out),by repeat (first|(with_reducible first|exact HB.out|apply zD|apply zE|apply zF|refine below_set ?_ (IsS87.ge HI0.out))|exact HB.out),by repeat (first|(with_reducible first|exact HK.out|apply KeepBut.set_|apply keep_drewN|apply keep_drew|apply keep_alloc)|exact HK.out)⟩
   ·rw [if_neg c4] at H
    have c4b0 : decide ((wrap64 (s0_1 + 1)) ≤ (s0_0.length : Int)) = false:=decide_eq_false c4
    clear c4
    simp only [Option.some.injEq,Prod.mk.injEq] at H
    obtain ⟨rfl,rfl,rfl⟩:=H
    obtain ⟨ASz6_0,cSz6_0,HGz6,hgz6,HSz6_0⟩:=HI0.out
    have hcz6_0:=cellS87_0 HGz6
    have hcz6_1:=cellS87_1 HGz6
    have hcz6_2:=cellS87_2 HGz6
    have hfz6_1:=blk_frozen HGz6 1
    have hfz6_2:=blk_frozen HGz6 2
    clear HGz6 hgz6
    have p557 : 0 ≤ (s0_1 : Int):=of_decide_eq_true (by first|(with_reducible assumption)|assumption)
    have q557 : s0_1 < (s0_0.length : Int):=of_decide_eq_true (by first|(with_reducible assumption)|assumption)
    obtain ⟨ad557,e557,hx557_0⟩:=Kd.at_int HSz6_0 s0_1 p557 q557
    cases e557
    replace hx557_0:=pw_cell_below HB.out hx557_0
    replace p557:=eq_true p557
    replace q557:=eq_true q557
    go_enter Try.func75,Try.ntmps75
    go_wp2
    repeat (go_quiet (fail);try go_wp2)
    go_ret
    exact ⟨by first|rfl|(simp [errW_none,errW_some] <;> rfl)|(simp [*,errW_none,errW_some] <;> rfl),by repeat (first|(with_reducible first|exact HI0.out|apply IsS87.alloc|apply IsS87.drewN|apply IsS87.drew|apply IsS87.set_1|apply IsS87.set_2)|exact HI0.out),by repeat (first|(with_reducible first|exact HB.out|apply zD|apply zE|apply zF|refine below_set ?_ (IsS87.ge HI0.out))|exact HB.out),by repeat (first|(with_reducible first|exact HK.out|apply KeepBut.set_|apply keep_drewN|apply keep_drew|apply keep_alloc)|exact HK.out)⟩
  ·rw [if_neg c3] at H
   exact absurd H (by simp)
 ·rw [if_neg c2] at H
  have c2b0 : decide (s0_1 < (s0_0.length : Int)) = false:=decide_eq_false c2
  clear c2
  by_cases c7 : (wrap64 (s0_1 + 1)) ≤ (s0_0.length : Int)
  ·rw [if_pos c7] at H
   have c7b0 : decide ((wrap64 (s0_1 + 1)) ≤ (s0_0.length : Int)) = true:=decide_eq_true c7
   clear c7
   simp only [Option.some.injEq,Prod.mk.injEq] at H
   obtain ⟨rfl,rfl,rfl⟩:=H
   obtain ⟨ASz8_0,cSz8_0,HGz8,hgz8,HSz8_0⟩:=HI0.out
   have hcz8_0:=cellS87_0 HGz8
   have hcz8_1:=cellS87_1 HGz8
   have hcz8_2:=cellS87_2 HGz8
   have hfz8_1:=blk_frozen HGz8 1
   have hfz8_2:=blk_frozen HGz8 2
   clear HGz8 hgz8
   go_enter Try.func75,Try.ntmps75
   go_wp2
   repeat (go_quiet (fail);try go_wp2)
   go_ret
   exact ⟨by first|rfl|(simp [errW_none,errW_some] <;> rfl)|(simp [*,errW_none,errW_some] <;> rfl),by repeat (first|(with_reducible first|exact HI0.out|apply IsS87.alloc|apply IsS87.drewN|apply IsS87.drew|apply IsS87.set_1|apply IsS87.set_2)|exact HI0.out),by repeat (first|(with_reducible first|exact HB.out|apply zD|apply zE|apply zF|refine below_set ?_ (IsS87.ge HI0.out))|exact HB.out),by repeat (first|(with_reducible first|exact HK.out|apply KeepBut.set_|apply keep_drewN|apply keep_drew|apply keep_alloc)|exact HK.out)⟩
  ·rw [if_neg c7] at H
   have c7b0 : decide ((wrap64 (s0_1 + 1)) ≤ (s0_0.length : Int)) = false:=decide_eq_false c7
   clear c7
   simp only [Option.some.injEq,Prod.mk.injEq] at H
   obtain ⟨rfl,rfl,rfl⟩:=H
   obtain ⟨ASz9_0,cSz9_0,HGz9,hgz9,HSz9_0⟩:=HI0.out
   have hcz9_0:=cellS87_0 HGz9
   have hcz9_1:=cellS87_1 HGz9
   have hcz9_2:=cellS87_2 HGz9
   have hfz9_1:=blk_frozen HGz9 1
   have hfz9_2:=blk_frozen HGz9 2
   clear HGz9 hgz9
   go_enter Try.func75,Try.ntmps75
   go_wp2
   repeat (go_quiet (fail);try go_wp2)
   go_ret
   exact ⟨by first|rfl|(simp [errW_none,errW_some] <;> rfl)|(simp [*,errW_none,errW_some] <;> rfl),by repeat (first|(with_reducible first|exact HI0.out|apply IsS87.alloc|apply IsS87.drewN|apply IsS87.drew|apply IsS87.set_1|apply IsS87.set_2)|exact HI0.out),by repeat (first|(with_reducible first|exact HB.out|apply zD|apply zE|apply zF|refine below_set ?_ (IsS87.ge HI0.out))|exact HB.out),by repeat (first|(with_reducible first|exact HK.out|apply KeepBut.set_|apply keep_drewN|apply keep_drew|apply keep_alloc)|exact HK.out)⟩

end Go.Proofs.Ytbglkkepfddecaa.G

-- Written by wip/tools/gen.py out of the translation (the kit's printer, one namespace a seat). Lean checks it.
namespace Go.Proofs.Ytbglkkepfddecaa.G
open Go.RowKit Go.Proofs.YtbglkkepfddecaaW.PrintWords Go.Proofs.YtbglkkepfddecaaW.PrintLast Go.Proofs.YtbglkkepfddecaaW.PrintMore
attribute [local go_sem] max2_int min2_int max_two min_two max_three min_three max_four min_four   -- for this text's walks alone
set_option linter.unusedVariables false
set_option linter.unusedSimpArgs false

/-! ### spec_l1Cur_pick: function 72 -/
def spec_l1Cur_pick.f (s0_0 : List Int) (s0_1 : Int) (s0_2 : Int) (a1 : Int) : Option (Int × Int × Int):=if a1 ≤ 1 then (some (0,s0_1,s0_2)) else ((spec_l1Cur_next.f s0_0 s0_1 s0_2).bind fun bt558=>(if a1 > 200 then ((spec_l1Cur_next.f s0_0 bt558.2.1 bt558.2.2).bind fun bt561=>(if a1 = 0 then (none) else (some (Int.tmod (wrap64 ((wrap64 (bt558.1 * 256)) + bt561.1)) a1,bt561.2.1,bt561.2.2)))) else (if a1 = 0 then (none) else (some (Int.tmod bt558.1 a1,bt558.2.1,bt558.2.2)))))
set_option maxHeartbeats 8000000 in
set_option maxRecDepth 100000 in
theorem spec_l1Cur_pick.calls (g : Nat) (s0_0 : List Int) (s0_1 : Int) (s0_2 : Int) (a1 : Int) (r1 : Int) (r2 : Int) (r3 : Int) (w0 w : World) (hI : IsS87 w0 w g s0_0 s0_1 s0_2) (hB : Below w0.heap.size w0 w) (h : spec_l1Cur_pick.f s0_0 s0_1 s0_2 a1 = some (r1,r2,r3)) :
  Calls Try.prog 72 #[.pointer (some ⟨g,0,none⟩),.int .i64 a1] w fun e w'=>e = .returned (.int .i64 r1) ∧ IsS87 w0 w' g s0_0 r2 r3 ∧ Below w0.heap.size w0 w' ∧ KeepBut w w' g none:=by
 have HI0:=zM hI
 have HK:=zM (KeepBut.refl w g none)
 have HL:=zM hB.size
 clear hI
 have HW0:=zM hB.size
 have HB:=zM hB
 clear hB
 have H : (if a1 ≤ 1 then (some (0,s0_1,s0_2)) else ((spec_l1Cur_next.f s0_0 s0_1 s0_2).bind fun bt558=>(if a1 > 200 then ((spec_l1Cur_next.f s0_0 bt558.2.1 bt558.2.2).bind fun bt561=>(if a1 = 0 then (none) else (some (Int.tmod (wrap64 ((wrap64 (bt558.1 * 256)) + bt561.1)) a1,bt561.2.1,bt561.2.2)))) else (if a1 = 0 then (none) else (some (Int.tmod bt558.1 a1,bt558.2.1,bt558.2.2)))))) = some (r1,r2,r3):=h
 clear h
 by_cases c3 : a1 ≤ 1
 ·rw [if_pos c3] at H
  have c3b0 : decide (a1 ≤ 1) = true:=decide_eq_true c3
  clear c3
  simp only [Option.some.injEq,Prod.mk.injEq] at H
  obtain ⟨rfl,rfl,rfl⟩:=H
  go_enter Try.func72,Try.ntmps72
  go_wp2
  go_ret
  exact ⟨by first|rfl|(simp [errW_none,errW_some] <;> rfl)|(simp [*,errW_none,errW_some] <;> rfl),by repeat (first|(with_reducible first|exact HI0.out|apply IsS87.alloc|apply IsS87.drewN|apply IsS87.drew|apply IsS87.set_1|apply IsS87.set_2)|exact HI0.out),by repeat (first|(with_reducible first|exact HB.out|apply zD|apply zE|apply zF|refine below_set ?_ (IsS87.ge HI0.out))|exact HB.out),by repeat (first|(with_reducible first|exact HK.out|apply KeepBut.set_|apply keep_drewN|apply keep_drew|apply keep_alloc)|exact HK.out)⟩
 ·rw [if_neg c3] at H
  have c3b0 : decide (a1 ≤ 1) = false:=decide_eq_false c3
  clear c3
  replace H:=Option.bind_eq_some_iff.mp H
  obtain ⟨⟨t558,t559,t560⟩,A40,H⟩:=H
  replace H : (if a1 > 200 then ((spec_l1Cur_next.f s0_0 t559 t560).bind fun bt561=>(if a1 = 0 then (none) else (some (Int.tmod (wrap64 ((wrap64 (t558 * 256)) + bt561.1)) a1,bt561.2.1,bt561.2.2)))) else (if a1 = 0 then (none) else (some (Int.tmod t558 a1,t559,t560)))) = some (r1,r2,r3):=H
  have A4:=zM A40
  clear A40
  by_cases c5 : a1 > 200
  ·rw [if_pos c5] at H
   have c5b0 : decide (200 < a1) = true:=decide_eq_true c5
   clear c5
   replace H:=Option.bind_eq_some_iff.mp H
   obtain ⟨⟨t561,t562,t563⟩,A60,H⟩:=H
   replace H : (if a1 = 0 then (none) else (some (Int.tmod (wrap64 ((wrap64 (t558 * 256)) + t561)) a1,t562,t563))) = some (r1,r2,r3):=H
   have A6:=zM A60
   clear A60
   by_cases c7 : a1 = 0
   ·rw [if_pos c7] at H
    exact absurd H (by simp)
   ·rw [if_neg c7] at H
    have c7b0 : (a1 == 0) = false:=beq_eq_false_iff_ne.mpr c7
    have c7b1 : (a1 != 0) = true:=bne_iff_ne.mpr c7
    simp only [Option.some.injEq,Prod.mk.injEq] at H
    obtain ⟨rfl,rfl,rfl⟩:=H
    go_enter Try.func72,Try.ntmps72
    go_wp2_with (first|((with_reducible refine gate_callee (f:=75) rfl ?_);refine goesL_ (some 9) rfl rfl Try.func75 (by kernel_rfl) rfl #[.pointer (some ⟨g,0,none⟩)] rfl (by (try simp only [List.map_toArray,List.map_cons,List.map_nil]);first|done|rfl|(simp only [List.length_drop,List.length_take];rfl)) ?_;(with_reducible refine (spec_l1Cur_next.calls g s0_0 s0_1 s0_2 t558 t559 t560 w0 _ ?side1 ?side2 A4.out).mono ?_);(case side1=>repeat (first|(with_reducible first|exact HI0.out|apply IsS87.alloc|apply IsS87.drewN|apply IsS87.drew|apply IsS87.set_1|apply IsS87.set_2)|exact HI0.out));(case side2=>repeat (first|(with_reducible first|exact HB.out|apply zD|apply zE|apply zF|refine below_set ?_ (IsS87.ge HI0.out))|exact HB.out));rintro e w8 ⟨rfl,hi,hb,hk⟩;refine ⟨_,rfl,?_⟩;have n0_:=zM (KeepBut.trans (by repeat (first|(with_reducible first|exact HK.out|apply KeepBut.set_|apply keep_drewN|apply keep_drew|apply keep_alloc)|exact HK.out)) hk (.inl rfl));have n1_:=zM (hb);have n2_:=zM (hi);clear HK;clear HB;clear HI0;have HK:=n0_;have HB:=n1_;have HI0:=n2_;clear n0_ n1_ n2_;(try clear hb);(try clear hb2);(try clear hk);(try clear hi))|((with_reducible refine gate_callee (f:=75) rfl ?_);refine goesL_ (some 15) rfl rfl Try.func75 (by kernel_rfl) rfl #[.pointer (some ⟨g,0,none⟩)] rfl (by (try simp only [List.map_toArray,List.map_cons,List.map_nil]);first|done|rfl|(simp only [List.length_drop,List.length_take];rfl)) ?_;(with_reducible refine (spec_l1Cur_next.calls g s0_0 t559 t560 t561 t562 t563 w0 _ ?side1 ?side2 A6.out).mono ?_);(case side1=>repeat (first|(with_reducible first|exact HI0.out|apply IsS87.alloc|apply IsS87.drewN|apply IsS87.drew|apply IsS87.set_1|apply IsS87.set_2)|exact HI0.out));(case side2=>repeat (first|(with_reducible first|exact HB.out|apply zD|apply zE|apply zF|refine below_set ?_ (IsS87.ge HI0.out))|exact HB.out));rintro e w9 ⟨rfl,hi,hb,hk⟩;refine ⟨_,rfl,?_⟩;have n0_:=zM (KeepBut.trans (by repeat (first|(with_reducible first|exact HK.out|apply KeepBut.set_|apply keep_drewN|apply keep_drew|apply keep_alloc)|exact HK.out)) hk (.inl rfl));have n1_:=zM (hb);have n2_:=zM (hi);clear HK;clear HB;clear HI0;have HK:=n0_;have HB:=n1_;have HI0:=n2_;clear n0_ n1_ n2_;(try clear hb);(try clear hb2);(try clear hk);(try clear hi)))
    go_ret
    exact ⟨by first|rfl|(simp [errW_none,errW_some] <;> rfl)|(simp [*,errW_none,errW_some] <;> rfl),by repeat (first|(with_reducible first|exact HI0.out|apply IsS87.alloc|apply IsS87.drewN|apply IsS87.drew|apply IsS87.set_1|apply IsS87.set_2)|exact HI0.out),by repeat (first|(with_reducible first|exact HB.out|apply zD|apply zE|apply zF|refine below_set ?_ (IsS87.ge HI0.out))|exact HB.out),by repeat (first|(with_reducible first|exact HK.out|apply KeepBut.set_|apply keep_drewN|apply keep_drew|apply keep_alloc)|exact HK.out)⟩
  ·rw [if_neg c5] at H
   have c5b0 : decide (200 < a1) = false:=decide_eq_false c5
   clear c5
   by_cases c10 : a1 = 0
   ·rw [if_pos c10] at H
    exact absurd H (by simp)
   ·rw [if_neg c10] at H
    have c10b0 : (a1 == 0) = false:=beq_eq_false_iff_ne.mpr c10
    have c10b1 : (a1 != 0) = true:=bne_iff_ne.mpr c10
    simp only [Option.some.injEq,Prod.mk.injEq] at H
    obtain ⟨rfl,rfl,rfl⟩:=H
    go_enter Try.func72,Try.ntmps72
    go_wp2_with (first|((with_reducible refine gate_callee (f:=75) rfl ?_);refine goesL_ (some 9) rfl rfl Try.func75 (by kernel_rfl) rfl #[.pointer (some ⟨g,0,none⟩)] rfl (by (try simp only [List.map_toArray,List.map_cons,List.map_nil]);first|done|rfl|(simp only [List.length_drop,List.length_take];rfl)) ?_;(with_reducible refine (spec_l1Cur_next.calls g s0_0 s0_1 s0_2 t558 t559 t560 w0 _ ?side1 ?side2 A4.out).mono ?_);(case side1=>repeat (first|(with_reducible first|exact HI0.out|apply IsS87.alloc|apply IsS87.drewN|apply IsS87.drew|apply IsS87.set_1|apply IsS87.set_2)|exact HI0.out));(case side2=>repeat (first|(with_reducible first|exact HB.out|apply zD|apply zE|apply zF|refine below_set ?_ (IsS87.ge HI0.out))|exact HB.out));rintro e w11 ⟨rfl,hi,hb,hk⟩;refine ⟨_,rfl,?_⟩;have n0_:=zM (KeepBut.trans (by repeat (first|(with_reducible first|exact HK.out|apply KeepBut.set_|apply keep_drewN|apply keep_drew|apply keep_alloc)|exact HK.out)) hk (.inl rfl));have n1_:=zM (hb);have n2_:=zM (hi);clear HK;clear HB;clear HI0;have HK:=n0_;have HB:=n1_;have HI0:=n2_;clear n0_ n1_ n2_;(try clear hb);(try clear hb2);(try clear hk);(try clear hi)))
    go_ret
    exact ⟨by first|rfl|(simp [errW_none,errW_some] <;> rfl)|(simp [*,errW_none,errW_some] <;> rfl),by repeat (first|(with_reducible first|exact HI0.out|apply IsS87.alloc|apply IsS87.drewN|apply IsS87.drew|apply IsS87.set_1|apply IsS87.set_2)|exact HI0.out),by repeat (first|(with_reducible first|exact HB.out|apply zD|apply zE|apply zF|refine below_set ?_ (IsS87.ge HI0.out))|exact HB.out),by repeat (first|(with_reducible first|exact HK.out|apply KeepBut.set_|apply keep_drewN|apply keep_drew|apply keep_alloc)|exact HK.out)⟩

/-! ### spec_l1Cur_among: function 70 -/
def spec_l1Cur_among.f (s0_0 : List Int) (s0_1 : Int) (s0_2 : Int) (l1 : List Int) : Option (Int × Int × Int):=(spec_l1Cur_pick.f s0_0 s0_1 s0_2 (l1.length : Int)).bind fun bt564=>(if 0 ≤ bt564.1 then (if bt564.1 < (l1.length : Int) then (some (rd l1 bt564.1,bt564.2.1,bt564.2.2)) else (none)) else (none))
set_option maxHeartbeats 8000000 in
set_option maxRecDepth 100000 in
theorem spec_l1Cur_among.calls (g : Nat) (s0_0 : List Int) (s0_1 : Int) (s0_2 : Int) (A1 : Option Addr) (c1 : Nat) (l1 : List Int) (r1 : Int) (r2 : Int) (r3 : Int) (w0 w : World) (hI : IsS87 w0 w g s0_0 s0_1 s0_2) (hB : Below w0.heap.size w0 w) (hr1 : Kd.C (Kd.int .i64) w A1 l1.length l1) (hc1 : l1.length ≤ c1) (hf1 : ∀ ad,A1 = some ad → 0 < l1.length → ad.block ≠ g) (h : spec_l1Cur_among.f s0_0 s0_1 s0_2 l1 = some (r1,r2,r3)) :
  Calls Try.prog 70 #[.pointer (some ⟨g,0,none⟩),.slice A1 l1.length c1] w fun e w'=>e = .returned (.int .i64 r1) ∧ IsS87 w0 w' g s0_0 r2 r3 ∧ Below w0.heap.size w0 w' ∧ KeepBut w w' g none:=by
 have HR1:=zM hr1
 have HC1:=zM hc1
 clear hr1 hc1
 have HI0:=zM hI
 have HK:=zM (KeepBut.refl w g none)
 have HL:=zM hB.size
 clear hI
 have HW0:=zM hB.size
 have HB:=zM hB
 clear hB
 have H : ((spec_l1Cur_pick.f s0_0 s0_1 s0_2 (l1.length : Int)).bind fun bt564=>(if 0 ≤ bt564.1 then (if bt564.1 < (l1.length : Int) then (some (rd l1 bt564.1,bt564.2.1,bt564.2.2)) else (none)) else (none))) = some (r1,r2,r3):=h
 clear h
 replace H:=Option.bind_eq_some_iff.mp H
 obtain ⟨⟨t564,t565,t566⟩,A30,H⟩:=H
 replace H : (if 0 ≤ t564 then (if t564 < (l1.length : Int) then (some (rd l1 t564,t565,t566)) else (none)) else (none)) = some (r1,r2,r3):=H
 have A3:=zM A30
 clear A30
 by_cases c4 : 0 ≤ t564
 ·rw [if_pos c4] at H
  have c4b0 : decide (0 ≤ t564) = true:=decide_eq_true c4
  clear c4
  by_cases c5 : t564 < (l1.length : Int)
  ·rw [if_pos c5] at H
   have c5b0 : decide (t564 < (l1.length : Int)) = true:=decide_eq_true c5
   clear c5
   simp only [Option.some.injEq,Prod.mk.injEq] at H
   obtain ⟨rfl,rfl,rfl⟩:=H
   go_enter Try.func70,Try.ntmps70
   go_wp2_with (first|((with_reducible refine gate_callee (f:=72) rfl ?_);refine goesL_ (some 9) rfl rfl Try.func72 (by kernel_rfl) rfl #[.pointer (some ⟨g,0,none⟩),.int .i64 (l1.length : Int)] rfl (by (try simp only [List.map_toArray,List.map_cons,List.map_nil]);first|done|rfl|(simp only [List.length_drop,List.length_take];rfl)) ?_;(with_reducible refine (spec_l1Cur_pick.calls g s0_0 s0_1 s0_2 (l1.length : Int) t564 t565 t566 w0 _ ?side1 ?side2 A3.out).mono ?_);(case side1=>repeat (first|(with_reducible first|exact HI0.out|apply IsS87.alloc|apply IsS87.drewN|apply IsS87.drew|apply IsS87.set_1|apply IsS87.set_2)|exact HI0.out));(case side2=>repeat (first|(with_reducible first|exact HB.out|apply zD|apply zE|apply zF|refine below_set ?_ (IsS87.ge HI0.out))|exact HB.out));rintro e w6 ⟨rfl,hi,hb,hk⟩;refine ⟨_,rfl,?_⟩;have n0_:=zM (KeepBut.trans (by repeat (first|(with_reducible first|exact HK.out|apply KeepBut.set_|apply keep_drewN|apply keep_drew|apply keep_alloc)|exact HK.out)) hk (.inl rfl));have n1_:=zM (hb);have n2_:=zM (hi);clear HK;clear HB;clear HI0;have HK:=n0_;have HB:=n1_;have HI0:=n2_;clear n0_ n1_ n2_;(try clear hb);(try clear hb2);(try clear hk);(try clear hi);have p567 : 0 ≤ (t564 : Int):=of_decide_eq_true (by first|(with_reducible assumption)|assumption);have q567 : t564 < (l1.length : Int):=of_decide_eq_true (by first|(with_reducible assumption)|assumption);obtain ⟨ad567,e567,hx567_0⟩:=Kd.at_int HR1.out t564 p567 q567;cases e567;replace hx567_0:=keep_cell HK.out hx567_0 (by first|(rw [add_block];exact hf1 _ rfl (by omega))|exact hf1 _ rfl (by omega)|exact hf1 ad567 rfl (by omega));replace p567:=eq_true p567;replace q567:=eq_true q567))
   go_ret
   exact ⟨by first|rfl|(simp [errW_none,errW_some] <;> rfl)|(simp [*,errW_none,errW_some] <;> rfl),by repeat (first|(with_reducible first|exact HI0.out|apply IsS87.alloc|apply IsS87.drewN|apply IsS87.drew|apply IsS87.set_1|apply IsS87.set_2)|exact HI0.out),by repeat (first|(with_reducible first|exact HB.out|apply zD|apply zE|apply zF|refine below_set ?_ (IsS87.ge HI0.out))|exact HB.out),by repeat (first|(with_reducible first|exact HK.out|apply KeepBut.set_|apply keep_drewN|apply keep_drew|apply keep_alloc)|exact HK.out)⟩
  ·rw [if_neg c5] at H
   exact absurd H (by simp)
 ·rw [if_neg c4] at H
  exact absurd H (by simp)

/-! ### spec_l1Cur_one: function 71 -/
def spec_l1Cur_one.f (s0_0 : List Int) (s0_1 : Int) (s0_2 : Int) (a1 : Int) : Option (Bool × Int × Int):=(spec_l1Cur_pick.f s0_0 s0_1 s0_2 a1).bind fun bt568=>(some ((bt568.1 == 0),bt568.2.1,bt568.2.2))
set_option maxHeartbeats 8000000 in
set_option maxRecDepth 100000 in
theorem spec_l1Cur_one.calls (g : Nat) (s0_0 : List Int) (s0_1 : Int) (s0_2 : Int) (a1 : Int) (r1 : Bool) (r2 : Int) (r3 : Int) (w0 w : World) (hI : IsS87 w0 w g s0_0 s0_1 s0_2) (hB : Below w0.heap.size w0 w) (h : spec_l1Cur_one.f s0_0 s0_1 s0_2 a1 = some (r1,r2,r3)) :
  Calls Try.prog 71 #[.pointer (some ⟨g,0,none⟩),.int .i64 a1] w fun e w'=>e = .returned (.bool r1) ∧ IsS87 w0 w' g s0_0 r2 r3 ∧ Below w0.heap.size w0 w' ∧ KeepBut w w' g none:=by
 have HI0:=zM hI
 have HK:=zM (KeepBut.refl w g none)
 have HL:=zM hB.size
 clear hI
 have HW0:=zM hB.size
 have HB:=zM hB
 clear hB
 have H : ((spec_l1Cur_pick.f s0_0 s0_1 s0_2 a1).bind fun bt568=>(some ((bt568.1 == 0),bt568.2.1,bt568.2.2))) = some (r1,r2,r3):=h
 clear h
 replace H:=Option.bind_eq_some_iff.mp H
 obtain ⟨⟨t568,t569,t570⟩,A30,H⟩:=H
 replace H : (some ((t568 == 0),t569,t570)) = some (r1,r2,r3):=H
 have A3:=zM A30
 clear A30
 simp only [Option.some.injEq,Prod.mk.injEq] at H
 obtain ⟨rfl,rfl,rfl⟩:=H
 go_enter Try.func71,Try.ntmps71
 go_wp2_with (first|((with_reducible refine gate_callee (f:=72) rfl ?_);refine goesL_ (some 7) rfl rfl Try.func72 (by kernel_rfl) rfl #[.pointer (some ⟨g,0,none⟩),.int .i64 a1] rfl (by (try simp only [List.map_toArray,List.map_cons,List.map_nil]);first|done|rfl|(simp only [List.length_drop,List.length_take];rfl)) ?_;(with_reducible refine (spec_l1Cur_pick.calls g s0_0 s0_1 s0_2 a1 t568 t569 t570 w0 _ ?side1 ?side2 A3.out).mono ?_);(case side1=>repeat (first|(with_reducible first|exact HI0.out|apply IsS87.alloc|apply IsS87.drewN|apply IsS87.drew|apply IsS87.set_1|apply IsS87.set_2)|exact HI0.out));(case side2=>repeat (first|(with_reducible first|exact HB.out|apply zD|apply zE|apply zF|refine below_set ?_ (IsS87.ge HI0.out))|exact HB.out));rintro e w4 ⟨rfl,hi,hb,hk⟩;refine ⟨_,rfl,?_⟩;have n0_:=zM (KeepBut.trans (by repeat (first|(with_reducible first|exact HK.out|apply KeepBut.set_|apply keep_drewN|apply keep_drew|apply keep_alloc)|exact HK.out)) hk (.inl rfl));have n1_:=zM (hb);have n2_:=zM (hi);clear HK;clear HB;clear HI0;have HK:=n0_;have HB:=n1_;have HI0:=n2_;clear n0_ n1_ n2_;(try clear hb);(try clear hb2);(try clear hk);(try clear hi)))
 go_ret
 exact ⟨by first|rfl|(simp [errW_none,errW_some] <;> rfl)|(simp [*,errW_none,errW_some] <;> rfl),by repeat (first|(with_reducible first|exact HI0.out|apply IsS87.alloc|apply IsS87.drewN|apply IsS87.drew|apply IsS87.set_1|apply IsS87.set_2)|exact HI0.out),by repeat (first|(with_reducible first|exact HB.out|apply zD|apply zE|apply zF|refine below_set ?_ (IsS87.ge HI0.out))|exact HB.out),by repeat (first|(with_reducible first|exact HK.out|apply KeepBut.set_|apply keep_drewN|apply keep_drew|apply keep_alloc)|exact HK.out)⟩

end Go.Proofs.Ytbglkkepfddecaa.G
