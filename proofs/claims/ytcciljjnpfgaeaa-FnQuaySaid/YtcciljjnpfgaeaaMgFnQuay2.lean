/- Texts of the proof of FnQuay, joined in build order. -/
import Derived.Test.YtcciljjnpfgaeaaMgFnQuay1
-- Written by wip/tools/gen.py out of the translation (the kit's printer, one namespace a seat). Lean checks it.
namespace Go.Proofs.Ytcciljjnpfgaeaa.G
open Go.RowKit Go.Proofs.YtcciljjnpfgaeaaW.PrintWords Go.Proofs.YtcciljjnpfgaeaaW.PrintLast Go.Proofs.YtcciljjnpfgaeaaW.PrintMore
attribute [local go_sem] max2_int min2_int max_two min_two max_three min_three max_four min_four   -- for this text's walks alone
set_option linter.unusedVariables false
set_option linter.unusedSimpArgs false

/-! ### spec_l14Plan: function 59 -/
mutual
def spec_l14Plan.l0 : Nat → Int → List (S62) → List (S37) → Int → Option (Bool)
 | 0,_,_,_,_=>none
 | k + 1,x0,x1,x2,x7=>if x7 < (x2.length : Int) then (if x7 ≥ (x1.length : Int) then (spec_l14Plan.j1 k x0 x1 x2 x7 true) else (if 0 ≤ x7 then (if x7 < (x1.length : Int) then ((spec_l14Fits.f x0 ((rd_T62 x1 x7).f0) ((rd_T62 x1 x7).f1) ((rd_T62 x1 x7).f2) ((rd_T62 x1 x7).f3) ((rd_T37 x2 x7).f0) ((rd_T37 x2 x7).f1)).bind fun t123=>(spec_l14Plan.j1 k x0 x1 x2 x7 (!t123))) else (none)) else (none))) else (some true)
def spec_l14Plan.j1 : Nat → Int → List (S62) → List (S37) → Int → Bool → Option (Bool)
 | 0,_,_,_,_,_=>none
 | k + 1,x0,x1,x2,x7,x31=>if x31 = true then (some false) else (spec_l14Plan.l1 k x0 x1 x2 x7 0)
def spec_l14Plan.l1 : Nat → Int → List (S62) → List (S37) → Int → Int → Option (Bool)
 | 0,_,_,_,_,_=>none
 | k + 1,x0,x1,x2,x7,x8=>if x8 < x7 then (if 0 ≤ x7 then (if x7 < (x1.length : Int) then (if x7 < (x2.length : Int) then (if 0 ≤ x8 then (if x8 < (x1.length : Int) then (if x8 < (x2.length : Int) then ((spec_l14Apart.f ((rd_T62 x1 x7).f0) ((rd_T62 x1 x7).f1) ((rd_T62 x1 x7).f2) ((rd_T62 x1 x7).f3) ((rd_T37 x2 x7).f0) ((rd_T37 x2 x7).f1) ((rd_T62 x1 x8).f0) ((rd_T62 x1 x8).f1) ((rd_T62 x1 x8).f2) ((rd_T62 x1 x8).f3) ((rd_T37 x2 x8).f0) ((rd_T37 x2 x8).f1)).bind fun t128=>(if t128 = true then (spec_l14Plan.l1 k x0 x1 x2 x7 (wrap64 (x8 + 1))) else (some false))) else (none)) else (none)) else (none)) else (none)) else (none)) else (none)) else (spec_l14Plan.l0 k x0 x1 x2 (wrap64 (x7 + 1)))
end
def spec_l14Plan.f (k : Nat) (a0 : Int) (l1 : List (S62)) (l2 : List (S37)) : Option (Bool):=spec_l14Plan.l0 k a0 l1 l2 0
def spec_l14Plan.T4 : Bool × List (List Nat × List Nat):=(true,[([],[]),([],[]),([1],[1]),([0,2],[0,2]),([3],[3]),([4],[4]),([4],[4]),([4],[4]),([6,7,4],[4,6,7]),([8,4],[4,8]),([4],[4]),([4],[4]),([10,11,4],[4,10,11]),([12,4],[4,12]),([5,9,13,4,4],[4,5,9,13]),([14,4],[4,14]),([4,15],[4,15])])
def spec_l14Plan.B4 : List Nat:=[0,0,2,7,15,31,31,31,223,479,31,31,3103,7199,16383,32767,65535]
theorem spec_l14Plan.tab4 : rtab .any (opsOf Try.f59 4) = spec_l14Plan.T4:=by kernel_rfl
theorem spec_l14Plan.bits4 : waitsOk spec_l14Plan.T4.2 spec_l14Plan.B4 = true:=by kernel_rfl
def spec_l14Plan.T9 : Bool × List (List Nat × List Nat):=(true,[([],[]),([],[]),([0,1],[0,1]),([2],[2]),([],[]),([],[]),([4,5],[4,5]),([6],[6]),([],[]),([],[]),([8,9],[8,9]),([10],[10]),([],[]),([],[]),([12,13],[12,13]),([14],[14]),([3,7,11,15],[3,7,11,15]),([16],[16])])
def spec_l14Plan.B9 : List Nat:=[0,0,3,7,0,0,48,112,0,0,768,1792,0,0,12288,28672,65535,131071]
theorem spec_l14Plan.tab9 : rtab .any (opsOf Try.f59 9) = spec_l14Plan.T9:=by kernel_rfl
theorem spec_l14Plan.bits9 : waitsOk spec_l14Plan.T9.2 spec_l14Plan.B9 = true:=by kernel_rfl
set_option maxHeartbeats 8000000 in
set_option maxRecDepth 100000 in
theorem spec_l14Plan.calls (k : Nat) (a0 : Int) (A1 : Option Addr) (c1 : Nat) (l1 : List (S62)) (A2 : Option Addr) (c2 : Nat) (l2 : List (S37)) (r : Bool) (w : World) (hr1 : Kd.C k62 w A1 l1.length l1) (hc1 : l1.length ≤ c1) (hr2 : Kd.C k37 w A2 l2.length l2) (hc2 : l2.length ≤ c2) (h : spec_l14Plan.f k a0 l1 l2 = some r) :
  Calls Try.prog 59 #[.int .i64 a0,.slice A1 l1.length c1,.slice A2 l2.length c2] w fun e w'=>e = .returned (.bool r) ∧ Below w.heap.size w w':=by
 have hu62:=Try.underlying62
 have hu37:=Try.underlying37
 have HR1:=zM hr1
 have HC1:=zM hc1
 clear hr1 hc1
 have HR2:=zM hr2
 have HC2:=zM hc2
 clear hr2 hc2
 have HB:=zM (Below.refl w.heap.size w)
 have H : (spec_l14Plan.l0 k a0 l1 l2 0) = some r:=h
 clear h
 have H':=zM H
 clear H
 go_enter Try.func59,Try.ntmps59
 go_wp2
 go_loopg [7] k (fun kq v7 w' => ∃ (x7_1 : Int),v7 = .int .i64 x7_1 ∧ Aside0 (spec_l14Plan.l0 kq a0 l1 l2 x7_1 = some r) ∧ Aside0 (kq ≤ k) ∧ Aside0 (Below w.heap.size w w'))
 case atStart=>exact ⟨(0),(by first|rfl|(simp;done)|(simp [*];done)),H',⟨Nat.le_refl _⟩,⟨by repeat (first|(with_reducible first|exact HB.out|apply zD|apply zE|apply zF)|exact HB.out)⟩⟩
 case round =>
  clear H'
  try clear c1
  try clear c2
  try clear p2
  obtain ⟨x7_1,rfl,HA,HK1,HB⟩:=hrel
  cases gk with
  | zero=>exact absurd HA.out (by simp [spec_l14Plan.l0])
  | succ k1 =>
   have H:=HA.out
   clear HA
   simp only [spec_l14Plan.l0] at H
   by_cases c4 : x7_1 < (l2.length : Int)
   ·rw [if_pos c4] at H
    have c4b0 : decide (x7_1 < (l2.length : Int)) = true:=decide_eq_true c4
    clear c4
    have HC5:=zM H
    clear H
    go_upto_region 4 with (fail)
    go_cut [31] (fun v31 wc => ∃ (kq : Nat) (x31_4 : Bool),v31 = .bool x31_4 ∧ Aside0 (spec_l14Plan.j1 kq a0 l1 l2 x7_1 x31_4 = some r) ∧ Aside0 (kq ≤ k1) ∧ Aside0 (Below w.heap.size w wc))
    case first =>
     have H:=HC5.out
     clear HC5
     by_cases c6 : x7_1 ≥ (l1.length : Int)
     ·rw [if_pos c6] at H
      have c6b0 : decide ((l1.length : Int) ≤ x7_1) = true:=decide_eq_true c6
      clear c6
      (first|rw [c6b0]|(simp only [i64_w,i32_w];rw [c6b0])|skip)
      have H':=zM H
      clear H
      try go_wp2
      have n0_:=zM (zF HB.out)
      clear HB
      have HB:=n0_
      clear n0_
      refine start_ (n:=17) (S:=fun w'=>True) (ds:=[]) #[false,false,false,false,false,false,false,false,false,false,false,false,false,false,false,false,false] (by kernel_rfl) rfl rfl trivial (fun hHeld=>?_);refine with_tabW spec_l14Plan.tab4 spec_l14Plan.bits4 (fun HT_ HW_=>?_)
      generalize wr.drew = w7 at HB hHeld ⊢
      refine pure_ (i:=0) (N:=some 15) (v:=?_) (a':=?_) #[true,false,false,false,false,false,false,false,false,false,false,false,false,false,false,false,false] rfl rfl (any_of HT_.out (by kernel_rfl)) (fun _ _ _ h=>h) (Or.inl ⟨by rfl,?_⟩) ?_ ?_
      rotate_left
      ·intro w'
       go_simp
       with_reducible rfl
      rotate_left
      ·simp only [Act.put,List.setIfInBounds_toArray,List.set_cons_zero,List.set_cons_succ,i64_w,i32_w]
       rfl
      refine pure_ (i:=1) (N:=some 16) (v:=?_) (a':=?_) #[true,true,false,false,false,false,false,false,false,false,false,false,false,false,false,false,false] rfl rfl (any_of HT_.out (by kernel_rfl)) (fun _ _ _ h=>h) (Or.inl ⟨by rfl,?_⟩) ?_ ?_
      rotate_left
      ·intro w'
       go_simp
       with_reducible rfl
      rotate_left
      ·simp only [Act.put,List.setIfInBounds_toArray,List.set_cons_zero,List.set_cons_succ,i64_w,i32_w]
       rfl
      refine pure_ (i:=2) (N:=some 17) (v:=?_) (a':=?_) #[true,true,true,false,false,false,false,false,false,false,false,false,false,false,false,false,false] rfl rfl (any_of HT_.out (by kernel_rfl)) (fun _ _ _ h=>h) (Or.inl ⟨by rfl,?_⟩) ?_ ?_
      rotate_left
      ·intro w'
       go_simp
       with_reducible rfl
      rotate_left
      ·simp only [Act.put,List.setIfInBounds_toArray,List.set_cons_zero,List.set_cons_succ,i64_w,i32_w]
       rfl
      refine pure_ (i:=3) (N:=some 18) (v:=?_) (a':=?_) #[true,true,true,true,false,false,false,false,false,false,false,false,false,false,false,false,false] rfl rfl (any_of HT_.out (by kernel_rfl)) (fun _ _ _ h=>h) (Or.inl ⟨by rfl,?_⟩) ?_ ?_
      rotate_left
      ·intro w'
       go_simp
       with_reducible rfl
      rotate_left
      ·simp only [Act.put,List.setIfInBounds_toArray,List.set_cons_zero,List.set_cons_succ,i64_w,i32_w]
       rfl
      refine pure_ (i:=4) (N:=some 19) (v:=?_) (a':=?_) #[true,true,true,true,true,false,false,false,false,false,false,false,false,false,false,false,false] rfl rfl (any_of HT_.out (by kernel_rfl)) (fun _ _ _ h=>h) (Or.inl ⟨by rfl,?_⟩) ?_ ?_
      rotate_left
      ·intro w'
       go_simp
       with_reducible rfl
      rotate_left
      ·simp only [Act.put,List.setIfInBounds_toArray,List.set_cons_zero,List.set_cons_succ,i64_w,i32_w]
       rfl
      refine pure_ (i:=5) (N:=some 20) (v:=undef) (a':=?_) #[true,true,true,true,true,true,false,false,false,false,false,false,false,false,false,false,false] rfl rfl (any_of HT_.out (by kernel_rfl)) (fun _ _ _ h=>h) (Or.inr ⟨by rfl,rfl⟩) ?_ ?_
      rotate_left
      ·simp only [Act.put,List.setIfInBounds_toArray,List.set_cons_zero,List.set_cons_succ,i64_w,i32_w]
       rfl
      refine pure_ (i:=6) (N:=some 21) (v:=undef) (a':=?_) #[true,true,true,true,true,true,true,false,false,false,false,false,false,false,false,false,false] rfl rfl (any_of HT_.out (by kernel_rfl)) (fun _ _ _ h=>h) (Or.inr ⟨by rfl,rfl⟩) ?_ ?_
      rotate_left
      ·simp only [Act.put,List.setIfInBounds_toArray,List.set_cons_zero,List.set_cons_succ,i64_w,i32_w]
       rfl
      refine pure_ (i:=7) (N:=some 22) (v:=undef) (a':=?_) #[true,true,true,true,true,true,true,true,false,false,false,false,false,false,false,false,false] rfl rfl (any_of HT_.out (by kernel_rfl)) (fun _ _ _ h=>h) (Or.inr ⟨by rfl,rfl⟩) ?_ ?_
      rotate_left
      ·simp only [Act.put,List.setIfInBounds_toArray,List.set_cons_zero,List.set_cons_succ,i64_w,i32_w]
       rfl
      refine pure_ (i:=8) (N:=some 23) (v:=undef) (a':=?_) #[true,true,true,true,true,true,true,true,true,false,false,false,false,false,false,false,false] rfl rfl (any_of HT_.out (by kernel_rfl)) (fun _ _ _ h=>h) (Or.inr ⟨by rfl,rfl⟩) ?_ ?_
      rotate_left
      ·simp only [Act.put,List.setIfInBounds_toArray,List.set_cons_zero,List.set_cons_succ,i64_w,i32_w]
       rfl
      refine pure_ (i:=9) (N:=some 24) (v:=undef) (a':=?_) #[true,true,true,true,true,true,true,true,true,true,false,false,false,false,false,false,false] rfl rfl (any_of HT_.out (by kernel_rfl)) (fun _ _ _ h=>h) (Or.inr ⟨by rfl,rfl⟩) ?_ ?_
      rotate_left
      ·simp only [Act.put,List.setIfInBounds_toArray,List.set_cons_zero,List.set_cons_succ,i64_w,i32_w]
       rfl
      refine pure_ (i:=10) (N:=some 25) (v:=undef) (a':=?_) #[true,true,true,true,true,true,true,true,true,true,true,false,false,false,false,false,false] rfl rfl (any_of HT_.out (by kernel_rfl)) (fun _ _ _ h=>h) (Or.inr ⟨by rfl,rfl⟩) ?_ ?_
      rotate_left
      ·simp only [Act.put,List.setIfInBounds_toArray,List.set_cons_zero,List.set_cons_succ,i64_w,i32_w]
       rfl
      refine pure_ (i:=11) (N:=some 26) (v:=undef) (a':=?_) #[true,true,true,true,true,true,true,true,true,true,true,true,false,false,false,false,false] rfl rfl (any_of HT_.out (by kernel_rfl)) (fun _ _ _ h=>h) (Or.inr ⟨by rfl,rfl⟩) ?_ ?_
      rotate_left
      ·simp only [Act.put,List.setIfInBounds_toArray,List.set_cons_zero,List.set_cons_succ,i64_w,i32_w]
       rfl
      refine pure_ (i:=12) (N:=some 27) (v:=undef) (a':=?_) #[true,true,true,true,true,true,true,true,true,true,true,true,true,false,false,false,false] rfl rfl (any_of HT_.out (by kernel_rfl)) (fun _ _ _ h=>h) (Or.inr ⟨by rfl,rfl⟩) ?_ ?_
      rotate_left
      ·simp only [Act.put,List.setIfInBounds_toArray,List.set_cons_zero,List.set_cons_succ,i64_w,i32_w]
       rfl
      refine pure_ (i:=13) (N:=some 28) (v:=undef) (a':=?_) #[true,true,true,true,true,true,true,true,true,true,true,true,true,true,false,false,false] rfl rfl (any_of HT_.out (by kernel_rfl)) (fun _ _ _ h=>h) (Or.inr ⟨by rfl,rfl⟩) ?_ ?_
      rotate_left
      ·simp only [Act.put,List.setIfInBounds_toArray,List.set_cons_zero,List.set_cons_succ,i64_w,i32_w]
       rfl
      refine pure_ (i:=14) (N:=some 29) (v:=undef) (a':=?_) #[true,true,true,true,true,true,true,true,true,true,true,true,true,true,true,false,false] rfl rfl (any_of HT_.out (by kernel_rfl)) (fun _ _ _ h=>h) (Or.inr ⟨by rfl,rfl⟩) ?_ ?_
      rotate_left
      ·simp only [Act.put,List.setIfInBounds_toArray,List.set_cons_zero,List.set_cons_succ,i64_w,i32_w]
       rfl
      refine pure_ (i:=15) (N:=some 30) (v:=undef) (a':=?_) #[true,true,true,true,true,true,true,true,true,true,true,true,true,true,true,true,false] rfl rfl (any_of HT_.out (by kernel_rfl)) (fun _ _ _ h=>h) (Or.inr ⟨by rfl,rfl⟩) ?_ ?_
      rotate_left
      ·simp only [Act.put,List.setIfInBounds_toArray,List.set_cons_zero,List.set_cons_succ,i64_w,i32_w]
       rfl
      refine pure_ (i:=16) (N:=some 31) (v:=?_) (a':=?_) #[true,true,true,true,true,true,true,true,true,true,true,true,true,true,true,true,true] rfl rfl (any_of HT_.out (by kernel_rfl)) (fun _ _ _ h=>h) (Or.inl ⟨by rfl,?_⟩) ?_ ?_
      rotate_left
      ·intro w'
       go_simp
       with_reducible rfl
      rotate_left
      ·simp only [Act.put,List.setIfInBounds_toArray,List.set_cons_zero,List.set_cons_succ,i64_w,i32_w]
       rfl
      refine done_ (done_of HT_.out (by kernel_rfl)) ?_
      try go_wp2
      go_meet
      case rel=>exact ⟨_,(true),(by first|rfl|(simp;done)|(simp [*];done)),H',⟨by have:=HK1.out;first|omega|exact Nat.le_refl _⟩,⟨by repeat (first|(with_reducible first|exact HB.out|apply zD|apply zE|apply zF)|exact HB.out)⟩⟩
     ·rw [if_neg c6] at H
      have c6b0 : decide ((l1.length : Int) ≤ x7_1) = false:=decide_eq_false c6
      clear c6
      (first|rw [c6b0]|(simp only [i64_w,i32_w];rw [c6b0])|skip)
      by_cases c8 : 0 ≤ x7_1
      ·rw [if_pos c8] at H
       have c8b0 : decide (0 ≤ x7_1) = true:=decide_eq_true c8
       clear c8
       by_cases c9 : x7_1 < (l1.length : Int)
       ·rw [if_pos c9] at H
        have c9b0 : decide (x7_1 < (l1.length : Int)) = true:=decide_eq_true c9
        clear c9
        replace H:=Option.bind_eq_some_iff.mp H
        obtain ⟨t123,A100,H⟩:=H
        replace H : (spec_l14Plan.j1 k1 a0 l1 l2 x7_1 (!t123)) = some r:=H
        have A10:=zM A100
        clear A100
        have H':=zM H
        clear H
        try go_wp2
        have n0_:=zM (zF HB.out)
        clear HB
        have HB:=n0_
        clear n0_
        have p121 : 0 ≤ (x7_1 : Int):=of_decide_eq_true (by first|(with_reducible assumption)|assumption)
        have q121 : x7_1 < (l1.length : Int):=of_decide_eq_true (by first|(with_reducible assumption)|assumption)
        obtain ⟨ad121,e121,hx121_0,hx121_1,hx121_2,hx121_3⟩:=at_T62 HR1.out x7_1 p121 q121
        have hw121_3:=hx121_3
        have hw121_2:=hx121_2
        have hw121_1:=hx121_1
        have hw121_0:=hx121_0
        cases e121
        replace hx121_0:=(HB.out.cell (World.block_lt_of_cell? w _ hx121_0)).trans hx121_0
        replace hx121_1:=(HB.out.cell (World.block_lt_of_cell? w _ hx121_1)).trans hx121_1
        replace hx121_2:=(HB.out.cell (World.block_lt_of_cell? w _ hx121_2)).trans hx121_2
        replace hx121_3:=(HB.out.cell (World.block_lt_of_cell? w _ hx121_3)).trans hx121_3
        replace p121:=eq_true p121
        replace q121:=eq_true q121
        have p122 : 0 ≤ (x7_1 : Int):=of_decide_eq_true (by first|(with_reducible assumption)|assumption)
        have q122 : x7_1 < (l2.length : Int):=of_decide_eq_true (by first|(with_reducible assumption)|assumption)
        obtain ⟨ad122,e122,hx122_0,hx122_1⟩:=at_T37 HR2.out x7_1 p122 q122
        have hw122_1:=hx122_1
        have hw122_0:=hx122_0
        cases e122
        replace hx122_0:=(HB.out.cell (World.block_lt_of_cell? w _ hx122_0)).trans hx122_0
        replace hx122_1:=(HB.out.cell (World.block_lt_of_cell? w _ hx122_1)).trans hx122_1
        replace p122:=eq_true p122
        replace q122:=eq_true q122
        refine start_ (n:=17) (S:=fun w'=>w'.cell? (ad121.add ((x7_1).toNat * 4)) = some (.int .i64 ((rd_T62 l1 x7_1).f0)) ∧ w'.cell? ⟨(ad121.add ((x7_1).toNat * 4)).block,(ad121.add ((x7_1).toNat * 4)).off + 1,none⟩ = some (.int .i64 ((rd_T62 l1 x7_1).f1)) ∧ w'.cell? ⟨(ad121.add ((x7_1).toNat * 4)).block,(ad121.add ((x7_1).toNat * 4)).off + 2,none⟩ = some (.int .i64 ((rd_T62 l1 x7_1).f2)) ∧ w'.cell? ⟨(ad121.add ((x7_1).toNat * 4)).block,(ad121.add ((x7_1).toNat * 4)).off + 3,none⟩ = some (.int .i64 ((rd_T62 l1 x7_1).f3)) ∧ w'.cell? (ad122.add ((x7_1).toNat * 2)) = some (.int .i64 ((rd_T37 l2 x7_1).f0)) ∧ w'.cell? ⟨(ad122.add ((x7_1).toNat * 2)).block,(ad122.add ((x7_1).toNat * 2)).off + 1,none⟩ = some (.int .i64 ((rd_T37 l2 x7_1).f1))) (ds:=[]) #[false,false,false,false,false,false,false,false,false,false,false,false,false,false,false,false,false] (by kernel_rfl) rfl rfl ⟨((HB.out.cell (World.block_lt_of_cell? w _ hw121_0)).trans hw121_0),((HB.out.cell (World.block_lt_of_cell? w _ hw121_1)).trans hw121_1),((HB.out.cell (World.block_lt_of_cell? w _ hw121_2)).trans hw121_2),((HB.out.cell (World.block_lt_of_cell? w _ hw121_3)).trans hw121_3),((HB.out.cell (World.block_lt_of_cell? w _ hw122_0)).trans hw122_0),((HB.out.cell (World.block_lt_of_cell? w _ hw122_1)).trans hw122_1)⟩ (fun hHeld=>?_);refine with_tabW spec_l14Plan.tab4 spec_l14Plan.bits4 (fun HT_ HW_=>?_)
        generalize wr.drew = w11 at HB hx121_0 hx121_1 hx121_2 hx121_3 hx122_0 hx122_1 hHeld ⊢
        refine pure_ (i:=0) (N:=some 15) (v:=?_) (a':=?_) #[true,false,false,false,false,false,false,false,false,false,false,false,false,false,false,false,false] rfl rfl (any_of HT_.out (by kernel_rfl)) (fun _ _ _ h=>h) (Or.inl ⟨by rfl,?_⟩) ?_ ?_
        rotate_left
        ·intro w'
         go_simp
         with_reducible rfl
        rotate_left
        ·simp only [Act.put,List.setIfInBounds_toArray,List.set_cons_zero,List.set_cons_succ,i64_w,i32_w]
         rfl
        refine pure_ (i:=1) (N:=some 16) (v:=?_) (a':=?_) #[true,true,false,false,false,false,false,false,false,false,false,false,false,false,false,false,false] rfl rfl (any_of HT_.out (by kernel_rfl)) (fun _ _ _ h=>h) (Or.inl ⟨by rfl,?_⟩) ?_ ?_
        rotate_left
        ·intro w'
         go_simp
         with_reducible rfl
        rotate_left
        ·simp only [Act.put,List.setIfInBounds_toArray,List.set_cons_zero,List.set_cons_succ,i64_w,i32_w]
         rfl
        refine pure_ (i:=2) (N:=some 17) (v:=?_) (a':=?_) #[true,true,true,false,false,false,false,false,false,false,false,false,false,false,false,false,false] rfl rfl (any_of HT_.out (by kernel_rfl)) (fun _ _ _ h=>h) (Or.inl ⟨by rfl,?_⟩) ?_ ?_
        rotate_left
        ·intro w'
         go_simp
         with_reducible rfl
        rotate_left
        ·simp only [Act.put,List.setIfInBounds_toArray,List.set_cons_zero,List.set_cons_succ,i64_w,i32_w]
         rfl
        refine pure_ (i:=3) (N:=some 18) (v:=?_) (a':=?_) #[true,true,true,true,false,false,false,false,false,false,false,false,false,false,false,false,false] rfl rfl (any_of HT_.out (by kernel_rfl)) (fun _ _ _ h=>h) (Or.inl ⟨by rfl,?_⟩) ?_ ?_
        rotate_left
        ·intro w'
         go_simp
         with_reducible rfl
        rotate_left
        ·simp only [Act.put,List.setIfInBounds_toArray,List.set_cons_zero,List.set_cons_succ,i64_w,i32_w]
         rfl
        refine pure_ (i:=4) (N:=some 19) (v:=?_) (a':=?_) #[true,true,true,true,true,false,false,false,false,false,false,false,false,false,false,false,false] rfl rfl (any_of HT_.out (by kernel_rfl)) (fun _ _ _ h=>h) (Or.inl ⟨by rfl,?_⟩) ?_ ?_
        rotate_left
        ·intro w'
         go_simp
         with_reducible rfl
        rotate_left
        ·simp only [Act.put,List.setIfInBounds_toArray,List.set_cons_zero,List.set_cons_succ,i64_w,i32_w]
         rfl
        refine pure_ (i:=5) (N:=some 20) (v:=?_) (a':=?_) #[true,true,true,true,true,true,false,false,false,false,false,false,false,false,false,false,false] rfl rfl (any_of HT_.out (by kernel_rfl)) (fun _ _ _ h=>h) (Or.inl ⟨by rfl,?_⟩) ?_ ?_
        rotate_left
        ·intro w'
         go_simp
         with_reducible rfl
        rotate_left
        ·simp only [Act.put,List.setIfInBounds_toArray,List.set_cons_zero,List.set_cons_succ,i64_w,i32_w]
         rfl
        refine pure_ (i:=6) (N:=some 21) (v:=?_) (a':=?_) #[true,true,true,true,true,true,true,false,false,false,false,false,false,false,false,false,false] rfl rfl (any_of HT_.out (by kernel_rfl)) (fun _ _ _ h=>h) (Or.inl ⟨by rfl,?_⟩) ?_ ?_
        rotate_left
        ·intro w'
         go_simp
         with_reducible rfl
        rotate_left
        ·simp only [Act.put,List.setIfInBounds_toArray,List.set_cons_zero,List.set_cons_succ,i64_w,i32_w]
         rfl
        refine pure_ (i:=7) (N:=some 22) (v:=?_) (a':=?_) #[true,true,true,true,true,true,true,true,false,false,false,false,false,false,false,false,false] rfl rfl (any_of HT_.out (by kernel_rfl)) (fun _ _ _ h=>h) (Or.inl ⟨by rfl,?_⟩) ?_ ?_
        rotate_left
        ·intro w'
         go_simp
         with_reducible rfl
        rotate_left
        ·simp only [Act.put,List.setIfInBounds_toArray,List.set_cons_zero,List.set_cons_succ,i64_w,i32_w]
         rfl
        refine pure_ (i:=8) (N:=some 23) (v:=?_) (a':=?_) #[true,true,true,true,true,true,true,true,true,false,false,false,false,false,false,false,false] rfl rfl (any_of HT_.out (by kernel_rfl)) (fun _ _ _ h=>h) (Or.inl ⟨by rfl,?_⟩) ?_ ?_
        rotate_left
        ·intro w'
         go_simp
         with_reducible rfl
        rotate_left
        ·simp only [Act.put,List.setIfInBounds_toArray,List.set_cons_zero,List.set_cons_succ,i64_w,i32_w]
         rfl
        refine pure_ (i:=10) (N:=some 25) (v:=?_) (a':=?_) #[true,true,true,true,true,true,true,true,true,false,true,false,false,false,false,false,false] rfl rfl (any_of HT_.out (by kernel_rfl)) (fun _ _ _ h=>h) (Or.inl ⟨by rfl,?_⟩) ?_ ?_
        rotate_left
        ·intro w'
         go_simp
         with_reducible rfl
        rotate_left
        ·simp only [Act.put,List.setIfInBounds_toArray,List.set_cons_zero,List.set_cons_succ,i64_w,i32_w]
         rfl
        refine pure_ (i:=11) (N:=some 26) (v:=?_) (a':=?_) #[true,true,true,true,true,true,true,true,true,false,true,true,false,false,false,false,false] rfl rfl (any_of HT_.out (by kernel_rfl)) (fun _ _ _ h=>h) (Or.inl ⟨by rfl,?_⟩) ?_ ?_
        rotate_left
        ·intro w'
         go_simp
         with_reducible rfl
        rotate_left
        ·simp only [Act.put,List.setIfInBounds_toArray,List.set_cons_zero,List.set_cons_succ,i64_w,i32_w]
         rfl
        refine pure_ (i:=12) (N:=some 27) (v:=?_) (a':=?_) #[true,true,true,true,true,true,true,true,true,false,true,true,true,false,false,false,false] rfl rfl (any_of HT_.out (by kernel_rfl)) (fun _ _ _ h=>h) (Or.inl ⟨by rfl,?_⟩) ?_ ?_
        rotate_left
        ·intro w'
         go_simp
         with_reducible rfl
        rotate_left
        ·simp only [Act.put,List.setIfInBounds_toArray,List.set_cons_zero,List.set_cons_succ,i64_w,i32_w]
         rfl
        refine take_ (i:=9) (N:=some 24) (v:=?_) (a':=?_) #[true,true,true,true,true,true,true,true,true,true,true,true,true,false,false,false,false] rfl rfl (take_ofW HT_.out HW_.out (by kernel_rfl)) (fun _ _ _ h=>h) (Or.inl ⟨by rfl,?_⟩) hHeld ?_ ?_
        rotate_left
        ·rintro w' ⟨s0,s1,s2,s3,s4,s5⟩
         go_simp
         with_reducible rfl
        rotate_left
        ·simp only [Act.put,List.setIfInBounds_toArray,List.set_cons_zero,List.set_cons_succ,i64_w,i32_w]
         rfl
        refine take_ (i:=13) (N:=some 28) (v:=?_) (a':=?_) #[true,true,true,true,true,true,true,true,true,true,true,true,true,true,false,false,false] rfl rfl (take_ofW HT_.out HW_.out (by kernel_rfl)) (fun _ _ _ h=>h) (Or.inl ⟨by rfl,?_⟩) hHeld ?_ ?_
        rotate_left
        ·rintro w' ⟨s0,s1,s2,s3,s4,s5⟩
         go_simp
         with_reducible rfl
        rotate_left
        ·simp only [Act.put,List.setIfInBounds_toArray,List.set_cons_zero,List.set_cons_succ,i64_w,i32_w]
         rfl
        refine one_ (i:=14) (N:=some 29) #[true,true,true,true,true,true,true,true,true,true,true,true,true,true,true,false,false] rfl rfl (one_of HT_.out (by kernel_rfl)) (by decide) (fun K hK=>?_)
        refine goes_ Try.func80 (by kernel_rfl) rfl #[.int .i64 a0,.agg #[.int .i64 ((rd_T62 l1 x7_1).f0),.int .i64 ((rd_T62 l1 x7_1).f1),.int .i64 ((rd_T62 l1 x7_1).f2),.int .i64 ((rd_T62 l1 x7_1).f3)],.agg #[.int .i64 ((rd_T37 l2 x7_1).f0),.int .i64 ((rd_T37 l2 x7_1).f1)]] (by rfl) rfl rfl (by (try simp only [List.map_toArray,List.map_cons,List.map_nil]);first|done|rfl|(simp only [List.length_drop,List.length_take];rfl)) ?_
        with_reducible refine (spec_l14Fits.calls a0 ((rd_T62 l1 x7_1).f0) ((rd_T62 l1 x7_1).f1) ((rd_T62 l1 x7_1).f2) ((rd_T62 l1 x7_1).f3) ((rd_T37 l2 x7_1).f0) ((rd_T37 l2 x7_1).f1) t123 _ A10.out).mono ?_
        rintro e w12 ⟨rfl,hb⟩
        refine ⟨_,rfl,?_⟩
        have n0_:=zM (zQ (by repeat (first|(with_reducible first|exact HB.out|apply zD|apply zE|apply zF)|exact HB.out)) hb)
        clear HB
        have HB:=n0_
        clear n0_
        (try clear hb)
        (try clear hb2)
        (try clear hk)
        (try clear hi)
        refine hK.out _ _ ⟨((HB.out.cell (World.block_lt_of_cell? w _ hw121_0)).trans hw121_0),((HB.out.cell (World.block_lt_of_cell? w _ hw121_1)).trans hw121_1),((HB.out.cell (World.block_lt_of_cell? w _ hw121_2)).trans hw121_2),((HB.out.cell (World.block_lt_of_cell? w _ hw121_3)).trans hw121_3),((HB.out.cell (World.block_lt_of_cell? w _ hw122_0)).trans hw122_0),((HB.out.cell (World.block_lt_of_cell? w _ hw122_1)).trans hw122_1)⟩ (fun hHeld=>?_)
        clear hK K
        refine norm_ (a':=?_) ?_ ?_
        rotate_left
        ·show Act.put _ (some 29) _ = _
         simp only [Act.put,List.setIfInBounds_toArray,List.set_cons_zero,List.set_cons_succ,i64_w,i32_w]
         rfl
        refine pure_ (i:=15) (N:=some 30) (v:=?_) (a':=?_) #[true,true,true,true,true,true,true,true,true,true,true,true,true,true,true,true,false] rfl rfl (any_of HT_.out (by kernel_rfl)) (fun _ _ _ h=>h) (Or.inl ⟨by rfl,?_⟩) ?_ ?_
        rotate_left
        ·intro w'
         go_simp
         with_reducible rfl
        rotate_left
        ·simp only [Act.put,List.setIfInBounds_toArray,List.set_cons_zero,List.set_cons_succ,i64_w,i32_w]
         rfl
        refine pure_ (i:=16) (N:=some 31) (v:=?_) (a':=?_) #[true,true,true,true,true,true,true,true,true,true,true,true,true,true,true,true,true] rfl rfl (any_of HT_.out (by kernel_rfl)) (fun _ _ _ h=>h) (Or.inl ⟨by rfl,?_⟩) ?_ ?_
        rotate_left
        ·intro w'
         go_simp
         with_reducible rfl
        rotate_left
        ·simp only [Act.put,List.setIfInBounds_toArray,List.set_cons_zero,List.set_cons_succ,i64_w,i32_w]
         rfl
        refine done_ (done_of HT_.out (by kernel_rfl)) ?_
        try go_wp2
        go_meet
        case rel=>exact ⟨_,(!t123),(by first|rfl|(simp;done)|(simp [*];done)),H',⟨by have:=HK1.out;first|omega|exact Nat.le_refl _⟩,⟨by repeat (first|(with_reducible first|exact HB.out|apply zD|apply zE|apply zF)|exact HB.out)⟩⟩
       ·rw [if_neg c9] at H
        exact absurd H (by simp)
      ·rw [if_neg c8] at H
       exact absurd H (by simp)
    case rest =>
     clear HC5
     try clear c1
     try clear p1
     try clear q1
     try clear hx1
     try clear c2
     try clear p2
     try clear c4
     try clear c4b0
     try clear c5
     try clear c6
     try clear c6b0
     try clear c8
     try clear c8b0
     try clear c9
     try clear c9b0
     try clear p12
     try clear q12
     try clear hx12
     try clear hx121_0
     try clear hx121_1
     try clear hx121_2
     try clear hx121_3
     try clear hx122_0
     try clear hx122_1
     try clear p121
     try clear p122
     try clear p2
     try clear q121
     try clear q122
     obtain ⟨kq,x31_4,rfl,HA,HJ4,HB⟩:=hcut
     cases kq with
     | zero=>exact absurd HA.out (by simp [spec_l14Plan.j1])
     | succ kj4 =>
      have H:=HA.out
      clear HA
      simp only [spec_l14Plan.j1] at H
      by_cases c13 : x31_4 = true
      ·subst c13
       have H1 : (some false) = some r:=by rw [if_pos rfl] at H;exact H
       clear H
       have H:=H1
       clear H1
       obtain rfl:=Option.some.inj H
       go_wp2
       go_ret
       exact ⟨by first|rfl|(simp [errW_none,errW_some] <;> rfl)|(simp [*,errW_none,errW_some] <;> rfl),by repeat (first|(with_reducible first|exact HB.out|apply zD|apply zE|apply zF)|exact HB.out)⟩
      ·replace c13:=Bool.eq_false_iff.mpr c13
       subst c13
       have H1 : (spec_l14Plan.l1 kj4 a0 l1 l2 x7_1 0) = some r:=by rw [if_neg (show ¬ (false = true) by decide)] at H;exact H
       clear H
       have H:=H1
       clear H1
       have H':=zM H
       clear H
       go_wp2
       go_loopg [8] kj4 (fun kq v8 w' => ∃ (x8_3 : Int),v8 = .int .i64 x8_3 ∧ Aside0 (spec_l14Plan.l1 kq a0 l1 l2 x7_1 x8_3 = some r) ∧ Aside0 (kq ≤ kj4) ∧ Aside0 (Below w.heap.size w w'))
       case atStart=>exact ⟨(0),(by first|rfl|(simp;done)|(simp [*];done)),H',⟨Nat.le_refl _⟩,⟨by repeat (first|(with_reducible first|exact HB.out|apply zD|apply zE|apply zF)|exact HB.out)⟩⟩
       case round =>
        clear H'
        try clear c1
        try clear p1
        try clear q1
        try clear hx1
        try clear c2
        try clear p2
        try clear c4
        try clear c4b0
        try clear c5
        try clear c6
        try clear c6b0
        try clear c8
        try clear c8b0
        try clear c9
        try clear c9b0
        try clear p12
        try clear q12
        try clear hx12
        try clear c13
        try clear hx121_0
        try clear hx121_1
        try clear hx121_2
        try clear hx121_3
        try clear hx122_0
        try clear hx122_1
        try clear p1
        try clear p12
        try clear p121
        try clear p122
        try clear p2
        try clear q1
        try clear q12
        try clear q121
        try clear q122
        obtain ⟨x8_3,rfl,HA,HK3,HB⟩:=hrel
        cases gk with
        | zero=>exact absurd HA.out (by simp [spec_l14Plan.l1])
        | succ k3 =>
         have H:=HA.out
         clear HA
         simp only [spec_l14Plan.l1] at H
         by_cases c14 : x8_3 < x7_1
         ·rw [if_pos c14] at H
          have c14b0 : decide (x8_3 < x7_1) = true:=decide_eq_true c14
          clear c14
          by_cases c15 : 0 ≤ x7_1
          ·rw [if_pos c15] at H
           have c15b0 : decide (0 ≤ x7_1) = true:=decide_eq_true c15
           clear c15
           by_cases c16 : x7_1 < (l1.length : Int)
           ·rw [if_pos c16] at H
            have c16b0 : decide (x7_1 < (l1.length : Int)) = true:=decide_eq_true c16
            clear c16
            by_cases c17 : x7_1 < (l2.length : Int)
            ·rw [if_pos c17] at H
             have c17b0 : decide (x7_1 < (l2.length : Int)) = true:=decide_eq_true c17
             clear c17
             by_cases c18 : 0 ≤ x8_3
             ·rw [if_pos c18] at H
              have c18b0 : decide (0 ≤ x8_3) = true:=decide_eq_true c18
              clear c18
              by_cases c19 : x8_3 < (l1.length : Int)
              ·rw [if_pos c19] at H
               have c19b0 : decide (x8_3 < (l1.length : Int)) = true:=decide_eq_true c19
               clear c19
               by_cases c20 : x8_3 < (l2.length : Int)
               ·rw [if_pos c20] at H
                have c20b0 : decide (x8_3 < (l2.length : Int)) = true:=decide_eq_true c20
                clear c20
                replace H:=Option.bind_eq_some_iff.mp H
                obtain ⟨t128,A210,H⟩:=H
                replace H : (if t128 = true then (spec_l14Plan.l1 k3 a0 l1 l2 x7_1 (wrap64 (x8_3 + 1))) else (some false)) = some r:=H
                have A21:=zM A210
                clear A210
                by_cases c22 : t128 = true
                ·subst c22
                 have H1 : (spec_l14Plan.l1 k3 a0 l1 l2 x7_1 (wrap64 (x8_3 + 1))) = some r:=by rw [if_pos rfl] at H;exact H
                 clear H
                 have H:=H1
                 clear H1
                 have H':=zM H
                 clear H
                 try go_wp2
                 have n0_:=zM (zF HB.out)
                 clear HB
                 have HB:=n0_
                 clear n0_
                 have p124 : 0 ≤ (x7_1 : Int):=of_decide_eq_true (by first|(with_reducible assumption)|assumption)
                 have q124 : x7_1 < (l1.length : Int):=of_decide_eq_true (by first|(with_reducible assumption)|assumption)
                 obtain ⟨ad124,e124,hx124_0,hx124_1,hx124_2,hx124_3⟩:=at_T62 HR1.out x7_1 p124 q124
                 have hw124_3:=hx124_3
                 have hw124_2:=hx124_2
                 have hw124_1:=hx124_1
                 have hw124_0:=hx124_0
                 cases e124
                 replace hx124_0:=(HB.out.cell (World.block_lt_of_cell? w _ hx124_0)).trans hx124_0
                 replace hx124_1:=(HB.out.cell (World.block_lt_of_cell? w _ hx124_1)).trans hx124_1
                 replace hx124_2:=(HB.out.cell (World.block_lt_of_cell? w _ hx124_2)).trans hx124_2
                 replace hx124_3:=(HB.out.cell (World.block_lt_of_cell? w _ hx124_3)).trans hx124_3
                 replace p124:=eq_true p124
                 replace q124:=eq_true q124
                 have p125 : 0 ≤ (x7_1 : Int):=of_decide_eq_true (by first|(with_reducible assumption)|assumption)
                 have q125 : x7_1 < (l2.length : Int):=of_decide_eq_true (by first|(with_reducible assumption)|assumption)
                 obtain ⟨ad125,e125,hx125_0,hx125_1⟩:=at_T37 HR2.out x7_1 p125 q125
                 have hw125_1:=hx125_1
                 have hw125_0:=hx125_0
                 cases e125
                 replace hx125_0:=(HB.out.cell (World.block_lt_of_cell? w _ hx125_0)).trans hx125_0
                 replace hx125_1:=(HB.out.cell (World.block_lt_of_cell? w _ hx125_1)).trans hx125_1
                 replace p125:=eq_true p125
                 replace q125:=eq_true q125
                 have p126 : 0 ≤ (x8_3 : Int):=of_decide_eq_true (by first|(with_reducible assumption)|assumption)
                 have q126 : x8_3 < (l1.length : Int):=of_decide_eq_true (by first|(with_reducible assumption)|assumption)
                 obtain ⟨ad126,e126,hx126_0,hx126_1,hx126_2,hx126_3⟩:=at_T62 HR1.out x8_3 p126 q126
                 have hw126_3:=hx126_3
                 have hw126_2:=hx126_2
                 have hw126_1:=hx126_1
                 have hw126_0:=hx126_0
                 obtain rfl : ad124 = ad126:=(by injection e126)
                 replace hx126_0:=(HB.out.cell (World.block_lt_of_cell? w _ hx126_0)).trans hx126_0
                 replace hx126_1:=(HB.out.cell (World.block_lt_of_cell? w _ hx126_1)).trans hx126_1
                 replace hx126_2:=(HB.out.cell (World.block_lt_of_cell? w _ hx126_2)).trans hx126_2
                 replace hx126_3:=(HB.out.cell (World.block_lt_of_cell? w _ hx126_3)).trans hx126_3
                 replace p126:=eq_true p126
                 replace q126:=eq_true q126
                 have p127 : 0 ≤ (x8_3 : Int):=of_decide_eq_true (by first|(with_reducible assumption)|assumption)
                 have q127 : x8_3 < (l2.length : Int):=of_decide_eq_true (by first|(with_reducible assumption)|assumption)
                 obtain ⟨ad127,e127,hx127_0,hx127_1⟩:=at_T37 HR2.out x8_3 p127 q127
                 have hw127_1:=hx127_1
                 have hw127_0:=hx127_0
                 obtain rfl : ad125 = ad127:=(by injection e127)
                 replace hx127_0:=(HB.out.cell (World.block_lt_of_cell? w _ hx127_0)).trans hx127_0
                 replace hx127_1:=(HB.out.cell (World.block_lt_of_cell? w _ hx127_1)).trans hx127_1
                 replace p127:=eq_true p127
                 replace q127:=eq_true q127
                 refine start_ (n:=18) (S:=fun w'=>w'.cell? (ad124.add ((x7_1).toNat * 4)) = some (.int .i64 ((rd_T62 l1 x7_1).f0)) ∧ w'.cell? ⟨(ad124.add ((x7_1).toNat * 4)).block,(ad124.add ((x7_1).toNat * 4)).off + 1,none⟩ = some (.int .i64 ((rd_T62 l1 x7_1).f1)) ∧ w'.cell? ⟨(ad124.add ((x7_1).toNat * 4)).block,(ad124.add ((x7_1).toNat * 4)).off + 2,none⟩ = some (.int .i64 ((rd_T62 l1 x7_1).f2)) ∧ w'.cell? ⟨(ad124.add ((x7_1).toNat * 4)).block,(ad124.add ((x7_1).toNat * 4)).off + 3,none⟩ = some (.int .i64 ((rd_T62 l1 x7_1).f3)) ∧ w'.cell? (ad125.add ((x7_1).toNat * 2)) = some (.int .i64 ((rd_T37 l2 x7_1).f0)) ∧ w'.cell? ⟨(ad125.add ((x7_1).toNat * 2)).block,(ad125.add ((x7_1).toNat * 2)).off + 1,none⟩ = some (.int .i64 ((rd_T37 l2 x7_1).f1)) ∧ w'.cell? (ad124.add ((x8_3).toNat * 4)) = some (.int .i64 ((rd_T62 l1 x8_3).f0)) ∧ w'.cell? ⟨(ad124.add ((x8_3).toNat * 4)).block,(ad124.add ((x8_3).toNat * 4)).off + 1,none⟩ = some (.int .i64 ((rd_T62 l1 x8_3).f1)) ∧ w'.cell? ⟨(ad124.add ((x8_3).toNat * 4)).block,(ad124.add ((x8_3).toNat * 4)).off + 2,none⟩ = some (.int .i64 ((rd_T62 l1 x8_3).f2)) ∧ w'.cell? ⟨(ad124.add ((x8_3).toNat * 4)).block,(ad124.add ((x8_3).toNat * 4)).off + 3,none⟩ = some (.int .i64 ((rd_T62 l1 x8_3).f3)) ∧ w'.cell? (ad125.add ((x8_3).toNat * 2)) = some (.int .i64 ((rd_T37 l2 x8_3).f0)) ∧ w'.cell? ⟨(ad125.add ((x8_3).toNat * 2)).block,(ad125.add ((x8_3).toNat * 2)).off + 1,none⟩ = some (.int .i64 ((rd_T37 l2 x8_3).f1))) (ds:=[]) #[false,false,false,false,false,false,false,false,false,false,false,false,false,false,false,false,false,false] (by kernel_rfl) rfl rfl ⟨((HB.out.cell (World.block_lt_of_cell? w _ hw124_0)).trans hw124_0),((HB.out.cell (World.block_lt_of_cell? w _ hw124_1)).trans hw124_1),((HB.out.cell (World.block_lt_of_cell? w _ hw124_2)).trans hw124_2),((HB.out.cell (World.block_lt_of_cell? w _ hw124_3)).trans hw124_3),((HB.out.cell (World.block_lt_of_cell? w _ hw125_0)).trans hw125_0),((HB.out.cell (World.block_lt_of_cell? w _ hw125_1)).trans hw125_1),((HB.out.cell (World.block_lt_of_cell? w _ hw126_0)).trans hw126_0),((HB.out.cell (World.block_lt_of_cell? w _ hw126_1)).trans hw126_1),((HB.out.cell (World.block_lt_of_cell? w _ hw126_2)).trans hw126_2),((HB.out.cell (World.block_lt_of_cell? w _ hw126_3)).trans hw126_3),((HB.out.cell (World.block_lt_of_cell? w _ hw127_0)).trans hw127_0),((HB.out.cell (World.block_lt_of_cell? w _ hw127_1)).trans hw127_1)⟩ (fun hHeld=>?_);refine with_tabW spec_l14Plan.tab9 spec_l14Plan.bits9 (fun HT_ HW_=>?_)
                 generalize wr.drew = w23 at HB hx124_0 hx124_1 hx124_2 hx124_3 hx125_0 hx125_1 hx126_0 hx126_1 hx126_2 hx126_3 hx127_0 hx127_1 hHeld ⊢
                 refine pure_ (i:=0) (N:=some 37) (v:=?_) (a':=?_) #[true,false,false,false,false,false,false,false,false,false,false,false,false,false,false,false,false,false] rfl rfl (any_of HT_.out (by kernel_rfl)) (fun _ _ _ h=>h) (Or.inl ⟨by rfl,?_⟩) ?_ ?_
                 rotate_left
                 ·intro w'
                  go_simp
                  with_reducible rfl
                 rotate_left
                 ·simp only [Act.put,List.setIfInBounds_toArray,List.set_cons_zero,List.set_cons_succ,i64_w,i32_w]
                  rfl
                 refine pure_ (i:=1) (N:=some 38) (v:=?_) (a':=?_) #[true,true,false,false,false,false,false,false,false,false,false,false,false,false,false,false,false,false] rfl rfl (any_of HT_.out (by kernel_rfl)) (fun _ _ _ h=>h) (Or.inl ⟨by rfl,?_⟩) ?_ ?_
                 rotate_left
                 ·intro w'
                  go_simp
                  with_reducible rfl
                 rotate_left
                 ·simp only [Act.put,List.setIfInBounds_toArray,List.set_cons_zero,List.set_cons_succ,i64_w,i32_w]
                  rfl
                 refine pure_ (i:=2) (N:=some 39) (v:=?_) (a':=?_) #[true,true,true,false,false,false,false,false,false,false,false,false,false,false,false,false,false,false] rfl rfl (any_of HT_.out (by kernel_rfl)) (fun _ _ _ h=>h) (Or.inl ⟨by rfl,?_⟩) ?_ ?_
                 rotate_left
                 ·intro w'
                  go_simp
                  with_reducible rfl
                 rotate_left
                 ·simp only [Act.put,List.setIfInBounds_toArray,List.set_cons_zero,List.set_cons_succ,i64_w,i32_w]
                  rfl
                 refine pure_ (i:=4) (N:=some 41) (v:=?_) (a':=?_) #[true,true,true,false,true,false,false,false,false,false,false,false,false,false,false,false,false,false] rfl rfl (any_of HT_.out (by kernel_rfl)) (fun _ _ _ h=>h) (Or.inl ⟨by rfl,?_⟩) ?_ ?_
                 rotate_left
                 ·intro w'
                  go_simp
                  with_reducible rfl
                 rotate_left
                 ·simp only [Act.put,List.setIfInBounds_toArray,List.set_cons_zero,List.set_cons_succ,i64_w,i32_w]
                  rfl
                 refine pure_ (i:=5) (N:=some 42) (v:=?_) (a':=?_) #[true,true,true,false,true,true,false,false,false,false,false,false,false,false,false,false,false,false] rfl rfl (any_of HT_.out (by kernel_rfl)) (fun _ _ _ h=>h) (Or.inl ⟨by rfl,?_⟩) ?_ ?_
                 rotate_left
                 ·intro w'
                  go_simp
                  with_reducible rfl
                 rotate_left
                 ·simp only [Act.put,List.setIfInBounds_toArray,List.set_cons_zero,List.set_cons_succ,i64_w,i32_w]
                  rfl
                 refine pure_ (i:=6) (N:=some 43) (v:=?_) (a':=?_) #[true,true,true,false,true,true,true,false,false,false,false,false,false,false,false,false,false,false] rfl rfl (any_of HT_.out (by kernel_rfl)) (fun _ _ _ h=>h) (Or.inl ⟨by rfl,?_⟩) ?_ ?_
                 rotate_left
                 ·intro w'
                  go_simp
                  with_reducible rfl
                 rotate_left
                 ·simp only [Act.put,List.setIfInBounds_toArray,List.set_cons_zero,List.set_cons_succ,i64_w,i32_w]
                  rfl
                 refine pure_ (i:=8) (N:=some 45) (v:=?_) (a':=?_) #[true,true,true,false,true,true,true,false,true,false,false,false,false,false,false,false,false,false] rfl rfl (any_of HT_.out (by kernel_rfl)) (fun _ _ _ h=>h) (Or.inl ⟨by rfl,?_⟩) ?_ ?_
                 rotate_left
                 ·intro w'
                  go_simp
                  with_reducible rfl
                 rotate_left
                 ·simp only [Act.put,List.setIfInBounds_toArray,List.set_cons_zero,List.set_cons_succ,i64_w,i32_w]
                  rfl
                 refine pure_ (i:=9) (N:=some 46) (v:=?_) (a':=?_) #[true,true,true,false,true,true,true,false,true,true,false,false,false,false,false,false,false,false] rfl rfl (any_of HT_.out (by kernel_rfl)) (fun _ _ _ h=>h) (Or.inl ⟨by rfl,?_⟩) ?_ ?_
                 rotate_left
                 ·intro w'
                  go_simp
                  with_reducible rfl
                 rotate_left
                 ·simp only [Act.put,List.setIfInBounds_toArray,List.set_cons_zero,List.set_cons_succ,i64_w,i32_w]
                  rfl
                 refine pure_ (i:=10) (N:=some 47) (v:=?_) (a':=?_) #[true,true,true,false,true,true,true,false,true,true,true,false,false,false,false,false,false,false] rfl rfl (any_of HT_.out (by kernel_rfl)) (fun _ _ _ h=>h) (Or.inl ⟨by rfl,?_⟩) ?_ ?_
                 rotate_left
                 ·intro w'
                  go_simp
                  with_reducible rfl
                 rotate_left
                 ·simp only [Act.put,List.setIfInBounds_toArray,List.set_cons_zero,List.set_cons_succ,i64_w,i32_w]
                  rfl
                 refine pure_ (i:=12) (N:=some 49) (v:=?_) (a':=?_) #[true,true,true,false,true,true,true,false,true,true,true,false,true,false,false,false,false,false] rfl rfl (any_of HT_.out (by kernel_rfl)) (fun _ _ _ h=>h) (Or.inl ⟨by rfl,?_⟩) ?_ ?_
                 rotate_left
                 ·intro w'
                  go_simp
                  with_reducible rfl
                 rotate_left
                 ·simp only [Act.put,List.setIfInBounds_toArray,List.set_cons_zero,List.set_cons_succ,i64_w,i32_w]
                  rfl
                 refine pure_ (i:=13) (N:=some 50) (v:=?_) (a':=?_) #[true,true,true,false,true,true,true,false,true,true,true,false,true,true,false,false,false,false] rfl rfl (any_of HT_.out (by kernel_rfl)) (fun _ _ _ h=>h) (Or.inl ⟨by rfl,?_⟩) ?_ ?_
                 rotate_left
                 ·intro w'
                  go_simp
                  with_reducible rfl
                 rotate_left
                 ·simp only [Act.put,List.setIfInBounds_toArray,List.set_cons_zero,List.set_cons_succ,i64_w,i32_w]
                  rfl
                 refine pure_ (i:=14) (N:=some 51) (v:=?_) (a':=?_) #[true,true,true,false,true,true,true,false,true,true,true,false,true,true,true,false,false,false] rfl rfl (any_of HT_.out (by kernel_rfl)) (fun _ _ _ h=>h) (Or.inl ⟨by rfl,?_⟩) ?_ ?_
                 rotate_left
                 ·intro w'
                  go_simp
                  with_reducible rfl
                 rotate_left
                 ·simp only [Act.put,List.setIfInBounds_toArray,List.set_cons_zero,List.set_cons_succ,i64_w,i32_w]
                  rfl
                 refine take_ (i:=3) (N:=some 40) (v:=?_) (a':=?_) #[true,true,true,true,true,true,true,false,true,true,true,false,true,true,true,false,false,false] rfl rfl (take_ofW HT_.out HW_.out (by kernel_rfl)) (fun _ _ _ h=>h) (Or.inl ⟨by rfl,?_⟩) hHeld ?_ ?_
                 rotate_left
                 ·rintro w' ⟨s0,s1,s2,s3,s4,s5,s6,s7,s8,s9,s10,s11⟩
                  go_simp
                  with_reducible rfl
                 rotate_left
                 ·simp only [Act.put,List.setIfInBounds_toArray,List.set_cons_zero,List.set_cons_succ,i64_w,i32_w]
                  rfl
                 refine take_ (i:=7) (N:=some 44) (v:=?_) (a':=?_) #[true,true,true,true,true,true,true,true,true,true,true,false,true,true,true,false,false,false] rfl rfl (take_ofW HT_.out HW_.out (by kernel_rfl)) (fun _ _ _ h=>h) (Or.inl ⟨by rfl,?_⟩) hHeld ?_ ?_
                 rotate_left
                 ·rintro w' ⟨s0,s1,s2,s3,s4,s5,s6,s7,s8,s9,s10,s11⟩
                  go_simp
                  with_reducible rfl
                 rotate_left
                 ·simp only [Act.put,List.setIfInBounds_toArray,List.set_cons_zero,List.set_cons_succ,i64_w,i32_w]
                  rfl
                 refine take_ (i:=11) (N:=some 48) (v:=?_) (a':=?_) #[true,true,true,true,true,true,true,true,true,true,true,true,true,true,true,false,false,false] rfl rfl (take_ofW HT_.out HW_.out (by kernel_rfl)) (fun _ _ _ h=>h) (Or.inl ⟨by rfl,?_⟩) hHeld ?_ ?_
                 rotate_left
                 ·rintro w' ⟨s0,s1,s2,s3,s4,s5,s6,s7,s8,s9,s10,s11⟩
                  go_simp
                  with_reducible rfl
                 rotate_left
                 ·simp only [Act.put,List.setIfInBounds_toArray,List.set_cons_zero,List.set_cons_succ,i64_w,i32_w]
                  rfl
                 refine take_ (i:=15) (N:=some 52) (v:=?_) (a':=?_) #[true,true,true,true,true,true,true,true,true,true,true,true,true,true,true,true,false,false] rfl rfl (take_ofW HT_.out HW_.out (by kernel_rfl)) (fun _ _ _ h=>h) (Or.inl ⟨by rfl,?_⟩) hHeld ?_ ?_
                 rotate_left
                 ·rintro w' ⟨s0,s1,s2,s3,s4,s5,s6,s7,s8,s9,s10,s11⟩
                  go_simp
                  with_reducible rfl
                 rotate_left
                 ·simp only [Act.put,List.setIfInBounds_toArray,List.set_cons_zero,List.set_cons_succ,i64_w,i32_w]
                  rfl
                 refine one_ (i:=16) (N:=some 53) #[true,true,true,true,true,true,true,true,true,true,true,true,true,true,true,true,true,false] rfl rfl (one_of HT_.out (by kernel_rfl)) (by decide) (fun K hK=>?_)
                 refine goes_ Try.func81 (by kernel_rfl) rfl #[.agg #[.int .i64 ((rd_T62 l1 x7_1).f0),.int .i64 ((rd_T62 l1 x7_1).f1),.int .i64 ((rd_T62 l1 x7_1).f2),.int .i64 ((rd_T62 l1 x7_1).f3)],.agg #[.int .i64 ((rd_T37 l2 x7_1).f0),.int .i64 ((rd_T37 l2 x7_1).f1)],.agg #[.int .i64 ((rd_T62 l1 x8_3).f0),.int .i64 ((rd_T62 l1 x8_3).f1),.int .i64 ((rd_T62 l1 x8_3).f2),.int .i64 ((rd_T62 l1 x8_3).f3)],.agg #[.int .i64 ((rd_T37 l2 x8_3).f0),.int .i64 ((rd_T37 l2 x8_3).f1)]] (by rfl) rfl rfl (by (try simp only [List.map_toArray,List.map_cons,List.map_nil]);first|done|rfl|(simp only [List.length_drop,List.length_take];rfl)) ?_
                 with_reducible refine (spec_l14Apart.calls ((rd_T62 l1 x7_1).f0) ((rd_T62 l1 x7_1).f1) ((rd_T62 l1 x7_1).f2) ((rd_T62 l1 x7_1).f3) ((rd_T37 l2 x7_1).f0) ((rd_T37 l2 x7_1).f1) ((rd_T62 l1 x8_3).f0) ((rd_T62 l1 x8_3).f1) ((rd_T62 l1 x8_3).f2) ((rd_T62 l1 x8_3).f3) ((rd_T37 l2 x8_3).f0) ((rd_T37 l2 x8_3).f1) true _ A21.out).mono ?_
                 rintro e w24 ⟨rfl,hb⟩
                 refine ⟨_,rfl,?_⟩
                 have n0_:=zM (zQ (by repeat (first|(with_reducible first|exact HB.out|apply zD|apply zE|apply zF)|exact HB.out)) hb)
                 clear HB
                 have HB:=n0_
                 clear n0_
                 (try clear hb)
                 (try clear hb2)
                 (try clear hk)
                 (try clear hi)
                 refine hK.out _ _ ⟨((HB.out.cell (World.block_lt_of_cell? w _ hw124_0)).trans hw124_0),((HB.out.cell (World.block_lt_of_cell? w _ hw124_1)).trans hw124_1),((HB.out.cell (World.block_lt_of_cell? w _ hw124_2)).trans hw124_2),((HB.out.cell (World.block_lt_of_cell? w _ hw124_3)).trans hw124_3),((HB.out.cell (World.block_lt_of_cell? w _ hw125_0)).trans hw125_0),((HB.out.cell (World.block_lt_of_cell? w _ hw125_1)).trans hw125_1),((HB.out.cell (World.block_lt_of_cell? w _ hw126_0)).trans hw126_0),((HB.out.cell (World.block_lt_of_cell? w _ hw126_1)).trans hw126_1),((HB.out.cell (World.block_lt_of_cell? w _ hw126_2)).trans hw126_2),((HB.out.cell (World.block_lt_of_cell? w _ hw126_3)).trans hw126_3),((HB.out.cell (World.block_lt_of_cell? w _ hw127_0)).trans hw127_0),((HB.out.cell (World.block_lt_of_cell? w _ hw127_1)).trans hw127_1)⟩ (fun hHeld=>?_)
                 clear hK K
                 refine norm_ (a':=?_) ?_ ?_
                 rotate_left
                 ·show Act.put _ (some 53) _ = _
                  simp only [Act.put,List.setIfInBounds_toArray,List.set_cons_zero,List.set_cons_succ,i64_w,i32_w]
                  rfl
                 refine pure_ (i:=17) (N:=some 54) (v:=?_) (a':=?_) #[true,true,true,true,true,true,true,true,true,true,true,true,true,true,true,true,true,true] rfl rfl (any_of HT_.out (by kernel_rfl)) (fun _ _ _ h=>h) (Or.inl ⟨by rfl,?_⟩) ?_ ?_
                 rotate_left
                 ·intro w'
                  go_simp
                  with_reducible rfl
                 rotate_left
                 ·simp only [Act.put,List.setIfInBounds_toArray,List.set_cons_zero,List.set_cons_succ,i64_w,i32_w]
                  rfl
                 refine done_ (done_of HT_.out (by kernel_rfl)) ?_
                 try go_wp2
                 go_roundg k3
                 case measure=>have:=HK1.out;have:=HJ4.out;have:=HK3.out;omega
                 case rel=>exact ⟨(wrap64 (x8_3 + 1)),(by first|rfl|(simp;done)|(simp [*];done)),H',⟨by have:=HK1.out;have:=HJ4.out;have:=HK3.out;omega⟩,⟨by repeat (first|(with_reducible first|exact HB.out|apply zD|apply zE|apply zF)|exact HB.out)⟩⟩
                ·replace c22:=Bool.eq_false_iff.mpr c22
                 subst c22
                 have H1 : (some false) = some r:=by rw [if_neg (show ¬ (false = true) by decide)] at H;exact H
                 clear H
                 have H:=H1
                 clear H1
                 obtain rfl:=Option.some.inj H
                 try go_wp2
                 have n0_:=zM (zF HB.out)
                 clear HB
                 have HB:=n0_
                 clear n0_
                 have p124 : 0 ≤ (x7_1 : Int):=of_decide_eq_true (by first|(with_reducible assumption)|assumption)
                 have q124 : x7_1 < (l1.length : Int):=of_decide_eq_true (by first|(with_reducible assumption)|assumption)
                 obtain ⟨ad124,e124,hx124_0,hx124_1,hx124_2,hx124_3⟩:=at_T62 HR1.out x7_1 p124 q124
                 have hw124_3:=hx124_3
                 have hw124_2:=hx124_2
                 have hw124_1:=hx124_1
                 have hw124_0:=hx124_0
                 cases e124
                 replace hx124_0:=(HB.out.cell (World.block_lt_of_cell? w _ hx124_0)).trans hx124_0
                 replace hx124_1:=(HB.out.cell (World.block_lt_of_cell? w _ hx124_1)).trans hx124_1
                 replace hx124_2:=(HB.out.cell (World.block_lt_of_cell? w _ hx124_2)).trans hx124_2
                 replace hx124_3:=(HB.out.cell (World.block_lt_of_cell? w _ hx124_3)).trans hx124_3
                 replace p124:=eq_true p124
                 replace q124:=eq_true q124
                 have p125 : 0 ≤ (x7_1 : Int):=of_decide_eq_true (by first|(with_reducible assumption)|assumption)
                 have q125 : x7_1 < (l2.length : Int):=of_decide_eq_true (by first|(with_reducible assumption)|assumption)
                 obtain ⟨ad125,e125,hx125_0,hx125_1⟩:=at_T37 HR2.out x7_1 p125 q125
                 have hw125_1:=hx125_1
                 have hw125_0:=hx125_0
                 cases e125
                 replace hx125_0:=(HB.out.cell (World.block_lt_of_cell? w _ hx125_0)).trans hx125_0
                 replace hx125_1:=(HB.out.cell (World.block_lt_of_cell? w _ hx125_1)).trans hx125_1
                 replace p125:=eq_true p125
                 replace q125:=eq_true q125
                 have p126 : 0 ≤ (x8_3 : Int):=of_decide_eq_true (by first|(with_reducible assumption)|assumption)
                 have q126 : x8_3 < (l1.length : Int):=of_decide_eq_true (by first|(with_reducible assumption)|assumption)
                 obtain ⟨ad126,e126,hx126_0,hx126_1,hx126_2,hx126_3⟩:=at_T62 HR1.out x8_3 p126 q126
                 have hw126_3:=hx126_3
                 have hw126_2:=hx126_2
                 have hw126_1:=hx126_1
                 have hw126_0:=hx126_0
                 obtain rfl : ad124 = ad126:=(by injection e126)
                 replace hx126_0:=(HB.out.cell (World.block_lt_of_cell? w _ hx126_0)).trans hx126_0
                 replace hx126_1:=(HB.out.cell (World.block_lt_of_cell? w _ hx126_1)).trans hx126_1
                 replace hx126_2:=(HB.out.cell (World.block_lt_of_cell? w _ hx126_2)).trans hx126_2
                 replace hx126_3:=(HB.out.cell (World.block_lt_of_cell? w _ hx126_3)).trans hx126_3
                 replace p126:=eq_true p126
                 replace q126:=eq_true q126
                 have p127 : 0 ≤ (x8_3 : Int):=of_decide_eq_true (by first|(with_reducible assumption)|assumption)
                 have q127 : x8_3 < (l2.length : Int):=of_decide_eq_true (by first|(with_reducible assumption)|assumption)
                 obtain ⟨ad127,e127,hx127_0,hx127_1⟩:=at_T37 HR2.out x8_3 p127 q127
                 have hw127_1:=hx127_1
                 have hw127_0:=hx127_0
                 obtain rfl : ad125 = ad127:=(by injection e127)
                 replace hx127_0:=(HB.out.cell (World.block_lt_of_cell? w _ hx127_0)).trans hx127_0
                 replace hx127_1:=(HB.out.cell (World.block_lt_of_cell? w _ hx127_1)).trans hx127_1
                 replace p127:=eq_true p127
                 replace q127:=eq_true q127
                 refine start_ (n:=18) (S:=fun w'=>w'.cell? (ad124.add ((x7_1).toNat * 4)) = some (.int .i64 ((rd_T62 l1 x7_1).f0)) ∧ w'.cell? ⟨(ad124.add ((x7_1).toNat * 4)).block,(ad124.add ((x7_1).toNat * 4)).off + 1,none⟩ = some (.int .i64 ((rd_T62 l1 x7_1).f1)) ∧ w'.cell? ⟨(ad124.add ((x7_1).toNat * 4)).block,(ad124.add ((x7_1).toNat * 4)).off + 2,none⟩ = some (.int .i64 ((rd_T62 l1 x7_1).f2)) ∧ w'.cell? ⟨(ad124.add ((x7_1).toNat * 4)).block,(ad124.add ((x7_1).toNat * 4)).off + 3,none⟩ = some (.int .i64 ((rd_T62 l1 x7_1).f3)) ∧ w'.cell? (ad125.add ((x7_1).toNat * 2)) = some (.int .i64 ((rd_T37 l2 x7_1).f0)) ∧ w'.cell? ⟨(ad125.add ((x7_1).toNat * 2)).block,(ad125.add ((x7_1).toNat * 2)).off + 1,none⟩ = some (.int .i64 ((rd_T37 l2 x7_1).f1)) ∧ w'.cell? (ad124.add ((x8_3).toNat * 4)) = some (.int .i64 ((rd_T62 l1 x8_3).f0)) ∧ w'.cell? ⟨(ad124.add ((x8_3).toNat * 4)).block,(ad124.add ((x8_3).toNat * 4)).off + 1,none⟩ = some (.int .i64 ((rd_T62 l1 x8_3).f1)) ∧ w'.cell? ⟨(ad124.add ((x8_3).toNat * 4)).block,(ad124.add ((x8_3).toNat * 4)).off + 2,none⟩ = some (.int .i64 ((rd_T62 l1 x8_3).f2)) ∧ w'.cell? ⟨(ad124.add ((x8_3).toNat * 4)).block,(ad124.add ((x8_3).toNat * 4)).off + 3,none⟩ = some (.int .i64 ((rd_T62 l1 x8_3).f3)) ∧ w'.cell? (ad125.add ((x8_3).toNat * 2)) = some (.int .i64 ((rd_T37 l2 x8_3).f0)) ∧ w'.cell? ⟨(ad125.add ((x8_3).toNat * 2)).block,(ad125.add ((x8_3).toNat * 2)).off + 1,none⟩ = some (.int .i64 ((rd_T37 l2 x8_3).f1))) (ds:=[]) #[false,false,false,false,false,false,false,false,false,false,false,false,false,false,false,false,false,false] (by kernel_rfl) rfl rfl ⟨((HB.out.cell (World.block_lt_of_cell? w _ hw124_0)).trans hw124_0),((HB.out.cell (World.block_lt_of_cell? w _ hw124_1)).trans hw124_1),((HB.out.cell (World.block_lt_of_cell? w _ hw124_2)).trans hw124_2),((HB.out.cell (World.block_lt_of_cell? w _ hw124_3)).trans hw124_3),((HB.out.cell (World.block_lt_of_cell? w _ hw125_0)).trans hw125_0),((HB.out.cell (World.block_lt_of_cell? w _ hw125_1)).trans hw125_1),((HB.out.cell (World.block_lt_of_cell? w _ hw126_0)).trans hw126_0),((HB.out.cell (World.block_lt_of_cell? w _ hw126_1)).trans hw126_1),((HB.out.cell (World.block_lt_of_cell? w _ hw126_2)).trans hw126_2),((HB.out.cell (World.block_lt_of_cell? w _ hw126_3)).trans hw126_3),((HB.out.cell (World.block_lt_of_cell? w _ hw127_0)).trans hw127_0),((HB.out.cell (World.block_lt_of_cell? w _ hw127_1)).trans hw127_1)⟩ (fun hHeld=>?_);refine with_tabW spec_l14Plan.tab9 spec_l14Plan.bits9 (fun HT_ HW_=>?_)
                 generalize wr.drew = w25 at HB hx124_0 hx124_1 hx124_2 hx124_3 hx125_0 hx125_1 hx126_0 hx126_1 hx126_2 hx126_3 hx127_0 hx127_1 hHeld ⊢
                 refine pure_ (i:=0) (N:=some 37) (v:=?_) (a':=?_) #[true,false,false,false,false,false,false,false,false,false,false,false,false,false,false,false,false,false] rfl rfl (any_of HT_.out (by kernel_rfl)) (fun _ _ _ h=>h) (Or.inl ⟨by rfl,?_⟩) ?_ ?_
                 rotate_left
                 ·intro w'
                  go_simp
                  with_reducible rfl
                 rotate_left
                 ·simp only [Act.put,List.setIfInBounds_toArray,List.set_cons_zero,List.set_cons_succ,i64_w,i32_w]
                  rfl
                 refine pure_ (i:=1) (N:=some 38) (v:=?_) (a':=?_) #[true,true,false,false,false,false,false,false,false,false,false,false,false,false,false,false,false,false] rfl rfl (any_of HT_.out (by kernel_rfl)) (fun _ _ _ h=>h) (Or.inl ⟨by rfl,?_⟩) ?_ ?_
                 rotate_left
                 ·intro w'
                  go_simp
                  with_reducible rfl
                 rotate_left
                 ·simp only [Act.put,List.setIfInBounds_toArray,List.set_cons_zero,List.set_cons_succ,i64_w,i32_w]
                  rfl
                 refine pure_ (i:=2) (N:=some 39) (v:=?_) (a':=?_) #[true,true,true,false,false,false,false,false,false,false,false,false,false,false,false,false,false,false] rfl rfl (any_of HT_.out (by kernel_rfl)) (fun _ _ _ h=>h) (Or.inl ⟨by rfl,?_⟩) ?_ ?_
                 rotate_left
                 ·intro w'
                  go_simp
                  with_reducible rfl
                 rotate_left
                 ·simp only [Act.put,List.setIfInBounds_toArray,List.set_cons_zero,List.set_cons_succ,i64_w,i32_w]
                  rfl
                 refine pure_ (i:=4) (N:=some 41) (v:=?_) (a':=?_) #[true,true,true,false,true,false,false,false,false,false,false,false,false,false,false,false,false,false] rfl rfl (any_of HT_.out (by kernel_rfl)) (fun _ _ _ h=>h) (Or.inl ⟨by rfl,?_⟩) ?_ ?_
                 rotate_left
                 ·intro w'
                  go_simp
                  with_reducible rfl
                 rotate_left
                 ·simp only [Act.put,List.setIfInBounds_toArray,List.set_cons_zero,List.set_cons_succ,i64_w,i32_w]
                  rfl
                 refine pure_ (i:=5) (N:=some 42) (v:=?_) (a':=?_) #[true,true,true,false,true,true,false,false,false,false,false,false,false,false,false,false,false,false] rfl rfl (any_of HT_.out (by kernel_rfl)) (fun _ _ _ h=>h) (Or.inl ⟨by rfl,?_⟩) ?_ ?_
                 rotate_left
                 ·intro w'
                  go_simp
                  with_reducible rfl
                 rotate_left
                 ·simp only [Act.put,List.setIfInBounds_toArray,List.set_cons_zero,List.set_cons_succ,i64_w,i32_w]
                  rfl
                 refine pure_ (i:=6) (N:=some 43) (v:=?_) (a':=?_) #[true,true,true,false,true,true,true,false,false,false,false,false,false,false,false,false,false,false] rfl rfl (any_of HT_.out (by kernel_rfl)) (fun _ _ _ h=>h) (Or.inl ⟨by rfl,?_⟩) ?_ ?_
                 rotate_left
                 ·intro w'
                  go_simp
                  with_reducible rfl
                 rotate_left
                 ·simp only [Act.put,List.setIfInBounds_toArray,List.set_cons_zero,List.set_cons_succ,i64_w,i32_w]
                  rfl
                 refine pure_ (i:=8) (N:=some 45) (v:=?_) (a':=?_) #[true,true,true,false,true,true,true,false,true,false,false,false,false,false,false,false,false,false] rfl rfl (any_of HT_.out (by kernel_rfl)) (fun _ _ _ h=>h) (Or.inl ⟨by rfl,?_⟩) ?_ ?_
                 rotate_left
                 ·intro w'
                  go_simp
                  with_reducible rfl
                 rotate_left
                 ·simp only [Act.put,List.setIfInBounds_toArray,List.set_cons_zero,List.set_cons_succ,i64_w,i32_w]
                  rfl
                 refine pure_ (i:=9) (N:=some 46) (v:=?_) (a':=?_) #[true,true,true,false,true,true,true,false,true,true,false,false,false,false,false,false,false,false] rfl rfl (any_of HT_.out (by kernel_rfl)) (fun _ _ _ h=>h) (Or.inl ⟨by rfl,?_⟩) ?_ ?_
                 rotate_left
                 ·intro w'
                  go_simp
                  with_reducible rfl
                 rotate_left
                 ·simp only [Act.put,List.setIfInBounds_toArray,List.set_cons_zero,List.set_cons_succ,i64_w,i32_w]
                  rfl
                 refine pure_ (i:=10) (N:=some 47) (v:=?_) (a':=?_) #[true,true,true,false,true,true,true,false,true,true,true,false,false,false,false,false,false,false] rfl rfl (any_of HT_.out (by kernel_rfl)) (fun _ _ _ h=>h) (Or.inl ⟨by rfl,?_⟩) ?_ ?_
                 rotate_left
                 ·intro w'
                  go_simp
                  with_reducible rfl
                 rotate_left
                 ·simp only [Act.put,List.setIfInBounds_toArray,List.set_cons_zero,List.set_cons_succ,i64_w,i32_w]
                  rfl
                 refine pure_ (i:=12) (N:=some 49) (v:=?_) (a':=?_) #[true,true,true,false,true,true,true,false,true,true,true,false,true,false,false,false,false,false] rfl rfl (any_of HT_.out (by kernel_rfl)) (fun _ _ _ h=>h) (Or.inl ⟨by rfl,?_⟩) ?_ ?_
                 rotate_left
                 ·intro w'
                  go_simp
                  with_reducible rfl
                 rotate_left
                 ·simp only [Act.put,List.setIfInBounds_toArray,List.set_cons_zero,List.set_cons_succ,i64_w,i32_w]
                  rfl
                 refine pure_ (i:=13) (N:=some 50) (v:=?_) (a':=?_) #[true,true,true,false,true,true,true,false,true,true,true,false,true,true,false,false,false,false] rfl rfl (any_of HT_.out (by kernel_rfl)) (fun _ _ _ h=>h) (Or.inl ⟨by rfl,?_⟩) ?_ ?_
                 rotate_left
                 ·intro w'
                  go_simp
                  with_reducible rfl
                 rotate_left
                 ·simp only [Act.put,List.setIfInBounds_toArray,List.set_cons_zero,List.set_cons_succ,i64_w,i32_w]
                  rfl
                 refine pure_ (i:=14) (N:=some 51) (v:=?_) (a':=?_) #[true,true,true,false,true,true,true,false,true,true,true,false,true,true,true,false,false,false] rfl rfl (any_of HT_.out (by kernel_rfl)) (fun _ _ _ h=>h) (Or.inl ⟨by rfl,?_⟩) ?_ ?_
                 rotate_left
                 ·intro w'
                  go_simp
                  with_reducible rfl
                 rotate_left
                 ·simp only [Act.put,List.setIfInBounds_toArray,List.set_cons_zero,List.set_cons_succ,i64_w,i32_w]
                  rfl
                 refine take_ (i:=3) (N:=some 40) (v:=?_) (a':=?_) #[true,true,true,true,true,true,true,false,true,true,true,false,true,true,true,false,false,false] rfl rfl (take_ofW HT_.out HW_.out (by kernel_rfl)) (fun _ _ _ h=>h) (Or.inl ⟨by rfl,?_⟩) hHeld ?_ ?_
                 rotate_left
                 ·rintro w' ⟨s0,s1,s2,s3,s4,s5,s6,s7,s8,s9,s10,s11⟩
                  go_simp
                  with_reducible rfl
                 rotate_left
                 ·simp only [Act.put,List.setIfInBounds_toArray,List.set_cons_zero,List.set_cons_succ,i64_w,i32_w]
                  rfl
                 refine take_ (i:=7) (N:=some 44) (v:=?_) (a':=?_) #[true,true,true,true,true,true,true,true,true,true,true,false,true,true,true,false,false,false] rfl rfl (take_ofW HT_.out HW_.out (by kernel_rfl)) (fun _ _ _ h=>h) (Or.inl ⟨by rfl,?_⟩) hHeld ?_ ?_
                 rotate_left
                 ·rintro w' ⟨s0,s1,s2,s3,s4,s5,s6,s7,s8,s9,s10,s11⟩
                  go_simp
                  with_reducible rfl
                 rotate_left
                 ·simp only [Act.put,List.setIfInBounds_toArray,List.set_cons_zero,List.set_cons_succ,i64_w,i32_w]
                  rfl
                 refine take_ (i:=11) (N:=some 48) (v:=?_) (a':=?_) #[true,true,true,true,true,true,true,true,true,true,true,true,true,true,true,false,false,false] rfl rfl (take_ofW HT_.out HW_.out (by kernel_rfl)) (fun _ _ _ h=>h) (Or.inl ⟨by rfl,?_⟩) hHeld ?_ ?_
                 rotate_left
                 ·rintro w' ⟨s0,s1,s2,s3,s4,s5,s6,s7,s8,s9,s10,s11⟩
                  go_simp
                  with_reducible rfl
                 rotate_left
                 ·simp only [Act.put,List.setIfInBounds_toArray,List.set_cons_zero,List.set_cons_succ,i64_w,i32_w]
                  rfl
                 refine take_ (i:=15) (N:=some 52) (v:=?_) (a':=?_) #[true,true,true,true,true,true,true,true,true,true,true,true,true,true,true,true,false,false] rfl rfl (take_ofW HT_.out HW_.out (by kernel_rfl)) (fun _ _ _ h=>h) (Or.inl ⟨by rfl,?_⟩) hHeld ?_ ?_
                 rotate_left
                 ·rintro w' ⟨s0,s1,s2,s3,s4,s5,s6,s7,s8,s9,s10,s11⟩
                  go_simp
                  with_reducible rfl
                 rotate_left
                 ·simp only [Act.put,List.setIfInBounds_toArray,List.set_cons_zero,List.set_cons_succ,i64_w,i32_w]
                  rfl
                 refine one_ (i:=16) (N:=some 53) #[true,true,true,true,true,true,true,true,true,true,true,true,true,true,true,true,true,false] rfl rfl (one_of HT_.out (by kernel_rfl)) (by decide) (fun K hK=>?_)
                 refine goes_ Try.func81 (by kernel_rfl) rfl #[.agg #[.int .i64 ((rd_T62 l1 x7_1).f0),.int .i64 ((rd_T62 l1 x7_1).f1),.int .i64 ((rd_T62 l1 x7_1).f2),.int .i64 ((rd_T62 l1 x7_1).f3)],.agg #[.int .i64 ((rd_T37 l2 x7_1).f0),.int .i64 ((rd_T37 l2 x7_1).f1)],.agg #[.int .i64 ((rd_T62 l1 x8_3).f0),.int .i64 ((rd_T62 l1 x8_3).f1),.int .i64 ((rd_T62 l1 x8_3).f2),.int .i64 ((rd_T62 l1 x8_3).f3)],.agg #[.int .i64 ((rd_T37 l2 x8_3).f0),.int .i64 ((rd_T37 l2 x8_3).f1)]] (by rfl) rfl rfl (by (try simp only [List.map_toArray,List.map_cons,List.map_nil]);first|done|rfl|(simp only [List.length_drop,List.length_take];rfl)) ?_
                 with_reducible refine (spec_l14Apart.calls ((rd_T62 l1 x7_1).f0) ((rd_T62 l1 x7_1).f1) ((rd_T62 l1 x7_1).f2) ((rd_T62 l1 x7_1).f3) ((rd_T37 l2 x7_1).f0) ((rd_T37 l2 x7_1).f1) ((rd_T62 l1 x8_3).f0) ((rd_T62 l1 x8_3).f1) ((rd_T62 l1 x8_3).f2) ((rd_T62 l1 x8_3).f3) ((rd_T37 l2 x8_3).f0) ((rd_T37 l2 x8_3).f1) false _ A21.out).mono ?_
                 rintro e w26 ⟨rfl,hb⟩
                 refine ⟨_,rfl,?_⟩
                 have n0_:=zM (zQ (by repeat (first|(with_reducible first|exact HB.out|apply zD|apply zE|apply zF)|exact HB.out)) hb)
                 clear HB
                 have HB:=n0_
                 clear n0_
                 (try clear hb)
                 (try clear hb2)
                 (try clear hk)
                 (try clear hi)
                 refine hK.out _ _ ⟨((HB.out.cell (World.block_lt_of_cell? w _ hw124_0)).trans hw124_0),((HB.out.cell (World.block_lt_of_cell? w _ hw124_1)).trans hw124_1),((HB.out.cell (World.block_lt_of_cell? w _ hw124_2)).trans hw124_2),((HB.out.cell (World.block_lt_of_cell? w _ hw124_3)).trans hw124_3),((HB.out.cell (World.block_lt_of_cell? w _ hw125_0)).trans hw125_0),((HB.out.cell (World.block_lt_of_cell? w _ hw125_1)).trans hw125_1),((HB.out.cell (World.block_lt_of_cell? w _ hw126_0)).trans hw126_0),((HB.out.cell (World.block_lt_of_cell? w _ hw126_1)).trans hw126_1),((HB.out.cell (World.block_lt_of_cell? w _ hw126_2)).trans hw126_2),((HB.out.cell (World.block_lt_of_cell? w _ hw126_3)).trans hw126_3),((HB.out.cell (World.block_lt_of_cell? w _ hw127_0)).trans hw127_0),((HB.out.cell (World.block_lt_of_cell? w _ hw127_1)).trans hw127_1)⟩ (fun hHeld=>?_)
                 clear hK K
                 refine norm_ (a':=?_) ?_ ?_
                 rotate_left
                 ·show Act.put _ (some 53) _ = _
                  simp only [Act.put,List.setIfInBounds_toArray,List.set_cons_zero,List.set_cons_succ,i64_w,i32_w]
                  rfl
                 refine pure_ (i:=17) (N:=some 54) (v:=?_) (a':=?_) #[true,true,true,true,true,true,true,true,true,true,true,true,true,true,true,true,true,true] rfl rfl (any_of HT_.out (by kernel_rfl)) (fun _ _ _ h=>h) (Or.inl ⟨by rfl,?_⟩) ?_ ?_
                 rotate_left
                 ·intro w'
                  go_simp
                  with_reducible rfl
                 rotate_left
                 ·simp only [Act.put,List.setIfInBounds_toArray,List.set_cons_zero,List.set_cons_succ,i64_w,i32_w]
                  rfl
                 refine done_ (done_of HT_.out (by kernel_rfl)) ?_
                 try go_wp2
                 go_ret
                 exact ⟨by first|rfl|(simp [errW_none,errW_some] <;> rfl)|(simp [*,errW_none,errW_some] <;> rfl),by repeat (first|(with_reducible first|exact HB.out|apply zD|apply zE|apply zF)|exact HB.out)⟩
               ·rw [if_neg c20] at H
                exact absurd H (by simp)
              ·rw [if_neg c19] at H
               exact absurd H (by simp)
             ·rw [if_neg c18] at H
              exact absurd H (by simp)
            ·rw [if_neg c17] at H
             exact absurd H (by simp)
           ·rw [if_neg c16] at H
            exact absurd H (by simp)
          ·rw [if_neg c15] at H
           exact absurd H (by simp)
         ·rw [if_neg c14] at H
          have c14b0 : decide (x8_3 < x7_1) = false:=decide_eq_false c14
          clear c14
          have H':=zM H
          clear H
          go_wp2
          go_roundg k3
          case measure=>have:=HK1.out;have:=HJ4.out;have:=HK3.out;omega
          case rel=>exact ⟨(wrap64 (x7_1 + 1)),(by first|rfl|(simp;done)|(simp [*];done)),H',⟨by have:=HK1.out;have:=HJ4.out;have:=HK3.out;omega⟩,⟨by repeat (first|(with_reducible first|exact HB.out|apply zD|apply zE|apply zF)|exact HB.out)⟩⟩
   ·rw [if_neg c4] at H
    have c4b0 : decide (x7_1 < (l2.length : Int)) = false:=decide_eq_false c4
    clear c4
    obtain rfl:=Option.some.inj H
    go_wp2
    go_ret
    exact ⟨by first|rfl|(simp [errW_none,errW_some] <;> rfl)|(simp [*,errW_none,errW_some] <;> rfl),by repeat (first|(with_reducible first|exact HB.out|apply zD|apply zE|apply zF)|exact HB.out)⟩

end Go.Proofs.Ytcciljjnpfgaeaa.G

-- Written by wip/tools/gen.py out of the translation (the kit's printer, one namespace a seat). Lean checks it.
namespace Go.Proofs.Ytcciljjnpfgaeaa.G
open Go.RowKit Go.Proofs.YtcciljjnpfgaeaaW.PrintWords Go.Proofs.YtcciljjnpfgaeaaW.PrintLast Go.Proofs.YtcciljjnpfgaeaaW.PrintMore
attribute [local go_sem] max2_int min2_int max_two min_two max_three min_three max_four min_four   -- for this text's walks alone
set_option linter.unusedVariables false
set_option linter.unusedSimpArgs false

/-! ### spec_l14Next: function 60 -/
mutual
def spec_l14Next.l0 : Nat → Int → List (S62) → List (S37) → Int → Int → Int → Int → Int → Option (Int × Int × Bool)
 | 0,_,_,_,_,_,_,_,_=>none
 | k + 1,x0,x2,x3,x10,x284000,x284001,x284002,x284003=>if x10 ≤ 1000 then (spec_l14Next.l1 k x0 x2 x3 x10 0 x284000 x284001 x284002 x284003) else (some (0,0,false))
def spec_l14Next.l1 : Nat → Int → List (S62) → List (S37) → Int → Int → Int → Int → Int → Int → Option (Int × Int × Bool)
 | 0,_,_,_,_,_,_,_,_,_=>none
 | k + 1,x0,x2,x3,x10,x11,x284000,x284001,x284002,x284003=>if (wrap64 (x11 + x284000)) ≤ x0 then (spec_l14Next.l2 k x0 x2 x3 x10 x11 true 0 x284000 x284001 x284002 x284003 x11 x10) else (spec_l14Next.l0 k x0 x2 x3 (wrap64 (x10 + 1)) x284000 x284001 x284002 x284003)
def spec_l14Next.l2 : Nat → Int → List (S62) → List (S37) → Int → Int → Bool → Int → Int → Int → Int → Int → Int → Int → Option (Int × Int × Bool)
 | 0,_,_,_,_,_,_,_,_,_,_,_,_,_=>none
 | k + 1,x0,x2,x3,x10,x11,x13,x14,x284000,x284001,x284002,x284003,x286000,x286001=>if x14 < (x2.length : Int) then (if x13 = true then (if 0 ≤ x14 then (if x14 < (x3.length : Int) then ((spec_l14Apart.f x284000 x284001 x284002 x284003 x286000 x286001 ((rd_T62 x2 x14).f0) ((rd_T62 x2 x14).f1) ((rd_T62 x2 x14).f2) ((rd_T62 x2 x14).f3) ((rd_T37 x3 x14).f0) ((rd_T37 x3 x14).f1)).bind fun t288=>(spec_l14Next.l2 k x0 x2 x3 x10 x11 t288 (wrap64 (x14 + 1)) x284000 x284001 x284002 x284003 x286000 x286001)) else (none)) else (none)) else (spec_l14Next.l1 k x0 x2 x3 x10 (wrap64 (x11 + 1)) x284000 x284001 x284002 x284003)) else (if x13 = true then (some (x286000,x286001,true)) else (spec_l14Next.l1 k x0 x2 x3 x10 (wrap64 (x11 + 1)) x284000 x284001 x284002 x284003))
end
def spec_l14Next.f (k : Nat) (a0 : Int) (a1_0 : Int) (a1_1 : Int) (a1_2 : Int) (a1_3 : Int) (l2 : List (S62)) (l3 : List (S37)) : Option (Int × Int × Bool):=spec_l14Next.l0 k a0 l2 l3 a1_1 a1_0 a1_1 a1_2 a1_3
theorem spec_l14Next.mono_l : ∀ k,(∀ y0 y1 y2 y3 y4 y5 y6 y7,LeO (spec_l14Next.l0 k y0 y1 y2 y3 y4 y5 y6 y7) (spec_l14Next.l0 (k + 1) y0 y1 y2 y3 y4 y5 y6 y7)) ∧ (∀ y0 y1 y2 y3 y4 y5 y6 y7 y8,LeO (spec_l14Next.l1 k y0 y1 y2 y3 y4 y5 y6 y7 y8) (spec_l14Next.l1 (k + 1) y0 y1 y2 y3 y4 y5 y6 y7 y8)) ∧ (∀ y0 y1 y2 y3 y4 y5 y6 y7 y8 y9 y10 y11 y12,LeO (spec_l14Next.l2 k y0 y1 y2 y3 y4 y5 y6 y7 y8 y9 y10 y11 y12) (spec_l14Next.l2 (k + 1) y0 y1 y2 y3 y4 y5 y6 y7 y8 y9 y10 y11 y12))
 | 0=>⟨fun _ _ _ _ _ _ _ _ r h=>by simp [spec_l14Next.l0] at h,fun _ _ _ _ _ _ _ _ _ r h=>by simp [spec_l14Next.l1] at h,fun _ _ _ _ _ _ _ _ _ _ _ _ _ r h=>by simp [spec_l14Next.l2] at h⟩
 | k + 1=>by
  obtain ⟨ih0,ih1,ih2⟩:=spec_l14Next.mono_l k
  refine ⟨?_,?_,?_⟩
  ·intro y0 y1 y2 y3 y4 y5 y6 y7
   unfold spec_l14Next.l0
   repeat' first
   | (with_reducible exact ih0 _ _ _ _ _ _ _ _)
   | (with_reducible exact ih1 _ _ _ _ _ _ _ _ _)
   | (with_reducible exact ih2 _ _ _ _ _ _ _ _ _ _ _ _ _)
   | (with_reducible exact LeO.refl _)
   | (with_reducible exact LeO.none _)
   | (with_reducible refine LeO.ite ?_ ?_)
   | (with_reducible refine LeO.bind ?_ (fun _=>?_))
   | exact ih0 _ _ _ _ _ _ _ _
   | exact ih1 _ _ _ _ _ _ _ _ _
   | exact ih2 _ _ _ _ _ _ _ _ _ _ _ _ _
   | exact LeO.none _
   | refine LeO.ite ?_ ?_
   | refine LeO.bind ?_ (fun _=>?_)
  ·intro y0 y1 y2 y3 y4 y5 y6 y7 y8
   unfold spec_l14Next.l1
   repeat' first
   | (with_reducible exact ih0 _ _ _ _ _ _ _ _)
   | (with_reducible exact ih1 _ _ _ _ _ _ _ _ _)
   | (with_reducible exact ih2 _ _ _ _ _ _ _ _ _ _ _ _ _)
   | (with_reducible exact LeO.refl _)
   | (with_reducible exact LeO.none _)
   | (with_reducible refine LeO.ite ?_ ?_)
   | (with_reducible refine LeO.bind ?_ (fun _=>?_))
   | exact ih0 _ _ _ _ _ _ _ _
   | exact ih1 _ _ _ _ _ _ _ _ _
   | exact ih2 _ _ _ _ _ _ _ _ _ _ _ _ _
   | exact LeO.none _
   | refine LeO.ite ?_ ?_
   | refine LeO.bind ?_ (fun _=>?_)
  ·intro y0 y1 y2 y3 y4 y5 y6 y7 y8 y9 y10 y11 y12
   unfold spec_l14Next.l2
   repeat' first
   | (with_reducible exact ih0 _ _ _ _ _ _ _ _)
   | (with_reducible exact ih1 _ _ _ _ _ _ _ _ _)
   | (with_reducible exact ih2 _ _ _ _ _ _ _ _ _ _ _ _ _)
   | (with_reducible exact LeO.refl _)
   | (with_reducible exact LeO.none _)
   | (with_reducible refine LeO.ite ?_ ?_)
   | (with_reducible refine LeO.bind ?_ (fun _=>?_))
   | exact ih0 _ _ _ _ _ _ _ _
   | exact ih1 _ _ _ _ _ _ _ _ _
   | exact ih2 _ _ _ _ _ _ _ _ _ _ _ _ _
   | exact LeO.none _
   | refine LeO.ite ?_ ?_
   | refine LeO.bind ?_ (fun _=>?_)
theorem spec_l14Next.mono : ∀ a0 a1 a2 a3 a4 a5 a6 k,LeO (spec_l14Next.f k a0 a1 a2 a3 a4 a5 a6) (spec_l14Next.f (k + 1) a0 a1 a2 a3 a4 a5 a6):=by
 intro a0 a1 a2 a3 a4 a5 a6 k
 obtain ⟨ih0,ih1,ih2⟩:=spec_l14Next.mono_l k
 unfold spec_l14Next.f
 repeat' first
   | (with_reducible exact ih0 _ _ _ _ _ _ _ _)
   | (with_reducible exact ih1 _ _ _ _ _ _ _ _ _)
   | (with_reducible exact ih2 _ _ _ _ _ _ _ _ _ _ _ _ _)
   | (with_reducible exact LeO.refl _)
   | (with_reducible exact LeO.none _)
   | (with_reducible refine LeO.ite ?_ ?_)
   | (with_reducible refine LeO.bind ?_ (fun _=>?_))
   | exact ih0 _ _ _ _ _ _ _ _
   | exact ih1 _ _ _ _ _ _ _ _ _
   | exact ih2 _ _ _ _ _ _ _ _ _ _ _ _ _
   | exact LeO.none _
   | refine LeO.ite ?_ ?_
   | refine LeO.bind ?_ (fun _=>?_)
def spec_l14Next.T12 : Bool × List (List Nat × List Nat):=(true,[([],[]),([],[]),([],[]),([],[]),([2,3],[2,3]),([4],[4]),([],[]),([],[]),([6,7],[6,7]),([8],[8]),([0,1,5,9],[0,1,5,9]),([10,10,0,1,2,3,4,5,6,7,8,9,10],[10])])
def spec_l14Next.B12 : List Nat:=[0,0,0,0,12,28,0,0,192,448,1023,2047]
theorem spec_l14Next.tab12 : rtab .any (opsOf Try.f60 12) = spec_l14Next.T12:=by kernel_rfl
theorem spec_l14Next.bits12 : waitsOk spec_l14Next.T12.2 spec_l14Next.B12 = true:=by kernel_rfl
set_option maxHeartbeats 8000000 in
set_option maxRecDepth 100000 in
theorem spec_l14Next.calls (k : Nat) (a0 : Int) (a1_0 : Int) (a1_1 : Int) (a1_2 : Int) (a1_3 : Int) (A2 : Option Addr) (c2 : Nat) (l2 : List (S62)) (A3 : Option Addr) (c3 : Nat) (l3 : List (S37)) (r1 : Int) (r2 : Int) (r3 : Bool) (w : World) (hr2 : Kd.C k62 w A2 l2.length l2) (hc2 : l2.length ≤ c2) (hr3 : Kd.C k37 w A3 l3.length l3) (hc3 : l3.length ≤ c3) (h : spec_l14Next.f k a0 a1_0 a1_1 a1_2 a1_3 l2 l3 = some (r1,r2,r3)) :
  Calls Try.prog 60 #[.int .i64 a0,.agg #[.int .i64 a1_0,.int .i64 a1_1,.int .i64 a1_2,.int .i64 a1_3],.slice A2 l2.length c2,.slice A3 l3.length c3] w fun e w'=>e = .returned (.tuple #[.agg #[.int .i64 r1,.int .i64 r2],.bool r3]) ∧ Below w.heap.size w w':=by
 have hu62:=Try.underlying62
 have hu37:=Try.underlying37
 have HR2:=zM hr2
 have HC2:=zM hc2
 clear hr2 hc2
 have HR3:=zM hr3
 have HC3:=zM hc3
 clear hr3 hc3
 have HB:=zM (Below.refl w.heap.size w)
 have H : (spec_l14Next.l0 k a0 l2 l3 a1_1 a1_0 a1_1 a1_2 a1_3) = some (r1,r2,r3):=h
 clear h
 have H':=zM H
 clear H
 go_enter Try.func60,Try.ntmps60
 go_wp2_with (first|((with_reducible refine gate_dst (N:=5) rfl ?_);refine box_event ?hg (N:=5) ?hd (cs := #[.int .i64 a1_0,.int .i64 a1_1,.int .i64 a1_2,.int .i64 a1_3]) (t:=62) ?hr ?_;(case hd=>rfl);(case hg=>rfl);(case hr=>first|(go_simp;done)|(go_simp;rfl));intro gb283 hg w5 hbox hb;have n0_:=zM (zQ (by repeat (first|(with_reducible first|exact HB.out|apply zD|apply zE|apply zF)|exact HB.out)) hb);have n1_:=zM (hbox);have n2_:=zM ((by rw [hg];exact (zR (by repeat (first|(with_reducible first|exact HB.out|apply zD|apply zE|apply zF)|exact HB.out))) : w.heap.size ≤ gb283));have n3_:=zM ((by rw [hg];exact (zR (by repeat (first|(with_reducible first|exact HB.out|apply zD|apply zE|apply zF)|exact HB.out))) : w.heap.size ≤ gb283));clear HB;have HB:=n0_;have BK283:=n1_;have GW283:=n2_;have GE283:=n3_;clear n0_ n1_ n2_ n3_;clear hb hbox hg)|((with_reducible refine gate_dst (N:=8) rfl ?_);refine box_event ?hg (N:=8) ?hd (cs := #[.int .i64 0,.int .i64 0]) (t:=37) ?hr ?_;(case hd=>rfl);(case hg=>rfl);(case hr=>first|(go_simp;done)|(go_simp;rfl));intro gb284 hg w6 hbox hb;have n0_:=zM (blk_below (g:=gb283) (o := .cells #[.int .i64 a1_0,.int .i64 a1_1,.int .i64 a1_2,.int .i64 a1_3] 62 (0,0)) (by (with_reducible repeat (first|refine zJ ?_ _|refine zK ?_|refine zL ?_ _));exact BK283.out) hb);have n1_:=zM (zQ (by repeat (first|(with_reducible first|exact HB.out|apply zD|apply zE|apply zF|refine below_set ?_ GE283.out)|exact HB.out)) hb);have n2_:=zM (hbox);have n3_:=zM ((by rw [hg];exact (zR (by repeat (first|(with_reducible first|exact HB.out|apply zD|apply zE|apply zF|refine below_set ?_ GE283.out)|exact HB.out))) : w.heap.size ≤ gb284));have n4_:=zM ((by rw [hg];exact (zR (by repeat (first|(with_reducible first|exact HB.out|apply zD|apply zE|apply zF|refine below_set ?_ GE283.out)|exact HB.out))) : w.heap.size ≤ gb284));have n5_:=zM ((by rw [hg];exact Nat.ne_of_lt (blk_lt (g:=gb283) (o := .cells #[.int .i64 a1_0,.int .i64 a1_1,.int .i64 a1_2,.int .i64 a1_3] 62 (0,0)) (by (with_reducible repeat (first|refine zJ ?_ _|refine zK ?_|refine zL ?_ _));exact BK283.out)) : gb283 ≠ gb284));have n6_:=zM ((by rw [hg];exact Nat.ne_of_gt (blk_lt (g:=gb283) (o := .cells #[.int .i64 a1_0,.int .i64 a1_1,.int .i64 a1_2,.int .i64 a1_3] 62 (0,0)) (by (with_reducible repeat (first|refine zJ ?_ _|refine zK ?_|refine zL ?_ _));exact BK283.out)) : gb284 ≠ gb283));clear BK283;clear HB;have BK283:=n0_;have HB:=n1_;have BK284:=n2_;have GW284:=n3_;have GE284:=n4_;have NB283_284:=n5_;have NB284_283:=n6_;clear n0_ n1_ n2_ n3_ n4_ n5_ n6_;clear hb hbox hg;have hnb7:=NB283_284.out;have hnc7:=NB284_283.out;have hcz8_0 : w6.cell? ⟨gb283,0,none⟩ = some (.int .i64 a1_0):=(blk_cell BK283.out 0).trans rfl;have hcz8_1 : w6.cell? ⟨gb283,1,none⟩ = some (.int .i64 a1_1):=(blk_cell BK283.out 1).trans rfl;have hcz8_2 : w6.cell? ⟨gb283,2,none⟩ = some (.int .i64 a1_2):=(blk_cell BK283.out 2).trans rfl;have hcz8_3 : w6.cell? ⟨gb283,3,none⟩ = some (.int .i64 a1_3):=(blk_cell BK283.out 3).trans rfl;have hfz8_0:=blk_frozen BK283.out 0;have hfz8_1:=blk_frozen BK283.out 1;have hfz8_2:=blk_frozen BK283.out 2;have hfz8_3:=blk_frozen BK283.out 3))
 go_loopg [10] k (fun kq v10 w' => ∃ (x10_1 : Int) (x285000_1 : Int) (x285001_1 : Int),v10 = .int .i64 x10_1 ∧ Aside0 (spec_l14Next.l0 kq a0 l2 l3 x10_1 a1_0 a1_1 a1_2 a1_3 = some (r1,r2,r3)) ∧ Aside0 (kq ≤ k) ∧ Aside0 (w'.heap[gb283]? = some (.cells #[.int .i64 a1_0,.int .i64 a1_1,.int .i64 a1_2,.int .i64 a1_3] 62 (0,0))) ∧ Aside0 (w'.heap[gb284]? = some (.cells #[.int .i64 x285000_1,.int .i64 x285001_1] 37 (0,0))) ∧ Aside0 (Below w.heap.size w w'))
 case atStart=>exact ⟨(a1_1),(0),(0),(by first|rfl|(simp;done)|(simp [*];done)),H',⟨Nat.le_refl _⟩,⟨by (with_reducible repeat (first|refine zJ ?_ _|refine zK ?_|refine zL ?_ _));exact BK283.out⟩,⟨by (with_reducible repeat (first|refine zJ ?_ _|refine zK ?_|refine zL ?_ _));exact BK284.out⟩,⟨by repeat (first|(with_reducible first|exact HB.out|apply zD|apply zE|apply zF|refine below_set ?_ GE283.out|refine below_set ?_ GE284.out)|exact HB.out)⟩⟩
 case round =>
  clear H'
  try clear c2
  try clear p2
  try clear c3
  try clear c6
  try clear c7
  try clear hcz8_0
  try clear hcz8_1
  try clear hcz8_2
  try clear hcz8_3
  try clear hfz8_0
  try clear hfz8_1
  try clear hfz8_2
  try clear hfz8_3
  obtain ⟨x10_1,x285000_1,x285001_1,rfl,HA,HK1,BK283,BK284,HB⟩:=hrel
  cases gk with
  | zero=>exact absurd HA.out (by simp [spec_l14Next.l0])
  | succ k1 =>
   have H:=HA.out
   clear HA
   simp only [spec_l14Next.l0] at H
   by_cases c9 : x10_1 ≤ 1000
   ·rw [if_pos c9] at H
    have c9b0 : decide (x10_1 ≤ 1000) = true:=decide_eq_true c9
    clear c9
    have H':=zM H
    clear H
    go_wp2
    go_loopg [11] k1 (fun kq v11 w' => ∃ (x11_2 : Int) (x285000_2 : Int) (x285001_2 : Int),v11 = .int .i64 x11_2 ∧ Aside0 (spec_l14Next.l1 kq a0 l2 l3 x10_1 x11_2 a1_0 a1_1 a1_2 a1_3 = some (r1,r2,r3)) ∧ Aside0 (kq ≤ k1) ∧ Aside0 (w'.heap[gb283]? = some (.cells #[.int .i64 a1_0,.int .i64 a1_1,.int .i64 a1_2,.int .i64 a1_3] 62 (0,0))) ∧ Aside0 (w'.heap[gb284]? = some (.cells #[.int .i64 x285000_2,.int .i64 x285001_2] 37 (0,0))) ∧ Aside0 (Below w.heap.size w w'))
    case atStart=>exact ⟨(0),(x285000_1),(x285001_1),(by first|rfl|(simp;done)|(simp [*];done)),H',⟨Nat.le_refl _⟩,⟨by (with_reducible repeat (first|refine zJ ?_ _|refine zK ?_|refine zL ?_ _));exact BK283.out⟩,⟨by (with_reducible repeat (first|refine zJ ?_ _|refine zK ?_|refine zL ?_ _));exact BK284.out⟩,⟨by repeat (first|(with_reducible first|exact HB.out|apply zD|apply zE|apply zF|refine below_set ?_ GE283.out|refine below_set ?_ GE284.out)|exact HB.out)⟩⟩
    case round =>
     clear H'
     try clear c2
     try clear p2
     try clear c3
     try clear c6
     try clear c7
     try clear c9
     try clear c9b0
     try clear hcz8_0
     try clear hcz8_1
     try clear hcz8_2
     try clear hcz8_3
     try clear hfz8_0
     try clear hfz8_1
     try clear hfz8_2
     try clear hfz8_3
     try clear p2
     obtain ⟨x11_2,x285000_2,x285001_2,rfl,HA,HK2,BK283,BK284,HB⟩:=hrel
     cases gk with
     | zero=>exact absurd HA.out (by simp [spec_l14Next.l1])
     | succ k2 =>
      have H:=HA.out
      clear HA
      simp only [spec_l14Next.l1] at H
      by_cases c10 : (wrap64 (x11_2 + a1_0)) ≤ a0
      ·rw [if_pos c10] at H
       have c10b0 : decide ((wrap64 (x11_2 + a1_0)) ≤ a0) = true:=decide_eq_true c10
       clear c10
       have H':=zM H
       clear H
       have hnb11:=NB283_284.out
       have hnc11:=NB284_283.out
       have hcz12_0 : wr.cell? ⟨gb283,0,none⟩ = some (.int .i64 a1_0):=(blk_cell BK283.out 0).trans rfl
       have hcz12_1 : wr.cell? ⟨gb283,1,none⟩ = some (.int .i64 a1_1):=(blk_cell BK283.out 1).trans rfl
       have hcz12_2 : wr.cell? ⟨gb283,2,none⟩ = some (.int .i64 a1_2):=(blk_cell BK283.out 2).trans rfl
       have hcz12_3 : wr.cell? ⟨gb283,3,none⟩ = some (.int .i64 a1_3):=(blk_cell BK283.out 3).trans rfl
       have hfz12_0:=blk_frozen BK283.out 0
       have hfz12_1:=blk_frozen BK283.out 1
       have hfz12_2:=blk_frozen BK283.out 2
       have hfz12_3:=blk_frozen BK283.out 3
       go_wp2_with (first|((with_reducible refine gate_dst (N:=12) rfl ?_);refine box_event ?hg (N:=12) ?hd (cs := #[.int .i64 0,.int .i64 0]) (t:=37) ?hr ?_;(case hd=>rfl);(case hg=>rfl);(case hr=>first|(go_simp;done)|(go_simp;rfl));intro gb285 hg w13 hbox hb;have n0_:=zM (blk_below (g:=gb283) (o := .cells #[.int .i64 a1_0,.int .i64 a1_1,.int .i64 a1_2,.int .i64 a1_3] 62 (0,0)) (by (with_reducible repeat (first|refine zJ ?_ _|refine zK ?_|refine zL ?_ _));exact BK283.out) hb);have n1_:=zM (blk_below (g:=gb284) (o := .cells #[.int .i64 x285000_2,.int .i64 x285001_2] 37 (0,0)) (by (with_reducible repeat (first|refine zJ ?_ _|refine zK ?_|refine zL ?_ _));exact BK284.out) hb);have n2_:=zM (zQ (by repeat (first|(with_reducible first|exact HB.out|apply zD|apply zE|apply zF|refine below_set ?_ GE283.out|refine below_set ?_ GE284.out)|exact HB.out)) hb);have n3_:=zM (hbox);have n4_:=zM ((by rw [hg];exact (zR (by repeat (first|(with_reducible first|exact HB.out|apply zD|apply zE|apply zF|refine below_set ?_ GE283.out|refine below_set ?_ GE284.out)|exact HB.out))) : w.heap.size ≤ gb285));have n5_:=zM ((by rw [hg];exact (zR (by repeat (first|(with_reducible first|exact HB.out|apply zD|apply zE|apply zF|refine below_set ?_ GE283.out|refine below_set ?_ GE284.out)|exact HB.out))) : w.heap.size ≤ gb285));have n6_:=zM ((by rw [hg];exact Nat.ne_of_lt (blk_lt (g:=gb283) (o := .cells #[.int .i64 a1_0,.int .i64 a1_1,.int .i64 a1_2,.int .i64 a1_3] 62 (0,0)) (by (with_reducible repeat (first|refine zJ ?_ _|refine zK ?_|refine zL ?_ _));exact BK283.out)) : gb283 ≠ gb285));have n7_:=zM ((by rw [hg];exact Nat.ne_of_gt (blk_lt (g:=gb283) (o := .cells #[.int .i64 a1_0,.int .i64 a1_1,.int .i64 a1_2,.int .i64 a1_3] 62 (0,0)) (by (with_reducible repeat (first|refine zJ ?_ _|refine zK ?_|refine zL ?_ _));exact BK283.out)) : gb285 ≠ gb283));have n8_:=zM ((by rw [hg];exact Nat.ne_of_lt (blk_lt (g:=gb284) (o := .cells #[.int .i64 x285000_2,.int .i64 x285001_2] 37 (0,0)) (by (with_reducible repeat (first|refine zJ ?_ _|refine zK ?_|refine zL ?_ _));exact BK284.out)) : gb284 ≠ gb285));have n9_:=zM ((by rw [hg];exact Nat.ne_of_gt (blk_lt (g:=gb284) (o := .cells #[.int .i64 x285000_2,.int .i64 x285001_2] 37 (0,0)) (by (with_reducible repeat (first|refine zJ ?_ _|refine zK ?_|refine zL ?_ _));exact BK284.out)) : gb285 ≠ gb284));clear BK283;clear BK284;clear HB;have BK283:=n0_;have BK284:=n1_;have HB:=n2_;have BK285:=n3_;have GW285:=n4_;have GE285:=n5_;have NB283_285:=n6_;have NB285_283:=n7_;have NB284_285:=n8_;have NB285_284:=n9_;clear n0_ n1_ n2_ n3_ n4_ n5_ n6_ n7_ n8_ n9_;clear hb hbox hg;have hnb14:=NB285_283.out;have hnc14:=NB283_285.out;have hnb15:=NB285_284.out;have hnc15:=NB284_285.out;have hcz16_0 : w13.cell? ⟨gb285,0,none⟩ = some (.int .i64 0):=(blk_cell BK285.out 0).trans rfl;have hcz16_1 : w13.cell? ⟨gb285,1,none⟩ = some (.int .i64 0):=(blk_cell BK285.out 1).trans rfl;have hfz16_0:=blk_frozen BK285.out 0;have hfz16_1:=blk_frozen BK285.out 1))
       go_loopg [13,14] k2 (fun kq v13 v14 w' => ∃ (x13_3 : Bool) (x14_3 : Int),v13 = .bool x13_3 ∧ v14 = .int .i64 x14_3 ∧ Aside0 (spec_l14Next.l2 kq a0 l2 l3 x10_1 x11_2 x13_3 x14_3 a1_0 a1_1 a1_2 a1_3 x11_2 x10_1 = some (r1,r2,r3)) ∧ Aside0 (kq ≤ k2) ∧ Aside0 (w'.heap[gb283]? = some (.cells #[.int .i64 a1_0,.int .i64 a1_1,.int .i64 a1_2,.int .i64 a1_3] 62 (0,0))) ∧ Aside0 (w'.heap[gb284]? = some (.cells #[.int .i64 x285000_2,.int .i64 x285001_2] 37 (0,0))) ∧ Aside0 (w'.heap[gb285]? = some (.cells #[.int .i64 x11_2,.int .i64 x10_1] 37 (0,0))) ∧ Aside0 (Below w.heap.size w w'))
       case atStart=>exact ⟨(true),(0),(by first|rfl|(simp;done)|(simp [*];done)),(by first|rfl|(simp;done)|(simp [*];done)),H',⟨Nat.le_refl _⟩,⟨by (with_reducible repeat (first|refine zJ ?_ _|refine zK ?_|refine zL ?_ _));refine blk_far ?_ NB283_285.out _;(with_reducible repeat (first|refine zJ ?_ _|refine zK ?_|refine zL ?_ _));refine blk_far ?_ NB283_285.out _;(with_reducible repeat (first|refine zJ ?_ _|refine zK ?_|refine zL ?_ _));exact BK283.out⟩,⟨by (with_reducible repeat (first|refine zJ ?_ _|refine zK ?_|refine zL ?_ _));refine blk_far ?_ NB284_285.out _;(with_reducible repeat (first|refine zJ ?_ _|refine zK ?_|refine zL ?_ _));refine blk_far ?_ NB284_285.out _;(with_reducible repeat (first|refine zJ ?_ _|refine zK ?_|refine zL ?_ _));exact BK284.out⟩,⟨by (with_reducible repeat (first|refine zJ ?_ _|refine zK ?_|refine zL ?_ _));refine blk_put (cs := #[.int .i64 x11_2,.int .i64 0]) ?_ 1 _ rfl;(with_reducible repeat (first|refine zJ ?_ _|refine zK ?_|refine zL ?_ _));refine blk_put (cs := #[.int .i64 0,.int .i64 0]) ?_ 0 _ rfl;(with_reducible repeat (first|refine zJ ?_ _|refine zK ?_|refine zL ?_ _));exact BK285.out⟩,⟨by repeat (first|(with_reducible first|exact HB.out|apply zD|apply zE|apply zF|refine below_set ?_ GE283.out|refine below_set ?_ GE284.out|refine below_set ?_ GE285.out)|exact HB.out)⟩⟩
       case round =>
        clear H'
        try clear c1
        try clear c2
        try clear p2
        try clear c3
        try clear c6
        try clear p6
        try clear c7
        try clear c9
        try clear c9b0
        try clear c10
        try clear c10b0
        try clear c11
        try clear c14
        try clear c15
        try clear hcz12_0
        try clear hcz12_1
        try clear hcz12_2
        try clear hcz12_3
        try clear hcz16_0
        try clear hcz16_1
        try clear hcz8_0
        try clear hcz8_1
        try clear hcz8_2
        try clear hcz8_3
        try clear hfz12_0
        try clear hfz12_1
        try clear hfz12_2
        try clear hfz12_3
        try clear hfz16_0
        try clear hfz16_1
        try clear hfz8_0
        try clear hfz8_1
        try clear hfz8_2
        try clear hfz8_3
        try clear p2
        obtain ⟨x13_3,x14_3,rfl,rfl,HA,HK3,BK283,BK284,BK285,HB⟩:=hrel
        cases gk with
        | zero=>exact absurd HA.out (by simp [spec_l14Next.l2])
        | succ k3 =>
         have H:=HA.out
         clear HA
         simp only [spec_l14Next.l2] at H
         by_cases c17 : x14_3 < (l2.length : Int)
         ·rw [if_pos c17] at H
          have c17b0 : decide (x14_3 < (l2.length : Int)) = true:=decide_eq_true c17
          clear c17
          by_cases c18 : x13_3 = true
          ·subst c18
           have H1 : (if 0 ≤ x14_3 then (if x14_3 < (l3.length : Int) then ((spec_l14Apart.f a1_0 a1_1 a1_2 a1_3 x11_2 x10_1 ((rd_T62 l2 x14_3).f0) ((rd_T62 l2 x14_3).f1) ((rd_T62 l2 x14_3).f2) ((rd_T62 l2 x14_3).f3) ((rd_T37 l3 x14_3).f0) ((rd_T37 l3 x14_3).f1)).bind fun t288=>(spec_l14Next.l2 k3 a0 l2 l3 x10_1 x11_2 t288 (wrap64 (x14_3 + 1)) a1_0 a1_1 a1_2 a1_3 x11_2 x10_1)) else (none)) else (none)) = some (r1,r2,r3):=by rw [if_pos rfl] at H;exact H
           clear H
           have H:=H1
           clear H1
           by_cases c19 : 0 ≤ x14_3
           ·rw [if_pos c19] at H
            have c19b0 : decide (0 ≤ x14_3) = true:=decide_eq_true c19
            clear c19
            by_cases c20 : x14_3 < (l3.length : Int)
            ·rw [if_pos c20] at H
             have c20b0 : decide (x14_3 < (l3.length : Int)) = true:=decide_eq_true c20
             clear c20
             replace H:=Option.bind_eq_some_iff.mp H
             obtain ⟨t288,A210,H⟩:=H
             replace H : (spec_l14Next.l2 k3 a0 l2 l3 x10_1 x11_2 t288 (wrap64 (x14_3 + 1)) a1_0 a1_1 a1_2 a1_3 x11_2 x10_1) = some (r1,r2,r3):=H
             have A21:=zM A210
             clear A210
             have H':=zM H
             clear H
             try go_wp2
             have n0_:=zM (zK BK283.out)
             have n1_:=zM (zK BK284.out)
             have n2_:=zM (zK BK285.out)
             have n3_:=zM (zF HB.out)
             clear BK283
             clear BK284
             clear BK285
             clear HB
             have BK283:=n0_
             have BK284:=n1_
             have BK285:=n2_
             have HB:=n3_
             clear n0_ n1_ n2_ n3_
             have p286 : 0 ≤ (x14_3 : Int):=of_decide_eq_true (by first|(with_reducible assumption)|assumption)
             have q286 : x14_3 < (l2.length : Int):=of_decide_eq_true (by first|(with_reducible assumption)|assumption)
             obtain ⟨ad286,e286,hx286_0,hx286_1,hx286_2,hx286_3⟩:=at_T62 HR2.out x14_3 p286 q286
             have hw286_3:=hx286_3
             have hw286_2:=hx286_2
             have hw286_1:=hx286_1
             have hw286_0:=hx286_0
             cases e286
             replace hx286_0:=(HB.out.cell (World.block_lt_of_cell? w _ hx286_0)).trans hx286_0
             replace hx286_1:=(HB.out.cell (World.block_lt_of_cell? w _ hx286_1)).trans hx286_1
             replace hx286_2:=(HB.out.cell (World.block_lt_of_cell? w _ hx286_2)).trans hx286_2
             replace hx286_3:=(HB.out.cell (World.block_lt_of_cell? w _ hx286_3)).trans hx286_3
             replace p286:=eq_true p286
             replace q286:=eq_true q286
             have p287 : 0 ≤ (x14_3 : Int):=of_decide_eq_true (by first|(with_reducible assumption)|assumption)
             have q287 : x14_3 < (l3.length : Int):=of_decide_eq_true (by first|(with_reducible assumption)|assumption)
             obtain ⟨ad287,e287,hx287_0,hx287_1⟩:=at_T37 HR3.out x14_3 p287 q287
             have hw287_1:=hx287_1
             have hw287_0:=hx287_0
             cases e287
             replace hx287_0:=(HB.out.cell (World.block_lt_of_cell? w _ hx287_0)).trans hx287_0
             replace hx287_1:=(HB.out.cell (World.block_lt_of_cell? w _ hx287_1)).trans hx287_1
             replace p287:=eq_true p287
             replace q287:=eq_true q287
             refine start_ (n:=12) (S:=fun w'=>w'.cell? ⟨gb283,0,none⟩ = some (.int .i64 a1_0) ∧ w'.cell? ⟨gb283,1,none⟩ = some (.int .i64 a1_1) ∧ w'.cell? ⟨gb283,2,none⟩ = some (.int .i64 a1_2) ∧ w'.cell? ⟨gb283,3,none⟩ = some (.int .i64 a1_3) ∧ w'.cell? ⟨gb285,0,none⟩ = some (.int .i64 x11_2) ∧ w'.cell? ⟨gb285,1,none⟩ = some (.int .i64 x10_1) ∧ w'.cell? (ad286.add ((x14_3).toNat * 4)) = some (.int .i64 ((rd_T62 l2 x14_3).f0)) ∧ w'.cell? ⟨(ad286.add ((x14_3).toNat * 4)).block,(ad286.add ((x14_3).toNat * 4)).off + 1,none⟩ = some (.int .i64 ((rd_T62 l2 x14_3).f1)) ∧ w'.cell? ⟨(ad286.add ((x14_3).toNat * 4)).block,(ad286.add ((x14_3).toNat * 4)).off + 2,none⟩ = some (.int .i64 ((rd_T62 l2 x14_3).f2)) ∧ w'.cell? ⟨(ad286.add ((x14_3).toNat * 4)).block,(ad286.add ((x14_3).toNat * 4)).off + 3,none⟩ = some (.int .i64 ((rd_T62 l2 x14_3).f3)) ∧ w'.cell? (ad287.add ((x14_3).toNat * 2)) = some (.int .i64 ((rd_T37 l3 x14_3).f0)) ∧ w'.cell? ⟨(ad287.add ((x14_3).toNat * 2)).block,(ad287.add ((x14_3).toNat * 2)).off + 1,none⟩ = some (.int .i64 ((rd_T37 l3 x14_3).f1))) (ds:=[]) #[false,false,false,false,false,false,false,false,false,false,false,false] (by kernel_rfl) rfl rfl ⟨(blk_cell BK283.out 0).trans rfl,(blk_cell BK283.out 1).trans rfl,(blk_cell BK283.out 2).trans rfl,(blk_cell BK283.out 3).trans rfl,(blk_cell BK285.out 0).trans rfl,(blk_cell BK285.out 1).trans rfl,((HB.out.cell (World.block_lt_of_cell? w _ hw286_0)).trans hw286_0),((HB.out.cell (World.block_lt_of_cell? w _ hw286_1)).trans hw286_1),((HB.out.cell (World.block_lt_of_cell? w _ hw286_2)).trans hw286_2),((HB.out.cell (World.block_lt_of_cell? w _ hw286_3)).trans hw286_3),((HB.out.cell (World.block_lt_of_cell? w _ hw287_0)).trans hw287_0),((HB.out.cell (World.block_lt_of_cell? w _ hw287_1)).trans hw287_1)⟩ (fun hHeld=>?_);refine with_tabW spec_l14Next.tab12 spec_l14Next.bits12 (fun HT_ HW_=>?_)
             generalize wr.drew = w22 at BK283 BK284 BK285 HB hx286_0 hx286_1 hx286_2 hx286_3 hx287_0 hx287_1 hHeld ⊢
             refine pure_ (i:=2) (N:=some 43) (v:=?_) (a':=?_) #[false,false,true,false,false,false,false,false,false,false,false,false] rfl rfl (any_of HT_.out (by kernel_rfl)) (fun _ _ _ h=>h) (Or.inl ⟨by rfl,?_⟩) ?_ ?_
             rotate_left
             ·intro w'
              go_simp
              with_reducible rfl
             rotate_left
             ·simp only [Act.put,List.setIfInBounds_toArray,List.set_cons_zero,List.set_cons_succ,i64_w,i32_w]
              rfl
             refine pure_ (i:=3) (N:=some 44) (v:=?_) (a':=?_) #[false,false,true,true,false,false,false,false,false,false,false,false] rfl rfl (any_of HT_.out (by kernel_rfl)) (fun _ _ _ h=>h) (Or.inl ⟨by rfl,?_⟩) ?_ ?_
             rotate_left
             ·intro w'
              go_simp
              with_reducible rfl
             rotate_left
             ·simp only [Act.put,List.setIfInBounds_toArray,List.set_cons_zero,List.set_cons_succ,i64_w,i32_w]
              rfl
             refine pure_ (i:=4) (N:=some 45) (v:=?_) (a':=?_) #[false,false,true,true,true,false,false,false,false,false,false,false] rfl rfl (any_of HT_.out (by kernel_rfl)) (fun _ _ _ h=>h) (Or.inl ⟨by rfl,?_⟩) ?_ ?_
             rotate_left
             ·intro w'
              go_simp
              with_reducible rfl
             rotate_left
             ·simp only [Act.put,List.setIfInBounds_toArray,List.set_cons_zero,List.set_cons_succ,i64_w,i32_w]
              rfl
             refine pure_ (i:=6) (N:=some 47) (v:=?_) (a':=?_) #[false,false,true,true,true,false,true,false,false,false,false,false] rfl rfl (any_of HT_.out (by kernel_rfl)) (fun _ _ _ h=>h) (Or.inl ⟨by rfl,?_⟩) ?_ ?_
             rotate_left
             ·intro w'
              go_simp
              with_reducible rfl
             rotate_left
             ·simp only [Act.put,List.setIfInBounds_toArray,List.set_cons_zero,List.set_cons_succ,i64_w,i32_w]
              rfl
             refine pure_ (i:=7) (N:=some 48) (v:=?_) (a':=?_) #[false,false,true,true,true,false,true,true,false,false,false,false] rfl rfl (any_of HT_.out (by kernel_rfl)) (fun _ _ _ h=>h) (Or.inl ⟨by rfl,?_⟩) ?_ ?_
             rotate_left
             ·intro w'
              go_simp
              with_reducible rfl
             rotate_left
             ·simp only [Act.put,List.setIfInBounds_toArray,List.set_cons_zero,List.set_cons_succ,i64_w,i32_w]
              rfl
             refine pure_ (i:=8) (N:=some 49) (v:=?_) (a':=?_) #[false,false,true,true,true,false,true,true,true,false,false,false] rfl rfl (any_of HT_.out (by kernel_rfl)) (fun _ _ _ h=>h) (Or.inl ⟨by rfl,?_⟩) ?_ ?_
             rotate_left
             ·intro w'
              go_simp
              with_reducible rfl
             rotate_left
             ·simp only [Act.put,List.setIfInBounds_toArray,List.set_cons_zero,List.set_cons_succ,i64_w,i32_w]
              rfl
             refine take_ (i:=0) (N:=some 41) (v:=?_) (a':=?_) #[true,false,true,true,true,false,true,true,true,false,false,false] rfl rfl (take_ofW HT_.out HW_.out (by kernel_rfl)) (fun _ _ _ h=>h) (Or.inl ⟨by rfl,?_⟩) hHeld ?_ ?_
             rotate_left
             ·rintro w' ⟨s0,s1,s2,s3,s4,s5,s6,s7,s8,s9,s10,s11⟩
              go_simp
              with_reducible rfl
             rotate_left
             ·simp only [Act.put,List.setIfInBounds_toArray,List.set_cons_zero,List.set_cons_succ,i64_w,i32_w]
              rfl
             refine take_ (i:=1) (N:=some 42) (v:=?_) (a':=?_) #[true,true,true,true,true,false,true,true,true,false,false,false] rfl rfl (take_ofW HT_.out HW_.out (by kernel_rfl)) (fun _ _ _ h=>h) (Or.inl ⟨by rfl,?_⟩) hHeld ?_ ?_
             rotate_left
             ·rintro w' ⟨s0,s1,s2,s3,s4,s5,s6,s7,s8,s9,s10,s11⟩
              go_simp
              with_reducible rfl
             rotate_left
             ·simp only [Act.put,List.setIfInBounds_toArray,List.set_cons_zero,List.set_cons_succ,i64_w,i32_w]
              rfl
             refine take_ (i:=5) (N:=some 46) (v:=?_) (a':=?_) #[true,true,true,true,true,true,true,true,true,false,false,false] rfl rfl (take_ofW HT_.out HW_.out (by kernel_rfl)) (fun _ _ _ h=>h) (Or.inl ⟨by rfl,?_⟩) hHeld ?_ ?_
             rotate_left
             ·rintro w' ⟨s0,s1,s2,s3,s4,s5,s6,s7,s8,s9,s10,s11⟩
              go_simp
              with_reducible rfl
             rotate_left
             ·simp only [Act.put,List.setIfInBounds_toArray,List.set_cons_zero,List.set_cons_succ,i64_w,i32_w]
              rfl
             refine take_ (i:=9) (N:=some 50) (v:=?_) (a':=?_) #[true,true,true,true,true,true,true,true,true,true,false,false] rfl rfl (take_ofW HT_.out HW_.out (by kernel_rfl)) (fun _ _ _ h=>h) (Or.inl ⟨by rfl,?_⟩) hHeld ?_ ?_
             rotate_left
             ·rintro w' ⟨s0,s1,s2,s3,s4,s5,s6,s7,s8,s9,s10,s11⟩
              go_simp
              with_reducible rfl
             rotate_left
             ·simp only [Act.put,List.setIfInBounds_toArray,List.set_cons_zero,List.set_cons_succ,i64_w,i32_w]
              rfl
             refine one_ (i:=10) (N:=some 51) #[true,true,true,true,true,true,true,true,true,true,true,false] rfl rfl (one_of HT_.out (by kernel_rfl)) (by decide) (fun K hK=>?_)
             refine goes_ Try.func81 (by kernel_rfl) rfl #[.agg #[.int .i64 a1_0,.int .i64 a1_1,.int .i64 a1_2,.int .i64 a1_3],.agg #[.int .i64 x11_2,.int .i64 x10_1],.agg #[.int .i64 ((rd_T62 l2 x14_3).f0),.int .i64 ((rd_T62 l2 x14_3).f1),.int .i64 ((rd_T62 l2 x14_3).f2),.int .i64 ((rd_T62 l2 x14_3).f3)],.agg #[.int .i64 ((rd_T37 l3 x14_3).f0),.int .i64 ((rd_T37 l3 x14_3).f1)]] (by rfl) rfl rfl (by (try simp only [List.map_toArray,List.map_cons,List.map_nil]);first|done|rfl|(simp only [List.length_drop,List.length_take];rfl)) ?_
             with_reducible refine (spec_l14Apart.calls a1_0 a1_1 a1_2 a1_3 x11_2 x10_1 ((rd_T62 l2 x14_3).f0) ((rd_T62 l2 x14_3).f1) ((rd_T62 l2 x14_3).f2) ((rd_T62 l2 x14_3).f3) ((rd_T37 l3 x14_3).f0) ((rd_T37 l3 x14_3).f1) t288 _ A21.out).mono ?_
             rintro e w23 ⟨rfl,hb⟩
             refine ⟨_,rfl,?_⟩
             have n0_:=zM (blk_below (g:=gb283) (o := .cells #[.int .i64 a1_0,.int .i64 a1_1,.int .i64 a1_2,.int .i64 a1_3] 62 (0,0)) (by (with_reducible repeat (first|refine zJ ?_ _|refine zK ?_|refine zL ?_ _));exact BK283.out) hb)
             have n1_:=zM (blk_below (g:=gb284) (o := .cells #[.int .i64 x285000_2,.int .i64 x285001_2] 37 (0,0)) (by (with_reducible repeat (first|refine zJ ?_ _|refine zK ?_|refine zL ?_ _));exact BK284.out) hb)
             have n2_:=zM (blk_below (g:=gb285) (o := .cells #[.int .i64 x11_2,.int .i64 x10_1] 37 (0,0)) (by (with_reducible repeat (first|refine zJ ?_ _|refine zK ?_|refine zL ?_ _));exact BK285.out) hb)
             have n3_:=zM (zQ (by repeat (first|(with_reducible first|exact HB.out|apply zD|apply zE|apply zF|refine below_set ?_ GE283.out|refine below_set ?_ GE284.out|refine below_set ?_ GE285.out)|exact HB.out)) hb)
             clear BK283
             clear BK284
             clear BK285
             clear HB
             have BK283:=n0_
             have BK284:=n1_
             have BK285:=n2_
             have HB:=n3_
             clear n0_ n1_ n2_ n3_
             (try clear hb)
             (try clear hb2)
             (try clear hk)
             (try clear hi)
             refine hK.out _ _ ⟨(blk_cell BK283.out 0).trans rfl,(blk_cell BK283.out 1).trans rfl,(blk_cell BK283.out 2).trans rfl,(blk_cell BK283.out 3).trans rfl,(blk_cell BK285.out 0).trans rfl,(blk_cell BK285.out 1).trans rfl,((HB.out.cell (World.block_lt_of_cell? w _ hw286_0)).trans hw286_0),((HB.out.cell (World.block_lt_of_cell? w _ hw286_1)).trans hw286_1),((HB.out.cell (World.block_lt_of_cell? w _ hw286_2)).trans hw286_2),((HB.out.cell (World.block_lt_of_cell? w _ hw286_3)).trans hw286_3),((HB.out.cell (World.block_lt_of_cell? w _ hw287_0)).trans hw287_0),((HB.out.cell (World.block_lt_of_cell? w _ hw287_1)).trans hw287_1)⟩ (fun hHeld=>?_)
             clear hK K
             refine norm_ (a':=?_) ?_ ?_
             rotate_left
             ·show Act.put _ (some 51) _ = _
              simp only [Act.put,List.setIfInBounds_toArray,List.set_cons_zero,List.set_cons_succ,i64_w,i32_w]
              rfl
             refine pure_ (i:=11) (N:=some 13) (v:=?_) (a':=?_) #[true,true,true,true,true,true,true,true,true,true,true,true] rfl rfl (any_of HT_.out (by kernel_rfl)) (fun _ _ _ h=>h) (Or.inl ⟨by rfl,?_⟩) ?_ ?_
             rotate_left
             ·intro w'
              go_simp
              with_reducible rfl
             rotate_left
             ·simp only [Act.put,List.setIfInBounds_toArray,List.set_cons_zero,List.set_cons_succ,i64_w,i32_w]
              rfl
             refine done_ (done_of HT_.out (by kernel_rfl)) ?_
             try go_wp2
             go_roundg k3
             case measure=>have:=HK1.out;have:=HK2.out;have:=HK3.out;omega
             case rel=>exact ⟨(t288),(wrap64 (x14_3 + 1)),(by first|rfl|(simp;done)|(simp [*];done)),(by first|rfl|(simp;done)|(simp [*];done)),H',⟨by have:=HK1.out;have:=HK2.out;have:=HK3.out;omega⟩,⟨by (with_reducible repeat (first|refine zJ ?_ _|refine zK ?_|refine zL ?_ _));exact BK283.out⟩,⟨by (with_reducible repeat (first|refine zJ ?_ _|refine zK ?_|refine zL ?_ _));exact BK284.out⟩,⟨by (with_reducible repeat (first|refine zJ ?_ _|refine zK ?_|refine zL ?_ _));exact BK285.out⟩,⟨by repeat (first|(with_reducible first|exact HB.out|apply zD|apply zE|apply zF|refine below_set ?_ GE283.out|refine below_set ?_ GE284.out|refine below_set ?_ GE285.out)|exact HB.out)⟩⟩
            ·rw [if_neg c20] at H
             exact absurd H (by simp)
           ·rw [if_neg c19] at H
            exact absurd H (by simp)
          ·replace c18:=Bool.eq_false_iff.mpr c18
           subst c18
           have H1 : (spec_l14Next.l1 k3 a0 l2 l3 x10_1 (wrap64 (x11_2 + 1)) a1_0 a1_1 a1_2 a1_3) = some (r1,r2,r3):=by rw [if_neg (show ¬ (false = true) by decide)] at H;exact H
           clear H
           have H:=H1
           clear H1
           have H':=zM H
           clear H
           go_wp2
           go_roundg k3
           case measure=>have:=HK1.out;have:=HK2.out;have:=HK3.out;omega
           case rel=>exact ⟨(wrap64 (x11_2 + 1)),(x285000_2),(x285001_2),(by first|rfl|(simp;done)|(simp [*];done)),H',⟨by have:=HK1.out;have:=HK2.out;have:=HK3.out;omega⟩,⟨by (with_reducible repeat (first|refine zJ ?_ _|refine zK ?_|refine zL ?_ _));exact BK283.out⟩,⟨by (with_reducible repeat (first|refine zJ ?_ _|refine zK ?_|refine zL ?_ _));exact BK284.out⟩,⟨by repeat (first|(with_reducible first|exact HB.out|apply zD|apply zE|apply zF|refine below_set ?_ GE283.out|refine below_set ?_ GE284.out|refine below_set ?_ GE285.out)|exact HB.out)⟩⟩
         ·rw [if_neg c17] at H
          have c17b0 : decide (x14_3 < (l2.length : Int)) = false:=decide_eq_false c17
          clear c17
          by_cases c24 : x13_3 = true
          ·subst c24
           have H1 : (some (x11_2,x10_1,true)) = some (r1,r2,r3):=by rw [if_pos rfl] at H;exact H
           clear H
           have H:=H1
           clear H1
           simp only [Option.some.injEq,Prod.mk.injEq] at H
           obtain ⟨rfl,rfl,rfl⟩:=H
           have hnb25:=NB285_283.out
           have hnc25:=NB283_285.out
           have hnb26:=NB285_284.out
           have hnc26:=NB284_285.out
           have hcz27_0 : wr.cell? ⟨gb285,0,none⟩ = some (.int .i64 x11_2):=(blk_cell BK285.out 0).trans rfl
           have hcz27_1 : wr.cell? ⟨gb285,1,none⟩ = some (.int .i64 x10_1):=(blk_cell BK285.out 1).trans rfl
           have hfz27_0:=blk_frozen BK285.out 0
           have hfz27_1:=blk_frozen BK285.out 1
           have hnb28:=NB284_283.out
           have hnc28:=NB283_284.out
           have hcz29_0 : wr.cell? ⟨gb284,0,none⟩ = some (.int .i64 x285000_2):=(blk_cell BK284.out 0).trans rfl
           have hcz29_1 : wr.cell? ⟨gb284,1,none⟩ = some (.int .i64 x285001_2):=(blk_cell BK284.out 1).trans rfl
           have hfz29_0:=blk_frozen BK284.out 0
           have hfz29_1:=blk_frozen BK284.out 1
           go_wp2
           refine bodyPost_ret (results_ct rfl _ _ gb284 37 #[.int .i64 x11_2,.int .i64 x10_1] (0,0) _ rfl (by (with_reducible repeat (first|refine zJ ?_ _|refine zK ?_|refine zL ?_ _));refine blk_put (cs := #[.int .i64 x11_2,.int .i64 x285001_2]) ?_ 1 _ rfl;(with_reducible repeat (first|refine zJ ?_ _|refine zK ?_|refine zL ?_ _));refine blk_put (cs := #[.int .i64 x285000_2,.int .i64 x285001_2]) ?_ 0 _ rfl;(with_reducible repeat (first|refine zJ ?_ _|refine zK ?_|refine zL ?_ _));exact BK284.out) Try.underlying37 rfl (by kernel_rfl)) rfl ?_
           exact ⟨by first|rfl|(simp [errW_none,errW_some] <;> rfl)|(simp [*,errW_none,errW_some] <;> rfl),by repeat (first|(with_reducible first|exact HB.out|apply zD|apply zE|apply zF|refine below_set ?_ GE283.out|refine below_set ?_ GE284.out|refine below_set ?_ GE285.out)|exact HB.out)⟩
          ·replace c24:=Bool.eq_false_iff.mpr c24
           subst c24
           have H1 : (spec_l14Next.l1 k3 a0 l2 l3 x10_1 (wrap64 (x11_2 + 1)) a1_0 a1_1 a1_2 a1_3) = some (r1,r2,r3):=by rw [if_neg (show ¬ (false = true) by decide)] at H;exact H
           clear H
           have H:=H1
           clear H1
           have H':=zM H
           clear H
           go_wp2
           go_roundg k3
           case measure=>have:=HK1.out;have:=HK2.out;have:=HK3.out;omega
           case rel=>exact ⟨(wrap64 (x11_2 + 1)),(x285000_2),(x285001_2),(by first|rfl|(simp;done)|(simp [*];done)),H',⟨by have:=HK1.out;have:=HK2.out;have:=HK3.out;omega⟩,⟨by (with_reducible repeat (first|refine zJ ?_ _|refine zK ?_|refine zL ?_ _));exact BK283.out⟩,⟨by (with_reducible repeat (first|refine zJ ?_ _|refine zK ?_|refine zL ?_ _));exact BK284.out⟩,⟨by repeat (first|(with_reducible first|exact HB.out|apply zD|apply zE|apply zF|refine below_set ?_ GE283.out|refine below_set ?_ GE284.out|refine below_set ?_ GE285.out)|exact HB.out)⟩⟩
      ·rw [if_neg c10] at H
       have c10b0 : decide ((wrap64 (x11_2 + a1_0)) ≤ a0) = false:=decide_eq_false c10
       clear c10
       have H':=zM H
       clear H
       have hnb30:=NB283_284.out
       have hnc30:=NB284_283.out
       have hcz31_0 : wr.cell? ⟨gb283,0,none⟩ = some (.int .i64 a1_0):=(blk_cell BK283.out 0).trans rfl
       have hcz31_1 : wr.cell? ⟨gb283,1,none⟩ = some (.int .i64 a1_1):=(blk_cell BK283.out 1).trans rfl
       have hcz31_2 : wr.cell? ⟨gb283,2,none⟩ = some (.int .i64 a1_2):=(blk_cell BK283.out 2).trans rfl
       have hcz31_3 : wr.cell? ⟨gb283,3,none⟩ = some (.int .i64 a1_3):=(blk_cell BK283.out 3).trans rfl
       have hfz31_0:=blk_frozen BK283.out 0
       have hfz31_1:=blk_frozen BK283.out 1
       have hfz31_2:=blk_frozen BK283.out 2
       have hfz31_3:=blk_frozen BK283.out 3
       go_wp2
       go_roundg k2
       case measure=>have:=HK1.out;have:=HK2.out;omega
       case rel=>exact ⟨(wrap64 (x10_1 + 1)),(x285000_2),(x285001_2),(by first|rfl|(simp;done)|(simp [*];done)),H',⟨by have:=HK1.out;have:=HK2.out;omega⟩,⟨by (with_reducible repeat (first|refine zJ ?_ _|refine zK ?_|refine zL ?_ _));exact BK283.out⟩,⟨by (with_reducible repeat (first|refine zJ ?_ _|refine zK ?_|refine zL ?_ _));exact BK284.out⟩,⟨by repeat (first|(with_reducible first|exact HB.out|apply zD|apply zE|apply zF|refine below_set ?_ GE283.out|refine below_set ?_ GE284.out)|exact HB.out)⟩⟩
   ·rw [if_neg c9] at H
    have c9b0 : decide (x10_1 ≤ 1000) = false:=decide_eq_false c9
    clear c9
    simp only [Option.some.injEq,Prod.mk.injEq] at H
    obtain ⟨rfl,rfl,rfl⟩:=H
    have hnb32:=NB284_283.out
    have hnc32:=NB283_284.out
    have hcz33_0 : wr.cell? ⟨gb284,0,none⟩ = some (.int .i64 x285000_1):=(blk_cell BK284.out 0).trans rfl
    have hcz33_1 : wr.cell? ⟨gb284,1,none⟩ = some (.int .i64 x285001_1):=(blk_cell BK284.out 1).trans rfl
    have hfz33_0:=blk_frozen BK284.out 0
    have hfz33_1:=blk_frozen BK284.out 1
    go_wp2
    refine bodyPost_ret (results_ct rfl _ _ gb284 37 #[.int .i64 0,.int .i64 0] (0,0) _ rfl (by (with_reducible repeat (first|refine zJ ?_ _|refine zK ?_|refine zL ?_ _));refine blk_put (cs := #[.int .i64 0,.int .i64 x285001_1]) ?_ 1 _ rfl;(with_reducible repeat (first|refine zJ ?_ _|refine zK ?_|refine zL ?_ _));refine blk_put (cs := #[.int .i64 x285000_1,.int .i64 x285001_1]) ?_ 0 _ rfl;(with_reducible repeat (first|refine zJ ?_ _|refine zK ?_|refine zL ?_ _));exact BK284.out) Try.underlying37 rfl (by kernel_rfl)) rfl ?_
    exact ⟨by first|rfl|(simp [errW_none,errW_some] <;> rfl)|(simp [*,errW_none,errW_some] <;> rfl),by repeat (first|(with_reducible first|exact HB.out|apply zD|apply zE|apply zF|refine below_set ?_ GE283.out|refine below_set ?_ GE284.out)|exact HB.out)⟩

end Go.Proofs.Ytcciljjnpfgaeaa.G

-- Written by wip/tools/gen.py out of the translation (the kit's printer, one namespace a seat). Lean checks it.
namespace Go.Proofs.Ytcciljjnpfgaeaa.G
open Go.RowKit Go.Proofs.YtcciljjnpfgaeaaW.PrintWords Go.Proofs.YtcciljjnpfgaeaaW.PrintLast Go.Proofs.YtcciljjnpfgaeaaW.PrintMore
attribute [local go_sem] max2_int min2_int max_two min_two max_three min_three max_four min_four   -- for this text's walks alone
set_option linter.unusedVariables false
set_option linter.unusedSimpArgs false

/-! ### spec_NextBerth: function 25 -/
def spec_NextBerth.f (k : Nat) (a0 : Int) (l1 : List (S62)) (l2 : List (S37)) : Option (Int × Int × Bool):=(spec_l14Ships.f k a0 l1).bind fun t290=>(if t290 = true then (if (l2.length : Int) ≥ (l1.length : Int) then (some (0,0,false)) else ((spec_l14Plan.f k a0 l1 l2).bind fun t291=>(if t291 = true then (if 0 ≤ (l2.length : Int) then (if (l2.length : Int) < (l1.length : Int) then (if (l2.length : Int) ≤ (l1.length : Int) then ((spec_l14Next.f k a0 ((rd_T62 l1 (l2.length : Int)).f0) ((rd_T62 l1 (l2.length : Int)).f1) ((rd_T62 l1 (l2.length : Int)).f2) ((rd_T62 l1 (l2.length : Int)).f3) (l1.take ((l2.length : Int) : Int).toNat) l2).bind fun bt297=>(some (bt297.1,bt297.2.1,bt297.2.2))) else (none)) else (none)) else (none)) else (some (0,0,false))))) else (some (0,0,false)))
def spec_NextBerth.T4 : Bool × List (List Nat × List Nat):=(true,[([],[]),([],[]),([],[]),([1,2],[1,2]),([3],[3]),([],[]),([],[]),([5,6],[5,6]),([],[]),([0,4,7,8],[0,4,7,8]),([9],[9]),([9],[9]),([10,9,0,1,2,3,4,5,6,7,8,9,10,11],[10]),([11,12,0,1,2,3,4,5,6,7,8,9,10,11,12],[11])])
def spec_NextBerth.B4 : List Nat:=[0,0,0,6,14,0,0,96,0,511,1023,1023,4095,8191]
theorem spec_NextBerth.tab4 : rtab .any (opsOf Try.f25 4) = spec_NextBerth.T4:=by kernel_rfl
theorem spec_NextBerth.bits4 : waitsOk spec_NextBerth.T4.2 spec_NextBerth.B4 = true:=by kernel_rfl
set_option maxHeartbeats 8000000 in
set_option maxRecDepth 100000 in
theorem spec_NextBerth.calls (k : Nat) (a0 : Int) (A1 : Option Addr) (c1 : Nat) (l1 : List (S62)) (A2 : Option Addr) (c2 : Nat) (l2 : List (S37)) (r1 : Int) (r2 : Int) (r3 : Bool) (w : World) (hr1 : Kd.C k62 w A1 l1.length l1) (hc1 : l1.length ≤ c1) (hr2 : Kd.C k37 w A2 l2.length l2) (hc2 : l2.length ≤ c2) (h : spec_NextBerth.f k a0 l1 l2 = some (r1,r2,r3)) :
  Calls Try.prog 25 #[.int .i64 a0,.slice A1 l1.length c1,.slice A2 l2.length c2] w fun e w'=>e = .returned (.tuple #[.agg #[.int .i64 r1,.int .i64 r2],.bool r3]) ∧ Below w.heap.size w w':=by
 have hu37:=Try.underlying37
 have hu62:=Try.underlying62
 have HR1:=zM hr1
 have HC1:=zM hc1
 clear hr1 hc1
 have HR2:=zM hr2
 have HC2:=zM hc2
 clear hr2 hc2
 have HB:=zM (Below.refl w.heap.size w)
 have H : ((spec_l14Ships.f k a0 l1).bind fun t290=>(if t290 = true then (if (l2.length : Int) ≥ (l1.length : Int) then (some (0,0,false)) else ((spec_l14Plan.f k a0 l1 l2).bind fun t291=>(if t291 = true then (if 0 ≤ (l2.length : Int) then (if (l2.length : Int) < (l1.length : Int) then (if (l2.length : Int) ≤ (l1.length : Int) then ((spec_l14Next.f k a0 ((rd_T62 l1 (l2.length : Int)).f0) ((rd_T62 l1 (l2.length : Int)).f1) ((rd_T62 l1 (l2.length : Int)).f2) ((rd_T62 l1 (l2.length : Int)).f3) (l1.take ((l2.length : Int) : Int).toNat) l2).bind fun bt297=>(some (bt297.1,bt297.2.1,bt297.2.2))) else (none)) else (none)) else (none)) else (some (0,0,false))))) else (some (0,0,false)))) = some (r1,r2,r3):=h
 clear h
 replace H:=Option.bind_eq_some_iff.mp H
 obtain ⟨t290,A40,H⟩:=H
 replace H : (if t290 = true then (if (l2.length : Int) ≥ (l1.length : Int) then (some (0,0,false)) else ((spec_l14Plan.f k a0 l1 l2).bind fun t291=>(if t291 = true then (if 0 ≤ (l2.length : Int) then (if (l2.length : Int) < (l1.length : Int) then (if (l2.length : Int) ≤ (l1.length : Int) then ((spec_l14Next.f k a0 ((rd_T62 l1 (l2.length : Int)).f0) ((rd_T62 l1 (l2.length : Int)).f1) ((rd_T62 l1 (l2.length : Int)).f2) ((rd_T62 l1 (l2.length : Int)).f3) (l1.take ((l2.length : Int) : Int).toNat) l2).bind fun bt297=>(some (bt297.1,bt297.2.1,bt297.2.2))) else (none)) else (none)) else (none)) else (some (0,0,false))))) else (some (0,0,false))) = some (r1,r2,r3):=H
 have A4:=zM A40
 clear A40
 by_cases c5 : t290 = true
 ·subst c5
  have H1 : (if (l2.length : Int) ≥ (l1.length : Int) then (some (0,0,false)) else ((spec_l14Plan.f k a0 l1 l2).bind fun t291=>(if t291 = true then (if 0 ≤ (l2.length : Int) then (if (l2.length : Int) < (l1.length : Int) then (if (l2.length : Int) ≤ (l1.length : Int) then ((spec_l14Next.f k a0 ((rd_T62 l1 (l2.length : Int)).f0) ((rd_T62 l1 (l2.length : Int)).f1) ((rd_T62 l1 (l2.length : Int)).f2) ((rd_T62 l1 (l2.length : Int)).f3) (l1.take ((l2.length : Int) : Int).toNat) l2).bind fun bt297=>(some (bt297.1,bt297.2.1,bt297.2.2))) else (none)) else (none)) else (none)) else (some (0,0,false))))) = some (r1,r2,r3):=by rw [if_pos rfl] at H;exact H
  clear H
  have H:=H1
  clear H1
  by_cases c6 : (l2.length : Int) ≥ (l1.length : Int)
  ·rw [if_pos c6] at H
   have c6b0 : decide ((l1.length : Int) ≤ (l2.length : Int)) = true:=decide_eq_true c6
   have c6b1 : decide (l1.length ≤ l2.length) = true:=decide_eq_true (Int.ofNat_le.mp c6)
   clear c6
   simp only [Option.some.injEq,Prod.mk.injEq] at H
   obtain ⟨rfl,rfl,rfl⟩:=H
   go_enter Try.func25,Try.ntmps25
   go_wp2_with (first|((with_reducible refine gate_dst (N:=6) rfl ?_);(try (refine gate_guard (by rfl) ?_;dsimp only));refine box_event ?hg (N:=6) ?hd (cs := #[.int .i64 0,.int .i64 0]) (t:=37) ?hr ?_;(case hd=>rfl);(case hg=>rfl);(case hr=>first|(go_simp;done)|(go_simp;rfl));intro gb289 hg w7 hbox hb;have n0_:=zM (zQ (by repeat (first|(with_reducible first|exact HB.out|apply zD|apply zE|apply zF)|exact HB.out)) hb);have n1_:=zM (hbox);have n2_:=zM ((by rw [hg];exact (zR (by repeat (first|(with_reducible first|exact HB.out|apply zD|apply zE|apply zF)|exact HB.out))) : w.heap.size ≤ gb289));have n3_:=zM ((by rw [hg];exact (zR (by repeat (first|(with_reducible first|exact HB.out|apply zD|apply zE|apply zF)|exact HB.out))) : w.heap.size ≤ gb289));clear HB;have HB:=n0_;have BK289:=n1_;have GW289:=n2_;have GE289:=n3_;clear n0_ n1_ n2_ n3_;clear hb hbox hg)|((with_reducible refine gate_callee (f:=58) rfl ?_);refine goesL_ (some 13) rfl rfl Try.func58 (by kernel_rfl) rfl #[.int .i64 a0,.slice A1 l1.length c1] rfl (by (try simp only [List.map_toArray,List.map_cons,List.map_nil]);first|done|rfl|(simp only [List.length_drop,List.length_take];rfl)) ?_;(with_reducible refine (spec_l14Ships.calls k a0 _ _ l1 true _ ?side1 ?side2 A4.out).mono ?_);(case side1=>repeat (first|exact (zO HR1.out HB.out)|(with_reducible refine zG ?_ _)|(with_reducible refine zH ?_ _)|(with_reducible refine zI ?_)));(case side2=>exact HC1.out);rintro e w8 ⟨rfl,hb⟩;refine ⟨_,rfl,?_⟩;have n0_:=zM (blk_below (g:=gb289) (o := .cells #[.int .i64 0,.int .i64 0] 37 (0,0)) (by (with_reducible repeat (first|refine zJ ?_ _|refine zK ?_|refine zL ?_ _));exact BK289.out) hb);have n1_:=zM (zQ (by repeat (first|(with_reducible first|exact HB.out|apply zD|apply zE|apply zF|refine below_set ?_ GE289.out)|exact HB.out)) hb);clear BK289;clear HB;have BK289:=n0_;have HB:=n1_;clear n0_ n1_;(try clear hb);(try clear hb2);(try clear hk);(try clear hi);have hcz9_0 : w8.cell? ⟨gb289,0,none⟩ = some (.int .i64 0):=(blk_cell BK289.out 0).trans rfl;have hcz9_1 : w8.cell? ⟨gb289,1,none⟩ = some (.int .i64 0):=(blk_cell BK289.out 1).trans rfl;have hfz9_0:=blk_frozen BK289.out 0;have hfz9_1:=blk_frozen BK289.out 1))
   refine bodyPost_ret (results_ct rfl _ _ gb289 37 #[.int .i64 0,.int .i64 0] (0,0) _ rfl (by (with_reducible repeat (first|refine zJ ?_ _|refine zK ?_|refine zL ?_ _));refine blk_put (cs := #[.int .i64 0,.int .i64 0]) ?_ 1 _ rfl;(with_reducible repeat (first|refine zJ ?_ _|refine zK ?_|refine zL ?_ _));refine blk_put (cs := #[.int .i64 0,.int .i64 0]) ?_ 0 _ rfl;(with_reducible repeat (first|refine zJ ?_ _|refine zK ?_|refine zL ?_ _));exact BK289.out) Try.underlying37 rfl (by kernel_rfl)) rfl ?_
   exact ⟨by first|rfl|(simp [errW_none,errW_some] <;> rfl)|(simp [*,errW_none,errW_some] <;> rfl),by repeat (first|(with_reducible first|exact HB.out|apply zD|apply zE|apply zF|refine below_set ?_ GE289.out)|exact HB.out)⟩
  ·rw [if_neg c6] at H
   have c6b0 : decide ((l1.length : Int) ≤ (l2.length : Int)) = false:=decide_eq_false c6
   have c6b1 : decide (l1.length ≤ l2.length) = false:=decide_eq_false (fun h=>c6 (Int.ofNat_le.mpr h))
   clear c6
   replace H:=Option.bind_eq_some_iff.mp H
   obtain ⟨t291,A100,H⟩:=H
   replace H : (if t291 = true then (if 0 ≤ (l2.length : Int) then (if (l2.length : Int) < (l1.length : Int) then (if (l2.length : Int) ≤ (l1.length : Int) then ((spec_l14Next.f k a0 ((rd_T62 l1 (l2.length : Int)).f0) ((rd_T62 l1 (l2.length : Int)).f1) ((rd_T62 l1 (l2.length : Int)).f2) ((rd_T62 l1 (l2.length : Int)).f3) (l1.take ((l2.length : Int) : Int).toNat) l2).bind fun bt297=>(some (bt297.1,bt297.2.1,bt297.2.2))) else (none)) else (none)) else (none)) else (some (0,0,false))) = some (r1,r2,r3):=H
   have A10:=zM A100
   clear A100
   by_cases c11 : t291 = true
   ·subst c11
    have H1 : (if 0 ≤ (l2.length : Int) then (if (l2.length : Int) < (l1.length : Int) then (if (l2.length : Int) ≤ (l1.length : Int) then ((spec_l14Next.f k a0 ((rd_T62 l1 (l2.length : Int)).f0) ((rd_T62 l1 (l2.length : Int)).f1) ((rd_T62 l1 (l2.length : Int)).f2) ((rd_T62 l1 (l2.length : Int)).f3) (l1.take ((l2.length : Int) : Int).toNat) l2).bind fun bt297=>(some (bt297.1,bt297.2.1,bt297.2.2))) else (none)) else (none)) else (none)) = some (r1,r2,r3):=by rw [if_pos rfl] at H;exact H
    clear H
    have H:=H1
    clear H1
    by_cases c12 : 0 ≤ (l2.length : Int)
    ·rw [if_pos c12] at H
     have c12b0 : decide (0 ≤ (l2.length : Int)) = true:=decide_eq_true c12
     have c12b1 : decide (0 ≤ l2.length) = true:=decide_eq_true (by omega)
     clear c12
     by_cases c13 : (l2.length : Int) < (l1.length : Int)
     ·rw [if_pos c13] at H
      have c13b0 : decide ((l2.length : Int) < (l1.length : Int)) = true:=decide_eq_true c13
      have c13b1 : decide (l2.length < l1.length) = true:=decide_eq_true (Int.ofNat_lt.mp c13)
      clear c13
      have c14b0:=eq_true (of_decide_eq_true (by first|(with_reducible assumption)|assumption) : 0 ≤ (l2.length : Int))
      by_cases c15 : (l2.length : Int) ≤ (l1.length : Int)
      ·rw [if_pos c15] at H
       have c15b0:=eq_true c15
       have c15b1 : decide ((l2.length : Int) ≤ (l1.length : Int)) = true:=decide_eq_true c15
       clear c15
       obtain ⟨y293,hy293⟩ : ∃ y_ : List (S62),y_ = (l1.take ((l2.length : Int) : Int).toNat):=⟨_,rfl⟩
       replace H : ((spec_l14Next.f k a0 ((rd_T62 l1 (l2.length : Int)).f0) ((rd_T62 l1 (l2.length : Int)).f1) ((rd_T62 l1 (l2.length : Int)).f2) ((rd_T62 l1 (l2.length : Int)).f3) y293 l2).bind fun bt297=>(some (bt297.1,bt297.2.1,bt297.2.2))) = some (r1,r2,r3):=by first|(rw [hy293];with_reducible exact H)|(have H2_:=(Option.bind_some _ _).symm.trans H;rw [hy293];with_reducible exact H2_)|(have H2_:=(Option.bind_some _ _).symm.trans H;with_reducible exact H2_)|with_reducible exact H|(rw [hy293];exact H)|exact H
       have Ny293:=zM hy293
       clear hy293
       replace H:=Option.bind_eq_some_iff.mp H
       obtain ⟨⟨t297,t298,t299⟩,A160,H⟩:=H
       replace H : (some (t297,t298,t299)) = some (r1,r2,r3):=H
       have A16:=zM A160
       clear A160
       simp only [Option.some.injEq,Prod.mk.injEq] at H
       obtain ⟨rfl,rfl,rfl⟩:=H
       go_enter Try.func25,Try.ntmps25
       try go_wp2_with (first|((with_reducible refine gate_dst (N:=6) rfl ?_);(try (refine gate_guard (by rfl) ?_;dsimp only));refine box_event ?hg (N:=6) ?hd (cs := #[.int .i64 0,.int .i64 0]) (t:=37) ?hr ?_;(case hd=>rfl);(case hg=>rfl);(case hr=>first|(go_simp;done)|(go_simp;rfl));intro gb289 hg w17 hbox hb;have n0_:=zM (zQ (by repeat (first|(with_reducible first|exact HB.out|apply zD|apply zE|apply zF)|exact HB.out)) hb);have n1_:=zM (hbox);have n2_:=zM ((by rw [hg];exact (zR (by repeat (first|(with_reducible first|exact HB.out|apply zD|apply zE|apply zF)|exact HB.out))) : w.heap.size ≤ gb289));have n3_:=zM ((by rw [hg];exact (zR (by repeat (first|(with_reducible first|exact HB.out|apply zD|apply zE|apply zF)|exact HB.out))) : w.heap.size ≤ gb289));clear HB;have HB:=n0_;have BK289:=n1_;have GW289:=n2_;have GE289:=n3_;clear n0_ n1_ n2_ n3_;clear hb hbox hg)|((with_reducible refine gate_callee (f:=58) rfl ?_);refine goesL_ (some 13) rfl rfl Try.func58 (by kernel_rfl) rfl #[.int .i64 a0,.slice A1 l1.length c1] rfl (by (try simp only [List.map_toArray,List.map_cons,List.map_nil]);first|done|rfl|(simp only [List.length_drop,List.length_take];rfl)) ?_;(with_reducible refine (spec_l14Ships.calls k a0 _ _ l1 true _ ?side1 ?side2 A4.out).mono ?_);(case side1=>repeat (first|exact (zO HR1.out HB.out)|(with_reducible refine zG ?_ _)|(with_reducible refine zH ?_ _)|(with_reducible refine zI ?_)));(case side2=>exact HC1.out);rintro e w18 ⟨rfl,hb⟩;refine ⟨_,rfl,?_⟩;have n0_:=zM (blk_below (g:=gb289) (o := .cells #[.int .i64 0,.int .i64 0] 37 (0,0)) (by (with_reducible repeat (first|refine zJ ?_ _|refine zK ?_|refine zL ?_ _));exact BK289.out) hb);have n1_:=zM (zQ (by repeat (first|(with_reducible first|exact HB.out|apply zD|apply zE|apply zF|refine below_set ?_ GE289.out)|exact HB.out)) hb);clear BK289;clear HB;have BK289:=n0_;have HB:=n1_;clear n0_ n1_;(try clear hb);(try clear hb2);(try clear hk);(try clear hi))|(go_at_call 59;(with_reducible refine (spec_l14Plan.calls k a0 _ _ l1 _ _ l2 true _ ?side1 ?side2 ?side3 ?side4 A10.out).mono ?_);(case side1=>repeat (first|exact (zO HR1.out HB.out)|(with_reducible refine zG ?_ _)|(with_reducible refine zH ?_ _)|(with_reducible refine zI ?_)));(case side2=>exact HC1.out);(case side3=>repeat (first|exact (zO HR2.out HB.out)|(with_reducible refine zG ?_ _)|(with_reducible refine zH ?_ _)|(with_reducible refine zI ?_)));(case side4=>exact HC2.out);rintro e w19 ⟨rfl,hb⟩;have n0_:=zM (blk_below (g:=gb289) (o := .cells #[.int .i64 0,.int .i64 0] 37 (0,0)) (by (with_reducible repeat (first|refine zJ ?_ _|refine zK ?_|refine zL ?_ _));exact BK289.out) hb);have n1_:=zM (zQ (by repeat (first|(with_reducible first|exact HB.out|apply zD|apply zE|apply zF|refine below_set ?_ GE289.out)|exact HB.out)) hb);clear BK289;clear HB;have BK289:=n0_;have HB:=n1_;clear n0_ n1_;(try clear hb);(try clear hb2);(try clear hk);(try clear hi)))
       have n0_:=zM (zK BK289.out)
       have n1_:=zM (zF HB.out)
       clear BK289
       clear HB
       have BK289:=n0_
       have HB:=n1_
       clear n0_ n1_
       have p292 : 0 ≤ ((l2.length : Int) : Int):=of_decide_eq_true (by first|(with_reducible assumption)|assumption)
       have q292 : (l2.length : Int) < (l1.length : Int):=of_decide_eq_true (by first|(with_reducible assumption)|assumption)
       obtain ⟨ad292,e292,hx292_0,hx292_1,hx292_2,hx292_3⟩:=at_T62 HR1.out (l2.length : Int) p292 q292;(try simp only [Int.toNat_natCast] at hx292_0 hx292_1 hx292_2 hx292_3)
       have hw292_3:=hx292_3
       have hw292_2:=hx292_2
       have hw292_1:=hx292_1
       have hw292_0:=hx292_0
       cases e292
       replace hx292_0:=(HB.out.cell (World.block_lt_of_cell? w _ hx292_0)).trans hx292_0
       replace hx292_1:=(HB.out.cell (World.block_lt_of_cell? w _ hx292_1)).trans hx292_1
       replace hx292_2:=(HB.out.cell (World.block_lt_of_cell? w _ hx292_2)).trans hx292_2
       replace hx292_3:=(HB.out.cell (World.block_lt_of_cell? w _ hx292_3)).trans hx292_3
       (try simp only [Go.IntWalk.toNatUp] at hx292_0)
       (try simp only [Go.IntWalk.toNatUp] at hx292_1)
       (try simp only [Go.IntWalk.toNatUp] at hx292_2)
       (try simp only [Go.IntWalk.toNatUp] at hx292_3)
       replace p292:=eq_true p292
       replace q292:=eq_true q292
       have q21 : ((l2.length : Int) : Int) ≤ ((l1.length : Int) : Int):=of_decide_eq_true (by first|(with_reducible assumption)|assumption)
       obtain ⟨i021,hi021,_,hsz21,_⟩:=info_parts info62
       have hroom21 : l1.length ≤ c1:=HC1.out
       have hC21 : Kd.C k62 _ (some ad292) l1.length l1:=HR1.out
       have hcut21:=cut_to (P:=Try.prog) 27 62 .i64 Try.underlying27 hi021 (some ad292) l1.length c1 (l2.length : Int) (of_decide_eq_true (by first|(with_reducible assumption)|assumption)) q21 hroom21
       have hr21:=Kd.C_take (m:=((l2.length : Int) : Int).toNat) hC21 (by omega)
       have hy21 : y293.length = ((l2.length : Int) : Int).toNat:=(by rw [Ny293.out,List.length_take];omega)
       rw [← Ny293.out] at hr21
       rw [← hy21] at hcut21
       have HR296:=zM hr21
       have HC296:=zM (show y293.length ≤ c1 from by omega)
       clear hr21 hC21 hroom21 hi021 hsz21
       have KY21:=zM hy21
       clear hy21
       replace q21:=eq_true q21
       refine start_ (n:=14) (S:=fun w'=>w'.cell? (ad292.add (((l2.length : Int)).toNat * 4)) = some (.int .i64 ((rd_T62 l1 (l2.length : Int)).f0)) ∧ w'.cell? ⟨(ad292.add (((l2.length : Int)).toNat * 4)).block,(ad292.add (((l2.length : Int)).toNat * 4)).off + 1,none⟩ = some (.int .i64 ((rd_T62 l1 (l2.length : Int)).f1)) ∧ w'.cell? ⟨(ad292.add (((l2.length : Int)).toNat * 4)).block,(ad292.add (((l2.length : Int)).toNat * 4)).off + 2,none⟩ = some (.int .i64 ((rd_T62 l1 (l2.length : Int)).f2)) ∧ w'.cell? ⟨(ad292.add (((l2.length : Int)).toNat * 4)).block,(ad292.add (((l2.length : Int)).toNat * 4)).off + 3,none⟩ = some (.int .i64 ((rd_T62 l1 (l2.length : Int)).f3))) (ds:=[]) #[false,false,false,false,false,false,false,false,false,false,false,false,false,false] (by kernel_rfl) rfl rfl ⟨((HB.out.cell (World.block_lt_of_cell? w _ hw292_0)).trans hw292_0),((HB.out.cell (World.block_lt_of_cell? w _ hw292_1)).trans hw292_1),((HB.out.cell (World.block_lt_of_cell? w _ hw292_2)).trans hw292_2),((HB.out.cell (World.block_lt_of_cell? w _ hw292_3)).trans hw292_3)⟩ (fun hHeld=>?_);refine with_tabW spec_NextBerth.tab4 spec_NextBerth.bits4 (fun HT_ HW_=>?_)
       generalize w19.drew = w20 at BK289 HB HR296 hx292_0 hx292_1 hx292_2 hx292_3 hHeld ⊢
       refine pure_ (i:=0) (N:=some 29) (v:=?_) (a':=?_) #[true,false,false,false,false,false,false,false,false,false,false,false,false,false] rfl rfl (any_of HT_.out (by kernel_rfl)) (fun _ _ _ h=>h) (Or.inl ⟨by rfl,?_⟩) ?_ ?_
       rotate_left
       ·intro w'
        go_simp
        with_reducible rfl
       rotate_left
       ·simp only [Act.put,List.setIfInBounds_toArray,List.set_cons_zero,List.set_cons_succ,i64_w,i32_w]
        rfl
       refine pure_ (i:=1) (N:=some 30) (v:=?_) (a':=?_) #[true,true,false,false,false,false,false,false,false,false,false,false,false,false] rfl rfl (any_of HT_.out (by kernel_rfl)) (fun _ _ _ h=>h) (Or.inl ⟨by rfl,?_⟩) ?_ ?_
       rotate_left
       ·intro w'
        go_simp
        with_reducible rfl
       rotate_left
       ·simp only [Act.put,List.setIfInBounds_toArray,List.set_cons_zero,List.set_cons_succ,i64_w,i32_w]
        rfl
       refine pure_ (i:=2) (N:=some 31) (v:=?_) (a':=?_) #[true,true,true,false,false,false,false,false,false,false,false,false,false,false] rfl rfl (any_of HT_.out (by kernel_rfl)) (fun _ _ _ h=>h) (Or.inl ⟨by rfl,?_⟩) ?_ ?_
       rotate_left
       ·intro w'
        go_simp
        with_reducible rfl
       rotate_left
       ·simp only [Act.put,List.setIfInBounds_toArray,List.set_cons_zero,List.set_cons_succ,i64_w,i32_w]
        rfl
       refine pure_ (i:=3) (N:=some 32) (v:=?_) (a':=?_) #[true,true,true,true,false,false,false,false,false,false,false,false,false,false] rfl rfl (any_of HT_.out (by kernel_rfl)) (fun _ _ _ h=>h) (Or.inl ⟨by rfl,?_⟩) ?_ ?_
       rotate_left
       ·intro w'
        go_simp
        with_reducible rfl
       rotate_left
       ·simp only [Act.put,List.setIfInBounds_toArray,List.set_cons_zero,List.set_cons_succ,i64_w,i32_w]
        rfl
       refine pure_ (i:=5) (N:=some 34) (v:=?_) (a':=?_) #[true,true,true,true,false,true,false,false,false,false,false,false,false,false] rfl rfl (any_of HT_.out (by kernel_rfl)) (fun _ _ _ h=>h) (Or.inl ⟨by rfl,?_⟩) ?_ ?_
       rotate_left
       ·intro w'
        go_simp
        with_reducible rfl
       rotate_left
       ·simp only [Act.put,List.setIfInBounds_toArray,List.set_cons_zero,List.set_cons_succ,i64_w,i32_w]
        rfl
       refine pure_ (i:=6) (N:=some 35) (v:=?_) (a':=?_) #[true,true,true,true,false,true,true,false,false,false,false,false,false,false] rfl rfl (any_of HT_.out (by kernel_rfl)) (fun _ _ _ h=>h) (Or.inl ⟨by rfl,?_⟩) ?_ ?_
       rotate_left
       ·intro w'
        go_simp
        with_reducible rfl
       rotate_left
       ·simp only [Act.put,List.setIfInBounds_toArray,List.set_cons_zero,List.set_cons_succ,i64_w,i32_w]
        rfl
       refine pure_ (i:=7) (N:=some 36) (v:=?_) (a':=?_) #[true,true,true,true,false,true,true,true,false,false,false,false,false,false] rfl rfl (any_of HT_.out (by kernel_rfl)) (fun _ _ _ h=>h) (Or.inl ⟨by rfl,?_⟩) ?_ ?_
       rotate_left
       ·intro w'
        go_simp
        with_reducible rfl
       rotate_left
       ·simp only [Act.put,List.setIfInBounds_toArray,List.set_cons_zero,List.set_cons_succ,i64_w,i32_w]
        rfl
       refine pure_ (i:=8) (N:=some 37) (v:=?_) (a':=?_) #[true,true,true,true,false,true,true,true,true,false,false,false,false,false] rfl rfl (any_of HT_.out (by kernel_rfl)) (fun _ _ _ h=>h) (Or.inl ⟨by rfl,?_⟩) ?_ ?_
       rotate_left
       ·intro w'
        go_simp
        with_reducible rfl
       rotate_left
       ·simp only [Act.put,List.setIfInBounds_toArray,List.set_cons_zero,List.set_cons_succ,i64_w,i32_w]
        rfl
       refine take_ (i:=4) (N:=some 33) (v:=?_) (a':=?_) #[true,true,true,true,true,true,true,true,true,false,false,false,false,false] rfl rfl (take_ofW HT_.out HW_.out (by kernel_rfl)) (fun _ _ _ h=>h) (Or.inl ⟨by rfl,?_⟩) hHeld ?_ ?_
       rotate_left
       ·rintro w' ⟨s0,s1,s2,s3⟩
        try simp only [Int.toNat_natCast] at s0 s1 s2 s3
        go_simp
        with_reducible rfl
       rotate_left
       ·simp only [Act.put,List.setIfInBounds_toArray,List.set_cons_zero,List.set_cons_succ,i64_w,i32_w]
        rfl
       refine one_ (i:=9) (N:=some 38) #[true,true,true,true,true,true,true,true,true,true,false,false,false,false] rfl rfl (one_of HT_.out (by kernel_rfl)) (by decide) (fun K hK=>?_)
       refine goes_ Try.func60 (by kernel_rfl) rfl #[.int .i64 a0,.agg #[.int .i64 ((rd_T62 l1 (l2.length : Int)).f0),.int .i64 ((rd_T62 l1 (l2.length : Int)).f1),.int .i64 ((rd_T62 l1 (l2.length : Int)).f2),.int .i64 ((rd_T62 l1 (l2.length : Int)).f3)],.slice (some ad292) y293.length c1,.slice A2 l2.length c2] (by rfl) rfl rfl (by (try simp only [List.map_toArray,List.map_cons,List.map_nil]);first|done|rfl|(simp only [List.length_drop,List.length_take];rfl)) ?_
       with_reducible refine (spec_l14Next.calls k a0 ((rd_T62 l1 (l2.length : Int)).f0) ((rd_T62 l1 (l2.length : Int)).f1) ((rd_T62 l1 (l2.length : Int)).f2) ((rd_T62 l1 (l2.length : Int)).f3) _ _ y293 _ _ l2 t297 t298 t299 _ ?side1 ?side2 ?side3 ?side4 A16.out).mono ?_
       (case side1=>repeat (first|exact (zO HR296.out HB.out)|(with_reducible refine zG ?_ _)|(with_reducible refine zH ?_ _)|(with_reducible refine zI ?_)))
       (case side2=>exact HC296.out)
       (case side3=>repeat (first|exact (zO HR2.out HB.out)|(with_reducible refine zG ?_ _)|(with_reducible refine zH ?_ _)|(with_reducible refine zI ?_)))
       (case side4=>exact HC2.out)
       rintro e w22 ⟨rfl,hb⟩
       refine ⟨_,rfl,?_⟩
       have n0_:=zM (blk_below (g:=gb289) (o := .cells #[.int .i64 0,.int .i64 0] 37 (0,0)) (by (with_reducible repeat (first|refine zJ ?_ _|refine zK ?_|refine zL ?_ _));exact BK289.out) hb)
       have n1_:=zM (zQ (by repeat (first|(with_reducible first|exact HB.out|apply zD|apply zE|apply zF|refine below_set ?_ GE289.out)|exact HB.out)) hb)
       clear BK289
       clear HB
       have BK289:=n0_
       have HB:=n1_
       clear n0_ n1_
       (try clear hb)
       (try clear hb2)
       (try clear hk)
       (try clear hi)
       refine hK.out _ _ ⟨((HB.out.cell (World.block_lt_of_cell? w _ hw292_0)).trans hw292_0),((HB.out.cell (World.block_lt_of_cell? w _ hw292_1)).trans hw292_1),((HB.out.cell (World.block_lt_of_cell? w _ hw292_2)).trans hw292_2),((HB.out.cell (World.block_lt_of_cell? w _ hw292_3)).trans hw292_3)⟩ (fun hHeld=>?_)
       clear hK K
       refine norm_ (a':=?_) ?_ ?_
       rotate_left
       ·show Act.put _ (some 38) _ = _
        simp only [Act.put,List.setIfInBounds_toArray,List.set_cons_zero,List.set_cons_succ,i64_w,i32_w]
        rfl
       refine pure_ (i:=10) (N:=some 39) (v:=?_) (a':=?_) #[true,true,true,true,true,true,true,true,true,true,true,false,false,false] rfl rfl (any_of HT_.out (by kernel_rfl)) (fun _ _ _ h=>h) (Or.inl ⟨by rfl,?_⟩) ?_ ?_
       rotate_left
       ·intro w'
        go_simp
        with_reducible rfl
       rotate_left
       ·simp only [Act.put,List.setIfInBounds_toArray,List.set_cons_zero,List.set_cons_succ,i64_w,i32_w]
        rfl
       refine pure_ (i:=11) (N:=some 40) (v:=?_) (a':=?_) #[true,true,true,true,true,true,true,true,true,true,true,true,false,false] rfl rfl (any_of HT_.out (by kernel_rfl)) (fun _ _ _ h=>h) (Or.inl ⟨by rfl,?_⟩) ?_ ?_
       rotate_left
       ·intro w'
        go_simp
        with_reducible rfl
       rotate_left
       ·simp only [Act.put,List.setIfInBounds_toArray,List.set_cons_zero,List.set_cons_succ,i64_w,i32_w]
        rfl
       refine one_ (i:=12) (N:=none) #[true,true,true,true,true,true,true,true,true,true,true,true,true,false] rfl rfl (one_of HT_.out (by kernel_rfl)) (by decide) (fun K hK=>?_)
       have hs23 : w22.cell? ⟨gb289,0,none⟩ = some (.int .i64 0):=(blk_cell BK289.out 0).trans rfl
       have hfs23:=blk_frozen BK289.out 0
       have hs24 : w22.cell? ⟨gb289,1,none⟩ = some (.int .i64 0):=(blk_cell BK289.out 1).trans rfl
       have hfs24:=blk_frozen BK289.out 1
       refine skip_ (w1:=?_) (by rfl) rfl ?_ ?_
       rotate_left
       ·go_simp
        rfl
       refine hK.out _ _ ⟨((cell_far (p:=⟨gb289,_,none⟩) (by first|exact Nat.ne_of_lt (Nat.lt_of_lt_of_le (by have:=World.block_lt_of_cell? _ _ hw292_0;first|rwa [add_block] at this|exact this) GW289.out)|(rw [add_block];exact Nat.ne_of_lt (Nat.lt_of_lt_of_le (by have:=World.block_lt_of_cell? _ _ hw292_0;first|rwa [add_block] at this|exact this) GW289.out))|(show (Addr.add _ _).block ≠ _;rw [add_block];exact Nat.ne_of_lt (Nat.lt_of_lt_of_le (by have:=World.block_lt_of_cell? _ _ hw292_0;first|rwa [add_block] at this|exact this) GW289.out))|(dsimp only;exact Nat.ne_of_lt (Nat.lt_of_lt_of_le (by have:=World.block_lt_of_cell? _ _ hw292_0;first|rwa [add_block] at this|exact this) GW289.out))) _).trans (((cell_far (p:=⟨gb289,_,none⟩) (by first|exact Nat.ne_of_lt (Nat.lt_of_lt_of_le (by have:=World.block_lt_of_cell? _ _ hw292_0;first|rwa [add_block] at this|exact this) GW289.out)|(rw [add_block];exact Nat.ne_of_lt (Nat.lt_of_lt_of_le (by have:=World.block_lt_of_cell? _ _ hw292_0;first|rwa [add_block] at this|exact this) GW289.out))|(show (Addr.add _ _).block ≠ _;rw [add_block];exact Nat.ne_of_lt (Nat.lt_of_lt_of_le (by have:=World.block_lt_of_cell? _ _ hw292_0;first|rwa [add_block] at this|exact this) GW289.out))|(dsimp only;exact Nat.ne_of_lt (Nat.lt_of_lt_of_le (by have:=World.block_lt_of_cell? _ _ hw292_0;first|rwa [add_block] at this|exact this) GW289.out))) _).trans (hHeld.1)))),((cell_far (p:=⟨gb289,_,none⟩) (by first|exact Nat.ne_of_lt (Nat.lt_of_lt_of_le (by have:=World.block_lt_of_cell? _ _ hw292_1;first|rwa [add_block] at this|exact this) GW289.out)|(rw [add_block];exact Nat.ne_of_lt (Nat.lt_of_lt_of_le (by have:=World.block_lt_of_cell? _ _ hw292_1;first|rwa [add_block] at this|exact this) GW289.out))|(show (Addr.add _ _).block ≠ _;rw [add_block];exact Nat.ne_of_lt (Nat.lt_of_lt_of_le (by have:=World.block_lt_of_cell? _ _ hw292_1;first|rwa [add_block] at this|exact this) GW289.out))|(dsimp only;exact Nat.ne_of_lt (Nat.lt_of_lt_of_le (by have:=World.block_lt_of_cell? _ _ hw292_1;first|rwa [add_block] at this|exact this) GW289.out))) _).trans (((cell_far (p:=⟨gb289,_,none⟩) (by first|exact Nat.ne_of_lt (Nat.lt_of_lt_of_le (by have:=World.block_lt_of_cell? _ _ hw292_1;first|rwa [add_block] at this|exact this) GW289.out)|(rw [add_block];exact Nat.ne_of_lt (Nat.lt_of_lt_of_le (by have:=World.block_lt_of_cell? _ _ hw292_1;first|rwa [add_block] at this|exact this) GW289.out))|(show (Addr.add _ _).block ≠ _;rw [add_block];exact Nat.ne_of_lt (Nat.lt_of_lt_of_le (by have:=World.block_lt_of_cell? _ _ hw292_1;first|rwa [add_block] at this|exact this) GW289.out))|(dsimp only;exact Nat.ne_of_lt (Nat.lt_of_lt_of_le (by have:=World.block_lt_of_cell? _ _ hw292_1;first|rwa [add_block] at this|exact this) GW289.out))) _).trans (hHeld.2.1)))),((cell_far (p:=⟨gb289,_,none⟩) (by first|exact Nat.ne_of_lt (Nat.lt_of_lt_of_le (by have:=World.block_lt_of_cell? _ _ hw292_2;first|rwa [add_block] at this|exact this) GW289.out)|(rw [add_block];exact Nat.ne_of_lt (Nat.lt_of_lt_of_le (by have:=World.block_lt_of_cell? _ _ hw292_2;first|rwa [add_block] at this|exact this) GW289.out))|(show (Addr.add _ _).block ≠ _;rw [add_block];exact Nat.ne_of_lt (Nat.lt_of_lt_of_le (by have:=World.block_lt_of_cell? _ _ hw292_2;first|rwa [add_block] at this|exact this) GW289.out))|(dsimp only;exact Nat.ne_of_lt (Nat.lt_of_lt_of_le (by have:=World.block_lt_of_cell? _ _ hw292_2;first|rwa [add_block] at this|exact this) GW289.out))) _).trans (((cell_far (p:=⟨gb289,_,none⟩) (by first|exact Nat.ne_of_lt (Nat.lt_of_lt_of_le (by have:=World.block_lt_of_cell? _ _ hw292_2;first|rwa [add_block] at this|exact this) GW289.out)|(rw [add_block];exact Nat.ne_of_lt (Nat.lt_of_lt_of_le (by have:=World.block_lt_of_cell? _ _ hw292_2;first|rwa [add_block] at this|exact this) GW289.out))|(show (Addr.add _ _).block ≠ _;rw [add_block];exact Nat.ne_of_lt (Nat.lt_of_lt_of_le (by have:=World.block_lt_of_cell? _ _ hw292_2;first|rwa [add_block] at this|exact this) GW289.out))|(dsimp only;exact Nat.ne_of_lt (Nat.lt_of_lt_of_le (by have:=World.block_lt_of_cell? _ _ hw292_2;first|rwa [add_block] at this|exact this) GW289.out))) _).trans (hHeld.2.2.1)))),((cell_far (p:=⟨gb289,_,none⟩) (by first|exact Nat.ne_of_lt (Nat.lt_of_lt_of_le (by have:=World.block_lt_of_cell? _ _ hw292_3;first|rwa [add_block] at this|exact this) GW289.out)|(rw [add_block];exact Nat.ne_of_lt (Nat.lt_of_lt_of_le (by have:=World.block_lt_of_cell? _ _ hw292_3;first|rwa [add_block] at this|exact this) GW289.out))|(show (Addr.add _ _).block ≠ _;rw [add_block];exact Nat.ne_of_lt (Nat.lt_of_lt_of_le (by have:=World.block_lt_of_cell? _ _ hw292_3;first|rwa [add_block] at this|exact this) GW289.out))|(dsimp only;exact Nat.ne_of_lt (Nat.lt_of_lt_of_le (by have:=World.block_lt_of_cell? _ _ hw292_3;first|rwa [add_block] at this|exact this) GW289.out))) _).trans (((cell_far (p:=⟨gb289,_,none⟩) (by first|exact Nat.ne_of_lt (Nat.lt_of_lt_of_le (by have:=World.block_lt_of_cell? _ _ hw292_3;first|rwa [add_block] at this|exact this) GW289.out)|(rw [add_block];exact Nat.ne_of_lt (Nat.lt_of_lt_of_le (by have:=World.block_lt_of_cell? _ _ hw292_3;first|rwa [add_block] at this|exact this) GW289.out))|(show (Addr.add _ _).block ≠ _;rw [add_block];exact Nat.ne_of_lt (Nat.lt_of_lt_of_le (by have:=World.block_lt_of_cell? _ _ hw292_3;first|rwa [add_block] at this|exact this) GW289.out))|(dsimp only;exact Nat.ne_of_lt (Nat.lt_of_lt_of_le (by have:=World.block_lt_of_cell? _ _ hw292_3;first|rwa [add_block] at this|exact this) GW289.out))) _).trans (hHeld.2.2.2))))⟩ (fun hHeld=>?_)
       clear hK K
       refine pure_ (i:=13) (N:=some 7) (v:=?_) (a':=?_) #[true,true,true,true,true,true,true,true,true,true,true,true,true,true] rfl rfl (any_of HT_.out (by kernel_rfl)) (fun _ _ _ h=>h) (Or.inl ⟨by rfl,?_⟩) ?_ ?_
       rotate_left
       ·intro w'
        go_simp
        with_reducible rfl
       rotate_left
       ·simp only [Act.put,List.setIfInBounds_toArray,List.set_cons_zero,List.set_cons_succ,i64_w,i32_w]
        rfl
       refine done_ (done_of HT_.out (by kernel_rfl)) ?_
       try go_wp2
       refine bodyPost_ret (results_ct rfl _ _ gb289 37 #[.int .i64 t297,.int .i64 t298] (0,0) _ rfl (by (with_reducible repeat (first|refine zJ ?_ _|refine zK ?_|refine zL ?_ _));refine blk_put (cs := #[.int .i64 t297,.int .i64 0]) ?_ 1 _ rfl;(with_reducible repeat (first|refine zJ ?_ _|refine zK ?_|refine zL ?_ _));refine blk_put (cs := #[.int .i64 0,.int .i64 0]) ?_ 0 _ rfl;(with_reducible repeat (first|refine zJ ?_ _|refine zK ?_|refine zL ?_ _));exact BK289.out) Try.underlying37 rfl (by kernel_rfl)) rfl ?_
       exact ⟨by first|rfl|(simp [errW_none,errW_some] <;> rfl)|(simp [*,errW_none,errW_some] <;> rfl),by repeat (first|(with_reducible first|exact HB.out|apply zD|apply zE|apply zF|refine below_set ?_ GE289.out)|exact HB.out)⟩
      ·rw [if_neg c15] at H
       exact absurd H (by simp)
     ·rw [if_neg c13] at H
      exact absurd H (by simp)
    ·rw [if_neg c12] at H
     exact absurd H (by simp)
   ·replace c11:=Bool.eq_false_iff.mpr c11
    subst c11
    have H1 : (some (0,0,false)) = some (r1,r2,r3):=by rw [if_neg (show ¬ (false = true) by decide)] at H;exact H
    clear H
    have H:=H1
    clear H1
    simp only [Option.some.injEq,Prod.mk.injEq] at H
    obtain ⟨rfl,rfl,rfl⟩:=H
    go_enter Try.func25,Try.ntmps25
    go_wp2_with (first|((with_reducible refine gate_dst (N:=6) rfl ?_);(try (refine gate_guard (by rfl) ?_;dsimp only));refine box_event ?hg (N:=6) ?hd (cs := #[.int .i64 0,.int .i64 0]) (t:=37) ?hr ?_;(case hd=>rfl);(case hg=>rfl);(case hr=>first|(go_simp;done)|(go_simp;rfl));intro gb289 hg w25 hbox hb;have n0_:=zM (zQ (by repeat (first|(with_reducible first|exact HB.out|apply zD|apply zE|apply zF)|exact HB.out)) hb);have n1_:=zM (hbox);have n2_:=zM ((by rw [hg];exact (zR (by repeat (first|(with_reducible first|exact HB.out|apply zD|apply zE|apply zF)|exact HB.out))) : w.heap.size ≤ gb289));have n3_:=zM ((by rw [hg];exact (zR (by repeat (first|(with_reducible first|exact HB.out|apply zD|apply zE|apply zF)|exact HB.out))) : w.heap.size ≤ gb289));clear HB;have HB:=n0_;have BK289:=n1_;have GW289:=n2_;have GE289:=n3_;clear n0_ n1_ n2_ n3_;clear hb hbox hg)|((with_reducible refine gate_callee (f:=58) rfl ?_);refine goesL_ (some 13) rfl rfl Try.func58 (by kernel_rfl) rfl #[.int .i64 a0,.slice A1 l1.length c1] rfl (by (try simp only [List.map_toArray,List.map_cons,List.map_nil]);first|done|rfl|(simp only [List.length_drop,List.length_take];rfl)) ?_;(with_reducible refine (spec_l14Ships.calls k a0 _ _ l1 true _ ?side1 ?side2 A4.out).mono ?_);(case side1=>repeat (first|exact (zO HR1.out HB.out)|(with_reducible refine zG ?_ _)|(with_reducible refine zH ?_ _)|(with_reducible refine zI ?_)));(case side2=>exact HC1.out);rintro e w26 ⟨rfl,hb⟩;refine ⟨_,rfl,?_⟩;have n0_:=zM (blk_below (g:=gb289) (o := .cells #[.int .i64 0,.int .i64 0] 37 (0,0)) (by (with_reducible repeat (first|refine zJ ?_ _|refine zK ?_|refine zL ?_ _));exact BK289.out) hb);have n1_:=zM (zQ (by repeat (first|(with_reducible first|exact HB.out|apply zD|apply zE|apply zF|refine below_set ?_ GE289.out)|exact HB.out)) hb);clear BK289;clear HB;have BK289:=n0_;have HB:=n1_;clear n0_ n1_;(try clear hb);(try clear hb2);(try clear hk);(try clear hi))|(go_at_call 59;(with_reducible refine (spec_l14Plan.calls k a0 _ _ l1 _ _ l2 false _ ?side1 ?side2 ?side3 ?side4 A10.out).mono ?_);(case side1=>repeat (first|exact (zO HR1.out HB.out)|(with_reducible refine zG ?_ _)|(with_reducible refine zH ?_ _)|(with_reducible refine zI ?_)));(case side2=>exact HC1.out);(case side3=>repeat (first|exact (zO HR2.out HB.out)|(with_reducible refine zG ?_ _)|(with_reducible refine zH ?_ _)|(with_reducible refine zI ?_)));(case side4=>exact HC2.out);rintro e w27 ⟨rfl,hb⟩;have n0_:=zM (blk_below (g:=gb289) (o := .cells #[.int .i64 0,.int .i64 0] 37 (0,0)) (by (with_reducible repeat (first|refine zJ ?_ _|refine zK ?_|refine zL ?_ _));exact BK289.out) hb);have n1_:=zM (zQ (by repeat (first|(with_reducible first|exact HB.out|apply zD|apply zE|apply zF|refine below_set ?_ GE289.out)|exact HB.out)) hb);clear BK289;clear HB;have BK289:=n0_;have HB:=n1_;clear n0_ n1_;(try clear hb);(try clear hb2);(try clear hk);(try clear hi);have hcz28_0 : w27.cell? ⟨gb289,0,none⟩ = some (.int .i64 0):=(blk_cell BK289.out 0).trans rfl;have hcz28_1 : w27.cell? ⟨gb289,1,none⟩ = some (.int .i64 0):=(blk_cell BK289.out 1).trans rfl;have hfz28_0:=blk_frozen BK289.out 0;have hfz28_1:=blk_frozen BK289.out 1))
    refine bodyPost_ret (results_ct rfl _ _ gb289 37 #[.int .i64 0,.int .i64 0] (0,0) _ rfl (by (with_reducible repeat (first|refine zJ ?_ _|refine zK ?_|refine zL ?_ _));refine blk_put (cs := #[.int .i64 0,.int .i64 0]) ?_ 1 _ rfl;(with_reducible repeat (first|refine zJ ?_ _|refine zK ?_|refine zL ?_ _));refine blk_put (cs := #[.int .i64 0,.int .i64 0]) ?_ 0 _ rfl;(with_reducible repeat (first|refine zJ ?_ _|refine zK ?_|refine zL ?_ _));exact BK289.out) Try.underlying37 rfl (by kernel_rfl)) rfl ?_
    exact ⟨by first|rfl|(simp [errW_none,errW_some] <;> rfl)|(simp [*,errW_none,errW_some] <;> rfl),by repeat (first|(with_reducible first|exact HB.out|apply zD|apply zE|apply zF|refine below_set ?_ GE289.out)|exact HB.out)⟩
 ·replace c5:=Bool.eq_false_iff.mpr c5
  subst c5
  have H1 : (some (0,0,false)) = some (r1,r2,r3):=by rw [if_neg (show ¬ (false = true) by decide)] at H;exact H
  clear H
  have H:=H1
  clear H1
  simp only [Option.some.injEq,Prod.mk.injEq] at H
  obtain ⟨rfl,rfl,rfl⟩:=H
  go_enter Try.func25,Try.ntmps25
  go_wp2_with (first|((with_reducible refine gate_dst (N:=6) rfl ?_);(try (refine gate_guard (by rfl) ?_;dsimp only));refine box_event ?hg (N:=6) ?hd (cs := #[.int .i64 0,.int .i64 0]) (t:=37) ?hr ?_;(case hd=>rfl);(case hg=>rfl);(case hr=>first|(go_simp;done)|(go_simp;rfl));intro gb289 hg w29 hbox hb;have n0_:=zM (zQ (by repeat (first|(with_reducible first|exact HB.out|apply zD|apply zE|apply zF)|exact HB.out)) hb);have n1_:=zM (hbox);have n2_:=zM ((by rw [hg];exact (zR (by repeat (first|(with_reducible first|exact HB.out|apply zD|apply zE|apply zF)|exact HB.out))) : w.heap.size ≤ gb289));have n3_:=zM ((by rw [hg];exact (zR (by repeat (first|(with_reducible first|exact HB.out|apply zD|apply zE|apply zF)|exact HB.out))) : w.heap.size ≤ gb289));clear HB;have HB:=n0_;have BK289:=n1_;have GW289:=n2_;have GE289:=n3_;clear n0_ n1_ n2_ n3_;clear hb hbox hg)|((with_reducible refine gate_callee (f:=58) rfl ?_);refine goesL_ (some 13) rfl rfl Try.func58 (by kernel_rfl) rfl #[.int .i64 a0,.slice A1 l1.length c1] rfl (by (try simp only [List.map_toArray,List.map_cons,List.map_nil]);first|done|rfl|(simp only [List.length_drop,List.length_take];rfl)) ?_;(with_reducible refine (spec_l14Ships.calls k a0 _ _ l1 false _ ?side1 ?side2 A4.out).mono ?_);(case side1=>repeat (first|exact (zO HR1.out HB.out)|(with_reducible refine zG ?_ _)|(with_reducible refine zH ?_ _)|(with_reducible refine zI ?_)));(case side2=>exact HC1.out);rintro e w30 ⟨rfl,hb⟩;refine ⟨_,rfl,?_⟩;have n0_:=zM (blk_below (g:=gb289) (o := .cells #[.int .i64 0,.int .i64 0] 37 (0,0)) (by (with_reducible repeat (first|refine zJ ?_ _|refine zK ?_|refine zL ?_ _));exact BK289.out) hb);have n1_:=zM (zQ (by repeat (first|(with_reducible first|exact HB.out|apply zD|apply zE|apply zF|refine below_set ?_ GE289.out)|exact HB.out)) hb);clear BK289;clear HB;have BK289:=n0_;have HB:=n1_;clear n0_ n1_;(try clear hb);(try clear hb2);(try clear hk);(try clear hi);have hcz31_0 : w30.cell? ⟨gb289,0,none⟩ = some (.int .i64 0):=(blk_cell BK289.out 0).trans rfl;have hcz31_1 : w30.cell? ⟨gb289,1,none⟩ = some (.int .i64 0):=(blk_cell BK289.out 1).trans rfl;have hfz31_0:=blk_frozen BK289.out 0;have hfz31_1:=blk_frozen BK289.out 1))
  refine bodyPost_ret (results_ct rfl _ _ gb289 37 #[.int .i64 0,.int .i64 0] (0,0) _ rfl (by (with_reducible repeat (first|refine zJ ?_ _|refine zK ?_|refine zL ?_ _));refine blk_put (cs := #[.int .i64 0,.int .i64 0]) ?_ 1 _ rfl;(with_reducible repeat (first|refine zJ ?_ _|refine zK ?_|refine zL ?_ _));refine blk_put (cs := #[.int .i64 0,.int .i64 0]) ?_ 0 _ rfl;(with_reducible repeat (first|refine zJ ?_ _|refine zK ?_|refine zL ?_ _));exact BK289.out) Try.underlying37 rfl (by kernel_rfl)) rfl ?_
  exact ⟨by first|rfl|(simp [errW_none,errW_some] <;> rfl)|(simp [*,errW_none,errW_some] <;> rfl),by repeat (first|(with_reducible first|exact HB.out|apply zD|apply zE|apply zF|refine below_set ?_ GE289.out)|exact HB.out)⟩

end Go.Proofs.Ytcciljjnpfgaeaa.G

-- Written by wip/tools/gen.py out of the translation (the kit's printer, one namespace a seat). Lean checks it.
namespace Go.Proofs.Ytcciljjnpfgaeaa.G
open Go.RowKit Go.Proofs.YtcciljjnpfgaeaaW.PrintWords Go.Proofs.YtcciljjnpfgaeaaW.PrintLast Go.Proofs.YtcciljjnpfgaeaaW.PrintMore
attribute [local go_sem] max2_int min2_int max_two min_two max_three min_three max_four min_four   -- for this text's walks alone
set_option linter.unusedVariables false
set_option linter.unusedSimpArgs false

/-! ### impl_nextBerth: function 61 -/
mutual
def impl_nextBerth.l0 : Nat → Int → List (S62) → List (S37) → Int → Int → Int → Int → Int → Option (Int × Int × Bool)
 | 0,_,_,_,_,_,_,_,_=>none
 | k + 1,x0,x2,x3,x10,x301000,x301001,x301002,x301003=>if x10 ≤ 1000 then (impl_nextBerth.l1 k x0 x2 x3 x10 0 x301000 x301001 x301002 x301003) else (some (0,0,false))
def impl_nextBerth.l1 : Nat → Int → List (S62) → List (S37) → Int → Int → Int → Int → Int → Int → Option (Int × Int × Bool)
 | 0,_,_,_,_,_,_,_,_,_=>none
 | k + 1,x0,x2,x3,x10,x11,x301000,x301001,x301002,x301003=>if x11 ≤ (wrap64 (x0 - x301000)) then ((impl_fits.f k x0 x301000 x301001 x301002 x301003 x11 x10 x2 x3).bind fun t303=>(if t303 = true then (some (x11,x10,true)) else (impl_nextBerth.l1 k x0 x2 x3 x10 (wrap64 (x11 + 1)) x301000 x301001 x301002 x301003))) else (impl_nextBerth.l0 k x0 x2 x3 (wrap64 (x10 + 1)) x301000 x301001 x301002 x301003)
end
def impl_nextBerth.f (k : Nat) (a0 : Int) (a1_0 : Int) (a1_1 : Int) (a1_2 : Int) (a1_3 : Int) (l2 : List (S62)) (l3 : List (S37)) : Option (Int × Int × Bool):=impl_nextBerth.l0 k a0 l2 l3 a1_1 a1_0 a1_1 a1_2 a1_3
set_option maxHeartbeats 8000000 in
set_option maxRecDepth 100000 in
theorem impl_nextBerth.calls (k : Nat) (a0 : Int) (a1_0 : Int) (a1_1 : Int) (a1_2 : Int) (a1_3 : Int) (A2 : Option Addr) (c2 : Nat) (l2 : List (S62)) (A3 : Option Addr) (c3 : Nat) (l3 : List (S37)) (r1 : Int) (r2 : Int) (r3 : Bool) (w : World) (hr2 : Kd.C k62 w A2 l2.length l2) (hc2 : l2.length ≤ c2) (hr3 : Kd.C k37 w A3 l3.length l3) (hc3 : l3.length ≤ c3) (h : impl_nextBerth.f k a0 a1_0 a1_1 a1_2 a1_3 l2 l3 = some (r1,r2,r3)) :
  Calls Try.prog 61 #[.int .i64 a0,.agg #[.int .i64 a1_0,.int .i64 a1_1,.int .i64 a1_2,.int .i64 a1_3],.slice A2 l2.length c2,.slice A3 l3.length c3] w fun e w'=>e = .returned (.tuple #[.agg #[.int .i64 r1,.int .i64 r2],.bool r3]) ∧ Below w.heap.size w w':=by
 have hu62:=Try.underlying62
 have hu37:=Try.underlying37
 have HR2:=zM hr2
 have HC2:=zM hc2
 clear hr2 hc2
 have HR3:=zM hr3
 have HC3:=zM hc3
 clear hr3 hc3
 have HB:=zM (Below.refl w.heap.size w)
 have H : (impl_nextBerth.l0 k a0 l2 l3 a1_1 a1_0 a1_1 a1_2 a1_3) = some (r1,r2,r3):=h
 clear h
 have H':=zM H
 clear H
 go_enter Try.func61,Try.ntmps61
 go_wp2_with (first|((with_reducible refine gate_dst (N:=5) rfl ?_);refine box_event ?hg (N:=5) ?hd (cs := #[.int .i64 a1_0,.int .i64 a1_1,.int .i64 a1_2,.int .i64 a1_3]) (t:=62) ?hr ?_;(case hd=>rfl);(case hg=>rfl);(case hr=>first|(go_simp;done)|(go_simp;rfl));intro gb300 hg w5 hbox hb;have n0_:=zM (zQ (by repeat (first|(with_reducible first|exact HB.out|apply zD|apply zE|apply zF)|exact HB.out)) hb);have n1_:=zM (hbox);have n2_:=zM ((by rw [hg];exact (zR (by repeat (first|(with_reducible first|exact HB.out|apply zD|apply zE|apply zF)|exact HB.out))) : w.heap.size ≤ gb300));have n3_:=zM ((by rw [hg];exact (zR (by repeat (first|(with_reducible first|exact HB.out|apply zD|apply zE|apply zF)|exact HB.out))) : w.heap.size ≤ gb300));clear HB;have HB:=n0_;have BK300:=n1_;have GW300:=n2_;have GE300:=n3_;clear n0_ n1_ n2_ n3_;clear hb hbox hg)|((with_reducible refine gate_dst (N:=8) rfl ?_);refine box_event ?hg (N:=8) ?hd (cs := #[.int .i64 0,.int .i64 0]) (t:=37) ?hr ?_;(case hd=>rfl);(case hg=>rfl);(case hr=>first|(go_simp;done)|(go_simp;rfl));intro gb301 hg w6 hbox hb;have n0_:=zM (blk_below (g:=gb300) (o := .cells #[.int .i64 a1_0,.int .i64 a1_1,.int .i64 a1_2,.int .i64 a1_3] 62 (0,0)) (by (with_reducible repeat (first|refine zJ ?_ _|refine zK ?_|refine zL ?_ _));exact BK300.out) hb);have n1_:=zM (zQ (by repeat (first|(with_reducible first|exact HB.out|apply zD|apply zE|apply zF|refine below_set ?_ GE300.out)|exact HB.out)) hb);have n2_:=zM (hbox);have n3_:=zM ((by rw [hg];exact (zR (by repeat (first|(with_reducible first|exact HB.out|apply zD|apply zE|apply zF|refine below_set ?_ GE300.out)|exact HB.out))) : w.heap.size ≤ gb301));have n4_:=zM ((by rw [hg];exact (zR (by repeat (first|(with_reducible first|exact HB.out|apply zD|apply zE|apply zF|refine below_set ?_ GE300.out)|exact HB.out))) : w.heap.size ≤ gb301));have n5_:=zM ((by rw [hg];exact Nat.ne_of_lt (blk_lt (g:=gb300) (o := .cells #[.int .i64 a1_0,.int .i64 a1_1,.int .i64 a1_2,.int .i64 a1_3] 62 (0,0)) (by (with_reducible repeat (first|refine zJ ?_ _|refine zK ?_|refine zL ?_ _));exact BK300.out)) : gb300 ≠ gb301));have n6_:=zM ((by rw [hg];exact Nat.ne_of_gt (blk_lt (g:=gb300) (o := .cells #[.int .i64 a1_0,.int .i64 a1_1,.int .i64 a1_2,.int .i64 a1_3] 62 (0,0)) (by (with_reducible repeat (first|refine zJ ?_ _|refine zK ?_|refine zL ?_ _));exact BK300.out)) : gb301 ≠ gb300));clear BK300;clear HB;have BK300:=n0_;have HB:=n1_;have BK301:=n2_;have GW301:=n3_;have GE301:=n4_;have NB300_301:=n5_;have NB301_300:=n6_;clear n0_ n1_ n2_ n3_ n4_ n5_ n6_;clear hb hbox hg;have hnb7:=NB300_301.out;have hnc7:=NB301_300.out;have hcz8_0 : w6.cell? ⟨gb300,0,none⟩ = some (.int .i64 a1_0):=(blk_cell BK300.out 0).trans rfl;have hcz8_1 : w6.cell? ⟨gb300,1,none⟩ = some (.int .i64 a1_1):=(blk_cell BK300.out 1).trans rfl;have hcz8_2 : w6.cell? ⟨gb300,2,none⟩ = some (.int .i64 a1_2):=(blk_cell BK300.out 2).trans rfl;have hcz8_3 : w6.cell? ⟨gb300,3,none⟩ = some (.int .i64 a1_3):=(blk_cell BK300.out 3).trans rfl;have hfz8_0:=blk_frozen BK300.out 0;have hfz8_1:=blk_frozen BK300.out 1;have hfz8_2:=blk_frozen BK300.out 2;have hfz8_3:=blk_frozen BK300.out 3))
 go_loopg [10] k (fun kq v10 w' => ∃ (x10_1 : Int) (x302000_1 : Int) (x302001_1 : Int),v10 = .int .i64 x10_1 ∧ Aside0 (impl_nextBerth.l0 kq a0 l2 l3 x10_1 a1_0 a1_1 a1_2 a1_3 = some (r1,r2,r3)) ∧ Aside0 (kq ≤ k) ∧ Aside0 (w'.heap[gb300]? = some (.cells #[.int .i64 a1_0,.int .i64 a1_1,.int .i64 a1_2,.int .i64 a1_3] 62 (0,0))) ∧ Aside0 (w'.heap[gb301]? = some (.cells #[.int .i64 x302000_1,.int .i64 x302001_1] 37 (0,0))) ∧ Aside0 (Below w.heap.size w w'))
 case atStart=>exact ⟨(a1_1),(0),(0),(by first|rfl|(simp;done)|(simp [*];done)),H',⟨Nat.le_refl _⟩,⟨by (with_reducible repeat (first|refine zJ ?_ _|refine zK ?_|refine zL ?_ _));exact BK300.out⟩,⟨by (with_reducible repeat (first|refine zJ ?_ _|refine zK ?_|refine zL ?_ _));exact BK301.out⟩,⟨by repeat (first|(with_reducible first|exact HB.out|apply zD|apply zE|apply zF|refine below_set ?_ GE300.out|refine below_set ?_ GE301.out)|exact HB.out)⟩⟩
 case round =>
  clear H'
  try clear c2
  try clear p2
  try clear c3
  try clear c6
  try clear c7
  try clear hcz8_0
  try clear hcz8_1
  try clear hcz8_2
  try clear hcz8_3
  try clear hfz8_0
  try clear hfz8_1
  try clear hfz8_2
  try clear hfz8_3
  obtain ⟨x10_1,x302000_1,x302001_1,rfl,HA,HK1,BK300,BK301,HB⟩:=hrel
  cases gk with
  | zero=>exact absurd HA.out (by simp [impl_nextBerth.l0])
  | succ k1 =>
   have H:=HA.out
   clear HA
   simp only [impl_nextBerth.l0] at H
   by_cases c9 : x10_1 ≤ 1000
   ·rw [if_pos c9] at H
    have c9b0 : decide (x10_1 ≤ 1000) = true:=decide_eq_true c9
    clear c9
    have H':=zM H
    clear H
    go_wp2
    go_loopg [11] k1 (fun kq v11 w' => ∃ (x11_2 : Int) (x302000_2 : Int) (x302001_2 : Int),v11 = .int .i64 x11_2 ∧ Aside0 (impl_nextBerth.l1 kq a0 l2 l3 x10_1 x11_2 a1_0 a1_1 a1_2 a1_3 = some (r1,r2,r3)) ∧ Aside0 (kq ≤ k1) ∧ Aside0 (w'.heap[gb300]? = some (.cells #[.int .i64 a1_0,.int .i64 a1_1,.int .i64 a1_2,.int .i64 a1_3] 62 (0,0))) ∧ Aside0 (w'.heap[gb301]? = some (.cells #[.int .i64 x302000_2,.int .i64 x302001_2] 37 (0,0))) ∧ Aside0 (Below w.heap.size w w'))
    case atStart=>exact ⟨(0),(x302000_1),(x302001_1),(by first|rfl|(simp;done)|(simp [*];done)),H',⟨Nat.le_refl _⟩,⟨by (with_reducible repeat (first|refine zJ ?_ _|refine zK ?_|refine zL ?_ _));exact BK300.out⟩,⟨by (with_reducible repeat (first|refine zJ ?_ _|refine zK ?_|refine zL ?_ _));exact BK301.out⟩,⟨by repeat (first|(with_reducible first|exact HB.out|apply zD|apply zE|apply zF|refine below_set ?_ GE300.out|refine below_set ?_ GE301.out)|exact HB.out)⟩⟩
    case round =>
     clear H'
     try clear c2
     try clear p2
     try clear c3
     try clear c6
     try clear c7
     try clear c9
     try clear c9b0
     try clear hcz8_0
     try clear hcz8_1
     try clear hcz8_2
     try clear hcz8_3
     try clear hfz8_0
     try clear hfz8_1
     try clear hfz8_2
     try clear hfz8_3
     try clear p2
     obtain ⟨x11_2,x302000_2,x302001_2,rfl,HA,HK2,BK300,BK301,HB⟩:=hrel
     cases gk with
     | zero=>exact absurd HA.out (by simp [impl_nextBerth.l1])
     | succ k2 =>
      have H:=HA.out
      clear HA
      simp only [impl_nextBerth.l1] at H
      by_cases c10 : x11_2 ≤ (wrap64 (a0 - a1_0))
      ·rw [if_pos c10] at H
       have c10b0 : decide (x11_2 ≤ (wrap64 (a0 - a1_0))) = true:=decide_eq_true c10
       clear c10
       replace H:=Option.bind_eq_some_iff.mp H
       obtain ⟨t303,A110,H⟩:=H
       replace H : (if t303 = true then (some (x11_2,x10_1,true)) else (impl_nextBerth.l1 k2 a0 l2 l3 x10_1 (wrap64 (x11_2 + 1)) a1_0 a1_1 a1_2 a1_3)) = some (r1,r2,r3):=H
       have A11:=zM A110
       clear A110
       by_cases c12 : t303 = true
       ·subst c12
        have H1 : (some (x11_2,x10_1,true)) = some (r1,r2,r3):=by rw [if_pos rfl] at H;exact H
        clear H
        have H:=H1
        clear H1
        simp only [Option.some.injEq,Prod.mk.injEq] at H
        obtain ⟨rfl,rfl,rfl⟩:=H
        have hnb13:=NB300_301.out
        have hnc13:=NB301_300.out
        have hcz14_0 : wr.cell? ⟨gb300,0,none⟩ = some (.int .i64 a1_0):=(blk_cell BK300.out 0).trans rfl
        have hcz14_1 : wr.cell? ⟨gb300,1,none⟩ = some (.int .i64 a1_1):=(blk_cell BK300.out 1).trans rfl
        have hcz14_2 : wr.cell? ⟨gb300,2,none⟩ = some (.int .i64 a1_2):=(blk_cell BK300.out 2).trans rfl
        have hcz14_3 : wr.cell? ⟨gb300,3,none⟩ = some (.int .i64 a1_3):=(blk_cell BK300.out 3).trans rfl
        have hfz14_0:=blk_frozen BK300.out 0
        have hfz14_1:=blk_frozen BK300.out 1
        have hfz14_2:=blk_frozen BK300.out 2
        have hfz14_3:=blk_frozen BK300.out 3
        go_wp2_with (first|((with_reducible refine gate_dst (N:=12) rfl ?_);refine box_event ?hg (N:=12) ?hd (cs := #[.int .i64 0,.int .i64 0]) (t:=37) ?hr ?_;(case hd=>rfl);(case hg=>rfl);(case hr=>first|(go_simp;done)|(go_simp;rfl));intro gb302 hg w15 hbox hb;have n0_:=zM (blk_below (g:=gb300) (o := .cells #[.int .i64 a1_0,.int .i64 a1_1,.int .i64 a1_2,.int .i64 a1_3] 62 (0,0)) (by (with_reducible repeat (first|refine zJ ?_ _|refine zK ?_|refine zL ?_ _));exact BK300.out) hb);have n1_:=zM (blk_below (g:=gb301) (o := .cells #[.int .i64 x302000_2,.int .i64 x302001_2] 37 (0,0)) (by (with_reducible repeat (first|refine zJ ?_ _|refine zK ?_|refine zL ?_ _));exact BK301.out) hb);have n2_:=zM (zQ (by repeat (first|(with_reducible first|exact HB.out|apply zD|apply zE|apply zF|refine below_set ?_ GE300.out|refine below_set ?_ GE301.out)|exact HB.out)) hb);have n3_:=zM (hbox);have n4_:=zM ((by rw [hg];exact (zR (by repeat (first|(with_reducible first|exact HB.out|apply zD|apply zE|apply zF|refine below_set ?_ GE300.out|refine below_set ?_ GE301.out)|exact HB.out))) : w.heap.size ≤ gb302));have n5_:=zM ((by rw [hg];exact (zR (by repeat (first|(with_reducible first|exact HB.out|apply zD|apply zE|apply zF|refine below_set ?_ GE300.out|refine below_set ?_ GE301.out)|exact HB.out))) : w.heap.size ≤ gb302));have n6_:=zM ((by rw [hg];exact Nat.ne_of_lt (blk_lt (g:=gb300) (o := .cells #[.int .i64 a1_0,.int .i64 a1_1,.int .i64 a1_2,.int .i64 a1_3] 62 (0,0)) (by (with_reducible repeat (first|refine zJ ?_ _|refine zK ?_|refine zL ?_ _));exact BK300.out)) : gb300 ≠ gb302));have n7_:=zM ((by rw [hg];exact Nat.ne_of_gt (blk_lt (g:=gb300) (o := .cells #[.int .i64 a1_0,.int .i64 a1_1,.int .i64 a1_2,.int .i64 a1_3] 62 (0,0)) (by (with_reducible repeat (first|refine zJ ?_ _|refine zK ?_|refine zL ?_ _));exact BK300.out)) : gb302 ≠ gb300));have n8_:=zM ((by rw [hg];exact Nat.ne_of_lt (blk_lt (g:=gb301) (o := .cells #[.int .i64 x302000_2,.int .i64 x302001_2] 37 (0,0)) (by (with_reducible repeat (first|refine zJ ?_ _|refine zK ?_|refine zL ?_ _));exact BK301.out)) : gb301 ≠ gb302));have n9_:=zM ((by rw [hg];exact Nat.ne_of_gt (blk_lt (g:=gb301) (o := .cells #[.int .i64 x302000_2,.int .i64 x302001_2] 37 (0,0)) (by (with_reducible repeat (first|refine zJ ?_ _|refine zK ?_|refine zL ?_ _));exact BK301.out)) : gb302 ≠ gb301));clear BK300;clear BK301;clear HB;have BK300:=n0_;have BK301:=n1_;have HB:=n2_;have BK302:=n3_;have GW302:=n4_;have GE302:=n5_;have NB300_302:=n6_;have NB302_300:=n7_;have NB301_302:=n8_;have NB302_301:=n9_;clear n0_ n1_ n2_ n3_ n4_ n5_ n6_ n7_ n8_ n9_;clear hb hbox hg;have hnb16:=NB302_300.out;have hnc16:=NB300_302.out;have hnb17:=NB302_301.out;have hnc17:=NB301_302.out;have hcz18_0 : w15.cell? ⟨gb302,0,none⟩ = some (.int .i64 0):=(blk_cell BK302.out 0).trans rfl;have hcz18_1 : w15.cell? ⟨gb302,1,none⟩ = some (.int .i64 0):=(blk_cell BK302.out 1).trans rfl;have hfz18_0:=blk_frozen BK302.out 0;have hfz18_1:=blk_frozen BK302.out 1;have hcz19_0 : w15.cell? ⟨gb300,0,none⟩ = some (.int .i64 a1_0):=(blk_cell BK300.out 0).trans rfl;have hcz19_1 : w15.cell? ⟨gb300,1,none⟩ = some (.int .i64 a1_1):=(blk_cell BK300.out 1).trans rfl;have hcz19_2 : w15.cell? ⟨gb300,2,none⟩ = some (.int .i64 a1_2):=(blk_cell BK300.out 2).trans rfl;have hcz19_3 : w15.cell? ⟨gb300,3,none⟩ = some (.int .i64 a1_3):=(blk_cell BK300.out 3).trans rfl;have hfz19_0:=blk_frozen BK300.out 0;have hfz19_1:=blk_frozen BK300.out 1;have hfz19_2:=blk_frozen BK300.out 2;have hfz19_3:=blk_frozen BK300.out 3)|((with_reducible refine gate_callee (f:=53) rfl ?_);refine goesL_ (some 35) rfl rfl Try.func53 (by kernel_rfl) rfl #[.int .i64 a0,.agg #[.int .i64 a1_0,.int .i64 a1_1,.int .i64 a1_2,.int .i64 a1_3],.agg #[.int .i64 x11_2,.int .i64 x10_1],.slice A2 l2.length c2,.slice A3 l3.length c3] rfl (by (try simp only [List.map_toArray,List.map_cons,List.map_nil]);first|done|rfl|(simp only [List.length_drop,List.length_take];rfl)) ?_;(with_reducible refine (impl_fits.calls k2 a0 a1_0 a1_1 a1_2 a1_3 x11_2 x10_1 _ _ l2 _ _ l3 true _ ?side1 ?side2 ?side3 ?side4 A11.out).mono ?_);(case side1=>exact zO HR2.out (by repeat (first|(with_reducible first|exact HB.out|apply zD|apply zE|apply zF|refine below_set ?_ GE300.out|refine below_set ?_ GE301.out|refine below_set ?_ GE302.out)|exact HB.out)));(case side2=>exact HC2.out);(case side3=>exact zO HR3.out (by repeat (first|(with_reducible first|exact HB.out|apply zD|apply zE|apply zF|refine below_set ?_ GE300.out|refine below_set ?_ GE301.out|refine below_set ?_ GE302.out)|exact HB.out)));(case side4=>exact HC3.out);rintro e w20 ⟨rfl,hb⟩;refine ⟨_,rfl,?_⟩;have n0_:=zM (blk_below (g:=gb300) (o := .cells #[.int .i64 a1_0,.int .i64 a1_1,.int .i64 a1_2,.int .i64 a1_3] 62 (0,0)) (by (with_reducible repeat (first|refine zJ ?_ _|refine zK ?_|refine zL ?_ _));refine blk_far ?_ NB300_302.out _;(with_reducible repeat (first|refine zJ ?_ _|refine zK ?_|refine zL ?_ _));refine blk_far ?_ NB300_302.out _;(with_reducible repeat (first|refine zJ ?_ _|refine zK ?_|refine zL ?_ _));exact BK300.out) hb);have n1_:=zM (blk_below (g:=gb301) (o := .cells #[.int .i64 x302000_2,.int .i64 x302001_2] 37 (0,0)) (by (with_reducible repeat (first|refine zJ ?_ _|refine zK ?_|refine zL ?_ _));refine blk_far ?_ NB301_302.out _;(with_reducible repeat (first|refine zJ ?_ _|refine zK ?_|refine zL ?_ _));refine blk_far ?_ NB301_302.out _;(with_reducible repeat (first|refine zJ ?_ _|refine zK ?_|refine zL ?_ _));exact BK301.out) hb);have n2_:=zM (blk_below (g:=gb302) (o := .cells #[.int .i64 x11_2,.int .i64 x10_1] 37 (0,0)) (by (with_reducible repeat (first|refine zJ ?_ _|refine zK ?_|refine zL ?_ _));refine blk_put (cs := #[.int .i64 x11_2,.int .i64 0]) ?_ 1 _ rfl;(with_reducible repeat (first|refine zJ ?_ _|refine zK ?_|refine zL ?_ _));refine blk_put (cs := #[.int .i64 0,.int .i64 0]) ?_ 0 _ rfl;(with_reducible repeat (first|refine zJ ?_ _|refine zK ?_|refine zL ?_ _));exact BK302.out) hb);have n3_:=zM (zQ (by repeat (first|(with_reducible first|exact HB.out|apply zD|apply zE|apply zF|refine below_set ?_ GE300.out|refine below_set ?_ GE301.out|refine below_set ?_ GE302.out)|exact HB.out)) hb);clear BK300;clear BK301;clear BK302;clear HB;have BK300:=n0_;have BK301:=n1_;have BK302:=n2_;have HB:=n3_;clear n0_ n1_ n2_ n3_;(try clear hb);(try clear hb2);(try clear hk);(try clear hi);have hcz21_0 : w20.cell? ⟨gb302,0,none⟩ = some (.int .i64 x11_2):=(blk_cell BK302.out 0).trans rfl;have hcz21_1 : w20.cell? ⟨gb302,1,none⟩ = some (.int .i64 x10_1):=(blk_cell BK302.out 1).trans rfl;have hfz21_0:=blk_frozen BK302.out 0;have hfz21_1:=blk_frozen BK302.out 1;have hcz22_0 : w20.cell? ⟨gb301,0,none⟩ = some (.int .i64 x302000_2):=(blk_cell BK301.out 0).trans rfl;have hcz22_1 : w20.cell? ⟨gb301,1,none⟩ = some (.int .i64 x302001_2):=(blk_cell BK301.out 1).trans rfl;have hfz22_0:=blk_frozen BK301.out 0;have hfz22_1:=blk_frozen BK301.out 1))
        refine bodyPost_ret (results_ct rfl _ _ gb301 37 #[.int .i64 x11_2,.int .i64 x10_1] (0,0) _ rfl (by (with_reducible repeat (first|refine zJ ?_ _|refine zK ?_|refine zL ?_ _));refine blk_put (cs := #[.int .i64 x11_2,.int .i64 x302001_2]) ?_ 1 _ rfl;(with_reducible repeat (first|refine zJ ?_ _|refine zK ?_|refine zL ?_ _));refine blk_put (cs := #[.int .i64 x302000_2,.int .i64 x302001_2]) ?_ 0 _ rfl;(with_reducible repeat (first|refine zJ ?_ _|refine zK ?_|refine zL ?_ _));exact BK301.out) Try.underlying37 rfl (by kernel_rfl)) rfl ?_
        exact ⟨by first|rfl|(simp [errW_none,errW_some] <;> rfl)|(simp [*,errW_none,errW_some] <;> rfl),by repeat (first|(with_reducible first|exact HB.out|apply zD|apply zE|apply zF|refine below_set ?_ GE300.out|refine below_set ?_ GE301.out|refine below_set ?_ GE302.out)|exact HB.out)⟩
       ·replace c12:=Bool.eq_false_iff.mpr c12
        subst c12
        have H1 : (impl_nextBerth.l1 k2 a0 l2 l3 x10_1 (wrap64 (x11_2 + 1)) a1_0 a1_1 a1_2 a1_3) = some (r1,r2,r3):=by rw [if_neg (show ¬ (false = true) by decide)] at H;exact H
        clear H
        have H:=H1
        clear H1
        have H':=zM H
        clear H
        have hnb23:=NB300_301.out
        have hnc23:=NB301_300.out
        have hcz24_0 : wr.cell? ⟨gb300,0,none⟩ = some (.int .i64 a1_0):=(blk_cell BK300.out 0).trans rfl
        have hcz24_1 : wr.cell? ⟨gb300,1,none⟩ = some (.int .i64 a1_1):=(blk_cell BK300.out 1).trans rfl
        have hcz24_2 : wr.cell? ⟨gb300,2,none⟩ = some (.int .i64 a1_2):=(blk_cell BK300.out 2).trans rfl
        have hcz24_3 : wr.cell? ⟨gb300,3,none⟩ = some (.int .i64 a1_3):=(blk_cell BK300.out 3).trans rfl
        have hfz24_0:=blk_frozen BK300.out 0
        have hfz24_1:=blk_frozen BK300.out 1
        have hfz24_2:=blk_frozen BK300.out 2
        have hfz24_3:=blk_frozen BK300.out 3
        go_wp2_with (first|((with_reducible refine gate_dst (N:=12) rfl ?_);refine box_event ?hg (N:=12) ?hd (cs := #[.int .i64 0,.int .i64 0]) (t:=37) ?hr ?_;(case hd=>rfl);(case hg=>rfl);(case hr=>first|(go_simp;done)|(go_simp;rfl));intro gb302 hg w25 hbox hb;have n0_:=zM (blk_below (g:=gb300) (o := .cells #[.int .i64 a1_0,.int .i64 a1_1,.int .i64 a1_2,.int .i64 a1_3] 62 (0,0)) (by (with_reducible repeat (first|refine zJ ?_ _|refine zK ?_|refine zL ?_ _));exact BK300.out) hb);have n1_:=zM (blk_below (g:=gb301) (o := .cells #[.int .i64 x302000_2,.int .i64 x302001_2] 37 (0,0)) (by (with_reducible repeat (first|refine zJ ?_ _|refine zK ?_|refine zL ?_ _));exact BK301.out) hb);have n2_:=zM (zQ (by repeat (first|(with_reducible first|exact HB.out|apply zD|apply zE|apply zF|refine below_set ?_ GE300.out|refine below_set ?_ GE301.out)|exact HB.out)) hb);have n3_:=zM (hbox);have n4_:=zM ((by rw [hg];exact (zR (by repeat (first|(with_reducible first|exact HB.out|apply zD|apply zE|apply zF|refine below_set ?_ GE300.out|refine below_set ?_ GE301.out)|exact HB.out))) : w.heap.size ≤ gb302));have n5_:=zM ((by rw [hg];exact (zR (by repeat (first|(with_reducible first|exact HB.out|apply zD|apply zE|apply zF|refine below_set ?_ GE300.out|refine below_set ?_ GE301.out)|exact HB.out))) : w.heap.size ≤ gb302));have n6_:=zM ((by rw [hg];exact Nat.ne_of_lt (blk_lt (g:=gb300) (o := .cells #[.int .i64 a1_0,.int .i64 a1_1,.int .i64 a1_2,.int .i64 a1_3] 62 (0,0)) (by (with_reducible repeat (first|refine zJ ?_ _|refine zK ?_|refine zL ?_ _));exact BK300.out)) : gb300 ≠ gb302));have n7_:=zM ((by rw [hg];exact Nat.ne_of_gt (blk_lt (g:=gb300) (o := .cells #[.int .i64 a1_0,.int .i64 a1_1,.int .i64 a1_2,.int .i64 a1_3] 62 (0,0)) (by (with_reducible repeat (first|refine zJ ?_ _|refine zK ?_|refine zL ?_ _));exact BK300.out)) : gb302 ≠ gb300));have n8_:=zM ((by rw [hg];exact Nat.ne_of_lt (blk_lt (g:=gb301) (o := .cells #[.int .i64 x302000_2,.int .i64 x302001_2] 37 (0,0)) (by (with_reducible repeat (first|refine zJ ?_ _|refine zK ?_|refine zL ?_ _));exact BK301.out)) : gb301 ≠ gb302));have n9_:=zM ((by rw [hg];exact Nat.ne_of_gt (blk_lt (g:=gb301) (o := .cells #[.int .i64 x302000_2,.int .i64 x302001_2] 37 (0,0)) (by (with_reducible repeat (first|refine zJ ?_ _|refine zK ?_|refine zL ?_ _));exact BK301.out)) : gb302 ≠ gb301));clear BK300;clear BK301;clear HB;have BK300:=n0_;have BK301:=n1_;have HB:=n2_;have BK302:=n3_;have GW302:=n4_;have GE302:=n5_;have NB300_302:=n6_;have NB302_300:=n7_;have NB301_302:=n8_;have NB302_301:=n9_;clear n0_ n1_ n2_ n3_ n4_ n5_ n6_ n7_ n8_ n9_;clear hb hbox hg;have hnb26:=NB302_300.out;have hnc26:=NB300_302.out;have hnb27:=NB302_301.out;have hnc27:=NB301_302.out;have hcz28_0 : w25.cell? ⟨gb302,0,none⟩ = some (.int .i64 0):=(blk_cell BK302.out 0).trans rfl;have hcz28_1 : w25.cell? ⟨gb302,1,none⟩ = some (.int .i64 0):=(blk_cell BK302.out 1).trans rfl;have hfz28_0:=blk_frozen BK302.out 0;have hfz28_1:=blk_frozen BK302.out 1;have hcz29_0 : w25.cell? ⟨gb300,0,none⟩ = some (.int .i64 a1_0):=(blk_cell BK300.out 0).trans rfl;have hcz29_1 : w25.cell? ⟨gb300,1,none⟩ = some (.int .i64 a1_1):=(blk_cell BK300.out 1).trans rfl;have hcz29_2 : w25.cell? ⟨gb300,2,none⟩ = some (.int .i64 a1_2):=(blk_cell BK300.out 2).trans rfl;have hcz29_3 : w25.cell? ⟨gb300,3,none⟩ = some (.int .i64 a1_3):=(blk_cell BK300.out 3).trans rfl;have hfz29_0:=blk_frozen BK300.out 0;have hfz29_1:=blk_frozen BK300.out 1;have hfz29_2:=blk_frozen BK300.out 2;have hfz29_3:=blk_frozen BK300.out 3)|((with_reducible refine gate_callee (f:=53) rfl ?_);refine goesL_ (some 35) rfl rfl Try.func53 (by kernel_rfl) rfl #[.int .i64 a0,.agg #[.int .i64 a1_0,.int .i64 a1_1,.int .i64 a1_2,.int .i64 a1_3],.agg #[.int .i64 x11_2,.int .i64 x10_1],.slice A2 l2.length c2,.slice A3 l3.length c3] rfl (by (try simp only [List.map_toArray,List.map_cons,List.map_nil]);first|done|rfl|(simp only [List.length_drop,List.length_take];rfl)) ?_;(with_reducible refine (impl_fits.calls k2 a0 a1_0 a1_1 a1_2 a1_3 x11_2 x10_1 _ _ l2 _ _ l3 false _ ?side1 ?side2 ?side3 ?side4 A11.out).mono ?_);(case side1=>exact zO HR2.out (by repeat (first|(with_reducible first|exact HB.out|apply zD|apply zE|apply zF|refine below_set ?_ GE300.out|refine below_set ?_ GE301.out|refine below_set ?_ GE302.out)|exact HB.out)));(case side2=>exact HC2.out);(case side3=>exact zO HR3.out (by repeat (first|(with_reducible first|exact HB.out|apply zD|apply zE|apply zF|refine below_set ?_ GE300.out|refine below_set ?_ GE301.out|refine below_set ?_ GE302.out)|exact HB.out)));(case side4=>exact HC3.out);rintro e w30 ⟨rfl,hb⟩;refine ⟨_,rfl,?_⟩;have n0_:=zM (blk_below (g:=gb300) (o := .cells #[.int .i64 a1_0,.int .i64 a1_1,.int .i64 a1_2,.int .i64 a1_3] 62 (0,0)) (by (with_reducible repeat (first|refine zJ ?_ _|refine zK ?_|refine zL ?_ _));refine blk_far ?_ NB300_302.out _;(with_reducible repeat (first|refine zJ ?_ _|refine zK ?_|refine zL ?_ _));refine blk_far ?_ NB300_302.out _;(with_reducible repeat (first|refine zJ ?_ _|refine zK ?_|refine zL ?_ _));exact BK300.out) hb);have n1_:=zM (blk_below (g:=gb301) (o := .cells #[.int .i64 x302000_2,.int .i64 x302001_2] 37 (0,0)) (by (with_reducible repeat (first|refine zJ ?_ _|refine zK ?_|refine zL ?_ _));refine blk_far ?_ NB301_302.out _;(with_reducible repeat (first|refine zJ ?_ _|refine zK ?_|refine zL ?_ _));refine blk_far ?_ NB301_302.out _;(with_reducible repeat (first|refine zJ ?_ _|refine zK ?_|refine zL ?_ _));exact BK301.out) hb);have n2_:=zM (blk_below (g:=gb302) (o := .cells #[.int .i64 x11_2,.int .i64 x10_1] 37 (0,0)) (by (with_reducible repeat (first|refine zJ ?_ _|refine zK ?_|refine zL ?_ _));refine blk_put (cs := #[.int .i64 x11_2,.int .i64 0]) ?_ 1 _ rfl;(with_reducible repeat (first|refine zJ ?_ _|refine zK ?_|refine zL ?_ _));refine blk_put (cs := #[.int .i64 0,.int .i64 0]) ?_ 0 _ rfl;(with_reducible repeat (first|refine zJ ?_ _|refine zK ?_|refine zL ?_ _));exact BK302.out) hb);have n3_:=zM (zQ (by repeat (first|(with_reducible first|exact HB.out|apply zD|apply zE|apply zF|refine below_set ?_ GE300.out|refine below_set ?_ GE301.out|refine below_set ?_ GE302.out)|exact HB.out)) hb);clear BK300;clear BK301;clear BK302;clear HB;have BK300:=n0_;have BK301:=n1_;have BK302:=n2_;have HB:=n3_;clear n0_ n1_ n2_ n3_;(try clear hb);(try clear hb2);(try clear hk);(try clear hi)))
        go_roundg k2
        case measure=>have:=HK1.out;have:=HK2.out;omega
        case rel=>exact ⟨(wrap64 (x11_2 + 1)),(x302000_2),(x302001_2),(by first|rfl|(simp;done)|(simp [*];done)),H',⟨by have:=HK1.out;have:=HK2.out;omega⟩,⟨by (with_reducible repeat (first|refine zJ ?_ _|refine zK ?_|refine zL ?_ _));exact BK300.out⟩,⟨by (with_reducible repeat (first|refine zJ ?_ _|refine zK ?_|refine zL ?_ _));exact BK301.out⟩,⟨by repeat (first|(with_reducible first|exact HB.out|apply zD|apply zE|apply zF|refine below_set ?_ GE300.out|refine below_set ?_ GE301.out|refine below_set ?_ GE302.out)|exact HB.out)⟩⟩
      ·rw [if_neg c10] at H
       have c10b0 : decide (x11_2 ≤ (wrap64 (a0 - a1_0))) = false:=decide_eq_false c10
       clear c10
       have H':=zM H
       clear H
       have hnb31:=NB300_301.out
       have hnc31:=NB301_300.out
       have hcz32_0 : wr.cell? ⟨gb300,0,none⟩ = some (.int .i64 a1_0):=(blk_cell BK300.out 0).trans rfl
       have hcz32_1 : wr.cell? ⟨gb300,1,none⟩ = some (.int .i64 a1_1):=(blk_cell BK300.out 1).trans rfl
       have hcz32_2 : wr.cell? ⟨gb300,2,none⟩ = some (.int .i64 a1_2):=(blk_cell BK300.out 2).trans rfl
       have hcz32_3 : wr.cell? ⟨gb300,3,none⟩ = some (.int .i64 a1_3):=(blk_cell BK300.out 3).trans rfl
       have hfz32_0:=blk_frozen BK300.out 0
       have hfz32_1:=blk_frozen BK300.out 1
       have hfz32_2:=blk_frozen BK300.out 2
       have hfz32_3:=blk_frozen BK300.out 3
       go_wp2
       go_roundg k2
       case measure=>have:=HK1.out;have:=HK2.out;omega
       case rel=>exact ⟨(wrap64 (x10_1 + 1)),(x302000_2),(x302001_2),(by first|rfl|(simp;done)|(simp [*];done)),H',⟨by have:=HK1.out;have:=HK2.out;omega⟩,⟨by (with_reducible repeat (first|refine zJ ?_ _|refine zK ?_|refine zL ?_ _));exact BK300.out⟩,⟨by (with_reducible repeat (first|refine zJ ?_ _|refine zK ?_|refine zL ?_ _));exact BK301.out⟩,⟨by repeat (first|(with_reducible first|exact HB.out|apply zD|apply zE|apply zF|refine below_set ?_ GE300.out|refine below_set ?_ GE301.out)|exact HB.out)⟩⟩
   ·rw [if_neg c9] at H
    have c9b0 : decide (x10_1 ≤ 1000) = false:=decide_eq_false c9
    clear c9
    simp only [Option.some.injEq,Prod.mk.injEq] at H
    obtain ⟨rfl,rfl,rfl⟩:=H
    have hnb33:=NB301_300.out
    have hnc33:=NB300_301.out
    have hcz34_0 : wr.cell? ⟨gb301,0,none⟩ = some (.int .i64 x302000_1):=(blk_cell BK301.out 0).trans rfl
    have hcz34_1 : wr.cell? ⟨gb301,1,none⟩ = some (.int .i64 x302001_1):=(blk_cell BK301.out 1).trans rfl
    have hfz34_0:=blk_frozen BK301.out 0
    have hfz34_1:=blk_frozen BK301.out 1
    go_wp2
    refine bodyPost_ret (results_ct rfl _ _ gb301 37 #[.int .i64 0,.int .i64 0] (0,0) _ rfl (by (with_reducible repeat (first|refine zJ ?_ _|refine zK ?_|refine zL ?_ _));refine blk_put (cs := #[.int .i64 0,.int .i64 x302001_1]) ?_ 1 _ rfl;(with_reducible repeat (first|refine zJ ?_ _|refine zK ?_|refine zL ?_ _));refine blk_put (cs := #[.int .i64 x302000_1,.int .i64 x302001_1]) ?_ 0 _ rfl;(with_reducible repeat (first|refine zJ ?_ _|refine zK ?_|refine zL ?_ _));exact BK301.out) Try.underlying37 rfl (by kernel_rfl)) rfl ?_
    exact ⟨by first|rfl|(simp [errW_none,errW_some] <;> rfl)|(simp [*,errW_none,errW_some] <;> rfl),by repeat (first|(with_reducible first|exact HB.out|apply zD|apply zE|apply zF|refine below_set ?_ GE300.out|refine below_set ?_ GE301.out)|exact HB.out)⟩

end Go.Proofs.Ytcciljjnpfgaeaa.G

-- Written by wip/tools/gen.py out of the translation (the kit's printer, one namespace a seat). Lean checks it.
namespace Go.Proofs.Ytcciljjnpfgaeaa.G
open Go.RowKit Go.Proofs.YtcciljjnpfgaeaaW.PrintWords Go.Proofs.YtcciljjnpfgaeaaW.PrintLast Go.Proofs.YtcciljjnpfgaeaaW.PrintMore
attribute [local go_sem] max2_int min2_int max_two min_two max_three min_three max_four min_four   -- for this text's walks alone
set_option linter.unusedVariables false
set_option linter.unusedSimpArgs false

/-! ### impl_NextBerth: function 26 -/
def impl_NextBerth.f (k : Nat) (a0 : Int) (l1 : List (S62)) (l2 : List (S37)) : Option (Int × Int × Bool):=(impl_areShips.f a0 l1).bind fun t305=>(if t305 = true then (if (l2.length : Int) ≥ (l1.length : Int) then (some (0,0,false)) else (if 0 ≤ (l2.length : Int) then (if (l2.length : Int) ≤ (l1.length : Int) then ((impl_IsPossiblePlan.f k a0 (l1.take ((l2.length : Int) : Int).toNat) l2).bind fun t310=>(if t310 = true then (if (l2.length : Int) < (l1.length : Int) then ((impl_nextBerth.f k a0 ((rd_T62 l1 (l2.length : Int)).f0) ((rd_T62 l1 (l2.length : Int)).f1) ((rd_T62 l1 (l2.length : Int)).f2) ((rd_T62 l1 (l2.length : Int)).f3) (l1.take ((l2.length : Int) : Int).toNat) l2).bind fun bt316=>(some (bt316.1,bt316.2.1,bt316.2.2))) else (none)) else (some (0,0,false)))) else (none)) else (none))) else (some (0,0,false)))
def impl_NextBerth.T4 : Bool × List (List Nat × List Nat):=(true,[([],[]),([],[]),([],[]),([1,2],[1,2]),([3],[3]),([],[]),([],[]),([5,6],[5,6]),([],[]),([0,4,7,8],[0,4,7,8]),([9],[9]),([9],[9]),([10,9,0,1,2,3,4,5,6,7,8,9,10,11],[10]),([11,12,0,1,2,3,4,5,6,7,8,9,10,11,12],[11])])
def impl_NextBerth.B4 : List Nat:=[0,0,0,6,14,0,0,96,0,511,1023,1023,4095,8191]
theorem impl_NextBerth.tab4 : rtab .any (opsOf Try.f26 4) = impl_NextBerth.T4:=by kernel_rfl
theorem impl_NextBerth.bits4 : waitsOk impl_NextBerth.T4.2 impl_NextBerth.B4 = true:=by kernel_rfl
set_option maxHeartbeats 8000000 in
set_option maxRecDepth 100000 in
theorem impl_NextBerth.calls (k : Nat) (a0 : Int) (A1 : Option Addr) (c1 : Nat) (l1 : List (S62)) (A2 : Option Addr) (c2 : Nat) (l2 : List (S37)) (r1 : Int) (r2 : Int) (r3 : Bool) (w : World) (hr1 : Kd.C k62 w A1 l1.length l1) (hc1 : l1.length ≤ c1) (hr2 : Kd.C k37 w A2 l2.length l2) (hc2 : l2.length ≤ c2) (h : impl_NextBerth.f k a0 l1 l2 = some (r1,r2,r3)) :
  Calls Try.prog 26 #[.int .i64 a0,.slice A1 l1.length c1,.slice A2 l2.length c2] w fun e w'=>e = .returned (.tuple #[.agg #[.int .i64 r1,.int .i64 r2],.bool r3]) ∧ Below w.heap.size w w':=by
 have hu37:=Try.underlying37
 have hu62:=Try.underlying62
 have HR1:=zM hr1
 have HC1:=zM hc1
 clear hr1 hc1
 have HR2:=zM hr2
 have HC2:=zM hc2
 clear hr2 hc2
 have HB:=zM (Below.refl w.heap.size w)
 have H : ((impl_areShips.f a0 l1).bind fun t305=>(if t305 = true then (if (l2.length : Int) ≥ (l1.length : Int) then (some (0,0,false)) else (if 0 ≤ (l2.length : Int) then (if (l2.length : Int) ≤ (l1.length : Int) then ((impl_IsPossiblePlan.f k a0 (l1.take ((l2.length : Int) : Int).toNat) l2).bind fun t310=>(if t310 = true then (if (l2.length : Int) < (l1.length : Int) then ((impl_nextBerth.f k a0 ((rd_T62 l1 (l2.length : Int)).f0) ((rd_T62 l1 (l2.length : Int)).f1) ((rd_T62 l1 (l2.length : Int)).f2) ((rd_T62 l1 (l2.length : Int)).f3) (l1.take ((l2.length : Int) : Int).toNat) l2).bind fun bt316=>(some (bt316.1,bt316.2.1,bt316.2.2))) else (none)) else (some (0,0,false)))) else (none)) else (none))) else (some (0,0,false)))) = some (r1,r2,r3):=h
 clear h
 replace H:=Option.bind_eq_some_iff.mp H
 obtain ⟨t305,A40,H⟩:=H
 replace H : (if t305 = true then (if (l2.length : Int) ≥ (l1.length : Int) then (some (0,0,false)) else (if 0 ≤ (l2.length : Int) then (if (l2.length : Int) ≤ (l1.length : Int) then ((impl_IsPossiblePlan.f k a0 (l1.take ((l2.length : Int) : Int).toNat) l2).bind fun t310=>(if t310 = true then (if (l2.length : Int) < (l1.length : Int) then ((impl_nextBerth.f k a0 ((rd_T62 l1 (l2.length : Int)).f0) ((rd_T62 l1 (l2.length : Int)).f1) ((rd_T62 l1 (l2.length : Int)).f2) ((rd_T62 l1 (l2.length : Int)).f3) (l1.take ((l2.length : Int) : Int).toNat) l2).bind fun bt316=>(some (bt316.1,bt316.2.1,bt316.2.2))) else (none)) else (some (0,0,false)))) else (none)) else (none))) else (some (0,0,false))) = some (r1,r2,r3):=H
 have A4:=zM A40
 clear A40
 by_cases c5 : t305 = true
 ·subst c5
  have H1 : (if (l2.length : Int) ≥ (l1.length : Int) then (some (0,0,false)) else (if 0 ≤ (l2.length : Int) then (if (l2.length : Int) ≤ (l1.length : Int) then ((impl_IsPossiblePlan.f k a0 (l1.take ((l2.length : Int) : Int).toNat) l2).bind fun t310=>(if t310 = true then (if (l2.length : Int) < (l1.length : Int) then ((impl_nextBerth.f k a0 ((rd_T62 l1 (l2.length : Int)).f0) ((rd_T62 l1 (l2.length : Int)).f1) ((rd_T62 l1 (l2.length : Int)).f2) ((rd_T62 l1 (l2.length : Int)).f3) (l1.take ((l2.length : Int) : Int).toNat) l2).bind fun bt316=>(some (bt316.1,bt316.2.1,bt316.2.2))) else (none)) else (some (0,0,false)))) else (none)) else (none))) = some (r1,r2,r3):=by rw [if_pos rfl] at H;exact H
  clear H
  have H:=H1
  clear H1
  by_cases c6 : (l2.length : Int) ≥ (l1.length : Int)
  ·rw [if_pos c6] at H
   have c6b0 : decide ((l1.length : Int) ≤ (l2.length : Int)) = true:=decide_eq_true c6
   have c6b1 : decide (l1.length ≤ l2.length) = true:=decide_eq_true (Int.ofNat_le.mp c6)
   clear c6
   simp only [Option.some.injEq,Prod.mk.injEq] at H
   obtain ⟨rfl,rfl,rfl⟩:=H
   go_enter Try.func26,Try.ntmps26
   go_wp2_with (first|((with_reducible refine gate_dst (N:=6) rfl ?_);(try (refine gate_guard (by rfl) ?_;dsimp only));refine box_event ?hg (N:=6) ?hd (cs := #[.int .i64 0,.int .i64 0]) (t:=37) ?hr ?_;(case hd=>rfl);(case hg=>rfl);(case hr=>first|(go_simp;done)|(go_simp;rfl));intro gb304 hg w7 hbox hb;have n0_:=zM (zQ (by repeat (first|(with_reducible first|exact HB.out|apply zD|apply zE|apply zF)|exact HB.out)) hb);have n1_:=zM (hbox);have n2_:=zM ((by rw [hg];exact (zR (by repeat (first|(with_reducible first|exact HB.out|apply zD|apply zE|apply zF)|exact HB.out))) : w.heap.size ≤ gb304));have n3_:=zM ((by rw [hg];exact (zR (by repeat (first|(with_reducible first|exact HB.out|apply zD|apply zE|apply zF)|exact HB.out))) : w.heap.size ≤ gb304));clear HB;have HB:=n0_;have BK304:=n1_;have GW304:=n2_;have GE304:=n3_;clear n0_ n1_ n2_ n3_;clear hb hbox hg)|((with_reducible refine gate_callee (f:=52) rfl ?_);refine goesL_ (some 13) rfl rfl Try.func52 (by kernel_rfl) rfl #[.int .i64 a0,.slice A1 l1.length c1] rfl (by (try simp only [List.map_toArray,List.map_cons,List.map_nil]);first|done|rfl|(simp only [List.length_drop,List.length_take];rfl)) ?_;(with_reducible refine (impl_areShips.calls a0 _ _ l1 true _ ?side1 ?side2 A4.out).mono ?_);(case side1=>repeat (first|exact (zO HR1.out HB.out)|(with_reducible refine zG ?_ _)|(with_reducible refine zH ?_ _)|(with_reducible refine zI ?_)));(case side2=>exact HC1.out);rintro e w8 ⟨rfl,hb⟩;refine ⟨_,rfl,?_⟩;have n0_:=zM (blk_below (g:=gb304) (o := .cells #[.int .i64 0,.int .i64 0] 37 (0,0)) (by (with_reducible repeat (first|refine zJ ?_ _|refine zK ?_|refine zL ?_ _));exact BK304.out) hb);have n1_:=zM (zQ (by repeat (first|(with_reducible first|exact HB.out|apply zD|apply zE|apply zF|refine below_set ?_ GE304.out)|exact HB.out)) hb);clear BK304;clear HB;have BK304:=n0_;have HB:=n1_;clear n0_ n1_;(try clear hb);(try clear hb2);(try clear hk);(try clear hi);have hcz9_0 : w8.cell? ⟨gb304,0,none⟩ = some (.int .i64 0):=(blk_cell BK304.out 0).trans rfl;have hcz9_1 : w8.cell? ⟨gb304,1,none⟩ = some (.int .i64 0):=(blk_cell BK304.out 1).trans rfl;have hfz9_0:=blk_frozen BK304.out 0;have hfz9_1:=blk_frozen BK304.out 1))
   refine bodyPost_ret (results_ct rfl _ _ gb304 37 #[.int .i64 0,.int .i64 0] (0,0) _ rfl (by (with_reducible repeat (first|refine zJ ?_ _|refine zK ?_|refine zL ?_ _));refine blk_put (cs := #[.int .i64 0,.int .i64 0]) ?_ 1 _ rfl;(with_reducible repeat (first|refine zJ ?_ _|refine zK ?_|refine zL ?_ _));refine blk_put (cs := #[.int .i64 0,.int .i64 0]) ?_ 0 _ rfl;(with_reducible repeat (first|refine zJ ?_ _|refine zK ?_|refine zL ?_ _));exact BK304.out) Try.underlying37 rfl (by kernel_rfl)) rfl ?_
   exact ⟨by first|rfl|(simp [errW_none,errW_some] <;> rfl)|(simp [*,errW_none,errW_some] <;> rfl),by repeat (first|(with_reducible first|exact HB.out|apply zD|apply zE|apply zF|refine below_set ?_ GE304.out)|exact HB.out)⟩
  ·rw [if_neg c6] at H
   have c6b0 : decide ((l1.length : Int) ≤ (l2.length : Int)) = false:=decide_eq_false c6
   have c6b1 : decide (l1.length ≤ l2.length) = false:=decide_eq_false (fun h=>c6 (Int.ofNat_le.mpr h))
   clear c6
   by_cases c10 : 0 ≤ (l2.length : Int)
   ·rw [if_pos c10] at H
    have c10b0:=eq_true c10
    have c10b1 : decide (0 ≤ (l2.length : Int)) = true:=decide_eq_true c10
    clear c10
    by_cases c11 : (l2.length : Int) ≤ (l1.length : Int)
    ·rw [if_pos c11] at H
     have c11b0:=eq_true c11
     have c11b1 : decide ((l2.length : Int) ≤ (l1.length : Int)) = true:=decide_eq_true c11
     clear c11
     obtain ⟨y306,hy306⟩ : ∃ y_ : List (S62),y_ = (l1.take ((l2.length : Int) : Int).toNat):=⟨_,rfl⟩
     replace H : ((impl_IsPossiblePlan.f k a0 y306 l2).bind fun t310=>(if t310 = true then (if (l2.length : Int) < (l1.length : Int) then ((impl_nextBerth.f k a0 ((rd_T62 l1 (l2.length : Int)).f0) ((rd_T62 l1 (l2.length : Int)).f1) ((rd_T62 l1 (l2.length : Int)).f2) ((rd_T62 l1 (l2.length : Int)).f3) (l1.take ((l2.length : Int) : Int).toNat) l2).bind fun bt316=>(some (bt316.1,bt316.2.1,bt316.2.2))) else (none)) else (some (0,0,false)))) = some (r1,r2,r3):=by first|(rw [hy306];with_reducible exact H)|(have H2_:=(Option.bind_some _ _).symm.trans H;rw [hy306];with_reducible exact H2_)|(have H2_:=(Option.bind_some _ _).symm.trans H;with_reducible exact H2_)|with_reducible exact H|(rw [hy306];exact H)|exact H
     have Ny306:=zM hy306
     clear hy306
     replace H:=Option.bind_eq_some_iff.mp H
     obtain ⟨t310,A120,H⟩:=H
     replace H : (if t310 = true then (if (l2.length : Int) < (l1.length : Int) then ((impl_nextBerth.f k a0 ((rd_T62 l1 (l2.length : Int)).f0) ((rd_T62 l1 (l2.length : Int)).f1) ((rd_T62 l1 (l2.length : Int)).f2) ((rd_T62 l1 (l2.length : Int)).f3) (l1.take ((l2.length : Int) : Int).toNat) l2).bind fun bt316=>(some (bt316.1,bt316.2.1,bt316.2.2))) else (none)) else (some (0,0,false))) = some (r1,r2,r3):=H
     have A12:=zM A120
     clear A120
     by_cases c13 : t310 = true
     ·subst c13
      have H1 : (if (l2.length : Int) < (l1.length : Int) then ((impl_nextBerth.f k a0 ((rd_T62 l1 (l2.length : Int)).f0) ((rd_T62 l1 (l2.length : Int)).f1) ((rd_T62 l1 (l2.length : Int)).f2) ((rd_T62 l1 (l2.length : Int)).f3) (l1.take ((l2.length : Int) : Int).toNat) l2).bind fun bt316=>(some (bt316.1,bt316.2.1,bt316.2.2))) else (none)) = some (r1,r2,r3):=by rw [if_pos rfl] at H;exact H
      clear H
      have H:=H1
      clear H1
      by_cases c14 : (l2.length : Int) < (l1.length : Int)
      ·rw [if_pos c14] at H
       have c14b0 : decide ((l2.length : Int) < (l1.length : Int)) = true:=decide_eq_true c14
       have c14b1 : decide (l2.length < l1.length) = true:=decide_eq_true (Int.ofNat_lt.mp c14)
       clear c14
       have c15b0:=eq_true (of_decide_eq_true (by first|(with_reducible assumption)|assumption) : 0 ≤ (l2.length : Int))
       have c16b0:=eq_true (of_decide_eq_true (by first|(with_reducible assumption)|assumption) : (l2.length : Int) ≤ (l1.length : Int))
       obtain ⟨y312,hy312⟩ : ∃ y_ : List (S62),y_ = (l1.take ((l2.length : Int) : Int).toNat):=⟨_,rfl⟩
       replace H : ((impl_nextBerth.f k a0 ((rd_T62 l1 (l2.length : Int)).f0) ((rd_T62 l1 (l2.length : Int)).f1) ((rd_T62 l1 (l2.length : Int)).f2) ((rd_T62 l1 (l2.length : Int)).f3) y312 l2).bind fun bt316=>(some (bt316.1,bt316.2.1,bt316.2.2))) = some (r1,r2,r3):=by first|(rw [hy312];with_reducible exact H)|(have H2_:=(Option.bind_some _ _).symm.trans H;rw [hy312];with_reducible exact H2_)|(have H2_:=(Option.bind_some _ _).symm.trans H;with_reducible exact H2_)|with_reducible exact H|(rw [hy312];exact H)|exact H
       have Ny312:=zM hy312
       clear hy312
       replace H:=Option.bind_eq_some_iff.mp H
       obtain ⟨⟨t316,t317,t318⟩,A170,H⟩:=H
       replace H : (some (t316,t317,t318)) = some (r1,r2,r3):=H
       have A17:=zM A170
       clear A170
       simp only [Option.some.injEq,Prod.mk.injEq] at H
       obtain ⟨rfl,rfl,rfl⟩:=H
       go_enter Try.func26,Try.ntmps26
       try go_wp2_with (first|((with_reducible refine gate_dst (N:=6) rfl ?_);(try (refine gate_guard (by rfl) ?_;dsimp only));refine box_event ?hg (N:=6) ?hd (cs := #[.int .i64 0,.int .i64 0]) (t:=37) ?hr ?_;(case hd=>rfl);(case hg=>rfl);(case hr=>first|(go_simp;done)|(go_simp;rfl));intro gb304 hg w18 hbox hb;have n0_:=zM (zQ (by repeat (first|(with_reducible first|exact HB.out|apply zD|apply zE|apply zF)|exact HB.out)) hb);have n1_:=zM (hbox);have n2_:=zM ((by rw [hg];exact (zR (by repeat (first|(with_reducible first|exact HB.out|apply zD|apply zE|apply zF)|exact HB.out))) : w.heap.size ≤ gb304));have n3_:=zM ((by rw [hg];exact (zR (by repeat (first|(with_reducible first|exact HB.out|apply zD|apply zE|apply zF)|exact HB.out))) : w.heap.size ≤ gb304));clear HB;have HB:=n0_;have BK304:=n1_;have GW304:=n2_;have GE304:=n3_;clear n0_ n1_ n2_ n3_;clear hb hbox hg)|((with_reducible refine gate_callee (f:=52) rfl ?_);refine goesL_ (some 13) rfl rfl Try.func52 (by kernel_rfl) rfl #[.int .i64 a0,.slice A1 l1.length c1] rfl (by (try simp only [List.map_toArray,List.map_cons,List.map_nil]);first|done|rfl|(simp only [List.length_drop,List.length_take];rfl)) ?_;(with_reducible refine (impl_areShips.calls a0 _ _ l1 true _ ?side1 ?side2 A4.out).mono ?_);(case side1=>repeat (first|exact (zO HR1.out HB.out)|(with_reducible refine zG ?_ _)|(with_reducible refine zH ?_ _)|(with_reducible refine zI ?_)));(case side2=>exact HC1.out);rintro e w19 ⟨rfl,hb⟩;refine ⟨_,rfl,?_⟩;have n0_:=zM (blk_below (g:=gb304) (o := .cells #[.int .i64 0,.int .i64 0] 37 (0,0)) (by (with_reducible repeat (first|refine zJ ?_ _|refine zK ?_|refine zL ?_ _));exact BK304.out) hb);have n1_:=zM (zQ (by repeat (first|(with_reducible first|exact HB.out|apply zD|apply zE|apply zF|refine below_set ?_ GE304.out)|exact HB.out)) hb);clear BK304;clear HB;have BK304:=n0_;have HB:=n1_;clear n0_ n1_;(try clear hb);(try clear hb2);(try clear hk);(try clear hi);have q20 : ((l2.length : Int) : Int) ≤ ((l1.length : Int) : Int):=of_decide_eq_true (by first|(with_reducible assumption)|assumption);obtain ⟨i020,hi020,_,hsz20,_⟩:=info_parts info62;have hroom20 : l1.length ≤ c1:=HC1.out;have hC20 : Kd.C k62 _ A1 l1.length l1:=HR1.out;have hcut20:=cut_to (P:=Try.prog) 27 62 .i64 Try.underlying27 hi020 A1 l1.length c1 (l2.length : Int) (of_decide_eq_true (by first|(with_reducible assumption)|assumption)) q20 hroom20;have hr20:=Kd.C_take (m:=((l2.length : Int) : Int).toNat) hC20 (by omega);have hy20 : y306.length = ((l2.length : Int) : Int).toNat:=(by rw [Ny306.out,List.length_take];omega);rw [← Ny306.out] at hr20;rw [← hy20] at hcut20;have HR309:=zM hr20;have HC309:=zM (show y306.length ≤ c1 from by omega);clear hr20 hC20 hroom20 hi020 hsz20;have KY20:=zM hy20;clear hy20;replace q20:=eq_true q20)|(go_at_call 18;(with_reducible refine (impl_IsPossiblePlan.calls k a0 _ _ y306 _ _ l2 true _ ?side1 ?side2 ?side3 ?side4 A12.out).mono ?_);(case side1=>repeat (first|exact (zO HR309.out HB.out)|(with_reducible refine zG ?_ _)|(with_reducible refine zH ?_ _)|(with_reducible refine zI ?_)));(case side2=>exact HC309.out);(case side3=>repeat (first|exact (zO HR2.out HB.out)|(with_reducible refine zG ?_ _)|(with_reducible refine zH ?_ _)|(with_reducible refine zI ?_)));(case side4=>exact HC2.out);rintro e w21 ⟨rfl,hb⟩;have n0_:=zM (blk_below (g:=gb304) (o := .cells #[.int .i64 0,.int .i64 0] 37 (0,0)) (by (with_reducible repeat (first|refine zJ ?_ _|refine zK ?_|refine zL ?_ _));exact BK304.out) hb);have n1_:=zM (zQ (by repeat (first|(with_reducible first|exact HB.out|apply zD|apply zE|apply zF|refine below_set ?_ GE304.out)|exact HB.out)) hb);clear BK304;clear HB;have BK304:=n0_;have HB:=n1_;clear n0_ n1_;(try clear hb);(try clear hb2);(try clear hk);(try clear hi)))
       have n0_:=zM (zK BK304.out)
       have n1_:=zM (zF HB.out)
       clear BK304
       clear HB
       have BK304:=n0_
       have HB:=n1_
       clear n0_ n1_
       have p311 : 0 ≤ ((l2.length : Int) : Int):=of_decide_eq_true (by first|(with_reducible assumption)|assumption)
       have q311 : (l2.length : Int) < (l1.length : Int):=of_decide_eq_true (by first|(with_reducible assumption)|assumption)
       obtain ⟨ad311,e311,hx311_0,hx311_1,hx311_2,hx311_3⟩:=at_T62 HR1.out (l2.length : Int) p311 q311;(try simp only [Int.toNat_natCast] at hx311_0 hx311_1 hx311_2 hx311_3)
       have hw311_3:=hx311_3
       have hw311_2:=hx311_2
       have hw311_1:=hx311_1
       have hw311_0:=hx311_0
       cases e311
       replace hx311_0:=(HB.out.cell (World.block_lt_of_cell? w _ hx311_0)).trans hx311_0
       replace hx311_1:=(HB.out.cell (World.block_lt_of_cell? w _ hx311_1)).trans hx311_1
       replace hx311_2:=(HB.out.cell (World.block_lt_of_cell? w _ hx311_2)).trans hx311_2
       replace hx311_3:=(HB.out.cell (World.block_lt_of_cell? w _ hx311_3)).trans hx311_3
       (try simp only [Go.IntWalk.toNatUp] at hx311_0)
       (try simp only [Go.IntWalk.toNatUp] at hx311_1)
       (try simp only [Go.IntWalk.toNatUp] at hx311_2)
       (try simp only [Go.IntWalk.toNatUp] at hx311_3)
       replace p311:=eq_true p311
       replace q311:=eq_true q311
       have q23 : ((l2.length : Int) : Int) ≤ ((l1.length : Int) : Int):=of_decide_eq_true (by first|(with_reducible assumption)|assumption)
       obtain ⟨i023,hi023,_,hsz23,_⟩:=info_parts info62
       have hroom23 : l1.length ≤ c1:=HC1.out
       have hC23 : Kd.C k62 _ (some ad311) l1.length l1:=HR1.out
       have hcut23:=cut_to (P:=Try.prog) 27 62 .i64 Try.underlying27 hi023 (some ad311) l1.length c1 (l2.length : Int) (of_decide_eq_true (by first|(with_reducible assumption)|assumption)) q23 hroom23
       have hr23:=Kd.C_take (m:=((l2.length : Int) : Int).toNat) hC23 (by omega)
       have hy23 : y312.length = ((l2.length : Int) : Int).toNat:=(by rw [Ny312.out,List.length_take];omega)
       rw [← Ny312.out] at hr23
       rw [← hy23] at hcut23
       have HR315:=zM hr23
       have HC315:=zM (show y312.length ≤ c1 from by omega)
       clear hr23 hC23 hroom23 hi023 hsz23
       have KY23:=zM hy23
       clear hy23
       replace q23:=eq_true q23
       refine start_ (n:=14) (S:=fun w'=>w'.cell? (ad311.add (((l2.length : Int)).toNat * 4)) = some (.int .i64 ((rd_T62 l1 (l2.length : Int)).f0)) ∧ w'.cell? ⟨(ad311.add (((l2.length : Int)).toNat * 4)).block,(ad311.add (((l2.length : Int)).toNat * 4)).off + 1,none⟩ = some (.int .i64 ((rd_T62 l1 (l2.length : Int)).f1)) ∧ w'.cell? ⟨(ad311.add (((l2.length : Int)).toNat * 4)).block,(ad311.add (((l2.length : Int)).toNat * 4)).off + 2,none⟩ = some (.int .i64 ((rd_T62 l1 (l2.length : Int)).f2)) ∧ w'.cell? ⟨(ad311.add (((l2.length : Int)).toNat * 4)).block,(ad311.add (((l2.length : Int)).toNat * 4)).off + 3,none⟩ = some (.int .i64 ((rd_T62 l1 (l2.length : Int)).f3))) (ds:=[]) #[false,false,false,false,false,false,false,false,false,false,false,false,false,false] (by kernel_rfl) rfl rfl ⟨((HB.out.cell (World.block_lt_of_cell? w _ hw311_0)).trans hw311_0),((HB.out.cell (World.block_lt_of_cell? w _ hw311_1)).trans hw311_1),((HB.out.cell (World.block_lt_of_cell? w _ hw311_2)).trans hw311_2),((HB.out.cell (World.block_lt_of_cell? w _ hw311_3)).trans hw311_3)⟩ (fun hHeld=>?_);refine with_tabW impl_NextBerth.tab4 impl_NextBerth.bits4 (fun HT_ HW_=>?_)
       generalize w21.drew = w22 at BK304 HB HR315 hx311_0 hx311_1 hx311_2 hx311_3 hHeld ⊢
       refine pure_ (i:=0) (N:=some 31) (v:=?_) (a':=?_) #[true,false,false,false,false,false,false,false,false,false,false,false,false,false] rfl rfl (any_of HT_.out (by kernel_rfl)) (fun _ _ _ h=>h) (Or.inl ⟨by rfl,?_⟩) ?_ ?_
       rotate_left
       ·intro w'
        go_simp
        with_reducible rfl
       rotate_left
       ·simp only [Act.put,List.setIfInBounds_toArray,List.set_cons_zero,List.set_cons_succ,i64_w,i32_w]
        rfl
       refine pure_ (i:=1) (N:=some 32) (v:=?_) (a':=?_) #[true,true,false,false,false,false,false,false,false,false,false,false,false,false] rfl rfl (any_of HT_.out (by kernel_rfl)) (fun _ _ _ h=>h) (Or.inl ⟨by rfl,?_⟩) ?_ ?_
       rotate_left
       ·intro w'
        go_simp
        with_reducible rfl
       rotate_left
       ·simp only [Act.put,List.setIfInBounds_toArray,List.set_cons_zero,List.set_cons_succ,i64_w,i32_w]
        rfl
       refine pure_ (i:=2) (N:=some 33) (v:=?_) (a':=?_) #[true,true,true,false,false,false,false,false,false,false,false,false,false,false] rfl rfl (any_of HT_.out (by kernel_rfl)) (fun _ _ _ h=>h) (Or.inl ⟨by rfl,?_⟩) ?_ ?_
       rotate_left
       ·intro w'
        go_simp
        with_reducible rfl
       rotate_left
       ·simp only [Act.put,List.setIfInBounds_toArray,List.set_cons_zero,List.set_cons_succ,i64_w,i32_w]
        rfl
       refine pure_ (i:=3) (N:=some 34) (v:=?_) (a':=?_) #[true,true,true,true,false,false,false,false,false,false,false,false,false,false] rfl rfl (any_of HT_.out (by kernel_rfl)) (fun _ _ _ h=>h) (Or.inl ⟨by rfl,?_⟩) ?_ ?_
       rotate_left
       ·intro w'
        go_simp
        with_reducible rfl
       rotate_left
       ·simp only [Act.put,List.setIfInBounds_toArray,List.set_cons_zero,List.set_cons_succ,i64_w,i32_w]
        rfl
       refine pure_ (i:=5) (N:=some 36) (v:=?_) (a':=?_) #[true,true,true,true,false,true,false,false,false,false,false,false,false,false] rfl rfl (any_of HT_.out (by kernel_rfl)) (fun _ _ _ h=>h) (Or.inl ⟨by rfl,?_⟩) ?_ ?_
       rotate_left
       ·intro w'
        go_simp
        with_reducible rfl
       rotate_left
       ·simp only [Act.put,List.setIfInBounds_toArray,List.set_cons_zero,List.set_cons_succ,i64_w,i32_w]
        rfl
       refine pure_ (i:=6) (N:=some 37) (v:=?_) (a':=?_) #[true,true,true,true,false,true,true,false,false,false,false,false,false,false] rfl rfl (any_of HT_.out (by kernel_rfl)) (fun _ _ _ h=>h) (Or.inl ⟨by rfl,?_⟩) ?_ ?_
       rotate_left
       ·intro w'
        go_simp
        with_reducible rfl
       rotate_left
       ·simp only [Act.put,List.setIfInBounds_toArray,List.set_cons_zero,List.set_cons_succ,i64_w,i32_w]
        rfl
       refine pure_ (i:=7) (N:=some 38) (v:=?_) (a':=?_) #[true,true,true,true,false,true,true,true,false,false,false,false,false,false] rfl rfl (any_of HT_.out (by kernel_rfl)) (fun _ _ _ h=>h) (Or.inl ⟨by rfl,?_⟩) ?_ ?_
       rotate_left
       ·intro w'
        go_simp
        with_reducible rfl
       rotate_left
       ·simp only [Act.put,List.setIfInBounds_toArray,List.set_cons_zero,List.set_cons_succ,i64_w,i32_w]
        rfl
       refine pure_ (i:=8) (N:=some 39) (v:=?_) (a':=?_) #[true,true,true,true,false,true,true,true,true,false,false,false,false,false] rfl rfl (any_of HT_.out (by kernel_rfl)) (fun _ _ _ h=>h) (Or.inl ⟨by rfl,?_⟩) ?_ ?_
       rotate_left
       ·intro w'
        go_simp
        with_reducible rfl
       rotate_left
       ·simp only [Act.put,List.setIfInBounds_toArray,List.set_cons_zero,List.set_cons_succ,i64_w,i32_w]
        rfl
       refine take_ (i:=4) (N:=some 35) (v:=?_) (a':=?_) #[true,true,true,true,true,true,true,true,true,false,false,false,false,false] rfl rfl (take_ofW HT_.out HW_.out (by kernel_rfl)) (fun _ _ _ h=>h) (Or.inl ⟨by rfl,?_⟩) hHeld ?_ ?_
       rotate_left
       ·rintro w' ⟨s0,s1,s2,s3⟩
        try simp only [Int.toNat_natCast] at s0 s1 s2 s3
        go_simp
        with_reducible rfl
       rotate_left
       ·simp only [Act.put,List.setIfInBounds_toArray,List.set_cons_zero,List.set_cons_succ,i64_w,i32_w]
        rfl
       refine one_ (i:=9) (N:=some 40) #[true,true,true,true,true,true,true,true,true,true,false,false,false,false] rfl rfl (one_of HT_.out (by kernel_rfl)) (by decide) (fun K hK=>?_)
       refine goes_ Try.func61 (by kernel_rfl) rfl #[.int .i64 a0,.agg #[.int .i64 ((rd_T62 l1 (l2.length : Int)).f0),.int .i64 ((rd_T62 l1 (l2.length : Int)).f1),.int .i64 ((rd_T62 l1 (l2.length : Int)).f2),.int .i64 ((rd_T62 l1 (l2.length : Int)).f3)],.slice (some ad311) y312.length c1,.slice A2 l2.length c2] (by rfl) rfl rfl (by (try simp only [List.map_toArray,List.map_cons,List.map_nil]);first|done|rfl|(simp only [List.length_drop,List.length_take];rfl)|(simp only [Ny312.out,Ny306.out];rfl)) ?_
       with_reducible refine (impl_nextBerth.calls k a0 ((rd_T62 l1 (l2.length : Int)).f0) ((rd_T62 l1 (l2.length : Int)).f1) ((rd_T62 l1 (l2.length : Int)).f2) ((rd_T62 l1 (l2.length : Int)).f3) _ _ y312 _ _ l2 t316 t317 t318 _ ?side1 ?side2 ?side3 ?side4 A17.out).mono ?_
       (case side1=>repeat (first|exact (zO HR315.out HB.out)|(with_reducible refine zG ?_ _)|(with_reducible refine zH ?_ _)|(with_reducible refine zI ?_)))
       (case side2=>exact HC315.out)
       (case side3=>repeat (first|exact (zO HR2.out HB.out)|(with_reducible refine zG ?_ _)|(with_reducible refine zH ?_ _)|(with_reducible refine zI ?_)))
       (case side4=>exact HC2.out)
       rintro e w24 ⟨rfl,hb⟩
       refine ⟨_,rfl,?_⟩
       have n0_:=zM (blk_below (g:=gb304) (o := .cells #[.int .i64 0,.int .i64 0] 37 (0,0)) (by (with_reducible repeat (first|refine zJ ?_ _|refine zK ?_|refine zL ?_ _));exact BK304.out) hb)
       have n1_:=zM (zQ (by repeat (first|(with_reducible first|exact HB.out|apply zD|apply zE|apply zF|refine below_set ?_ GE304.out)|exact HB.out)) hb)
       clear BK304
       clear HB
       have BK304:=n0_
       have HB:=n1_
       clear n0_ n1_
       (try clear hb)
       (try clear hb2)
       (try clear hk)
       (try clear hi)
       refine hK.out _ _ ⟨((HB.out.cell (World.block_lt_of_cell? w _ hw311_0)).trans hw311_0),((HB.out.cell (World.block_lt_of_cell? w _ hw311_1)).trans hw311_1),((HB.out.cell (World.block_lt_of_cell? w _ hw311_2)).trans hw311_2),((HB.out.cell (World.block_lt_of_cell? w _ hw311_3)).trans hw311_3)⟩ (fun hHeld=>?_)
       clear hK K
       refine norm_ (a':=?_) ?_ ?_
       rotate_left
       ·show Act.put _ (some 40) _ = _
        simp only [Act.put,List.setIfInBounds_toArray,List.set_cons_zero,List.set_cons_succ,i64_w,i32_w]
        rfl
       refine pure_ (i:=10) (N:=some 41) (v:=?_) (a':=?_) #[true,true,true,true,true,true,true,true,true,true,true,false,false,false] rfl rfl (any_of HT_.out (by kernel_rfl)) (fun _ _ _ h=>h) (Or.inl ⟨by rfl,?_⟩) ?_ ?_
       rotate_left
       ·intro w'
        go_simp
        with_reducible rfl
       rotate_left
       ·simp only [Act.put,List.setIfInBounds_toArray,List.set_cons_zero,List.set_cons_succ,i64_w,i32_w]
        rfl
       refine pure_ (i:=11) (N:=some 42) (v:=?_) (a':=?_) #[true,true,true,true,true,true,true,true,true,true,true,true,false,false] rfl rfl (any_of HT_.out (by kernel_rfl)) (fun _ _ _ h=>h) (Or.inl ⟨by rfl,?_⟩) ?_ ?_
       rotate_left
       ·intro w'
        go_simp
        with_reducible rfl
       rotate_left
       ·simp only [Act.put,List.setIfInBounds_toArray,List.set_cons_zero,List.set_cons_succ,i64_w,i32_w]
        rfl
       refine one_ (i:=12) (N:=none) #[true,true,true,true,true,true,true,true,true,true,true,true,true,false] rfl rfl (one_of HT_.out (by kernel_rfl)) (by decide) (fun K hK=>?_)
       have hs25 : w24.cell? ⟨gb304,0,none⟩ = some (.int .i64 0):=(blk_cell BK304.out 0).trans rfl
       have hfs25:=blk_frozen BK304.out 0
       have hs26 : w24.cell? ⟨gb304,1,none⟩ = some (.int .i64 0):=(blk_cell BK304.out 1).trans rfl
       have hfs26:=blk_frozen BK304.out 1
       refine skip_ (w1:=?_) (by rfl) rfl ?_ ?_
       rotate_left
       ·go_simp
        rfl
       refine hK.out _ _ ⟨((cell_far (p:=⟨gb304,_,none⟩) (by first|exact Nat.ne_of_lt (Nat.lt_of_lt_of_le (by have:=World.block_lt_of_cell? _ _ hw311_0;first|rwa [add_block] at this|exact this) GW304.out)|(rw [add_block];exact Nat.ne_of_lt (Nat.lt_of_lt_of_le (by have:=World.block_lt_of_cell? _ _ hw311_0;first|rwa [add_block] at this|exact this) GW304.out))|(show (Addr.add _ _).block ≠ _;rw [add_block];exact Nat.ne_of_lt (Nat.lt_of_lt_of_le (by have:=World.block_lt_of_cell? _ _ hw311_0;first|rwa [add_block] at this|exact this) GW304.out))|(dsimp only;exact Nat.ne_of_lt (Nat.lt_of_lt_of_le (by have:=World.block_lt_of_cell? _ _ hw311_0;first|rwa [add_block] at this|exact this) GW304.out))) _).trans (((cell_far (p:=⟨gb304,_,none⟩) (by first|exact Nat.ne_of_lt (Nat.lt_of_lt_of_le (by have:=World.block_lt_of_cell? _ _ hw311_0;first|rwa [add_block] at this|exact this) GW304.out)|(rw [add_block];exact Nat.ne_of_lt (Nat.lt_of_lt_of_le (by have:=World.block_lt_of_cell? _ _ hw311_0;first|rwa [add_block] at this|exact this) GW304.out))|(show (Addr.add _ _).block ≠ _;rw [add_block];exact Nat.ne_of_lt (Nat.lt_of_lt_of_le (by have:=World.block_lt_of_cell? _ _ hw311_0;first|rwa [add_block] at this|exact this) GW304.out))|(dsimp only;exact Nat.ne_of_lt (Nat.lt_of_lt_of_le (by have:=World.block_lt_of_cell? _ _ hw311_0;first|rwa [add_block] at this|exact this) GW304.out))) _).trans (hHeld.1)))),((cell_far (p:=⟨gb304,_,none⟩) (by first|exact Nat.ne_of_lt (Nat.lt_of_lt_of_le (by have:=World.block_lt_of_cell? _ _ hw311_1;first|rwa [add_block] at this|exact this) GW304.out)|(rw [add_block];exact Nat.ne_of_lt (Nat.lt_of_lt_of_le (by have:=World.block_lt_of_cell? _ _ hw311_1;first|rwa [add_block] at this|exact this) GW304.out))|(show (Addr.add _ _).block ≠ _;rw [add_block];exact Nat.ne_of_lt (Nat.lt_of_lt_of_le (by have:=World.block_lt_of_cell? _ _ hw311_1;first|rwa [add_block] at this|exact this) GW304.out))|(dsimp only;exact Nat.ne_of_lt (Nat.lt_of_lt_of_le (by have:=World.block_lt_of_cell? _ _ hw311_1;first|rwa [add_block] at this|exact this) GW304.out))) _).trans (((cell_far (p:=⟨gb304,_,none⟩) (by first|exact Nat.ne_of_lt (Nat.lt_of_lt_of_le (by have:=World.block_lt_of_cell? _ _ hw311_1;first|rwa [add_block] at this|exact this) GW304.out)|(rw [add_block];exact Nat.ne_of_lt (Nat.lt_of_lt_of_le (by have:=World.block_lt_of_cell? _ _ hw311_1;first|rwa [add_block] at this|exact this) GW304.out))|(show (Addr.add _ _).block ≠ _;rw [add_block];exact Nat.ne_of_lt (Nat.lt_of_lt_of_le (by have:=World.block_lt_of_cell? _ _ hw311_1;first|rwa [add_block] at this|exact this) GW304.out))|(dsimp only;exact Nat.ne_of_lt (Nat.lt_of_lt_of_le (by have:=World.block_lt_of_cell? _ _ hw311_1;first|rwa [add_block] at this|exact this) GW304.out))) _).trans (hHeld.2.1)))),((cell_far (p:=⟨gb304,_,none⟩) (by first|exact Nat.ne_of_lt (Nat.lt_of_lt_of_le (by have:=World.block_lt_of_cell? _ _ hw311_2;first|rwa [add_block] at this|exact this) GW304.out)|(rw [add_block];exact Nat.ne_of_lt (Nat.lt_of_lt_of_le (by have:=World.block_lt_of_cell? _ _ hw311_2;first|rwa [add_block] at this|exact this) GW304.out))|(show (Addr.add _ _).block ≠ _;rw [add_block];exact Nat.ne_of_lt (Nat.lt_of_lt_of_le (by have:=World.block_lt_of_cell? _ _ hw311_2;first|rwa [add_block] at this|exact this) GW304.out))|(dsimp only;exact Nat.ne_of_lt (Nat.lt_of_lt_of_le (by have:=World.block_lt_of_cell? _ _ hw311_2;first|rwa [add_block] at this|exact this) GW304.out))) _).trans (((cell_far (p:=⟨gb304,_,none⟩) (by first|exact Nat.ne_of_lt (Nat.lt_of_lt_of_le (by have:=World.block_lt_of_cell? _ _ hw311_2;first|rwa [add_block] at this|exact this) GW304.out)|(rw [add_block];exact Nat.ne_of_lt (Nat.lt_of_lt_of_le (by have:=World.block_lt_of_cell? _ _ hw311_2;first|rwa [add_block] at this|exact this) GW304.out))|(show (Addr.add _ _).block ≠ _;rw [add_block];exact Nat.ne_of_lt (Nat.lt_of_lt_of_le (by have:=World.block_lt_of_cell? _ _ hw311_2;first|rwa [add_block] at this|exact this) GW304.out))|(dsimp only;exact Nat.ne_of_lt (Nat.lt_of_lt_of_le (by have:=World.block_lt_of_cell? _ _ hw311_2;first|rwa [add_block] at this|exact this) GW304.out))) _).trans (hHeld.2.2.1)))),((cell_far (p:=⟨gb304,_,none⟩) (by first|exact Nat.ne_of_lt (Nat.lt_of_lt_of_le (by have:=World.block_lt_of_cell? _ _ hw311_3;first|rwa [add_block] at this|exact this) GW304.out)|(rw [add_block];exact Nat.ne_of_lt (Nat.lt_of_lt_of_le (by have:=World.block_lt_of_cell? _ _ hw311_3;first|rwa [add_block] at this|exact this) GW304.out))|(show (Addr.add _ _).block ≠ _;rw [add_block];exact Nat.ne_of_lt (Nat.lt_of_lt_of_le (by have:=World.block_lt_of_cell? _ _ hw311_3;first|rwa [add_block] at this|exact this) GW304.out))|(dsimp only;exact Nat.ne_of_lt (Nat.lt_of_lt_of_le (by have:=World.block_lt_of_cell? _ _ hw311_3;first|rwa [add_block] at this|exact this) GW304.out))) _).trans (((cell_far (p:=⟨gb304,_,none⟩) (by first|exact Nat.ne_of_lt (Nat.lt_of_lt_of_le (by have:=World.block_lt_of_cell? _ _ hw311_3;first|rwa [add_block] at this|exact this) GW304.out)|(rw [add_block];exact Nat.ne_of_lt (Nat.lt_of_lt_of_le (by have:=World.block_lt_of_cell? _ _ hw311_3;first|rwa [add_block] at this|exact this) GW304.out))|(show (Addr.add _ _).block ≠ _;rw [add_block];exact Nat.ne_of_lt (Nat.lt_of_lt_of_le (by have:=World.block_lt_of_cell? _ _ hw311_3;first|rwa [add_block] at this|exact this) GW304.out))|(dsimp only;exact Nat.ne_of_lt (Nat.lt_of_lt_of_le (by have:=World.block_lt_of_cell? _ _ hw311_3;first|rwa [add_block] at this|exact this) GW304.out))) _).trans (hHeld.2.2.2))))⟩ (fun hHeld=>?_)
       clear hK K
       refine pure_ (i:=13) (N:=some 7) (v:=?_) (a':=?_) #[true,true,true,true,true,true,true,true,true,true,true,true,true,true] rfl rfl (any_of HT_.out (by kernel_rfl)) (fun _ _ _ h=>h) (Or.inl ⟨by rfl,?_⟩) ?_ ?_
       rotate_left
       ·intro w'
        go_simp
        with_reducible rfl
       rotate_left
       ·simp only [Act.put,List.setIfInBounds_toArray,List.set_cons_zero,List.set_cons_succ,i64_w,i32_w]
        rfl
       refine done_ (done_of HT_.out (by kernel_rfl)) ?_
       try go_wp2
       refine bodyPost_ret (results_ct rfl _ _ gb304 37 #[.int .i64 t316,.int .i64 t317] (0,0) _ rfl (by (with_reducible repeat (first|refine zJ ?_ _|refine zK ?_|refine zL ?_ _));refine blk_put (cs := #[.int .i64 t316,.int .i64 0]) ?_ 1 _ rfl;(with_reducible repeat (first|refine zJ ?_ _|refine zK ?_|refine zL ?_ _));refine blk_put (cs := #[.int .i64 0,.int .i64 0]) ?_ 0 _ rfl;(with_reducible repeat (first|refine zJ ?_ _|refine zK ?_|refine zL ?_ _));exact BK304.out) Try.underlying37 rfl (by kernel_rfl)) rfl ?_
       exact ⟨by first|rfl|(simp [errW_none,errW_some] <;> rfl)|(simp [*,errW_none,errW_some] <;> rfl),by repeat (first|(with_reducible first|exact HB.out|apply zD|apply zE|apply zF|refine below_set ?_ GE304.out)|exact HB.out)⟩
      ·rw [if_neg c14] at H
       exact absurd H (by simp)
     ·replace c13:=Bool.eq_false_iff.mpr c13
      subst c13
      have H1 : (some (0,0,false)) = some (r1,r2,r3):=by rw [if_neg (show ¬ (false = true) by decide)] at H;exact H
      clear H
      have H:=H1
      clear H1
      simp only [Option.some.injEq,Prod.mk.injEq] at H
      obtain ⟨rfl,rfl,rfl⟩:=H
      go_enter Try.func26,Try.ntmps26
      go_wp2_with (first|((with_reducible refine gate_dst (N:=6) rfl ?_);(try (refine gate_guard (by rfl) ?_;dsimp only));refine box_event ?hg (N:=6) ?hd (cs := #[.int .i64 0,.int .i64 0]) (t:=37) ?hr ?_;(case hd=>rfl);(case hg=>rfl);(case hr=>first|(go_simp;done)|(go_simp;rfl));intro gb304 hg w27 hbox hb;have n0_:=zM (zQ (by repeat (first|(with_reducible first|exact HB.out|apply zD|apply zE|apply zF)|exact HB.out)) hb);have n1_:=zM (hbox);have n2_:=zM ((by rw [hg];exact (zR (by repeat (first|(with_reducible first|exact HB.out|apply zD|apply zE|apply zF)|exact HB.out))) : w.heap.size ≤ gb304));have n3_:=zM ((by rw [hg];exact (zR (by repeat (first|(with_reducible first|exact HB.out|apply zD|apply zE|apply zF)|exact HB.out))) : w.heap.size ≤ gb304));clear HB;have HB:=n0_;have BK304:=n1_;have GW304:=n2_;have GE304:=n3_;clear n0_ n1_ n2_ n3_;clear hb hbox hg)|((with_reducible refine gate_callee (f:=52) rfl ?_);refine goesL_ (some 13) rfl rfl Try.func52 (by kernel_rfl) rfl #[.int .i64 a0,.slice A1 l1.length c1] rfl (by (try simp only [List.map_toArray,List.map_cons,List.map_nil]);first|done|rfl|(simp only [List.length_drop,List.length_take];rfl)) ?_;(with_reducible refine (impl_areShips.calls a0 _ _ l1 true _ ?side1 ?side2 A4.out).mono ?_);(case side1=>repeat (first|exact (zO HR1.out HB.out)|(with_reducible refine zG ?_ _)|(with_reducible refine zH ?_ _)|(with_reducible refine zI ?_)));(case side2=>exact HC1.out);rintro e w28 ⟨rfl,hb⟩;refine ⟨_,rfl,?_⟩;have n0_:=zM (blk_below (g:=gb304) (o := .cells #[.int .i64 0,.int .i64 0] 37 (0,0)) (by (with_reducible repeat (first|refine zJ ?_ _|refine zK ?_|refine zL ?_ _));exact BK304.out) hb);have n1_:=zM (zQ (by repeat (first|(with_reducible first|exact HB.out|apply zD|apply zE|apply zF|refine below_set ?_ GE304.out)|exact HB.out)) hb);clear BK304;clear HB;have BK304:=n0_;have HB:=n1_;clear n0_ n1_;(try clear hb);(try clear hb2);(try clear hk);(try clear hi);have q29 : ((l2.length : Int) : Int) ≤ ((l1.length : Int) : Int):=of_decide_eq_true (by first|(with_reducible assumption)|assumption);obtain ⟨i029,hi029,_,hsz29,_⟩:=info_parts info62;have hroom29 : l1.length ≤ c1:=HC1.out;have hC29 : Kd.C k62 _ A1 l1.length l1:=HR1.out;have hcut29:=cut_to (P:=Try.prog) 27 62 .i64 Try.underlying27 hi029 A1 l1.length c1 (l2.length : Int) (of_decide_eq_true (by first|(with_reducible assumption)|assumption)) q29 hroom29;have hr29:=Kd.C_take (m:=((l2.length : Int) : Int).toNat) hC29 (by omega);have hy29 : y306.length = ((l2.length : Int) : Int).toNat:=(by rw [Ny306.out,List.length_take];omega);rw [← Ny306.out] at hr29;rw [← hy29] at hcut29;have HR309:=zM hr29;have HC309:=zM (show y306.length ≤ c1 from by omega);clear hr29 hC29 hroom29 hi029 hsz29;have KY29:=zM hy29;clear hy29;replace q29:=eq_true q29)|(go_at_call 18;(with_reducible refine (impl_IsPossiblePlan.calls k a0 _ _ y306 _ _ l2 false _ ?side1 ?side2 ?side3 ?side4 A12.out).mono ?_);(case side1=>repeat (first|exact (zO HR309.out HB.out)|(with_reducible refine zG ?_ _)|(with_reducible refine zH ?_ _)|(with_reducible refine zI ?_)));(case side2=>exact HC309.out);(case side3=>repeat (first|exact (zO HR2.out HB.out)|(with_reducible refine zG ?_ _)|(with_reducible refine zH ?_ _)|(with_reducible refine zI ?_)));(case side4=>exact HC2.out);rintro e w30 ⟨rfl,hb⟩;have n0_:=zM (blk_below (g:=gb304) (o := .cells #[.int .i64 0,.int .i64 0] 37 (0,0)) (by (with_reducible repeat (first|refine zJ ?_ _|refine zK ?_|refine zL ?_ _));exact BK304.out) hb);have n1_:=zM (zQ (by repeat (first|(with_reducible first|exact HB.out|apply zD|apply zE|apply zF|refine below_set ?_ GE304.out)|exact HB.out)) hb);clear BK304;clear HB;have BK304:=n0_;have HB:=n1_;clear n0_ n1_;(try clear hb);(try clear hb2);(try clear hk);(try clear hi);have hcz31_0 : w30.cell? ⟨gb304,0,none⟩ = some (.int .i64 0):=(blk_cell BK304.out 0).trans rfl;have hcz31_1 : w30.cell? ⟨gb304,1,none⟩ = some (.int .i64 0):=(blk_cell BK304.out 1).trans rfl;have hfz31_0:=blk_frozen BK304.out 0;have hfz31_1:=blk_frozen BK304.out 1))
      refine bodyPost_ret (results_ct rfl _ _ gb304 37 #[.int .i64 0,.int .i64 0] (0,0) _ rfl (by (with_reducible repeat (first|refine zJ ?_ _|refine zK ?_|refine zL ?_ _));refine blk_put (cs := #[.int .i64 0,.int .i64 0]) ?_ 1 _ rfl;(with_reducible repeat (first|refine zJ ?_ _|refine zK ?_|refine zL ?_ _));refine blk_put (cs := #[.int .i64 0,.int .i64 0]) ?_ 0 _ rfl;(with_reducible repeat (first|refine zJ ?_ _|refine zK ?_|refine zL ?_ _));exact BK304.out) Try.underlying37 rfl (by kernel_rfl)) rfl ?_
      exact ⟨by first|rfl|(simp [errW_none,errW_some] <;> rfl)|(simp [*,errW_none,errW_some] <;> rfl),by repeat (first|(with_reducible first|exact HB.out|apply zD|apply zE|apply zF|refine below_set ?_ GE304.out)|exact HB.out)⟩
    ·rw [if_neg c11] at H
     exact absurd H (by simp)
   ·rw [if_neg c10] at H
    exact absurd H (by simp)
 ·replace c5:=Bool.eq_false_iff.mpr c5
  subst c5
  have H1 : (some (0,0,false)) = some (r1,r2,r3):=by rw [if_neg (show ¬ (false = true) by decide)] at H;exact H
  clear H
  have H:=H1
  clear H1
  simp only [Option.some.injEq,Prod.mk.injEq] at H
  obtain ⟨rfl,rfl,rfl⟩:=H
  go_enter Try.func26,Try.ntmps26
  go_wp2_with (first|((with_reducible refine gate_dst (N:=6) rfl ?_);(try (refine gate_guard (by rfl) ?_;dsimp only));refine box_event ?hg (N:=6) ?hd (cs := #[.int .i64 0,.int .i64 0]) (t:=37) ?hr ?_;(case hd=>rfl);(case hg=>rfl);(case hr=>first|(go_simp;done)|(go_simp;rfl));intro gb304 hg w32 hbox hb;have n0_:=zM (zQ (by repeat (first|(with_reducible first|exact HB.out|apply zD|apply zE|apply zF)|exact HB.out)) hb);have n1_:=zM (hbox);have n2_:=zM ((by rw [hg];exact (zR (by repeat (first|(with_reducible first|exact HB.out|apply zD|apply zE|apply zF)|exact HB.out))) : w.heap.size ≤ gb304));have n3_:=zM ((by rw [hg];exact (zR (by repeat (first|(with_reducible first|exact HB.out|apply zD|apply zE|apply zF)|exact HB.out))) : w.heap.size ≤ gb304));clear HB;have HB:=n0_;have BK304:=n1_;have GW304:=n2_;have GE304:=n3_;clear n0_ n1_ n2_ n3_;clear hb hbox hg)|((with_reducible refine gate_callee (f:=52) rfl ?_);refine goesL_ (some 13) rfl rfl Try.func52 (by kernel_rfl) rfl #[.int .i64 a0,.slice A1 l1.length c1] rfl (by (try simp only [List.map_toArray,List.map_cons,List.map_nil]);first|done|rfl|(simp only [List.length_drop,List.length_take];rfl)) ?_;(with_reducible refine (impl_areShips.calls a0 _ _ l1 false _ ?side1 ?side2 A4.out).mono ?_);(case side1=>repeat (first|exact (zO HR1.out HB.out)|(with_reducible refine zG ?_ _)|(with_reducible refine zH ?_ _)|(with_reducible refine zI ?_)));(case side2=>exact HC1.out);rintro e w33 ⟨rfl,hb⟩;refine ⟨_,rfl,?_⟩;have n0_:=zM (blk_below (g:=gb304) (o := .cells #[.int .i64 0,.int .i64 0] 37 (0,0)) (by (with_reducible repeat (first|refine zJ ?_ _|refine zK ?_|refine zL ?_ _));exact BK304.out) hb);have n1_:=zM (zQ (by repeat (first|(with_reducible first|exact HB.out|apply zD|apply zE|apply zF|refine below_set ?_ GE304.out)|exact HB.out)) hb);clear BK304;clear HB;have BK304:=n0_;have HB:=n1_;clear n0_ n1_;(try clear hb);(try clear hb2);(try clear hk);(try clear hi);have hcz34_0 : w33.cell? ⟨gb304,0,none⟩ = some (.int .i64 0):=(blk_cell BK304.out 0).trans rfl;have hcz34_1 : w33.cell? ⟨gb304,1,none⟩ = some (.int .i64 0):=(blk_cell BK304.out 1).trans rfl;have hfz34_0:=blk_frozen BK304.out 0;have hfz34_1:=blk_frozen BK304.out 1))
  refine bodyPost_ret (results_ct rfl _ _ gb304 37 #[.int .i64 0,.int .i64 0] (0,0) _ rfl (by (with_reducible repeat (first|refine zJ ?_ _|refine zK ?_|refine zL ?_ _));refine blk_put (cs := #[.int .i64 0,.int .i64 0]) ?_ 1 _ rfl;(with_reducible repeat (first|refine zJ ?_ _|refine zK ?_|refine zL ?_ _));refine blk_put (cs := #[.int .i64 0,.int .i64 0]) ?_ 0 _ rfl;(with_reducible repeat (first|refine zJ ?_ _|refine zK ?_|refine zL ?_ _));exact BK304.out) Try.underlying37 rfl (by kernel_rfl)) rfl ?_
  exact ⟨by first|rfl|(simp [errW_none,errW_some] <;> rfl)|(simp [*,errW_none,errW_some] <;> rfl),by repeat (first|(with_reducible first|exact HB.out|apply zD|apply zE|apply zF|refine below_set ?_ GE304.out)|exact HB.out)⟩

end Go.Proofs.Ytcciljjnpfgaeaa.G

-- Written by wip/tools/gen.py out of the translation (the kit's printer, one namespace a seat). Lean checks it.
namespace Go.Proofs.Ytcciljjnpfgaeaa.G
open Go.RowKit Go.Proofs.YtcciljjnpfgaeaaW.PrintWords Go.Proofs.YtcciljjnpfgaeaaW.PrintLast Go.Proofs.YtcciljjnpfgaeaaW.PrintMore
attribute [local go_sem] max2_int min2_int max_two min_two max_three min_three max_four min_four   -- for this text's walks alone
set_option linter.unusedVariables false
set_option linter.unusedSimpArgs false

/-! ### spec_l14Asked: function 49 -/
def spec_l14Asked.f (k : Nat) (a0 : Int) (l1 : List (S62)) (l2 : List (S37)) : Option (Bool):=(spec_l14Ships.f k a0 l1).bind fun t129=>(if t129 = true then ((spec_l14Plan.f k a0 l1 l2).bind fun t130=>(if t130 = true then (some ((l2.length : Int) == (l1.length : Int))) else (some false))) else (some false))
set_option maxHeartbeats 8000000 in
set_option maxRecDepth 100000 in
theorem spec_l14Asked.calls (k : Nat) (a0 : Int) (A1 : Option Addr) (c1 : Nat) (l1 : List (S62)) (A2 : Option Addr) (c2 : Nat) (l2 : List (S37)) (r : Bool) (w : World) (hr1 : Kd.C k62 w A1 l1.length l1) (hc1 : l1.length ≤ c1) (hr2 : Kd.C k37 w A2 l2.length l2) (hc2 : l2.length ≤ c2) (h : spec_l14Asked.f k a0 l1 l2 = some r) :
  Calls Try.prog 49 #[.int .i64 a0,.slice A1 l1.length c1,.slice A2 l2.length c2] w fun e w'=>e = .returned (.bool r) ∧ Below w.heap.size w w':=by
 have HR1:=zM hr1
 have HC1:=zM hc1
 clear hr1 hc1
 have HR2:=zM hr2
 have HC2:=zM hc2
 clear hr2 hc2
 have HB:=zM (Below.refl w.heap.size w)
 have H : ((spec_l14Ships.f k a0 l1).bind fun t129=>(if t129 = true then ((spec_l14Plan.f k a0 l1 l2).bind fun t130=>(if t130 = true then (some ((l2.length : Int) == (l1.length : Int))) else (some false))) else (some false))) = some r:=h
 clear h
 replace H:=Option.bind_eq_some_iff.mp H
 obtain ⟨t129,A40,H⟩:=H
 replace H : (if t129 = true then ((spec_l14Plan.f k a0 l1 l2).bind fun t130=>(if t130 = true then (some ((l2.length : Int) == (l1.length : Int))) else (some false))) else (some false)) = some r:=H
 have A4:=zM A40
 clear A40
 by_cases c5 : t129 = true
 ·subst c5
  have H1 : ((spec_l14Plan.f k a0 l1 l2).bind fun t130=>(if t130 = true then (some ((l2.length : Int) == (l1.length : Int))) else (some false))) = some r:=by rw [if_pos rfl] at H;exact H
  clear H
  have H:=H1
  clear H1
  replace H:=Option.bind_eq_some_iff.mp H
  obtain ⟨t130,A60,H⟩:=H
  replace H : (if t130 = true then (some ((l2.length : Int) == (l1.length : Int))) else (some false)) = some r:=H
  have A6:=zM A60
  clear A60
  by_cases c7 : t130 = true
  ·subst c7
   have H1 : (some ((l2.length : Int) == (l1.length : Int))) = some r:=by rw [if_pos rfl] at H;exact H
   clear H
   have H:=H1
   clear H1
   obtain rfl:=Option.some.inj H
   go_enter Try.func49,Try.ntmps49
   go_wp2_with (first|((with_reducible refine gate_callee (f:=58) rfl ?_);refine goesL_ (some 9) rfl rfl Try.func58 (by kernel_rfl) rfl #[.int .i64 a0,.slice A1 l1.length c1] rfl (by (try simp only [List.map_toArray,List.map_cons,List.map_nil]);first|done|rfl|(simp only [List.length_drop,List.length_take];rfl)) ?_;(with_reducible refine (spec_l14Ships.calls k a0 _ _ l1 true _ ?side1 ?side2 A4.out).mono ?_);(case side1=>repeat (first|exact HR1.out|(with_reducible refine zG ?_ _)|(with_reducible refine zH ?_ _)|(with_reducible refine zI ?_)));(case side2=>exact HC1.out);rintro e w8 ⟨rfl,hb⟩;refine ⟨_,rfl,?_⟩;have n0_:=zM (zQ (by repeat (first|(with_reducible first|exact HB.out|apply zD|apply zE|apply zF)|exact HB.out)) hb);clear HB;have HB:=n0_;clear n0_;(try clear hb);(try clear hb2);(try clear hk);(try clear hi))|(go_at_call 59;(with_reducible refine (spec_l14Plan.calls k a0 _ _ l1 _ _ l2 true _ ?side1 ?side2 ?side3 ?side4 A6.out).mono ?_);(case side1=>repeat (first|exact (zO HR1.out HB.out)|(with_reducible refine zG ?_ _)|(with_reducible refine zH ?_ _)|(with_reducible refine zI ?_)));(case side2=>exact HC1.out);(case side3=>repeat (first|exact (zO HR2.out HB.out)|(with_reducible refine zG ?_ _)|(with_reducible refine zH ?_ _)|(with_reducible refine zI ?_)));(case side4=>exact HC2.out);rintro e w9 ⟨rfl,hb⟩;have n0_:=zM (zQ (by repeat (first|(with_reducible first|exact HB.out|apply zD|apply zE|apply zF)|exact HB.out)) hb);clear HB;have HB:=n0_;clear n0_;(try clear hb);(try clear hb2);(try clear hk);(try clear hi)))
   go_ret
   exact ⟨by first|rfl|(simp [errW_none,errW_some] <;> rfl)|(simp [*,errW_none,errW_some] <;> rfl),by repeat (first|(with_reducible first|exact HB.out|apply zD|apply zE|apply zF)|exact HB.out)⟩
  ·replace c7:=Bool.eq_false_iff.mpr c7
   subst c7
   have H1 : (some false) = some r:=by rw [if_neg (show ¬ (false = true) by decide)] at H;exact H
   clear H
   have H:=H1
   clear H1
   obtain rfl:=Option.some.inj H
   go_enter Try.func49,Try.ntmps49
   go_wp2_with (first|((with_reducible refine gate_callee (f:=58) rfl ?_);refine goesL_ (some 9) rfl rfl Try.func58 (by kernel_rfl) rfl #[.int .i64 a0,.slice A1 l1.length c1] rfl (by (try simp only [List.map_toArray,List.map_cons,List.map_nil]);first|done|rfl|(simp only [List.length_drop,List.length_take];rfl)) ?_;(with_reducible refine (spec_l14Ships.calls k a0 _ _ l1 true _ ?side1 ?side2 A4.out).mono ?_);(case side1=>repeat (first|exact HR1.out|(with_reducible refine zG ?_ _)|(with_reducible refine zH ?_ _)|(with_reducible refine zI ?_)));(case side2=>exact HC1.out);rintro e w10 ⟨rfl,hb⟩;refine ⟨_,rfl,?_⟩;have n0_:=zM (zQ (by repeat (first|(with_reducible first|exact HB.out|apply zD|apply zE|apply zF)|exact HB.out)) hb);clear HB;have HB:=n0_;clear n0_;(try clear hb);(try clear hb2);(try clear hk);(try clear hi))|(go_at_call 59;(with_reducible refine (spec_l14Plan.calls k a0 _ _ l1 _ _ l2 false _ ?side1 ?side2 ?side3 ?side4 A6.out).mono ?_);(case side1=>repeat (first|exact (zO HR1.out HB.out)|(with_reducible refine zG ?_ _)|(with_reducible refine zH ?_ _)|(with_reducible refine zI ?_)));(case side2=>exact HC1.out);(case side3=>repeat (first|exact (zO HR2.out HB.out)|(with_reducible refine zG ?_ _)|(with_reducible refine zH ?_ _)|(with_reducible refine zI ?_)));(case side4=>exact HC2.out);rintro e w11 ⟨rfl,hb⟩;have n0_:=zM (zQ (by repeat (first|(with_reducible first|exact HB.out|apply zD|apply zE|apply zF)|exact HB.out)) hb);clear HB;have HB:=n0_;clear n0_;(try clear hb);(try clear hb2);(try clear hk);(try clear hi)))
   go_ret
   exact ⟨by first|rfl|(simp [errW_none,errW_some] <;> rfl)|(simp [*,errW_none,errW_some] <;> rfl),by repeat (first|(with_reducible first|exact HB.out|apply zD|apply zE|apply zF)|exact HB.out)⟩
 ·replace c5:=Bool.eq_false_iff.mpr c5
  subst c5
  have H1 : (some false) = some r:=by rw [if_neg (show ¬ (false = true) by decide)] at H;exact H
  clear H
  have H:=H1
  clear H1
  obtain rfl:=Option.some.inj H
  go_enter Try.func49,Try.ntmps49
  go_wp2_with (first|((with_reducible refine gate_callee (f:=58) rfl ?_);refine goesL_ (some 9) rfl rfl Try.func58 (by kernel_rfl) rfl #[.int .i64 a0,.slice A1 l1.length c1] rfl (by (try simp only [List.map_toArray,List.map_cons,List.map_nil]);first|done|rfl|(simp only [List.length_drop,List.length_take];rfl)) ?_;(with_reducible refine (spec_l14Ships.calls k a0 _ _ l1 false _ ?side1 ?side2 A4.out).mono ?_);(case side1=>repeat (first|exact HR1.out|(with_reducible refine zG ?_ _)|(with_reducible refine zH ?_ _)|(with_reducible refine zI ?_)));(case side2=>exact HC1.out);rintro e w12 ⟨rfl,hb⟩;refine ⟨_,rfl,?_⟩;have n0_:=zM (zQ (by repeat (first|(with_reducible first|exact HB.out|apply zD|apply zE|apply zF)|exact HB.out)) hb);clear HB;have HB:=n0_;clear n0_;(try clear hb);(try clear hb2);(try clear hk);(try clear hi)))
  go_ret
  exact ⟨by first|rfl|(simp [errW_none,errW_some] <;> rfl)|(simp [*,errW_none,errW_some] <;> rfl),by repeat (first|(with_reducible first|exact HB.out|apply zD|apply zE|apply zF)|exact HB.out)⟩

end Go.Proofs.Ytcciljjnpfgaeaa.G
