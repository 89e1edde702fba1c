/- Texts of the proof of FnTides, joined in build order. -/
import Derived.Test.YtbglkkepfddecaaMgFnTides1
import Derived.Test.YtbglkkepfddecaaMgFnTides4
import Derived.Test.YtbglkkepfddecaaMgFnTides2
import Derived.Test.YtbglkkepfddecaaMgFnTides3
import Derived.Deep.Slices
import Derived.ChangeArms
import Derived.WideShapes
import Derived.ChangeShapes
-- Written by wip/tools/gen.py out of the translation (the kit's printer, one namespace a seat). Lean checks it.
namespace Go.Proofs.Ytbglkkepfddecaa.G
open Go.RowKit Go.Proofs.YtbglkkepfddecaaW.PrintWords Go.Proofs.YtbglkkepfddecaaW.PrintLast Go.Proofs.YtbglkkepfddecaaW.PrintMore
attribute [local go_sem] max2_int min2_int max_two min_two max_three min_three max_four min_four   -- for this text's walks alone
set_option linter.unusedVariables false
set_option linter.unusedSimpArgs false

/-! ### spec_l15Height: function 60 -/
def spec_l15Height.l0 : Nat → List (S60) → Int → Int → Option (Int × Int)
 | 0,_,_,_=>none
 | k + 1,x0,x1,x6=>if (wrap64 (x6 + 2)) < (x0.length : Int) then (if 0 ≤ (wrap64 (x6 + 1)) then (if (wrap64 (x6 + 1)) < (x0.length : Int) then (if ((rd_T60 x0 (wrap64 (x6 + 1))).f0) ≤ x1 then (spec_l15Height.l0 k x0 x1 (wrap64 (x6 + 1))) else (if 0 ≤ x6 then (if x6 < (x0.length : Int) then (some (wrap64 ((wrap64 (((rd_T60 x0 x6).f1) * (wrap64 (((rd_T60 x0 (wrap64 (x6 + 1))).f0) - ((rd_T60 x0 x6).f0))))) + (wrap64 ((wrap64 (((rd_T60 x0 (wrap64 (x6 + 1))).f1) - ((rd_T60 x0 x6).f1))) * (wrap64 (x1 - ((rd_T60 x0 x6).f0)))))),wrap64 (((rd_T60 x0 (wrap64 (x6 + 1))).f0) - ((rd_T60 x0 x6).f0)))) else (none)) else (none))) else (none)) else (none)) else (if 0 ≤ x6 then (if x6 < (x0.length : Int) then (if 0 ≤ (wrap64 (x6 + 1)) then (if (wrap64 (x6 + 1)) < (x0.length : Int) then (some (wrap64 ((wrap64 (((rd_T60 x0 x6).f1) * (wrap64 (((rd_T60 x0 (wrap64 (x6 + 1))).f0) - ((rd_T60 x0 x6).f0))))) + (wrap64 ((wrap64 (((rd_T60 x0 (wrap64 (x6 + 1))).f1) - ((rd_T60 x0 x6).f1))) * (wrap64 (x1 - ((rd_T60 x0 x6).f0)))))),wrap64 (((rd_T60 x0 (wrap64 (x6 + 1))).f0) - ((rd_T60 x0 x6).f0)))) else (none)) else (none)) else (none)) else (none))
def spec_l15Height.f (k : Nat) (l0 : List (S60)) (a1 : Int) : Option (Int × Int):=spec_l15Height.l0 k l0 a1 0
def spec_l15Height.T4 : Bool × List (List Nat × List Nat):=(true,[([],[]),([],[]),([0,1],[0,1]),([2],[2]),([],[]),([],[]),([5],[5]),([4,6],[4,6]),([7],[7]),([],[]),([],[]),([9,3,0,1,2,3,9,10],[3,9]),([10,8,11,0,1,2,3,4,5,6,7,8,9,10,11],[8,10])])
def spec_l15Height.B4 : List Nat:=[0,0,3,7,0,0,32,112,240,0,0,1551,4095]
theorem spec_l15Height.tab4 : rtab .any (opsOf Try.f60 4) = spec_l15Height.T4:=by kernel_rfl
theorem spec_l15Height.bits4 : waitsOk spec_l15Height.T4.2 spec_l15Height.B4 = true:=by kernel_rfl
set_option maxHeartbeats 8000000 in
set_option maxRecDepth 100000 in
theorem spec_l15Height.calls (k : Nat) (A0 : Option Addr) (c0 : Nat) (l0 : List (S60)) (a1 : Int) (r1 : Int) (r2 : Int) (w : World) (hr0 : Kd.C k60 w A0 l0.length l0) (hc0 : l0.length ≤ c0) (h : spec_l15Height.f k l0 a1 = some (r1,r2)) :
  Calls Try.prog 60 #[.slice A0 l0.length c0,.int .i64 a1] w fun e w'=>e = .returned (.tuple #[.int .i64 r1,.int .i64 r2]) ∧ Below w.heap.size w w':=by
 have hu60:=Try.underlying60
 have HR0:=zM hr0
 have HC0:=zM hc0
 clear hr0 hc0
 have HB:=zM (Below.refl w.heap.size w)
 have H : (spec_l15Height.l0 k l0 a1 0) = some (r1,r2):=h
 clear h
 have H':=zM H
 clear H
 go_enter Try.func60,Try.ntmps60
 go_wp2
 go_loopg [6] k (fun kq v6 w' => ∃ (x6_1 : Int),v6 = .int .i64 x6_1 ∧ Aside0 (spec_l15Height.l0 kq l0 a1 x6_1 = some (r1,r2)) ∧ Aside0 (kq ≤ k) ∧ Aside0 (Below w.heap.size w w'))
 case atStart=>exact ⟨(0),(by first|rfl|(simp;done)|(simp [*];done)),H',⟨Nat.le_refl _⟩,⟨by repeat (first|(with_reducible first|exact HB.out|apply zD|apply zE|apply zF)|exact HB.out)⟩⟩
 case round =>
  clear H'
  try clear p2
  obtain ⟨x6_1,rfl,HA,HK1,HB⟩:=hrel
  cases gk with
  | zero=>exact absurd HA.out (by simp [spec_l15Height.l0])
  | succ k1 =>
   have H:=HA.out
   clear HA
   simp only [spec_l15Height.l0] at H
   by_cases c3 : (wrap64 (x6_1 + 2)) < (l0.length : Int)
   ·rw [if_pos c3] at H
    have c3b0 : decide ((wrap64 (x6_1 + 2)) < (l0.length : Int)) = true:=decide_eq_true c3
    clear c3
    obtain ⟨ji4,hji4⟩ : ∃ j_ : Int,(wrap64 (x6_1 + 1)) = j_:=⟨_,rfl⟩
    replace H : (if 0 ≤ (ji4) then (if (ji4) < (l0.length : Int) then (if ((rd_T60 l0 (ji4)).f0) ≤ a1 then (spec_l15Height.l0 k1 l0 a1 ji4) else (if 0 ≤ x6_1 then (if x6_1 < (l0.length : Int) then (some (wrap64 ((wrap64 (((rd_T60 l0 x6_1).f1) * (wrap64 (((rd_T60 l0 (ji4)).f0) - ((rd_T60 l0 x6_1).f0))))) + (wrap64 ((wrap64 (((rd_T60 l0 (ji4)).f1) - ((rd_T60 l0 x6_1).f1))) * (wrap64 (a1 - ((rd_T60 l0 x6_1).f0)))))),wrap64 (((rd_T60 l0 (ji4)).f0) - ((rd_T60 l0 x6_1).f0)))) else (none)) else (none))) else (none)) else (none)) = some (r1,r2):=by first|(rw [hji4] at H;exact H)|(simp only [hji4] at H ⊢;exact H)
    have hji4w : (IntKind.i64.wrap (x6_1 + 1)) = ji4:=(i64_w _).trans hji4
    by_cases c5 : 0 ≤ (ji4)
    ·rw [if_pos c5] at H
     have c5b0 : decide (0 ≤ (ji4)) = true:=decide_eq_true c5
     clear c5
     by_cases c6 : (ji4) < (l0.length : Int)
     ·rw [if_pos c6] at H
      have c6b0 : decide ((ji4) < (l0.length : Int)) = true:=decide_eq_true c6
      clear c6
      by_cases c7 : ((rd_T60 l0 (ji4)).f0) ≤ a1
      ·rw [if_pos c7] at H
       have c7b0 : decide (((rd_T60 l0 (ji4)).f0) ≤ a1) = true:=decide_eq_true c7
       clear c7
       have H':=zM H
       clear H
       have p264 : 0 ≤ ((ji4) : Int):=of_decide_eq_true (by first|(with_reducible assumption)|assumption)
       have q264 : (ji4) < (l0.length : Int):=of_decide_eq_true (by first|(with_reducible assumption)|assumption)
       obtain ⟨ad264,e264,hx264_0,hx264_1⟩:=at_T60 HR0.out (ji4) p264 q264
       cases e264
       replace hx264_0:=(HB.out.cell (World.block_lt_of_cell? w _ hx264_0)).trans hx264_0
       replace hx264_1:=(HB.out.cell (World.block_lt_of_cell? w _ hx264_1)).trans hx264_1
       replace p264:=eq_true p264
       replace q264:=eq_true q264
       go_wp2
       go_roundg k1
       case measure=>have:=HK1.out;omega
       case rel=>exact ⟨(ji4),(by first|rfl|(simp;done)|(simp only [← hji4] <;> (first|rfl|simp))|(simp [*];done)),H',⟨by have:=HK1.out;omega⟩,⟨by repeat (first|(with_reducible first|exact HB.out|apply zD|apply zE|apply zF)|exact HB.out)⟩⟩
      ·rw [if_neg c7] at H
       have c7b0 : decide (((rd_T60 l0 (ji4)).f0) ≤ a1) = false:=decide_eq_false c7
       clear c7
       by_cases c8 : 0 ≤ x6_1
       ·rw [if_pos c8] at H
        have c8b0 : decide (0 ≤ x6_1) = true:=decide_eq_true c8
        clear c8
        by_cases c9 : x6_1 < (l0.length : Int)
        ·rw [if_pos c9] at H
         have c9b0 : decide (x6_1 < (l0.length : Int)) = true:=decide_eq_true c9
         clear c9
         simp only [Option.some.injEq,Prod.mk.injEq] at H
         obtain ⟨rfl,rfl⟩:=H
         have p264 : 0 ≤ ((ji4) : Int):=of_decide_eq_true (by first|(with_reducible assumption)|assumption)
         have q264 : (ji4) < (l0.length : Int):=of_decide_eq_true (by first|(with_reducible assumption)|assumption)
         obtain ⟨ad264,e264,hx264_0,hx264_1⟩:=at_T60 HR0.out (ji4) p264 q264
         cases e264
         replace hx264_0:=(HB.out.cell (World.block_lt_of_cell? w _ hx264_0)).trans hx264_0
         replace hx264_1:=(HB.out.cell (World.block_lt_of_cell? w _ hx264_1)).trans hx264_1
         replace p264:=eq_true p264
         replace q264:=eq_true q264
         try go_wp2
         have n0_:=zM (zF HB.out)
         clear HB
         have HB:=n0_
         clear n0_
         have p265 : 0 ≤ (x6_1 : Int):=of_decide_eq_true (by first|(with_reducible assumption)|assumption)
         have q265 : x6_1 < (l0.length : Int):=of_decide_eq_true (by first|(with_reducible assumption)|assumption)
         obtain ⟨ad265,e265,hx265_0,hx265_1⟩:=at_T60 HR0.out x6_1 p265 q265
         have hw265_1:=hx265_1
         have hw265_0:=hx265_0
         obtain rfl : ad264 = ad265:=(by injection e265)
         replace hx265_0:=(HB.out.cell (World.block_lt_of_cell? w _ hx265_0)).trans hx265_0
         replace hx265_1:=(HB.out.cell (World.block_lt_of_cell? w _ hx265_1)).trans hx265_1
         replace p265:=eq_true p265
         replace q265:=eq_true q265
         have p266 : 0 ≤ ((ji4) : Int):=of_decide_eq_true (by first|(with_reducible assumption)|assumption)
         have q266 : (ji4) < (l0.length : Int):=of_decide_eq_true (by first|(with_reducible assumption)|assumption)
         obtain ⟨ad266,e266,hx266_0,hx266_1⟩:=at_T60 HR0.out (ji4) p266 q266
         have hw266_1:=hx266_1
         have hw266_0:=hx266_0
         obtain rfl : ad264 = ad266:=(by injection e266)
         replace hx266_0:=(HB.out.cell (World.block_lt_of_cell? w _ hx266_0)).trans hx266_0
         replace hx266_1:=(HB.out.cell (World.block_lt_of_cell? w _ hx266_1)).trans hx266_1
         replace p266:=eq_true p266
         replace q266:=eq_true q266
         refine start_ (n:=13) (S:=fun w'=>w'.cell? (ad264.add ((x6_1).toNat * 2)) = some (.int .i64 ((rd_T60 l0 x6_1).f0)) ∧ w'.cell? ⟨(ad264.add ((x6_1).toNat * 2)).block,(ad264.add ((x6_1).toNat * 2)).off + 1,none⟩ = some (.int .i64 ((rd_T60 l0 x6_1).f1)) ∧ w'.cell? (ad264.add (((ji4)).toNat * 2)) = some (.int .i64 ((rd_T60 l0 (ji4)).f0)) ∧ w'.cell? ⟨(ad264.add (((ji4)).toNat * 2)).block,(ad264.add (((ji4)).toNat * 2)).off + 1,none⟩ = some (.int .i64 ((rd_T60 l0 (ji4)).f1))) (ds:=[]) #[false,false,false,false,false,false,false,false,false,false,false,false,false] (by kernel_rfl) rfl rfl ⟨((HB.out.cell (World.block_lt_of_cell? w _ hw265_0)).trans hw265_0),((HB.out.cell (World.block_lt_of_cell? w _ hw265_1)).trans hw265_1),((HB.out.cell (World.block_lt_of_cell? w _ hw266_0)).trans hw266_0),((HB.out.cell (World.block_lt_of_cell? w _ hw266_1)).trans hw266_1)⟩ (fun hHeld=>?_);refine with_tabW spec_l15Height.tab4 spec_l15Height.bits4 (fun HT_ HW_=>?_)
         generalize wr.drew = w10 at HB hx265_0 hx265_1 hx266_0 hx266_1 hHeld ⊢
         refine pure_ (i:=0) (N:=some 27) (v:=?_) (a':=?_) #[true,false,false,false,false,false,false,false,false,false,false,false,false] rfl rfl (any_of HT_.out (by kernel_rfl)) (fun _ _ _ h=>h) (Or.inl ⟨by rfl,?_⟩) ?_ ?_
         rotate_left
         ·intro w'
          go_simp
          with_reducible rfl
         rotate_left
         ·simp only [Act.put,List.setIfInBounds_toArray,List.set_cons_zero,List.set_cons_succ,i64_w,i32_w]
          rfl
         refine pure_ (i:=1) (N:=some 28) (v:=?_) (a':=?_) #[true,true,false,false,false,false,false,false,false,false,false,false,false] rfl rfl (any_of HT_.out (by kernel_rfl)) (fun _ _ _ h=>h) (Or.inl ⟨by rfl,?_⟩) ?_ ?_
         rotate_left
         ·intro w'
          go_simp
          with_reducible rfl
         rotate_left
         ·simp only [Act.put,List.setIfInBounds_toArray,List.set_cons_zero,List.set_cons_succ,i64_w,i32_w]
          rfl
         refine pure_ (i:=2) (N:=some 29) (v:=?_) (a':=?_) #[true,true,true,false,false,false,false,false,false,false,false,false,false] rfl rfl (any_of HT_.out (by kernel_rfl)) (fun _ _ _ h=>h) (Or.inl ⟨by rfl,?_⟩) ?_ ?_
         rotate_left
         ·intro w'
          go_simp
          with_reducible rfl
         rotate_left
         ·simp only [Act.put,List.setIfInBounds_toArray,List.set_cons_zero,List.set_cons_succ,i64_w,i32_w]
          rfl
         refine pure_ (i:=4) (N:=some 31) (v:=?_) (a':=?_) #[true,true,true,false,true,false,false,false,false,false,false,false,false] rfl rfl (any_of HT_.out (by kernel_rfl)) (fun _ _ _ h=>h) (Or.inl ⟨by rfl,?_⟩) ?_ ?_
         rotate_left
         ·intro w'
          go_simp
          with_reducible rfl
         rotate_left
         ·simp only [Act.put,List.setIfInBounds_toArray,List.set_cons_zero,List.set_cons_succ,i64_w,i32_w]
          rfl
         refine pure_ (i:=5) (N:=some 32) (v:=?_) (a':=?_) #[true,true,true,false,true,true,false,false,false,false,false,false,false] rfl rfl (any_of HT_.out (by kernel_rfl)) (fun _ _ _ h=>h) (Or.inl ⟨by rfl,?_⟩) ?_ ?_
         rotate_left
         ·intro w'
          go_simp
          with_reducible rfl
         rotate_left
         ·simp only [Act.put,List.setIfInBounds_toArray,List.set_cons_zero,List.set_cons_succ,i64_w,i32_w]
          rfl
         refine pure_ (i:=6) (N:=some 33) (v:=?_) (a':=?_) #[true,true,true,false,true,true,true,false,false,false,false,false,false] rfl rfl (any_of HT_.out (by kernel_rfl)) (fun _ _ _ h=>h) (Or.inl ⟨by rfl,?_⟩) ?_ ?_
         rotate_left
         ·intro w'
          go_simp
          with_reducible rfl
         rotate_left
         ·simp only [Act.put,List.setIfInBounds_toArray,List.set_cons_zero,List.set_cons_succ,i64_w,i32_w]
          rfl
         refine pure_ (i:=7) (N:=some 34) (v:=?_) (a':=?_) #[true,true,true,false,true,true,true,true,false,false,false,false,false] rfl rfl (any_of HT_.out (by kernel_rfl)) (fun _ _ _ h=>h) (Or.inl ⟨by rfl,?_⟩) ?_ ?_
         rotate_left
         ·intro w'
          go_simp
          with_reducible rfl
         rotate_left
         ·simp only [Act.put,List.setIfInBounds_toArray,List.set_cons_zero,List.set_cons_succ,i64_w,i32_w]
          rfl
         refine take_ (i:=3) (N:=some 30) (v:=?_) (a':=?_) #[true,true,true,true,true,true,true,true,false,false,false,false,false] rfl rfl (take_ofW HT_.out HW_.out (by kernel_rfl)) (fun _ _ _ h=>h) (Or.inl ⟨by rfl,?_⟩) hHeld ?_ ?_
         rotate_left
         ·rintro w' ⟨s0,s1,s2,s3⟩
          go_simp
          with_reducible rfl
         rotate_left
         ·simp only [Act.put,List.setIfInBounds_toArray,List.set_cons_zero,List.set_cons_succ,i64_w,i32_w]
          rfl
         refine take_ (i:=8) (N:=some 35) (v:=?_) (a':=?_) #[true,true,true,true,true,true,true,true,true,false,false,false,false] rfl rfl (take_ofW HT_.out HW_.out (by kernel_rfl)) (fun _ _ _ h=>h) (Or.inl ⟨by rfl,?_⟩) hHeld ?_ ?_
         rotate_left
         ·rintro w' ⟨s0,s1,s2,s3⟩
          go_simp
          with_reducible rfl
         rotate_left
         ·simp only [Act.put,List.setIfInBounds_toArray,List.set_cons_zero,List.set_cons_succ,i64_w,i32_w]
          rfl
         refine join_ (σ:=Nat × Nat) 2 #[true,true,true,true,true,true,true,true,true,true,true,false,false] (fun s_=>[(7,.pointer (some ⟨s_.1,0,none⟩)),(8,.pointer (some ⟨s_.2,0,none⟩))]) (fun s_ w'=>(w'.cell? (ad264.add ((x6_1).toNat * 2)) = some (.int .i64 ((rd_T60 l0 x6_1).f0)) ∧ w'.cell? ⟨(ad264.add ((x6_1).toNat * 2)).block,(ad264.add ((x6_1).toNat * 2)).off + 1,none⟩ = some (.int .i64 ((rd_T60 l0 x6_1).f1)) ∧ w'.cell? (ad264.add (((ji4)).toNat * 2)) = some (.int .i64 ((rd_T60 l0 (ji4)).f0)) ∧ w'.cell? ⟨(ad264.add (((ji4)).toNat * 2)).block,(ad264.add (((ji4)).toNat * 2)).off + 1,none⟩ = some (.int .i64 ((rd_T60 l0 (ji4)).f1))) ∧ (w'.heap[s_.1]? = some (.cells #[.int .i64 0,.int .i64 0] 60 (0,0))) ∧ (w'.heap[s_.2]? = some (.cells #[.int .i64 0,.int .i64 0] 60 (0,0))) ∧ (w.heap.size ≤ s_.1) ∧ (w.heap.size ≤ s_.1) ∧ (s_.2 ≠ s_.1) ∧ (s_.1 ≠ s_.2) ∧ (w.heap.size ≤ s_.2) ∧ (w.heap.size ≤ s_.2) ∧ (Below w.heap.size w w')) ?_ ?_
         rotate_left
         ·intro hCont
          refine two_ (i:=9) (j:=10) (Ni:=some 7) (Nj:=some 8) #[true,true,true,true,true,true,true,true,true,true,false,false,false] #[true,true,true,true,true,true,true,true,true,false,true,false,false] rfl rfl rfl rfl (two_of HT_.out (by kernel_rfl)) (by decide) (by decide) (fun K hK=>?_) (fun K hK=>?_)
          ·skip
           refine box_step ?hg (N:=7) ?hd (cs := #[.int .i64 0,.int .i64 0]) (t:=60) ?hr ?_;(case hd=>rfl);(case hg=>rfl);(case hr=>first|(go_simp;done)|(go_simp;rfl))
           intro gb267 hg w11 hbox hb
           have n0_:=zM (zQ (by repeat (first|(with_reducible first|exact HB.out|apply zD|apply zE|apply zF)|exact HB.out)) hb)
           have n1_:=zM (hbox)
           have n2_:=zM ((by rw [hg];exact (zR (by repeat (first|(with_reducible first|exact HB.out|apply zD|apply zE|apply zF)|exact HB.out))) : w.heap.size ≤ gb267))
           have n3_:=zM ((by rw [hg];exact (zR (by repeat (first|(with_reducible first|exact HB.out|apply zD|apply zE|apply zF)|exact HB.out))) : w.heap.size ≤ gb267))
           clear HB
           have HB:=n0_
           have BK267:=n1_
           have GW267:=n2_
           have GE267:=n3_
           clear n0_ n1_ n2_ n3_
           clear hb hbox hg
           refine hK.out _ _ ⟨((HB.out.cell (World.block_lt_of_cell? w _ hw265_0)).trans hw265_0),((HB.out.cell (World.block_lt_of_cell? w _ hw265_1)).trans hw265_1),((HB.out.cell (World.block_lt_of_cell? w _ hw266_0)).trans hw266_0),((HB.out.cell (World.block_lt_of_cell? w _ hw266_1)).trans hw266_1)⟩ (fun hHeld=>?_)
           clear hK K
           refine norm_ (a':=?_) ?_ ?_
           rotate_left
           ·show Act.put _ (some 7) _ = _
            simp only [Act.put,List.setIfInBounds_toArray,List.set_cons_zero,List.set_cons_succ,i64_w,i32_w]
            rfl
           refine one_ (i:=10) (N:=some 8) #[true,true,true,true,true,true,true,true,true,true,true,false,false] rfl rfl (one_of HT_.out (by kernel_rfl)) (by decide) (fun K hK=>?_)
           refine box_step ?hg (N:=8) ?hd (cs := #[.int .i64 0,.int .i64 0]) (t:=60) ?hr ?_;(case hd=>rfl);(case hg=>rfl);(case hr=>first|(go_simp;done)|(go_simp;rfl))
           intro gb268 hg w12 hbox hb
           have n0_:=zM (blk_below (g:=gb267) (o := .cells #[.int .i64 0,.int .i64 0] 60 (0,0)) (by (with_reducible repeat (first|refine zJ ?_ _|refine zK ?_|refine zL ?_ _));exact BK267.out) hb)
           have n1_:=zM (zQ (by repeat (first|(with_reducible first|exact HB.out|apply zD|apply zE|apply zF|refine below_set ?_ GE267.out)|exact HB.out)) hb)
           have n2_:=zM (hbox)
           have n3_:=zM ((by rw [hg];exact (zR (by repeat (first|(with_reducible first|exact HB.out|apply zD|apply zE|apply zF|refine below_set ?_ GE267.out)|exact HB.out))) : w.heap.size ≤ gb268))
           have n4_:=zM ((by rw [hg];exact (zR (by repeat (first|(with_reducible first|exact HB.out|apply zD|apply zE|apply zF|refine below_set ?_ GE267.out)|exact HB.out))) : w.heap.size ≤ gb268))
           have n5_:=zM ((by rw [hg];exact Nat.ne_of_lt (blk_lt (g:=gb267) (o := .cells #[.int .i64 0,.int .i64 0] 60 (0,0)) (by (with_reducible repeat (first|refine zJ ?_ _|refine zK ?_|refine zL ?_ _));exact BK267.out)) : gb267 ≠ gb268))
           have n6_:=zM ((by rw [hg];exact Nat.ne_of_gt (blk_lt (g:=gb267) (o := .cells #[.int .i64 0,.int .i64 0] 60 (0,0)) (by (with_reducible repeat (first|refine zJ ?_ _|refine zK ?_|refine zL ?_ _));exact BK267.out)) : gb268 ≠ gb267))
           clear BK267
           clear HB
           have BK267:=n0_
           have HB:=n1_
           have BK268:=n2_
           have GW268:=n3_
           have GE268:=n4_
           have NB267_268:=n5_
           have NB268_267:=n6_
           clear n0_ n1_ n2_ n3_ n4_ n5_ n6_
           clear hb hbox hg
           refine hK.out _ _ ⟨((HB.out.cell (World.block_lt_of_cell? w _ hw265_0)).trans hw265_0),((HB.out.cell (World.block_lt_of_cell? w _ hw265_1)).trans hw265_1),((HB.out.cell (World.block_lt_of_cell? w _ hw266_0)).trans hw266_0),((HB.out.cell (World.block_lt_of_cell? w _ hw266_1)).trans hw266_1)⟩ (fun hHeld=>?_)
           clear hK K
           refine norm_ (a':=?_) ?_ ?_
           rotate_left
           ·show Act.put _ (some 8) _ = _
            simp only [Act.put,List.setIfInBounds_toArray,List.set_cons_zero,List.set_cons_succ,i64_w,i32_w]
            rfl
           exact norm_ (by simp only [putAll,Act.put,List.setIfInBounds_toArray,List.set_cons_zero,List.set_cons_succ]) (hCont (gb267,gb268) _ ⟨hHeld,(by (with_reducible repeat (first|refine zJ ?_ _|refine zK ?_|refine zL ?_ _));exact BK267.out),(by (with_reducible repeat (first|refine zJ ?_ _|refine zK ?_|refine zL ?_ _));exact BK268.out),GW267.out,GE267.out,NB268_267.out,NB267_268.out,GW268.out,GE268.out,(by repeat (first|(with_reducible first|exact HB.out|apply zD|apply zE|apply zF|refine below_set ?_ GE267.out|refine below_set ?_ GE268.out)|exact HB.out))⟩)
          ·skip
           refine box_step ?hg (N:=8) ?hd (cs := #[.int .i64 0,.int .i64 0]) (t:=60) ?hr ?_;(case hd=>rfl);(case hg=>rfl);(case hr=>first|(go_simp;done)|(go_simp;rfl))
           intro gb268 hg w11 hbox hb
           have n0_:=zM (zQ (by repeat (first|(with_reducible first|exact HB.out|apply zD|apply zE|apply zF)|exact HB.out)) hb)
           have n1_:=zM (hbox)
           have n2_:=zM ((by rw [hg];exact (zR (by repeat (first|(with_reducible first|exact HB.out|apply zD|apply zE|apply zF)|exact HB.out))) : w.heap.size ≤ gb268))
           have n3_:=zM ((by rw [hg];exact (zR (by repeat (first|(with_reducible first|exact HB.out|apply zD|apply zE|apply zF)|exact HB.out))) : w.heap.size ≤ gb268))
           clear HB
           have HB:=n0_
           have BK268:=n1_
           have GW268:=n2_
           have GE268:=n3_
           clear n0_ n1_ n2_ n3_
           clear hb hbox hg
           refine hK.out _ _ ⟨((HB.out.cell (World.block_lt_of_cell? w _ hw265_0)).trans hw265_0),((HB.out.cell (World.block_lt_of_cell? w _ hw265_1)).trans hw265_1),((HB.out.cell (World.block_lt_of_cell? w _ hw266_0)).trans hw266_0),((HB.out.cell (World.block_lt_of_cell? w _ hw266_1)).trans hw266_1)⟩ (fun hHeld=>?_)
           clear hK K
           refine norm_ (a':=?_) ?_ ?_
           rotate_left
           ·show Act.put _ (some 8) _ = _
            simp only [Act.put,List.setIfInBounds_toArray,List.set_cons_zero,List.set_cons_succ,i64_w,i32_w]
            rfl
           refine one_ (i:=9) (N:=some 7) #[true,true,true,true,true,true,true,true,true,true,true,false,false] rfl rfl (one_of HT_.out (by kernel_rfl)) (by decide) (fun K hK=>?_)
           refine box_step ?hg (N:=7) ?hd (cs := #[.int .i64 0,.int .i64 0]) (t:=60) ?hr ?_;(case hd=>rfl);(case hg=>rfl);(case hr=>first|(go_simp;done)|(go_simp;rfl))
           intro gb267 hg w12 hbox hb
           have n0_:=zM (blk_below (g:=gb268) (o := .cells #[.int .i64 0,.int .i64 0] 60 (0,0)) (by (with_reducible repeat (first|refine zJ ?_ _|refine zK ?_|refine zL ?_ _));exact BK268.out) hb)
           have n1_:=zM (zQ (by repeat (first|(with_reducible first|exact HB.out|apply zD|apply zE|apply zF|refine below_set ?_ GE268.out)|exact HB.out)) hb)
           have n2_:=zM (hbox)
           have n3_:=zM ((by rw [hg];exact (zR (by repeat (first|(with_reducible first|exact HB.out|apply zD|apply zE|apply zF|refine below_set ?_ GE268.out)|exact HB.out))) : w.heap.size ≤ gb267))
           have n4_:=zM ((by rw [hg];exact (zR (by repeat (first|(with_reducible first|exact HB.out|apply zD|apply zE|apply zF|refine below_set ?_ GE268.out)|exact HB.out))) : w.heap.size ≤ gb267))
           have n5_:=zM ((by rw [hg];exact Nat.ne_of_lt (blk_lt (g:=gb268) (o := .cells #[.int .i64 0,.int .i64 0] 60 (0,0)) (by (with_reducible repeat (first|refine zJ ?_ _|refine zK ?_|refine zL ?_ _));exact BK268.out)) : gb268 ≠ gb267))
           have n6_:=zM ((by rw [hg];exact Nat.ne_of_gt (blk_lt (g:=gb268) (o := .cells #[.int .i64 0,.int .i64 0] 60 (0,0)) (by (with_reducible repeat (first|refine zJ ?_ _|refine zK ?_|refine zL ?_ _));exact BK268.out)) : gb267 ≠ gb268))
           clear BK268
           clear HB
           have BK268:=n0_
           have HB:=n1_
           have BK267:=n2_
           have GW267:=n3_
           have GE267:=n4_
           have NB268_267:=n5_
           have NB267_268:=n6_
           clear n0_ n1_ n2_ n3_ n4_ n5_ n6_
           clear hb hbox hg
           refine hK.out _ _ ⟨((HB.out.cell (World.block_lt_of_cell? w _ hw265_0)).trans hw265_0),((HB.out.cell (World.block_lt_of_cell? w _ hw265_1)).trans hw265_1),((HB.out.cell (World.block_lt_of_cell? w _ hw266_0)).trans hw266_0),((HB.out.cell (World.block_lt_of_cell? w _ hw266_1)).trans hw266_1)⟩ (fun hHeld=>?_)
           clear hK K
           refine norm_ (a':=?_) ?_ ?_
           rotate_left
           ·show Act.put _ (some 7) _ = _
            simp only [Act.put,List.setIfInBounds_toArray,List.set_cons_zero,List.set_cons_succ,i64_w,i32_w]
            rfl
           exact norm_ (by simp only [putAll,Act.put,List.setIfInBounds_toArray,List.set_cons_zero,List.set_cons_succ]) (hCont (gb267,gb268) _ ⟨hHeld,(by (with_reducible repeat (first|refine zJ ?_ _|refine zK ?_|refine zL ?_ _));exact BK267.out),(by (with_reducible repeat (first|refine zJ ?_ _|refine zK ?_|refine zL ?_ _));exact BK268.out),GW267.out,GE267.out,NB268_267.out,NB267_268.out,GW268.out,GE268.out,(by repeat (first|(with_reducible first|exact HB.out|apply zD|apply zE|apply zF|refine below_set ?_ GE268.out|refine below_set ?_ GE267.out)|exact HB.out))⟩)
         rintro ⟨gb267,gb268⟩ w13 ⟨hS_,h0_,h1_,h2_,h3_,h4_,h5_,h6_,h7_,h8_⟩
         have n0_ : Aside0 (w13.heap[gb267]? = some (.cells #[.int .i64 0,.int .i64 0] 60 (0,0))):=⟨h0_⟩
         have n1_ : Aside0 (w13.heap[gb268]? = some (.cells #[.int .i64 0,.int .i64 0] 60 (0,0))):=⟨h1_⟩
         have n2_ : Aside0 (w.heap.size ≤ gb267):=⟨h2_⟩
         have n3_ : Aside0 (w.heap.size ≤ gb267):=⟨h3_⟩
         have n4_ : Aside0 (gb268 ≠ gb267):=⟨h4_⟩
         have n5_ : Aside0 (gb267 ≠ gb268):=⟨h5_⟩
         have n6_ : Aside0 (w.heap.size ≤ gb268):=⟨h6_⟩
         have n7_ : Aside0 (w.heap.size ≤ gb268):=⟨h7_⟩
         have n8_ : Aside0 (Below w.heap.size w w13):=⟨h8_⟩
         clear HB
         clear h0_ h1_ h2_ h3_ h4_ h5_ h6_ h7_ h8_
         have BK267:=n0_
         have BK268:=n1_
         have GW267:=n2_
         have GE267:=n3_
         have NB268_267:=n4_
         have NB267_268:=n5_
         have GW268:=n6_
         have GE268:=n7_
         have HB:=n8_
         clear n0_ n1_ n2_ n3_ n4_ n5_ n6_ n7_ n8_
         have hHeld : w13.cell? (ad264.add ((x6_1).toNat * 2)) = some (.int .i64 ((rd_T60 l0 x6_1).f0)) ∧ w13.cell? ⟨(ad264.add ((x6_1).toNat * 2)).block,(ad264.add ((x6_1).toNat * 2)).off + 1,none⟩ = some (.int .i64 ((rd_T60 l0 x6_1).f1)) ∧ w13.cell? (ad264.add (((ji4)).toNat * 2)) = some (.int .i64 ((rd_T60 l0 (ji4)).f0)) ∧ w13.cell? ⟨(ad264.add (((ji4)).toNat * 2)).block,(ad264.add (((ji4)).toNat * 2)).off + 1,none⟩ = some (.int .i64 ((rd_T60 l0 (ji4)).f1)):=hS_
         refine norm_ (a':=?_) ?_ ?_
         rotate_left
         ·simp only [putAll,Act.put,List.setIfInBounds_toArray,List.set_cons_zero,List.set_cons_succ]
          rfl
         refine one_ (i:=11) (N:=none) #[true,true,true,true,true,true,true,true,true,true,true,true,false] rfl rfl (one_of HT_.out (by kernel_rfl)) (by decide) (fun K hK=>?_)
         have hs14 : w13.cell? ⟨gb267,0,none⟩ = some (.int .i64 0):=(blk_cell BK267.out 0).trans rfl
         have hfs14:=blk_frozen BK267.out 0
         have hns14_1:=NB268_267.out
         have hms14_1:=NB267_268.out
         have hs15 : w13.cell? ⟨gb267,1,none⟩ = some (.int .i64 0):=(blk_cell BK267.out 1).trans rfl
         have hfs15:=blk_frozen BK267.out 1
         have hns15_1:=NB268_267.out
         have hms15_1:=NB267_268.out
         refine skip_ (w1:=?_) (by rfl) rfl ?_ ?_
         rotate_left
         ·go_simp
          rfl
         refine hK.out _ _ ⟨((cell_far (p:=⟨gb267,_,none⟩) (by first|exact Nat.ne_of_lt (Nat.lt_of_lt_of_le (by have:=World.block_lt_of_cell? _ _ hw265_0;first|rwa [add_block] at this|exact this) GW267.out)|(rw [add_block];exact Nat.ne_of_lt (Nat.lt_of_lt_of_le (by have:=World.block_lt_of_cell? _ _ hw265_0;first|rwa [add_block] at this|exact this) GW267.out))|(show (Addr.add _ _).block ≠ _;rw [add_block];exact Nat.ne_of_lt (Nat.lt_of_lt_of_le (by have:=World.block_lt_of_cell? _ _ hw265_0;first|rwa [add_block] at this|exact this) GW267.out))|(dsimp only;exact Nat.ne_of_lt (Nat.lt_of_lt_of_le (by have:=World.block_lt_of_cell? _ _ hw265_0;first|rwa [add_block] at this|exact this) GW267.out))) _).trans (((cell_far (p:=⟨gb267,_,none⟩) (by first|exact Nat.ne_of_lt (Nat.lt_of_lt_of_le (by have:=World.block_lt_of_cell? _ _ hw265_0;first|rwa [add_block] at this|exact this) GW267.out)|(rw [add_block];exact Nat.ne_of_lt (Nat.lt_of_lt_of_le (by have:=World.block_lt_of_cell? _ _ hw265_0;first|rwa [add_block] at this|exact this) GW267.out))|(show (Addr.add _ _).block ≠ _;rw [add_block];exact Nat.ne_of_lt (Nat.lt_of_lt_of_le (by have:=World.block_lt_of_cell? _ _ hw265_0;first|rwa [add_block] at this|exact this) GW267.out))|(dsimp only;exact Nat.ne_of_lt (Nat.lt_of_lt_of_le (by have:=World.block_lt_of_cell? _ _ hw265_0;first|rwa [add_block] at this|exact this) GW267.out))) _).trans (hHeld.1)))),((cell_far (p:=⟨gb267,_,none⟩) (by first|exact Nat.ne_of_lt (Nat.lt_of_lt_of_le (by have:=World.block_lt_of_cell? _ _ hw265_1;first|rwa [add_block] at this|exact this) GW267.out)|(rw [add_block];exact Nat.ne_of_lt (Nat.lt_of_lt_of_le (by have:=World.block_lt_of_cell? _ _ hw265_1;first|rwa [add_block] at this|exact this) GW267.out))|(show (Addr.add _ _).block ≠ _;rw [add_block];exact Nat.ne_of_lt (Nat.lt_of_lt_of_le (by have:=World.block_lt_of_cell? _ _ hw265_1;first|rwa [add_block] at this|exact this) GW267.out))|(dsimp only;exact Nat.ne_of_lt (Nat.lt_of_lt_of_le (by have:=World.block_lt_of_cell? _ _ hw265_1;first|rwa [add_block] at this|exact this) GW267.out))) _).trans (((cell_far (p:=⟨gb267,_,none⟩) (by first|exact Nat.ne_of_lt (Nat.lt_of_lt_of_le (by have:=World.block_lt_of_cell? _ _ hw265_1;first|rwa [add_block] at this|exact this) GW267.out)|(rw [add_block];exact Nat.ne_of_lt (Nat.lt_of_lt_of_le (by have:=World.block_lt_of_cell? _ _ hw265_1;first|rwa [add_block] at this|exact this) GW267.out))|(show (Addr.add _ _).block ≠ _;rw [add_block];exact Nat.ne_of_lt (Nat.lt_of_lt_of_le (by have:=World.block_lt_of_cell? _ _ hw265_1;first|rwa [add_block] at this|exact this) GW267.out))|(dsimp only;exact Nat.ne_of_lt (Nat.lt_of_lt_of_le (by have:=World.block_lt_of_cell? _ _ hw265_1;first|rwa [add_block] at this|exact this) GW267.out))) _).trans (hHeld.2.1)))),((cell_far (p:=⟨gb267,_,none⟩) (by first|exact Nat.ne_of_lt (Nat.lt_of_lt_of_le (by have:=World.block_lt_of_cell? _ _ hw266_0;first|rwa [add_block] at this|exact this) GW267.out)|(rw [add_block];exact Nat.ne_of_lt (Nat.lt_of_lt_of_le (by have:=World.block_lt_of_cell? _ _ hw266_0;first|rwa [add_block] at this|exact this) GW267.out))|(show (Addr.add _ _).block ≠ _;rw [add_block];exact Nat.ne_of_lt (Nat.lt_of_lt_of_le (by have:=World.block_lt_of_cell? _ _ hw266_0;first|rwa [add_block] at this|exact this) GW267.out))|(dsimp only;exact Nat.ne_of_lt (Nat.lt_of_lt_of_le (by have:=World.block_lt_of_cell? _ _ hw266_0;first|rwa [add_block] at this|exact this) GW267.out))) _).trans (((cell_far (p:=⟨gb267,_,none⟩) (by first|exact Nat.ne_of_lt (Nat.lt_of_lt_of_le (by have:=World.block_lt_of_cell? _ _ hw266_0;first|rwa [add_block] at this|exact this) GW267.out)|(rw [add_block];exact Nat.ne_of_lt (Nat.lt_of_lt_of_le (by have:=World.block_lt_of_cell? _ _ hw266_0;first|rwa [add_block] at this|exact this) GW267.out))|(show (Addr.add _ _).block ≠ _;rw [add_block];exact Nat.ne_of_lt (Nat.lt_of_lt_of_le (by have:=World.block_lt_of_cell? _ _ hw266_0;first|rwa [add_block] at this|exact this) GW267.out))|(dsimp only;exact Nat.ne_of_lt (Nat.lt_of_lt_of_le (by have:=World.block_lt_of_cell? _ _ hw266_0;first|rwa [add_block] at this|exact this) GW267.out))) _).trans (hHeld.2.2.1)))),((cell_far (p:=⟨gb267,_,none⟩) (by first|exact Nat.ne_of_lt (Nat.lt_of_lt_of_le (by have:=World.block_lt_of_cell? _ _ hw266_1;first|rwa [add_block] at this|exact this) GW267.out)|(rw [add_block];exact Nat.ne_of_lt (Nat.lt_of_lt_of_le (by have:=World.block_lt_of_cell? _ _ hw266_1;first|rwa [add_block] at this|exact this) GW267.out))|(show (Addr.add _ _).block ≠ _;rw [add_block];exact Nat.ne_of_lt (Nat.lt_of_lt_of_le (by have:=World.block_lt_of_cell? _ _ hw266_1;first|rwa [add_block] at this|exact this) GW267.out))|(dsimp only;exact Nat.ne_of_lt (Nat.lt_of_lt_of_le (by have:=World.block_lt_of_cell? _ _ hw266_1;first|rwa [add_block] at this|exact this) GW267.out))) _).trans (((cell_far (p:=⟨gb267,_,none⟩) (by first|exact Nat.ne_of_lt (Nat.lt_of_lt_of_le (by have:=World.block_lt_of_cell? _ _ hw266_1;first|rwa [add_block] at this|exact this) GW267.out)|(rw [add_block];exact Nat.ne_of_lt (Nat.lt_of_lt_of_le (by have:=World.block_lt_of_cell? _ _ hw266_1;first|rwa [add_block] at this|exact this) GW267.out))|(show (Addr.add _ _).block ≠ _;rw [add_block];exact Nat.ne_of_lt (Nat.lt_of_lt_of_le (by have:=World.block_lt_of_cell? _ _ hw266_1;first|rwa [add_block] at this|exact this) GW267.out))|(dsimp only;exact Nat.ne_of_lt (Nat.lt_of_lt_of_le (by have:=World.block_lt_of_cell? _ _ hw266_1;first|rwa [add_block] at this|exact this) GW267.out))) _).trans (hHeld.2.2.2))))⟩ (fun hHeld=>?_)
         clear hK K
         refine one_ (i:=12) (N:=none) #[true,true,true,true,true,true,true,true,true,true,true,true,true] rfl rfl (one_of HT_.out (by kernel_rfl)) (by decide) (fun K hK=>?_)
         have hs16 : w13.cell? ⟨gb268,0,none⟩ = some (.int .i64 0):=(blk_cell BK268.out 0).trans rfl
         have hfs16:=blk_frozen BK268.out 0
         have hns16_0:=NB267_268.out
         have hms16_0:=NB268_267.out
         have hs17 : w13.cell? ⟨gb268,1,none⟩ = some (.int .i64 0):=(blk_cell BK268.out 1).trans rfl
         have hfs17:=blk_frozen BK268.out 1
         have hns17_0:=NB267_268.out
         have hms17_0:=NB268_267.out
         refine skip_ (w1:=?_) (by rfl) rfl ?_ ?_
         rotate_left
         ·go_simp
          rfl
         refine hK.out _ _ ⟨((cell_far (p:=⟨gb268,_,none⟩) (by first|exact Nat.ne_of_lt (Nat.lt_of_lt_of_le (by have:=World.block_lt_of_cell? _ _ hw265_0;first|rwa [add_block] at this|exact this) GW268.out)|(rw [add_block];exact Nat.ne_of_lt (Nat.lt_of_lt_of_le (by have:=World.block_lt_of_cell? _ _ hw265_0;first|rwa [add_block] at this|exact this) GW268.out))|(show (Addr.add _ _).block ≠ _;rw [add_block];exact Nat.ne_of_lt (Nat.lt_of_lt_of_le (by have:=World.block_lt_of_cell? _ _ hw265_0;first|rwa [add_block] at this|exact this) GW268.out))|(dsimp only;exact Nat.ne_of_lt (Nat.lt_of_lt_of_le (by have:=World.block_lt_of_cell? _ _ hw265_0;first|rwa [add_block] at this|exact this) GW268.out))) _).trans (((cell_far (p:=⟨gb268,_,none⟩) (by first|exact Nat.ne_of_lt (Nat.lt_of_lt_of_le (by have:=World.block_lt_of_cell? _ _ hw265_0;first|rwa [add_block] at this|exact this) GW268.out)|(rw [add_block];exact Nat.ne_of_lt (Nat.lt_of_lt_of_le (by have:=World.block_lt_of_cell? _ _ hw265_0;first|rwa [add_block] at this|exact this) GW268.out))|(show (Addr.add _ _).block ≠ _;rw [add_block];exact Nat.ne_of_lt (Nat.lt_of_lt_of_le (by have:=World.block_lt_of_cell? _ _ hw265_0;first|rwa [add_block] at this|exact this) GW268.out))|(dsimp only;exact Nat.ne_of_lt (Nat.lt_of_lt_of_le (by have:=World.block_lt_of_cell? _ _ hw265_0;first|rwa [add_block] at this|exact this) GW268.out))) _).trans (hHeld.1)))),((cell_far (p:=⟨gb268,_,none⟩) (by first|exact Nat.ne_of_lt (Nat.lt_of_lt_of_le (by have:=World.block_lt_of_cell? _ _ hw265_1;first|rwa [add_block] at this|exact this) GW268.out)|(rw [add_block];exact Nat.ne_of_lt (Nat.lt_of_lt_of_le (by have:=World.block_lt_of_cell? _ _ hw265_1;first|rwa [add_block] at this|exact this) GW268.out))|(show (Addr.add _ _).block ≠ _;rw [add_block];exact Nat.ne_of_lt (Nat.lt_of_lt_of_le (by have:=World.block_lt_of_cell? _ _ hw265_1;first|rwa [add_block] at this|exact this) GW268.out))|(dsimp only;exact Nat.ne_of_lt (Nat.lt_of_lt_of_le (by have:=World.block_lt_of_cell? _ _ hw265_1;first|rwa [add_block] at this|exact this) GW268.out))) _).trans (((cell_far (p:=⟨gb268,_,none⟩) (by first|exact Nat.ne_of_lt (Nat.lt_of_lt_of_le (by have:=World.block_lt_of_cell? _ _ hw265_1;first|rwa [add_block] at this|exact this) GW268.out)|(rw [add_block];exact Nat.ne_of_lt (Nat.lt_of_lt_of_le (by have:=World.block_lt_of_cell? _ _ hw265_1;first|rwa [add_block] at this|exact this) GW268.out))|(show (Addr.add _ _).block ≠ _;rw [add_block];exact Nat.ne_of_lt (Nat.lt_of_lt_of_le (by have:=World.block_lt_of_cell? _ _ hw265_1;first|rwa [add_block] at this|exact this) GW268.out))|(dsimp only;exact Nat.ne_of_lt (Nat.lt_of_lt_of_le (by have:=World.block_lt_of_cell? _ _ hw265_1;first|rwa [add_block] at this|exact this) GW268.out))) _).trans (hHeld.2.1)))),((cell_far (p:=⟨gb268,_,none⟩) (by first|exact Nat.ne_of_lt (Nat.lt_of_lt_of_le (by have:=World.block_lt_of_cell? _ _ hw266_0;first|rwa [add_block] at this|exact this) GW268.out)|(rw [add_block];exact Nat.ne_of_lt (Nat.lt_of_lt_of_le (by have:=World.block_lt_of_cell? _ _ hw266_0;first|rwa [add_block] at this|exact this) GW268.out))|(show (Addr.add _ _).block ≠ _;rw [add_block];exact Nat.ne_of_lt (Nat.lt_of_lt_of_le (by have:=World.block_lt_of_cell? _ _ hw266_0;first|rwa [add_block] at this|exact this) GW268.out))|(dsimp only;exact Nat.ne_of_lt (Nat.lt_of_lt_of_le (by have:=World.block_lt_of_cell? _ _ hw266_0;first|rwa [add_block] at this|exact this) GW268.out))) _).trans (((cell_far (p:=⟨gb268,_,none⟩) (by first|exact Nat.ne_of_lt (Nat.lt_of_lt_of_le (by have:=World.block_lt_of_cell? _ _ hw266_0;first|rwa [add_block] at this|exact this) GW268.out)|(rw [add_block];exact Nat.ne_of_lt (Nat.lt_of_lt_of_le (by have:=World.block_lt_of_cell? _ _ hw266_0;first|rwa [add_block] at this|exact this) GW268.out))|(show (Addr.add _ _).block ≠ _;rw [add_block];exact Nat.ne_of_lt (Nat.lt_of_lt_of_le (by have:=World.block_lt_of_cell? _ _ hw266_0;first|rwa [add_block] at this|exact this) GW268.out))|(dsimp only;exact Nat.ne_of_lt (Nat.lt_of_lt_of_le (by have:=World.block_lt_of_cell? _ _ hw266_0;first|rwa [add_block] at this|exact this) GW268.out))) _).trans (hHeld.2.2.1)))),((cell_far (p:=⟨gb268,_,none⟩) (by first|exact Nat.ne_of_lt (Nat.lt_of_lt_of_le (by have:=World.block_lt_of_cell? _ _ hw266_1;first|rwa [add_block] at this|exact this) GW268.out)|(rw [add_block];exact Nat.ne_of_lt (Nat.lt_of_lt_of_le (by have:=World.block_lt_of_cell? _ _ hw266_1;first|rwa [add_block] at this|exact this) GW268.out))|(show (Addr.add _ _).block ≠ _;rw [add_block];exact Nat.ne_of_lt (Nat.lt_of_lt_of_le (by have:=World.block_lt_of_cell? _ _ hw266_1;first|rwa [add_block] at this|exact this) GW268.out))|(dsimp only;exact Nat.ne_of_lt (Nat.lt_of_lt_of_le (by have:=World.block_lt_of_cell? _ _ hw266_1;first|rwa [add_block] at this|exact this) GW268.out))) _).trans (((cell_far (p:=⟨gb268,_,none⟩) (by first|exact Nat.ne_of_lt (Nat.lt_of_lt_of_le (by have:=World.block_lt_of_cell? _ _ hw266_1;first|rwa [add_block] at this|exact this) GW268.out)|(rw [add_block];exact Nat.ne_of_lt (Nat.lt_of_lt_of_le (by have:=World.block_lt_of_cell? _ _ hw266_1;first|rwa [add_block] at this|exact this) GW268.out))|(show (Addr.add _ _).block ≠ _;rw [add_block];exact Nat.ne_of_lt (Nat.lt_of_lt_of_le (by have:=World.block_lt_of_cell? _ _ hw266_1;first|rwa [add_block] at this|exact this) GW268.out))|(dsimp only;exact Nat.ne_of_lt (Nat.lt_of_lt_of_le (by have:=World.block_lt_of_cell? _ _ hw266_1;first|rwa [add_block] at this|exact this) GW268.out))) _).trans (hHeld.2.2.2))))⟩ (fun hHeld=>?_)
         clear hK K
         refine done_ (done_of HT_.out (by kernel_rfl)) ?_
         have hnb18:=NB268_267.out
         have hnc18:=NB267_268.out
         have hcz19_0 : w13.cell? ⟨gb268,0,none⟩ = some (.int .i64 0):=(blk_cell BK268.out 0).trans rfl
         have hcz19_1 : w13.cell? ⟨gb268,1,none⟩ = some (.int .i64 0):=(blk_cell BK268.out 1).trans rfl
         have hfz19_0:=blk_frozen BK268.out 0
         have hfz19_1:=blk_frozen BK268.out 1
         have hcz20_0 : w13.cell? ⟨gb267,0,none⟩ = some (.int .i64 0):=(blk_cell BK267.out 0).trans rfl
         have hcz20_1 : w13.cell? ⟨gb267,1,none⟩ = some (.int .i64 0):=(blk_cell BK267.out 1).trans rfl
         have hfz20_0:=blk_frozen BK267.out 0
         have hfz20_1:=blk_frozen BK267.out 1
         try go_wp2
         go_ret2
         exact ⟨by first|rfl|(simp [errW_none,errW_some] <;> rfl)|(simp only [← hji4];first|rfl|(simp [errW_none,errW_some] <;> rfl))|(simp [*,errW_none,errW_some] <;> rfl),by repeat (first|(with_reducible first|exact HB.out|apply zD|apply zE|apply zF|refine below_set ?_ GE267.out|refine below_set ?_ GE268.out)|exact HB.out)⟩
        ·rw [if_neg c9] at H
         exact absurd H (by simp)
       ·rw [if_neg c8] at H
        exact absurd H (by simp)
     ·rw [if_neg c6] at H
      exact absurd H (by simp)
    ·rw [if_neg c5] at H
     exact absurd H (by simp)
   ·rw [if_neg c3] at H
    have c3b0 : decide ((wrap64 (x6_1 + 2)) < (l0.length : Int)) = false:=decide_eq_false c3
    clear c3
    by_cases c21 : 0 ≤ x6_1
    ·rw [if_pos c21] at H
     have c21b0 : decide (0 ≤ x6_1) = true:=decide_eq_true c21
     clear c21
     by_cases c22 : x6_1 < (l0.length : Int)
     ·rw [if_pos c22] at H
      have c22b0 : decide (x6_1 < (l0.length : Int)) = true:=decide_eq_true c22
      clear c22
      obtain ⟨ji23,hji23⟩ : ∃ j_ : Int,(wrap64 (x6_1 + 1)) = j_:=⟨_,rfl⟩
      replace H : (if 0 ≤ (ji23) then (if (ji23) < (l0.length : Int) then (some (wrap64 ((wrap64 (((rd_T60 l0 x6_1).f1) * (wrap64 (((rd_T60 l0 (ji23)).f0) - ((rd_T60 l0 x6_1).f0))))) + (wrap64 ((wrap64 (((rd_T60 l0 (ji23)).f1) - ((rd_T60 l0 x6_1).f1))) * (wrap64 (a1 - ((rd_T60 l0 x6_1).f0)))))),wrap64 (((rd_T60 l0 (ji23)).f0) - ((rd_T60 l0 x6_1).f0)))) else (none)) else (none)) = some (r1,r2):=by first|(rw [hji23] at H;exact H)|(simp only [hji23] at H ⊢;exact H)
      have hji23w : (IntKind.i64.wrap (x6_1 + 1)) = ji23:=(i64_w _).trans hji23
      by_cases c24 : 0 ≤ (ji23)
      ·rw [if_pos c24] at H
       have c24b0 : decide (0 ≤ (ji23)) = true:=decide_eq_true c24
       clear c24
       by_cases c25 : (ji23) < (l0.length : Int)
       ·rw [if_pos c25] at H
        have c25b0 : decide ((ji23) < (l0.length : Int)) = true:=decide_eq_true c25
        clear c25
        simp only [Option.some.injEq,Prod.mk.injEq] at H
        obtain ⟨rfl,rfl⟩:=H
        try go_wp2
        have n0_:=zM (zF HB.out)
        clear HB
        have HB:=n0_
        clear n0_
        have p269 : 0 ≤ (x6_1 : Int):=of_decide_eq_true (by first|(with_reducible assumption)|assumption)
        have q269 : x6_1 < (l0.length : Int):=of_decide_eq_true (by first|(with_reducible assumption)|assumption)
        obtain ⟨ad269,e269,hx269_0,hx269_1⟩:=at_T60 HR0.out x6_1 p269 q269
        have hw269_1:=hx269_1
        have hw269_0:=hx269_0
        cases e269
        replace hx269_0:=(HB.out.cell (World.block_lt_of_cell? w _ hx269_0)).trans hx269_0
        replace hx269_1:=(HB.out.cell (World.block_lt_of_cell? w _ hx269_1)).trans hx269_1
        replace p269:=eq_true p269
        replace q269:=eq_true q269
        have p270 : 0 ≤ ((ji23) : Int):=of_decide_eq_true (by first|(with_reducible assumption)|assumption)
        have q270 : (ji23) < (l0.length : Int):=of_decide_eq_true (by first|(with_reducible assumption)|assumption)
        obtain ⟨ad270,e270,hx270_0,hx270_1⟩:=at_T60 HR0.out (ji23) p270 q270
        have hw270_1:=hx270_1
        have hw270_0:=hx270_0
        obtain rfl : ad269 = ad270:=(by injection e270)
        replace hx270_0:=(HB.out.cell (World.block_lt_of_cell? w _ hx270_0)).trans hx270_0
        replace hx270_1:=(HB.out.cell (World.block_lt_of_cell? w _ hx270_1)).trans hx270_1
        replace p270:=eq_true p270
        replace q270:=eq_true q270
        refine start_ (n:=13) (S:=fun w'=>w'.cell? (ad269.add ((x6_1).toNat * 2)) = some (.int .i64 ((rd_T60 l0 x6_1).f0)) ∧ w'.cell? ⟨(ad269.add ((x6_1).toNat * 2)).block,(ad269.add ((x6_1).toNat * 2)).off + 1,none⟩ = some (.int .i64 ((rd_T60 l0 x6_1).f1)) ∧ w'.cell? (ad269.add (((ji23)).toNat * 2)) = some (.int .i64 ((rd_T60 l0 (ji23)).f0)) ∧ w'.cell? ⟨(ad269.add (((ji23)).toNat * 2)).block,(ad269.add (((ji23)).toNat * 2)).off + 1,none⟩ = some (.int .i64 ((rd_T60 l0 (ji23)).f1))) (ds:=[]) #[false,false,false,false,false,false,false,false,false,false,false,false,false] (by kernel_rfl) rfl rfl ⟨((HB.out.cell (World.block_lt_of_cell? w _ hw269_0)).trans hw269_0),((HB.out.cell (World.block_lt_of_cell? w _ hw269_1)).trans hw269_1),((HB.out.cell (World.block_lt_of_cell? w _ hw270_0)).trans hw270_0),((HB.out.cell (World.block_lt_of_cell? w _ hw270_1)).trans hw270_1)⟩ (fun hHeld=>?_);refine with_tabW spec_l15Height.tab4 spec_l15Height.bits4 (fun HT_ HW_=>?_)
        generalize wr.drew = w26 at HB hx269_0 hx269_1 hx270_0 hx270_1 hHeld ⊢
        refine pure_ (i:=0) (N:=some 27) (v:=?_) (a':=?_) #[true,false,false,false,false,false,false,false,false,false,false,false,false] rfl rfl (any_of HT_.out (by kernel_rfl)) (fun _ _ _ h=>h) (Or.inl ⟨by rfl,?_⟩) ?_ ?_
        rotate_left
        ·intro w'
         go_simp
         with_reducible rfl
        rotate_left
        ·simp only [Act.put,List.setIfInBounds_toArray,List.set_cons_zero,List.set_cons_succ,i64_w,i32_w]
         rfl
        refine pure_ (i:=1) (N:=some 28) (v:=?_) (a':=?_) #[true,true,false,false,false,false,false,false,false,false,false,false,false] rfl rfl (any_of HT_.out (by kernel_rfl)) (fun _ _ _ h=>h) (Or.inl ⟨by rfl,?_⟩) ?_ ?_
        rotate_left
        ·intro w'
         go_simp
         with_reducible rfl
        rotate_left
        ·simp only [Act.put,List.setIfInBounds_toArray,List.set_cons_zero,List.set_cons_succ,i64_w,i32_w]
         rfl
        refine pure_ (i:=2) (N:=some 29) (v:=?_) (a':=?_) #[true,true,true,false,false,false,false,false,false,false,false,false,false] rfl rfl (any_of HT_.out (by kernel_rfl)) (fun _ _ _ h=>h) (Or.inl ⟨by rfl,?_⟩) ?_ ?_
        rotate_left
        ·intro w'
         go_simp
         with_reducible rfl
        rotate_left
        ·simp only [Act.put,List.setIfInBounds_toArray,List.set_cons_zero,List.set_cons_succ,i64_w,i32_w]
         rfl
        refine pure_ (i:=4) (N:=some 31) (v:=?_) (a':=?_) #[true,true,true,false,true,false,false,false,false,false,false,false,false] rfl rfl (any_of HT_.out (by kernel_rfl)) (fun _ _ _ h=>h) (Or.inl ⟨by rfl,?_⟩) ?_ ?_
        rotate_left
        ·intro w'
         go_simp
         with_reducible rfl
        rotate_left
        ·simp only [Act.put,List.setIfInBounds_toArray,List.set_cons_zero,List.set_cons_succ,i64_w,i32_w]
         rfl
        refine pure_ (i:=5) (N:=some 32) (v:=?_) (a':=?_) #[true,true,true,false,true,true,false,false,false,false,false,false,false] rfl rfl (any_of HT_.out (by kernel_rfl)) (fun _ _ _ h=>h) (Or.inl ⟨by rfl,?_⟩) ?_ ?_
        rotate_left
        ·intro w'
         go_simp
         with_reducible rfl
        rotate_left
        ·simp only [Act.put,List.setIfInBounds_toArray,List.set_cons_zero,List.set_cons_succ,i64_w,i32_w]
         rfl
        refine pure_ (i:=6) (N:=some 33) (v:=?_) (a':=?_) #[true,true,true,false,true,true,true,false,false,false,false,false,false] rfl rfl (any_of HT_.out (by kernel_rfl)) (fun _ _ _ h=>h) (Or.inl ⟨by rfl,?_⟩) ?_ ?_
        rotate_left
        ·intro w'
         go_simp
         with_reducible rfl
        rotate_left
        ·simp only [Act.put,List.setIfInBounds_toArray,List.set_cons_zero,List.set_cons_succ,i64_w,i32_w]
         rfl
        refine pure_ (i:=7) (N:=some 34) (v:=?_) (a':=?_) #[true,true,true,false,true,true,true,true,false,false,false,false,false] rfl rfl (any_of HT_.out (by kernel_rfl)) (fun _ _ _ h=>h) (Or.inl ⟨by rfl,?_⟩) ?_ ?_
        rotate_left
        ·intro w'
         go_simp
         with_reducible rfl
        rotate_left
        ·simp only [Act.put,List.setIfInBounds_toArray,List.set_cons_zero,List.set_cons_succ,i64_w,i32_w]
         rfl
        refine take_ (i:=3) (N:=some 30) (v:=?_) (a':=?_) #[true,true,true,true,true,true,true,true,false,false,false,false,false] rfl rfl (take_ofW HT_.out HW_.out (by kernel_rfl)) (fun _ _ _ h=>h) (Or.inl ⟨by rfl,?_⟩) hHeld ?_ ?_
        rotate_left
        ·rintro w' ⟨s0,s1,s2,s3⟩
         go_simp
         with_reducible rfl
        rotate_left
        ·simp only [Act.put,List.setIfInBounds_toArray,List.set_cons_zero,List.set_cons_succ,i64_w,i32_w]
         rfl
        refine take_ (i:=8) (N:=some 35) (v:=?_) (a':=?_) #[true,true,true,true,true,true,true,true,true,false,false,false,false] rfl rfl (take_ofW HT_.out HW_.out (by kernel_rfl)) (fun _ _ _ h=>h) (Or.inl ⟨by rfl,?_⟩) hHeld ?_ ?_
        rotate_left
        ·rintro w' ⟨s0,s1,s2,s3⟩
         go_simp
         with_reducible rfl
        rotate_left
        ·simp only [Act.put,List.setIfInBounds_toArray,List.set_cons_zero,List.set_cons_succ,i64_w,i32_w]
         rfl
        refine join_ (σ:=Nat × Nat) 2 #[true,true,true,true,true,true,true,true,true,true,true,false,false] (fun s_=>[(7,.pointer (some ⟨s_.1,0,none⟩)),(8,.pointer (some ⟨s_.2,0,none⟩))]) (fun s_ w'=>(w'.cell? (ad269.add ((x6_1).toNat * 2)) = some (.int .i64 ((rd_T60 l0 x6_1).f0)) ∧ w'.cell? ⟨(ad269.add ((x6_1).toNat * 2)).block,(ad269.add ((x6_1).toNat * 2)).off + 1,none⟩ = some (.int .i64 ((rd_T60 l0 x6_1).f1)) ∧ w'.cell? (ad269.add (((ji23)).toNat * 2)) = some (.int .i64 ((rd_T60 l0 (ji23)).f0)) ∧ w'.cell? ⟨(ad269.add (((ji23)).toNat * 2)).block,(ad269.add (((ji23)).toNat * 2)).off + 1,none⟩ = some (.int .i64 ((rd_T60 l0 (ji23)).f1))) ∧ (w'.heap[s_.1]? = some (.cells #[.int .i64 0,.int .i64 0] 60 (0,0))) ∧ (w'.heap[s_.2]? = some (.cells #[.int .i64 0,.int .i64 0] 60 (0,0))) ∧ (w.heap.size ≤ s_.1) ∧ (w.heap.size ≤ s_.1) ∧ (s_.2 ≠ s_.1) ∧ (s_.1 ≠ s_.2) ∧ (w.heap.size ≤ s_.2) ∧ (w.heap.size ≤ s_.2) ∧ (Below w.heap.size w w')) ?_ ?_
        rotate_left
        ·intro hCont
         refine two_ (i:=9) (j:=10) (Ni:=some 7) (Nj:=some 8) #[true,true,true,true,true,true,true,true,true,true,false,false,false] #[true,true,true,true,true,true,true,true,true,false,true,false,false] rfl rfl rfl rfl (two_of HT_.out (by kernel_rfl)) (by decide) (by decide) (fun K hK=>?_) (fun K hK=>?_)
         ·skip
          refine box_step ?hg (N:=7) ?hd (cs := #[.int .i64 0,.int .i64 0]) (t:=60) ?hr ?_;(case hd=>rfl);(case hg=>rfl);(case hr=>first|(go_simp;done)|(go_simp;rfl))
          intro gb271 hg w27 hbox hb
          have n0_:=zM (zQ (by repeat (first|(with_reducible first|exact HB.out|apply zD|apply zE|apply zF)|exact HB.out)) hb)
          have n1_:=zM (hbox)
          have n2_:=zM ((by rw [hg];exact (zR (by repeat (first|(with_reducible first|exact HB.out|apply zD|apply zE|apply zF)|exact HB.out))) : w.heap.size ≤ gb271))
          have n3_:=zM ((by rw [hg];exact (zR (by repeat (first|(with_reducible first|exact HB.out|apply zD|apply zE|apply zF)|exact HB.out))) : w.heap.size ≤ gb271))
          clear HB
          have HB:=n0_
          have BK271:=n1_
          have GW271:=n2_
          have GE271:=n3_
          clear n0_ n1_ n2_ n3_
          clear hb hbox hg
          refine hK.out _ _ ⟨((HB.out.cell (World.block_lt_of_cell? w _ hw269_0)).trans hw269_0),((HB.out.cell (World.block_lt_of_cell? w _ hw269_1)).trans hw269_1),((HB.out.cell (World.block_lt_of_cell? w _ hw270_0)).trans hw270_0),((HB.out.cell (World.block_lt_of_cell? w _ hw270_1)).trans hw270_1)⟩ (fun hHeld=>?_)
          clear hK K
          refine norm_ (a':=?_) ?_ ?_
          rotate_left
          ·show Act.put _ (some 7) _ = _
           simp only [Act.put,List.setIfInBounds_toArray,List.set_cons_zero,List.set_cons_succ,i64_w,i32_w]
           rfl
          refine one_ (i:=10) (N:=some 8) #[true,true,true,true,true,true,true,true,true,true,true,false,false] rfl rfl (one_of HT_.out (by kernel_rfl)) (by decide) (fun K hK=>?_)
          refine box_step ?hg (N:=8) ?hd (cs := #[.int .i64 0,.int .i64 0]) (t:=60) ?hr ?_;(case hd=>rfl);(case hg=>rfl);(case hr=>first|(go_simp;done)|(go_simp;rfl))
          intro gb272 hg w28 hbox hb
          have n0_:=zM (blk_below (g:=gb271) (o := .cells #[.int .i64 0,.int .i64 0] 60 (0,0)) (by (with_reducible repeat (first|refine zJ ?_ _|refine zK ?_|refine zL ?_ _));exact BK271.out) hb)
          have n1_:=zM (zQ (by repeat (first|(with_reducible first|exact HB.out|apply zD|apply zE|apply zF|refine below_set ?_ GE271.out)|exact HB.out)) hb)
          have n2_:=zM (hbox)
          have n3_:=zM ((by rw [hg];exact (zR (by repeat (first|(with_reducible first|exact HB.out|apply zD|apply zE|apply zF|refine below_set ?_ GE271.out)|exact HB.out))) : w.heap.size ≤ gb272))
          have n4_:=zM ((by rw [hg];exact (zR (by repeat (first|(with_reducible first|exact HB.out|apply zD|apply zE|apply zF|refine below_set ?_ GE271.out)|exact HB.out))) : w.heap.size ≤ gb272))
          have n5_:=zM ((by rw [hg];exact Nat.ne_of_lt (blk_lt (g:=gb271) (o := .cells #[.int .i64 0,.int .i64 0] 60 (0,0)) (by (with_reducible repeat (first|refine zJ ?_ _|refine zK ?_|refine zL ?_ _));exact BK271.out)) : gb271 ≠ gb272))
          have n6_:=zM ((by rw [hg];exact Nat.ne_of_gt (blk_lt (g:=gb271) (o := .cells #[.int .i64 0,.int .i64 0] 60 (0,0)) (by (with_reducible repeat (first|refine zJ ?_ _|refine zK ?_|refine zL ?_ _));exact BK271.out)) : gb272 ≠ gb271))
          clear BK271
          clear HB
          have BK271:=n0_
          have HB:=n1_
          have BK272:=n2_
          have GW272:=n3_
          have GE272:=n4_
          have NB271_272:=n5_
          have NB272_271:=n6_
          clear n0_ n1_ n2_ n3_ n4_ n5_ n6_
          clear hb hbox hg
          refine hK.out _ _ ⟨((HB.out.cell (World.block_lt_of_cell? w _ hw269_0)).trans hw269_0),((HB.out.cell (World.block_lt_of_cell? w _ hw269_1)).trans hw269_1),((HB.out.cell (World.block_lt_of_cell? w _ hw270_0)).trans hw270_0),((HB.out.cell (World.block_lt_of_cell? w _ hw270_1)).trans hw270_1)⟩ (fun hHeld=>?_)
          clear hK K
          refine norm_ (a':=?_) ?_ ?_
          rotate_left
          ·show Act.put _ (some 8) _ = _
           simp only [Act.put,List.setIfInBounds_toArray,List.set_cons_zero,List.set_cons_succ,i64_w,i32_w]
           rfl
          exact norm_ (by simp only [putAll,Act.put,List.setIfInBounds_toArray,List.set_cons_zero,List.set_cons_succ]) (hCont (gb271,gb272) _ ⟨hHeld,(by (with_reducible repeat (first|refine zJ ?_ _|refine zK ?_|refine zL ?_ _));exact BK271.out),(by (with_reducible repeat (first|refine zJ ?_ _|refine zK ?_|refine zL ?_ _));exact BK272.out),GW271.out,GE271.out,NB272_271.out,NB271_272.out,GW272.out,GE272.out,(by repeat (first|(with_reducible first|exact HB.out|apply zD|apply zE|apply zF|refine below_set ?_ GE271.out|refine below_set ?_ GE272.out)|exact HB.out))⟩)
         ·skip
          refine box_step ?hg (N:=8) ?hd (cs := #[.int .i64 0,.int .i64 0]) (t:=60) ?hr ?_;(case hd=>rfl);(case hg=>rfl);(case hr=>first|(go_simp;done)|(go_simp;rfl))
          intro gb272 hg w27 hbox hb
          have n0_:=zM (zQ (by repeat (first|(with_reducible first|exact HB.out|apply zD|apply zE|apply zF)|exact HB.out)) hb)
          have n1_:=zM (hbox)
          have n2_:=zM ((by rw [hg];exact (zR (by repeat (first|(with_reducible first|exact HB.out|apply zD|apply zE|apply zF)|exact HB.out))) : w.heap.size ≤ gb272))
          have n3_:=zM ((by rw [hg];exact (zR (by repeat (first|(with_reducible first|exact HB.out|apply zD|apply zE|apply zF)|exact HB.out))) : w.heap.size ≤ gb272))
          clear HB
          have HB:=n0_
          have BK272:=n1_
          have GW272:=n2_
          have GE272:=n3_
          clear n0_ n1_ n2_ n3_
          clear hb hbox hg
          refine hK.out _ _ ⟨((HB.out.cell (World.block_lt_of_cell? w _ hw269_0)).trans hw269_0),((HB.out.cell (World.block_lt_of_cell? w _ hw269_1)).trans hw269_1),((HB.out.cell (World.block_lt_of_cell? w _ hw270_0)).trans hw270_0),((HB.out.cell (World.block_lt_of_cell? w _ hw270_1)).trans hw270_1)⟩ (fun hHeld=>?_)
          clear hK K
          refine norm_ (a':=?_) ?_ ?_
          rotate_left
          ·show Act.put _ (some 8) _ = _
           simp only [Act.put,List.setIfInBounds_toArray,List.set_cons_zero,List.set_cons_succ,i64_w,i32_w]
           rfl
          refine one_ (i:=9) (N:=some 7) #[true,true,true,true,true,true,true,true,true,true,true,false,false] rfl rfl (one_of HT_.out (by kernel_rfl)) (by decide) (fun K hK=>?_)
          refine box_step ?hg (N:=7) ?hd (cs := #[.int .i64 0,.int .i64 0]) (t:=60) ?hr ?_;(case hd=>rfl);(case hg=>rfl);(case hr=>first|(go_simp;done)|(go_simp;rfl))
          intro gb271 hg w28 hbox hb
          have n0_:=zM (blk_below (g:=gb272) (o := .cells #[.int .i64 0,.int .i64 0] 60 (0,0)) (by (with_reducible repeat (first|refine zJ ?_ _|refine zK ?_|refine zL ?_ _));exact BK272.out) hb)
          have n1_:=zM (zQ (by repeat (first|(with_reducible first|exact HB.out|apply zD|apply zE|apply zF|refine below_set ?_ GE272.out)|exact HB.out)) hb)
          have n2_:=zM (hbox)
          have n3_:=zM ((by rw [hg];exact (zR (by repeat (first|(with_reducible first|exact HB.out|apply zD|apply zE|apply zF|refine below_set ?_ GE272.out)|exact HB.out))) : w.heap.size ≤ gb271))
          have n4_:=zM ((by rw [hg];exact (zR (by repeat (first|(with_reducible first|exact HB.out|apply zD|apply zE|apply zF|refine below_set ?_ GE272.out)|exact HB.out))) : w.heap.size ≤ gb271))
          have n5_:=zM ((by rw [hg];exact Nat.ne_of_lt (blk_lt (g:=gb272) (o := .cells #[.int .i64 0,.int .i64 0] 60 (0,0)) (by (with_reducible repeat (first|refine zJ ?_ _|refine zK ?_|refine zL ?_ _));exact BK272.out)) : gb272 ≠ gb271))
          have n6_:=zM ((by rw [hg];exact Nat.ne_of_gt (blk_lt (g:=gb272) (o := .cells #[.int .i64 0,.int .i64 0] 60 (0,0)) (by (with_reducible repeat (first|refine zJ ?_ _|refine zK ?_|refine zL ?_ _));exact BK272.out)) : gb271 ≠ gb272))
          clear BK272
          clear HB
          have BK272:=n0_
          have HB:=n1_
          have BK271:=n2_
          have GW271:=n3_
          have GE271:=n4_
          have NB272_271:=n5_
          have NB271_272:=n6_
          clear n0_ n1_ n2_ n3_ n4_ n5_ n6_
          clear hb hbox hg
          refine hK.out _ _ ⟨((HB.out.cell (World.block_lt_of_cell? w _ hw269_0)).trans hw269_0),((HB.out.cell (World.block_lt_of_cell? w _ hw269_1)).trans hw269_1),((HB.out.cell (World.block_lt_of_cell? w _ hw270_0)).trans hw270_0),((HB.out.cell (World.block_lt_of_cell? w _ hw270_1)).trans hw270_1)⟩ (fun hHeld=>?_)
          clear hK K
          refine norm_ (a':=?_) ?_ ?_
          rotate_left
          ·show Act.put _ (some 7) _ = _
           simp only [Act.put,List.setIfInBounds_toArray,List.set_cons_zero,List.set_cons_succ,i64_w,i32_w]
           rfl
          exact norm_ (by simp only [putAll,Act.put,List.setIfInBounds_toArray,List.set_cons_zero,List.set_cons_succ]) (hCont (gb271,gb272) _ ⟨hHeld,(by (with_reducible repeat (first|refine zJ ?_ _|refine zK ?_|refine zL ?_ _));exact BK271.out),(by (with_reducible repeat (first|refine zJ ?_ _|refine zK ?_|refine zL ?_ _));exact BK272.out),GW271.out,GE271.out,NB272_271.out,NB271_272.out,GW272.out,GE272.out,(by repeat (first|(with_reducible first|exact HB.out|apply zD|apply zE|apply zF|refine below_set ?_ GE272.out|refine below_set ?_ GE271.out)|exact HB.out))⟩)
        rintro ⟨gb271,gb272⟩ w29 ⟨hS_,h0_,h1_,h2_,h3_,h4_,h5_,h6_,h7_,h8_⟩
        have n0_ : Aside0 (w29.heap[gb271]? = some (.cells #[.int .i64 0,.int .i64 0] 60 (0,0))):=⟨h0_⟩
        have n1_ : Aside0 (w29.heap[gb272]? = some (.cells #[.int .i64 0,.int .i64 0] 60 (0,0))):=⟨h1_⟩
        have n2_ : Aside0 (w.heap.size ≤ gb271):=⟨h2_⟩
        have n3_ : Aside0 (w.heap.size ≤ gb271):=⟨h3_⟩
        have n4_ : Aside0 (gb272 ≠ gb271):=⟨h4_⟩
        have n5_ : Aside0 (gb271 ≠ gb272):=⟨h5_⟩
        have n6_ : Aside0 (w.heap.size ≤ gb272):=⟨h6_⟩
        have n7_ : Aside0 (w.heap.size ≤ gb272):=⟨h7_⟩
        have n8_ : Aside0 (Below w.heap.size w w29):=⟨h8_⟩
        clear HB
        clear h0_ h1_ h2_ h3_ h4_ h5_ h6_ h7_ h8_
        have BK271:=n0_
        have BK272:=n1_
        have GW271:=n2_
        have GE271:=n3_
        have NB272_271:=n4_
        have NB271_272:=n5_
        have GW272:=n6_
        have GE272:=n7_
        have HB:=n8_
        clear n0_ n1_ n2_ n3_ n4_ n5_ n6_ n7_ n8_
        have hHeld : w29.cell? (ad269.add ((x6_1).toNat * 2)) = some (.int .i64 ((rd_T60 l0 x6_1).f0)) ∧ w29.cell? ⟨(ad269.add ((x6_1).toNat * 2)).block,(ad269.add ((x6_1).toNat * 2)).off + 1,none⟩ = some (.int .i64 ((rd_T60 l0 x6_1).f1)) ∧ w29.cell? (ad269.add (((ji23)).toNat * 2)) = some (.int .i64 ((rd_T60 l0 (ji23)).f0)) ∧ w29.cell? ⟨(ad269.add (((ji23)).toNat * 2)).block,(ad269.add (((ji23)).toNat * 2)).off + 1,none⟩ = some (.int .i64 ((rd_T60 l0 (ji23)).f1)):=hS_
        refine norm_ (a':=?_) ?_ ?_
        rotate_left
        ·simp only [putAll,Act.put,List.setIfInBounds_toArray,List.set_cons_zero,List.set_cons_succ]
         rfl
        refine one_ (i:=11) (N:=none) #[true,true,true,true,true,true,true,true,true,true,true,true,false] rfl rfl (one_of HT_.out (by kernel_rfl)) (by decide) (fun K hK=>?_)
        have hs30 : w29.cell? ⟨gb271,0,none⟩ = some (.int .i64 0):=(blk_cell BK271.out 0).trans rfl
        have hfs30:=blk_frozen BK271.out 0
        have hns30_1:=NB272_271.out
        have hms30_1:=NB271_272.out
        have hs31 : w29.cell? ⟨gb271,1,none⟩ = some (.int .i64 0):=(blk_cell BK271.out 1).trans rfl
        have hfs31:=blk_frozen BK271.out 1
        have hns31_1:=NB272_271.out
        have hms31_1:=NB271_272.out
        refine skip_ (w1:=?_) (by rfl) rfl ?_ ?_
        rotate_left
        ·go_simp
         rfl
        refine hK.out _ _ ⟨((cell_far (p:=⟨gb271,_,none⟩) (by first|exact Nat.ne_of_lt (Nat.lt_of_lt_of_le (by have:=World.block_lt_of_cell? _ _ hw269_0;first|rwa [add_block] at this|exact this) GW271.out)|(rw [add_block];exact Nat.ne_of_lt (Nat.lt_of_lt_of_le (by have:=World.block_lt_of_cell? _ _ hw269_0;first|rwa [add_block] at this|exact this) GW271.out))|(show (Addr.add _ _).block ≠ _;rw [add_block];exact Nat.ne_of_lt (Nat.lt_of_lt_of_le (by have:=World.block_lt_of_cell? _ _ hw269_0;first|rwa [add_block] at this|exact this) GW271.out))|(dsimp only;exact Nat.ne_of_lt (Nat.lt_of_lt_of_le (by have:=World.block_lt_of_cell? _ _ hw269_0;first|rwa [add_block] at this|exact this) GW271.out))) _).trans (((cell_far (p:=⟨gb271,_,none⟩) (by first|exact Nat.ne_of_lt (Nat.lt_of_lt_of_le (by have:=World.block_lt_of_cell? _ _ hw269_0;first|rwa [add_block] at this|exact this) GW271.out)|(rw [add_block];exact Nat.ne_of_lt (Nat.lt_of_lt_of_le (by have:=World.block_lt_of_cell? _ _ hw269_0;first|rwa [add_block] at this|exact this) GW271.out))|(show (Addr.add _ _).block ≠ _;rw [add_block];exact Nat.ne_of_lt (Nat.lt_of_lt_of_le (by have:=World.block_lt_of_cell? _ _ hw269_0;first|rwa [add_block] at this|exact this) GW271.out))|(dsimp only;exact Nat.ne_of_lt (Nat.lt_of_lt_of_le (by have:=World.block_lt_of_cell? _ _ hw269_0;first|rwa [add_block] at this|exact this) GW271.out))) _).trans (hHeld.1)))),((cell_far (p:=⟨gb271,_,none⟩) (by first|exact Nat.ne_of_lt (Nat.lt_of_lt_of_le (by have:=World.block_lt_of_cell? _ _ hw269_1;first|rwa [add_block] at this|exact this) GW271.out)|(rw [add_block];exact Nat.ne_of_lt (Nat.lt_of_lt_of_le (by have:=World.block_lt_of_cell? _ _ hw269_1;first|rwa [add_block] at this|exact this) GW271.out))|(show (Addr.add _ _).block ≠ _;rw [add_block];exact Nat.ne_of_lt (Nat.lt_of_lt_of_le (by have:=World.block_lt_of_cell? _ _ hw269_1;first|rwa [add_block] at this|exact this) GW271.out))|(dsimp only;exact Nat.ne_of_lt (Nat.lt_of_lt_of_le (by have:=World.block_lt_of_cell? _ _ hw269_1;first|rwa [add_block] at this|exact this) GW271.out))) _).trans (((cell_far (p:=⟨gb271,_,none⟩) (by first|exact Nat.ne_of_lt (Nat.lt_of_lt_of_le (by have:=World.block_lt_of_cell? _ _ hw269_1;first|rwa [add_block] at this|exact this) GW271.out)|(rw [add_block];exact Nat.ne_of_lt (Nat.lt_of_lt_of_le (by have:=World.block_lt_of_cell? _ _ hw269_1;first|rwa [add_block] at this|exact this) GW271.out))|(show (Addr.add _ _).block ≠ _;rw [add_block];exact Nat.ne_of_lt (Nat.lt_of_lt_of_le (by have:=World.block_lt_of_cell? _ _ hw269_1;first|rwa [add_block] at this|exact this) GW271.out))|(dsimp only;exact Nat.ne_of_lt (Nat.lt_of_lt_of_le (by have:=World.block_lt_of_cell? _ _ hw269_1;first|rwa [add_block] at this|exact this) GW271.out))) _).trans (hHeld.2.1)))),((cell_far (p:=⟨gb271,_,none⟩) (by first|exact Nat.ne_of_lt (Nat.lt_of_lt_of_le (by have:=World.block_lt_of_cell? _ _ hw270_0;first|rwa [add_block] at this|exact this) GW271.out)|(rw [add_block];exact Nat.ne_of_lt (Nat.lt_of_lt_of_le (by have:=World.block_lt_of_cell? _ _ hw270_0;first|rwa [add_block] at this|exact this) GW271.out))|(show (Addr.add _ _).block ≠ _;rw [add_block];exact Nat.ne_of_lt (Nat.lt_of_lt_of_le (by have:=World.block_lt_of_cell? _ _ hw270_0;first|rwa [add_block] at this|exact this) GW271.out))|(dsimp only;exact Nat.ne_of_lt (Nat.lt_of_lt_of_le (by have:=World.block_lt_of_cell? _ _ hw270_0;first|rwa [add_block] at this|exact this) GW271.out))) _).trans (((cell_far (p:=⟨gb271,_,none⟩) (by first|exact Nat.ne_of_lt (Nat.lt_of_lt_of_le (by have:=World.block_lt_of_cell? _ _ hw270_0;first|rwa [add_block] at this|exact this) GW271.out)|(rw [add_block];exact Nat.ne_of_lt (Nat.lt_of_lt_of_le (by have:=World.block_lt_of_cell? _ _ hw270_0;first|rwa [add_block] at this|exact this) GW271.out))|(show (Addr.add _ _).block ≠ _;rw [add_block];exact Nat.ne_of_lt (Nat.lt_of_lt_of_le (by have:=World.block_lt_of_cell? _ _ hw270_0;first|rwa [add_block] at this|exact this) GW271.out))|(dsimp only;exact Nat.ne_of_lt (Nat.lt_of_lt_of_le (by have:=World.block_lt_of_cell? _ _ hw270_0;first|rwa [add_block] at this|exact this) GW271.out))) _).trans (hHeld.2.2.1)))),((cell_far (p:=⟨gb271,_,none⟩) (by first|exact Nat.ne_of_lt (Nat.lt_of_lt_of_le (by have:=World.block_lt_of_cell? _ _ hw270_1;first|rwa [add_block] at this|exact this) GW271.out)|(rw [add_block];exact Nat.ne_of_lt (Nat.lt_of_lt_of_le (by have:=World.block_lt_of_cell? _ _ hw270_1;first|rwa [add_block] at this|exact this) GW271.out))|(show (Addr.add _ _).block ≠ _;rw [add_block];exact Nat.ne_of_lt (Nat.lt_of_lt_of_le (by have:=World.block_lt_of_cell? _ _ hw270_1;first|rwa [add_block] at this|exact this) GW271.out))|(dsimp only;exact Nat.ne_of_lt (Nat.lt_of_lt_of_le (by have:=World.block_lt_of_cell? _ _ hw270_1;first|rwa [add_block] at this|exact this) GW271.out))) _).trans (((cell_far (p:=⟨gb271,_,none⟩) (by first|exact Nat.ne_of_lt (Nat.lt_of_lt_of_le (by have:=World.block_lt_of_cell? _ _ hw270_1;first|rwa [add_block] at this|exact this) GW271.out)|(rw [add_block];exact Nat.ne_of_lt (Nat.lt_of_lt_of_le (by have:=World.block_lt_of_cell? _ _ hw270_1;first|rwa [add_block] at this|exact this) GW271.out))|(show (Addr.add _ _).block ≠ _;rw [add_block];exact Nat.ne_of_lt (Nat.lt_of_lt_of_le (by have:=World.block_lt_of_cell? _ _ hw270_1;first|rwa [add_block] at this|exact this) GW271.out))|(dsimp only;exact Nat.ne_of_lt (Nat.lt_of_lt_of_le (by have:=World.block_lt_of_cell? _ _ hw270_1;first|rwa [add_block] at this|exact this) GW271.out))) _).trans (hHeld.2.2.2))))⟩ (fun hHeld=>?_)
        clear hK K
        refine one_ (i:=12) (N:=none) #[true,true,true,true,true,true,true,true,true,true,true,true,true] rfl rfl (one_of HT_.out (by kernel_rfl)) (by decide) (fun K hK=>?_)
        have hs32 : w29.cell? ⟨gb272,0,none⟩ = some (.int .i64 0):=(blk_cell BK272.out 0).trans rfl
        have hfs32:=blk_frozen BK272.out 0
        have hns32_0:=NB271_272.out
        have hms32_0:=NB272_271.out
        have hs33 : w29.cell? ⟨gb272,1,none⟩ = some (.int .i64 0):=(blk_cell BK272.out 1).trans rfl
        have hfs33:=blk_frozen BK272.out 1
        have hns33_0:=NB271_272.out
        have hms33_0:=NB272_271.out
        refine skip_ (w1:=?_) (by rfl) rfl ?_ ?_
        rotate_left
        ·go_simp
         rfl
        refine hK.out _ _ ⟨((cell_far (p:=⟨gb272,_,none⟩) (by first|exact Nat.ne_of_lt (Nat.lt_of_lt_of_le (by have:=World.block_lt_of_cell? _ _ hw269_0;first|rwa [add_block] at this|exact this) GW272.out)|(rw [add_block];exact Nat.ne_of_lt (Nat.lt_of_lt_of_le (by have:=World.block_lt_of_cell? _ _ hw269_0;first|rwa [add_block] at this|exact this) GW272.out))|(show (Addr.add _ _).block ≠ _;rw [add_block];exact Nat.ne_of_lt (Nat.lt_of_lt_of_le (by have:=World.block_lt_of_cell? _ _ hw269_0;first|rwa [add_block] at this|exact this) GW272.out))|(dsimp only;exact Nat.ne_of_lt (Nat.lt_of_lt_of_le (by have:=World.block_lt_of_cell? _ _ hw269_0;first|rwa [add_block] at this|exact this) GW272.out))) _).trans (((cell_far (p:=⟨gb272,_,none⟩) (by first|exact Nat.ne_of_lt (Nat.lt_of_lt_of_le (by have:=World.block_lt_of_cell? _ _ hw269_0;first|rwa [add_block] at this|exact this) GW272.out)|(rw [add_block];exact Nat.ne_of_lt (Nat.lt_of_lt_of_le (by have:=World.block_lt_of_cell? _ _ hw269_0;first|rwa [add_block] at this|exact this) GW272.out))|(show (Addr.add _ _).block ≠ _;rw [add_block];exact Nat.ne_of_lt (Nat.lt_of_lt_of_le (by have:=World.block_lt_of_cell? _ _ hw269_0;first|rwa [add_block] at this|exact this) GW272.out))|(dsimp only;exact Nat.ne_of_lt (Nat.lt_of_lt_of_le (by have:=World.block_lt_of_cell? _ _ hw269_0;first|rwa [add_block] at this|exact this) GW272.out))) _).trans (hHeld.1)))),((cell_far (p:=⟨gb272,_,none⟩) (by first|exact Nat.ne_of_lt (Nat.lt_of_lt_of_le (by have:=World.block_lt_of_cell? _ _ hw269_1;first|rwa [add_block] at this|exact this) GW272.out)|(rw [add_block];exact Nat.ne_of_lt (Nat.lt_of_lt_of_le (by have:=World.block_lt_of_cell? _ _ hw269_1;first|rwa [add_block] at this|exact this) GW272.out))|(show (Addr.add _ _).block ≠ _;rw [add_block];exact Nat.ne_of_lt (Nat.lt_of_lt_of_le (by have:=World.block_lt_of_cell? _ _ hw269_1;first|rwa [add_block] at this|exact this) GW272.out))|(dsimp only;exact Nat.ne_of_lt (Nat.lt_of_lt_of_le (by have:=World.block_lt_of_cell? _ _ hw269_1;first|rwa [add_block] at this|exact this) GW272.out))) _).trans (((cell_far (p:=⟨gb272,_,none⟩) (by first|exact Nat.ne_of_lt (Nat.lt_of_lt_of_le (by have:=World.block_lt_of_cell? _ _ hw269_1;first|rwa [add_block] at this|exact this) GW272.out)|(rw [add_block];exact Nat.ne_of_lt (Nat.lt_of_lt_of_le (by have:=World.block_lt_of_cell? _ _ hw269_1;first|rwa [add_block] at this|exact this) GW272.out))|(show (Addr.add _ _).block ≠ _;rw [add_block];exact Nat.ne_of_lt (Nat.lt_of_lt_of_le (by have:=World.block_lt_of_cell? _ _ hw269_1;first|rwa [add_block] at this|exact this) GW272.out))|(dsimp only;exact Nat.ne_of_lt (Nat.lt_of_lt_of_le (by have:=World.block_lt_of_cell? _ _ hw269_1;first|rwa [add_block] at this|exact this) GW272.out))) _).trans (hHeld.2.1)))),((cell_far (p:=⟨gb272,_,none⟩) (by first|exact Nat.ne_of_lt (Nat.lt_of_lt_of_le (by have:=World.block_lt_of_cell? _ _ hw270_0;first|rwa [add_block] at this|exact this) GW272.out)|(rw [add_block];exact Nat.ne_of_lt (Nat.lt_of_lt_of_le (by have:=World.block_lt_of_cell? _ _ hw270_0;first|rwa [add_block] at this|exact this) GW272.out))|(show (Addr.add _ _).block ≠ _;rw [add_block];exact Nat.ne_of_lt (Nat.lt_of_lt_of_le (by have:=World.block_lt_of_cell? _ _ hw270_0;first|rwa [add_block] at this|exact this) GW272.out))|(dsimp only;exact Nat.ne_of_lt (Nat.lt_of_lt_of_le (by have:=World.block_lt_of_cell? _ _ hw270_0;first|rwa [add_block] at this|exact this) GW272.out))) _).trans (((cell_far (p:=⟨gb272,_,none⟩) (by first|exact Nat.ne_of_lt (Nat.lt_of_lt_of_le (by have:=World.block_lt_of_cell? _ _ hw270_0;first|rwa [add_block] at this|exact this) GW272.out)|(rw [add_block];exact Nat.ne_of_lt (Nat.lt_of_lt_of_le (by have:=World.block_lt_of_cell? _ _ hw270_0;first|rwa [add_block] at this|exact this) GW272.out))|(show (Addr.add _ _).block ≠ _;rw [add_block];exact Nat.ne_of_lt (Nat.lt_of_lt_of_le (by have:=World.block_lt_of_cell? _ _ hw270_0;first|rwa [add_block] at this|exact this) GW272.out))|(dsimp only;exact Nat.ne_of_lt (Nat.lt_of_lt_of_le (by have:=World.block_lt_of_cell? _ _ hw270_0;first|rwa [add_block] at this|exact this) GW272.out))) _).trans (hHeld.2.2.1)))),((cell_far (p:=⟨gb272,_,none⟩) (by first|exact Nat.ne_of_lt (Nat.lt_of_lt_of_le (by have:=World.block_lt_of_cell? _ _ hw270_1;first|rwa [add_block] at this|exact this) GW272.out)|(rw [add_block];exact Nat.ne_of_lt (Nat.lt_of_lt_of_le (by have:=World.block_lt_of_cell? _ _ hw270_1;first|rwa [add_block] at this|exact this) GW272.out))|(show (Addr.add _ _).block ≠ _;rw [add_block];exact Nat.ne_of_lt (Nat.lt_of_lt_of_le (by have:=World.block_lt_of_cell? _ _ hw270_1;first|rwa [add_block] at this|exact this) GW272.out))|(dsimp only;exact Nat.ne_of_lt (Nat.lt_of_lt_of_le (by have:=World.block_lt_of_cell? _ _ hw270_1;first|rwa [add_block] at this|exact this) GW272.out))) _).trans (((cell_far (p:=⟨gb272,_,none⟩) (by first|exact Nat.ne_of_lt (Nat.lt_of_lt_of_le (by have:=World.block_lt_of_cell? _ _ hw270_1;first|rwa [add_block] at this|exact this) GW272.out)|(rw [add_block];exact Nat.ne_of_lt (Nat.lt_of_lt_of_le (by have:=World.block_lt_of_cell? _ _ hw270_1;first|rwa [add_block] at this|exact this) GW272.out))|(show (Addr.add _ _).block ≠ _;rw [add_block];exact Nat.ne_of_lt (Nat.lt_of_lt_of_le (by have:=World.block_lt_of_cell? _ _ hw270_1;first|rwa [add_block] at this|exact this) GW272.out))|(dsimp only;exact Nat.ne_of_lt (Nat.lt_of_lt_of_le (by have:=World.block_lt_of_cell? _ _ hw270_1;first|rwa [add_block] at this|exact this) GW272.out))) _).trans (hHeld.2.2.2))))⟩ (fun hHeld=>?_)
        clear hK K
        refine done_ (done_of HT_.out (by kernel_rfl)) ?_
        have hnb34:=NB272_271.out
        have hnc34:=NB271_272.out
        have hcz35_0 : w29.cell? ⟨gb272,0,none⟩ = some (.int .i64 0):=(blk_cell BK272.out 0).trans rfl
        have hcz35_1 : w29.cell? ⟨gb272,1,none⟩ = some (.int .i64 0):=(blk_cell BK272.out 1).trans rfl
        have hfz35_0:=blk_frozen BK272.out 0
        have hfz35_1:=blk_frozen BK272.out 1
        have hcz36_0 : w29.cell? ⟨gb271,0,none⟩ = some (.int .i64 0):=(blk_cell BK271.out 0).trans rfl
        have hcz36_1 : w29.cell? ⟨gb271,1,none⟩ = some (.int .i64 0):=(blk_cell BK271.out 1).trans rfl
        have hfz36_0:=blk_frozen BK271.out 0
        have hfz36_1:=blk_frozen BK271.out 1
        try go_wp2
        go_ret2
        exact ⟨by first|rfl|(simp [errW_none,errW_some] <;> rfl)|(simp only [← hji23];first|rfl|(simp [errW_none,errW_some] <;> rfl))|(simp [*,errW_none,errW_some] <;> rfl),by repeat (first|(with_reducible first|exact HB.out|apply zD|apply zE|apply zF|refine below_set ?_ GE271.out|refine below_set ?_ GE272.out)|exact HB.out)⟩
       ·rw [if_neg c25] at H
        exact absurd H (by simp)
      ·rw [if_neg c24] at H
       exact absurd H (by simp)
     ·rw [if_neg c22] at H
      exact absurd H (by simp)
    ·rw [if_neg c21] at H
     exact absurd H (by simp)

end Go.Proofs.Ytbglkkepfddecaa.G

-- Written by wip/tools/gen.py out of the translation (the kit's printer, one namespace a seat). Lean checks it.
namespace Go.Proofs.Ytbglkkepfddecaa.G
open Go.RowKit Go.Proofs.YtbglkkepfddecaaW.PrintWords Go.Proofs.YtbglkkepfddecaaW.PrintLast Go.Proofs.YtbglkkepfddecaaW.PrintMore
attribute [local go_sem] max2_int min2_int max_two min_two max_three min_three max_four min_four   -- for this text's walks alone
set_option linter.unusedVariables false
set_option linter.unusedSimpArgs false

/-! ### impl_heightAt: function 63 -/
def impl_heightAt.l0 : Nat → List (S60) → Int → Int → Option (Int × Int)
 | 0,_,_,_=>none
 | k + 1,x0,x1,x6=>if 0 ≤ x6 then (if x6 < (x0.length : Int) then (if ((rd_T60 x0 x6).f0) < x1 then (impl_heightAt.l0 k x0 x1 (wrap64 (x6 + 1))) else (if 0 ≤ (wrap64 (x6 - 1)) then (if (wrap64 (x6 - 1)) < (x0.length : Int) then (some (wrap64 ((wrap64 (((rd_T60 x0 (wrap64 (x6 - 1))).f1) * (wrap64 (((rd_T60 x0 x6).f0) - ((rd_T60 x0 (wrap64 (x6 - 1))).f0))))) + (wrap64 ((wrap64 (((rd_T60 x0 x6).f1) - ((rd_T60 x0 (wrap64 (x6 - 1))).f1))) * (wrap64 (x1 - ((rd_T60 x0 (wrap64 (x6 - 1))).f0)))))),wrap64 (((rd_T60 x0 x6).f0) - ((rd_T60 x0 (wrap64 (x6 - 1))).f0)))) else (none)) else (none))) else (none)) else (none)
def impl_heightAt.f (k : Nat) (l0 : List (S60)) (a1 : Int) : Option (Int × Int):=impl_heightAt.l0 k l0 a1 1
def impl_heightAt.T4 : Bool × List (List Nat × List Nat):=(true,[([],[]),([],[]),([1],[1]),([0,2],[0,2]),([3],[3]),([],[]),([],[]),([5,6],[5,6]),([7],[7]),([],[]),([],[]),([9,4,0,1,2,3,4,9,10],[4,9]),([10,8,11,0,1,2,3,4,5,6,7,8,9,10,11],[8,10])])
def impl_heightAt.B4 : List Nat:=[0,0,2,7,15,0,0,96,224,0,0,1567,4095]
theorem impl_heightAt.tab4 : rtab .any (opsOf Try.f63 4) = impl_heightAt.T4:=by kernel_rfl
theorem impl_heightAt.bits4 : waitsOk impl_heightAt.T4.2 impl_heightAt.B4 = true:=by kernel_rfl
set_option maxHeartbeats 8000000 in
set_option maxRecDepth 100000 in
theorem impl_heightAt.calls (k : Nat) (A0 : Option Addr) (c0 : Nat) (l0 : List (S60)) (a1 : Int) (r1 : Int) (r2 : Int) (w : World) (hr0 : Kd.C k60 w A0 l0.length l0) (hc0 : l0.length ≤ c0) (h : impl_heightAt.f k l0 a1 = some (r1,r2)) :
  Calls Try.prog 63 #[.slice A0 l0.length c0,.int .i64 a1] w fun e w'=>e = .returned (.tuple #[.int .i64 r1,.int .i64 r2]) ∧ Below w.heap.size w w':=by
 have hu60:=Try.underlying60
 have HR0:=zM hr0
 have HC0:=zM hc0
 clear hr0 hc0
 have HB:=zM (Below.refl w.heap.size w)
 have H : (impl_heightAt.l0 k l0 a1 1) = some (r1,r2):=h
 clear h
 have H':=zM H
 clear H
 go_enter Try.func63,Try.ntmps63
 go_wp2
 go_loopg [6] k (fun kq v6 w' => ∃ (x6_1 : Int),v6 = .int .i64 x6_1 ∧ Aside0 (impl_heightAt.l0 kq l0 a1 x6_1 = some (r1,r2)) ∧ Aside0 (kq ≤ k) ∧ Aside0 (Below w.heap.size w w'))
 case atStart=>exact ⟨(1),(by first|rfl|(simp;done)|(simp [*];done)),H',⟨Nat.le_refl _⟩,⟨by repeat (first|(with_reducible first|exact HB.out|apply zD|apply zE|apply zF)|exact HB.out)⟩⟩
 case round =>
  clear H'
  try clear p2
  obtain ⟨x6_1,rfl,HA,HK1,HB⟩:=hrel
  cases gk with
  | zero=>exact absurd HA.out (by simp [impl_heightAt.l0])
  | succ k1 =>
   have H:=HA.out
   clear HA
   simp only [impl_heightAt.l0] at H
   by_cases c3 : 0 ≤ x6_1
   ·rw [if_pos c3] at H
    have c3b0 : decide (0 ≤ x6_1) = true:=decide_eq_true c3
    clear c3
    by_cases c4 : x6_1 < (l0.length : Int)
    ·rw [if_pos c4] at H
     have c4b0 : decide (x6_1 < (l0.length : Int)) = true:=decide_eq_true c4
     clear c4
     by_cases c5 : ((rd_T60 l0 x6_1).f0) < a1
     ·rw [if_pos c5] at H
      have c5b0 : decide (((rd_T60 l0 x6_1).f0) < a1) = true:=decide_eq_true c5
      clear c5
      have H':=zM H
      clear H
      have p284 : 0 ≤ (x6_1 : Int):=of_decide_eq_true (by first|(with_reducible assumption)|assumption)
      have q284 : x6_1 < (l0.length : Int):=of_decide_eq_true (by first|(with_reducible assumption)|assumption)
      obtain ⟨ad284,e284,hx284_0,hx284_1⟩:=at_T60 HR0.out x6_1 p284 q284
      cases e284
      replace hx284_0:=(HB.out.cell (World.block_lt_of_cell? w _ hx284_0)).trans hx284_0
      replace hx284_1:=(HB.out.cell (World.block_lt_of_cell? w _ hx284_1)).trans hx284_1
      replace p284:=eq_true p284
      replace q284:=eq_true q284
      go_wp2
      go_roundg k1
      case measure=>have:=HK1.out;omega
      case rel=>exact ⟨(wrap64 (x6_1 + 1)),(by first|rfl|(simp;done)|(simp [*];done)),H',⟨by have:=HK1.out;omega⟩,⟨by repeat (first|(with_reducible first|exact HB.out|apply zD|apply zE|apply zF)|exact HB.out)⟩⟩
     ·rw [if_neg c5] at H
      have c5b0 : decide (((rd_T60 l0 x6_1).f0) < a1) = false:=decide_eq_false c5
      clear c5
      obtain ⟨ji6,hji6⟩ : ∃ j_ : Int,(wrap64 (x6_1 - 1)) = j_:=⟨_,rfl⟩
      replace H : (if 0 ≤ (ji6) then (if (ji6) < (l0.length : Int) then (some (wrap64 ((wrap64 (((rd_T60 l0 (ji6)).f1) * (wrap64 (((rd_T60 l0 x6_1).f0) - ((rd_T60 l0 (ji6)).f0))))) + (wrap64 ((wrap64 (((rd_T60 l0 x6_1).f1) - ((rd_T60 l0 (ji6)).f1))) * (wrap64 (a1 - ((rd_T60 l0 (ji6)).f0)))))),wrap64 (((rd_T60 l0 x6_1).f0) - ((rd_T60 l0 (ji6)).f0)))) else (none)) else (none)) = some (r1,r2):=by first|(rw [hji6] at H;exact H)|(simp only [hji6] at H ⊢;exact H)
      have hji6w : (IntKind.i64.wrap (x6_1 - 1)) = ji6:=(i64_w _).trans hji6
      by_cases c7 : 0 ≤ (ji6)
      ·rw [if_pos c7] at H
       have c7b0 : decide (0 ≤ (ji6)) = true:=decide_eq_true c7
       clear c7
       by_cases c8 : (ji6) < (l0.length : Int)
       ·rw [if_pos c8] at H
        have c8b0 : decide ((ji6) < (l0.length : Int)) = true:=decide_eq_true c8
        clear c8
        simp only [Option.some.injEq,Prod.mk.injEq] at H
        obtain ⟨rfl,rfl⟩:=H
        have p284 : 0 ≤ (x6_1 : Int):=of_decide_eq_true (by first|(with_reducible assumption)|assumption)
        have q284 : x6_1 < (l0.length : Int):=of_decide_eq_true (by first|(with_reducible assumption)|assumption)
        obtain ⟨ad284,e284,hx284_0,hx284_1⟩:=at_T60 HR0.out x6_1 p284 q284
        cases e284
        replace hx284_0:=(HB.out.cell (World.block_lt_of_cell? w _ hx284_0)).trans hx284_0
        replace hx284_1:=(HB.out.cell (World.block_lt_of_cell? w _ hx284_1)).trans hx284_1
        replace p284:=eq_true p284
        replace q284:=eq_true q284
        try go_wp2
        have n0_:=zM (zF HB.out)
        clear HB
        have HB:=n0_
        clear n0_
        have p285 : 0 ≤ ((ji6) : Int):=of_decide_eq_true (by first|(with_reducible assumption)|assumption)
        have q285 : (ji6) < (l0.length : Int):=of_decide_eq_true (by first|(with_reducible assumption)|assumption)
        obtain ⟨ad285,e285,hx285_0,hx285_1⟩:=at_T60 HR0.out (ji6) p285 q285
        have hw285_1:=hx285_1
        have hw285_0:=hx285_0
        obtain rfl : ad284 = ad285:=(by injection e285)
        replace hx285_0:=(HB.out.cell (World.block_lt_of_cell? w _ hx285_0)).trans hx285_0
        replace hx285_1:=(HB.out.cell (World.block_lt_of_cell? w _ hx285_1)).trans hx285_1
        replace p285:=eq_true p285
        replace q285:=eq_true q285
        have p286 : 0 ≤ (x6_1 : Int):=of_decide_eq_true (by first|(with_reducible assumption)|assumption)
        have q286 : x6_1 < (l0.length : Int):=of_decide_eq_true (by first|(with_reducible assumption)|assumption)
        obtain ⟨ad286,e286,hx286_0,hx286_1⟩:=at_T60 HR0.out x6_1 p286 q286
        have hw286_1:=hx286_1
        have hw286_0:=hx286_0
        obtain rfl : ad284 = ad286:=(by injection e286)
        replace hx286_0:=(HB.out.cell (World.block_lt_of_cell? w _ hx286_0)).trans hx286_0
        replace hx286_1:=(HB.out.cell (World.block_lt_of_cell? w _ hx286_1)).trans hx286_1
        replace p286:=eq_true p286
        replace q286:=eq_true q286
        refine start_ (n:=13) (S:=fun w'=>w'.cell? (ad284.add (((ji6)).toNat * 2)) = some (.int .i64 ((rd_T60 l0 (ji6)).f0)) ∧ w'.cell? ⟨(ad284.add (((ji6)).toNat * 2)).block,(ad284.add (((ji6)).toNat * 2)).off + 1,none⟩ = some (.int .i64 ((rd_T60 l0 (ji6)).f1)) ∧ w'.cell? (ad284.add ((x6_1).toNat * 2)) = some (.int .i64 ((rd_T60 l0 x6_1).f0)) ∧ w'.cell? ⟨(ad284.add ((x6_1).toNat * 2)).block,(ad284.add ((x6_1).toNat * 2)).off + 1,none⟩ = some (.int .i64 ((rd_T60 l0 x6_1).f1))) (ds:=[]) #[false,false,false,false,false,false,false,false,false,false,false,false,false] (by kernel_rfl) rfl rfl ⟨((HB.out.cell (World.block_lt_of_cell? w _ hw285_0)).trans hw285_0),((HB.out.cell (World.block_lt_of_cell? w _ hw285_1)).trans hw285_1),((HB.out.cell (World.block_lt_of_cell? w _ hw286_0)).trans hw286_0),((HB.out.cell (World.block_lt_of_cell? w _ hw286_1)).trans hw286_1)⟩ (fun hHeld=>?_);refine with_tabW impl_heightAt.tab4 impl_heightAt.bits4 (fun HT_ HW_=>?_)
        generalize wr.drew = w9 at HB hx285_0 hx285_1 hx286_0 hx286_1 hHeld ⊢
        refine pure_ (i:=0) (N:=some 19) (v:=?_) (a':=?_) #[true,false,false,false,false,false,false,false,false,false,false,false,false] rfl rfl (any_of HT_.out (by kernel_rfl)) (fun _ _ _ h=>h) (Or.inl ⟨by rfl,?_⟩) ?_ ?_
        rotate_left
        ·intro w'
         go_simp
         with_reducible rfl
        rotate_left
        ·simp only [Act.put,List.setIfInBounds_toArray,List.set_cons_zero,List.set_cons_succ,i64_w,i32_w]
         rfl
        refine pure_ (i:=1) (N:=some 20) (v:=?_) (a':=?_) #[true,true,false,false,false,false,false,false,false,false,false,false,false] rfl rfl (any_of HT_.out (by kernel_rfl)) (fun _ _ _ h=>h) (Or.inl ⟨by rfl,?_⟩) ?_ ?_
        rotate_left
        ·intro w'
         go_simp
         with_reducible rfl
        rotate_left
        ·simp only [Act.put,List.setIfInBounds_toArray,List.set_cons_zero,List.set_cons_succ,i64_w,i32_w]
         rfl
        refine pure_ (i:=2) (N:=some 21) (v:=?_) (a':=?_) #[true,true,true,false,false,false,false,false,false,false,false,false,false] rfl rfl (any_of HT_.out (by kernel_rfl)) (fun _ _ _ h=>h) (Or.inl ⟨by rfl,?_⟩) ?_ ?_
        rotate_left
        ·intro w'
         go_simp
         with_reducible rfl
        rotate_left
        ·simp only [Act.put,List.setIfInBounds_toArray,List.set_cons_zero,List.set_cons_succ,i64_w,i32_w]
         rfl
        refine pure_ (i:=3) (N:=some 22) (v:=?_) (a':=?_) #[true,true,true,true,false,false,false,false,false,false,false,false,false] rfl rfl (any_of HT_.out (by kernel_rfl)) (fun _ _ _ h=>h) (Or.inl ⟨by rfl,?_⟩) ?_ ?_
        rotate_left
        ·intro w'
         go_simp
         with_reducible rfl
        rotate_left
        ·simp only [Act.put,List.setIfInBounds_toArray,List.set_cons_zero,List.set_cons_succ,i64_w,i32_w]
         rfl
        refine pure_ (i:=5) (N:=some 24) (v:=?_) (a':=?_) #[true,true,true,true,false,true,false,false,false,false,false,false,false] rfl rfl (any_of HT_.out (by kernel_rfl)) (fun _ _ _ h=>h) (Or.inl ⟨by rfl,?_⟩) ?_ ?_
        rotate_left
        ·intro w'
         go_simp
         with_reducible rfl
        rotate_left
        ·simp only [Act.put,List.setIfInBounds_toArray,List.set_cons_zero,List.set_cons_succ,i64_w,i32_w]
         rfl
        refine pure_ (i:=6) (N:=some 25) (v:=?_) (a':=?_) #[true,true,true,true,false,true,true,false,false,false,false,false,false] rfl rfl (any_of HT_.out (by kernel_rfl)) (fun _ _ _ h=>h) (Or.inl ⟨by rfl,?_⟩) ?_ ?_
        rotate_left
        ·intro w'
         go_simp
         with_reducible rfl
        rotate_left
        ·simp only [Act.put,List.setIfInBounds_toArray,List.set_cons_zero,List.set_cons_succ,i64_w,i32_w]
         rfl
        refine pure_ (i:=7) (N:=some 26) (v:=?_) (a':=?_) #[true,true,true,true,false,true,true,true,false,false,false,false,false] rfl rfl (any_of HT_.out (by kernel_rfl)) (fun _ _ _ h=>h) (Or.inl ⟨by rfl,?_⟩) ?_ ?_
        rotate_left
        ·intro w'
         go_simp
         with_reducible rfl
        rotate_left
        ·simp only [Act.put,List.setIfInBounds_toArray,List.set_cons_zero,List.set_cons_succ,i64_w,i32_w]
         rfl
        refine take_ (i:=4) (N:=some 23) (v:=?_) (a':=?_) #[true,true,true,true,true,true,true,true,false,false,false,false,false] rfl rfl (take_ofW HT_.out HW_.out (by kernel_rfl)) (fun _ _ _ h=>h) (Or.inl ⟨by rfl,?_⟩) hHeld ?_ ?_
        rotate_left
        ·rintro w' ⟨s0,s1,s2,s3⟩
         go_simp
         with_reducible rfl
        rotate_left
        ·simp only [Act.put,List.setIfInBounds_toArray,List.set_cons_zero,List.set_cons_succ,i64_w,i32_w]
         rfl
        refine take_ (i:=8) (N:=some 27) (v:=?_) (a':=?_) #[true,true,true,true,true,true,true,true,true,false,false,false,false] rfl rfl (take_ofW HT_.out HW_.out (by kernel_rfl)) (fun _ _ _ h=>h) (Or.inl ⟨by rfl,?_⟩) hHeld ?_ ?_
        rotate_left
        ·rintro w' ⟨s0,s1,s2,s3⟩
         go_simp
         with_reducible rfl
        rotate_left
        ·simp only [Act.put,List.setIfInBounds_toArray,List.set_cons_zero,List.set_cons_succ,i64_w,i32_w]
         rfl
        refine join_ (σ:=Nat × Nat) 2 #[true,true,true,true,true,true,true,true,true,true,true,false,false] (fun s_=>[(7,.pointer (some ⟨s_.1,0,none⟩)),(8,.pointer (some ⟨s_.2,0,none⟩))]) (fun s_ w'=>(w'.cell? (ad284.add (((ji6)).toNat * 2)) = some (.int .i64 ((rd_T60 l0 (ji6)).f0)) ∧ w'.cell? ⟨(ad284.add (((ji6)).toNat * 2)).block,(ad284.add (((ji6)).toNat * 2)).off + 1,none⟩ = some (.int .i64 ((rd_T60 l0 (ji6)).f1)) ∧ w'.cell? (ad284.add ((x6_1).toNat * 2)) = some (.int .i64 ((rd_T60 l0 x6_1).f0)) ∧ w'.cell? ⟨(ad284.add ((x6_1).toNat * 2)).block,(ad284.add ((x6_1).toNat * 2)).off + 1,none⟩ = some (.int .i64 ((rd_T60 l0 x6_1).f1))) ∧ (w'.heap[s_.1]? = some (.cells #[.int .i64 0,.int .i64 0] 60 (0,0))) ∧ (w'.heap[s_.2]? = some (.cells #[.int .i64 0,.int .i64 0] 60 (0,0))) ∧ (w.heap.size ≤ s_.1) ∧ (w.heap.size ≤ s_.1) ∧ (s_.2 ≠ s_.1) ∧ (s_.1 ≠ s_.2) ∧ (w.heap.size ≤ s_.2) ∧ (w.heap.size ≤ s_.2) ∧ (Below w.heap.size w w')) ?_ ?_
        rotate_left
        ·intro hCont
         refine two_ (i:=9) (j:=10) (Ni:=some 7) (Nj:=some 8) #[true,true,true,true,true,true,true,true,true,true,false,false,false] #[true,true,true,true,true,true,true,true,true,false,true,false,false] rfl rfl rfl rfl (two_of HT_.out (by kernel_rfl)) (by decide) (by decide) (fun K hK=>?_) (fun K hK=>?_)
         ·skip
          refine box_step ?hg (N:=7) ?hd (cs := #[.int .i64 0,.int .i64 0]) (t:=60) ?hr ?_;(case hd=>rfl);(case hg=>rfl);(case hr=>first|(go_simp;done)|(go_simp;rfl))
          intro gb287 hg w10 hbox hb
          have n0_:=zM (zQ (by repeat (first|(with_reducible first|exact HB.out|apply zD|apply zE|apply zF)|exact HB.out)) hb)
          have n1_:=zM (hbox)
          have n2_:=zM ((by rw [hg];exact (zR (by repeat (first|(with_reducible first|exact HB.out|apply zD|apply zE|apply zF)|exact HB.out))) : w.heap.size ≤ gb287))
          have n3_:=zM ((by rw [hg];exact (zR (by repeat (first|(with_reducible first|exact HB.out|apply zD|apply zE|apply zF)|exact HB.out))) : w.heap.size ≤ gb287))
          clear HB
          have HB:=n0_
          have BK287:=n1_
          have GW287:=n2_
          have GE287:=n3_
          clear n0_ n1_ n2_ n3_
          clear hb hbox hg
          refine hK.out _ _ ⟨((HB.out.cell (World.block_lt_of_cell? w _ hw285_0)).trans hw285_0),((HB.out.cell (World.block_lt_of_cell? w _ hw285_1)).trans hw285_1),((HB.out.cell (World.block_lt_of_cell? w _ hw286_0)).trans hw286_0),((HB.out.cell (World.block_lt_of_cell? w _ hw286_1)).trans hw286_1)⟩ (fun hHeld=>?_)
          clear hK K
          refine norm_ (a':=?_) ?_ ?_
          rotate_left
          ·show Act.put _ (some 7) _ = _
           simp only [Act.put,List.setIfInBounds_toArray,List.set_cons_zero,List.set_cons_succ,i64_w,i32_w]
           rfl
          refine one_ (i:=10) (N:=some 8) #[true,true,true,true,true,true,true,true,true,true,true,false,false] rfl rfl (one_of HT_.out (by kernel_rfl)) (by decide) (fun K hK=>?_)
          refine box_step ?hg (N:=8) ?hd (cs := #[.int .i64 0,.int .i64 0]) (t:=60) ?hr ?_;(case hd=>rfl);(case hg=>rfl);(case hr=>first|(go_simp;done)|(go_simp;rfl))
          intro gb288 hg w11 hbox hb
          have n0_:=zM (blk_below (g:=gb287) (o := .cells #[.int .i64 0,.int .i64 0] 60 (0,0)) (by (with_reducible repeat (first|refine zJ ?_ _|refine zK ?_|refine zL ?_ _));exact BK287.out) hb)
          have n1_:=zM (zQ (by repeat (first|(with_reducible first|exact HB.out|apply zD|apply zE|apply zF|refine below_set ?_ GE287.out)|exact HB.out)) hb)
          have n2_:=zM (hbox)
          have n3_:=zM ((by rw [hg];exact (zR (by repeat (first|(with_reducible first|exact HB.out|apply zD|apply zE|apply zF|refine below_set ?_ GE287.out)|exact HB.out))) : w.heap.size ≤ gb288))
          have n4_:=zM ((by rw [hg];exact (zR (by repeat (first|(with_reducible first|exact HB.out|apply zD|apply zE|apply zF|refine below_set ?_ GE287.out)|exact HB.out))) : w.heap.size ≤ gb288))
          have n5_:=zM ((by rw [hg];exact Nat.ne_of_lt (blk_lt (g:=gb287) (o := .cells #[.int .i64 0,.int .i64 0] 60 (0,0)) (by (with_reducible repeat (first|refine zJ ?_ _|refine zK ?_|refine zL ?_ _));exact BK287.out)) : gb287 ≠ gb288))
          have n6_:=zM ((by rw [hg];exact Nat.ne_of_gt (blk_lt (g:=gb287) (o := .cells #[.int .i64 0,.int .i64 0] 60 (0,0)) (by (with_reducible repeat (first|refine zJ ?_ _|refine zK ?_|refine zL ?_ _));exact BK287.out)) : gb288 ≠ gb287))
          clear BK287
          clear HB
          have BK287:=n0_
          have HB:=n1_
          have BK288:=n2_
          have GW288:=n3_
          have GE288:=n4_
          have NB287_288:=n5_
          have NB288_287:=n6_
          clear n0_ n1_ n2_ n3_ n4_ n5_ n6_
          clear hb hbox hg
          refine hK.out _ _ ⟨((HB.out.cell (World.block_lt_of_cell? w _ hw285_0)).trans hw285_0),((HB.out.cell (World.block_lt_of_cell? w _ hw285_1)).trans hw285_1),((HB.out.cell (World.block_lt_of_cell? w _ hw286_0)).trans hw286_0),((HB.out.cell (World.block_lt_of_cell? w _ hw286_1)).trans hw286_1)⟩ (fun hHeld=>?_)
          clear hK K
          refine norm_ (a':=?_) ?_ ?_
          rotate_left
          ·show Act.put _ (some 8) _ = _
           simp only [Act.put,List.setIfInBounds_toArray,List.set_cons_zero,List.set_cons_succ,i64_w,i32_w]
           rfl
          exact norm_ (by simp only [putAll,Act.put,List.setIfInBounds_toArray,List.set_cons_zero,List.set_cons_succ]) (hCont (gb287,gb288) _ ⟨hHeld,(by (with_reducible repeat (first|refine zJ ?_ _|refine zK ?_|refine zL ?_ _));exact BK287.out),(by (with_reducible repeat (first|refine zJ ?_ _|refine zK ?_|refine zL ?_ _));exact BK288.out),GW287.out,GE287.out,NB288_287.out,NB287_288.out,GW288.out,GE288.out,(by repeat (first|(with_reducible first|exact HB.out|apply zD|apply zE|apply zF|refine below_set ?_ GE287.out|refine below_set ?_ GE288.out)|exact HB.out))⟩)
         ·skip
          refine box_step ?hg (N:=8) ?hd (cs := #[.int .i64 0,.int .i64 0]) (t:=60) ?hr ?_;(case hd=>rfl);(case hg=>rfl);(case hr=>first|(go_simp;done)|(go_simp;rfl))
          intro gb288 hg w10 hbox hb
          have n0_:=zM (zQ (by repeat (first|(with_reducible first|exact HB.out|apply zD|apply zE|apply zF)|exact HB.out)) hb)
          have n1_:=zM (hbox)
          have n2_:=zM ((by rw [hg];exact (zR (by repeat (first|(with_reducible first|exact HB.out|apply zD|apply zE|apply zF)|exact HB.out))) : w.heap.size ≤ gb288))
          have n3_:=zM ((by rw [hg];exact (zR (by repeat (first|(with_reducible first|exact HB.out|apply zD|apply zE|apply zF)|exact HB.out))) : w.heap.size ≤ gb288))
          clear HB
          have HB:=n0_
          have BK288:=n1_
          have GW288:=n2_
          have GE288:=n3_
          clear n0_ n1_ n2_ n3_
          clear hb hbox hg
          refine hK.out _ _ ⟨((HB.out.cell (World.block_lt_of_cell? w _ hw285_0)).trans hw285_0),((HB.out.cell (World.block_lt_of_cell? w _ hw285_1)).trans hw285_1),((HB.out.cell (World.block_lt_of_cell? w _ hw286_0)).trans hw286_0),((HB.out.cell (World.block_lt_of_cell? w _ hw286_1)).trans hw286_1)⟩ (fun hHeld=>?_)
          clear hK K
          refine norm_ (a':=?_) ?_ ?_
          rotate_left
          ·show Act.put _ (some 8) _ = _
           simp only [Act.put,List.setIfInBounds_toArray,List.set_cons_zero,List.set_cons_succ,i64_w,i32_w]
           rfl
          refine one_ (i:=9) (N:=some 7) #[true,true,true,true,true,true,true,true,true,true,true,false,false] rfl rfl (one_of HT_.out (by kernel_rfl)) (by decide) (fun K hK=>?_)
          refine box_step ?hg (N:=7) ?hd (cs := #[.int .i64 0,.int .i64 0]) (t:=60) ?hr ?_;(case hd=>rfl);(case hg=>rfl);(case hr=>first|(go_simp;done)|(go_simp;rfl))
          intro gb287 hg w11 hbox hb
          have n0_:=zM (blk_below (g:=gb288) (o := .cells #[.int .i64 0,.int .i64 0] 60 (0,0)) (by (with_reducible repeat (first|refine zJ ?_ _|refine zK ?_|refine zL ?_ _));exact BK288.out) hb)
          have n1_:=zM (zQ (by repeat (first|(with_reducible first|exact HB.out|apply zD|apply zE|apply zF|refine below_set ?_ GE288.out)|exact HB.out)) hb)
          have n2_:=zM (hbox)
          have n3_:=zM ((by rw [hg];exact (zR (by repeat (first|(with_reducible first|exact HB.out|apply zD|apply zE|apply zF|refine below_set ?_ GE288.out)|exact HB.out))) : w.heap.size ≤ gb287))
          have n4_:=zM ((by rw [hg];exact (zR (by repeat (first|(with_reducible first|exact HB.out|apply zD|apply zE|apply zF|refine below_set ?_ GE288.out)|exact HB.out))) : w.heap.size ≤ gb287))
          have n5_:=zM ((by rw [hg];exact Nat.ne_of_lt (blk_lt (g:=gb288) (o := .cells #[.int .i64 0,.int .i64 0] 60 (0,0)) (by (with_reducible repeat (first|refine zJ ?_ _|refine zK ?_|refine zL ?_ _));exact BK288.out)) : gb288 ≠ gb287))
          have n6_:=zM ((by rw [hg];exact Nat.ne_of_gt (blk_lt (g:=gb288) (o := .cells #[.int .i64 0,.int .i64 0] 60 (0,0)) (by (with_reducible repeat (first|refine zJ ?_ _|refine zK ?_|refine zL ?_ _));exact BK288.out)) : gb287 ≠ gb288))
          clear BK288
          clear HB
          have BK288:=n0_
          have HB:=n1_
          have BK287:=n2_
          have GW287:=n3_
          have GE287:=n4_
          have NB288_287:=n5_
          have NB287_288:=n6_
          clear n0_ n1_ n2_ n3_ n4_ n5_ n6_
          clear hb hbox hg
          refine hK.out _ _ ⟨((HB.out.cell (World.block_lt_of_cell? w _ hw285_0)).trans hw285_0),((HB.out.cell (World.block_lt_of_cell? w _ hw285_1)).trans hw285_1),((HB.out.cell (World.block_lt_of_cell? w _ hw286_0)).trans hw286_0),((HB.out.cell (World.block_lt_of_cell? w _ hw286_1)).trans hw286_1)⟩ (fun hHeld=>?_)
          clear hK K
          refine norm_ (a':=?_) ?_ ?_
          rotate_left
          ·show Act.put _ (some 7) _ = _
           simp only [Act.put,List.setIfInBounds_toArray,List.set_cons_zero,List.set_cons_succ,i64_w,i32_w]
           rfl
          exact norm_ (by simp only [putAll,Act.put,List.setIfInBounds_toArray,List.set_cons_zero,List.set_cons_succ]) (hCont (gb287,gb288) _ ⟨hHeld,(by (with_reducible repeat (first|refine zJ ?_ _|refine zK ?_|refine zL ?_ _));exact BK287.out),(by (with_reducible repeat (first|refine zJ ?_ _|refine zK ?_|refine zL ?_ _));exact BK288.out),GW287.out,GE287.out,NB288_287.out,NB287_288.out,GW288.out,GE288.out,(by repeat (first|(with_reducible first|exact HB.out|apply zD|apply zE|apply zF|refine below_set ?_ GE288.out|refine below_set ?_ GE287.out)|exact HB.out))⟩)
        rintro ⟨gb287,gb288⟩ w12 ⟨hS_,h0_,h1_,h2_,h3_,h4_,h5_,h6_,h7_,h8_⟩
        have n0_ : Aside0 (w12.heap[gb287]? = some (.cells #[.int .i64 0,.int .i64 0] 60 (0,0))):=⟨h0_⟩
        have n1_ : Aside0 (w12.heap[gb288]? = some (.cells #[.int .i64 0,.int .i64 0] 60 (0,0))):=⟨h1_⟩
        have n2_ : Aside0 (w.heap.size ≤ gb287):=⟨h2_⟩
        have n3_ : Aside0 (w.heap.size ≤ gb287):=⟨h3_⟩
        have n4_ : Aside0 (gb288 ≠ gb287):=⟨h4_⟩
        have n5_ : Aside0 (gb287 ≠ gb288):=⟨h5_⟩
        have n6_ : Aside0 (w.heap.size ≤ gb288):=⟨h6_⟩
        have n7_ : Aside0 (w.heap.size ≤ gb288):=⟨h7_⟩
        have n8_ : Aside0 (Below w.heap.size w w12):=⟨h8_⟩
        clear HB
        clear h0_ h1_ h2_ h3_ h4_ h5_ h6_ h7_ h8_
        have BK287:=n0_
        have BK288:=n1_
        have GW287:=n2_
        have GE287:=n3_
        have NB288_287:=n4_
        have NB287_288:=n5_
        have GW288:=n6_
        have GE288:=n7_
        have HB:=n8_
        clear n0_ n1_ n2_ n3_ n4_ n5_ n6_ n7_ n8_
        have hHeld : w12.cell? (ad284.add (((ji6)).toNat * 2)) = some (.int .i64 ((rd_T60 l0 (ji6)).f0)) ∧ w12.cell? ⟨(ad284.add (((ji6)).toNat * 2)).block,(ad284.add (((ji6)).toNat * 2)).off + 1,none⟩ = some (.int .i64 ((rd_T60 l0 (ji6)).f1)) ∧ w12.cell? (ad284.add ((x6_1).toNat * 2)) = some (.int .i64 ((rd_T60 l0 x6_1).f0)) ∧ w12.cell? ⟨(ad284.add ((x6_1).toNat * 2)).block,(ad284.add ((x6_1).toNat * 2)).off + 1,none⟩ = some (.int .i64 ((rd_T60 l0 x6_1).f1)):=hS_
        refine norm_ (a':=?_) ?_ ?_
        rotate_left
        ·simp only [putAll,Act.put,List.setIfInBounds_toArray,List.set_cons_zero,List.set_cons_succ]
         rfl
        refine one_ (i:=11) (N:=none) #[true,true,true,true,true,true,true,true,true,true,true,true,false] rfl rfl (one_of HT_.out (by kernel_rfl)) (by decide) (fun K hK=>?_)
        have hs13 : w12.cell? ⟨gb287,0,none⟩ = some (.int .i64 0):=(blk_cell BK287.out 0).trans rfl
        have hfs13:=blk_frozen BK287.out 0
        have hns13_1:=NB288_287.out
        have hms13_1:=NB287_288.out
        have hs14 : w12.cell? ⟨gb287,1,none⟩ = some (.int .i64 0):=(blk_cell BK287.out 1).trans rfl
        have hfs14:=blk_frozen BK287.out 1
        have hns14_1:=NB288_287.out
        have hms14_1:=NB287_288.out
        refine skip_ (w1:=?_) (by rfl) rfl ?_ ?_
        rotate_left
        ·go_simp
         rfl
        refine hK.out _ _ ⟨((cell_far (p:=⟨gb287,_,none⟩) (by first|exact Nat.ne_of_lt (Nat.lt_of_lt_of_le (by have:=World.block_lt_of_cell? _ _ hw285_0;first|rwa [add_block] at this|exact this) GW287.out)|(rw [add_block];exact Nat.ne_of_lt (Nat.lt_of_lt_of_le (by have:=World.block_lt_of_cell? _ _ hw285_0;first|rwa [add_block] at this|exact this) GW287.out))|(show (Addr.add _ _).block ≠ _;rw [add_block];exact Nat.ne_of_lt (Nat.lt_of_lt_of_le (by have:=World.block_lt_of_cell? _ _ hw285_0;first|rwa [add_block] at this|exact this) GW287.out))|(dsimp only;exact Nat.ne_of_lt (Nat.lt_of_lt_of_le (by have:=World.block_lt_of_cell? _ _ hw285_0;first|rwa [add_block] at this|exact this) GW287.out))) _).trans (((cell_far (p:=⟨gb287,_,none⟩) (by first|exact Nat.ne_of_lt (Nat.lt_of_lt_of_le (by have:=World.block_lt_of_cell? _ _ hw285_0;first|rwa [add_block] at this|exact this) GW287.out)|(rw [add_block];exact Nat.ne_of_lt (Nat.lt_of_lt_of_le (by have:=World.block_lt_of_cell? _ _ hw285_0;first|rwa [add_block] at this|exact this) GW287.out))|(show (Addr.add _ _).block ≠ _;rw [add_block];exact Nat.ne_of_lt (Nat.lt_of_lt_of_le (by have:=World.block_lt_of_cell? _ _ hw285_0;first|rwa [add_block] at this|exact this) GW287.out))|(dsimp only;exact Nat.ne_of_lt (Nat.lt_of_lt_of_le (by have:=World.block_lt_of_cell? _ _ hw285_0;first|rwa [add_block] at this|exact this) GW287.out))) _).trans (hHeld.1)))),((cell_far (p:=⟨gb287,_,none⟩) (by first|exact Nat.ne_of_lt (Nat.lt_of_lt_of_le (by have:=World.block_lt_of_cell? _ _ hw285_1;first|rwa [add_block] at this|exact this) GW287.out)|(rw [add_block];exact Nat.ne_of_lt (Nat.lt_of_lt_of_le (by have:=World.block_lt_of_cell? _ _ hw285_1;first|rwa [add_block] at this|exact this) GW287.out))|(show (Addr.add _ _).block ≠ _;rw [add_block];exact Nat.ne_of_lt (Nat.lt_of_lt_of_le (by have:=World.block_lt_of_cell? _ _ hw285_1;first|rwa [add_block] at this|exact this) GW287.out))|(dsimp only;exact Nat.ne_of_lt (Nat.lt_of_lt_of_le (by have:=World.block_lt_of_cell? _ _ hw285_1;first|rwa [add_block] at this|exact this) GW287.out))) _).trans (((cell_far (p:=⟨gb287,_,none⟩) (by first|exact Nat.ne_of_lt (Nat.lt_of_lt_of_le (by have:=World.block_lt_of_cell? _ _ hw285_1;first|rwa [add_block] at this|exact this) GW287.out)|(rw [add_block];exact Nat.ne_of_lt (Nat.lt_of_lt_of_le (by have:=World.block_lt_of_cell? _ _ hw285_1;first|rwa [add_block] at this|exact this) GW287.out))|(show (Addr.add _ _).block ≠ _;rw [add_block];exact Nat.ne_of_lt (Nat.lt_of_lt_of_le (by have:=World.block_lt_of_cell? _ _ hw285_1;first|rwa [add_block] at this|exact this) GW287.out))|(dsimp only;exact Nat.ne_of_lt (Nat.lt_of_lt_of_le (by have:=World.block_lt_of_cell? _ _ hw285_1;first|rwa [add_block] at this|exact this) GW287.out))) _).trans (hHeld.2.1)))),((cell_far (p:=⟨gb287,_,none⟩) (by first|exact Nat.ne_of_lt (Nat.lt_of_lt_of_le (by have:=World.block_lt_of_cell? _ _ hw286_0;first|rwa [add_block] at this|exact this) GW287.out)|(rw [add_block];exact Nat.ne_of_lt (Nat.lt_of_lt_of_le (by have:=World.block_lt_of_cell? _ _ hw286_0;first|rwa [add_block] at this|exact this) GW287.out))|(show (Addr.add _ _).block ≠ _;rw [add_block];exact Nat.ne_of_lt (Nat.lt_of_lt_of_le (by have:=World.block_lt_of_cell? _ _ hw286_0;first|rwa [add_block] at this|exact this) GW287.out))|(dsimp only;exact Nat.ne_of_lt (Nat.lt_of_lt_of_le (by have:=World.block_lt_of_cell? _ _ hw286_0;first|rwa [add_block] at this|exact this) GW287.out))) _).trans (((cell_far (p:=⟨gb287,_,none⟩) (by first|exact Nat.ne_of_lt (Nat.lt_of_lt_of_le (by have:=World.block_lt_of_cell? _ _ hw286_0;first|rwa [add_block] at this|exact this) GW287.out)|(rw [add_block];exact Nat.ne_of_lt (Nat.lt_of_lt_of_le (by have:=World.block_lt_of_cell? _ _ hw286_0;first|rwa [add_block] at this|exact this) GW287.out))|(show (Addr.add _ _).block ≠ _;rw [add_block];exact Nat.ne_of_lt (Nat.lt_of_lt_of_le (by have:=World.block_lt_of_cell? _ _ hw286_0;first|rwa [add_block] at this|exact this) GW287.out))|(dsimp only;exact Nat.ne_of_lt (Nat.lt_of_lt_of_le (by have:=World.block_lt_of_cell? _ _ hw286_0;first|rwa [add_block] at this|exact this) GW287.out))) _).trans (hHeld.2.2.1)))),((cell_far (p:=⟨gb287,_,none⟩) (by first|exact Nat.ne_of_lt (Nat.lt_of_lt_of_le (by have:=World.block_lt_of_cell? _ _ hw286_1;first|rwa [add_block] at this|exact this) GW287.out)|(rw [add_block];exact Nat.ne_of_lt (Nat.lt_of_lt_of_le (by have:=World.block_lt_of_cell? _ _ hw286_1;first|rwa [add_block] at this|exact this) GW287.out))|(show (Addr.add _ _).block ≠ _;rw [add_block];exact Nat.ne_of_lt (Nat.lt_of_lt_of_le (by have:=World.block_lt_of_cell? _ _ hw286_1;first|rwa [add_block] at this|exact this) GW287.out))|(dsimp only;exact Nat.ne_of_lt (Nat.lt_of_lt_of_le (by have:=World.block_lt_of_cell? _ _ hw286_1;first|rwa [add_block] at this|exact this) GW287.out))) _).trans (((cell_far (p:=⟨gb287,_,none⟩) (by first|exact Nat.ne_of_lt (Nat.lt_of_lt_of_le (by have:=World.block_lt_of_cell? _ _ hw286_1;first|rwa [add_block] at this|exact this) GW287.out)|(rw [add_block];exact Nat.ne_of_lt (Nat.lt_of_lt_of_le (by have:=World.block_lt_of_cell? _ _ hw286_1;first|rwa [add_block] at this|exact this) GW287.out))|(show (Addr.add _ _).block ≠ _;rw [add_block];exact Nat.ne_of_lt (Nat.lt_of_lt_of_le (by have:=World.block_lt_of_cell? _ _ hw286_1;first|rwa [add_block] at this|exact this) GW287.out))|(dsimp only;exact Nat.ne_of_lt (Nat.lt_of_lt_of_le (by have:=World.block_lt_of_cell? _ _ hw286_1;first|rwa [add_block] at this|exact this) GW287.out))) _).trans (hHeld.2.2.2))))⟩ (fun hHeld=>?_)
        clear hK K
        refine one_ (i:=12) (N:=none) #[true,true,true,true,true,true,true,true,true,true,true,true,true] rfl rfl (one_of HT_.out (by kernel_rfl)) (by decide) (fun K hK=>?_)
        have hs15 : w12.cell? ⟨gb288,0,none⟩ = some (.int .i64 0):=(blk_cell BK288.out 0).trans rfl
        have hfs15:=blk_frozen BK288.out 0
        have hns15_0:=NB287_288.out
        have hms15_0:=NB288_287.out
        have hs16 : w12.cell? ⟨gb288,1,none⟩ = some (.int .i64 0):=(blk_cell BK288.out 1).trans rfl
        have hfs16:=blk_frozen BK288.out 1
        have hns16_0:=NB287_288.out
        have hms16_0:=NB288_287.out
        refine skip_ (w1:=?_) (by rfl) rfl ?_ ?_
        rotate_left
        ·go_simp
         rfl
        refine hK.out _ _ ⟨((cell_far (p:=⟨gb288,_,none⟩) (by first|exact Nat.ne_of_lt (Nat.lt_of_lt_of_le (by have:=World.block_lt_of_cell? _ _ hw285_0;first|rwa [add_block] at this|exact this) GW288.out)|(rw [add_block];exact Nat.ne_of_lt (Nat.lt_of_lt_of_le (by have:=World.block_lt_of_cell? _ _ hw285_0;first|rwa [add_block] at this|exact this) GW288.out))|(show (Addr.add _ _).block ≠ _;rw [add_block];exact Nat.ne_of_lt (Nat.lt_of_lt_of_le (by have:=World.block_lt_of_cell? _ _ hw285_0;first|rwa [add_block] at this|exact this) GW288.out))|(dsimp only;exact Nat.ne_of_lt (Nat.lt_of_lt_of_le (by have:=World.block_lt_of_cell? _ _ hw285_0;first|rwa [add_block] at this|exact this) GW288.out))) _).trans (((cell_far (p:=⟨gb288,_,none⟩) (by first|exact Nat.ne_of_lt (Nat.lt_of_lt_of_le (by have:=World.block_lt_of_cell? _ _ hw285_0;first|rwa [add_block] at this|exact this) GW288.out)|(rw [add_block];exact Nat.ne_of_lt (Nat.lt_of_lt_of_le (by have:=World.block_lt_of_cell? _ _ hw285_0;first|rwa [add_block] at this|exact this) GW288.out))|(show (Addr.add _ _).block ≠ _;rw [add_block];exact Nat.ne_of_lt (Nat.lt_of_lt_of_le (by have:=World.block_lt_of_cell? _ _ hw285_0;first|rwa [add_block] at this|exact this) GW288.out))|(dsimp only;exact Nat.ne_of_lt (Nat.lt_of_lt_of_le (by have:=World.block_lt_of_cell? _ _ hw285_0;first|rwa [add_block] at this|exact this) GW288.out))) _).trans (hHeld.1)))),((cell_far (p:=⟨gb288,_,none⟩) (by first|exact Nat.ne_of_lt (Nat.lt_of_lt_of_le (by have:=World.block_lt_of_cell? _ _ hw285_1;first|rwa [add_block] at this|exact this) GW288.out)|(rw [add_block];exact Nat.ne_of_lt (Nat.lt_of_lt_of_le (by have:=World.block_lt_of_cell? _ _ hw285_1;first|rwa [add_block] at this|exact this) GW288.out))|(show (Addr.add _ _).block ≠ _;rw [add_block];exact Nat.ne_of_lt (Nat.lt_of_lt_of_le (by have:=World.block_lt_of_cell? _ _ hw285_1;first|rwa [add_block] at this|exact this) GW288.out))|(dsimp only;exact Nat.ne_of_lt (Nat.lt_of_lt_of_le (by have:=World.block_lt_of_cell? _ _ hw285_1;first|rwa [add_block] at this|exact this) GW288.out))) _).trans (((cell_far (p:=⟨gb288,_,none⟩) (by first|exact Nat.ne_of_lt (Nat.lt_of_lt_of_le (by have:=World.block_lt_of_cell? _ _ hw285_1;first|rwa [add_block] at this|exact this) GW288.out)|(rw [add_block];exact Nat.ne_of_lt (Nat.lt_of_lt_of_le (by have:=World.block_lt_of_cell? _ _ hw285_1;first|rwa [add_block] at this|exact this) GW288.out))|(show (Addr.add _ _).block ≠ _;rw [add_block];exact Nat.ne_of_lt (Nat.lt_of_lt_of_le (by have:=World.block_lt_of_cell? _ _ hw285_1;first|rwa [add_block] at this|exact this) GW288.out))|(dsimp only;exact Nat.ne_of_lt (Nat.lt_of_lt_of_le (by have:=World.block_lt_of_cell? _ _ hw285_1;first|rwa [add_block] at this|exact this) GW288.out))) _).trans (hHeld.2.1)))),((cell_far (p:=⟨gb288,_,none⟩) (by first|exact Nat.ne_of_lt (Nat.lt_of_lt_of_le (by have:=World.block_lt_of_cell? _ _ hw286_0;first|rwa [add_block] at this|exact this) GW288.out)|(rw [add_block];exact Nat.ne_of_lt (Nat.lt_of_lt_of_le (by have:=World.block_lt_of_cell? _ _ hw286_0;first|rwa [add_block] at this|exact this) GW288.out))|(show (Addr.add _ _).block ≠ _;rw [add_block];exact Nat.ne_of_lt (Nat.lt_of_lt_of_le (by have:=World.block_lt_of_cell? _ _ hw286_0;first|rwa [add_block] at this|exact this) GW288.out))|(dsimp only;exact Nat.ne_of_lt (Nat.lt_of_lt_of_le (by have:=World.block_lt_of_cell? _ _ hw286_0;first|rwa [add_block] at this|exact this) GW288.out))) _).trans (((cell_far (p:=⟨gb288,_,none⟩) (by first|exact Nat.ne_of_lt (Nat.lt_of_lt_of_le (by have:=World.block_lt_of_cell? _ _ hw286_0;first|rwa [add_block] at this|exact this) GW288.out)|(rw [add_block];exact Nat.ne_of_lt (Nat.lt_of_lt_of_le (by have:=World.block_lt_of_cell? _ _ hw286_0;first|rwa [add_block] at this|exact this) GW288.out))|(show (Addr.add _ _).block ≠ _;rw [add_block];exact Nat.ne_of_lt (Nat.lt_of_lt_of_le (by have:=World.block_lt_of_cell? _ _ hw286_0;first|rwa [add_block] at this|exact this) GW288.out))|(dsimp only;exact Nat.ne_of_lt (Nat.lt_of_lt_of_le (by have:=World.block_lt_of_cell? _ _ hw286_0;first|rwa [add_block] at this|exact this) GW288.out))) _).trans (hHeld.2.2.1)))),((cell_far (p:=⟨gb288,_,none⟩) (by first|exact Nat.ne_of_lt (Nat.lt_of_lt_of_le (by have:=World.block_lt_of_cell? _ _ hw286_1;first|rwa [add_block] at this|exact this) GW288.out)|(rw [add_block];exact Nat.ne_of_lt (Nat.lt_of_lt_of_le (by have:=World.block_lt_of_cell? _ _ hw286_1;first|rwa [add_block] at this|exact this) GW288.out))|(show (Addr.add _ _).block ≠ _;rw [add_block];exact Nat.ne_of_lt (Nat.lt_of_lt_of_le (by have:=World.block_lt_of_cell? _ _ hw286_1;first|rwa [add_block] at this|exact this) GW288.out))|(dsimp only;exact Nat.ne_of_lt (Nat.lt_of_lt_of_le (by have:=World.block_lt_of_cell? _ _ hw286_1;first|rwa [add_block] at this|exact this) GW288.out))) _).trans (((cell_far (p:=⟨gb288,_,none⟩) (by first|exact Nat.ne_of_lt (Nat.lt_of_lt_of_le (by have:=World.block_lt_of_cell? _ _ hw286_1;first|rwa [add_block] at this|exact this) GW288.out)|(rw [add_block];exact Nat.ne_of_lt (Nat.lt_of_lt_of_le (by have:=World.block_lt_of_cell? _ _ hw286_1;first|rwa [add_block] at this|exact this) GW288.out))|(show (Addr.add _ _).block ≠ _;rw [add_block];exact Nat.ne_of_lt (Nat.lt_of_lt_of_le (by have:=World.block_lt_of_cell? _ _ hw286_1;first|rwa [add_block] at this|exact this) GW288.out))|(dsimp only;exact Nat.ne_of_lt (Nat.lt_of_lt_of_le (by have:=World.block_lt_of_cell? _ _ hw286_1;first|rwa [add_block] at this|exact this) GW288.out))) _).trans (hHeld.2.2.2))))⟩ (fun hHeld=>?_)
        clear hK K
        refine done_ (done_of HT_.out (by kernel_rfl)) ?_
        have hnb17:=NB288_287.out
        have hnc17:=NB287_288.out
        have hcz18_0 : w12.cell? ⟨gb288,0,none⟩ = some (.int .i64 0):=(blk_cell BK288.out 0).trans rfl
        have hcz18_1 : w12.cell? ⟨gb288,1,none⟩ = some (.int .i64 0):=(blk_cell BK288.out 1).trans rfl
        have hfz18_0:=blk_frozen BK288.out 0
        have hfz18_1:=blk_frozen BK288.out 1
        have hcz19_0 : w12.cell? ⟨gb287,0,none⟩ = some (.int .i64 0):=(blk_cell BK287.out 0).trans rfl
        have hcz19_1 : w12.cell? ⟨gb287,1,none⟩ = some (.int .i64 0):=(blk_cell BK287.out 1).trans rfl
        have hfz19_0:=blk_frozen BK287.out 0
        have hfz19_1:=blk_frozen BK287.out 1
        try go_wp2
        go_ret2
        exact ⟨by first|rfl|(simp [errW_none,errW_some] <;> rfl)|(simp only [← hji6];first|rfl|(simp [errW_none,errW_some] <;> rfl))|(simp [*,errW_none,errW_some] <;> rfl),by repeat (first|(with_reducible first|exact HB.out|apply zD|apply zE|apply zF|refine below_set ?_ GE287.out|refine below_set ?_ GE288.out)|exact HB.out)⟩
       ·rw [if_neg c8] at H
        exact absurd H (by simp)
      ·rw [if_neg c7] at H
       exact absurd H (by simp)
    ·rw [if_neg c4] at H
     exact absurd H (by simp)
   ·rw [if_neg c3] at H
    exact absurd H (by simp)

end Go.Proofs.Ytbglkkepfddecaa.G

-- Written by wip/tools/gen.py out of the translation (the kit's printer, one namespace a seat). Lean checks it.
namespace Go.Proofs.Ytbglkkepfddecaa.G
open Go.RowKit Go.Proofs.YtbglkkepfddecaaW.PrintWords Go.Proofs.YtbglkkepfddecaaW.PrintLast Go.Proofs.YtbglkkepfddecaaW.PrintMore
attribute [local go_sem] max2_int min2_int max_two min_two max_three min_three max_four min_four   -- for this text's walks alone
set_option linter.unusedVariables false
set_option linter.unusedSimpArgs false

/-! ### spec_l15Holds: function 59 -/
def spec_l15Holds.f (k : Nat) (l0 : List (S60)) (a1 : Int) : Option (Bool):=(spec_l15Good.f k l0).bind fun t260=>(if t260 = true then (if 0 < (l0.length : Int) then (if 0 ≤ (wrap64 ((l0.length : Int) - 1)) then (if (wrap64 ((l0.length : Int) - 1)) < (l0.length : Int) then ((spec_l1In.f a1 ((rd_T60 l0 0).f0) ((rd_T60 l0 (wrap64 ((l0.length : Int) - 1))).f0)).bind fun t263=>(some t263)) else (none)) else (none)) else (none)) else (some false))
set_option maxHeartbeats 8000000 in
set_option maxRecDepth 100000 in
theorem spec_l15Holds.calls (k : Nat) (A0 : Option Addr) (c0 : Nat) (l0 : List (S60)) (a1 : Int) (r : Bool) (w : World) (hr0 : Kd.C k60 w A0 l0.length l0) (hc0 : l0.length ≤ c0) (h : spec_l15Holds.f k l0 a1 = some r) :
  Calls Try.prog 59 #[.slice A0 l0.length c0,.int .i64 a1] w fun e w'=>e = .returned (.bool r) ∧ Drawn0 w w':=by
 have HR0:=zM hr0
 have HC0:=zM hc0
 clear hr0 hc0
 have H : ((spec_l15Good.f k l0).bind fun t260=>(if t260 = true then (if 0 < (l0.length : Int) then (if 0 ≤ (wrap64 ((l0.length : Int) - 1)) then (if (wrap64 ((l0.length : Int) - 1)) < (l0.length : Int) then ((spec_l1In.f a1 ((rd_T60 l0 0).f0) ((rd_T60 l0 (wrap64 ((l0.length : Int) - 1))).f0)).bind fun t263=>(some t263)) else (none)) else (none)) else (none)) else (some false))) = some r:=h
 clear h
 replace H:=Option.bind_eq_some_iff.mp H
 obtain ⟨t260,A30,H⟩:=H
 replace H : (if t260 = true then (if 0 < (l0.length : Int) then (if 0 ≤ (wrap64 ((l0.length : Int) - 1)) then (if (wrap64 ((l0.length : Int) - 1)) < (l0.length : Int) then ((spec_l1In.f a1 ((rd_T60 l0 0).f0) ((rd_T60 l0 (wrap64 ((l0.length : Int) - 1))).f0)).bind fun t263=>(some t263)) else (none)) else (none)) else (none)) else (some false)) = some r:=H
 have A3:=zM A30
 clear A30
 by_cases c4 : t260 = true
 ·subst c4
  have H1 : (if 0 < (l0.length : Int) then (if 0 ≤ (wrap64 ((l0.length : Int) - 1)) then (if (wrap64 ((l0.length : Int) - 1)) < (l0.length : Int) then ((spec_l1In.f a1 ((rd_T60 l0 0).f0) ((rd_T60 l0 (wrap64 ((l0.length : Int) - 1))).f0)).bind fun t263=>(some t263)) else (none)) else (none)) else (none)) = some r:=by rw [if_pos rfl] at H;exact H
  clear H
  have H:=H1
  clear H1
  by_cases c5 : 0 < (l0.length : Int)
  ·rw [if_pos c5] at H
   have c5b0 : decide (0 < (l0.length : Int)) = true:=decide_eq_true c5
   have c5b1 : decide (0 < l0.length) = true:=decide_eq_true (by omega)
   clear c5
   obtain ⟨ji6,hji6⟩ : ∃ j_ : Int,(wrap64 ((l0.length : Int) - 1)) = j_:=⟨_,rfl⟩
   replace H : (if 0 ≤ (ji6) then (if (ji6) < (l0.length : Int) then ((spec_l1In.f a1 ((rd_T60 l0 0).f0) ((rd_T60 l0 (ji6)).f0)).bind fun t263=>(some t263)) else (none)) else (none)) = some r:=by first|(rw [hji6] at H;exact H)|(simp only [hji6] at H ⊢;exact H)
   (try rw [hji6] at A3)
   have hji6w : (IntKind.i64.wrap ((l0.length : Int) - 1)) = ji6:=(i64_w _).trans hji6
   by_cases c7 : 0 ≤ (ji6)
   ·rw [if_pos c7] at H
    have c7b0 : decide (0 ≤ (ji6)) = true:=decide_eq_true c7
    clear c7
    by_cases c8 : (ji6) < (l0.length : Int)
    ·rw [if_pos c8] at H
     have c8b0 : decide ((ji6) < (l0.length : Int)) = true:=decide_eq_true c8
     clear c8
     replace H:=Option.bind_eq_some_iff.mp H
     obtain ⟨t263,A90,H⟩:=H
     replace H : (some t263) = some r:=H
     have A9:=zM A90
     clear A90
     obtain rfl:=Option.some.inj H
     go_enter Try.func59,Try.ntmps59
     go_wp2_with (first|(go_at_call 52;(with_reducible refine (spec_l15Good.calls k _ _ l0 true _ ?side1 ?side2 A3.out).mono ?_);(case side1=>repeat (first|exact HR0.out|(with_reducible refine zG ?_ _)|(with_reducible refine zH ?_ _)|(with_reducible refine zI ?_)));(case side2=>exact HC0.out);rintro e w' ⟨rfl,⟨nd,rfl⟩⟩;(try first|exact ⟨rfl,_,World.drewN_drewN _ _ _⟩|exact ⟨rfl,_,Eq.trans (World.drewN_drewN _ _ _) (congrArg (World.drewN _) (Nat.add_assoc _ _ _))⟩);have p261 : 0 ≤ (0 : Int):=(by omega);have q261 : 0 < (l0.length : Int):=of_decide_eq_true (by first|(with_reducible assumption)|assumption);obtain ⟨ad261,e261,hx261_0,hx261_1⟩:=at_T60 HR0.out 0 p261 q261;cases e261;have qi261 : (0 < l0.length) = True:=eq_true (by omega);(try rw [show ((0 : Int)).toNat = 0 from rfl] at hx261_0);(try rw [show 0 * 2 = 0 from rfl] at hx261_0);(try rw [Addr.add_zero'] at hx261_0);(try rw [show ((0 : Int)).toNat = 0 from rfl] at hx261_1);(try rw [show 0 * 2 = 0 from rfl] at hx261_1);(try rw [Addr.add_zero'] at hx261_1);replace p261:=eq_true p261;replace q261:=eq_true q261;have p262 : 0 ≤ ((ji6) : Int):=of_decide_eq_true (by first|(with_reducible assumption)|assumption);have q262 : (ji6) < (l0.length : Int):=of_decide_eq_true (by first|(with_reducible assumption)|assumption);obtain ⟨ad262,e262,hx262_0,hx262_1⟩:=at_T60 HR0.out (ji6) p262 q262;obtain rfl : ad261 = ad262:=(by injection e262);replace p262:=eq_true p262;replace q262:=eq_true q262)|(go_at_call 56;(with_reducible refine (spec_l1In.calls a1 ((rd_T60 l0 0).f0) ((rd_T60 l0 (ji6)).f0) t263 _ A9.out).mono ?_);rintro e w' ⟨rfl,⟨nd,rfl⟩⟩;(try first|exact ⟨rfl,_,World.drewN_drewN _ _ _⟩|exact ⟨rfl,_,Eq.trans (World.drewN_drewN _ _ _) (congrArg (World.drewN _) (Nat.add_assoc _ _ _))⟩)))
     repeat (go_quiet (first|(go_at_call 52;(with_reducible refine (spec_l15Good.calls k _ _ l0 true _ ?side1 ?side2 A3.out).mono ?_);(case side1=>repeat (first|exact HR0.out|(with_reducible refine zG ?_ _)|(with_reducible refine zH ?_ _)|(with_reducible refine zI ?_)));(case side2=>exact HC0.out);rintro e w' ⟨rfl,⟨nd,rfl⟩⟩;(try first|exact ⟨rfl,_,World.drewN_drewN _ _ _⟩|exact ⟨rfl,_,Eq.trans (World.drewN_drewN _ _ _) (congrArg (World.drewN _) (Nat.add_assoc _ _ _))⟩);have p261 : 0 ≤ (0 : Int):=(by omega);have q261 : 0 < (l0.length : Int):=of_decide_eq_true (by first|(with_reducible assumption)|assumption);obtain ⟨ad261,e261,hx261_0,hx261_1⟩:=at_T60 HR0.out 0 p261 q261;cases e261;have qi261 : (0 < l0.length) = True:=eq_true (by omega);(try rw [show ((0 : Int)).toNat = 0 from rfl] at hx261_0);(try rw [show 0 * 2 = 0 from rfl] at hx261_0);(try rw [Addr.add_zero'] at hx261_0);(try rw [show ((0 : Int)).toNat = 0 from rfl] at hx261_1);(try rw [show 0 * 2 = 0 from rfl] at hx261_1);(try rw [Addr.add_zero'] at hx261_1);replace p261:=eq_true p261;replace q261:=eq_true q261;have p262 : 0 ≤ ((ji6) : Int):=of_decide_eq_true (by first|(with_reducible assumption)|assumption);have q262 : (ji6) < (l0.length : Int):=of_decide_eq_true (by first|(with_reducible assumption)|assumption);obtain ⟨ad262,e262,hx262_0,hx262_1⟩:=at_T60 HR0.out (ji6) p262 q262;obtain rfl : ad261 = ad262:=(by injection e262);replace p262:=eq_true p262;replace q262:=eq_true q262)|(go_at_call 56;(with_reducible refine (spec_l1In.calls a1 ((rd_T60 l0 0).f0) ((rd_T60 l0 (ji6)).f0) t263 _ A9.out).mono ?_);rintro e w' ⟨rfl,⟨nd,rfl⟩⟩;(try first|exact ⟨rfl,_,World.drewN_drewN _ _ _⟩|exact ⟨rfl,_,Eq.trans (World.drewN_drewN _ _ _) (congrArg (World.drewN _) (Nat.add_assoc _ _ _))⟩)));try go_wp2_with (first|(go_at_call 52;(with_reducible refine (spec_l15Good.calls k _ _ l0 true _ ?side1 ?side2 A3.out).mono ?_);(case side1=>repeat (first|exact HR0.out|(with_reducible refine zG ?_ _)|(with_reducible refine zH ?_ _)|(with_reducible refine zI ?_)));(case side2=>exact HC0.out);rintro e w' ⟨rfl,⟨nd,rfl⟩⟩;(try first|exact ⟨rfl,_,World.drewN_drewN _ _ _⟩|exact ⟨rfl,_,Eq.trans (World.drewN_drewN _ _ _) (congrArg (World.drewN _) (Nat.add_assoc _ _ _))⟩);have p261 : 0 ≤ (0 : Int):=(by omega);have q261 : 0 < (l0.length : Int):=of_decide_eq_true (by first|(with_reducible assumption)|assumption);obtain ⟨ad261,e261,hx261_0,hx261_1⟩:=at_T60 HR0.out 0 p261 q261;cases e261;have qi261 : (0 < l0.length) = True:=eq_true (by omega);(try rw [show ((0 : Int)).toNat = 0 from rfl] at hx261_0);(try rw [show 0 * 2 = 0 from rfl] at hx261_0);(try rw [Addr.add_zero'] at hx261_0);(try rw [show ((0 : Int)).toNat = 0 from rfl] at hx261_1);(try rw [show 0 * 2 = 0 from rfl] at hx261_1);(try rw [Addr.add_zero'] at hx261_1);replace p261:=eq_true p261;replace q261:=eq_true q261;have p262 : 0 ≤ ((ji6) : Int):=of_decide_eq_true (by first|(with_reducible assumption)|assumption);have q262 : (ji6) < (l0.length : Int):=of_decide_eq_true (by first|(with_reducible assumption)|assumption);obtain ⟨ad262,e262,hx262_0,hx262_1⟩:=at_T60 HR0.out (ji6) p262 q262;obtain rfl : ad261 = ad262:=(by injection e262);replace p262:=eq_true p262;replace q262:=eq_true q262)|(go_at_call 56;(with_reducible refine (spec_l1In.calls a1 ((rd_T60 l0 0).f0) ((rd_T60 l0 (ji6)).f0) t263 _ A9.out).mono ?_);rintro e w' ⟨rfl,⟨nd,rfl⟩⟩;(try first|exact ⟨rfl,_,World.drewN_drewN _ _ _⟩|exact ⟨rfl,_,Eq.trans (World.drewN_drewN _ _ _) (congrArg (World.drewN _) (Nat.add_assoc _ _ _))⟩))))
     go_ret
     exact ⟨by first|rfl|(simp;done)|(simp only [← hji6] <;> (first|rfl|simp))|(simp [*];done),by repeat (first|exact Drawn0.refl _|apply Drawn0.step)⟩
    ·rw [if_neg c8] at H
     exact absurd H (by simp)
   ·rw [if_neg c7] at H
    exact absurd H (by simp)
  ·rw [if_neg c5] at H
   exact absurd H (by simp)
 ·replace c4:=Bool.eq_false_iff.mpr c4
  subst c4
  have H1 : (some false) = some r:=by rw [if_neg (show ¬ (false = true) by decide)] at H;exact H
  clear H
  have H:=H1
  clear H1
  obtain rfl:=Option.some.inj H
  go_enter Try.func59,Try.ntmps59
  go_wp2_with (first|(go_at_call 52;(with_reducible refine (spec_l15Good.calls k _ _ l0 false _ ?side1 ?side2 A3.out).mono ?_);(case side1=>repeat (first|exact HR0.out|(with_reducible refine zG ?_ _)|(with_reducible refine zH ?_ _)|(with_reducible refine zI ?_)));(case side2=>exact HC0.out);rintro e w' ⟨rfl,⟨nd,rfl⟩⟩;(try first|exact ⟨rfl,_,World.drewN_drewN _ _ _⟩|exact ⟨rfl,_,Eq.trans (World.drewN_drewN _ _ _) (congrArg (World.drewN _) (Nat.add_assoc _ _ _))⟩)))
  repeat (go_quiet (first|(go_at_call 52;(with_reducible refine (spec_l15Good.calls k _ _ l0 false _ ?side1 ?side2 A3.out).mono ?_);(case side1=>repeat (first|exact HR0.out|(with_reducible refine zG ?_ _)|(with_reducible refine zH ?_ _)|(with_reducible refine zI ?_)));(case side2=>exact HC0.out);rintro e w' ⟨rfl,⟨nd,rfl⟩⟩;(try first|exact ⟨rfl,_,World.drewN_drewN _ _ _⟩|exact ⟨rfl,_,Eq.trans (World.drewN_drewN _ _ _) (congrArg (World.drewN _) (Nat.add_assoc _ _ _))⟩)));try go_wp2_with (first|(go_at_call 52;(with_reducible refine (spec_l15Good.calls k _ _ l0 false _ ?side1 ?side2 A3.out).mono ?_);(case side1=>repeat (first|exact HR0.out|(with_reducible refine zG ?_ _)|(with_reducible refine zH ?_ _)|(with_reducible refine zI ?_)));(case side2=>exact HC0.out);rintro e w' ⟨rfl,⟨nd,rfl⟩⟩;(try first|exact ⟨rfl,_,World.drewN_drewN _ _ _⟩|exact ⟨rfl,_,Eq.trans (World.drewN_drewN _ _ _) (congrArg (World.drewN _) (Nat.add_assoc _ _ _))⟩))))
  go_ret
  exact ⟨by first|rfl|(simp;done)|(simp [*];done),by repeat (first|exact Drawn0.refl _|apply Drawn0.step)⟩

end Go.Proofs.Ytbglkkepfddecaa.G

-- Written by wip/tools/gen.py out of the translation (the kit's printer, one namespace a seat). Lean checks it.
namespace Go.Proofs.Ytbglkkepfddecaa.G
open Go.RowKit Go.Proofs.YtbglkkepfddecaaW.PrintWords Go.Proofs.YtbglkkepfddecaaW.PrintLast Go.Proofs.YtbglkkepfddecaaW.PrintMore
attribute [local go_sem] max2_int min2_int max_two min_two max_three min_three max_four min_four   -- for this text's walks alone
set_option linter.unusedVariables false
set_option linter.unusedSimpArgs false

/-! ### impl_holds: function 62 -/
def impl_holds.l0 : Nat → List (S60) → List Int → Int → Int → Option (Bool)
 | 0,_,_,_,_=>none
 | k + 1,x0,x10,x11,x12=>if x12 < x11 then (if 0 ≤ x12 then (if x12 < (x10.length : Int) then (if 0 < (x0.length : Int) then (if 0 ≤ (wrap64 ((x0.length : Int) - 1)) then (if (wrap64 ((x0.length : Int) - 1)) < (x0.length : Int) then ((impl_within.f (rd x10 x12) ((rd_T60 x0 0).f0) ((rd_T60 x0 (wrap64 ((x0.length : Int) - 1))).f0)).bind fun t283=>(if t283 = true then (impl_holds.l0 k x0 x10 x11 (wrap64 (x12 + 1))) else (some false))) else (none)) else (none)) else (none)) else (none)) else (none)) else (some true)
def impl_holds.f (k : Nat) (l0 : List (S60)) (l1 : List Int) : Option (Bool):=(impl_IsValidTides.f k l0).bind fun t279=>(if t279 = true then (impl_holds.l0 k l0 l1 (l1.length : Int) 0) else (some false))
set_option maxHeartbeats 8000000 in
set_option maxRecDepth 100000 in
theorem impl_holds.calls (k : Nat) (A0 : Option Addr) (c0 : Nat) (l0 : List (S60)) (A1 : Option Addr) (c1 : Nat) (l1 : List Int) (r : Bool) (w : World) (hr0 : Kd.C k60 w A0 l0.length l0) (hc0 : l0.length ≤ c0) (hr1 : Kd.C (Kd.int .i64) w A1 l1.length l1) (hc1 : l1.length ≤ c1) (h : impl_holds.f k l0 l1 = some r) :
  Calls Try.prog 62 #[.slice A0 l0.length c0,.slice A1 l1.length c1] w fun e w'=>e = .returned (.bool r) ∧ Below w.heap.size w w':=by
 have HR0:=zM hr0
 have HC0:=zM hc0
 clear hr0 hc0
 have HR1:=zM hr1
 have HC1:=zM hc1
 clear hr1 hc1
 have HB:=zM (Below.refl w.heap.size w)
 have H : ((impl_IsValidTides.f k l0).bind fun t279=>(if t279 = true then (impl_holds.l0 k l0 l1 (l1.length : Int) 0) else (some false))) = some r:=h
 clear h
 replace H:=Option.bind_eq_some_iff.mp H
 obtain ⟨t279,A30,H⟩:=H
 replace H : (if t279 = true then (impl_holds.l0 k l0 l1 (l1.length : Int) 0) else (some false)) = some r:=H
 have A3:=zM A30
 clear A30
 by_cases c4 : t279 = true
 ·subst c4
  have H1 : (impl_holds.l0 k l0 l1 (l1.length : Int) 0) = some r:=by rw [if_pos rfl] at H;exact H
  clear H
  have H:=H1
  clear H1
  have H':=zM H
  clear H
  go_enter Try.func62,Try.ntmps62
  go_wp2_with (first|(go_at_call 17;(with_reducible refine (impl_IsValidTides.calls k _ _ l0 true _ ?side1 ?side2 A3.out).mono ?_);(case side1=>repeat (first|exact HR0.out|(with_reducible refine zG ?_ _)|(with_reducible refine zH ?_ _)|(with_reducible refine zI ?_)));(case side2=>exact HC0.out);rintro e w5 ⟨rfl,hb⟩;have n0_:=zM (zQ (by repeat (first|(with_reducible first|exact HB.out|apply zD|apply zE|apply zF)|exact HB.out)) hb);clear HB;have HB:=n0_;clear n0_;(try clear hb);(try clear hb2);(try clear hk);(try clear hi)))
  repeat (go_quiet (first|(go_at_call 17;(with_reducible refine (impl_IsValidTides.calls k _ _ l0 true _ ?side1 ?side2 A3.out).mono ?_);(case side1=>repeat (first|exact HR0.out|(with_reducible refine zG ?_ _)|(with_reducible refine zH ?_ _)|(with_reducible refine zI ?_)));(case side2=>exact HC0.out);rintro e w5 ⟨rfl,hb⟩;have n0_:=zM (zQ (by repeat (first|(with_reducible first|exact HB.out|apply zD|apply zE|apply zF)|exact HB.out)) hb);clear HB;have HB:=n0_;clear n0_;(try clear hb);(try clear hb2);(try clear hk);(try clear hi)));try go_wp2_with (first|(go_at_call 17;(with_reducible refine (impl_IsValidTides.calls k _ _ l0 true _ ?side1 ?side2 A3.out).mono ?_);(case side1=>repeat (first|exact HR0.out|(with_reducible refine zG ?_ _)|(with_reducible refine zH ?_ _)|(with_reducible refine zI ?_)));(case side2=>exact HC0.out);rintro e w5 ⟨rfl,hb⟩;have n0_:=zM (zQ (by repeat (first|(with_reducible first|exact HB.out|apply zD|apply zE|apply zF)|exact HB.out)) hb);clear HB;have HB:=n0_;clear n0_;(try clear hb);(try clear hb2);(try clear hk);(try clear hi))))
  go_loopg [12] k (fun kq v12 w' => ∃ (x12_1 : Int),v12 = .int .i64 x12_1 ∧ Aside0 (impl_holds.l0 kq l0 l1 (l1.length : Int) x12_1 = some r) ∧ Aside0 (kq ≤ k) ∧ Aside0 (Below w.heap.size w w'))
  case atStart=>exact ⟨(0),(by first|rfl|(simp;done)|(simp [*];done)),H',⟨Nat.le_refl _⟩,⟨by repeat (first|(with_reducible first|exact HB.out|apply zD|apply zE|apply zF)|exact HB.out)⟩⟩
  case round =>
   clear H'
   try clear c1
   try clear p2
   try clear c4
   obtain ⟨x12_1,rfl,HA,HK1,HB⟩:=hrel
   cases gk with
   | zero=>exact absurd HA.out (by simp [impl_holds.l0])
   | succ k1 =>
    have H:=HA.out
    clear HA
    simp only [impl_holds.l0] at H
    by_cases c6 : x12_1 < (l1.length : Int)
    ·rw [if_pos c6] at H
     have c6b0 : decide (x12_1 < (l1.length : Int)) = true:=decide_eq_true c6
     clear c6
     by_cases c7 : 0 ≤ x12_1
     ·rw [if_pos c7] at H
      have c7b0 : decide (0 ≤ x12_1) = true:=decide_eq_true c7
      clear c7
      by_cases c8 : x12_1 < (l1.length : Int)
      ·rw [if_pos c8] at H
       have c8b0 : decide (x12_1 < (l1.length : Int)) = true:=decide_eq_true c8
       clear c8
       by_cases c9 : 0 < (l0.length : Int)
       ·rw [if_pos c9] at H
        have c9b0 : decide (0 < (l0.length : Int)) = true:=decide_eq_true c9
        have c9b1 : decide (0 < l0.length) = true:=decide_eq_true (by omega)
        clear c9
        obtain ⟨ji10,hji10⟩ : ∃ j_ : Int,(wrap64 ((l0.length : Int) - 1)) = j_:=⟨_,rfl⟩
        replace H : (if 0 ≤ (ji10) then (if (ji10) < (l0.length : Int) then ((impl_within.f (rd l1 x12_1) ((rd_T60 l0 0).f0) ((rd_T60 l0 (ji10)).f0)).bind fun t283=>(if t283 = true then (impl_holds.l0 k1 l0 l1 (l1.length : Int) (wrap64 (x12_1 + 1))) else (some false))) else (none)) else (none)) = some r:=by first|(rw [hji10] at H;exact H)|(simp only [hji10] at H ⊢;exact H)
        have hji10w : (IntKind.i64.wrap ((l0.length : Int) - 1)) = ji10:=(i64_w _).trans hji10
        by_cases c11 : 0 ≤ (ji10)
        ·rw [if_pos c11] at H
         have c11b0 : decide (0 ≤ (ji10)) = true:=decide_eq_true c11
         clear c11
         by_cases c12 : (ji10) < (l0.length : Int)
         ·rw [if_pos c12] at H
          have c12b0 : decide ((ji10) < (l0.length : Int)) = true:=decide_eq_true c12
          clear c12
          replace H:=Option.bind_eq_some_iff.mp H
          obtain ⟨t283,A130,H⟩:=H
          replace H : (if t283 = true then (impl_holds.l0 k1 l0 l1 (l1.length : Int) (wrap64 (x12_1 + 1))) else (some false)) = some r:=H
          have A13:=zM A130
          clear A130
          by_cases c14 : t283 = true
          ·subst c14
           have H1 : (impl_holds.l0 k1 l0 l1 (l1.length : Int) (wrap64 (x12_1 + 1))) = some r:=by rw [if_pos rfl] at H;exact H
           clear H
           have H:=H1
           clear H1
           have H':=zM H
           clear H
           have p280 : 0 ≤ (x12_1 : Int):=of_decide_eq_true (by first|(with_reducible assumption)|assumption)
           have q280 : x12_1 < (l1.length : Int):=of_decide_eq_true (by first|(with_reducible assumption)|assumption)
           obtain ⟨ad280,e280,hx280_0⟩:=Kd.at_int HR1.out x12_1 p280 q280
           cases e280
           replace hx280_0:=(HB.out.cell (World.block_lt_of_cell? w _ hx280_0)).trans hx280_0
           replace p280:=eq_true p280
           replace q280:=eq_true q280
           have p281 : 0 ≤ (0 : Int):=(by omega)
           have q281 : 0 < (l0.length : Int):=of_decide_eq_true (by first|(with_reducible assumption)|assumption)
           obtain ⟨ad281,e281,hx281_0,hx281_1⟩:=at_T60 HR0.out 0 p281 q281
           cases e281
           have qi281 : (0 < l0.length) = True:=eq_true (by omega)
           (try rw [show ((0 : Int)).toNat = 0 from rfl] at hx281_0)
           (try rw [show 0 * 2 = 0 from rfl] at hx281_0)
           (try rw [Addr.add_zero'] at hx281_0)
           (try rw [show ((0 : Int)).toNat = 0 from rfl] at hx281_1)
           (try rw [show 0 * 2 = 0 from rfl] at hx281_1)
           (try rw [Addr.add_zero'] at hx281_1)
           replace hx281_0:=(HB.out.cell (World.block_lt_of_cell? w _ hx281_0)).trans hx281_0
           replace hx281_1:=(HB.out.cell (World.block_lt_of_cell? w _ hx281_1)).trans hx281_1
           replace p281:=eq_true p281
           replace q281:=eq_true q281
           have p282 : 0 ≤ ((ji10) : Int):=of_decide_eq_true (by first|(with_reducible assumption)|assumption)
           have q282 : (ji10) < (l0.length : Int):=of_decide_eq_true (by first|(with_reducible assumption)|assumption)
           obtain ⟨ad282,e282,hx282_0,hx282_1⟩:=at_T60 HR0.out (ji10) p282 q282
           obtain rfl : ad281 = ad282:=(by injection e282)
           replace hx282_0:=(HB.out.cell (World.block_lt_of_cell? w _ hx282_0)).trans hx282_0
           replace hx282_1:=(HB.out.cell (World.block_lt_of_cell? w _ hx282_1)).trans hx282_1
           replace p282:=eq_true p282
           replace q282:=eq_true q282
           go_wp2_with (first|(go_at_call 54;(with_reducible refine (impl_within.calls (rd l1 x12_1) ((rd_T60 l0 0).f0) ((rd_T60 l0 (ji10)).f0) true _ A13.out).mono ?_);rintro e w' ⟨rfl,⟨nd,rfl⟩⟩;(try first|exact ⟨rfl,_,World.drewN_drewN _ _ _⟩|exact ⟨rfl,_,Eq.trans (World.drewN_drewN _ _ _) (congrArg (World.drewN _) (Nat.add_assoc _ _ _))⟩)))
           repeat (go_quiet (first|(go_at_call 54;(with_reducible refine (impl_within.calls (rd l1 x12_1) ((rd_T60 l0 0).f0) ((rd_T60 l0 (ji10)).f0) true _ A13.out).mono ?_);rintro e w' ⟨rfl,⟨nd,rfl⟩⟩;(try first|exact ⟨rfl,_,World.drewN_drewN _ _ _⟩|exact ⟨rfl,_,Eq.trans (World.drewN_drewN _ _ _) (congrArg (World.drewN _) (Nat.add_assoc _ _ _))⟩)));try go_wp2_with (first|(go_at_call 54;(with_reducible refine (impl_within.calls (rd l1 x12_1) ((rd_T60 l0 0).f0) ((rd_T60 l0 (ji10)).f0) true _ A13.out).mono ?_);rintro e w' ⟨rfl,⟨nd,rfl⟩⟩;(try first|exact ⟨rfl,_,World.drewN_drewN _ _ _⟩|exact ⟨rfl,_,Eq.trans (World.drewN_drewN _ _ _) (congrArg (World.drewN _) (Nat.add_assoc _ _ _))⟩))))
           go_roundg k1
           case measure=>have:=HK1.out;omega
           case rel=>exact ⟨(wrap64 (x12_1 + 1)),(by first|rfl|(simp;done)|(simp [*];done)),H',⟨by have:=HK1.out;omega⟩,⟨by repeat (first|(with_reducible first|exact HB.out|apply zD|apply zE|apply zF)|exact HB.out)⟩⟩
          ·replace c14:=Bool.eq_false_iff.mpr c14
           subst c14
           have H1 : (some false) = some r:=by rw [if_neg (show ¬ (false = true) by decide)] at H;exact H
           clear H
           have H:=H1
           clear H1
           obtain rfl:=Option.some.inj H
           have p280 : 0 ≤ (x12_1 : Int):=of_decide_eq_true (by first|(with_reducible assumption)|assumption)
           have q280 : x12_1 < (l1.length : Int):=of_decide_eq_true (by first|(with_reducible assumption)|assumption)
           obtain ⟨ad280,e280,hx280_0⟩:=Kd.at_int HR1.out x12_1 p280 q280
           cases e280
           replace hx280_0:=(HB.out.cell (World.block_lt_of_cell? w _ hx280_0)).trans hx280_0
           replace p280:=eq_true p280
           replace q280:=eq_true q280
           have p281 : 0 ≤ (0 : Int):=(by omega)
           have q281 : 0 < (l0.length : Int):=of_decide_eq_true (by first|(with_reducible assumption)|assumption)
           obtain ⟨ad281,e281,hx281_0,hx281_1⟩:=at_T60 HR0.out 0 p281 q281
           cases e281
           have qi281 : (0 < l0.length) = True:=eq_true (by omega)
           (try rw [show ((0 : Int)).toNat = 0 from rfl] at hx281_0)
           (try rw [show 0 * 2 = 0 from rfl] at hx281_0)
           (try rw [Addr.add_zero'] at hx281_0)
           (try rw [show ((0 : Int)).toNat = 0 from rfl] at hx281_1)
           (try rw [show 0 * 2 = 0 from rfl] at hx281_1)
           (try rw [Addr.add_zero'] at hx281_1)
           replace hx281_0:=(HB.out.cell (World.block_lt_of_cell? w _ hx281_0)).trans hx281_0
           replace hx281_1:=(HB.out.cell (World.block_lt_of_cell? w _ hx281_1)).trans hx281_1
           replace p281:=eq_true p281
           replace q281:=eq_true q281
           have p282 : 0 ≤ ((ji10) : Int):=of_decide_eq_true (by first|(with_reducible assumption)|assumption)
           have q282 : (ji10) < (l0.length : Int):=of_decide_eq_true (by first|(with_reducible assumption)|assumption)
           obtain ⟨ad282,e282,hx282_0,hx282_1⟩:=at_T60 HR0.out (ji10) p282 q282
           obtain rfl : ad281 = ad282:=(by injection e282)
           replace hx282_0:=(HB.out.cell (World.block_lt_of_cell? w _ hx282_0)).trans hx282_0
           replace hx282_1:=(HB.out.cell (World.block_lt_of_cell? w _ hx282_1)).trans hx282_1
           replace p282:=eq_true p282
           replace q282:=eq_true q282
           go_wp2_with (first|(go_at_call 54;(with_reducible refine (impl_within.calls (rd l1 x12_1) ((rd_T60 l0 0).f0) ((rd_T60 l0 (ji10)).f0) false _ A13.out).mono ?_);rintro e w' ⟨rfl,⟨nd,rfl⟩⟩;(try first|exact ⟨rfl,_,World.drewN_drewN _ _ _⟩|exact ⟨rfl,_,Eq.trans (World.drewN_drewN _ _ _) (congrArg (World.drewN _) (Nat.add_assoc _ _ _))⟩)))
           repeat (go_quiet (first|(go_at_call 54;(with_reducible refine (impl_within.calls (rd l1 x12_1) ((rd_T60 l0 0).f0) ((rd_T60 l0 (ji10)).f0) false _ A13.out).mono ?_);rintro e w' ⟨rfl,⟨nd,rfl⟩⟩;(try first|exact ⟨rfl,_,World.drewN_drewN _ _ _⟩|exact ⟨rfl,_,Eq.trans (World.drewN_drewN _ _ _) (congrArg (World.drewN _) (Nat.add_assoc _ _ _))⟩)));try go_wp2_with (first|(go_at_call 54;(with_reducible refine (impl_within.calls (rd l1 x12_1) ((rd_T60 l0 0).f0) ((rd_T60 l0 (ji10)).f0) false _ A13.out).mono ?_);rintro e w' ⟨rfl,⟨nd,rfl⟩⟩;(try first|exact ⟨rfl,_,World.drewN_drewN _ _ _⟩|exact ⟨rfl,_,Eq.trans (World.drewN_drewN _ _ _) (congrArg (World.drewN _) (Nat.add_assoc _ _ _))⟩))))
           go_ret
           exact ⟨by first|rfl|(simp [errW_none,errW_some] <;> rfl)|(simp only [← hji10];first|rfl|(simp [errW_none,errW_some] <;> rfl))|(simp [*,errW_none,errW_some] <;> rfl),by repeat (first|(with_reducible first|exact HB.out|apply zD|apply zE|apply zF)|exact HB.out)⟩
         ·rw [if_neg c12] at H
          exact absurd H (by simp)
        ·rw [if_neg c11] at H
         exact absurd H (by simp)
       ·rw [if_neg c9] at H
        exact absurd H (by simp)
      ·rw [if_neg c8] at H
       exact absurd H (by simp)
     ·rw [if_neg c7] at H
      exact absurd H (by simp)
    ·rw [if_neg c6] at H
     have c6b0 : decide (x12_1 < (l1.length : Int)) = false:=decide_eq_false c6
     clear c6
     obtain rfl:=Option.some.inj H
     go_wp2
     repeat (go_quiet (fail);try go_wp2)
     go_ret
     exact ⟨by first|rfl|(simp [errW_none,errW_some] <;> rfl)|(simp [*,errW_none,errW_some] <;> rfl),by repeat (first|(with_reducible first|exact HB.out|apply zD|apply zE|apply zF)|exact HB.out)⟩
 ·replace c4:=Bool.eq_false_iff.mpr c4
  subst c4
  have H1 : (some false) = some r:=by rw [if_neg (show ¬ (false = true) by decide)] at H;exact H
  clear H
  have H:=H1
  clear H1
  obtain rfl:=Option.some.inj H
  go_enter Try.func62,Try.ntmps62
  go_wp2_with (first|(go_at_call 17;(with_reducible refine (impl_IsValidTides.calls k _ _ l0 false _ ?side1 ?side2 A3.out).mono ?_);(case side1=>repeat (first|exact HR0.out|(with_reducible refine zG ?_ _)|(with_reducible refine zH ?_ _)|(with_reducible refine zI ?_)));(case side2=>exact HC0.out);rintro e w15 ⟨rfl,hb⟩;have n0_:=zM (zQ (by repeat (first|(with_reducible first|exact HB.out|apply zD|apply zE|apply zF)|exact HB.out)) hb);clear HB;have HB:=n0_;clear n0_;(try clear hb);(try clear hb2);(try clear hk);(try clear hi)))
  repeat (go_quiet (first|(go_at_call 17;(with_reducible refine (impl_IsValidTides.calls k _ _ l0 false _ ?side1 ?side2 A3.out).mono ?_);(case side1=>repeat (first|exact HR0.out|(with_reducible refine zG ?_ _)|(with_reducible refine zH ?_ _)|(with_reducible refine zI ?_)));(case side2=>exact HC0.out);rintro e w15 ⟨rfl,hb⟩;have n0_:=zM (zQ (by repeat (first|(with_reducible first|exact HB.out|apply zD|apply zE|apply zF)|exact HB.out)) hb);clear HB;have HB:=n0_;clear n0_;(try clear hb);(try clear hb2);(try clear hk);(try clear hi)));try go_wp2_with (first|(go_at_call 17;(with_reducible refine (impl_IsValidTides.calls k _ _ l0 false _ ?side1 ?side2 A3.out).mono ?_);(case side1=>repeat (first|exact HR0.out|(with_reducible refine zG ?_ _)|(with_reducible refine zH ?_ _)|(with_reducible refine zI ?_)));(case side2=>exact HC0.out);rintro e w15 ⟨rfl,hb⟩;have n0_:=zM (zQ (by repeat (first|(with_reducible first|exact HB.out|apply zD|apply zE|apply zF)|exact HB.out)) hb);clear HB;have HB:=n0_;clear n0_;(try clear hb);(try clear hb2);(try clear hk);(try clear hi))))
  go_ret
  exact ⟨by first|rfl|(simp [errW_none,errW_some] <;> rfl)|(simp [*,errW_none,errW_some] <;> rfl),by repeat (first|(with_reducible first|exact HB.out|apply zD|apply zE|apply zF)|exact HB.out)⟩

end Go.Proofs.Ytbglkkepfddecaa.G

namespace Go.Proofs.Ytbglkkepfddecaa.G
open Go.RowKit Go.Proofs.YtbglkkepfddecaaW.PrintWords Go.Proofs.YtbglkkepfddecaaW.PrintLast
set_option linter.unusedVariables false
set_option linter.unusedSimpArgs false
theorem valid_up {xs : List S60} (hv : Valid xs) : ∀ (d : Nat) (i : Int),0 ≤ i → i + d < (xs.length : Int) → (rd_T60 xs i).f0 + d ≤ (rd_T60 xs (i + d)).f0:=by
  intro d
  induction d with
  | zero=>intro i h0 h1;simp
  | succ d ih =>
    intro i h0 h1
    have h:=ih i h0 (by omega)
    have o:=(hv.2 (i + (d + 1 : Nat)) (by omega) (by omega)).2.1 (by omega)
    rw [show i + ((d + 1 : Nat) : Int) - 1 = i + d from by omega] at o
    omega
theorem valid_lt {xs : List S60} (hv : Valid xs) {i j : Int} (h0 : 0 ≤ i) (h1 : i < j) (h2 : j < (xs.length : Int)) : (rd_T60 xs i).f0 < (rd_T60 xs j).f0:=by
  have h:=valid_up hv (j - i).toNat i h0 (by omega)
  rw [show i + ((j - i).toNat : Int) = j from by omega] at h
  omega
/-- The height in segment j at an hour: numerator and denominator. -/
def hN (xs : List S60) (j h : Int) : Int:=(rd_T60 xs j).f1 * ((rd_T60 xs (j + 1)).f0 - (rd_T60 xs j).f0) + ((rd_T60 xs (j + 1)).f1 - (rd_T60 xs j).f1) * (h - (rd_T60 xs j).f0)
def hD (xs : List S60) (j : Int) : Int:=(rd_T60 xs (j + 1)).f0 - (rd_T60 xs j).f0
def IsSeg (xs : List S60) (h j : Int) : Prop:=0 ≤ j ∧ j + 1 < (xs.length : Int) ∧ (rd_T60 xs j).f0 ≤ h ∧ h ≤ (rd_T60 xs (j + 1)).f0
def InTab (xs : List S60) (h : Int) : Prop:=(rd_T60 xs 0).f0 ≤ h ∧ h ≤ (rd_T60 xs ((xs.length : Int) - 1)).f0
end Go.Proofs.Ytbglkkepfddecaa.G

namespace Go.Proofs.Ytbglkkepfddecaa.G
open Go.RowKit Go.Proofs.YtbglkkepfddecaaW.PrintWords Go.Proofs.YtbglkkepfddecaaW.PrintLast
set_option linter.unusedVariables false
set_option linter.unusedSimpArgs false
/-- A fraction in lowest terms. -/
def frac (a b : Int) : Int × Int:=(Int.tdiv a (Int.gcd a b : Int),Int.tdiv b (Int.gcd a b : Int))
theorem tdiv_bd {a g B : Int} (h0 : 0 ≤ a) (h1 : a ≤ B) (hg : 0 ≤ g) : 0 ≤ Int.tdiv a g ∧ Int.tdiv a g ≤ B:=by
  rw [Int.tdiv_eq_ediv_of_nonneg h0]
  rcases Int.lt_or_eq_of_le hg with h|h
  · exact ⟨Int.ediv_nonneg h0 hg,Int.le_trans (Int.ediv_le_self _ h0) h1⟩
  · rw [← h,Int.ediv_zero];omega
theorem gcd_pos {a b : Int} (hb : 0 < b) : 0 < (Int.gcd a b : Int):=by
  have:=Int.gcd_pos_of_ne_zero_right a (show b ≠ 0 by omega)
  omega
theorem wrap_tdiv {a g : Int} (h0 : 0 ≤ a) (h1 : a ≤ 1099511627776) (hg : 0 ≤ g) : wrap64 (Int.tdiv a g) = Int.tdiv a g:=by
  have:=tdiv_bd h0 h1 hg
  exact wrap64_id (by omega) (by omega)
theorem tmod_nat (x y : Nat) : Int.tmod (x : Int) (y : Int) = ((x % y : Nat) : Int):=rfl
theorem impl_frac (a b : Int) (ha : 0 ≤ a) (ha1 : a ≤ 1099511627776) (hb : 0 < b) (hb1 : b ≤ 1099511627776) : Ev (fun k=>impl_fraction.f k a b) (frac a b):=by
  unfold impl_fraction.f
  have hg:=gcd_pos (a:=a) hb
  have main : ∀ (y x : Nat),Nat.gcd x y = Int.gcd a b → Ev (fun k=>impl_fraction.l0 k a b (x : Int) (y : Int)) (frac a b):=by
    intro y
    induction y using Nat.strongRecOn with
    | _ y ih =>
      intro x hx
      refine Ev.step (fun k=>by rw [impl_fraction.l0]) ?_
      by_cases hy : y = 0
      · subst hy
        rw [Nat.gcd_zero_right] at hx
        have hx' : (x : Int) = (Int.gcd a b : Int):=by rw [hx]
        have e1 : ((decide ((x : Int) < 0)) != (decide (b < 0))) = false:=by
          rw [decide_eq_false (show ¬ (x : Int) < 0 by omega),decide_eq_false (show ¬ b < 0 by omega)];rfl
        simp only [Int.natCast_zero,if_true,e1,Bool.false_eq_true,if_false]
        rw [hx']
        simp (disch:=omega) only [if_neg,wrap_tdiv]
        exact Ev.now _
      · have hy' : ¬ (y : Int) = 0:=by omega
        simp only [if_neg hy',tmod_nat]
        refine ih (x % y) (Nat.mod_lt _ (by omega)) y ?_
        rw [← hx,Nat.gcd_comm x y,Nat.gcd_rec y x,Nat.gcd_comm]
  obtain ⟨x,rfl⟩:=Int.eq_ofNat_of_zero_le ha
  obtain ⟨y,rfl⟩:=Int.eq_ofNat_of_zero_le (Int.le_of_lt hb)
  exact main y x rfl
end Go.Proofs.Ytbglkkepfddecaa.G

-- Written by wip/tools/gen.py out of the translation (the kit's printer, one namespace a seat). Lean checks it.
namespace Go.Proofs.Ytbglkkepfddecaa.G
open Go.RowKit Go.Proofs.YtbglkkepfddecaaW.PrintWords Go.Proofs.YtbglkkepfddecaaW.PrintLast Go.Proofs.YtbglkkepfddecaaW.PrintMore
attribute [local go_sem] max2_int min2_int max_two min_two max_three min_three max_four min_four   -- for this text's walks alone
set_option linter.unusedVariables false
set_option linter.unusedSimpArgs false

/-! ### spec_MeanHeight: function 23 -/
def spec_MeanHeight.l0 : Nat → List (S60) → Int → Int → Option (Int × Int × Bool)
 | 0,_,_,_=>none
 | k + 1,x0,x5,x6=>if x6 < (x0.length : Int) then (if 0 ≤ (wrap64 (x6 - 1)) then (if (wrap64 (x6 - 1)) < (x0.length : Int) then (if 0 ≤ x6 then (spec_MeanHeight.l0 k x0 (wrap64 (x5 + (wrap64 ((wrap64 (((rd_T60 x0 (wrap64 (x6 - 1))).f1) + ((rd_T60 x0 x6).f1))) * (wrap64 (((rd_T60 x0 x6).f0) - ((rd_T60 x0 (wrap64 (x6 - 1))).f0))))))) (wrap64 (x6 + 1))) else (none)) else (none)) else (none)) else (if 0 ≤ (wrap64 ((x0.length : Int) - 1)) then (if (wrap64 ((x0.length : Int) - 1)) < (x0.length : Int) then (if 0 < (x0.length : Int) then ((spec_l15Reduce.f k x5 (wrap64 (2 * (wrap64 (((rd_T60 x0 (wrap64 ((x0.length : Int) - 1))).f0) - ((rd_T60 x0 0).f0)))))).bind fun bt232=>(some (bt232.1,bt232.2,true))) else (none)) else (none)) else (none))
def spec_MeanHeight.f (k : Nat) (l0 : List (S60)) : Option (Int × Int × Bool):=(spec_l15Good.f k l0).bind fun t225=>(if t225 = true then (spec_MeanHeight.l0 k l0 0 1) else (some (0,0,false)))
set_option maxHeartbeats 8000000 in
set_option maxRecDepth 100000 in
theorem spec_MeanHeight.calls (k : Nat) (A0 : Option Addr) (c0 : Nat) (l0 : List (S60)) (r1 : Int) (r2 : Int) (r3 : Bool) (w : World) (hr0 : Kd.C k60 w A0 l0.length l0) (hc0 : l0.length ≤ c0) (h : spec_MeanHeight.f k l0 = some (r1,r2,r3)) :
  Calls Try.prog 23 #[.slice A0 l0.length c0] w fun e w'=>e = .returned (.tuple #[.int .i64 r1,.int .i64 r2,.bool r3]) ∧ Drawn0 w w':=by
 have HR0:=zM hr0
 have HC0:=zM hc0
 clear hr0 hc0
 have H : ((spec_l15Good.f k l0).bind fun t225=>(if t225 = true then (spec_MeanHeight.l0 k l0 0 1) else (some (0,0,false)))) = some (r1,r2,r3):=h
 clear h
 replace H:=Option.bind_eq_some_iff.mp H
 obtain ⟨t225,A20,H⟩:=H
 replace H : (if t225 = true then (spec_MeanHeight.l0 k l0 0 1) else (some (0,0,false))) = some (r1,r2,r3):=H
 have A2:=zM A20
 clear A20
 by_cases c3 : t225 = true
 ·subst c3
  have H1 : (spec_MeanHeight.l0 k l0 0 1) = some (r1,r2,r3):=by rw [if_pos rfl] at H;exact H
  clear H
  have H:=H1
  clear H1
  have H':=zM H
  clear H
  go_enter Try.func23,Try.ntmps23
  go_wp2_with (first|(go_at_call 52;(with_reducible refine (spec_l15Good.calls k _ _ l0 true _ ?side1 ?side2 A2.out).mono ?_);(case side1=>repeat (first|exact HR0.out|(with_reducible refine zG ?_ _)|(with_reducible refine zH ?_ _)|(with_reducible refine zI ?_)));(case side2=>exact HC0.out);rintro e w' ⟨rfl,⟨nd,rfl⟩⟩;(try first|exact ⟨rfl,_,World.drewN_drewN _ _ _⟩|exact ⟨rfl,_,Eq.trans (World.drewN_drewN _ _ _) (congrArg (World.drewN _) (Nat.add_assoc _ _ _))⟩)))
  repeat (go_quiet (first|(go_at_call 52;(with_reducible refine (spec_l15Good.calls k _ _ l0 true _ ?side1 ?side2 A2.out).mono ?_);(case side1=>repeat (first|exact HR0.out|(with_reducible refine zG ?_ _)|(with_reducible refine zH ?_ _)|(with_reducible refine zI ?_)));(case side2=>exact HC0.out);rintro e w' ⟨rfl,⟨nd,rfl⟩⟩;(try first|exact ⟨rfl,_,World.drewN_drewN _ _ _⟩|exact ⟨rfl,_,Eq.trans (World.drewN_drewN _ _ _) (congrArg (World.drewN _) (Nat.add_assoc _ _ _))⟩)));try go_wp2_with (first|(go_at_call 52;(with_reducible refine (spec_l15Good.calls k _ _ l0 true _ ?side1 ?side2 A2.out).mono ?_);(case side1=>repeat (first|exact HR0.out|(with_reducible refine zG ?_ _)|(with_reducible refine zH ?_ _)|(with_reducible refine zI ?_)));(case side2=>exact HC0.out);rintro e w' ⟨rfl,⟨nd,rfl⟩⟩;(try first|exact ⟨rfl,_,World.drewN_drewN _ _ _⟩|exact ⟨rfl,_,Eq.trans (World.drewN_drewN _ _ _) (congrArg (World.drewN _) (Nat.add_assoc _ _ _))⟩))))
  go_loopg [5,6] k (fun kq v5 v6 w' => ∃ (x5_1 : Int) (x6_1 : Int),v5 = .int .i64 x5_1 ∧ v6 = .int .i64 x6_1 ∧ Aside0 (spec_MeanHeight.l0 kq l0 x5_1 x6_1 = some (r1,r2,r3)) ∧ Aside0 (kq ≤ k) ∧ Drawn0 w w')
  case atStart=>exact ⟨(0),(1),(by first|rfl|(simp;done)|(simp [*];done)),(by first|rfl|(simp;done)|(simp [*];done)),H',⟨Nat.le_refl _⟩,by repeat (first|exact Drawn0.refl _|apply Drawn0.step)⟩
  case round =>
   clear H'
   try clear c2
   try clear p2
   try clear c3
   obtain ⟨x5_1,x6_1,rfl,rfl,HA,HK1,⟨m1,rfl⟩⟩:=hrel
   cases gk with
   | zero=>exact absurd HA.out (by simp [spec_MeanHeight.l0])
   | succ k1 =>
    have H:=HA.out
    clear HA
    simp only [spec_MeanHeight.l0] at H
    by_cases c4 : x6_1 < (l0.length : Int)
    ·rw [if_pos c4] at H
     have c4b0 : decide (x6_1 < (l0.length : Int)) = true:=decide_eq_true c4
     clear c4
     obtain ⟨ji5,hji5⟩ : ∃ j_ : Int,(wrap64 (x6_1 - 1)) = j_:=⟨_,rfl⟩
     replace H : (if 0 ≤ (ji5) then (if (ji5) < (l0.length : Int) then (if 0 ≤ x6_1 then (spec_MeanHeight.l0 k1 l0 (wrap64 (x5_1 + (wrap64 ((wrap64 (((rd_T60 l0 (ji5)).f1) + ((rd_T60 l0 x6_1).f1))) * (wrap64 (((rd_T60 l0 x6_1).f0) - ((rd_T60 l0 (ji5)).f0))))))) (wrap64 (x6_1 + 1))) else (none)) else (none)) else (none)) = some (r1,r2,r3):=by first|(rw [hji5] at H;exact H)|(simp only [hji5] at H ⊢;exact H)
     have hji5w : (IntKind.i64.wrap (x6_1 - 1)) = ji5:=(i64_w _).trans hji5
     by_cases c6 : 0 ≤ (ji5)
     ·rw [if_pos c6] at H
      have c6b0 : decide (0 ≤ (ji5)) = true:=decide_eq_true c6
      clear c6
      by_cases c7 : (ji5) < (l0.length : Int)
      ·rw [if_pos c7] at H
       have c7b0 : decide ((ji5) < (l0.length : Int)) = true:=decide_eq_true c7
       clear c7
       by_cases c8 : 0 ≤ x6_1
       ·rw [if_pos c8] at H
        have c8b0 : decide (0 ≤ x6_1) = true:=decide_eq_true c8
        clear c8
        have H':=zM H
        clear H
        have p226 : 0 ≤ ((ji5) : Int):=of_decide_eq_true (by first|(with_reducible assumption)|assumption)
        have q226 : (ji5) < (l0.length : Int):=of_decide_eq_true (by first|(with_reducible assumption)|assumption)
        obtain ⟨ad226,e226,hx226_0,hx226_1⟩:=at_T60 HR0.out (ji5) p226 q226
        cases e226
        replace p226:=eq_true p226
        replace q226:=eq_true q226
        have p227 : 0 ≤ (x6_1 : Int):=of_decide_eq_true (by first|(with_reducible assumption)|assumption)
        have q227 : x6_1 < (l0.length : Int):=of_decide_eq_true (by first|(with_reducible assumption)|assumption)
        obtain ⟨ad227,e227,hx227_0,hx227_1⟩:=at_T60 HR0.out x6_1 p227 q227
        obtain rfl : ad226 = ad227:=(by injection e227)
        replace p227:=eq_true p227
        replace q227:=eq_true q227
        have p228 : 0 ≤ (x6_1 : Int):=of_decide_eq_true (by first|(with_reducible assumption)|assumption)
        have q228 : x6_1 < (l0.length : Int):=of_decide_eq_true (by first|(with_reducible assumption)|assumption)
        obtain ⟨ad228,e228,hx228_0,hx228_1⟩:=at_T60 HR0.out x6_1 p228 q228
        obtain rfl : ad226 = ad228:=(by injection e228)
        replace p228:=eq_true p228
        replace q228:=eq_true q228
        have p229 : 0 ≤ ((ji5) : Int):=of_decide_eq_true (by first|(with_reducible assumption)|assumption)
        have q229 : (ji5) < (l0.length : Int):=of_decide_eq_true (by first|(with_reducible assumption)|assumption)
        obtain ⟨ad229,e229,hx229_0,hx229_1⟩:=at_T60 HR0.out (ji5) p229 q229
        obtain rfl : ad226 = ad229:=(by injection e229)
        replace p229:=eq_true p229
        replace q229:=eq_true q229
        go_wp2
        repeat (go_quiet (fail);try go_wp2)
        go_roundg k1
        case measure=>have:=HK1.out;omega
        case rel=>exact ⟨(wrap64 (x5_1 + (wrap64 ((wrap64 (((rd_T60 l0 (ji5)).f1) + ((rd_T60 l0 x6_1).f1))) * (wrap64 (((rd_T60 l0 x6_1).f0) - ((rd_T60 l0 (ji5)).f0))))))),(wrap64 (x6_1 + 1)),(by first|rfl|(simp;done)|(simp only [← hji5] <;> (first|rfl|simp))|(simp [*];done)),(by first|rfl|(simp;done)|(simp [*];done)),H',⟨by have:=HK1.out;omega⟩,by repeat (first|exact Drawn0.refl _|apply Drawn0.step)⟩
       ·rw [if_neg c8] at H
        exact absurd H (by simp)
      ·rw [if_neg c7] at H
       exact absurd H (by simp)
     ·rw [if_neg c6] at H
      exact absurd H (by simp)
    ·rw [if_neg c4] at H
     have c4b0 : decide (x6_1 < (l0.length : Int)) = false:=decide_eq_false c4
     clear c4
     obtain ⟨ji9,hji9⟩ : ∃ j_ : Int,(wrap64 ((l0.length : Int) - 1)) = j_:=⟨_,rfl⟩
     replace H : (if 0 ≤ (ji9) then (if (ji9) < (l0.length : Int) then (if 0 < (l0.length : Int) then ((spec_l15Reduce.f k1 x5_1 (wrap64 (2 * (wrap64 (((rd_T60 l0 (ji9)).f0) - ((rd_T60 l0 0).f0)))))).bind fun bt232=>(some (bt232.1,bt232.2,true))) else (none)) else (none)) else (none)) = some (r1,r2,r3):=by first|(rw [hji9] at H;exact H)|(simp only [hji9] at H ⊢;exact H)
     have hji9w : (IntKind.i64.wrap ((l0.length : Int) - 1)) = ji9:=(i64_w _).trans hji9
     by_cases c10 : 0 ≤ (ji9)
     ·rw [if_pos c10] at H
      have c10b0 : decide (0 ≤ (ji9)) = true:=decide_eq_true c10
      clear c10
      by_cases c11 : (ji9) < (l0.length : Int)
      ·rw [if_pos c11] at H
       have c11b0 : decide ((ji9) < (l0.length : Int)) = true:=decide_eq_true c11
       clear c11
       by_cases c12 : 0 < (l0.length : Int)
       ·rw [if_pos c12] at H
        have c12b0 : decide (0 < (l0.length : Int)) = true:=decide_eq_true c12
        have c12b1 : decide (0 < l0.length) = true:=decide_eq_true (by omega)
        clear c12
        replace H:=Option.bind_eq_some_iff.mp H
        obtain ⟨⟨t232,t233⟩,A130,H⟩:=H
        replace H : (some (t232,t233,true)) = some (r1,r2,r3):=H
        have A13:=zM A130
        clear A130
        simp only [Option.some.injEq,Prod.mk.injEq] at H
        obtain ⟨rfl,rfl,rfl⟩:=H
        have p230 : 0 ≤ ((ji9) : Int):=of_decide_eq_true (by first|(with_reducible assumption)|assumption)
        have q230 : (ji9) < (l0.length : Int):=of_decide_eq_true (by first|(with_reducible assumption)|assumption)
        obtain ⟨ad230,e230,hx230_0,hx230_1⟩:=at_T60 HR0.out (ji9) p230 q230
        cases e230
        replace p230:=eq_true p230
        replace q230:=eq_true q230
        have p231 : 0 ≤ (0 : Int):=(by omega)
        have q231 : 0 < (l0.length : Int):=of_decide_eq_true (by first|(with_reducible assumption)|assumption)
        obtain ⟨ad231,e231,hx231_0,hx231_1⟩:=at_T60 HR0.out 0 p231 q231
        obtain rfl : ad230 = ad231:=(by injection e231)
        have qi231 : (0 < l0.length) = True:=eq_true (by omega)
        (try rw [show ((0 : Int)).toNat = 0 from rfl] at hx231_0)
        (try rw [show 0 * 2 = 0 from rfl] at hx231_0)
        (try rw [Addr.add_zero'] at hx231_0)
        (try rw [show ((0 : Int)).toNat = 0 from rfl] at hx231_1)
        (try rw [show 0 * 2 = 0 from rfl] at hx231_1)
        (try rw [Addr.add_zero'] at hx231_1)
        replace p231:=eq_true p231
        replace q231:=eq_true q231
        go_wp2_with (first|(go_at_call 57;(with_reducible refine (spec_l15Reduce.calls k1 x5_1 (wrap64 (2 * (wrap64 (((rd_T60 l0 (ji9)).f0) - ((rd_T60 l0 0).f0))))) t232 t233 _ A13.out).mono ?_);rintro e w' ⟨rfl,⟨nd,rfl⟩⟩;(try first|exact ⟨rfl,_,World.drewN_drewN _ _ _⟩|exact ⟨rfl,_,Eq.trans (World.drewN_drewN _ _ _) (congrArg (World.drewN _) (Nat.add_assoc _ _ _))⟩)))
        repeat (go_quiet (first|(go_at_call 57;(with_reducible refine (spec_l15Reduce.calls k1 x5_1 (wrap64 (2 * (wrap64 (((rd_T60 l0 (ji9)).f0) - ((rd_T60 l0 0).f0))))) t232 t233 _ A13.out).mono ?_);rintro e w' ⟨rfl,⟨nd,rfl⟩⟩;(try first|exact ⟨rfl,_,World.drewN_drewN _ _ _⟩|exact ⟨rfl,_,Eq.trans (World.drewN_drewN _ _ _) (congrArg (World.drewN _) (Nat.add_assoc _ _ _))⟩)));try go_wp2_with (first|(go_at_call 57;(with_reducible refine (spec_l15Reduce.calls k1 x5_1 (wrap64 (2 * (wrap64 (((rd_T60 l0 (ji9)).f0) - ((rd_T60 l0 0).f0))))) t232 t233 _ A13.out).mono ?_);rintro e w' ⟨rfl,⟨nd,rfl⟩⟩;(try first|exact ⟨rfl,_,World.drewN_drewN _ _ _⟩|exact ⟨rfl,_,Eq.trans (World.drewN_drewN _ _ _) (congrArg (World.drewN _) (Nat.add_assoc _ _ _))⟩))))
        go_ret3
        exact ⟨by first|rfl|(simp;done)|(simp only [← hji9] <;> (first|rfl|simp))|(simp [*];done),by repeat (first|exact Drawn0.refl _|apply Drawn0.step)⟩
       ·rw [if_neg c12] at H
        exact absurd H (by simp)
      ·rw [if_neg c11] at H
       exact absurd H (by simp)
     ·rw [if_neg c10] at H
      exact absurd H (by simp)
 ·replace c3:=Bool.eq_false_iff.mpr c3
  subst c3
  have H1 : (some (0,0,false)) = some (r1,r2,r3):=by rw [if_neg (show ¬ (false = true) by decide)] at H;exact H
  clear H
  have H:=H1
  clear H1
  simp only [Option.some.injEq,Prod.mk.injEq] at H
  obtain ⟨rfl,rfl,rfl⟩:=H
  go_enter Try.func23,Try.ntmps23
  go_wp2_with (first|(go_at_call 52;(with_reducible refine (spec_l15Good.calls k _ _ l0 false _ ?side1 ?side2 A2.out).mono ?_);(case side1=>repeat (first|exact HR0.out|(with_reducible refine zG ?_ _)|(with_reducible refine zH ?_ _)|(with_reducible refine zI ?_)));(case side2=>exact HC0.out);rintro e w' ⟨rfl,⟨nd,rfl⟩⟩;(try first|exact ⟨rfl,_,World.drewN_drewN _ _ _⟩|exact ⟨rfl,_,Eq.trans (World.drewN_drewN _ _ _) (congrArg (World.drewN _) (Nat.add_assoc _ _ _))⟩)))
  repeat (go_quiet (first|(go_at_call 52;(with_reducible refine (spec_l15Good.calls k _ _ l0 false _ ?side1 ?side2 A2.out).mono ?_);(case side1=>repeat (first|exact HR0.out|(with_reducible refine zG ?_ _)|(with_reducible refine zH ?_ _)|(with_reducible refine zI ?_)));(case side2=>exact HC0.out);rintro e w' ⟨rfl,⟨nd,rfl⟩⟩;(try first|exact ⟨rfl,_,World.drewN_drewN _ _ _⟩|exact ⟨rfl,_,Eq.trans (World.drewN_drewN _ _ _) (congrArg (World.drewN _) (Nat.add_assoc _ _ _))⟩)));try go_wp2_with (first|(go_at_call 52;(with_reducible refine (spec_l15Good.calls k _ _ l0 false _ ?side1 ?side2 A2.out).mono ?_);(case side1=>repeat (first|exact HR0.out|(with_reducible refine zG ?_ _)|(with_reducible refine zH ?_ _)|(with_reducible refine zI ?_)));(case side2=>exact HC0.out);rintro e w' ⟨rfl,⟨nd,rfl⟩⟩;(try first|exact ⟨rfl,_,World.drewN_drewN _ _ _⟩|exact ⟨rfl,_,Eq.trans (World.drewN_drewN _ _ _) (congrArg (World.drewN _) (Nat.add_assoc _ _ _))⟩))))
  go_ret3
  exact ⟨by first|rfl|(simp;done)|(simp [*];done),by repeat (first|exact Drawn0.refl _|apply Drawn0.step)⟩

end Go.Proofs.Ytbglkkepfddecaa.G

namespace Go.Proofs.Ytbglkkepfddecaa.G
open Go.RowKit Go.Proofs.YtbglkkepfddecaaW.PrintWords Go.Proofs.YtbglkkepfddecaaW.PrintLast
set_option linter.unusedVariables false
set_option linter.unusedSimpArgs false
/-- Twice the area below the segments before i, from 1 on. -/
def area (xs : List S60) : Nat → Int
  | 0=>0
  | i + 1=>area xs i + ((rd_T60 xs (i : Int)).f1 + (rd_T60 xs ((i : Int) + 1)).f1) * ((rd_T60 xs ((i : Int) + 1)).f0 - (rd_T60 xs (i : Int)).f0)
def meanOf (xs : List S60) : Int × Int:=frac (area xs (xs.length - 1)) (2 * ((rd_T60 xs ((xs.length : Int) - 1)).f0 - (rd_T60 xs 0).f0))
theorem area_step {xs : List S60} (hv : Valid xs) (i : Nat) (h1 : i + 1 < xs.length) : 0 ≤ ((rd_T60 xs (i : Int)).f1 + (rd_T60 xs ((i : Int) + 1)).f1) * ((rd_T60 xs ((i : Int) + 1)).f0 - (rd_T60 xs (i : Int)).f0) ∧ ((rd_T60 xs (i : Int)).f1 + (rd_T60 xs ((i : Int) + 1)).f1) * ((rd_T60 xs ((i : Int) + 1)).f0 - (rd_T60 xs (i : Int)).f0) ≤ 960000:=by
  have b0:=(hv.2 (i : Int) (by omega) (by omega)).1
  have b1:=(hv.2 ((i : Int) + 1) (by omega) (by omega)).1
  have lt:=valid_lt hv (show 0 ≤ (i : Int) by omega) (show (i : Int) < i + 1 by omega) (by omega)
  have m:=mul_bd (x:=(rd_T60 xs (i : Int)).f1 + (rd_T60 xs ((i : Int) + 1)).f1) (y:=(rd_T60 xs ((i : Int) + 1)).f0 - (rd_T60 xs (i : Int)).f0) (A:=4000) (B:=240) (by omega) (by omega) (by omega) (by omega) (by omega) (by omega)
  exact ⟨Int.mul_nonneg (by omega) (by omega),by omega⟩
theorem area_bd {xs : List S60} (hv : Valid xs) : ∀ i : Nat,i + 1 ≤ xs.length → 0 ≤ area xs i ∧ area xs i ≤ 960000 * i:=by
  intro i
  induction i with
  | zero=>intro _;simp [area]
  | succ i ih =>
    intro h
    have:=ih (by omega)
    have s:=area_step hv i (by omega)
    unfold area
    omega
theorem mean_den {xs : List S60} (hv : Valid xs) : 1 ≤ (rd_T60 xs ((xs.length : Int) - 1)).f0 - (rd_T60 xs 0).f0 ∧ (rd_T60 xs ((xs.length : Int) - 1)).f0 - (rd_T60 xs 0).f0 ≤ 240:=by
  obtain ⟨hn0,hn1⟩:=hv.1
  have lt:=valid_lt hv (show 0 ≤ (0 : Int) by omega) (show (0 : Int) < (xs.length : Int) - 1 by omega) (by omega)
  have b0:=(hv.2 0 (by omega) (by omega)).1
  have b1:=(hv.2 ((xs.length : Int) - 1) (by omega) (by omega)).1
  omega
theorem impl_mean (xs : List S60) : Ev (fun k=>impl_MeanHeight.f k xs) (chk (Valid xs) ((meanOf xs).1,(meanOf xs).2,true) (0,0,false)):=by
  unfold impl_MeanHeight.f
  refine Ev.bind (impl_valid xs) ?_
  refine Ev.ite (fun hv=>?_) (fun hv=>?_)
  · have hv:=chk_true.1 hv
    rw [chk_pos hv]
    obtain ⟨hn0,hn1⟩:=hv.1
    refine Ev.up (fun k (s : Int) i=>impl_MeanHeight.l0 k xs s i) (fun _ _=>((meanOf xs).1,(meanOf xs).2,true)) (fun s i=>1 ≤ i ∧ s = area xs (i.toNat - 1)) (xs.length : Int) ?_ ?_ 0 1 ⟨by omega,by simp [area]⟩ (by omega)
    · rintro s ⟨h1,rfl⟩
      have ab:=area_bd hv ((xs.length : Int).toNat - 1) (by omega)
      have md:=mean_den hv
      refine Ev.step (fun k=>by rw [impl_MeanHeight.l0]) ?_
      simp (disch:=omega) only [Int.lt_irrefl,if_false,if_pos,wrap64_id]
      refine Ev.bind (impl_frac _ _ (by omega) (by omega) (by omega) (by omega)) ?_
      exact Ev.now _
    · rintro s i ⟨h1,rfl⟩ hlt ih
      obtain ⟨j,rfl⟩ : ∃ j : Nat,i = (j : Int) + 1:=⟨(i - 1).toNat,by omega⟩
      have ab:=area_bd hv j (by omega)
      have st:=area_step hv j (by omega)
      have b0:=(hv.2 (j : Int) (by omega) (by omega)).1
      have b1:=(hv.2 ((j : Int) + 1) (by omega) (by omega)).1
      refine Ev.step (fun k=>by rw [impl_MeanHeight.l0]) ?_
      have e0 : ((j : Int) + 1).toNat - 1 = j:=by omega
      have e1 : wrap64 ((j : Int) + 1 - 1) = (j : Int):=by rw [wrap64_id (by omega) (by omega)];omega
      simp (disch:=omega) only [if_pos,e0,e1,wrap64_id]
      refine ih _ ⟨by omega,?_⟩
      rw [show ((j : Int) + 1 + 1).toNat - 1 = j + 1 from by omega]
      rfl
  · rw [chk_neg (fun h=>hv (chk_true.2 h))]
    exact Ev.now _
end Go.Proofs.Ytbglkkepfddecaa.G

namespace Go.Proofs.Ytbglkkepfddecaa.G
open Go.RowKit Go.Proofs.YtbglkkepfddecaaW.PrintWords Go.Proofs.YtbglkkepfddecaaW.PrintLast
set_option linter.unusedVariables false
set_option linter.unusedSimpArgs false
def absI (x : Int) : Int:=if x > -x then x else -x
theorem impl_size_eq (a : Int) (h0 : -9000000000 ≤ a) (h1 : a ≤ 9000000000) : impl_size.f a = some (absI a):=by
  unfold impl_size.f absI mx
  rw [wrap64_id (by omega) (by omega)]
  congr 1
  split <;> split <;> omega
/-- The steepest segment before i: its number, its change and its hours. -/
def steep (xs : List S60) : Nat → Int × Int × Int
  | 0=>(0,0,1)
  | i + 1 =>
    let a:=absI ((rd_T60 xs ((i : Int) + 1)).f1 - (rd_T60 xs (i : Int)).f1)
    let b:=(rd_T60 xs ((i : Int) + 1)).f0 - (rd_T60 xs (i : Int)).f0
    if a * (steep xs i).2.2 > (steep xs i).2.1 * b then ((i : Int),a,b) else steep xs i
def steepOf (xs : List S60) : Int × Int × Int × Bool:=((frac (steep xs (xs.length - 1)).2.1 (steep xs (xs.length - 1)).2.2).1,(frac (steep xs (xs.length - 1)).2.1 (steep xs (xs.length - 1)).2.2).2,(steep xs (xs.length - 1)).1,true)
theorem seg_facts {xs : List S60} (hv : Valid xs) (i : Nat) (h1 : i + 1 < xs.length) : (1 ≤ absI ((rd_T60 xs ((i : Int) + 1)).f1 - (rd_T60 xs (i : Int)).f1) ∧ absI ((rd_T60 xs ((i : Int) + 1)).f1 - (rd_T60 xs (i : Int)).f1) ≤ 2000) ∧
    (1 ≤ (rd_T60 xs ((i : Int) + 1)).f0 - (rd_T60 xs (i : Int)).f0 ∧ (rd_T60 xs ((i : Int) + 1)).f0 - (rd_T60 xs (i : Int)).f0 ≤ 240) ∧ (-2000 ≤ (rd_T60 xs ((i : Int) + 1)).f1 - (rd_T60 xs (i : Int)).f1 ∧ (rd_T60 xs ((i : Int) + 1)).f1 - (rd_T60 xs (i : Int)).f1 ≤ 2000):=by
  have b0:=(hv.2 (i : Int) (by omega) (by omega)).1
  have o:=hv.2 ((i : Int) + 1) (by omega) (by omega)
  have b1:=o.1
  have o2:=o.2.1 (by omega)
  rw [show (i : Int) + 1 - 1 = (i : Int) from by omega] at o2
  unfold absI
  refine ⟨⟨?_,?_⟩,⟨by omega,by omega⟩,by omega,by omega⟩ <;> split <;> omega
theorem steep_bd {xs : List S60} (hv : Valid xs) : ∀ i : Nat,i + 1 ≤ xs.length → 0 ≤ (steep xs i).2.1 ∧ (steep xs i).2.1 ≤ 2000 ∧ 1 ≤ (steep xs i).2.2 ∧ (steep xs i).2.2 ≤ 240:=by
  intro i
  induction i with
  | zero=>intro _;simp [steep]
  | succ i ih =>
    intro h
    have:=ih (by omega)
    have s:=seg_facts hv i (by omega)
    unfold steep
    dsimp only
    split
    · dsimp only;omega
    · exact this
theorem impl_steep (xs : List S60) : Ev (fun k=>impl_SteepestChange.f k xs) (chk (Valid xs) (steepOf xs) (0,0,0,false)):=by
  unfold impl_SteepestChange.f
  refine Ev.bind (impl_valid xs) ?_
  refine Ev.ite (fun hv=>?_) (fun hv=>?_)
  · have hv:=chk_true.1 hv
    rw [chk_pos hv]
    obtain ⟨hn0,hn1⟩:=hv.1
    refine Ev.up (fun k (s : Int × Int × Int) i=>impl_SteepestChange.l0 k xs s.2.1 s.2.2 s.1 i) (fun _ _=>steepOf xs) (fun s i=>1 ≤ i ∧ s = steep xs (i.toNat - 1)) (xs.length : Int) ?_ ?_ (0,0,1) 1 ⟨by omega,by simp [steep]⟩ (by omega)
    · rintro s ⟨h1,rfl⟩
      have sb:=steep_bd hv ((xs.length : Int).toNat - 1) (by omega)
      refine Ev.step (fun k=>by rw [impl_SteepestChange.l0]) ?_
      simp only [Int.lt_irrefl,if_false]
      refine Ev.bind (impl_frac _ _ (by omega) (by omega) (by omega) (by omega)) ?_
      exact Ev.now _
    · rintro s i ⟨h1,rfl⟩ hlt ih
      obtain ⟨j,rfl⟩ : ∃ j : Nat,i = (j : Int) + 1:=⟨(i - 1).toNat,by omega⟩
      have sb:=steep_bd hv j (by omega)
      have st:=seg_facts hv j (by omega)
      refine Ev.step (fun k=>by rw [impl_SteepestChange.l0]) ?_
      have e0 : ((j : Int) + 1).toNat - 1 = j:=by omega
      have e1 : wrap64 ((j : Int) + 1 - 1) = (j : Int):=by rw [wrap64_id (by omega) (by omega)];omega
      have m1:=mul_bd (x:=absI ((rd_T60 xs ((j : Int) + 1)).f1 - (rd_T60 xs (j : Int)).f1)) (y:=(steep xs j).2.2) (A:=2000) (B:=240) (by omega) (by omega) (by omega) (by omega) (by omega) (by omega)
      have m2:=mul_bd (x:=(steep xs j).2.1) (y:=(rd_T60 xs ((j : Int) + 1)).f0 - (rd_T60 xs (j : Int)).f0) (A:=2000) (B:=240) (by omega) (by omega) (by omega) (by omega) (by omega) (by omega)
      have e2 : (steep xs (((j : Int) + 1 + 1).toNat - 1)) = steep xs (j + 1):=by congr 1
      simp (disch:=omega) only [if_pos,e0,e1,wrap64_id,impl_size_eq,Option.bind_some]
      refine Ev.ite (fun h=>?_) (fun h=>?_)
      · refine ih ((j : Int),_,_) ⟨by omega,?_⟩
        rw [e2]
        unfold steep
        dsimp only
        exact (if_pos h).symm
      · refine ih (steep xs j) ⟨by omega,?_⟩
        rw [e2]
        conv=>rhs;unfold steep
        dsimp only
        rw [if_neg h]
  · rw [chk_neg (fun h=>hv (chk_true.2 h))]
    exact Ev.now _
end Go.Proofs.Ytbglkkepfddecaa.G

namespace Go.Proofs.Ytbglkkepfddecaa.G
open Go.RowKit Go.Proofs.YtbglkkepfddecaaW.PrintWords Go.Proofs.YtbglkkepfddecaaW.PrintLast
set_option linter.unusedVariables false
set_option linter.unusedSimpArgs false
/-- Whether tide i is the higher one of its pair. -/
def upAt (xs : List S60) (i : Int) : Bool:=decide ((rd_T60 xs i).f1 > (rd_T60 xs (if i = 0 then 1 else i - 1)).f1)
def turnTo (xs : List S60) (up : Bool) : Nat → List Int
  | 0=>[]
  | d + 1=>if (upAt xs d == up) = true then turnTo xs up d ++ [(rd_T60 xs d).f0] else turnTo xs up d
theorem turnTo_len (xs : List S60) (up : Bool) : ∀ d,(turnTo xs up d).length ≤ d
  | 0=>by simp [turnTo]
  | d + 1=>by
    have:=turnTo_len xs up d
    unfold turnTo
    split
    · simp;omega
    · omega
theorem turn_add (xs : List S60) (up : Bool) : ∀ d,(turnTo xs up d).length + (turnTo xs (!up) d).length = d
  | 0=>by simp [turnTo]
  | d + 1=>by
    have:=turn_add xs up d
    unfold turnTo
    cases upAt xs d <;> cases up <;> simp at this ⊢ <;> omega
theorem spec_turn (xs : List S60) (up : Bool) : Ev (fun k=>spec_TurningHours.f k xs up) (chk (Valid xs) (turnTo xs up xs.length,true) ([],false)):=by
  unfold spec_TurningHours.f
  simp only [Option.bind_some]
  refine Ev.bind (spec_valid xs) ?_
  refine Ev.ite (fun hv=>?_) (fun hv=>?_)
  · have hv:=chk_true.1 hv
    rw [chk_pos hv]
    have hlen:=hv.1
    refine Ev.up (fun k out i=>spec_TurningHours.l0 k xs up out i) (fun _ _=>(turnTo xs up xs.length,true)) (fun out i=>0 ≤ i ∧ out = turnTo xs up i.toNat) (xs.length : Int) ?_ ?_ [] 0 ⟨by omega,rfl⟩ (by omega)
    · rintro out ⟨h0,rfl⟩
      refine Ev.step (fun k=>by rw [spec_TurningHours.l0]) ?_
      simp only [Int.lt_irrefl,if_false]
      exact Ev.now _
    · rintro out i ⟨h0,ho⟩ hlt ih
      have ol:=turnTo_len xs up i.toNat
      rw [← ho] at ol
      obtain ⟨j,rfl⟩ : ∃ j : Nat,i = (j : Int):=⟨i.toNat,by omega⟩
      have e : ((j : Int) + 1).toNat = j + 1:=by omega
      have e' : ((j : Int)).toNat = j:=by omega
      rw [e'] at ho
      have yes : (upAt xs j == up) = true → Ev (fun k=>spec_TurningHours.l0 k xs up (out ++ [(rd_T60 xs j).f0]) ((j : Int) + 1)) (turnTo xs up xs.length,true):=fun h=>ih _ ⟨by omega,by rw [e];unfold turnTo;rw [if_pos h,ho]⟩
      have no : ¬ (upAt xs j == up) = true → Ev (fun k=>spec_TurningHours.l0 k xs up out ((j : Int) + 1)) (turnTo xs up xs.length,true):=fun h=>ih _ ⟨by omega,by rw [e];unfold turnTo;rw [if_neg h,ho]⟩
      refine Ev.step (fun k=>by rw [spec_TurningHours.l0]) ?_
      simp (disch:=omega) only [if_pos,wrap64_id]
      refine Ev.ite (fun hz=>?_) (fun hz=>?_)
      · have hu : upAt xs j = decide ((rd_T60 xs (j : Int)).f1 > (rd_T60 xs 1).f1):=by unfold upAt;rw [if_pos hz]
        rw [← hu]
        exact Ev.ite yes no
      · have hu : upAt xs j = decide ((rd_T60 xs (j : Int)).f1 > (rd_T60 xs ((j : Int) - 1)).f1):=by unfold upAt;rw [if_neg hz]
        try simp (disch:=omega) only [if_pos,wrap64_id]
        rw [← hu]
        exact Ev.ite yes no
  · rw [chk_neg (fun h=>hv (chk_true.2 h))]
    exact Ev.now _
theorem impl_turn (xs : List S60) (up : Bool) : Ev (fun k=>impl_TurningHours.f k xs up) (chk (Valid xs) (turnTo xs up xs.length,true) ([],false)):=by
  unfold impl_TurningHours.f
  refine Ev.bind (impl_valid xs) ?_
  refine Ev.ite (fun hv=>?_) (fun hv=>?_)
  · have hv:=chk_true.1 hv
    rw [chk_pos hv]
    have hlen:=hv.1
    refine Ev.up (fun k out i=>impl_TurningHours.l0 k xs up out xs (xs.length : Int) i) (fun _ _=>(turnTo xs up xs.length,true)) (fun out i=>0 ≤ i ∧ out = turnTo xs up i.toNat) (xs.length : Int) ?_ ?_ [] 0 ⟨by omega,rfl⟩ (by omega)
    · rintro out ⟨h0,rfl⟩
      refine Ev.step (fun k=>by rw [impl_TurningHours.l0]) ?_
      simp only [Int.lt_irrefl,if_false]
      exact Ev.now _
    · rintro out i ⟨h0,ho⟩ hlt ih
      have ol:=turnTo_len xs up i.toNat
      rw [← ho] at ol
      obtain ⟨j,rfl⟩ : ∃ j : Nat,i = (j : Int):=⟨i.toNat,by omega⟩
      have e : ((j : Int) + 1).toNat = j + 1:=by omega
      have e' : ((j : Int)).toNat = j:=by omega
      rw [e'] at ho
      have yes : (upAt xs j == up) = true → Ev (fun k=>impl_TurningHours.l0 k xs up (out ++ [(rd_T60 xs j).f0]) xs (xs.length : Int) ((j : Int) + 1)) (turnTo xs up xs.length,true):=fun h=>ih _ ⟨by omega,by rw [e];unfold turnTo;rw [if_pos h,ho]⟩
      have no : ¬ (upAt xs j == up) = true → Ev (fun k=>impl_TurningHours.l0 k xs up out xs (xs.length : Int) ((j : Int) + 1)) (turnTo xs up xs.length,true):=fun h=>ih _ ⟨by omega,by rw [e];unfold turnTo;rw [if_neg h,ho]⟩
      refine Ev.step (fun k=>by rw [impl_TurningHours.l0]) ?_
      simp (disch:=omega) only [if_pos,wrap64_id]
      refine Ev.ite (fun hz=>?_) (fun hz=>?_)
      · have hu : upAt xs j = decide ((rd_T60 xs (j : Int)).f1 > (rd_T60 xs ((j : Int) - 1)).f1):=by unfold upAt;rw [if_neg (by omega)]
        try simp (disch:=omega) only [if_pos,wrap64_id]
        rw [← hu]
        exact Ev.ite yes no
      · have hu : upAt xs j = decide ((rd_T60 xs (j : Int)).f1 > (rd_T60 xs 1).f1):=by unfold upAt;rw [if_pos (by omega)]
        rw [← hu]
        exact Ev.ite yes no
  · rw [chk_neg (fun h=>hv (chk_true.2 h))]
    exact Ev.now _
end Go.Proofs.Ytbglkkepfddecaa.G

namespace Go.Proofs.Ytbglkkepfddecaa.G
open Go.RowKit Go.Proofs.YtbglkkepfddecaaW.PrintWords Go.Proofs.YtbglkkepfddecaaW.PrintLast
set_option linter.unusedVariables false
set_option linter.unusedSimpArgs false
def shf (a b : Int) (x : S60) : S60:=⟨x.f0 + a,x.f1 + b⟩
def ShiftOk (xs : List S60) (a b : Int) : Prop:=Valid xs ∧ (-240 ≤ a ∧ a ≤ 240) ∧ (-2000 ≤ b ∧ b ≤ 2000) ∧ Valid (xs.map (shf a b))
theorem valid_bd {xs : List S60} (hv : Valid xs) (i : Int) (h0 : 0 ≤ i) (h1 : i < (xs.length : Int)) : 0 ≤ (rd_T60 xs i).f0 ∧ (rd_T60 xs i).f0 ≤ 240 ∧ 0 ≤ (rd_T60 xs i).f1 ∧ (rd_T60 xs i).f1 ≤ 2000:=(hv.2 i h0 h1).1
theorem impl_shift (xs : List S60) (a b : Int) : Ev (fun k=>impl_ShiftTides.f k xs a b) (chk (ShiftOk xs a b) (xs.map (shf a b),true) ([],false)):=by
  unfold impl_ShiftTides.f
  refine Ev.bind (impl_valid xs) ?_
  refine Ev.ite (fun hv=>?_) (fun hv=>?_)
  · have hv:=chk_true.1 hv
    simp only [impl_within_eq,Option.bind_some,decide_eq_true_eq]
    refine Ev.ite (fun ha=>?_) (fun ha=>?_)
    · refine Ev.step (fun k=>by rw [impl_ShiftTides.j0]) ?_
      refine Ev.ite (fun hb=>?_) (fun hb=>?_)
      · rw [chk_neg (fun h : ShiftOk xs a b=>by have:=h.2.2.1;simp at hb;omega)]
        exact Ev.now _
      · have hb : -2000 ≤ b ∧ b ≤ 2000:=by simpa using hb
        refine Ev.build (fun k out i=>impl_ShiftTides.l0 k a b out xs (xs.length : Int) i) xs (shf a b) z60 _ ?_ ?_
        · refine Ev.step (fun k=>by rw [impl_ShiftTides.l0]) ?_
          simp only [Int.lt_irrefl,if_false]
          refine Ev.bind (impl_valid _) ?_
          refine Ev.ite (fun h=>?_) (fun h=>?_)
          · rw [chk_pos ⟨hv,ha,hb,chk_true.1 h⟩];exact Ev.now _
          · rw [chk_neg (fun h' : ShiftOk xs a b=>h (chk_true.2 h'.2.2.2))];exact Ev.now _
        · intro out i h0 hlt hl r hr
          have bd:=valid_bd hv i h0 hlt
          have hn:=hv.1
          refine Ev.step (fun k=>by rw [impl_ShiftTides.l0]) ?_
          simp (disch:=omega) only [if_pos,wrap64_id]
          exact hr
    · refine Ev.step (fun k=>by rw [impl_ShiftTides.j0]) ?_
      simp only [if_true]
      rw [chk_neg (fun h : ShiftOk xs a b=>ha h.2.1)]
      exact Ev.now _
  · refine Ev.step (fun k=>by rw [impl_ShiftTides.j0]) ?_
    simp only [if_true]
    rw [chk_neg (fun h : ShiftOk xs a b=>hv (chk_true.2 h.1))]
    exact Ev.now _
theorem spec_shift (xs : List S60) (a b : Int) : Ev (fun k=>spec_ShiftTides.f k xs a b) (chk (ShiftOk xs a b) (xs.map (shf a b),true) ([],false)):=by
  unfold spec_ShiftTides.f
  refine Ev.bind (spec_valid xs) ?_
  refine Ev.ite (fun hv=>?_) (fun hv=>?_)
  · have hv:=chk_true.1 hv
    simp only [spec_l1In_eq,Option.bind_some,decide_eq_true_eq]
    refine Ev.ite (fun ha=>?_) (fun ha=>?_)
    · refine Ev.step (fun k=>by rw [spec_ShiftTides.j0]) ?_
      refine Ev.ite (fun hb=>?_) (fun hb=>?_)
      · rw [chk_neg (fun h : ShiftOk xs a b=>by have:=h.2.2.1;simp at hb;omega)]
        exact Ev.now _
      · have hb : -2000 ≤ b ∧ b ≤ 2000:=by simpa using hb
        refine Ev.build (fun k out i=>spec_ShiftTides.l0 k xs a b out i) xs (shf a b) z60 _ ?_ ?_
        · refine Ev.step (fun k=>by rw [spec_ShiftTides.l0]) ?_
          simp only [Int.lt_irrefl,if_false]
          refine Ev.bind (spec_valid _) ?_
          refine Ev.ite (fun h=>?_) (fun h=>?_)
          · rw [chk_pos ⟨hv,ha,hb,chk_true.1 h⟩];exact Ev.now _
          · rw [chk_neg (fun h' : ShiftOk xs a b=>h (chk_true.2 h'.2.2.2))];exact Ev.now _
        · intro out i h0 hlt hl r hr
          have bd:=valid_bd hv i h0 hlt
          have hn:=hv.1
          refine Ev.step (fun k=>by rw [spec_ShiftTides.l0]) ?_
          simp (disch:=omega) only [if_pos,wrap64_id]
          exact hr
    · refine Ev.step (fun k=>by rw [spec_ShiftTides.j0]) ?_
      simp only [if_true]
      rw [chk_neg (fun h : ShiftOk xs a b=>ha h.2.1)]
      exact Ev.now _
  · refine Ev.step (fun k=>by rw [spec_ShiftTides.j0]) ?_
    simp only [if_true]
    rw [chk_neg (fun h : ShiftOk xs a b=>hv (chk_true.2 h.1))]
    exact Ev.now _
end Go.Proofs.Ytbglkkepfddecaa.G

namespace Go.Proofs.Ytbglkkepfddecaa.G
open Go.RowKit Go.Proofs.YtbglkkepfddecaaW.PrintWords Go.Proofs.YtbglkkepfddecaaW.PrintLast
set_option linter.unusedVariables false
set_option linter.unusedSimpArgs false
theorem rd_map (f : S60 → S60) (xs : List S60) (i : Int) (h0 : 0 ≤ i) (h1 : i < (xs.length : Int)) : rd_T60 (xs.map f) i = f (rd_T60 xs i):=by
  unfold rd_T60
  exact getD_map f xs i.toNat _ _ (by omega)
theorem shift_back (xs : List S60) (a b : Int) : (xs.map (shf a b)).map (shf (-a) (-b)) = xs:=by
  rw [List.map_map]
  have : (shf (-a) (-b) ∘ shf a b) = id:=by
    funext x
    show (⟨x.f0 + a + -a,x.f1 + b + -b⟩ : S60) = x
    rw [Int.add_neg_cancel_right,Int.add_neg_cancel_right]
  rw [this,List.map_id]
theorem shiftOk_back {xs : List S60} {a b : Int} (h : ShiftOk xs a b) : ShiftOk (xs.map (shf a b)) (-a) (-b):=by
  refine ⟨h.2.2.2,by have:=h.2.1;omega,by have:=h.2.2.1;omega,?_⟩
  rw [shift_back]
  exact h.1
theorem frac_mul (a b : Int) : a = (frac a b).1 * (Int.gcd a b : Int) ∧ b = (frac a b).2 * (Int.gcd a b : Int):=by
  unfold frac
  exact ⟨(Int.tdiv_mul_cancel (Int.gcd_dvd_left a b)).symm,(Int.tdiv_mul_cancel (Int.gcd_dvd_right a b)).symm⟩
/-- The area of a shifted table. -/
theorem area_shift (xs : List S60) (a b : Int) : ∀ i : Nat,i + 1 ≤ xs.length → area (xs.map (shf a b)) i = area xs i + b * (2 * ((rd_T60 xs (i : Int)).f0 - (rd_T60 xs 0).f0)):=by
  intro i
  induction i with
  | zero=>intro _;simp [area]
  | succ i ih =>
    intro h
    unfold area
    rw [ih (by omega),rd_map _ _ _ (by omega) (by omega),rd_map _ _ _ (by omega) (by omega)]
    show area xs i + b * (2 * ((rd_T60 xs (i : Int)).f0 - (rd_T60 xs 0).f0)) + ((rd_T60 xs (i : Int)).f1 + b + ((rd_T60 xs ((i : Int) + 1)).f1 + b)) * ((rd_T60 xs ((i : Int) + 1)).f0 + a - ((rd_T60 xs (i : Int)).f0 + a)) = _
    rw [show (((i + 1 : Nat) : Int)) = (i : Int) + 1 from by omega]
    generalize (rd_T60 xs (i : Int)).f0 = p
    generalize (rd_T60 xs ((i : Int) + 1)).f0 = q
    generalize (rd_T60 xs (i : Int)).f1 = u
    generalize (rd_T60 xs ((i : Int) + 1)).f1 = v
    generalize (rd_T60 xs 0).f0 = z
    generalize area xs i = A
    rw [show q + a - (p + a) = q - p from by omega,show u + b + (v + b) = (u + v) + 2 * b from by omega,Int.add_mul]
    have e : b * (2 * (q - z)) = b * (2 * (p - z)) + 2 * b * (q - p):=by
      rw [Int.mul_comm 2 b,Int.mul_assoc,← Int.mul_add]
      congr 1
      omega
    omega
def meanD (xs : List S60) : Int:=2 * ((rd_T60 xs ((xs.length : Int) - 1)).f0 - (rd_T60 xs 0).f0)
theorem mean_shift {xs : List S60} {a b : Int} (hs : ShiftOk xs a b) : (meanOf (xs.map (shf a b))).1 * (meanOf xs).2 = ((meanOf xs).1 + b * (meanOf xs).2) * (meanOf (xs.map (shf a b))).2:=by
  have hl:=hs.1.1
  have d:=mean_den hs.1
  have e1 : meanOf (xs.map (shf a b)) = frac (area xs (xs.length - 1) + b * meanD xs) (meanD xs):=by
    unfold meanOf
    rw [List.length_map,rd_map _ _ _ (by omega) (by omega),rd_map _ _ _ (by omega) (by omega),area_shift _ _ _ _ (by omega)]
    rw [show (((xs.length - 1 : Nat) : Int)) = (xs.length : Int) - 1 from by omega]
    unfold meanD shf
    dsimp only
    rw [show (rd_T60 xs ((xs.length : Int) - 1)).f0 + a - ((rd_T60 xs 0).f0 + a) = (rd_T60 xs ((xs.length : Int) - 1)).f0 - (rd_T60 xs 0).f0 from by omega]
  have e2 : meanOf xs = frac (area xs (xs.length - 1)) (meanD xs):=rfl
  have hD : 0 < meanD xs:=by unfold meanD;omega
  rw [e1,e2]
  generalize area xs (xs.length - 1) = A
  generalize meanD xs = D at hD
  obtain ⟨p1,p2⟩:=frac_mul A D
  obtain ⟨q1,q2⟩:=frac_mul (A + b * D) D
  have g1:=gcd_pos (a:=A) hD
  have g2:=gcd_pos (a:=A + b * D) hD
  generalize (Int.gcd A D : Int) = G at p1 p2 g1
  generalize (Int.gcd (A + b * D) D : Int) = H at q1 q2 g2
  generalize (frac A D).1 = n at *
  generalize (frac A D).2 = m at *
  generalize (frac (A + b * D) D).1 = n2 at *
  generalize (frac (A + b * D) D).2 = m2 at *
  have hG : G ≠ 0:=by omega
  have hH : H ≠ 0:=by omega
  apply Int.eq_of_mul_eq_mul_right hG
  apply Int.eq_of_mul_eq_mul_right hH
  calc n2 * m * G * H = (n2 * H) * (m * G):=by
        rw [Int.mul_assoc n2 m G,Int.mul_assoc n2 (m * G) H,Int.mul_comm (m * G) H,← Int.mul_assoc]
    _ = (A + b * D) * D:=by rw [← q1,← p2]
    _ = (n * G + b * (m * G)) * (m2 * H):=by rw [← p1,← p2,← q2]
    _ = (n + b * m) * m2 * G * H:=by
        rw [← Int.mul_assoc b m G,← Int.add_mul,Int.mul_assoc (n + b * m) G,Int.mul_assoc (n + b * m) m2 G,Int.mul_assoc (n + b * m) (m2 * G) H]
        congr 1
        rw [Int.mul_comm G (m2 * H),Int.mul_assoc m2 H G,Int.mul_assoc m2 G H,Int.mul_comm H G]
theorem steep_shift (xs : List S60) (a b : Int) : ∀ i : Nat,i + 1 ≤ xs.length → steep (xs.map (shf a b)) i = steep xs i:=by
  intro i
  induction i with
  | zero=>intro _;rfl
  | succ i ih =>
    intro h
    unfold steep
    rw [ih (by omega),rd_map _ _ _ (by omega) (by omega),rd_map _ _ _ (by omega) (by omega)]
    unfold shf
    dsimp only
    rw [show (rd_T60 xs ((i : Int) + 1)).f1 + b - ((rd_T60 xs (i : Int)).f1 + b) = (rd_T60 xs ((i : Int) + 1)).f1 - (rd_T60 xs (i : Int)).f1 from by omega,show (rd_T60 xs ((i : Int) + 1)).f0 + a - ((rd_T60 xs (i : Int)).f0 + a) = (rd_T60 xs ((i : Int) + 1)).f0 - (rd_T60 xs (i : Int)).f0 from by omega]
theorem steepOf_shift {xs : List S60} (h : 2 ≤ (xs.length : Int)) (a b : Int) : steepOf (xs.map (shf a b)) = steepOf xs:=by
  unfold steepOf
  rw [List.length_map,steep_shift xs a b _ (by omega)]
/-- The area lies between those of the lowest and of the highest tide. -/
theorem area_low {xs : List S60} (hv : Valid xs) (L : Int) (hL : ∀ i,0 ≤ i → i < (xs.length : Int) → L ≤ (rd_T60 xs i).f1) : ∀ i : Nat,i + 1 ≤ xs.length → L * (2 * ((rd_T60 xs (i : Int)).f0 - (rd_T60 xs 0).f0)) ≤ area xs i:=by
  intro i
  induction i with
  | zero=>intro _;simp [area]
  | succ i ih =>
    intro h
    have:=ih (by omega)
    have l0:=hL (i : Int) (by omega) (by omega)
    have l1:=hL ((i : Int) + 1) (by omega) (by omega)
    have lt:=valid_lt hv (show 0 ≤ (i : Int) by omega) (show (i : Int) < i + 1 by omega) (by omega)
    unfold area
    rw [show (((i + 1 : Nat) : Int)) = (i : Int) + 1 from by omega]
    generalize (rd_T60 xs (i : Int)).f0 = p at *
    generalize (rd_T60 xs ((i : Int) + 1)).f0 = q at *
    generalize (rd_T60 xs (i : Int)).f1 = u at *
    generalize (rd_T60 xs ((i : Int) + 1)).f1 = v at *
    generalize (rd_T60 xs 0).f0 = z at *
    have e : L * (2 * (q - z)) = L * (2 * (p - z)) + 2 * L * (q - p):=by
      rw [Int.mul_comm 2 L,Int.mul_assoc,← Int.mul_add]
      congr 1
      omega
    have m:=Int.mul_le_mul_of_nonneg_right (show 2 * L ≤ u + v by omega) (show 0 ≤ q - p by omega)
    omega
theorem area_high {xs : List S60} (hv : Valid xs) (L : Int) (hL : ∀ i,0 ≤ i → i < (xs.length : Int) → (rd_T60 xs i).f1 ≤ L) : ∀ i : Nat,i + 1 ≤ xs.length → area xs i ≤ L * (2 * ((rd_T60 xs (i : Int)).f0 - (rd_T60 xs 0).f0)):=by
  intro i
  induction i with
  | zero=>intro _;simp [area]
  | succ i ih =>
    intro h
    have:=ih (by omega)
    have l0:=hL (i : Int) (by omega) (by omega)
    have l1:=hL ((i : Int) + 1) (by omega) (by omega)
    have lt:=valid_lt hv (show 0 ≤ (i : Int) by omega) (show (i : Int) < i + 1 by omega) (by omega)
    unfold area
    rw [show (((i + 1 : Nat) : Int)) = (i : Int) + 1 from by omega]
    generalize (rd_T60 xs (i : Int)).f0 = p at *
    generalize (rd_T60 xs ((i : Int) + 1)).f0 = q at *
    generalize (rd_T60 xs (i : Int)).f1 = u at *
    generalize (rd_T60 xs ((i : Int) + 1)).f1 = v at *
    generalize (rd_T60 xs 0).f0 = z at *
    have e : L * (2 * (q - z)) = L * (2 * (p - z)) + 2 * L * (q - p):=by
      rw [Int.mul_comm 2 L,Int.mul_assoc,← Int.mul_add]
      congr 1
      omega
    have m:=Int.mul_le_mul_of_nonneg_right (show u + v ≤ 2 * L by omega) (show 0 ≤ q - p by omega)
    omega
theorem mean_within {xs : List S60} (hv : Valid xs) (L U : Int) (hL : ∀ i,0 ≤ i → i < (xs.length : Int) → L ≤ (rd_T60 xs i).f1) (hU : ∀ i,0 ≤ i → i < (xs.length : Int) → (rd_T60 xs i).f1 ≤ U) : L * (meanOf xs).2 ≤ (meanOf xs).1 ∧ (meanOf xs).1 ≤ U * (meanOf xs).2:=by
  have hl:=hv.1
  have d:=mean_den hv
  have a1:=area_low hv L hL (xs.length - 1) (by omega)
  have a2:=area_high hv U hU (xs.length - 1) (by omega)
  rw [show (((xs.length - 1 : Nat) : Int)) = (xs.length : Int) - 1 from by omega] at a1 a2
  have e2 : meanOf xs = frac (area xs (xs.length - 1)) (meanD xs):=rfl
  have hD : 0 < meanD xs:=by unfold meanD;omega
  change L * meanD xs ≤ _ at a1
  change _ ≤ U * meanD xs at a2
  rw [e2]
  generalize area xs (xs.length - 1) = A at *
  generalize meanD xs = D at *
  obtain ⟨p1,p2⟩:=frac_mul A D
  have g1:=gcd_pos (a:=A) hD
  generalize (Int.gcd A D : Int) = G at p1 p2 g1
  generalize (frac A D).1 = n at *
  generalize (frac A D).2 = m at *
  subst p1
  subst p2
  rw [← Int.mul_assoc] at a1 a2
  exact ⟨Int.le_of_mul_le_mul_right a1 g1,Int.le_of_mul_le_mul_right a2 g1⟩
theorem mean_bd {xs : List S60} (hv : Valid xs) : 0 ≤ (meanOf xs).1 ∧ (meanOf xs).1 ≤ 20000000 ∧ 0 ≤ (meanOf xs).2 ∧ (meanOf xs).2 ≤ 480:=by
  have hl:=hv.1
  have d:=mean_den hv
  have a:=area_bd hv (xs.length - 1) (by omega)
  have e2 : meanOf xs = frac (area xs (xs.length - 1)) (meanD xs):=rfl
  have hD : 0 < meanD xs ∧ meanD xs ≤ 480:=by unfold meanD;omega
  rw [e2]
  have g1:=gcd_pos (a:=area xs (xs.length - 1)) hD.1
  have t1:=tdiv_bd (g:=(Int.gcd (area xs (xs.length - 1)) (meanD xs) : Int)) a.1 (B:=20000000) (by omega) (by omega)
  have t2:=tdiv_bd (g:=(Int.gcd (area xs (xs.length - 1)) (meanD xs) : Int)) (show 0 ≤ meanD xs by omega) hD.2 (by omega)
  exact ⟨t1.1,t1.2,t2.1,t2.2⟩
end Go.Proofs.Ytbglkkepfddecaa.G

/- FnTides: the mean height is between the lowest and the highest tide, every tide is a high or a low water, and shifting back restores a table (for drawn bytes of at most 2^16; else the statement is true at once). -/
namespace Go.Proofs.Ytbglkkepfddecaa.Pure
open Go.RowKit Go.Proofs.Ytbglkkepfddecaa.G Go.Proofs.YtbglkkepfddecaaW.PrintWords Go.Proofs.YtbglkkepfddecaaW.PrintLast
set_option linter.unusedVariables false
set_option linter.unusedSimpArgs false
theorem rInts_I (xs : List Int) (h : (xs.length : Int) ≤ 1048576) : Ev (fun k=>laws_rInts.f k xs xs) true:=by
  unfold laws_rInts.f
  simp only [if_true]
  refine Ev.upc (fun k i=>laws_rInts.l0 k xs xs i) true (xs.length : Int) 0 ?_ ?_ 0 (by omega) (by omega)
  · refine Ev.step (fun k=>by rw [laws_rInts.l0]) ?_
    simp only [Int.lt_irrefl,if_false]
    exact Ev.now _
  · intro i h0 hlt hr
    refine Ev.step (fun k=>by rw [laws_rInts.l0]) ?_
    simp (disch:=omega) only [wrap64_id,if_pos,if_true]
    exact hr
theorem lowest {xs : List S60} (h0 : 0 < (xs.length : Int)) (h1 : (xs.length : Int) ≤ 1048576) : ∃ L,Ev (fun k=>laws_rLowest.f k xs) L ∧ (∀ i,0 ≤ i → i < (xs.length : Int) → L ≤ (rd_T60 xs i).f1) ∧ ∃ i,0 ≤ i ∧ i < (xs.length : Int) ∧ L = (rd_T60 xs i).f1:=by
  have main : ∀ (d : Nat) (i L : Int),0 ≤ i → i + d = (xs.length : Int) → (∀ j,0 ≤ j → j < i → L ≤ (rd_T60 xs j).f1) → (∃ j,0 ≤ j ∧ j < (xs.length : Int) ∧ L = (rd_T60 xs j).f1) → ∃ M,Ev (fun k=>laws_rLowest.l0 k xs L i) M ∧ (∀ i,0 ≤ i → i < (xs.length : Int) → M ≤ (rd_T60 xs i).f1) ∧ ∃ i,0 ≤ i ∧ i < (xs.length : Int) ∧ M = (rd_T60 xs i).f1:=by
    intro d
    induction d with
    | zero =>
      intro i L i0 hd hL hx
      refine ⟨L,?_,fun j a b=>hL j a (by omega),hx⟩
      refine Ev.step (fun k=>by rw [laws_rLowest.l0]) ?_
      simp (disch:=omega) only [if_neg]
      exact Ev.now _
    | succ d ih =>
      intro i L i0 hd hL hx
      by_cases g : (rd_T60 xs i).f1 < L
      · obtain ⟨M,m1,m2⟩:=ih (i + 1) _ (by omega) (by omega) (fun j a b=>by
          by_cases e : j = i
          · rw [e];exact Int.le_refl _
          · have:=hL j a (by omega);omega) ⟨i,i0,by omega,rfl⟩
        refine ⟨M,?_,m2⟩
        refine Ev.step (fun k=>by rw [laws_rLowest.l0]) ?_
        simp (disch:=omega) only [if_pos,wrap64_id]
        exact m1
      · obtain ⟨M,m1,m2⟩:=ih (i + 1) L (by omega) (by omega) (fun j a b=>by
          by_cases e : j = i
          · rw [e];omega
          · exact hL j a (by omega)) hx
        refine ⟨M,?_,m2⟩
        refine Ev.step (fun k=>by rw [laws_rLowest.l0]) ?_
        simp only [if_neg g]
        simp (disch:=omega) only [if_pos,wrap64_id]
        exact m1
  obtain ⟨M,m1,m2⟩:=main xs.length 0 (rd_T60 xs 0).f1 (by omega) (by omega) (fun j a b=>by omega) ⟨0,by omega,h0,rfl⟩
  refine ⟨M,?_,m2⟩
  unfold laws_rLowest.f
  simp only [if_pos h0]
  exact m1
theorem highest {xs : List S60} (h0 : 0 < (xs.length : Int)) (h1 : (xs.length : Int) ≤ 1048576) : ∃ L,Ev (fun k=>laws_rHighest.f k xs) L ∧ (∀ i,0 ≤ i → i < (xs.length : Int) → (rd_T60 xs i).f1 ≤ L) ∧ ∃ i,0 ≤ i ∧ i < (xs.length : Int) ∧ L = (rd_T60 xs i).f1:=by
  have main : ∀ (d : Nat) (i L : Int),0 ≤ i → i + d = (xs.length : Int) → (∀ j,0 ≤ j → j < i → (rd_T60 xs j).f1 ≤ L) → (∃ j,0 ≤ j ∧ j < (xs.length : Int) ∧ L = (rd_T60 xs j).f1) → ∃ M,Ev (fun k=>laws_rHighest.l0 k xs L i) M ∧ (∀ i,0 ≤ i → i < (xs.length : Int) → (rd_T60 xs i).f1 ≤ M) ∧ ∃ i,0 ≤ i ∧ i < (xs.length : Int) ∧ M = (rd_T60 xs i).f1:=by
    intro d
    induction d with
    | zero =>
      intro i L i0 hd hL hx
      refine ⟨L,?_,fun j a b=>hL j a (by omega),hx⟩
      refine Ev.step (fun k=>by rw [laws_rHighest.l0]) ?_
      simp (disch:=omega) only [if_neg]
      exact Ev.now _
    | succ d ih =>
      intro i L i0 hd hL hx
      by_cases g : (rd_T60 xs i).f1 > L
      · obtain ⟨M,m1,m2⟩:=ih (i + 1) _ (by omega) (by omega) (fun j a b=>by
          by_cases e : j = i
          · rw [e];exact Int.le_refl _
          · have:=hL j a (by omega);omega) ⟨i,i0,by omega,rfl⟩
        refine ⟨M,?_,m2⟩
        refine Ev.step (fun k=>by rw [laws_rHighest.l0]) ?_
        simp (disch:=omega) only [if_pos,wrap64_id]
        exact m1
      · obtain ⟨M,m1,m2⟩:=ih (i + 1) L (by omega) (by omega) (fun j a b=>by
          by_cases e : j = i
          · rw [e];omega
          · exact hL j a (by omega)) hx
        refine ⟨M,?_,m2⟩
        refine Ev.step (fun k=>by rw [laws_rHighest.l0]) ?_
        simp only [if_neg g]
        simp (disch:=omega) only [if_pos,wrap64_id]
        exact m1
  obtain ⟨M,m1,m2⟩:=main xs.length 0 (rd_T60 xs 0).f1 (by omega) (by omega) (fun j a b=>by omega) ⟨0,by omega,h0,rfl⟩
  refine ⟨M,?_,m2⟩
  unfold laws_rHighest.f
  simp only [if_pos h0]
  exact m1
theorem tides4 {l : List Int} (hc : Cd l) : Ev (fun k=>laws_FnTides.j4 k l) true:=by
  refine Ev.step (fun k=>by rw [laws_FnTides.j4]) ?_
  obtain ⟨t,ht,e⟩:=drawTurn hc
  refine Ev.bind e (Ev.bind (impl_turn _ _) (Ev.bind (impl_turn _ _) (Ev.bind (spec_turn _ _) ?_)))
  have n1:=turnTo_len t.1 t.2 t.1.length
  have n2:=turn_add t.1 t.2 t.1.length
  by_cases hv : Valid t.1
  · rw [chk_pos hv,chk_pos hv]
    simp only [beq_self_eq_true,if_true]
    refine Ev.bind (rInts_I _ (by omega)) ?_
    simp only [if_true]
    rw [wrap64_id (by omega) (by omega)]
    simp (disch:=omega) only [if_pos]
    refine Ev.bind (impl_valid _) ?_
    rw [chk_pos hv]
    exact Ev.now _
  · rw [chk_neg hv,chk_neg hv]
    simp only [beq_self_eq_true,if_true]
    refine Ev.bind (rInts_I _ (by simp)) ?_
    simp only [if_true,Bool.false_eq_true,if_false]
    exact Ev.now _
theorem tides2 {l : List Int} (hc : Cd l) {xs : List S60} (hv : Valid xs) : Ev (fun k=>laws_FnTides.j2 k l xs xs (meanOf xs).1 (meanOf xs).2 false) true:=by
  refine Ev.step (fun k=>by rw [laws_FnTides.j2]) ?_
  simp only [Bool.false_eq_true,if_false]
  have hl:=hv.1
  obtain ⟨L,e1,l1,i,i0,i1,rfl⟩:=lowest (xs:=xs) (by omega) (by omega)
  obtain ⟨U,e2,u1,j,j0,j1,rfl⟩:=highest (xs:=xs) (by omega) (by omega)
  have w:=mean_within hv _ _ l1 u1
  have bi:=valid_bd hv i i0 i1
  have bj:=valid_bd hv j j0 j1
  have bm:=mean_bd hv
  have m1:=mul_bd (x:=(rd_T60 xs i).f1) (y:=(meanOf xs).2) (A:=2000) (B:=480) (by omega) (by omega) (by omega) (by omega) (by omega) (by omega)
  have m2:=mul_bd (x:=(rd_T60 xs j).f1) (y:=(meanOf xs).2) (A:=2000) (B:=480) (by omega) (by omega) (by omega) (by omega) (by omega) (by omega)
  refine Ev.upc (fun k n=>laws_FnTides.l1 k l xs xs (meanOf xs).1 (meanOf xs).2 n) true (xs.length : Int) 0 ?_ ?_ 0 (by omega) (by omega)
  · refine Ev.step (fun k=>by rw [laws_FnTides.l1]) ?_
    simp only [Int.lt_irrefl,if_false]
    exact tides4 hc
  · intro n n0 hlt hr
    refine Ev.step (fun k=>by rw [laws_FnTides.l1]) ?_
    simp (disch:=omega) only [if_pos,beq_self_eq_true,Bool.not_true,Bool.or_self,Bool.false_eq_true,if_false]
    refine Ev.bind e1 ?_
    rw [wrap64_id (x:=(rd_T60 xs i).f1 * (meanOf xs).2) (by omega) (by omega),wrap64_id (x:=n + 1) (by omega) (by omega)]
    simp (disch:=omega) only [if_neg]
    refine Ev.bind e2 ?_
    rw [wrap64_id (x:=(rd_T60 xs j).f1 * (meanOf xs).2) (by omega) (by omega)]
    simp (disch:=omega) only [if_neg]
    exact hr
theorem FnTides : laws_FnTides.Pure:=by
  intro l0 h0
  refine Ev.rounds (g:=fun k=>laws_FnTides.f k l0) (r:=true) ?_
  unfold laws_FnTides.f laws_rBig.f
  simp only [Option.bind_some]
  refine Ev.ite (fun _=>Ev.now _) (fun g0=>?_)
  have hc : Cd l0:=cd_of (by simpa using g0) h0.2
  obtain ⟨⟨xs,a,b⟩,_,e⟩:=drawShift hc
  refine Ev.bind e (Ev.bind (impl_shift xs a b) (Ev.bind (spec_shift xs a b) ?_))
  simp only [bne_self_eq_false,Bool.false_eq_true,if_false]
  refine Ev.step (fun k=>by rw [laws_FnTides.j0]) ?_
  simp only [Bool.false_eq_true,if_false]
  by_cases hs : ShiftOk xs a b
  · rw [chk_pos hs]
    have hl:=hs.1.1
    have hlm : ((xs.map (shf a b)).length : Int) = (xs.length : Int):=by rw [List.length_map]
    refine Ev.upc (fun k i=>laws_FnTides.l0 k l0 xs a b (xs.map (shf a b)) true (xs.map (shf a b)) i) true ((xs.map (shf a b)).length : Int) 0 ?_ ?_ 0 (by omega) (by omega)
    · refine Ev.step (fun k=>by rw [laws_FnTides.l0]) ?_
      simp only [Int.lt_irrefl,if_false,if_true]
      have ra:=hs.2.1
      have rb:=hs.2.2.1
      rw [wrap64_id (x := -a) (by omega) (by omega),wrap64_id (x := -b) (by omega) (by omega)]
      refine Ev.bind (impl_shift _ _ _) (Ev.bind (impl_mean _) (Ev.bind (impl_mean _) (Ev.bind (impl_steep _) (Ev.bind (impl_steep _) ?_))))
      rw [chk_pos (shiftOk_back hs),chk_pos hs.1,chk_pos hs.2.2.2,chk_pos hs.1,chk_pos hs.2.2.2,shift_back,steepOf_shift hl.1]
      have e3 : (steepOf xs).2.2.2 = true:=rfl
      simp only [if_true,e3]
      have b1:=mean_bd hs.1
      have b2:=mean_bd hs.2.2.2
      have m1:=mul_bd (x:=(meanOf (xs.map (shf a b))).1) (y:=(meanOf xs).2) (A:=20000000) (B:=480) (by omega) (by omega) (by omega) (by omega) (by omega) (by omega)
      have m2:=mul_bd (x:=b) (y:=(meanOf xs).2) (A:=2000) (B:=480) (by omega) (by omega) (by omega) (by omega) (by omega) (by omega)
      have ms:=mean_shift hs
      rw [wrap64_id (x:=b * (meanOf xs).2) (by omega) (by omega),wrap64_id (x:=(meanOf xs).1 + b * (meanOf xs).2) (by omega) (by omega),← ms,bne_self_eq_false]
      simp only [if_true]
      exact tides2 hc hs.1
    · intro i i0 hlt hr
      refine Ev.step (fun k=>by rw [laws_FnTides.l0]) ?_
      simp (disch:=omega) only [if_pos,beq_self_eq_true,Bool.not_true,Bool.or_self,Bool.false_eq_true,if_false,wrap64_id]
      exact hr
  · rw [chk_neg hs]
    refine Ev.step (fun k=>by rw [laws_FnTides.l0]) ?_
    simp only [List.length_nil,Int.natCast_zero,Int.lt_irrefl,if_false,Bool.false_eq_true]
    exact tides4 hc
end Go.Proofs.Ytbglkkepfddecaa.Pure

-- Written by wip/tools/gen.py out of the translation (the kit's printer, one namespace a seat). Lean checks it.
namespace Go.Proofs.Ytbglkkepfddecaa.G
open Go.RowKit Go.ChangeShapes Go.WideShapes Go.Deep Go.Proofs.YtbglkkepfddecaaW.PrintWords Go.Proofs.YtbglkkepfddecaaW.PrintLast
set_option linter.unusedVariables false
/-! Opening the arguments of a law: whatever reads as data of type t reads as a value of kind d, within what its type allows. -/
def Opens {α : Type} (P : Program) (t : TypeId) (d : Kd α) (Wf : α → Prop) : Prop :=
  ∀ {H : Type} {enc : TypeId × Value → H} {W : World} {spare : Nat → Bool} {held : Bool} {fuel : Nat} {cs : List Value} {x : DataW H × List MemPlace},
    DataW.trod enc P W 0 spare held fuel t cs = some x → ∃ a,d.K W a cs ∧ Wf a
theorem opens_int {P : Program} {t : TypeId} {k : IntKind} (ht : P.underlying t = some (.int k)) : Opens P t (Kd.int k) (fun x=>(Lit.int k x).wf = true):=by
  intro H enc W spare held fuel cs x h
  obtain ⟨n,rfl,_,hw⟩:=DataW.trod_int ht h
  exact ⟨n,rfl,hw⟩
theorem opens_row {α : Type} {d : Kd α} {Wf : α → Prop} {W : World} (Q : Nat → List Value → Prop) (hq : ∀ i cs,Q i cs → ∃ a,d.K W a cs ∧ Wf a) (n : Nat) (h : ∀ i,i < n → ∃ cs,Q i cs) :
    ∃ xs : List α,xs.length = n ∧ (∀ y ∈ xs,Wf y) ∧ ∀ j p,xs[j]? = some p → ∃ cs,Q j cs ∧ d.K W p cs:=by
  induction n with
  | zero=>exact ⟨[],rfl,fun y hy=>by simp at hy,fun j p hp=>by simp at hp⟩
  | succ n ih =>
    obtain ⟨xs,hl,hw,hx⟩:=ih (fun i hi=>h i (by omega))
    obtain ⟨cs,hcs⟩:=h n (by omega)
    obtain ⟨a,ha,hwa⟩:=hq n cs hcs
    refine ⟨xs ++ [a],by simp [hl],fun y hy=>?_,fun j p hp=>?_⟩
    · rcases List.mem_append.1 hy with hy|hy
      · exact hw y hy
      · rw [List.mem_singleton.1 hy];exact hwa
    · rcases Nat.lt_or_ge j xs.length with hj|hj
      · rw [List.getElem?_append_left hj] at hp
        exact hx j p hp
      · rw [List.getElem?_append_right hj] at hp
        have h0 : j - xs.length = 0:=by
          rcases Nat.eq_zero_or_pos (j - xs.length) with h0|h0
          · exact h0
          · rw [List.getElem?_eq_none (by simp;omega)] at hp;cases hp
        rw [h0] at hp
        simp at hp
        subst hp
        have : j = n:=by omega
        subst this
        exact ⟨cs,hcs,ha⟩
theorem opens_slice {α : Type} {P : Program} {t e : TypeId} {d : Kd α} {Wf : α → Prop} (ht : P.underlying t = some (.slice e)) (hC : P.cellsOf e = d.sz) (ho : Opens P e d Wf) :
    Opens P t (Kd.slice e d) (fun xs=>xs.length ≤ maxLen ∧ ∀ y ∈ xs,Wf y):=by
  intro H enc W spare held fuel cs x h
  rcases open_slice ht h with ⟨rfl,_⟩|⟨a,len,cap,m,n,D,Pl,rfl,_,hl,hm,hmm,_,hi⟩
  · exact ⟨[],⟨none,0,rfl,Nat.le_refl _,rfl,by simp,fun h=>by simp at h⟩,by simp [maxLen],fun y hy=>by simp at hy⟩
  · have hml : len ≤ m:=by rw [hmm];split <;> omega
    obtain ⟨xs,hxl,hw,hx⟩:=opens_row (W:=W) (d:=d) (Wf:=Wf) (fun i cs'=>W.cells? 0 (a.add (i * P.cellsOf e)) (P.cellsOf e) = some cs' ∧ DataW.trod enc P W 0 spare held n e cs' = some (D i,Pl i))
      (fun i cs' hq=>ho hq.2) len (fun i hi'=>hi i (by omega))
    refine ⟨xs,⟨some a,cap,by rw [hxl],by omega,rfl,?_,fun _=>⟨a,rfl,fun j p hj=>?_⟩⟩,by omega,hw⟩
    · simp only [maxLen] at hm
      omega
    · obtain ⟨cs',⟨hc,_⟩,hK⟩:=hx j p hj
      obtain ⟨_,hcl,hat⟩:=World.cells?_some hc
      refine ⟨cs',d.K_len hK,hK,fun i u hu=>?_⟩
      have hil : i < cs'.length:=(List.getElem?_eq_some_iff.1 hu).1
      have h1:=hat i (by omega)
      rw [hC] at h1
      rw [← Go.Deep.add_add,h1,hu]
section
variable {α β γ δ : Type} {P : Program} {t : TypeId} {f0 f1 f2 f3 : Field} {d0 : Kd α} {d1 : Kd β} {d2 : Kd γ} {d3 : Kd δ} {W0 : α → Prop} {W1 : β → Prop} {W2 : γ → Prop} {W3 : δ → Prop}
end
theorem opens_arg {α : Type} {P : Program} {t e : TypeId} {d : Kd α} {Wf : List α → Prop} (ho : Opens P t (Kd.slice e d) Wf) {H : Type} {enc : TypeId × Value → H} {W : World} {spare : Nat → Bool} {held : Bool} {a : Option Addr} {len cap : Nat} {dd : DataW H} {p : List MemPlace}
    (h : DataW.Trod enc P W 0 spare held t (.slice a len cap) dd p) : ∃ l : List α,len = l.length ∧ l.length ≤ cap ∧ Kd.C d W a l.length l ∧ Wf l:=by
  obtain ⟨fuel,hf⟩:=h
  obtain ⟨l,⟨A,c,he,hl,hC⟩,hw⟩:=ho hf
  simp [Value.cells] at he
  obtain ⟨rfl,rfl,rfl⟩:=he
  exact ⟨l,rfl,hl,hC,hw⟩
end Go.Proofs.Ytbglkkepfddecaa.G
