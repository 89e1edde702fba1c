/- Texts of the proof of FnExactSafePath, joined in build order. -/
import Derived.Test.YtbpccdbkaiigcaaMgFnExactSafePath1
import Derived.DeepKeys4
import Derived.Maps.OwnOps
import Derived.Maps.OwnSet
import Derived.Maps.RangeWalk
-- Written by wip/tools/gen.py out of the translation (the kit's printer, one namespace a seat). Lean checks it.
namespace Go.Proofs.Ytbpccdbkaiigcaa.G
open Go.RowKit Go.Proofs.YtbpccdbkaiigcaaW.PrintWords Go.Proofs.YtbpccdbkaiigcaaW.PrintLast Go.Proofs.YtbpccdbkaiigcaaW.PrintMore
attribute [local go_sem] max2_int min2_int max_two min_two max_three min_three max_four min_four   -- for this text's walks alone
set_option linter.unusedVariables false
set_option linter.unusedSimpArgs false

/-! ### spec_l16Path: function 57 -/
def spec_l16Path.l0:Nat → List (S48) → Int → Int → Int → List (S48) → Option (Bool)
 | 0,_,_,_,_,_=>none
 | k + 1,x1,x5,x189000,x189001,x189002=>if x5 < (x1.length:Int) then (if 0 ≤ x5 then ((spec_l16Free.f k x189000 x189001 x189002 ((rd_T48 x1 x5).f0) ((rd_T48 x1 x5).f1)).bind fun t191=>(if t191 = true then (if x5 > 0 then (if 0 ≤ (wrap64 (x5 - 1)) then (if (wrap64 (x5 - 1)) < (x1.length:Int) then ((spec_l16Near.f ((rd_T48 x1 (wrap64 (x5 - 1))).f0) ((rd_T48 x1 (wrap64 (x5 - 1))).f1) ((rd_T48 x1 x5).f0) ((rd_T48 x1 x5).f1)).bind fun t194=>(if t194 = true then (spec_l16Path.l0 k x1 (wrap64 (x5 + 1)) x189000 x189001 x189002) else (some false))) else (none)) else (none)) else (spec_l16Path.l0 k x1 (wrap64 (x5 + 1)) x189000 x189001 x189002)) else (some false))) else (none)) else ((spec_l1In.f (x1.length:Int) 1 25).bind fun t189=>(some t189))
def spec_l16Path.f (k:Nat) (a0_0:Int) (a0_1:Int) (l0_2:List (S48)) (l1:List (S48)):Option (Bool):=spec_l16Path.l0 k l1 0 a0_0 a0_1 l0_2
def spec_l16Path.T4:Bool × List (List Nat × List Nat):=(true,[([],[]),([],[]),([],[]),([1,2],[1,2]),([3],[3]),([0,4],[0,4]),([5],[5]),([6,5],[6]),([7],[7]),([8,7],[7,8]),([9,7,7],[7,9]),([10],[10]),([10],[10]),([12,10],[10,12]),([11,13,10],[10,11,13]),([14,10],[10,14]),([10],[10]),([10],[10]),([16,17,10],[10,16,17]),([18,10],[10,18]),([15,19,10,10],[10,15,19]),([20,10],[10,20]),([10,21,7],[7,10,21]),([7,22],[7,22])])
def spec_l16Path.B4:List Nat:=[0,0,0,6,14,31,63,127,255,511,1023,2047,2047,6143,16383,32767,2047,2047,198655,460799,1048575,2097151,4194303,8388607]
theorem spec_l16Path.tab4:rtab .any (opsOf Try.f57 4) = spec_l16Path.T4:=by kernel_rfl
theorem spec_l16Path.bits4:waitsOk spec_l16Path.T4.2 spec_l16Path.B4 = true:=by kernel_rfl
set_option maxHeartbeats 8000000 in
set_option maxRecDepth 100000 in
theorem spec_l16Path.calls (k:Nat) (a0_0:Int) (a0_1:Int) (A0_2:Option Addr) (c0_2:Nat) (l0_2:List (S48)) (A1:Option Addr) (c1:Nat) (l1:List (S48)) (r:Bool) (w:World) (hr0_2:Kd.C k48 w A0_2 l0_2.length l0_2) (hc0_2:l0_2.length ≤ c0_2) (hr1:Kd.C k48 w A1 l1.length l1) (hc1:l1.length ≤ c1) (h:spec_l16Path.f k a0_0 a0_1 l0_2 l1 = some r) :
  Calls Try.prog 57 #[.agg #[.int .i64 a0_0,.int .i64 a0_1,.slice A0_2 l0_2.length c0_2],.slice A1 l1.length c1] w fun e w'=>e = .returned (.bool r) ∧ Below w.heap.size w w':=by
 have hu29:=Try.underlying29;have hu48:=Try.underlying48;have HR0_2:=zM hr0_2;have HC0_2:=zM hc0_2;clear hr0_2 hc0_2;have HR1:=zM hr1;have HC1:=zM hc1;clear hr1 hc1;have HB:=zM (Below.refl w.heap.size w);have H:(spec_l16Path.l0 k l1 0 a0_0 a0_1 l0_2) = some r:=h
 clear h;have H':=zM H;clear H;go_enter Try.func57,Try.ntmps57
 go_wp2_with (first|((with_reducible refine gate_dst (N:=2) rfl ?_);refine zzc 2 #[.int .i64 a0_0,.int .i64 a0_1,.slice A0_2 l0_2.length c0_2] 29 ?_;intro gb188 hg w3 hbox hb;have n0_:=zM (zQ zzh hb);have n1_:=zM (hbox);have n2_:=zM ((by rw [hg];exact (zR zzh):w.heap.size ≤ gb188));have n3_:=zM ((by rw [hg];exact (zR zzh):w.heap.size ≤ gb188));clear HB;have HB:=n0_;have BK188:=n1_;have GW188:=n2_;have GE188:=n3_;clear n0_ n1_ n2_ n3_;clear hb hbox hg))
 go_loopg [5] k (fun kq v5 w' => ∃ (x5_1:Int),v5 = .int .i64 x5_1 ∧ Aside0 (spec_l16Path.l0 kq l1 x5_1 a0_0 a0_1 l0_2 = some r) ∧ Aside0 (kq ≤ k) ∧ Aside0 (w'.heap[gb188]? = some (.cells #[.int .i64 a0_0,.int .i64 a0_1,(.slice A0_2 l0_2.length c0_2)] 29 (0,0))) ∧ Aside0 (Below w.heap.size w w'))
 case atStart=>exact ⟨(0),(by first|rfl|(simp;done)|(simp [*];done)),H',⟨Nat.le_refl _⟩,⟨zzi BK188⟩,⟨zzh⟩⟩
 case round =>
  clear H';(try clear c1);(try clear p2);obtain ⟨x5_1,rfl,HA,HK1,BK188,HB⟩:=hrel;cases gk with
  | zero=>exact absurd HA.out (by simp [spec_l16Path.l0])
  | succ k1 =>
   have H:=HA.out;clear HA;simp only [spec_l16Path.l0] at H
   by_cases c4:x5_1 < (l1.length:Int)
   ·rw [if_pos c4] at H
    have c4b0:decide (x5_1 < (l1.length:Int)) = true:=decide_eq_true c4
    clear c4;by_cases c5:0 ≤ x5_1
    ·rw [if_pos c5] at H
     have c5b0:decide (0 ≤ x5_1) = true:=decide_eq_true c5
     clear c5;replace H:=Option.bind_eq_some_iff.mp H;obtain ⟨t191,A60,H⟩:=H;replace H:(if t191 = true then (if x5_1 > 0 then (if 0 ≤ (wrap64 (x5_1 - 1)) then (if (wrap64 (x5_1 - 1)) < (l1.length:Int) then ((spec_l16Near.f ((rd_T48 l1 (wrap64 (x5_1 - 1))).f0) ((rd_T48 l1 (wrap64 (x5_1 - 1))).f1) ((rd_T48 l1 x5_1).f0) ((rd_T48 l1 x5_1).f1)).bind fun t194=>(if t194 = true then (spec_l16Path.l0 k1 l1 (wrap64 (x5_1 + 1)) a0_0 a0_1 l0_2) else (some false))) else (none)) else (none)) else (spec_l16Path.l0 k1 l1 (wrap64 (x5_1 + 1)) a0_0 a0_1 l0_2)) else (some false)) = some r:=H
     have A6:=zM A60;clear A60;by_cases c7:t191 = true
     ·subst c7
      have H1:(if x5_1 > 0 then (if 0 ≤ (wrap64 (x5_1 - 1)) then (if (wrap64 (x5_1 - 1)) < (l1.length:Int) then ((spec_l16Near.f ((rd_T48 l1 (wrap64 (x5_1 - 1))).f0) ((rd_T48 l1 (wrap64 (x5_1 - 1))).f1) ((rd_T48 l1 x5_1).f0) ((rd_T48 l1 x5_1).f1)).bind fun t194=>(if t194 = true then (spec_l16Path.l0 k1 l1 (wrap64 (x5_1 + 1)) a0_0 a0_1 l0_2) else (some false))) else (none)) else (none)) else (spec_l16Path.l0 k1 l1 (wrap64 (x5_1 + 1)) a0_0 a0_1 l0_2)) = some r:=by rw [if_pos rfl] at H;exact H
      clear H;have H:=H1;clear H1;by_cases c8:x5_1 > 0
      ·rw [if_pos c8] at H
       have c8b0:decide (0 < x5_1) = true:=decide_eq_true c8
       clear c8;obtain ⟨ji9,hji9⟩ : ∃ j_:Int,(wrap64 (x5_1 - 1)) = j_:=⟨_,rfl⟩
       replace H:(if 0 ≤ (ji9) then (if (ji9) < (l1.length:Int) then ((spec_l16Near.f ((rd_T48 l1 (ji9)).f0) ((rd_T48 l1 (ji9)).f1) ((rd_T48 l1 x5_1).f0) ((rd_T48 l1 x5_1).f1)).bind fun t194=>(if t194 = true then (spec_l16Path.l0 k1 l1 (wrap64 (x5_1 + 1)) a0_0 a0_1 l0_2) else (some false))) else (none)) else (none)) = some r:=by first|(rw [hji9] at H;exact H)|(simp only [hji9] at H ⊢;exact H)
       (try rw [hji9] at A6)
       have hji9w:(IntKind.i64.wrap (x5_1 - 1)) = ji9:=(i64_w _).trans hji9
       by_cases c10:0 ≤ (ji9)
       ·rw [if_pos c10] at H
        have c10b0:decide (0 ≤ (ji9)) = true:=decide_eq_true c10
        clear c10;by_cases c11:(ji9) < (l1.length:Int)
        ·rw [if_pos c11] at H
         have c11b0:decide ((ji9) < (l1.length:Int)) = true:=decide_eq_true c11
         clear c11;replace H:=Option.bind_eq_some_iff.mp H;obtain ⟨t194,A120,H⟩:=H;replace H:(if t194 = true then (spec_l16Path.l0 k1 l1 (wrap64 (x5_1 + 1)) a0_0 a0_1 l0_2) else (some false)) = some r:=H
         have A12:=zM A120;clear A120;by_cases c13:t194 = true
         ·subst c13
          have H1:(spec_l16Path.l0 k1 l1 (wrap64 (x5_1 + 1)) a0_0 a0_1 l0_2) = some r:=by rw [if_pos rfl] at H;exact H
          clear H;have H:=H1;clear H1;have H':=zM H;clear H;try go_wp2
          have n0_:=zM (zK BK188.out);have n1_:=zM (zF HB.out);clear BK188;clear HB;have BK188:=n0_;have HB:=n1_;clear n0_ n1_;have p190:0 ≤ (x5_1:Int):=zzd
          have q190:x5_1 < (l1.length:Int):=zzd
          obtain ⟨ad190,e190,hx190_0,hx190_1⟩:=at_T48 HR1.out x5_1 p190 q190;have hw190_1:=hx190_1;have hw190_0:=hx190_0;cases e190
          replace hx190_0:=zS HB.out hx190_0;replace hx190_1:=zS HB.out hx190_1;replace p190:=eq_true p190;replace q190:=eq_true q190;have p192:0 ≤ ((ji9):Int):=zzd
          have q192:(ji9) < (l1.length:Int):=zzd
          obtain ⟨ad192,e192,hx192_0,hx192_1⟩:=at_T48 HR1.out (ji9) p192 q192;have hw192_1:=hx192_1;have hw192_0:=hx192_0;obtain rfl:ad190 = ad192:=(by injection e192)
          replace hx192_0:=zS HB.out hx192_0;replace hx192_1:=zS HB.out hx192_1;replace p192:=eq_true p192;replace q192:=eq_true q192;have p193:0 ≤ (x5_1:Int):=zzd
          have q193:x5_1 < (l1.length:Int):=zzd
          obtain ⟨ad193,e193,hx193_0,hx193_1⟩:=at_T48 HR1.out x5_1 p193 q193;have hw193_1:=hx193_1;have hw193_0:=hx193_0;obtain rfl:ad190 = ad193:=(by injection e193)
          replace hx193_0:=zS HB.out hx193_0;replace hx193_1:=zS HB.out hx193_1;replace p193:=eq_true p193;replace q193:=eq_true q193;refine start_ (n:=24) (S:=fun w'=>w'.cell? ⟨gb188,0,none⟩ = some (.int .i64 a0_0) ∧ w'.cell? ⟨gb188,1,none⟩ = some (.int .i64 a0_1) ∧ w'.cell? ⟨gb188,2,none⟩ = some (.slice A0_2 l0_2.length c0_2) ∧ w'.cell? (ad190.add ((x5_1).toNat * 2)) = some (.int .i64 ((rd_T48 l1 x5_1).f0)) ∧ w'.cell? ⟨(ad190.add ((x5_1).toNat * 2)).block,(ad190.add ((x5_1).toNat * 2)).off + 1,none⟩ = some (.int .i64 ((rd_T48 l1 x5_1).f1)) ∧ w'.cell? (ad190.add (((ji9)).toNat * 2)) = some (.int .i64 ((rd_T48 l1 (ji9)).f0)) ∧ w'.cell? ⟨(ad190.add (((ji9)).toNat * 2)).block,(ad190.add (((ji9)).toNat * 2)).off + 1,none⟩ = some (.int .i64 ((rd_T48 l1 (ji9)).f1)) ∧ w'.cell? (ad190.add ((x5_1).toNat * 2)) = some (.int .i64 ((rd_T48 l1 x5_1).f0)) ∧ w'.cell? ⟨(ad190.add ((x5_1).toNat * 2)).block,(ad190.add ((x5_1).toNat * 2)).off + 1,none⟩ = some (.int .i64 ((rd_T48 l1 x5_1).f1))) (ds:=[]) #[false,false,false,false,false,false,false,false,false,false,false,false,false,false,false,false,false,false,false,false,false,false,false,false] (by kernel_rfl) rfl rfl ⟨zz0 BK188,zz1 BK188,zz2 BK188,(zS HB.out hw190_0 :),(zS HB.out hw190_1 :),(zS HB.out hw192_0 :),(zS HB.out hw192_1 :),(zS HB.out hw193_0 :),(zS HB.out hw193_1 :)⟩ (fun hHeld=>?_);refine with_tabW spec_l16Path.tab4 spec_l16Path.bits4 (fun HT_ HW_=>?_)
          generalize wr.drew = w14 at BK188 HB hx190_0 hx190_1 hx192_0 hx192_1 hx193_0 hx193_1 hHeld ⊢
          refine zzp 1 13 (zzb 24 2) ?_ (hc:=zzx HT_);refine zzp 2 14 (zzb 24 6) ?_ (hc:=zzx HT_);refine zzp 3 15 (zzb 24 14) ?_ (hc:=zzx HT_)
          refine zzt 0 12 (zzb 24 15) hHeld ?_ (hc:=zzy HT_ HW_) (hy:=by rintro w' ⟨s0,s1,s2,s3,s4,s5,s6,s7,s8⟩;go_simp;with_reducible rfl)
          refine zzt 4 16 (zzb 24 31) hHeld ?_ (hc:=zzy HT_ HW_) (hy:=by rintro w' ⟨s0,s1,s2,s3,s4,s5,s6,s7,s8⟩;go_simp;with_reducible rfl)
          refine zzo 5 17 (zzb 24 63) (hc:=zzw HT_) (fun K hK=>?_)
          refine zzf Try.func82 #[.agg #[.int .i64 a0_0,.int .i64 a0_1,.slice A0_2 l0_2.length c0_2],.agg #[.int .i64 ((rd_T48 l1 x5_1).f0),.int .i64 ((rd_T48 l1 x5_1).f1)]] ?_
          with_reducible refine (spec_l16Free.calls k1 a0_0 a0_1 _ _ l0_2 ((rd_T48 l1 x5_1).f0) ((rd_T48 l1 x5_1).f1) true _ ?side1 ?side2 A6.out).mono ?_
          (case side1=>repeat (first|exact (zO HR0_2.out HB.out)|(with_reducible first|refine zG ?_ _|refine zH ?_ _|refine zI ?_)))
          (case side2=>exact HC0_2.out)
          rintro e w15 ⟨rfl,hb⟩
          refine ⟨_,rfl,?_⟩
          have n0_:=zM (blk_below (g:=gb188) (o := .cells #[.int .i64 a0_0,.int .i64 a0_1,.slice A0_2 l0_2.length c0_2] 29 (0,0)) (zzi BK188) hb)
          have n1_:=zM (zQ zzh hb)
          clear BK188;clear HB;have BK188:=n0_;have HB:=n1_;clear n0_ n1_;(try clear hb)
          (try clear hb2)
          (try clear hk)
          (try clear hi)
          refine hK.out _ _ ⟨zz0 BK188,zz1 BK188,zz2 BK188,(zS HB.out hw190_0 :),(zS HB.out hw190_1 :),(zS HB.out hw192_0 :),(zS HB.out hw192_1 :),(zS HB.out hw193_0 :),(zS HB.out hw193_1 :)⟩ (fun hHeld=>?_)
          clear hK K;refine zzn 17 ?_;refine zzp 6 18 (zzb 24 127) ?_ (hc:=zzx HT_);refine zzp 7 19 (zzb 24 255) ?_ (hc:=zzx HT_);refine zzp 8 20 (zzb 24 511) ?_ (hc:=zzx HT_);refine zzp 9 21 (zzb 24 1023) ?_ (hc:=zzx HT_);refine zzp 10 22 (zzb 24 2047) ?_ (hc:=zzx HT_);refine zzp 11 23 (zzb 24 4095) ?_ (hc:=zzx HT_);refine zzp 12 24 (zzb 24 8191) ?_ (hc:=zzx HT_);refine zzp 13 25 (zzb 24 16383) ?_ (hc:=zzx HT_);refine zzp 14 26 (zzb 24 32767) ?_ (hc:=zzx HT_);refine zzp 16 28 (zzb 24 98303) ?_ (hc:=zzx HT_);refine zzp 17 29 (zzb 24 229375) ?_ (hc:=zzx HT_);refine zzp 18 30 (zzb 24 491519) ?_ (hc:=zzx HT_)
          refine zzt 15 27 (zzb 24 524287) hHeld ?_ (hc:=zzy HT_ HW_) (hy:=by rintro w' ⟨s0,s1,s2,s3,s4,s5,s6,s7,s8⟩;go_simp;with_reducible rfl)
          refine zzt 19 31 (zzb 24 1048575) hHeld ?_ (hc:=zzy HT_ HW_) (hy:=by rintro w' ⟨s0,s1,s2,s3,s4,s5,s6,s7,s8⟩;go_simp;with_reducible rfl)
          refine zzo 20 32 (zzb 24 2097151) (hc:=zzw HT_) (fun K hK=>?_)
          refine goes_ Try.func83 (by kernel_rfl) rfl #[.agg #[.int .i64 ((rd_T48 l1 (ji9)).f0),.int .i64 ((rd_T48 l1 (ji9)).f1)],.agg #[.int .i64 ((rd_T48 l1 x5_1).f0),.int .i64 ((rd_T48 l1 x5_1).f1)]] (by rfl) rfl rfl (by (try simp only [List.map_toArray,List.map_cons,List.map_nil]);first|done|(simp only [hji9];rfl)|rfl|(simp only [List.length_drop,List.length_take];rfl)) ?_
          with_reducible refine (spec_l16Near.calls ((rd_T48 l1 (ji9)).f0) ((rd_T48 l1 (ji9)).f1) ((rd_T48 l1 x5_1).f0) ((rd_T48 l1 x5_1).f1) true _ A12.out).mono ?_
          rintro e w16 ⟨rfl,hb⟩
          refine ⟨_,rfl,?_⟩
          have n0_:=zM (blk_below (g:=gb188) (o := .cells #[.int .i64 a0_0,.int .i64 a0_1,.slice A0_2 l0_2.length c0_2] 29 (0,0)) (zzi BK188) hb)
          have n1_:=zM (zQ zzh hb)
          clear BK188;clear HB;have BK188:=n0_;have HB:=n1_;clear n0_ n1_;(try clear hb)
          (try clear hb2)
          (try clear hk)
          (try clear hi)
          refine hK.out _ _ ⟨zz0 BK188,zz1 BK188,zz2 BK188,(zS HB.out hw190_0 :),(zS HB.out hw190_1 :),(zS HB.out hw192_0 :),(zS HB.out hw192_1 :),(zS HB.out hw193_0 :),(zS HB.out hw193_1 :)⟩ (fun hHeld=>?_)
          clear hK K;refine zzn 32 ?_;refine zzp 21 33 (zzb 24 4194303) ?_ (hc:=zzx HT_);refine zzp 22 34 (zzb 24 8388607) ?_ (hc:=zzx HT_);refine zzp 23 35 (zzb 24 16777215) ?_ (hc:=zzx HT_)
          refine done_ (done_of HT_.out (by kernel_rfl)) ?_
          try go_wp2
          go_roundg k1
          case measure=>have:=HK1.out;omega
          case rel=>exact ⟨(wrap64 (x5_1 + 1)),(by first|rfl|(simp;done)|(simp [*];done)),H',⟨by have:=HK1.out;omega⟩,⟨zzi BK188⟩,⟨zzh⟩⟩
         ·replace c13:=Bool.eq_false_iff.mpr c13
          subst c13;have H1:(some false) = some r:=by rw [if_neg (show ¬ (false = true) by decide)] at H;exact H
          clear H;have H:=H1;clear H1;obtain rfl:=Option.some.inj H;try go_wp2
          have n0_:=zM (zK BK188.out);have n1_:=zM (zF HB.out);clear BK188;clear HB;have BK188:=n0_;have HB:=n1_;clear n0_ n1_;have p190:0 ≤ (x5_1:Int):=zzd
          have q190:x5_1 < (l1.length:Int):=zzd
          obtain ⟨ad190,e190,hx190_0,hx190_1⟩:=at_T48 HR1.out x5_1 p190 q190;have hw190_1:=hx190_1;have hw190_0:=hx190_0;cases e190
          replace hx190_0:=zS HB.out hx190_0;replace hx190_1:=zS HB.out hx190_1;replace p190:=eq_true p190;replace q190:=eq_true q190;have p192:0 ≤ ((ji9):Int):=zzd
          have q192:(ji9) < (l1.length:Int):=zzd
          obtain ⟨ad192,e192,hx192_0,hx192_1⟩:=at_T48 HR1.out (ji9) p192 q192;have hw192_1:=hx192_1;have hw192_0:=hx192_0;obtain rfl:ad190 = ad192:=(by injection e192)
          replace hx192_0:=zS HB.out hx192_0;replace hx192_1:=zS HB.out hx192_1;replace p192:=eq_true p192;replace q192:=eq_true q192;have p193:0 ≤ (x5_1:Int):=zzd
          have q193:x5_1 < (l1.length:Int):=zzd
          obtain ⟨ad193,e193,hx193_0,hx193_1⟩:=at_T48 HR1.out x5_1 p193 q193;have hw193_1:=hx193_1;have hw193_0:=hx193_0;obtain rfl:ad190 = ad193:=(by injection e193)
          replace hx193_0:=zS HB.out hx193_0;replace hx193_1:=zS HB.out hx193_1;replace p193:=eq_true p193;replace q193:=eq_true q193;refine start_ (n:=24) (S:=fun w'=>w'.cell? ⟨gb188,0,none⟩ = some (.int .i64 a0_0) ∧ w'.cell? ⟨gb188,1,none⟩ = some (.int .i64 a0_1) ∧ w'.cell? ⟨gb188,2,none⟩ = some (.slice A0_2 l0_2.length c0_2) ∧ w'.cell? (ad190.add ((x5_1).toNat * 2)) = some (.int .i64 ((rd_T48 l1 x5_1).f0)) ∧ w'.cell? ⟨(ad190.add ((x5_1).toNat * 2)).block,(ad190.add ((x5_1).toNat * 2)).off + 1,none⟩ = some (.int .i64 ((rd_T48 l1 x5_1).f1)) ∧ w'.cell? (ad190.add (((ji9)).toNat * 2)) = some (.int .i64 ((rd_T48 l1 (ji9)).f0)) ∧ w'.cell? ⟨(ad190.add (((ji9)).toNat * 2)).block,(ad190.add (((ji9)).toNat * 2)).off + 1,none⟩ = some (.int .i64 ((rd_T48 l1 (ji9)).f1)) ∧ w'.cell? (ad190.add ((x5_1).toNat * 2)) = some (.int .i64 ((rd_T48 l1 x5_1).f0)) ∧ w'.cell? ⟨(ad190.add ((x5_1).toNat * 2)).block,(ad190.add ((x5_1).toNat * 2)).off + 1,none⟩ = some (.int .i64 ((rd_T48 l1 x5_1).f1))) (ds:=[]) #[false,false,false,false,false,false,false,false,false,false,false,false,false,false,false,false,false,false,false,false,false,false,false,false] (by kernel_rfl) rfl rfl ⟨zz0 BK188,zz1 BK188,zz2 BK188,(zS HB.out hw190_0 :),(zS HB.out hw190_1 :),(zS HB.out hw192_0 :),(zS HB.out hw192_1 :),(zS HB.out hw193_0 :),(zS HB.out hw193_1 :)⟩ (fun hHeld=>?_);refine with_tabW spec_l16Path.tab4 spec_l16Path.bits4 (fun HT_ HW_=>?_)
          generalize wr.drew = w17 at BK188 HB hx190_0 hx190_1 hx192_0 hx192_1 hx193_0 hx193_1 hHeld ⊢
          refine zzp 1 13 (zzb 24 2) ?_ (hc:=zzx HT_);refine zzp 2 14 (zzb 24 6) ?_ (hc:=zzx HT_);refine zzp 3 15 (zzb 24 14) ?_ (hc:=zzx HT_)
          refine zzt 0 12 (zzb 24 15) hHeld ?_ (hc:=zzy HT_ HW_) (hy:=by rintro w' ⟨s0,s1,s2,s3,s4,s5,s6,s7,s8⟩;go_simp;with_reducible rfl)
          refine zzt 4 16 (zzb 24 31) hHeld ?_ (hc:=zzy HT_ HW_) (hy:=by rintro w' ⟨s0,s1,s2,s3,s4,s5,s6,s7,s8⟩;go_simp;with_reducible rfl)
          refine zzo 5 17 (zzb 24 63) (hc:=zzw HT_) (fun K hK=>?_)
          refine zzf Try.func82 #[.agg #[.int .i64 a0_0,.int .i64 a0_1,.slice A0_2 l0_2.length c0_2],.agg #[.int .i64 ((rd_T48 l1 x5_1).f0),.int .i64 ((rd_T48 l1 x5_1).f1)]] ?_
          with_reducible refine (spec_l16Free.calls k1 a0_0 a0_1 _ _ l0_2 ((rd_T48 l1 x5_1).f0) ((rd_T48 l1 x5_1).f1) true _ ?side1 ?side2 A6.out).mono ?_
          (case side1=>repeat (first|exact (zO HR0_2.out HB.out)|(with_reducible first|refine zG ?_ _|refine zH ?_ _|refine zI ?_)))
          (case side2=>exact HC0_2.out)
          rintro e w18 ⟨rfl,hb⟩
          refine ⟨_,rfl,?_⟩
          have n0_:=zM (blk_below (g:=gb188) (o := .cells #[.int .i64 a0_0,.int .i64 a0_1,.slice A0_2 l0_2.length c0_2] 29 (0,0)) (zzi BK188) hb)
          have n1_:=zM (zQ zzh hb)
          clear BK188;clear HB;have BK188:=n0_;have HB:=n1_;clear n0_ n1_;(try clear hb)
          (try clear hb2)
          (try clear hk)
          (try clear hi)
          refine hK.out _ _ ⟨zz0 BK188,zz1 BK188,zz2 BK188,(zS HB.out hw190_0 :),(zS HB.out hw190_1 :),(zS HB.out hw192_0 :),(zS HB.out hw192_1 :),(zS HB.out hw193_0 :),(zS HB.out hw193_1 :)⟩ (fun hHeld=>?_)
          clear hK K;refine zzn 17 ?_;refine zzp 6 18 (zzb 24 127) ?_ (hc:=zzx HT_);refine zzp 7 19 (zzb 24 255) ?_ (hc:=zzx HT_);refine zzp 8 20 (zzb 24 511) ?_ (hc:=zzx HT_);refine zzp 9 21 (zzb 24 1023) ?_ (hc:=zzx HT_);refine zzp 10 22 (zzb 24 2047) ?_ (hc:=zzx HT_);refine zzp 11 23 (zzb 24 4095) ?_ (hc:=zzx HT_);refine zzp 12 24 (zzb 24 8191) ?_ (hc:=zzx HT_);refine zzp 13 25 (zzb 24 16383) ?_ (hc:=zzx HT_);refine zzp 14 26 (zzb 24 32767) ?_ (hc:=zzx HT_);refine zzp 16 28 (zzb 24 98303) ?_ (hc:=zzx HT_);refine zzp 17 29 (zzb 24 229375) ?_ (hc:=zzx HT_);refine zzp 18 30 (zzb 24 491519) ?_ (hc:=zzx HT_)
          refine zzt 15 27 (zzb 24 524287) hHeld ?_ (hc:=zzy HT_ HW_) (hy:=by rintro w' ⟨s0,s1,s2,s3,s4,s5,s6,s7,s8⟩;go_simp;with_reducible rfl)
          refine zzt 19 31 (zzb 24 1048575) hHeld ?_ (hc:=zzy HT_ HW_) (hy:=by rintro w' ⟨s0,s1,s2,s3,s4,s5,s6,s7,s8⟩;go_simp;with_reducible rfl)
          refine zzo 20 32 (zzb 24 2097151) (hc:=zzw HT_) (fun K hK=>?_)
          refine goes_ Try.func83 (by kernel_rfl) rfl #[.agg #[.int .i64 ((rd_T48 l1 (ji9)).f0),.int .i64 ((rd_T48 l1 (ji9)).f1)],.agg #[.int .i64 ((rd_T48 l1 x5_1).f0),.int .i64 ((rd_T48 l1 x5_1).f1)]] (by rfl) rfl rfl (by (try simp only [List.map_toArray,List.map_cons,List.map_nil]);first|done|(simp only [hji9];rfl)|rfl|(simp only [List.length_drop,List.length_take];rfl)) ?_
          with_reducible refine (spec_l16Near.calls ((rd_T48 l1 (ji9)).f0) ((rd_T48 l1 (ji9)).f1) ((rd_T48 l1 x5_1).f0) ((rd_T48 l1 x5_1).f1) false _ A12.out).mono ?_
          rintro e w19 ⟨rfl,hb⟩
          refine ⟨_,rfl,?_⟩
          have n0_:=zM (blk_below (g:=gb188) (o := .cells #[.int .i64 a0_0,.int .i64 a0_1,.slice A0_2 l0_2.length c0_2] 29 (0,0)) (zzi BK188) hb)
          have n1_:=zM (zQ zzh hb)
          clear BK188;clear HB;have BK188:=n0_;have HB:=n1_;clear n0_ n1_;(try clear hb)
          (try clear hb2)
          (try clear hk)
          (try clear hi)
          refine hK.out _ _ ⟨zz0 BK188,zz1 BK188,zz2 BK188,(zS HB.out hw190_0 :),(zS HB.out hw190_1 :),(zS HB.out hw192_0 :),(zS HB.out hw192_1 :),(zS HB.out hw193_0 :),(zS HB.out hw193_1 :)⟩ (fun hHeld=>?_)
          clear hK K;refine zzn 32 ?_;refine zzp 21 33 (zzb 24 4194303) ?_ (hc:=zzx HT_);refine zzp 22 34 (zzb 24 8388607) ?_ (hc:=zzx HT_);refine zzp 23 35 (zzb 24 16777215) ?_ (hc:=zzx HT_)
          refine done_ (done_of HT_.out (by kernel_rfl)) ?_
          try go_wp2
          go_ret
          exact ⟨by first|rfl|(simp [errW_none,errW_some] <;> rfl)|(simp only [← hji9];first|rfl|(simp [errW_none,errW_some] <;> rfl))|(simp [*,errW_none,errW_some] <;> rfl),zzh⟩
        ·rw [if_neg c11] at H
         exact absurd H (by simp)
       ·rw [if_neg c10] at H
        exact absurd H (by simp)
      ·rw [if_neg c8] at H
       have c8b0:decide (0 < x5_1) = false:=decide_eq_false c8
       clear c8;have H':=zM H;clear H;try go_wp2
       have n0_:=zM (zK BK188.out);have n1_:=zM (zF HB.out);clear BK188;clear HB;have BK188:=n0_;have HB:=n1_;clear n0_ n1_;have p190:0 ≤ (x5_1:Int):=zzd
       have q190:x5_1 < (l1.length:Int):=zzd
       obtain ⟨ad190,e190,hx190_0,hx190_1⟩:=at_T48 HR1.out x5_1 p190 q190;have hw190_1:=hx190_1;have hw190_0:=hx190_0;cases e190
       replace hx190_0:=zS HB.out hx190_0;replace hx190_1:=zS HB.out hx190_1;replace p190:=eq_true p190;replace q190:=eq_true q190;refine start_ (n:=24) (S:=fun w'=>w'.cell? ⟨gb188,0,none⟩ = some (.int .i64 a0_0) ∧ w'.cell? ⟨gb188,1,none⟩ = some (.int .i64 a0_1) ∧ w'.cell? ⟨gb188,2,none⟩ = some (.slice A0_2 l0_2.length c0_2) ∧ w'.cell? (ad190.add ((x5_1).toNat * 2)) = some (.int .i64 ((rd_T48 l1 x5_1).f0)) ∧ w'.cell? ⟨(ad190.add ((x5_1).toNat * 2)).block,(ad190.add ((x5_1).toNat * 2)).off + 1,none⟩ = some (.int .i64 ((rd_T48 l1 x5_1).f1))) (ds:=[]) #[false,false,false,false,false,false,false,false,false,false,false,false,false,false,false,false,false,false,false,false,false,false,false,false] (by kernel_rfl) rfl rfl ⟨zz0 BK188,zz1 BK188,zz2 BK188,(zS HB.out hw190_0 :),(zS HB.out hw190_1 :)⟩ (fun hHeld=>?_);refine with_tabW spec_l16Path.tab4 spec_l16Path.bits4 (fun HT_ HW_=>?_)
       generalize wr.drew = w20 at BK188 HB hx190_0 hx190_1 hHeld ⊢
       refine zzp 1 13 (zzb 24 2) ?_ (hc:=zzx HT_);refine zzp 2 14 (zzb 24 6) ?_ (hc:=zzx HT_);refine zzp 3 15 (zzb 24 14) ?_ (hc:=zzx HT_)
       refine zzt 0 12 (zzb 24 15) hHeld ?_ (hc:=zzy HT_ HW_) (hy:=by rintro w' ⟨s0,s1,s2,s3,s4⟩;go_simp;with_reducible rfl)
       refine zzt 4 16 (zzb 24 31) hHeld ?_ (hc:=zzy HT_ HW_) (hy:=by rintro w' ⟨s0,s1,s2,s3,s4⟩;go_simp;with_reducible rfl)
       refine zzo 5 17 (zzb 24 63) (hc:=zzw HT_) (fun K hK=>?_)
       refine zzf Try.func82 #[.agg #[.int .i64 a0_0,.int .i64 a0_1,.slice A0_2 l0_2.length c0_2],.agg #[.int .i64 ((rd_T48 l1 x5_1).f0),.int .i64 ((rd_T48 l1 x5_1).f1)]] ?_
       with_reducible refine (spec_l16Free.calls k1 a0_0 a0_1 _ _ l0_2 ((rd_T48 l1 x5_1).f0) ((rd_T48 l1 x5_1).f1) true _ ?side1 ?side2 A6.out).mono ?_
       (case side1=>repeat (first|exact (zO HR0_2.out HB.out)|(with_reducible first|refine zG ?_ _|refine zH ?_ _|refine zI ?_)))
       (case side2=>exact HC0_2.out)
       rintro e w21 ⟨rfl,hb⟩
       refine ⟨_,rfl,?_⟩
       have n0_:=zM (blk_below (g:=gb188) (o := .cells #[.int .i64 a0_0,.int .i64 a0_1,.slice A0_2 l0_2.length c0_2] 29 (0,0)) (zzi BK188) hb)
       have n1_:=zM (zQ zzh hb)
       clear BK188;clear HB;have BK188:=n0_;have HB:=n1_;clear n0_ n1_;(try clear hb)
       (try clear hb2)
       (try clear hk)
       (try clear hi)
       refine hK.out _ _ ⟨zz0 BK188,zz1 BK188,zz2 BK188,(zS HB.out hw190_0 :),(zS HB.out hw190_1 :)⟩ (fun hHeld=>?_)
       clear hK K;refine zzn 17 ?_;refine zzp 6 18 (zzb 24 127) ?_ (hc:=zzx HT_);refine zzp 7 19 (zzb 24 255) ?_ (hc:=zzx HT_);refine zzp 8 20 (zzb 24 511) ?_ (hc:=zzx HT_);refine zzp 9 21 (zzb 24 1023) ?_ (hc:=zzx HT_);refine zzp 10 22 (zzb 24 2047) ?_ (hc:=zzx HT_);refine zzu 11 23 (zzb 24 4095) ?_ (hc:=zzx HT_);refine zzu 12 24 (zzb 24 8191) ?_ (hc:=zzx HT_);refine zzu 13 25 (zzb 24 16383) ?_ (hc:=zzx HT_);refine zzu 14 26 (zzb 24 32767) ?_ (hc:=zzx HT_);refine zzu 15 27 (zzb 24 65535) ?_ (hc:=zzx HT_);refine zzu 16 28 (zzb 24 131071) ?_ (hc:=zzx HT_);refine zzu 17 29 (zzb 24 262143) ?_ (hc:=zzx HT_);refine zzu 18 30 (zzb 24 524287) ?_ (hc:=zzx HT_);refine zzu 19 31 (zzb 24 1048575) ?_ (hc:=zzx HT_);refine zzu 20 32 (zzb 24 2097151) ?_ (hc:=zzx HT_);refine zzu 21 33 (zzb 24 4194303) ?_ (hc:=zzx HT_);refine zzp 22 34 (zzb 24 8388607) ?_ (hc:=zzx HT_);refine zzp 23 35 (zzb 24 16777215) ?_ (hc:=zzx HT_)
       refine done_ (done_of HT_.out (by kernel_rfl)) ?_
       try go_wp2
       go_roundg k1
       case measure=>have:=HK1.out;omega
       case rel=>exact ⟨(wrap64 (x5_1 + 1)),(by first|rfl|(simp;done)|(simp [*];done)),H',⟨by have:=HK1.out;omega⟩,⟨zzi BK188⟩,⟨zzh⟩⟩
     ·replace c7:=Bool.eq_false_iff.mpr c7
      subst c7;have H1:(some false) = some r:=by rw [if_neg (show ¬ (false = true) by decide)] at H;exact H
      clear H;have H:=H1;clear H1;obtain rfl:=Option.some.inj H;try go_wp2
      have n0_:=zM (zK BK188.out);have n1_:=zM (zF HB.out);clear BK188;clear HB;have BK188:=n0_;have HB:=n1_;clear n0_ n1_;have p190:0 ≤ (x5_1:Int):=zzd
      have q190:x5_1 < (l1.length:Int):=zzd
      obtain ⟨ad190,e190,hx190_0,hx190_1⟩:=at_T48 HR1.out x5_1 p190 q190;have hw190_1:=hx190_1;have hw190_0:=hx190_0;cases e190
      replace hx190_0:=zS HB.out hx190_0;replace hx190_1:=zS HB.out hx190_1;replace p190:=eq_true p190;replace q190:=eq_true q190;refine start_ (n:=24) (S:=fun w'=>w'.cell? ⟨gb188,0,none⟩ = some (.int .i64 a0_0) ∧ w'.cell? ⟨gb188,1,none⟩ = some (.int .i64 a0_1) ∧ w'.cell? ⟨gb188,2,none⟩ = some (.slice A0_2 l0_2.length c0_2) ∧ w'.cell? (ad190.add ((x5_1).toNat * 2)) = some (.int .i64 ((rd_T48 l1 x5_1).f0)) ∧ w'.cell? ⟨(ad190.add ((x5_1).toNat * 2)).block,(ad190.add ((x5_1).toNat * 2)).off + 1,none⟩ = some (.int .i64 ((rd_T48 l1 x5_1).f1))) (ds:=[]) #[false,false,false,false,false,false,false,false,false,false,false,false,false,false,false,false,false,false,false,false,false,false,false,false] (by kernel_rfl) rfl rfl ⟨zz0 BK188,zz1 BK188,zz2 BK188,(zS HB.out hw190_0 :),(zS HB.out hw190_1 :)⟩ (fun hHeld=>?_);refine with_tabW spec_l16Path.tab4 spec_l16Path.bits4 (fun HT_ HW_=>?_)
      generalize wr.drew = w22 at BK188 HB hx190_0 hx190_1 hHeld ⊢
      refine zzp 1 13 (zzb 24 2) ?_ (hc:=zzx HT_);refine zzp 2 14 (zzb 24 6) ?_ (hc:=zzx HT_);refine zzp 3 15 (zzb 24 14) ?_ (hc:=zzx HT_)
      refine zzt 0 12 (zzb 24 15) hHeld ?_ (hc:=zzy HT_ HW_) (hy:=by rintro w' ⟨s0,s1,s2,s3,s4⟩;go_simp;with_reducible rfl)
      refine zzt 4 16 (zzb 24 31) hHeld ?_ (hc:=zzy HT_ HW_) (hy:=by rintro w' ⟨s0,s1,s2,s3,s4⟩;go_simp;with_reducible rfl)
      refine zzo 5 17 (zzb 24 63) (hc:=zzw HT_) (fun K hK=>?_)
      refine zzf Try.func82 #[.agg #[.int .i64 a0_0,.int .i64 a0_1,.slice A0_2 l0_2.length c0_2],.agg #[.int .i64 ((rd_T48 l1 x5_1).f0),.int .i64 ((rd_T48 l1 x5_1).f1)]] ?_
      with_reducible refine (spec_l16Free.calls k1 a0_0 a0_1 _ _ l0_2 ((rd_T48 l1 x5_1).f0) ((rd_T48 l1 x5_1).f1) false _ ?side1 ?side2 A6.out).mono ?_
      (case side1=>repeat (first|exact (zO HR0_2.out HB.out)|(with_reducible first|refine zG ?_ _|refine zH ?_ _|refine zI ?_)))
      (case side2=>exact HC0_2.out)
      rintro e w23 ⟨rfl,hb⟩
      refine ⟨_,rfl,?_⟩
      have n0_:=zM (blk_below (g:=gb188) (o := .cells #[.int .i64 a0_0,.int .i64 a0_1,.slice A0_2 l0_2.length c0_2] 29 (0,0)) (zzi BK188) hb)
      have n1_:=zM (zQ zzh hb)
      clear BK188;clear HB;have BK188:=n0_;have HB:=n1_;clear n0_ n1_;(try clear hb)
      (try clear hb2)
      (try clear hk)
      (try clear hi)
      refine hK.out _ _ ⟨zz0 BK188,zz1 BK188,zz2 BK188,(zS HB.out hw190_0 :),(zS HB.out hw190_1 :)⟩ (fun hHeld=>?_)
      clear hK K;refine zzn 17 ?_;refine zzp 6 18 (zzb 24 127) ?_ (hc:=zzx HT_);refine zzp 7 19 (zzb 24 255) ?_ (hc:=zzx HT_);refine zzu 8 20 (zzb 24 511) ?_ (hc:=zzx HT_);refine zzu 9 21 (zzb 24 1023) ?_ (hc:=zzx HT_);refine zzu 10 22 (zzb 24 2047) ?_ (hc:=zzx HT_);refine zzu 11 23 (zzb 24 4095) ?_ (hc:=zzx HT_);refine zzu 12 24 (zzb 24 8191) ?_ (hc:=zzx HT_);refine zzu 13 25 (zzb 24 16383) ?_ (hc:=zzx HT_);refine zzu 14 26 (zzb 24 32767) ?_ (hc:=zzx HT_);refine zzu 15 27 (zzb 24 65535) ?_ (hc:=zzx HT_);refine zzu 16 28 (zzb 24 131071) ?_ (hc:=zzx HT_);refine zzu 17 29 (zzb 24 262143) ?_ (hc:=zzx HT_);refine zzu 18 30 (zzb 24 524287) ?_ (hc:=zzx HT_);refine zzu 19 31 (zzb 24 1048575) ?_ (hc:=zzx HT_);refine zzu 20 32 (zzb 24 2097151) ?_ (hc:=zzx HT_);refine zzu 21 33 (zzb 24 4194303) ?_ (hc:=zzx HT_);refine zzu 22 34 (zzb 24 8388607) ?_ (hc:=zzx HT_);refine zzp 23 35 (zzb 24 16777215) ?_ (hc:=zzx HT_)
      refine done_ (done_of HT_.out (by kernel_rfl)) ?_
      try go_wp2
      go_ret
      exact ⟨by first|rfl|(simp [errW_none,errW_some] <;> rfl)|(simp [*,errW_none,errW_some] <;> rfl),zzh⟩
    ·rw [if_neg c5] at H
     exact absurd H (by simp)
   ·rw [if_neg c4] at H
    have c4b0:decide (x5_1 < (l1.length:Int)) = false:=decide_eq_false c4
    clear c4;replace H:=Option.bind_eq_some_iff.mp H;obtain ⟨t189,A240,H⟩:=H;replace H:(some t189) = some r:=H
    have A24:=zM A240;clear A240;obtain rfl:=Option.some.inj H;go_wp2_with (first|((with_reducible refine gate_callee (f:=80) rfl ?_);refine goesL_ (some 38) rfl rfl Try.func80 (by kernel_rfl) rfl #[.int .i64 (l1.length:Int),.int .i64 1,.int .i64 25] rfl (by (try simp only [List.map_toArray,List.map_cons,List.map_nil]);first|done|rfl|(simp only [List.length_drop,List.length_take];rfl)) ?_;(with_reducible refine (spec_l1In.calls (l1.length:Int) 1 25 t189 _ A24.out).mono ?_);rintro e w' ⟨rfl,⟨nd,rfl⟩⟩;refine ⟨_,rfl,?_⟩))
    go_ret
    exact ⟨by first|rfl|(simp [errW_none,errW_some] <;> rfl)|(simp [*,errW_none,errW_some] <;> rfl),zzh⟩



/-! ### spec_IsValidPath: function 19 -/
def spec_IsValidPath.f (k:Nat) (a0_0:Int) (a0_1:Int) (l0_2:List (S48)) (l1:List (S48)):Option (Bool):=(spec_l16Good.f k a0_0 a0_1 l0_2).bind fun t196=>(if t196 = true then ((spec_l16Path.f k a0_0 a0_1 l0_2 l1).bind fun t197=>(some t197)) else (some false))
end Go.Proofs.Ytbpccdbkaiigcaa.G

namespace Go.Proofs.Ytbpccdbkaiigcaa.G
open Go.RowKit Go.Proofs.YtbpccdbkaiigcaaW.PrintWords Go.Proofs.YtbpccdbkaiigcaaW.PrintLast
set_option linter.unusedVariables false
set_option linter.unusedSimpArgs false
def eqc (a b : S48) : Prop:=a.f0 = b.f0 ∧ a.f1 = b.f1
/-- A cell stands in a list. -/
def HasC (l : List S48) (c : S48) : Prop := ¬ All (fun j => ¬ eqc (rd_T48 l j) c) 0 (l.length : Int)
def Free (w h : Int) (bl : List S48) (c : S48) : Prop:=In w h c ∧ ¬ HasC bl c
theorem eqc_bool (a b : S48) : (a.f0 == b.f0 && (a.f1 == b.f1)) = true ↔ eqc a b:=by
 unfold eqc;simp
theorem spec_blocked (w h : Int) (bl : List S48) (c : S48) (hb : (bl.length : Int) ≤ 1099511627776) : Ev (fun k=>spec_l16Blocked.f k w h bl c.f0 c.f1) (chk (HasC bl c) true false):=by
 unfold spec_l16Blocked.f
 have h:=Ev.check (fun k i=>spec_l16Blocked.l0 k i w h bl c.f0 c.f1) (bl.length : Int) (fun j => ¬ eqc (rd_T48 bl j) c) false true 0 (by
  refine Ev.step (fun k=>by rw [spec_l16Blocked.l0]) ?_
  simp only [Int.lt_irrefl,if_false]
  exact Ev.now _) (by
  intro i h0 hlt r hr
  refine Ev.step (fun k=>by rw [spec_l16Blocked.l0]) ?_
  simp (disch:=omega) only [if_pos,wrap64_id]
  refine Ev.ite (fun g=>?_) (fun g=>?_)
  ·rw [chk_neg (fun m=>m ((eqc_bool _ _).1 g))];exact Ev.now _
  ·rw [chk_pos (fun m=>g ((eqc_bool _ _).2 m))];exact hr) 0 (by omega) (by omega)
 refine Ev.eq h ?_
 by_cases ha : All (fun j => ¬ eqc (rd_T48 bl j) c) 0 (bl.length : Int)
 ·rw [chk_pos ha,chk_neg (fun m : HasC bl c=>m ha)]
 ·rw [chk_neg ha,chk_pos (show HasC bl c from ha)]
theorem impl_contains (bl : List S48) (c : S48) (hb : (bl.length : Int) ≤ 1099511627776) : Ev (fun k=>impl_Cell_84.f k bl c.f0 c.f1) (chk (HasC bl c) true false):=by
 unfold impl_Cell_84.f impl_Cell_97.f
 have main : ∀ (d : Nat) (i : Int),0 ≤ i → i + d = (bl.length : Int) → ∃ v,Ev (fun k=>impl_Cell_97.l0 k bl (bl.length : Int) i c.f0 c.f1) v ∧ (v ≥ 0 ↔ ¬ All (fun j => ¬ eqc (rd_T48 bl j) c) i (bl.length : Int)):=by
  intro d
  induction d with
  | zero =>
   intro i h0 hd
   refine ⟨-1,?_,?_⟩
   ·refine Ev.step (fun k=>by rw [impl_Cell_97.l0]) ?_
    simp (disch:=omega) only [if_neg]
    exact Ev.now _
   ·constructor
    ·intro h;omega
    ·intro h;exact absurd (fun j h1 h2=>by omega) h
  | succ d ih =>
   intro i h0 hd
   by_cases e : (c.f0 == (rd_T48 bl i).f0 && (c.f1 == (rd_T48 bl i).f1)) = true
   ·refine ⟨i,?_,?_⟩
    ·refine Ev.step (fun k=>by rw [impl_Cell_97.l0]) ?_
     simp (disch:=omega) only [if_pos]
     exact Ev.now _
    ·refine ⟨fun _ a=>a i (by omega) (by omega) ?_,fun _=>h0⟩
     have:=(eqc_bool _ _).1 e
     exact ⟨this.1.symm,this.2.symm⟩
   ·obtain ⟨v,hv,hi⟩:=ih (i + 1) (by omega) (by omega)
    refine ⟨v,?_,?_⟩
    ·refine Ev.step (fun k=>by rw [impl_Cell_97.l0]) ?_
     simp (disch:=omega) only [if_pos,wrap64_id]
     simp only [if_neg e]
     exact hv
    ·rw [hi,All.step (show i < (bl.length : Int) by omega)]
     exact ⟨fun h a=>h a.2,fun h a=>h ⟨fun e2=>e ((eqc_bool _ _).2 ⟨e2.1.symm,e2.2.symm⟩),a⟩⟩
 obtain ⟨v,hv,hi⟩:=main bl.length 0 (by omega) (by omega)
 refine Ev.bind hv ?_
 refine Ev.val ?_
 by_cases hh : HasC bl c
 ·rw [chk_pos hh];exact decide_eq_true (hi.2 hh)
 ·rw [chk_neg hh];exact decide_eq_false (fun h=>hh (hi.1 h))
theorem impl_free (w h : Int) (bl : List S48) (c : S48) (hw : 1 ≤ w ∧ w ≤ 6) (hh : 1 ≤ h ∧ h ≤ 6) (hb : (bl.length : Int) ≤ 1099511627776) : Ev (fun k=>impl_isFree.f k w h bl c.f0 c.f1) (chk (Free w h bl c) true false):=by
 unfold impl_isFree.f
 rw [impl_on w h bl c hw hh]
 simp only [Option.bind_some]
 refine Ev.ite (fun g=>?_) (fun g=>?_)
 ·refine Ev.bind (impl_contains bl c hb) ?_
  refine Ev.val ?_
  by_cases hc : HasC bl c
  ·rw [chk_pos hc,chk_neg (fun m : Free w h bl c=>m.2 hc)];rfl
  ·rw [chk_neg hc,chk_pos (show Free w h bl c from ⟨chk_true.1 g,hc⟩)];rfl
 ·rw [chk_neg (fun m : Free w h bl c=>g (chk_true.2 m.1))];exact Ev.now _
theorem spec_free (w h : Int) (bl : List S48) (c : S48) (hw : 1 ≤ w ∧ w ≤ 6) (hh : 1 ≤ h ∧ h ≤ 6) (hb : (bl.length : Int) ≤ 1099511627776) : Ev (fun k=>spec_l16Free.f k w h bl c.f0 c.f1) (chk (Free w h bl c) true false):=by
 unfold spec_l16Free.f
 rw [spec_in w h bl c hw hh]
 simp only [Option.bind_some]
 refine Ev.ite (fun g=>?_) (fun g=>?_)
 ·refine Ev.bind (spec_blocked w h bl c hb) ?_
  refine Ev.val ?_
  by_cases hc : HasC bl c
  ·rw [chk_pos hc,chk_neg (fun m : Free w h bl c=>m.2 hc)];rfl
  ·rw [chk_neg hc,chk_pos (show Free w h bl c from ⟨chk_true.1 g,hc⟩)];rfl
 ·rw [chk_neg (fun m : Free w h bl c=>g (chk_true.2 m.1))];exact Ev.now _
/-- Two cells lie side by side, or are the same. -/
def Near (a b : S48) : Prop:=mx (a.f0 - b.f0) (b.f0 - a.f0) + mx (a.f1 - b.f1) (b.f1 - a.f1) ≤ 1
theorem mx_cases (a b : Int) : mx a b = a ∨ mx a b = b:=by unfold mx;split <;> omega
theorem near_imp (a b : S48) (ha : (0 ≤ a.f0 ∧ a.f0 ≤ 5) ∧ (0 ≤ a.f1 ∧ a.f1 ≤ 5)) (hb : (0 ≤ b.f0 ∧ b.f0 ≤ 5) ∧ (0 ≤ b.f1 ∧ b.f1 ≤ 5)) : impl_besides.f a.f0 a.f1 b.f0 b.f1 = some (chk (Near a b) true false):=by
 have c1:=mx_cases (a.f0 - b.f0) (b.f0 - a.f0)
 have c2:=mx_cases (a.f1 - b.f1) (b.f1 - a.f1)
 unfold impl_besides.f impl_size.f
 simp (disch:=omega) only [wrap64_id,Option.bind_some]
 rw [show -(a.f0 - b.f0) = b.f0 - a.f0 from by omega,show -(a.f1 - b.f1) = b.f1 - a.f1 from by omega]
 rw [wrap64_id (by omega) (by omega)]
 by_cases hn : Near a b
 ·rw [chk_pos hn];congr 1;have hn':=hn;unfold Near at hn';exact decide_eq_true hn'
 ·rw [chk_neg hn];congr 1;have hn':=hn;unfold Near at hn';exact decide_eq_false hn'
theorem near_spec (a b : S48) (ha : (0 ≤ a.f0 ∧ a.f0 ≤ 5) ∧ (0 ≤ a.f1 ∧ a.f1 ≤ 5)) (hb : (0 ≤ b.f0 ∧ b.f0 ≤ 5) ∧ (0 ≤ b.f1 ∧ b.f1 ≤ 5)) : spec_l16Near.f a.f0 a.f1 b.f0 b.f1 = some (chk (Near a b) true false):=by
 have c1:=mx_cases (a.f0 - b.f0) (b.f0 - a.f0)
 have c2:=mx_cases (a.f1 - b.f1) (b.f1 - a.f1)
 unfold spec_l16Near.f
 simp (disch:=omega) only [wrap64_id,spec_most_eq,Option.bind_some]
 by_cases hn : Near a b
 ·rw [chk_pos hn];congr 1;have hn':=hn;unfold Near at hn';exact decide_eq_true hn'
 ·rw [chk_neg hn];congr 1;have hn':=hn;unfold Near at hn';exact decide_eq_false hn'
theorem check_all {P : Int → Prop} (r0 : Bool) (g : Nat → Int → Option Bool) (n : Int) (hend : Ev (fun k=>g k n) r0) (hstep : ∀ i,0 ≤ i → i < n → All P 0 i → (P i → Ev (fun k=>g k (i + 1)) (chk (All P (i + 1) n) r0 false)) → Ev (fun k=>g k i) (chk (All P i n) r0 false)) : ∀ (d : Nat) (i : Int),0 ≤ i → i + d = n → All P 0 i → Ev (fun k=>g k i) (chk (All P i n) r0 false):=by
 intro d
 induction d with
 | zero =>
  intro i h0 hd ha
  obtain rfl : i = n:=by omega
  rw [chk_pos (All.end_ P i)]
  exact hend
 | succ d ih =>
  intro i h0 hd ha
  refine hstep i h0 (by omega) ha (fun hp=>ih (i + 1) (by omega) (by omega) (fun j a b=>?_))
  by_cases e : j = i
  ·rw [e];exact hp
  ·exact ha j a (by omega)
/-- Step i of a path is well. -/
def stepOk (w h : Int) (bl p : List S48) (i : Int) : Prop:=Free w h bl (rd_T48 p i) ∧ (0 < i → Near (rd_T48 p (i - 1)) (rd_T48 p i))
def PathOk (w h : Int) (bl p : List S48) : Prop:=FloorOk w h bl ∧ (1 ≤ (p.length : Int) ∧ (p.length : Int) ≤ 25) ∧ All (stepOk w h bl p) 0 (p.length : Int)
theorem step_in {w h : Int} {bl p : List S48} (hw : 1 ≤ w ∧ w ≤ 6) (hh : 1 ≤ h ∧ h ≤ 6) {i : Int} (m : Free w h bl (rd_T48 p i)) : (0 ≤ (rd_T48 p i).f0 ∧ (rd_T48 p i).f0 ≤ 5) ∧ (0 ≤ (rd_T48 p i).f1 ∧ (rd_T48 p i).f1 ≤ 5):=by
 have:=m.1
 unfold In at this
 omega
theorem impl_path (w h : Int) (bl : List S48) (hb : (bl.length : Int) ≤ 1099511627776) (p : List S48) : Ev (fun k=>impl_IsValidPath.f k w h bl p) (chk (PathOk w h bl p) true false):=by
 have no : ¬ PathOk w h bl p → Ev (fun k=>impl_IsValidPath.j0 k p true w h bl) (chk (PathOk w h bl p) true false):=by
  intro hn
  rw [chk_neg hn]
  refine Ev.step (fun k=>by rw [impl_IsValidPath.j0]) ?_
  simp only [if_true];exact Ev.now _
 unfold impl_IsValidPath.f
 refine Ev.bind (impl_floor w h bl hb) ?_
 refine Ev.ite (fun hf=>?_) (fun hf=>no (fun m=>hf (chk_true.2 m.1)))
 have hf:=chk_true.1 hf
 have hw:=hf.1
 have hh:=hf.2.1
 simp only [impl_within_eq,Option.bind_some]
 by_cases hl : 1 ≤ (p.length : Int) ∧ (p.length : Int) ≤ 25
 ·rw [decide_eq_true hl]
  refine Ev.step (fun k=>by rw [impl_IsValidPath.j0]) ?_
  simp only [Bool.not_true,Bool.false_eq_true,if_false]
  rw [chk_congr (show PathOk w h bl p ↔ All (stepOk w h bl p) 0 (p.length : Int) from ⟨fun m=>m.2.2,fun m=>⟨hf,hl,m⟩⟩)]
  refine check_all true (fun k i=>impl_IsValidPath.l0 k p p (p.length : Int) i w h bl) (p.length : Int) ?_ ?_ p.length 0 (by omega) (by omega) (fun j a b=>by omega)
  ·refine Ev.step (fun k=>by rw [impl_IsValidPath.l0]) ?_
   simp only [Int.lt_irrefl,if_false]
   exact Ev.now _
  ·intro i h0 hlt ha nx
   refine Ev.step (fun k=>by rw [impl_IsValidPath.l0]) ?_
   simp (disch:=omega) only [if_pos]
   refine Ev.bind (impl_free w h bl (rd_T48 p i) hw hh hb) ?_
   refine Ev.ite (fun g=>?_) (fun g=>?_)
   ·have g:=chk_true.1 g
    rw [wrap64_id (x:=i + 1) (by omega) (by omega),chk_congr (All.step hlt)]
    refine Ev.ite (fun g1=>?_) (fun g1=>?_)
    ·simp (disch:=omega) only [if_pos,wrap64_id]
     rw [near_imp _ _ (step_in hw hh (ha (i - 1) (by omega) (by omega)).1) (step_in hw hh g)]
     simp only [Option.bind_some]
     refine Ev.ite (fun g2=>?_) (fun g2=>?_)
     ·have ok : stepOk w h bl p i:=⟨g,fun _=>chk_true.1 g2⟩
      rw [chk_congr (show stepOk w h bl p i ∧ All (stepOk w h bl p) (i + 1) (p.length : Int) ↔ All (stepOk w h bl p) (i + 1) (p.length : Int) from ⟨fun m=>m.2,fun m=>⟨ok,m⟩⟩)]
      exact nx ok
     ·rw [chk_neg (fun m=>g2 (chk_true.2 (m.1.2 (by omega))))];exact Ev.now _
    ·have ok : stepOk w h bl p i:=⟨g,fun h=>absurd h (by omega)⟩
     rw [chk_congr (show stepOk w h bl p i ∧ All (stepOk w h bl p) (i + 1) (p.length : Int) ↔ All (stepOk w h bl p) (i + 1) (p.length : Int) from ⟨fun m=>m.2,fun m=>⟨ok,m⟩⟩)]
     exact nx ok
   ·rw [chk_neg (fun m=>g (chk_true.2 (m i (by omega) hlt).1))];exact Ev.now _
 ·rw [decide_eq_false hl]
  exact no (fun m=>hl m.2.1)
theorem spec_path {w h : Int} {bl : List S48} (hf : FloorOk w h bl) (hb : (bl.length : Int) ≤ 1099511627776) (p : List S48) (hp : (p.length : Int) ≤ 1099511627776) : Ev (fun k=>spec_l16Path.f k w h bl p) (chk (PathOk w h bl p) true false):=by
 have hw:=hf.1
 have hh:=hf.2.1
 unfold spec_l16Path.f
 have main:=check_all (P:=stepOk w h bl p) (decide (1 ≤ (p.length : Int) ∧ (p.length : Int) ≤ 25)) (fun k i=>spec_l16Path.l0 k p i w h bl) (p.length : Int) (by
   refine Ev.step (fun k=>by rw [spec_l16Path.l0]) ?_
   simp only [Int.lt_irrefl,if_false,spec_l1In_eq,Option.bind_some]
   exact Ev.now _) (by
   intro i h0 hlt ha nx
   refine Ev.step (fun k=>by rw [spec_l16Path.l0]) ?_
   simp (disch:=omega) only [if_pos]
   refine Ev.bind (spec_free w h bl (rd_T48 p i) hw hh hb) ?_
   refine Ev.ite (fun g=>?_) (fun g=>?_)
   ·have g:=chk_true.1 g
    rw [wrap64_id (x:=i + 1) (by omega) (by omega),chk_congr (All.step hlt)]
    refine Ev.ite (fun g1=>?_) (fun g1=>?_)
    ·simp (disch:=omega) only [if_pos,wrap64_id]
     rw [near_spec _ _ (step_in hw hh (ha (i - 1) (by omega) (by omega)).1) (step_in hw hh g)]
     simp only [Option.bind_some]
     refine Ev.ite (fun g2=>?_) (fun g2=>?_)
     ·have ok : stepOk w h bl p i:=⟨g,fun _=>chk_true.1 g2⟩
      rw [chk_congr (show stepOk w h bl p i ∧ All (stepOk w h bl p) (i + 1) (p.length : Int) ↔ All (stepOk w h bl p) (i + 1) (p.length : Int) from ⟨fun m=>m.2,fun m=>⟨ok,m⟩⟩)]
      exact nx ok
     ·rw [chk_neg (fun m=>g2 (chk_true.2 (m.1.2 (by omega))))];exact Ev.now _
    ·have ok : stepOk w h bl p i:=⟨g,fun h=>absurd h (by omega)⟩
     rw [chk_congr (show stepOk w h bl p i ∧ All (stepOk w h bl p) (i + 1) (p.length : Int) ↔ All (stepOk w h bl p) (i + 1) (p.length : Int) from ⟨fun m=>m.2,fun m=>⟨ok,m⟩⟩)]
     exact nx ok
   ·rw [chk_neg (fun m=>g (chk_true.2 (m i (by omega) hlt).1))];exact Ev.now _) p.length 0 (by omega) (by omega) (fun j a b=>by omega)
 refine Ev.eq main ?_
 by_cases hal : All (stepOk w h bl p) 0 (p.length : Int)
 ·rw [chk_pos hal]
  by_cases hl : 1 ≤ (p.length : Int) ∧ (p.length : Int) ≤ 25
  ·rw [decide_eq_true hl,chk_pos (show PathOk w h bl p from ⟨hf,hl,hal⟩)]
  ·rw [decide_eq_false hl,chk_neg (fun m : PathOk w h bl p=>hl m.2.1)]
 ·rw [chk_neg hal,chk_neg (fun m : PathOk w h bl p=>hal m.2.2)]
end Go.Proofs.Ytbpccdbkaiigcaa.G

/- Maps from cells to whole numbers and to bools, told as functions. -/
namespace Go.Proofs.Ytbpccdbkaiigcaa.G
open Go.RowKit Go.Maps Go.Proofs.YtbpccdbkaiigcaaW.PrintWords Go.Proofs.YtbpccdbkaiigcaaW.PrintLast
set_option linter.unusedVariables false
set_option linter.unusedSimpArgs false
theorem laidOutP : laidOutB Try.prog = true:=by kernel_rfl
theorem keyed48 : Keyed Try.prog 48:=Keyed.of_law (deep_law_laid laidOutP (m:=2) (by omega) (of_decide_eq_true (by kernel_rfl)) (by kernel_rfl) (by rw [Try.underlying48]))
def kl (c : S48) : Lit := .string (keyBytes [.int .i64 c.f0,.int .i64 c.f1])
def W64 (c : S48) : Prop:=(Lit.int .i64 c.f0).wf = true ∧ (Lit.int .i64 c.f1).wf = true
def cv (c : S48) : Value := .agg #[.int .i64 c.f0,.int .i64 c.f1]
theorem cells48 : Try.prog.cellsOf 48 = 2:=by kernel_rfl
theorem cells3 : Try.prog.cellsOf 3 = 1:=by kernel_rfl
theorem keyT48 : Try.prog.keyType 48 = true:=by kernel_rfl
theorem formed48 {a b : Value} : (Value.agg #[a,b]).formed Try.prog 48 = true:=by simp [Value.formed,Try.underlying48,cells48]
theorem sizes48 : ∃ n,Try.prog.types.size = n + 1:=⟨Try.prog.types.size - 1,by kernel_rfl⟩
theorem lits48 {c : S48} (h : W64 c) (n : Nat) : Try.prog.keyLits (n + 2) 48 [.int .i64 c.f0,.int .i64 c.f1] = some [.int .i64 c.f0,.int .i64 c.f1]:=by
 simp [Program.keyLits,Try.underlying48,Try.underlying3,cells48,cells3,h.1,h.2]
theorem keyOf_struct {P : Program} {k : TypeId} {v : Value} {fs : Array Field} (hu : P.underlying k = some (.struct fs)) (hk : P.keyType k = true) (hf : v.formed P k = true) (cs : List Value) (hc : v.cells.toList = cs) (n : Nat) (hn : P.types.size = n + 1) (ls : List Lit) (hl : P.keyLits (n + 2) k cs = some ls) : keyOf P k v = some (.string (keyBytes ls)):=by
 unfold keyOf
 rw [hu]
 simp only [hk,hf,Bool.and_self,if_true]
 rw [hn,hc,hl]
 rfl
theorem key48 {c : S48} (h : W64 c) : keyOf Try.prog 48 (cv c) = some (kl c):=by
 obtain ⟨n,hn⟩:=sizes48
 exact keyOf_struct Try.underlying48 keyT48 formed48 _ rfl n hn _ (lits48 h n)
set_option maxRecDepth 20000 in
theorem kl_inj {c d : S48} (hc : W64 c) (hd : W64 d) (h : kl c = kl d) : c = d:=by
 have h1:=key48 hc
 rw [h] at h1
 have this : cv c = cv d:=Keyed.inj keyed48 h1 (key48 hd)
 have h2 : (cv c).cells.toList = (cv d).cells.toList:=by rw [this]
 have h3 : [Value.int .i64 c.f0,Value.int .i64 c.f1] = [Value.int .i64 d.f0,Value.int .i64 d.f1]:=h2
 injection h3 with e1 e2
 injection e2 with e2 _
 injection e1 with _ e1
 injection e2 with _ e2
 cases c
 cases d
 subst e1
 subst e2
 rfl
theorem isKey_kl {c : S48} (h : W64 c) : WideAt.IsKeyLit (kl c):=keyed48.key (key48 h)
abbrev Mp:=S48 → Option Int
def upd (m : Mp) (c : S48) (v : Int) : Mp:=fun d=>if d.f0 = c.f0 ∧ d.f1 = c.f1 then some v else m d
theorem zero4 (w : World) : (zeroValue 4).run Try.prog w = .ok (.bool false) w:=by kernel_rfl
/-- Block b is a map of at most n cells' numbers: m. -/
def MapI (w : World) (b n : Nat) (m : Mp) : Prop := ∃ D : DataW Unit,w.ownsMap Try.prog 48 (plainElem Try.prog 3) b n D ∧ ∀ c,W64 c → Maps.has D (kl c) = (m c).isSome ∧ D.atKey (kl c) (.lit (.int .i64 0)) = .lit (.int .i64 ((m c).getD 0))
theorem MapI.lt {w : World} {b n : Nat} {m : Mp} (h : MapI w b n m) : b < w.heap.size:=by obtain ⟨D,h,_⟩:=h;exact h.lt
theorem MapI.step {w w1 : World} {b n : Nat} {m : Mp} (h : MapI w b n m) (hm : w1.heap[b]? = w.heap[b]?) : MapI w1 b n m:=by
 obtain ⟨D,⟨es,clock,hb,r⟩,h⟩:=h
 exact ⟨D,⟨es,clock,hm.trans hb,r⟩,h⟩
theorem MapI.below {w w1 : World} {b n : Nat} {m : Mp} (h : MapI w b n m) (hb : Below w.heap.size w w1) : MapI w1 b n m:=h.step (hb.block b h.lt)
theorem MapI.grown {w w1 : World} {b n : Nat} {m : Mp} {row : Option Nat} (h : MapI w b n m) (hg : w.grownBy w1 row) (hne : some b ≠ row) : MapI w1 b n m:=h.step (hg.block b h.lt hne)
theorem MapI.cells {w : World} {b n : Nat} {m : Mp} (h : MapI w b n m) {g : Nat} {cs : Array Value} {t : TypeId} {p : Nat × Nat} (hg : w.heap[g]? = some (.cells cs t p)) : b ≠ g:=by
 rintro rfl
 obtain ⟨D,⟨es,clock,hb,r⟩,h⟩:=h
 rw [hg] at hb
 cases hb
section
variable {ops : Array Oper} {rest : List Oper} {o : Oper} {a : Act} {Q : Exit → Act → World → Prop} {w : World} {b n : Nat} {m : Mp} {c : S48}
end
end Go.Proofs.Ytbpccdbkaiigcaa.G

/- The search by breadth, as a pure function, and what the walks hold of the world while they search. -/
namespace Go.Proofs.Ytbpccdbkaiigcaa.G
open Go.RowKit Go.Proofs.YtbpccdbkaiigcaaW.PrintWords Go.Proofs.YtbpccdbkaiigcaaW.PrintLast Go.Proofs.YtbpccdbkaiigcaaW.PrintMore
set_option linter.unusedVariables false
set_option linter.unusedSimpArgs false
/-- The neighbours of a cell, one behind another: what is new is noted and stands in line. -/
def stepIn (x : Int) : List S48 → Mp → List S48 → Mp × List S48
 | [],m,q=>(m,q)
 | d :: ds,m,q=>match m d with
  | some _=>stepIn x ds m q
  | none=>stepIn x ds (upd m d x) (q ++ [d])
def bfs (nb : S48 → List S48) : Nat → Mp → List S48 → Option Mp
 | 0,_,_=>none
 | _ + 1,m,[]=>some m
 | k + 1,m,c :: q=>match m c with
  | none=>none
  | some v=>if q.length < 1000 ∧ 0 ≤ v ∧ v < 1000 then bfs nb k (stepIn (v + 1) (nb c) m q).1 (stepIn (v + 1) (nb c) m q).2 else none
theorem drop48 (ds : List S48) (x : Int) (h0 : 0 ≤ x) (h1 : x < (ds.length : Int)) : ds.drop x.toNat = rd_T48 ds x :: ds.drop (x + 1).toNat:=by
 unfold rd_T48
 rw [List.getD_eq_getElem?_getD,List.getElem?_eq_getElem (by omega),show (x + 1).toNat = x.toNat + 1 from by omega]
 exact List.drop_eq_getElem_cons (by omega)
theorem mem48 (ds : List S48) (x : Int) (h0 : 0 ≤ x) (h1 : x < (ds.length : Int)) : rd_T48 ds x ∈ ds:=by
 unfold rd_T48
 rw [List.getD_eq_getElem?_getD,List.getElem?_eq_getElem (by omega)]
 exact List.getElem_mem _
/-- What the search's walk holds of the world. -/
structure SF (w0 w : World) (fc : Array Value) (g2 b n : Nat) (m : Mp) (v6 : Value) (l : List S48) (vn : Value) (ds : List S48) : Prop where
 fl : w.heap[g2]? = some (.cells fc 29 (0,0))
 mp : MapI w b n m
 mb : w0.heap.size ≤ b
 gb : w0.heap.size ≤ g2
 ln : Kd.Q k48 48 w w0.heap.size (fun k=>k ≠ b ∧ k ≠ g2) v6 l
 nb : Kd.R k48 48 w w0.heap.size (fun k=>(k ≠ b ∧ k ≠ g2) ∧ some k ≠ v6.ownBlock) vn ds
 bl : Below w0.heap.size w0 w
theorem SF.below {w0 w w1 : World} {fc : Array Value} {g2 b n : Nat} {m : Mp} {v6 vn : Value} {l ds : List S48} (h : SF w0 w fc g2 b n m v6 l vn ds) (hb : Below w.heap.size w w1) : SF w0 w1 fc g2 b n m v6 l vn ds :=
 ⟨blk_below h.fl hb,h.mp.below hb,h.mb,h.gb,Kd.Q_below h.ln hb,Kd.R_below h.nb hb,below_step h.bl hb⟩
theorem SF.put {w0 w w1 : World} {fc : Array Value} {g2 b n n' : Nat} {m m' : Mp} {v6 vn : Value} {l ds : List S48} (h : SF w0 w fc g2 b n m v6 l vn ds) (hm : MapI w1 b n' m') (hg : w.grownBy w1 (some b)) : SF w0 w1 fc g2 b n' m' v6 l vn ds :=
 ⟨(hg.block g2 (blk_lt h.fl) (fun e=>h.mp.cells h.fl (Option.some.inj e).symm)).trans h.fl,hm,h.mb,h.gb,Kd.Q_grown h.ln hg (fun k hk e=>hk.1 (Option.some.inj e)),Kd.R_grown h.nb hg (fun k hk e=>hk.1.1 (Option.some.inj e)),h.bl.grown hg h.bl.size (fun k hk=>by cases hk;exact h.mb)⟩
theorem SF.app {w0 w w1 : World} {fc : Array Value} {g2 b n : Nat} {m : Mp} {v6 v7 vn : Value} {l l' ds : List S48} (h : SF w0 w fc g2 b n m v6 l vn ds) (hq : Kd.Q k48 48 w1 w0.heap.size (fun k=>k ≠ b ∧ k ≠ g2) v7 l') (hb : Below w0.heap.size w0 w1) (hg : w.grownBy w1 v6.ownBlock) (hat : v7.ownBlock = v6.ownBlock ∨ ∃ b,v7.ownBlock = some b ∧ w.heap.size ≤ b) : SF w0 w1 fc g2 b n m v7 l' vn ds :=
 ⟨(hg.block g2 (blk_lt h.fl) (Kd.Q_ne h.ln h.fl (by decide))).trans h.fl,h.mp.grown hg (Kd.Q_away h.ln (fun k hk=>hk.1)),h.mb,h.gb,hq,Kd.R_after h.nb hg hat,hb⟩
/-- The neighbours have come: their list is a new one. -/
theorem SF.near {w0 w w1 : World} {fc : Array Value} {g2 b n : Nat} {m : Mp} {v6 vn vn' : Value} {l ds ds' : List S48} (h : SF w0 w fc g2 b n m v6 l vn ds) (hb : Below w.heap.size w w1) (hr : Kd.R k48 48 w1 w.heap.size (fun _=>True) vn' ds') : SF w0 w1 fc g2 b n m v6 l vn' ds' :=
 have h':=h.below hb
 ⟨h'.fl,h'.mp,h.mb,h.gb,h'.ln,Kd.R_lower (Kd.R_mono (Kd.R_bound hr) (fun k hk=>⟨⟨fun e=>by have:=h.mp.lt;have:=hk.2.1;omega,fun e=>by have:=blk_lt h.fl;have:=hk.2.1;omega⟩,fun e=>by have:=Kd.Q_lt h.ln k e.symm;have:=hk.2.1;omega⟩)) h.bl.size,h'.bl⟩
theorem SF.next {w0 w : World} {fc : Array Value} {g2 b n : Nat} {m : Mp} {A : Option Addr} {nn c : Nat} {vn : Value} {x : S48} {l ds : List S48} (h : SF w0 w fc g2 b n m (.slice A nn c) (x :: l) vn ds) : SF w0 w fc g2 b n m (.slice (if c = 1 then A else A.map (·.add (1 * 2))) (nn - 1) (c - 1)) l (.slice none 0 0) [] :=
 ⟨h.fl,h.mp,h.mb,h.gb,Kd.Q_drop (k:=1) h.ln (by simp),Kd.R_nil _ _ _ _ _,h.bl⟩
end Go.Proofs.Ytbpccdbkaiigcaa.G

-- Written by wip/tools/gen.py out of the translation (the kit's printer, one namespace a seat). Lean checks it.
namespace Go.Proofs.Ytbpccdbkaiigcaa.G
open Go.RowKit Go.Proofs.YtbpccdbkaiigcaaW.PrintWords Go.Proofs.YtbpccdbkaiigcaaW.PrintLast Go.Proofs.YtbpccdbkaiigcaaW.PrintMore
attribute [local go_sem] max2_int min2_int max_two min_two max_three min_three max_four min_four   -- for this text's walks alone
set_option linter.unusedVariables false
set_option linter.unusedSimpArgs false

/-! ### impl_around: function 70 -/
def impl_around.l0:Nat → List (S48) → List (S48) → Int → Int → Int → Int → List (S48) → Int → Int → Option ((List (S48)))
 | 0,_,_,_,_,_,_,_,_,_=>none
 | k + 1,x5,x15,x16,x17,x441000,x441001,x441002,x442000,x442001=>if x17 < x16 then (if 0 ≤ x17 then (if x17 < (x15.length:Int) then ((impl_isFree.f k x441000 x441001 x441002 (wrap64 (x442000 + ((rd_T48 x15 x17).f0))) (wrap64 (x442001 + ((rd_T48 x15 x17).f1)))).bind fun t451=>(if t451 = true then (if x5.length < 8796093022208 then (impl_around.l0 k (x5 ++ [(⟨wrap64 (x442000 + ((rd_T48 x15 x17).f0)),wrap64 (x442001 + ((rd_T48 x15 x17).f1))⟩ : S48)]) x15 x16 (wrap64 (x17 + 1)) x441000 x441001 x441002 x442000 x442001) else (none)) else (impl_around.l0 k x5 x15 x16 (wrap64 (x17 + 1)) x441000 x441001 x441002 x442000 x442001))) else (none)) else (none)) else (some x5)
def impl_around.f (k:Nat) (a0_0:Int) (a0_1:Int) (l0_2:List (S48)) (a1_0:Int) (a1_1:Int):Option ((List (S48))):=(some (([(⟨0,(-1)⟩ : S48),(⟨(-1),0⟩ : S48),(⟨0,0⟩ : S48),(⟨1,0⟩ : S48),(⟨0,1⟩ : S48)]:List (S48)):List (S48))).bind fun y445=>(impl_around.l0 k (([]:List (S48))) y445 (y445.length:Int) 0 a0_0 a0_1 l0_2 a1_0 a1_1)
set_option maxHeartbeats 8000000 in
set_option maxRecDepth 100000 in
theorem impl_around.calls (k:Nat) (a0_0:Int) (a0_1:Int) (A0_2:Option Addr) (c0_2:Nat) (l0_2:List (S48)) (a1_0:Int) (a1_1:Int) (r:List (S48)) (w:World) (hr0_2:Kd.C k48 w A0_2 l0_2.length l0_2) (hc0_2:l0_2.length ≤ c0_2) (h:impl_around.f k a0_0 a0_1 l0_2 a1_0 a1_1 = some r) :
  Calls Try.prog 70 #[.agg #[.int .i64 a0_0,.int .i64 a0_1,.slice A0_2 l0_2.length c0_2],.agg #[.int .i64 a1_0,.int .i64 a1_1]] w fun e w' => ∃ v0_:Value,e = .returned (v0_) ∧ Kd.R k48 48 w' w.heap.size (fun _=>True) v0_ r ∧ Below w.heap.size w w':=by
 have hu29:=Try.underlying29;have hu48:=Try.underlying48;have HR0_2:=zM hr0_2;have HC0_2:=zM hc0_2;clear hr0_2 hc0_2;have HB:=zM (Below.refl w.heap.size w);have H:((some (([(⟨0,(-1)⟩ : S48),(⟨(-1),0⟩ : S48),(⟨0,0⟩ : S48),(⟨1,0⟩ : S48),(⟨0,1⟩ : S48)]:List (S48)):List (S48))).bind fun y445=>(impl_around.l0 k (([]:List (S48))) y445 (y445.length:Int) 0 a0_0 a0_1 l0_2 a1_0 a1_1)) = some r:=h
 clear h;obtain ⟨y442,hy442⟩ : ∃ y_:List (S48),y_ = (([]:List (S48))):=⟨_,rfl⟩
 replace H:((some (([(⟨0,(-1)⟩ : S48),(⟨(-1),0⟩ : S48),(⟨0,0⟩ : S48),(⟨1,0⟩ : S48),(⟨0,1⟩ : S48)]:List (S48)):List (S48))).bind fun y445=>(impl_around.l0 k y442 y445 (y445.length:Int) 0 a0_0 a0_1 l0_2 a1_0 a1_1)) = some r:=by first|(rw [hy442];with_reducible exact H)|(have H2_:=(Option.bind_some _ _).symm.trans H;rw [hy442];with_reducible exact H2_)|(have H2_:=(Option.bind_some _ _).symm.trans H;with_reducible exact H2_)|with_reducible exact H|(rw [hy442];exact H)|exact H
 have Ny442:=zM hy442;clear hy442;obtain ⟨y445,hy445⟩ : ∃ y_:List (S48),y_ = (([(⟨0,(-1)⟩ : S48),(⟨(-1),0⟩ : S48),(⟨0,0⟩ : S48),(⟨1,0⟩ : S48),(⟨0,1⟩ : S48)]:List (S48))):=⟨_,rfl⟩
 replace H:(impl_around.l0 k y442 y445 (y445.length:Int) 0 a0_0 a0_1 l0_2 a1_0 a1_1) = some r:=by first|(rw [hy445];with_reducible exact H)|(have H2_:=(Option.bind_some _ _).symm.trans H;rw [hy445];with_reducible exact H2_)|(have H2_:=(Option.bind_some _ _).symm.trans H;with_reducible exact H2_)|with_reducible exact H|(rw [hy445];exact H)|exact H
 have Ny445:=zM hy445;clear hy445;have H':=zM H;clear H;go_enter Try.func70,Try.ntmps70
 go_wp2_with (first|((with_reducible refine gate_dst (N:=2) rfl ?_);refine zzc 2 #[.int .i64 a0_0,.int .i64 a0_1,.slice A0_2 l0_2.length c0_2] 29 ?_;intro gb440 hg w3 hbox hb;have n0_:=zM (zQ zzh hb);have n1_:=zM (hbox);have n2_:=zM ((by rw [hg];exact (zR zzh):w.heap.size ≤ gb440));have n3_:=zM ((by rw [hg];exact (zR zzh):w.heap.size ≤ gb440));clear HB;have HB:=n0_;have BK440:=n1_;have GW440:=n2_;have GE440:=n3_;clear n0_ n1_ n2_ n3_;clear hb hbox hg)|((with_reducible refine gate_dst (N:=3) rfl ?_);refine zzc 3 #[.int .i64 a1_0,.int .i64 a1_1] 48 ?_;intro gb441 hg w4 hbox hb;have n0_:=zM (blk_below (g:=gb440) (o := .cells #[.int .i64 a0_0,.int .i64 a0_1,.slice A0_2 l0_2.length c0_2] 29 (0,0)) (zzi BK440) hb);have n1_:=zM (zQ zzh hb);have n2_:=zM (hbox);have n3_:=zM ((by rw [hg];exact (zR zzh):w.heap.size ≤ gb441));have n4_:=zM ((by rw [hg];exact (zR zzh):w.heap.size ≤ gb441));have n5_:=zM ((by rw [hg];exact Nat.ne_of_lt (blk_lt (g:=gb440) (o := .cells #[.int .i64 a0_0,.int .i64 a0_1,.slice A0_2 l0_2.length c0_2] 29 (0,0)) (zzi BK440)):gb440 ≠ gb441));have n6_:=zM ((by rw [hg];exact Nat.ne_of_gt (blk_lt (g:=gb440) (o := .cells #[.int .i64 a0_0,.int .i64 a0_1,.slice A0_2 l0_2.length c0_2] 29 (0,0)) (zzi BK440)):gb441 ≠ gb440));clear BK440;clear HB;have BK440:=n0_;have HB:=n1_;have BK441:=n2_;have GW441:=n3_;have GE441:=n4_;have NB440_441:=n5_;have NB441_440:=n6_;clear n0_ n1_ n2_ n3_ n4_ n5_ n6_;clear hb hbox hg)|((with_reducible refine gate_dst (N:=9) rfl ?_);refine Kd.R_lit k48 _ 48 ?hg (N:=9) ?hd (xs:=([]:List (S48))) (inner:=[]) (ok:=fun _=>True) (okp:=fun _=>True) ?hr ?hp (fun _ hk=>hk) trivial (Below.refl _ _) (Nat.le_refl _) (by simp) ?_;(case hd=>rfl);(case hg=>rfl);(case hr=>first|(go_simp;done)|(go_simp;rfl));(case hp=>exact (Reps.none _ _));intro v443 w5 ho6 hb hg_ hnew_;clear hg_ hnew_;(first|rw [← Ny442.out] at ho6|(simp only [Int.reduceToNat] at ho6;rw [← Ny442.out] at ho6));have n0_:=zM (Kd.R_lower (Kd.R_newB ho6 (g:=gb441) (o := .cells #[.int .i64 a1_0,.int .i64 a1_1] 48 (0,0)) (zzi BK441)) (zR zzh));have n1_:=zM (blk_below (g:=gb440) (o := .cells #[.int .i64 a0_0,.int .i64 a0_1,.slice A0_2 l0_2.length c0_2] 29 (0,0)) (zzi BK440) hb);have n2_:=zM (blk_below (g:=gb441) (o := .cells #[.int .i64 a1_0,.int .i64 a1_1] 48 (0,0)) (zzi BK441) hb);have n3_:=zM (zQ zzh hb);clear BK440;clear BK441;clear HB;have HO444:=n0_;have BK440:=n1_;have BK441:=n2_;have HB:=n3_;clear n0_ n1_ n2_ n3_;clear hb ho6)|((with_reducible refine gate_dst (N:=15) rfl ?_);refine Kd.R_lit k48 _ 48 ?hg (N:=15) ?hd (xs:=([(⟨0,(-1)⟩ : S48),(⟨(-1),0⟩ : S48),(⟨0,0⟩ : S48),(⟨1,0⟩ : S48),(⟨0,1⟩ : S48)]:List (S48))) (inner:=[.int .i64 0,.int .i64 (-1),.int .i64 (-1),.int .i64 0,.int .i64 0,.int .i64 0,.int .i64 1,.int .i64 0,.int .i64 0,.int .i64 1]) (ok:=fun _=>True) (okp:=fun _=>True) ?hr ?hp (fun _ hk=>hk) trivial (Below.refl _ _) (Nat.le_refl _) (by simp) ?_;(case hd=>rfl);(case hg=>rfl);(case hr=>first|(go_simp;done)|(go_simp;rfl));(case hp=>exact (Reps.c2 (show Kd.M k48 _ _ _ (⟨0,(-1)⟩ : S48) [.int .i64 0,.int .i64 (-1)] from (k48_mkM _ _ _ (⟨0,(-1)⟩ : S48) )) (Reps.c2 (show Kd.M k48 _ _ _ (⟨(-1),0⟩ : S48) [.int .i64 (-1),.int .i64 0] from (k48_mkM _ _ _ (⟨(-1),0⟩ : S48) )) (Reps.c2 (show Kd.M k48 _ _ _ (⟨0,0⟩ : S48) [.int .i64 0,.int .i64 0] from (k48_mkM _ _ _ (⟨0,0⟩ : S48) )) (Reps.c2 (show Kd.M k48 _ _ _ (⟨1,0⟩ : S48) [.int .i64 1,.int .i64 0] from (k48_mkM _ _ _ (⟨1,0⟩ : S48) )) (Reps.c2 (show Kd.M k48 _ _ _ (⟨0,1⟩ : S48) [.int .i64 0,.int .i64 1] from (k48_mkM _ _ _ (⟨0,1⟩ : S48) )) (Reps.none _ _)))))));intro v446 w7 ho8 hb hg_ hnew_;clear hg_ hnew_;(first|rw [← Ny445.out] at ho8|(simp only [Int.reduceToNat] at ho8;rw [← Ny445.out] at ho8));have n0_:=zM (Kd.R_elder' (zzl HO444) (Kd.R_base ho8) hb);have n1_:=zM (Kd.R_lower (Kd.R_newB (Kd.R_new' ho8 (Kd.R_lt (zzl HO444))) (g:=gb441) (o := .cells #[.int .i64 a1_0,.int .i64 a1_1] 48 (0,0)) (zzi BK441)) (zR zzh));have n2_:=zM (blk_below (g:=gb440) (o := .cells #[.int .i64 a0_0,.int .i64 a0_1,.slice A0_2 l0_2.length c0_2] 29 (0,0)) (zzi BK440) hb);have n3_:=zM (blk_below (g:=gb441) (o := .cells #[.int .i64 a1_0,.int .i64 a1_1] 48 (0,0)) (zzi BK441) hb);have n4_:=zM (zQ zzh hb);clear HO444;clear BK440;clear BK441;clear HB;have HO444:=n0_;have HO447:=n1_;have BK440:=n2_;have BK441:=n3_;have HB:=n4_;clear n0_ n1_ n2_ n3_ n4_;clear hb ho8;obtain ⟨Ao9,co9,eo9⟩:=Kd.R_slice HO447.out;subst eo9))
 go_loopg [5,17] k (fun kq v5 v17 w' => ∃ (x5_1:List (S48)) (x17_1:Int),v17 = .int .i64 x17_1 ∧ Aside0 (impl_around.l0 kq x5_1 y445 (y445.length:Int) x17_1 a0_0 a0_1 l0_2 a1_0 a1_1 = some r) ∧ Aside0 (kq ≤ k) ∧ Aside0 (Kd.R k48 48 w' w.heap.size (fun k_=>some k_ ≠ ((.slice Ao9 y445.length co9):Value).ownBlock ∧ k_ ≠ gb441) v5 x5_1) ∧ Aside0 (Kd.R k48 48 w' w.heap.size (fun k_=>some k_ ≠ (v5:Value).ownBlock ∧ k_ ≠ gb441) (.slice Ao9 y445.length co9) y445) ∧ Aside0 (w'.heap[gb440]? = some (.cells #[.int .i64 a0_0,.int .i64 a0_1,(.slice A0_2 l0_2.length c0_2)] 29 (0,0))) ∧ Aside0 (w'.heap[gb441]? = some (.cells #[.int .i64 a1_0,.int .i64 a1_1] 48 (0,0))) ∧ Aside0 (Below w.heap.size w w'))
 case atStart=>exact ⟨(y442),(0),(by first|rfl|(simp;done)|(simp [*];done)),H',⟨Nat.le_refl _⟩,⟨by (with_reducible repeat (first|apply zA|apply zB|apply zC));exact Kd.R_mono HO444.out (fun _ hk=>⟨hk.2,hk.1.2⟩)⟩,⟨by (with_reducible repeat (first|apply zA|apply zB|apply zC));exact Kd.R_mono HO447.out (fun _ hk=>⟨hk.1.2,hk.2⟩)⟩,⟨zzi BK440⟩,⟨zzi BK441⟩,⟨zzh⟩⟩
 case round =>
  clear H';(try clear c2);(try clear p2);(try clear c7);obtain ⟨x5_1,x17_1,rfl,HA,HK1,HO_5,HO_15,BK440,BK441,HB⟩:=hrel;cases gk with
  | zero=>exact absurd HA.out (by simp [impl_around.l0])
  | succ k1 =>
   have H:=HA.out;clear HA;simp only [impl_around.l0] at H
   by_cases c10:x17_1 < (y445.length:Int)
   ·rw [if_pos c10] at H
    have c10b0:decide (x17_1 < (y445.length:Int)) = true:=decide_eq_true c10
    clear c10;by_cases c11:0 ≤ x17_1
    ·rw [if_pos c11] at H
     have c11b0:decide (0 ≤ x17_1) = true:=decide_eq_true c11
     clear c11;by_cases c12:x17_1 < (y445.length:Int)
     ·rw [if_pos c12] at H
      have c12b0:decide (x17_1 < (y445.length:Int)) = true:=decide_eq_true c12
      clear c12;replace H:=Option.bind_eq_some_iff.mp H;obtain ⟨t451,A130,H⟩:=H;replace H:(if t451 = true then (if x5_1.length < 8796093022208 then (impl_around.l0 k1 (x5_1 ++ [(⟨wrap64 (a1_0 + ((rd_T48 y445 x17_1).f0)),wrap64 (a1_1 + ((rd_T48 y445 x17_1).f1))⟩ : S48)]) y445 (y445.length:Int) (wrap64 (x17_1 + 1)) a0_0 a0_1 l0_2 a1_0 a1_1) else (none)) else (impl_around.l0 k1 x5_1 y445 (y445.length:Int) (wrap64 (x17_1 + 1)) a0_0 a0_1 l0_2 a1_0 a1_1)) = some r:=H
      have A13:=zM A130;clear A130;by_cases c14:t451 = true
      ·subst c14
       have H1:(if x5_1.length < 8796093022208 then (impl_around.l0 k1 (x5_1 ++ [(⟨wrap64 (a1_0 + ((rd_T48 y445 x17_1).f0)),wrap64 (a1_1 + ((rd_T48 y445 x17_1).f1))⟩ : S48)]) y445 (y445.length:Int) (wrap64 (x17_1 + 1)) a0_0 a0_1 l0_2 a1_0 a1_1) else (none)) = some r:=by rw [if_pos rfl] at H;exact H
       clear H;have H:=H1;clear H1;by_cases c15:x5_1.length < 8796093022208
       ·rw [if_pos c15] at H
        have LMc15:=zM c15;clear c15;obtain ⟨y452,hy452⟩ : ∃ y_:List (S48),y_ = (x5_1 ++ [(⟨wrap64 (a1_0 + ((rd_T48 y445 x17_1).f0)),wrap64 (a1_1 + ((rd_T48 y445 x17_1).f1))⟩ : S48)]):=⟨_,rfl⟩
        replace H:(impl_around.l0 k1 y452 y445 (y445.length:Int) (wrap64 (x17_1 + 1)) a0_0 a0_1 l0_2 a1_0 a1_1) = some r:=by first|(rw [hy452];with_reducible exact H)|(have H2_:=(Option.bind_some _ _).symm.trans H;rw [hy452];with_reducible exact H2_)|(have H2_:=(Option.bind_some _ _).symm.trans H;with_reducible exact H2_)|with_reducible exact H|(rw [hy452];exact H)|exact H
        have Ny452:=zM hy452;clear hy452;have H':=zM H;clear H;have p448:0 ≤ (x17_1:Int):=zzd
        have q448:x17_1 < (y445.length:Int):=zzd
        obtain ⟨ad448,e448,hx448_0,hx448_1⟩:=at_T48 (zN HO_15.out).2.2 x17_1 p448 q448;cases e448
        replace p448:=eq_true p448;replace q448:=eq_true q448;go_wp2_with (first|((with_reducible refine gate_dst (N:=7) rfl ?_);refine zzc 7 #[.int .i64 0,.int .i64 0] 48 ?_;intro gb449 hg w16 hbox hb;have n0_:=zM (zP (Kd.R_elderB (zzl HO_5) gb449 (Nat.le_of_eq hg.symm)) hb);have n1_:=zM (zP (Kd.R_elderB (zzl HO_15) gb449 (Nat.le_of_eq hg.symm)) hb);have n2_:=zM (blk_below (g:=gb440) (o := .cells #[.int .i64 a0_0,.int .i64 a0_1,.slice A0_2 l0_2.length c0_2] 29 (0,0)) (zzi BK440) hb);have n3_:=zM (blk_below (g:=gb441) (o := .cells #[.int .i64 a1_0,.int .i64 a1_1] 48 (0,0)) (zzi BK441) hb);have n4_:=zM (zQ zzh hb);have n5_:=zM (hbox);have n6_:=zM ((by rw [hg];exact (zR zzh):w.heap.size ≤ gb449));have n7_:=zM ((by rw [hg];exact (zR zzh):w.heap.size ≤ gb449));have n8_:=zM ((by rw [hg];exact Nat.ne_of_lt (blk_lt (g:=gb440) (o := .cells #[.int .i64 a0_0,.int .i64 a0_1,.slice A0_2 l0_2.length c0_2] 29 (0,0)) (zzi BK440)):gb440 ≠ gb449));have n9_:=zM ((by rw [hg];exact Nat.ne_of_gt (blk_lt (g:=gb440) (o := .cells #[.int .i64 a0_0,.int .i64 a0_1,.slice A0_2 l0_2.length c0_2] 29 (0,0)) (zzi BK440)):gb449 ≠ gb440));have n10_:=zM ((by rw [hg];exact Nat.ne_of_lt (blk_lt (g:=gb441) (o := .cells #[.int .i64 a1_0,.int .i64 a1_1] 48 (0,0)) (zzi BK441)):gb441 ≠ gb449));have n11_:=zM ((by rw [hg];exact Nat.ne_of_gt (blk_lt (g:=gb441) (o := .cells #[.int .i64 a1_0,.int .i64 a1_1] 48 (0,0)) (zzi BK441)):gb449 ≠ gb441));clear HO_5;clear HO_15;clear BK440;clear BK441;clear HB;have HO_5:=n0_;have HO_15:=n1_;have BK440:=n2_;have BK441:=n3_;have HB:=n4_;have BK449:=n5_;have GW449:=n6_;have GE449:=n7_;have NB440_449:=n8_;have NB449_440:=n9_;have NB441_449:=n10_;have NB449_441:=n11_;clear n0_ n1_ n2_ n3_ n4_ n5_ n6_ n7_ n8_ n9_ n10_ n11_;clear hb hbox hg;have hnb17:=NB449_440.out;have hnc17:=NB440_449.out;have hnb18:=NB449_441.out;have hnc18:=NB441_449.out;have hcz19_0:=zz0 BK449;have hcz19_1:=zz1 BK449;have hfz19_0:=blk_frozen BK449.out 0;have hfz19_1:=blk_frozen BK449.out 1;have hnb20:=NB441_440.out;have hnc20:=NB440_441.out;have hcz21_0:=zz0 BK441;have hcz21_1:=zz1 BK441;have hfz21_0:=blk_frozen BK441.out 0;have hfz21_1:=blk_frozen BK441.out 1)|((with_reducible refine gate_dst (N:=8) rfl ?_);refine zzc 8 #[.int .i64 0,.int .i64 0] 48 ?_;intro gb450 hg w22 hbox hb;have n0_:=zM (zP (Kd.R_elderB (by (with_reducible repeat (first|apply zA|apply zB|apply zC));exact (Kd.R_mono (Kd.R_far (p:=⟨gb449,1,none⟩) (Kd.R_far (p:=⟨gb449,0,none⟩) (Kd.R_mono HO_5.out (fun k_ hk=>(⟨hk,hk.2⟩ : _ ∧ k_ ≠ gb449))) (fun _ hk=>hk.2) (.int .i64 ((rd_T48 y445 x17_1).f0))) (fun _ hk=>hk.2) (.int .i64 ((rd_T48 y445 x17_1).f1))) (fun _ h_=>h_.1))) gb450 (Nat.le_of_eq hg.symm)) hb);have n1_:=zM (zP (Kd.R_elderB (by (with_reducible repeat (first|apply zA|apply zB|apply zC));exact (Kd.R_mono (Kd.R_far (p:=⟨gb449,1,none⟩) (Kd.R_far (p:=⟨gb449,0,none⟩) (Kd.R_mono HO_15.out (fun k_ hk=>(⟨hk,hk.2⟩ : _ ∧ k_ ≠ gb449))) (fun _ hk=>hk.2) (.int .i64 ((rd_T48 y445 x17_1).f0))) (fun _ hk=>hk.2) (.int .i64 ((rd_T48 y445 x17_1).f1))) (fun _ h_=>h_.1))) gb450 (Nat.le_of_eq hg.symm)) hb);have n2_:=zM (blk_below (g:=gb440) (o := .cells #[.int .i64 a0_0,.int .i64 a0_1,.slice A0_2 l0_2.length c0_2] 29 (0,0)) (by (with_reducible repeat (first|refine zJ ?_ _|refine zK ?_|refine zL ?_ _));refine blk_far ?_ NB440_449.out _;(with_reducible repeat (first|refine zJ ?_ _|refine zK ?_|refine zL ?_ _));refine blk_far ?_ NB440_449.out _;(with_reducible repeat (first|refine zJ ?_ _|refine zK ?_|refine zL ?_ _));exact BK440.out) hb);have n3_:=zM (blk_below (g:=gb441) (o := .cells #[.int .i64 a1_0,.int .i64 a1_1] 48 (0,0)) (by (with_reducible repeat (first|refine zJ ?_ _|refine zK ?_|refine zL ?_ _));refine blk_far ?_ NB441_449.out _;(with_reducible repeat (first|refine zJ ?_ _|refine zK ?_|refine zL ?_ _));refine blk_far ?_ NB441_449.out _;(with_reducible repeat (first|refine zJ ?_ _|refine zK ?_|refine zL ?_ _));exact BK441.out) hb);have n4_:=zM (blk_below (g:=gb449) (o := .cells #[.int .i64 ((rd_T48 y445 x17_1).f0),.int .i64 ((rd_T48 y445 x17_1).f1)] 48 (0,0)) (by (with_reducible repeat (first|refine zJ ?_ _|refine zK ?_|refine zL ?_ _));refine blk_put (cs := #[.int .i64 ((rd_T48 y445 x17_1).f0),.int .i64 0]) ?_ 1 _ rfl;(with_reducible repeat (first|refine zJ ?_ _|refine zK ?_|refine zL ?_ _));refine blk_put (cs := #[.int .i64 0,.int .i64 0]) ?_ 0 _ rfl;(with_reducible repeat (first|refine zJ ?_ _|refine zK ?_|refine zL ?_ _));exact BK449.out) hb);have n5_:=zM (zQ zzh hb);have n6_:=zM (hbox);have n7_:=zM ((by rw [hg];exact (zR zzh):w.heap.size ≤ gb450));have n8_:=zM ((by rw [hg];exact (zR zzh):w.heap.size ≤ gb450));have n9_:=zM ((by rw [hg];exact Nat.ne_of_lt (blk_lt (g:=gb440) (o := .cells #[.int .i64 a0_0,.int .i64 a0_1,.slice A0_2 l0_2.length c0_2] 29 (0,0)) (by (with_reducible repeat (first|refine zJ ?_ _|refine zK ?_|refine zL ?_ _));refine blk_far ?_ NB440_449.out _;(with_reducible repeat (first|refine zJ ?_ _|refine zK ?_|refine zL ?_ _));refine blk_far ?_ NB440_449.out _;(with_reducible repeat (first|refine zJ ?_ _|refine zK ?_|refine zL ?_ _));exact BK440.out)):gb440 ≠ gb450));have n10_:=zM ((by rw [hg];exact Nat.ne_of_gt (blk_lt (g:=gb440) (o := .cells #[.int .i64 a0_0,.int .i64 a0_1,.slice A0_2 l0_2.length c0_2] 29 (0,0)) (by (with_reducible repeat (first|refine zJ ?_ _|refine zK ?_|refine zL ?_ _));refine blk_far ?_ NB440_449.out _;(with_reducible repeat (first|refine zJ ?_ _|refine zK ?_|refine zL ?_ _));refine blk_far ?_ NB440_449.out _;(with_reducible repeat (first|refine zJ ?_ _|refine zK ?_|refine zL ?_ _));exact BK440.out)):gb450 ≠ gb440));have n11_:=zM ((by rw [hg];exact Nat.ne_of_lt (blk_lt (g:=gb441) (o := .cells #[.int .i64 a1_0,.int .i64 a1_1] 48 (0,0)) (by (with_reducible repeat (first|refine zJ ?_ _|refine zK ?_|refine zL ?_ _));refine blk_far ?_ NB441_449.out _;(with_reducible repeat (first|refine zJ ?_ _|refine zK ?_|refine zL ?_ _));refine blk_far ?_ NB441_449.out _;(with_reducible repeat (first|refine zJ ?_ _|refine zK ?_|refine zL ?_ _));exact BK441.out)):gb441 ≠ gb450));have n12_:=zM ((by rw [hg];exact Nat.ne_of_gt (blk_lt (g:=gb441) (o := .cells #[.int .i64 a1_0,.int .i64 a1_1] 48 (0,0)) (by (with_reducible repeat (first|refine zJ ?_ _|refine zK ?_|refine zL ?_ _));refine blk_far ?_ NB441_449.out _;(with_reducible repeat (first|refine zJ ?_ _|refine zK ?_|refine zL ?_ _));refine blk_far ?_ NB441_449.out _;(with_reducible repeat (first|refine zJ ?_ _|refine zK ?_|refine zL ?_ _));exact BK441.out)):gb450 ≠ gb441));have n13_:=zM ((by rw [hg];exact Nat.ne_of_lt (blk_lt (g:=gb449) (o := .cells #[.int .i64 ((rd_T48 y445 x17_1).f0),.int .i64 ((rd_T48 y445 x17_1).f1)] 48 (0,0)) (by (with_reducible repeat (first|refine zJ ?_ _|refine zK ?_|refine zL ?_ _));refine blk_put (cs := #[.int .i64 ((rd_T48 y445 x17_1).f0),.int .i64 0]) ?_ 1 _ rfl;(with_reducible repeat (first|refine zJ ?_ _|refine zK ?_|refine zL ?_ _));refine blk_put (cs := #[.int .i64 0,.int .i64 0]) ?_ 0 _ rfl;(with_reducible repeat (first|refine zJ ?_ _|refine zK ?_|refine zL ?_ _));exact BK449.out)):gb449 ≠ gb450));have n14_:=zM ((by rw [hg];exact Nat.ne_of_gt (blk_lt (g:=gb449) (o := .cells #[.int .i64 ((rd_T48 y445 x17_1).f0),.int .i64 ((rd_T48 y445 x17_1).f1)] 48 (0,0)) (by (with_reducible repeat (first|refine zJ ?_ _|refine zK ?_|refine zL ?_ _));refine blk_put (cs := #[.int .i64 ((rd_T48 y445 x17_1).f0),.int .i64 0]) ?_ 1 _ rfl;(with_reducible repeat (first|refine zJ ?_ _|refine zK ?_|refine zL ?_ _));refine blk_put (cs := #[.int .i64 0,.int .i64 0]) ?_ 0 _ rfl;(with_reducible repeat (first|refine zJ ?_ _|refine zK ?_|refine zL ?_ _));exact BK449.out)):gb450 ≠ gb449));clear HO_5;clear HO_15;clear BK440;clear BK441;clear BK449;clear HB;have HO_5:=n0_;have HO_15:=n1_;have BK440:=n2_;have BK441:=n3_;have BK449:=n4_;have HB:=n5_;have BK450:=n6_;have GW450:=n7_;have GE450:=n8_;have NB440_450:=n9_;have NB450_440:=n10_;have NB441_450:=n11_;have NB450_441:=n12_;have NB449_450:=n13_;have NB450_449:=n14_;clear n0_ n1_ n2_ n3_ n4_ n5_ n6_ n7_ n8_ n9_ n10_ n11_ n12_ n13_ n14_;clear hb hbox hg;have hnb23:=NB450_440.out;have hnc23:=NB440_450.out;have hnb24:=NB450_441.out;have hnc24:=NB441_450.out;have hnb25:=NB450_449.out;have hnc25:=NB449_450.out;have hcz26_0:=zz0 BK450;have hcz26_1:=zz1 BK450;have hfz26_0:=blk_frozen BK450.out 0;have hfz26_1:=blk_frozen BK450.out 1;have hcz27_0:=zz0 BK440;have hcz27_1:=zz1 BK440;have hcz27_2:=zz2 BK440;have hfz27_0:=blk_frozen BK440.out 0;have hfz27_1:=blk_frozen BK440.out 1;have hfz27_2:=blk_frozen BK440.out 2)|((with_reducible refine gate_callee (f:=58) rfl ?_);refine goesL_ (some 34) rfl rfl Try.func58 (by kernel_rfl) rfl #[.agg #[.int .i64 a0_0,.int .i64 a0_1,.slice A0_2 l0_2.length c0_2],.agg #[.int .i64 (wrap64 (a1_0 + ((rd_T48 y445 x17_1).f0))),.int .i64 (wrap64 (a1_1 + ((rd_T48 y445 x17_1).f1)))]] rfl (by (try simp only [List.map_toArray,List.map_cons,List.map_nil]);first|done|rfl|(simp only [List.length_drop,List.length_take];rfl)) ?_;(with_reducible refine (impl_isFree.calls k1 a0_0 a0_1 _ _ l0_2 (wrap64 (a1_0 + ((rd_T48 y445 x17_1).f0))) (wrap64 (a1_1 + ((rd_T48 y445 x17_1).f1))) true _ ?side1 ?side2 A13.out).mono ?_);(case side1=>exact zO HR0_2.out zzh);(case side2=>exact HC0_2.out);rintro e w28 ⟨rfl,hb⟩;refine ⟨_,rfl,?_⟩;have n0_:=zM (zP (by (with_reducible repeat (first|apply zA|apply zB|apply zC));exact (Kd.R_mono (Kd.R_far (p:=⟨gb450,1,none⟩) (Kd.R_far (p:=⟨gb450,0,none⟩) (Kd.R_mono HO_5.out (fun k_ hk=>(⟨hk,hk.2⟩ : _ ∧ k_ ≠ gb450))) (fun _ hk=>hk.2) (.int .i64 (wrap64 (a1_0 + ((rd_T48 y445 x17_1).f0))))) (fun _ hk=>hk.2) (.int .i64 (wrap64 (a1_1 + ((rd_T48 y445 x17_1).f1))))) (fun _ h_=>h_.1))) hb);have n1_:=zM (zP (by (with_reducible repeat (first|apply zA|apply zB|apply zC));exact (Kd.R_mono (Kd.R_far (p:=⟨gb450,1,none⟩) (Kd.R_far (p:=⟨gb450,0,none⟩) (Kd.R_mono HO_15.out (fun k_ hk=>(⟨hk,hk.2⟩ : _ ∧ k_ ≠ gb450))) (fun _ hk=>hk.2) (.int .i64 (wrap64 (a1_0 + ((rd_T48 y445 x17_1).f0))))) (fun _ hk=>hk.2) (.int .i64 (wrap64 (a1_1 + ((rd_T48 y445 x17_1).f1))))) (fun _ h_=>h_.1))) hb);have n2_:=zM (blk_below (g:=gb440) (o := .cells #[.int .i64 a0_0,.int .i64 a0_1,.slice A0_2 l0_2.length c0_2] 29 (0,0)) (by (with_reducible repeat (first|refine zJ ?_ _|refine zK ?_|refine zL ?_ _));refine blk_far ?_ NB440_450.out _;(with_reducible repeat (first|refine zJ ?_ _|refine zK ?_|refine zL ?_ _));refine blk_far ?_ NB440_450.out _;(with_reducible repeat (first|refine zJ ?_ _|refine zK ?_|refine zL ?_ _));exact BK440.out) hb);have n3_:=zM (blk_below (g:=gb441) (o := .cells #[.int .i64 a1_0,.int .i64 a1_1] 48 (0,0)) (by (with_reducible repeat (first|refine zJ ?_ _|refine zK ?_|refine zL ?_ _));refine blk_far ?_ NB441_450.out _;(with_reducible repeat (first|refine zJ ?_ _|refine zK ?_|refine zL ?_ _));refine blk_far ?_ NB441_450.out _;(with_reducible repeat (first|refine zJ ?_ _|refine zK ?_|refine zL ?_ _));exact BK441.out) hb);have n4_:=zM (blk_below (g:=gb449) (o := .cells #[.int .i64 ((rd_T48 y445 x17_1).f0),.int .i64 ((rd_T48 y445 x17_1).f1)] 48 (0,0)) (by (with_reducible repeat (first|refine zJ ?_ _|refine zK ?_|refine zL ?_ _));refine blk_far ?_ NB449_450.out _;(with_reducible repeat (first|refine zJ ?_ _|refine zK ?_|refine zL ?_ _));refine blk_far ?_ NB449_450.out _;(with_reducible repeat (first|refine zJ ?_ _|refine zK ?_|refine zL ?_ _));exact BK449.out) hb);have n5_:=zM (blk_below (g:=gb450) (o := .cells #[.int .i64 (wrap64 (a1_0 + ((rd_T48 y445 x17_1).f0))),.int .i64 (wrap64 (a1_1 + ((rd_T48 y445 x17_1).f1)))] 48 (0,0)) (by (with_reducible repeat (first|refine zJ ?_ _|refine zK ?_|refine zL ?_ _));refine blk_put (cs := #[.int .i64 (wrap64 (a1_0 + ((rd_T48 y445 x17_1).f0))),.int .i64 0]) ?_ 1 _ rfl;(with_reducible repeat (first|refine zJ ?_ _|refine zK ?_|refine zL ?_ _));refine blk_put (cs := #[.int .i64 0,.int .i64 0]) ?_ 0 _ rfl;(with_reducible repeat (first|refine zJ ?_ _|refine zK ?_|refine zL ?_ _));exact BK450.out) hb);have n6_:=zM (zQ zzh hb);clear HO_5;clear HO_15;clear BK440;clear BK441;clear BK449;clear BK450;clear HB;have HO_5:=n0_;have HO_15:=n1_;have BK440:=n2_;have BK441:=n3_;have BK449:=n4_;have BK450:=n5_;have HB:=n6_;clear n0_ n1_ n2_ n3_ n4_ n5_ n6_;(try clear hb);(try clear hb2);(try clear hk);(try clear hi);have hcz29_0:=zz0 BK450;have hcz29_1:=zz1 BK450;have hfz29_0:=blk_frozen BK450.out 0;have hfz29_1:=blk_frozen BK450.out 1)|((with_reducible refine gate_builtin (b := .append) (xs := #[.tmp 35,.tmp 37]) rfl ?_);at_builtin;refine Kd.R_append k48 (w0:=w) w.heap.size rfl (.tmp 35) (.tmp 37) 27 48 (.agg #[(.int .i64 0),(.int .i64 0)]) 16 rfl Try.underlying27 info48 rfl (by decide) (by omega) u5 x5_1 (⟨wrap64 (a1_0 + ((rd_T48 y445 x17_1).f0)),wrap64 (a1_1 + ((rd_T48 y445 x17_1).f1))⟩ : S48) [.int .i64 (wrap64 (a1_0 + ((rd_T48 y445 x17_1).f0))),.int .i64 (wrap64 (a1_1 + ((rd_T48 y445 x17_1).f1)))] (fun k_=>some k_ ≠ (.slice (some ad448) y445.length co9:Value).ownBlock ∧ k_ ≠ gb441 ∧ k_ ≠ gb449 ∧ k_ ≠ gb450) (fun _=>False) rfl rfl ?aP (fun _ hk=>hk.elim) ?aF ?aO ?aB ?aS ?aL ?_;(case aP=>exact k48_mkM _ _ _ (⟨wrap64 (a1_0 + ((rd_T48 y445 x17_1).f0)),wrap64 (a1_1 + ((rd_T48 y445 x17_1).f1))⟩ : S48));(case aB=>exact zzh);(case aF=>exact (fun k_ hk=>⟨Kd.fresh' (Kd.R_lt (zzl HO_15)) k_ hk,Kd.freshB (g:=gb441) (o := .cells #[.int .i64 a1_0,.int .i64 a1_1] 48 (0,0)) (zzi BK441) k_ hk,Kd.freshB (g:=gb449) (o := .cells #[.int .i64 ((rd_T48 y445 x17_1).f0),.int .i64 ((rd_T48 y445 x17_1).f1)] 48 (0,0)) (zzi BK449) k_ hk,Kd.freshB (g:=gb450) (o := .cells #[.int .i64 (wrap64 (a1_0 + ((rd_T48 y445 x17_1).f0))),.int .i64 (wrap64 (a1_1 + ((rd_T48 y445 x17_1).f1)))] 48 (0,0)) (zzi BK450) k_ hk⟩));(case aO=>exact (by (with_reducible repeat (first|apply zA|apply zB|apply zC));exact Kd.R_mono HO_5.out (fun _ hk=>⟨hk.1.1.1,⟨hk.1.1.2,⟨hk.1.2,hk.2⟩⟩⟩)));(case aS=>exact (zR zzh));(case aL=>have:=LMc15.out;omega);intro v453 w30 ho hb hg hat;rw [← Ny452.out] at ho;have n0_:=zM (Kd.R_after (ok:=(fun k_=>k_ ≠ gb441 ∧ k_ ≠ gb449 ∧ k_ ≠ gb450)) (by (with_reducible repeat (first|apply zA|apply zB|apply zC));exact Kd.R_mono HO_15.out (fun _ hk=>⟨⟨hk.1.1.2,⟨hk.1.2,hk.2⟩⟩,hk.1.1.1⟩)) hg hat);have n1_:=zM (blk_grown (g:=gb440) (o := .cells #[.int .i64 a0_0,.int .i64 a0_1,.slice A0_2 l0_2.length c0_2] 29 (0,0)) (zzi BK440) hg (Kd.R_ne HO_5.out BK440.out (by decide)));have n2_:=zM (blk_grown (g:=gb441) (o := .cells #[.int .i64 a1_0,.int .i64 a1_1] 48 (0,0)) (zzi BK441) hg (Kd.R_away HO_5.out (fun _ hk=>hk.1.1.2)));have n3_:=zM (blk_grown (g:=gb449) (o := .cells #[.int .i64 ((rd_T48 y445 x17_1).f0),.int .i64 ((rd_T48 y445 x17_1).f1)] 48 (0,0)) (zzi BK449) hg (Kd.R_away HO_5.out (fun _ hk=>hk.1.2)));have n4_:=zM (blk_grown (g:=gb450) (o := .cells #[.int .i64 (wrap64 (a1_0 + ((rd_T48 y445 x17_1).f0))),.int .i64 (wrap64 (a1_1 + ((rd_T48 y445 x17_1).f1)))] 48 (0,0)) (zzi BK450) hg (Kd.R_away HO_5.out (fun _ hk=>hk.2)));have n5_:=zM (hb);have n6_:=zM (ho);clear HO_15;clear BK440;clear BK441;clear BK449;clear BK450;clear HB;clear HO_5;have HO_15:=n0_;have BK440:=n1_;have BK441:=n2_;have BK449:=n3_;have BK450:=n4_;have HB:=n5_;have HO454:=n6_;clear n0_ n1_ n2_ n3_ n4_ n5_ n6_;clear ho hb hg hat))
        go_roundg k1
        case measure=>have:=HK1.out;omega
        case rel=>exact ⟨(y452),(wrap64 (x17_1 + 1)),(by first|rfl|(simp;done)|(simp [*];done)),H',⟨by have:=HK1.out;omega⟩,⟨by (with_reducible repeat (first|apply zA|apply zB|apply zC));exact Kd.R_mono HO454.out (fun _ hk=>⟨hk.1,hk.2.1⟩)⟩,⟨by (with_reducible repeat (first|apply zA|apply zB|apply zC));exact Kd.R_mono HO_15.out (fun _ hk=>⟨hk.2,hk.1.1⟩)⟩,⟨zzi BK440⟩,⟨zzi BK441⟩,⟨zzh⟩⟩
       ·rw [if_neg c15] at H
        exact absurd H (by simp)
      ·replace c14:=Bool.eq_false_iff.mpr c14
       subst c14;have H1:(impl_around.l0 k1 x5_1 y445 (y445.length:Int) (wrap64 (x17_1 + 1)) a0_0 a0_1 l0_2 a1_0 a1_1) = some r:=by rw [if_neg (show ¬ (false = true) by decide)] at H;exact H
       clear H;have H:=H1;clear H1;have H':=zM H;clear H;have p448:0 ≤ (x17_1:Int):=zzd
       have q448:x17_1 < (y445.length:Int):=zzd
       obtain ⟨ad448,e448,hx448_0,hx448_1⟩:=at_T48 (zN HO_15.out).2.2 x17_1 p448 q448;cases e448
       replace p448:=eq_true p448;replace q448:=eq_true q448;go_wp2_with (first|((with_reducible refine gate_dst (N:=7) rfl ?_);refine zzc 7 #[.int .i64 0,.int .i64 0] 48 ?_;intro gb449 hg w31 hbox hb;have n0_:=zM (zP (Kd.R_elderB (zzl HO_5) gb449 (Nat.le_of_eq hg.symm)) hb);have n1_:=zM (zP (Kd.R_elderB (zzl HO_15) gb449 (Nat.le_of_eq hg.symm)) hb);have n2_:=zM (blk_below (g:=gb440) (o := .cells #[.int .i64 a0_0,.int .i64 a0_1,.slice A0_2 l0_2.length c0_2] 29 (0,0)) (zzi BK440) hb);have n3_:=zM (blk_below (g:=gb441) (o := .cells #[.int .i64 a1_0,.int .i64 a1_1] 48 (0,0)) (zzi BK441) hb);have n4_:=zM (zQ zzh hb);have n5_:=zM (hbox);have n6_:=zM ((by rw [hg];exact (zR zzh):w.heap.size ≤ gb449));have n7_:=zM ((by rw [hg];exact (zR zzh):w.heap.size ≤ gb449));have n8_:=zM ((by rw [hg];exact Nat.ne_of_lt (blk_lt (g:=gb440) (o := .cells #[.int .i64 a0_0,.int .i64 a0_1,.slice A0_2 l0_2.length c0_2] 29 (0,0)) (zzi BK440)):gb440 ≠ gb449));have n9_:=zM ((by rw [hg];exact Nat.ne_of_gt (blk_lt (g:=gb440) (o := .cells #[.int .i64 a0_0,.int .i64 a0_1,.slice A0_2 l0_2.length c0_2] 29 (0,0)) (zzi BK440)):gb449 ≠ gb440));have n10_:=zM ((by rw [hg];exact Nat.ne_of_lt (blk_lt (g:=gb441) (o := .cells #[.int .i64 a1_0,.int .i64 a1_1] 48 (0,0)) (zzi BK441)):gb441 ≠ gb449));have n11_:=zM ((by rw [hg];exact Nat.ne_of_gt (blk_lt (g:=gb441) (o := .cells #[.int .i64 a1_0,.int .i64 a1_1] 48 (0,0)) (zzi BK441)):gb449 ≠ gb441));clear HO_5;clear HO_15;clear BK440;clear BK441;clear HB;have HO_5:=n0_;have HO_15:=n1_;have BK440:=n2_;have BK441:=n3_;have HB:=n4_;have BK449:=n5_;have GW449:=n6_;have GE449:=n7_;have NB440_449:=n8_;have NB449_440:=n9_;have NB441_449:=n10_;have NB449_441:=n11_;clear n0_ n1_ n2_ n3_ n4_ n5_ n6_ n7_ n8_ n9_ n10_ n11_;clear hb hbox hg;have hnb32:=NB449_440.out;have hnc32:=NB440_449.out;have hnb33:=NB449_441.out;have hnc33:=NB441_449.out;have hcz34_0:=zz0 BK449;have hcz34_1:=zz1 BK449;have hfz34_0:=blk_frozen BK449.out 0;have hfz34_1:=blk_frozen BK449.out 1;have hnb35:=NB441_440.out;have hnc35:=NB440_441.out;have hcz36_0:=zz0 BK441;have hcz36_1:=zz1 BK441;have hfz36_0:=blk_frozen BK441.out 0;have hfz36_1:=blk_frozen BK441.out 1)|((with_reducible refine gate_dst (N:=8) rfl ?_);refine zzc 8 #[.int .i64 0,.int .i64 0] 48 ?_;intro gb450 hg w37 hbox hb;have n0_:=zM (zP (Kd.R_elderB (by (with_reducible repeat (first|apply zA|apply zB|apply zC));exact (Kd.R_mono (Kd.R_far (p:=⟨gb449,1,none⟩) (Kd.R_far (p:=⟨gb449,0,none⟩) (Kd.R_mono HO_5.out (fun k_ hk=>(⟨hk,hk.2⟩ : _ ∧ k_ ≠ gb449))) (fun _ hk=>hk.2) (.int .i64 ((rd_T48 y445 x17_1).f0))) (fun _ hk=>hk.2) (.int .i64 ((rd_T48 y445 x17_1).f1))) (fun _ h_=>h_.1))) gb450 (Nat.le_of_eq hg.symm)) hb);have n1_:=zM (zP (Kd.R_elderB (by (with_reducible repeat (first|apply zA|apply zB|apply zC));exact (Kd.R_mono (Kd.R_far (p:=⟨gb449,1,none⟩) (Kd.R_far (p:=⟨gb449,0,none⟩) (Kd.R_mono HO_15.out (fun k_ hk=>(⟨hk,hk.2⟩ : _ ∧ k_ ≠ gb449))) (fun _ hk=>hk.2) (.int .i64 ((rd_T48 y445 x17_1).f0))) (fun _ hk=>hk.2) (.int .i64 ((rd_T48 y445 x17_1).f1))) (fun _ h_=>h_.1))) gb450 (Nat.le_of_eq hg.symm)) hb);have n2_:=zM (blk_below (g:=gb440) (o := .cells #[.int .i64 a0_0,.int .i64 a0_1,.slice A0_2 l0_2.length c0_2] 29 (0,0)) (by (with_reducible repeat (first|refine zJ ?_ _|refine zK ?_|refine zL ?_ _));refine blk_far ?_ NB440_449.out _;(with_reducible repeat (first|refine zJ ?_ _|refine zK ?_|refine zL ?_ _));refine blk_far ?_ NB440_449.out _;(with_reducible repeat (first|refine zJ ?_ _|refine zK ?_|refine zL ?_ _));exact BK440.out) hb);have n3_:=zM (blk_below (g:=gb441) (o := .cells #[.int .i64 a1_0,.int .i64 a1_1] 48 (0,0)) (by (with_reducible repeat (first|refine zJ ?_ _|refine zK ?_|refine zL ?_ _));refine blk_far ?_ NB441_449.out _;(with_reducible repeat (first|refine zJ ?_ _|refine zK ?_|refine zL ?_ _));refine blk_far ?_ NB441_449.out _;(with_reducible repeat (first|refine zJ ?_ _|refine zK ?_|refine zL ?_ _));exact BK441.out) hb);have n4_:=zM (blk_below (g:=gb449) (o := .cells #[.int .i64 ((rd_T48 y445 x17_1).f0),.int .i64 ((rd_T48 y445 x17_1).f1)] 48 (0,0)) (by (with_reducible repeat (first|refine zJ ?_ _|refine zK ?_|refine zL ?_ _));refine blk_put (cs := #[.int .i64 ((rd_T48 y445 x17_1).f0),.int .i64 0]) ?_ 1 _ rfl;(with_reducible repeat (first|refine zJ ?_ _|refine zK ?_|refine zL ?_ _));refine blk_put (cs := #[.int .i64 0,.int .i64 0]) ?_ 0 _ rfl;(with_reducible repeat (first|refine zJ ?_ _|refine zK ?_|refine zL ?_ _));exact BK449.out) hb);have n5_:=zM (zQ zzh hb);have n6_:=zM (hbox);have n7_:=zM ((by rw [hg];exact (zR zzh):w.heap.size ≤ gb450));have n8_:=zM ((by rw [hg];exact (zR zzh):w.heap.size ≤ gb450));have n9_:=zM ((by rw [hg];exact Nat.ne_of_lt (blk_lt (g:=gb440) (o := .cells #[.int .i64 a0_0,.int .i64 a0_1,.slice A0_2 l0_2.length c0_2] 29 (0,0)) (by (with_reducible repeat (first|refine zJ ?_ _|refine zK ?_|refine zL ?_ _));refine blk_far ?_ NB440_449.out _;(with_reducible repeat (first|refine zJ ?_ _|refine zK ?_|refine zL ?_ _));refine blk_far ?_ NB440_449.out _;(with_reducible repeat (first|refine zJ ?_ _|refine zK ?_|refine zL ?_ _));exact BK440.out)):gb440 ≠ gb450));have n10_:=zM ((by rw [hg];exact Nat.ne_of_gt (blk_lt (g:=gb440) (o := .cells #[.int .i64 a0_0,.int .i64 a0_1,.slice A0_2 l0_2.length c0_2] 29 (0,0)) (by (with_reducible repeat (first|refine zJ ?_ _|refine zK ?_|refine zL ?_ _));refine blk_far ?_ NB440_449.out _;(with_reducible repeat (first|refine zJ ?_ _|refine zK ?_|refine zL ?_ _));refine blk_far ?_ NB440_449.out _;(with_reducible repeat (first|refine zJ ?_ _|refine zK ?_|refine zL ?_ _));exact BK440.out)):gb450 ≠ gb440));have n11_:=zM ((by rw [hg];exact Nat.ne_of_lt (blk_lt (g:=gb441) (o := .cells #[.int .i64 a1_0,.int .i64 a1_1] 48 (0,0)) (by (with_reducible repeat (first|refine zJ ?_ _|refine zK ?_|refine zL ?_ _));refine blk_far ?_ NB441_449.out _;(with_reducible repeat (first|refine zJ ?_ _|refine zK ?_|refine zL ?_ _));refine blk_far ?_ NB441_449.out _;(with_reducible repeat (first|refine zJ ?_ _|refine zK ?_|refine zL ?_ _));exact BK441.out)):gb441 ≠ gb450));have n12_:=zM ((by rw [hg];exact Nat.ne_of_gt (blk_lt (g:=gb441) (o := .cells #[.int .i64 a1_0,.int .i64 a1_1] 48 (0,0)) (by (with_reducible repeat (first|refine zJ ?_ _|refine zK ?_|refine zL ?_ _));refine blk_far ?_ NB441_449.out _;(with_reducible repeat (first|refine zJ ?_ _|refine zK ?_|refine zL ?_ _));refine blk_far ?_ NB441_449.out _;(with_reducible repeat (first|refine zJ ?_ _|refine zK ?_|refine zL ?_ _));exact BK441.out)):gb450 ≠ gb441));have n13_:=zM ((by rw [hg];exact Nat.ne_of_lt (blk_lt (g:=gb449) (o := .cells #[.int .i64 ((rd_T48 y445 x17_1).f0),.int .i64 ((rd_T48 y445 x17_1).f1)] 48 (0,0)) (by (with_reducible repeat (first|refine zJ ?_ _|refine zK ?_|refine zL ?_ _));refine blk_put (cs := #[.int .i64 ((rd_T48 y445 x17_1).f0),.int .i64 0]) ?_ 1 _ rfl;(with_reducible repeat (first|refine zJ ?_ _|refine zK ?_|refine zL ?_ _));refine blk_put (cs := #[.int .i64 0,.int .i64 0]) ?_ 0 _ rfl;(with_reducible repeat (first|refine zJ ?_ _|refine zK ?_|refine zL ?_ _));exact BK449.out)):gb449 ≠ gb450));have n14_:=zM ((by rw [hg];exact Nat.ne_of_gt (blk_lt (g:=gb449) (o := .cells #[.int .i64 ((rd_T48 y445 x17_1).f0),.int .i64 ((rd_T48 y445 x17_1).f1)] 48 (0,0)) (by (with_reducible repeat (first|refine zJ ?_ _|refine zK ?_|refine zL ?_ _));refine blk_put (cs := #[.int .i64 ((rd_T48 y445 x17_1).f0),.int .i64 0]) ?_ 1 _ rfl;(with_reducible repeat (first|refine zJ ?_ _|refine zK ?_|refine zL ?_ _));refine blk_put (cs := #[.int .i64 0,.int .i64 0]) ?_ 0 _ rfl;(with_reducible repeat (first|refine zJ ?_ _|refine zK ?_|refine zL ?_ _));exact BK449.out)):gb450 ≠ gb449));clear HO_5;clear HO_15;clear BK440;clear BK441;clear BK449;clear HB;have HO_5:=n0_;have HO_15:=n1_;have BK440:=n2_;have BK441:=n3_;have BK449:=n4_;have HB:=n5_;have BK450:=n6_;have GW450:=n7_;have GE450:=n8_;have NB440_450:=n9_;have NB450_440:=n10_;have NB441_450:=n11_;have NB450_441:=n12_;have NB449_450:=n13_;have NB450_449:=n14_;clear n0_ n1_ n2_ n3_ n4_ n5_ n6_ n7_ n8_ n9_ n10_ n11_ n12_ n13_ n14_;clear hb hbox hg;have hnb38:=NB450_440.out;have hnc38:=NB440_450.out;have hnb39:=NB450_441.out;have hnc39:=NB441_450.out;have hnb40:=NB450_449.out;have hnc40:=NB449_450.out;have hcz41_0:=zz0 BK450;have hcz41_1:=zz1 BK450;have hfz41_0:=blk_frozen BK450.out 0;have hfz41_1:=blk_frozen BK450.out 1;have hcz42_0:=zz0 BK440;have hcz42_1:=zz1 BK440;have hcz42_2:=zz2 BK440;have hfz42_0:=blk_frozen BK440.out 0;have hfz42_1:=blk_frozen BK440.out 1;have hfz42_2:=blk_frozen BK440.out 2)|((with_reducible refine gate_callee (f:=58) rfl ?_);refine goesL_ (some 34) rfl rfl Try.func58 (by kernel_rfl) rfl #[.agg #[.int .i64 a0_0,.int .i64 a0_1,.slice A0_2 l0_2.length c0_2],.agg #[.int .i64 (wrap64 (a1_0 + ((rd_T48 y445 x17_1).f0))),.int .i64 (wrap64 (a1_1 + ((rd_T48 y445 x17_1).f1)))]] rfl (by (try simp only [List.map_toArray,List.map_cons,List.map_nil]);first|done|rfl|(simp only [List.length_drop,List.length_take];rfl)) ?_;(with_reducible refine (impl_isFree.calls k1 a0_0 a0_1 _ _ l0_2 (wrap64 (a1_0 + ((rd_T48 y445 x17_1).f0))) (wrap64 (a1_1 + ((rd_T48 y445 x17_1).f1))) false _ ?side1 ?side2 A13.out).mono ?_);(case side1=>exact zO HR0_2.out zzh);(case side2=>exact HC0_2.out);rintro e w43 ⟨rfl,hb⟩;refine ⟨_,rfl,?_⟩;have n0_:=zM (zP (by (with_reducible repeat (first|apply zA|apply zB|apply zC));exact (Kd.R_mono (Kd.R_far (p:=⟨gb450,1,none⟩) (Kd.R_far (p:=⟨gb450,0,none⟩) (Kd.R_mono HO_5.out (fun k_ hk=>(⟨hk,hk.2⟩ : _ ∧ k_ ≠ gb450))) (fun _ hk=>hk.2) (.int .i64 (wrap64 (a1_0 + ((rd_T48 y445 x17_1).f0))))) (fun _ hk=>hk.2) (.int .i64 (wrap64 (a1_1 + ((rd_T48 y445 x17_1).f1))))) (fun _ h_=>h_.1))) hb);have n1_:=zM (zP (by (with_reducible repeat (first|apply zA|apply zB|apply zC));exact (Kd.R_mono (Kd.R_far (p:=⟨gb450,1,none⟩) (Kd.R_far (p:=⟨gb450,0,none⟩) (Kd.R_mono HO_15.out (fun k_ hk=>(⟨hk,hk.2⟩ : _ ∧ k_ ≠ gb450))) (fun _ hk=>hk.2) (.int .i64 (wrap64 (a1_0 + ((rd_T48 y445 x17_1).f0))))) (fun _ hk=>hk.2) (.int .i64 (wrap64 (a1_1 + ((rd_T48 y445 x17_1).f1))))) (fun _ h_=>h_.1))) hb);have n2_:=zM (blk_below (g:=gb440) (o := .cells #[.int .i64 a0_0,.int .i64 a0_1,.slice A0_2 l0_2.length c0_2] 29 (0,0)) (by (with_reducible repeat (first|refine zJ ?_ _|refine zK ?_|refine zL ?_ _));refine blk_far ?_ NB440_450.out _;(with_reducible repeat (first|refine zJ ?_ _|refine zK ?_|refine zL ?_ _));refine blk_far ?_ NB440_450.out _;(with_reducible repeat (first|refine zJ ?_ _|refine zK ?_|refine zL ?_ _));exact BK440.out) hb);have n3_:=zM (blk_below (g:=gb441) (o := .cells #[.int .i64 a1_0,.int .i64 a1_1] 48 (0,0)) (by (with_reducible repeat (first|refine zJ ?_ _|refine zK ?_|refine zL ?_ _));refine blk_far ?_ NB441_450.out _;(with_reducible repeat (first|refine zJ ?_ _|refine zK ?_|refine zL ?_ _));refine blk_far ?_ NB441_450.out _;(with_reducible repeat (first|refine zJ ?_ _|refine zK ?_|refine zL ?_ _));exact BK441.out) hb);have n4_:=zM (blk_below (g:=gb449) (o := .cells #[.int .i64 ((rd_T48 y445 x17_1).f0),.int .i64 ((rd_T48 y445 x17_1).f1)] 48 (0,0)) (by (with_reducible repeat (first|refine zJ ?_ _|refine zK ?_|refine zL ?_ _));refine blk_far ?_ NB449_450.out _;(with_reducible repeat (first|refine zJ ?_ _|refine zK ?_|refine zL ?_ _));refine blk_far ?_ NB449_450.out _;(with_reducible repeat (first|refine zJ ?_ _|refine zK ?_|refine zL ?_ _));exact BK449.out) hb);have n5_:=zM (blk_below (g:=gb450) (o := .cells #[.int .i64 (wrap64 (a1_0 + ((rd_T48 y445 x17_1).f0))),.int .i64 (wrap64 (a1_1 + ((rd_T48 y445 x17_1).f1)))] 48 (0,0)) (by (with_reducible repeat (first|refine zJ ?_ _|refine zK ?_|refine zL ?_ _));refine blk_put (cs := #[.int .i64 (wrap64 (a1_0 + ((rd_T48 y445 x17_1).f0))),.int .i64 0]) ?_ 1 _ rfl;(with_reducible repeat (first|refine zJ ?_ _|refine zK ?_|refine zL ?_ _));refine blk_put (cs := #[.int .i64 0,.int .i64 0]) ?_ 0 _ rfl;(with_reducible repeat (first|refine zJ ?_ _|refine zK ?_|refine zL ?_ _));exact BK450.out) hb);have n6_:=zM (zQ zzh hb);clear HO_5;clear HO_15;clear BK440;clear BK441;clear BK449;clear BK450;clear HB;have HO_5:=n0_;have HO_15:=n1_;have BK440:=n2_;have BK441:=n3_;have BK449:=n4_;have BK450:=n5_;have HB:=n6_;clear n0_ n1_ n2_ n3_ n4_ n5_ n6_;(try clear hb);(try clear hb2);(try clear hk);(try clear hi)))
       go_roundg k1
       case measure=>have:=HK1.out;omega
       case rel=>exact ⟨(x5_1),(wrap64 (x17_1 + 1)),(by first|rfl|(simp;done)|(simp [*];done)),H',⟨by have:=HK1.out;omega⟩,⟨by (with_reducible repeat (first|apply zA|apply zB|apply zC));exact Kd.R_mono HO_5.out (fun _ hk=>⟨hk.1.1.1,hk.1.1.2⟩)⟩,⟨by (with_reducible repeat (first|apply zA|apply zB|apply zC));exact Kd.R_mono HO_15.out (fun _ hk=>⟨hk.1.1.1,hk.1.1.2⟩)⟩,⟨zzi BK440⟩,⟨zzi BK441⟩,⟨zzh⟩⟩
     ·rw [if_neg c12] at H
      exact absurd H (by simp)
    ·rw [if_neg c11] at H
     exact absurd H (by simp)
   ·rw [if_neg c10] at H
    have c10b0:decide (x17_1 < (y445.length:Int)) = false:=decide_eq_false c10
    clear c10;obtain rfl:=Option.some.inj H;go_wp2
    go_ret
    exact ⟨_,by first|rfl|(simp [errW_none,errW_some] <;> rfl)|(simp [*,errW_none,errW_some] <;> rfl),by (with_reducible repeat (first|apply zA|apply zB|apply zC));exact Kd.R_mono HO_5.out (fun _ hk=>trivial),zzh⟩

end Go.Proofs.Ytbpccdbkaiigcaa.G

/- The walk of impl.stepsFrom: what it hands back is the map that the search by breadth makes. -/
namespace Go.Proofs.Ytbpccdbkaiigcaa.G
open Go.RowKit Go.Proofs.YtbpccdbkaiigcaaW.PrintWords Go.Proofs.YtbpccdbkaiigcaaW.PrintLast Go.Proofs.YtbpccdbkaiigcaaW.PrintMore
set_option linter.unusedVariables false
set_option linter.unusedSimpArgs false
/-- What is known of the floor's neighbours among the cells G. -/
structure Nbs (a0_0 a0_1 : Int) (l0_2 : List S48) (G : S48 → Prop) (nb : S48 → List S48) : Prop where
 wf : ∀ d,G d → W64 d
 len : ∀ d,G d → (nb d).length ≤ 5
 cl : ∀ d,G d → ∀ e ∈ nb d,G e
 run : ∀ d,G d → ∃ k,impl_around.f k a0_0 a0_1 l0_2 d.f0 d.f1 = some (nb d)
theorem wf_small {x : Int} (h0 : -1 ≤ x) (h1 : x ≤ 2000) : (Lit.int .i64 x).wf = true:=wf_iff.2 ⟨by omega,by omega⟩
end Go.Proofs.Ytbpccdbkaiigcaa.G

/- The table of the numbers of steps: as a list of rows, and what the walks hold of the world while it is built. -/
namespace Go.Proofs.Ytbpccdbkaiigcaa.G
open Go.RowKit Go.Proofs.YtbpccdbkaiigcaaW.PrintWords Go.Proofs.YtbpccdbkaiigcaaW.PrintLast Go.Proofs.YtbpccdbkaiigcaaW.PrintMore
set_option linter.unusedVariables false
set_option linter.unusedSimpArgs false
def rowOf (f : S48 → Int) (y : Int) : Nat → List Int
 | 0=>[]
 | x + 1=>rowOf f y x ++ [f ⟨x,y⟩]
def tabOf (f : S48 → Int) (wd : Nat) : Nat → List (List Int)
 | 0=>[]
 | y + 1=>tabOf f wd y ++ [rowOf f y wd]
abbrev SS:=Kd.slice 3 (Kd.int .i64)
/-- Rows behind one another, and the row that is built. -/
structure TB (w0 w : World) (ok : Nat → Prop) (v7 : Value) (rows : List (List Int)) (v9 : Value) (row : List Int) : Prop where
 out : Kd.S SS 72 w w0.heap.size (fun k=>ok k ∧ some k ≠ v9.ownBlock) v7 rows
 row : Kd.R (Kd.int .i64) 3 w w0.heap.size ok v9 row
 bl : Below w0.heap.size w0 w
section
variable {w0 w w1 : World} {ok : Nat → Prop} {v7 v9 v1 : Value} {rows : List (List Int)} {row row' : List Int}
theorem TB.below (h : TB w0 w ok v7 rows v9 row) (hb : Below w.heap.size w w1) : TB w0 w1 ok v7 rows v9 row:=⟨Kd.S_below h.out hb,Kd.R_below h.row hb,below_step h.bl hb⟩
end
end Go.Proofs.Ytbpccdbkaiigcaa.G

/- The table of the numbers of steps: read at a cell, written at a cell; what the reference's walk holds of the world. -/
namespace Go.Proofs.Ytbpccdbkaiigcaa.G
open Go.RowKit Go.Proofs.YtbpccdbkaiigcaaW.PrintWords Go.Proofs.YtbpccdbkaiigcaaW.PrintLast Go.Proofs.YtbpccdbkaiigcaaW.PrintMore
set_option linter.unusedVariables false
set_option linter.unusedSimpArgs false
structure SQ (w0 w : World) (fc : Array Value) (g2 : Nat) (v6 : Value) (T : List (List Int)) (v10 : Value) (l : List S48) (vn : Value) (ds : List S48) : Prop where
 fl : w.heap[g2]? = some (.cells fc 29 (0,0))
 tb : Kd.S SS 72 w w0.heap.size (fun _=>True) v6 T
 qu : Kd.R k48 48 w w0.heap.size (fun _=>True) v10 l
 nx : Kd.R k48 48 w w0.heap.size (fun k=>True ∧ some k ≠ v10.ownBlock) vn ds
 bl : Below w0.heap.size w0 w
section
variable {w0 w w1 : World} {fc : Array Value} {g2 : Nat} {v6 v10 v11 vn vn' : Value} {T T' : List (List Int)} {l l' ds ds' : List S48}
theorem SQ.below (h : SQ w0 w fc g2 v6 T v10 l vn ds) (hb : Below w.heap.size w w1) : SQ w0 w1 fc g2 v6 T v10 l vn ds:=⟨blk_below h.fl hb,Kd.S_below h.tb hb,Kd.R_below h.qu hb,Kd.R_below h.nx hb,below_step h.bl hb⟩
theorem SQ.app (h : SQ w0 w fc g2 v6 T v10 l vn ds) (hq : Kd.R k48 48 w1 w0.heap.size (fun _=>True) v11 l') (hb : Below w0.heap.size w0 w1) (hg : w.grownBy w1 v10.ownBlock) (hat : v11.ownBlock = v10.ownBlock ∨ ∃ b,v11.ownBlock = some b ∧ w.heap.size ≤ b) : SQ w0 w1 fc g2 v6 T v11 l' vn ds :=
 ⟨(hg.block g2 (blk_lt h.fl) (Kd.R_ne h.qu h.fl (by decide))).trans h.fl,Kd.S_over' h.tb (fun k hk=>Kd.R_typed h.qu k hk) (by decide) hg,hq,Kd.R_after h.nx hg hat,hb⟩
theorem SQ.near (h : SQ w0 w fc g2 v6 T v10 l vn ds) (hb : Below w.heap.size w w1) (hr : Kd.R k48 48 w1 w.heap.size (fun _=>True) vn' ds') : SQ w0 w1 fc g2 v6 T v10 l vn' ds' :=
 have h':=h.below hb
 ⟨h'.fl,h'.tb,h'.qu,Kd.R_lower (Kd.R_mono (Kd.R_bound hr) (fun k hk=>⟨trivial,fun e=>by have:=Kd.R_lt h.qu k e.symm;have:=hk.2.1;omega⟩)) h.bl.size,h'.bl⟩
end
end Go.Proofs.Ytbpccdbkaiigcaa.G

-- Written by wip/tools/gen.py out of the translation (the kit's printer, one namespace a seat). Lean checks it.
namespace Go.Proofs.Ytbpccdbkaiigcaa.G
open Go.RowKit Go.Proofs.YtbpccdbkaiigcaaW.PrintWords Go.Proofs.YtbpccdbkaiigcaaW.PrintLast Go.Proofs.YtbpccdbkaiigcaaW.PrintMore
attribute [local go_sem] max2_int min2_int max_two min_two max_three min_three max_four min_four   -- for this text's walks alone
set_option linter.unusedVariables false
set_option linter.unusedSimpArgs false

/-! ### spec_l16Asked: function 63 -/
def spec_l16Asked.f (k:Nat) (a0_0:Int) (a0_1:Int) (l0_2:List (S48)) (a1_0:Int) (a1_1:Int) (a2_0:Int) (a2_1:Int):Option (Bool):=(spec_l16Good.f k a0_0 a0_1 l0_2).bind fun t380=>(if t380 = true then ((spec_l16Free.f k a0_0 a0_1 l0_2 a1_0 a1_1).bind fun t381=>(if t381 = true then ((spec_l16Free.f k a0_0 a0_1 l0_2 a2_0 a2_1).bind fun t382=>(some t382)) else (some false))) else (some false))
set_option maxHeartbeats 8000000 in
set_option maxRecDepth 100000 in
theorem spec_l16Asked.calls (k:Nat) (a0_0:Int) (a0_1:Int) (A0_2:Option Addr) (c0_2:Nat) (l0_2:List (S48)) (a1_0:Int) (a1_1:Int) (a2_0:Int) (a2_1:Int) (r:Bool) (w:World) (hr0_2:Kd.C k48 w A0_2 l0_2.length l0_2) (hc0_2:l0_2.length ≤ c0_2) (h:spec_l16Asked.f k a0_0 a0_1 l0_2 a1_0 a1_1 a2_0 a2_1 = some r) :
  Calls Try.prog 63 #[.agg #[.int .i64 a0_0,.int .i64 a0_1,.slice A0_2 l0_2.length c0_2],.agg #[.int .i64 a1_0,.int .i64 a1_1],.agg #[.int .i64 a2_0,.int .i64 a2_1]] w fun e w'=>e = .returned (.bool r) ∧ Below w.heap.size w w':=by
 have hu29:=Try.underlying29;have hu48:=Try.underlying48;have HR0_2:=zM hr0_2;have HC0_2:=zM hc0_2;clear hr0_2 hc0_2;have HB:=zM (Below.refl w.heap.size w);have H:((spec_l16Good.f k a0_0 a0_1 l0_2).bind fun t380=>(if t380 = true then ((spec_l16Free.f k a0_0 a0_1 l0_2 a1_0 a1_1).bind fun t381=>(if t381 = true then ((spec_l16Free.f k a0_0 a0_1 l0_2 a2_0 a2_1).bind fun t382=>(some t382)) else (some false))) else (some false))) = some r:=h
 clear h;replace H:=Option.bind_eq_some_iff.mp H;obtain ⟨t380,A40,H⟩:=H;replace H:(if t380 = true then ((spec_l16Free.f k a0_0 a0_1 l0_2 a1_0 a1_1).bind fun t381=>(if t381 = true then ((spec_l16Free.f k a0_0 a0_1 l0_2 a2_0 a2_1).bind fun t382=>(some t382)) else (some false))) else (some false)) = some r:=H
 have A4:=zM A40;clear A40;by_cases c5:t380 = true
 ·subst c5
  have H1:((spec_l16Free.f k a0_0 a0_1 l0_2 a1_0 a1_1).bind fun t381=>(if t381 = true then ((spec_l16Free.f k a0_0 a0_1 l0_2 a2_0 a2_1).bind fun t382=>(some t382)) else (some false))) = some r:=by rw [if_pos rfl] at H;exact H
  clear H;have H:=H1;clear H1;replace H:=Option.bind_eq_some_iff.mp H;obtain ⟨t381,A60,H⟩:=H;replace H:(if t381 = true then ((spec_l16Free.f k a0_0 a0_1 l0_2 a2_0 a2_1).bind fun t382=>(some t382)) else (some false)) = some r:=H
  have A6:=zM A60;clear A60;by_cases c7:t381 = true
  ·subst c7
   have H1:((spec_l16Free.f k a0_0 a0_1 l0_2 a2_0 a2_1).bind fun t382=>(some t382)) = some r:=by rw [if_pos rfl] at H;exact H
   clear H;have H:=H1;clear H1;replace H:=Option.bind_eq_some_iff.mp H;obtain ⟨t382,A80,H⟩:=H;replace H:(some t382) = some r:=H
   have A8:=zM A80;clear A80;obtain rfl:=Option.some.inj H;go_enter Try.func63,Try.ntmps63
   go_wp2_with (first|((with_reducible refine gate_dst (N:=3) rfl ?_);refine zzc 3 #[.int .i64 a0_0,.int .i64 a0_1,.slice A0_2 l0_2.length c0_2] 29 ?_;intro gb377 hg w9 hbox hb;have n0_:=zM (zQ zzh hb);have n1_:=zM (hbox);have n2_:=zM ((by rw [hg];exact (zR zzh):w.heap.size ≤ gb377));have n3_:=zM ((by rw [hg];exact (zR zzh):w.heap.size ≤ gb377));clear HB;have HB:=n0_;have BK377:=n1_;have GW377:=n2_;have GE377:=n3_;clear n0_ n1_ n2_ n3_;clear hb hbox hg)|((with_reducible refine gate_dst (N:=4) rfl ?_);refine zzc 4 #[.int .i64 a1_0,.int .i64 a1_1] 48 ?_;intro gb378 hg w10 hbox hb;have n0_:=zM (blk_below (g:=gb377) (o := .cells #[.int .i64 a0_0,.int .i64 a0_1,.slice A0_2 l0_2.length c0_2] 29 (0,0)) (zzi BK377) hb);have n1_:=zM (zQ zzh hb);have n2_:=zM (hbox);have n3_:=zM ((by rw [hg];exact (zR zzh):w.heap.size ≤ gb378));have n4_:=zM ((by rw [hg];exact (zR zzh):w.heap.size ≤ gb378));have n5_:=zM ((by rw [hg];exact Nat.ne_of_lt (blk_lt (g:=gb377) (o := .cells #[.int .i64 a0_0,.int .i64 a0_1,.slice A0_2 l0_2.length c0_2] 29 (0,0)) (zzi BK377)):gb377 ≠ gb378));have n6_:=zM ((by rw [hg];exact Nat.ne_of_gt (blk_lt (g:=gb377) (o := .cells #[.int .i64 a0_0,.int .i64 a0_1,.slice A0_2 l0_2.length c0_2] 29 (0,0)) (zzi BK377)):gb378 ≠ gb377));clear BK377;clear HB;have BK377:=n0_;have HB:=n1_;have BK378:=n2_;have GW378:=n3_;have GE378:=n4_;have NB377_378:=n5_;have NB378_377:=n6_;clear n0_ n1_ n2_ n3_ n4_ n5_ n6_;clear hb hbox hg)|((with_reducible refine gate_dst (N:=5) rfl ?_);refine zzc 5 #[.int .i64 a2_0,.int .i64 a2_1] 48 ?_;intro gb379 hg w11 hbox hb;have n0_:=zM (blk_below (g:=gb377) (o := .cells #[.int .i64 a0_0,.int .i64 a0_1,.slice A0_2 l0_2.length c0_2] 29 (0,0)) (zzi BK377) hb);have n1_:=zM (blk_below (g:=gb378) (o := .cells #[.int .i64 a1_0,.int .i64 a1_1] 48 (0,0)) (zzi BK378) hb);have n2_:=zM (zQ zzh hb);have n3_:=zM (hbox);have n4_:=zM ((by rw [hg];exact (zR zzh):w.heap.size ≤ gb379));have n5_:=zM ((by rw [hg];exact (zR zzh):w.heap.size ≤ gb379));have n6_:=zM ((by rw [hg];exact Nat.ne_of_lt (blk_lt (g:=gb377) (o := .cells #[.int .i64 a0_0,.int .i64 a0_1,.slice A0_2 l0_2.length c0_2] 29 (0,0)) (zzi BK377)):gb377 ≠ gb379));have n7_:=zM ((by rw [hg];exact Nat.ne_of_gt (blk_lt (g:=gb377) (o := .cells #[.int .i64 a0_0,.int .i64 a0_1,.slice A0_2 l0_2.length c0_2] 29 (0,0)) (zzi BK377)):gb379 ≠ gb377));have n8_:=zM ((by rw [hg];exact Nat.ne_of_lt (blk_lt (g:=gb378) (o := .cells #[.int .i64 a1_0,.int .i64 a1_1] 48 (0,0)) (zzi BK378)):gb378 ≠ gb379));have n9_:=zM ((by rw [hg];exact Nat.ne_of_gt (blk_lt (g:=gb378) (o := .cells #[.int .i64 a1_0,.int .i64 a1_1] 48 (0,0)) (zzi BK378)):gb379 ≠ gb378));clear BK377;clear BK378;clear HB;have BK377:=n0_;have BK378:=n1_;have HB:=n2_;have BK379:=n3_;have GW379:=n4_;have GE379:=n5_;have NB377_379:=n6_;have NB379_377:=n7_;have NB378_379:=n8_;have NB379_378:=n9_;clear n0_ n1_ n2_ n3_ n4_ n5_ n6_ n7_ n8_ n9_;clear hb hbox hg;have hnb12:=NB377_378.out;have hnc12:=NB378_377.out;have hnb13:=NB377_379.out;have hnc13:=NB379_377.out;have hcz14_0:=zz0 BK377;have hcz14_1:=zz1 BK377;have hcz14_2:=zz2 BK377;have hfz14_0:=blk_frozen BK377.out 0;have hfz14_1:=blk_frozen BK377.out 1;have hfz14_2:=blk_frozen BK377.out 2)|((with_reducible refine gate_callee (f:=53) rfl ?_);refine goesL_ (some 8) rfl rfl Try.func53 (by kernel_rfl) rfl #[.agg #[.int .i64 a0_0,.int .i64 a0_1,.slice A0_2 l0_2.length c0_2]] rfl (by (try simp only [List.map_toArray,List.map_cons,List.map_nil]);first|done|rfl|(simp only [List.length_drop,List.length_take];rfl)) ?_;(with_reducible refine (spec_l16Good.calls k a0_0 a0_1 _ _ l0_2 true _ ?side1 ?side2 A4.out).mono ?_);(case side1=>repeat (first|exact (zO HR0_2.out HB.out)|(with_reducible first|refine zG ?_ _|refine zH ?_ _|refine zI ?_)));(case side2=>exact HC0_2.out);rintro e w15 ⟨rfl,hb⟩;refine ⟨_,rfl,?_⟩;have n0_:=zM (blk_below (g:=gb377) (o := .cells #[.int .i64 a0_0,.int .i64 a0_1,.slice A0_2 l0_2.length c0_2] 29 (0,0)) (zzi BK377) hb);have n1_:=zM (blk_below (g:=gb378) (o := .cells #[.int .i64 a1_0,.int .i64 a1_1] 48 (0,0)) (zzi BK378) hb);have n2_:=zM (blk_below (g:=gb379) (o := .cells #[.int .i64 a2_0,.int .i64 a2_1] 48 (0,0)) (zzi BK379) hb);have n3_:=zM (zQ zzh hb);clear BK377;clear BK378;clear BK379;clear HB;have BK377:=n0_;have BK378:=n1_;have BK379:=n2_;have HB:=n3_;clear n0_ n1_ n2_ n3_;(try clear hb);(try clear hb2);(try clear hk);(try clear hi);have hcz16_0:=zz0 BK377;have hcz16_1:=zz1 BK377;have hcz16_2:=zz2 BK377;have hfz16_0:=blk_frozen BK377.out 0;have hfz16_1:=blk_frozen BK377.out 1;have hfz16_2:=blk_frozen BK377.out 2;have hnb17:=NB378_379.out;have hnc17:=NB379_378.out;have hcz18_0:=zz0 BK378;have hcz18_1:=zz1 BK378;have hfz18_0:=blk_frozen BK378.out 0;have hfz18_1:=blk_frozen BK378.out 1)|(go_at_call 82;(with_reducible refine (spec_l16Free.calls k a0_0 a0_1 _ _ l0_2 a1_0 a1_1 true _ ?side1 ?side2 A6.out).mono ?_);(case side1=>repeat (first|exact (zO HR0_2.out HB.out)|(with_reducible first|refine zG ?_ _|refine zH ?_ _|refine zI ?_)));(case side2=>exact HC0_2.out);rintro e w19 ⟨rfl,hb⟩;have n0_:=zM (blk_below (g:=gb377) (o := .cells #[.int .i64 a0_0,.int .i64 a0_1,.slice A0_2 l0_2.length c0_2] 29 (0,0)) (zzi BK377) hb);have n1_:=zM (blk_below (g:=gb378) (o := .cells #[.int .i64 a1_0,.int .i64 a1_1] 48 (0,0)) (zzi BK378) hb);have n2_:=zM (blk_below (g:=gb379) (o := .cells #[.int .i64 a2_0,.int .i64 a2_1] 48 (0,0)) (zzi BK379) hb);have n3_:=zM (zQ zzh hb);clear BK377;clear BK378;clear BK379;clear HB;have BK377:=n0_;have BK378:=n1_;have BK379:=n2_;have HB:=n3_;clear n0_ n1_ n2_ n3_;(try clear hb);(try clear hb2);(try clear hk);(try clear hi);have hcz20_0:=zz0 BK377;have hcz20_1:=zz1 BK377;have hcz20_2:=zz2 BK377;have hfz20_0:=blk_frozen BK377.out 0;have hfz20_1:=blk_frozen BK377.out 1;have hfz20_2:=blk_frozen BK377.out 2;have hcz21_0:=zz0 BK379;have hcz21_1:=zz1 BK379;have hfz21_0:=blk_frozen BK379.out 0;have hfz21_1:=blk_frozen BK379.out 1)|(go_at_call 82;(with_reducible refine (spec_l16Free.calls k a0_0 a0_1 _ _ l0_2 a2_0 a2_1 t382 _ ?side1 ?side2 A8.out).mono ?_);(case side1=>repeat (first|exact (zO HR0_2.out HB.out)|(with_reducible first|refine zG ?_ _|refine zH ?_ _|refine zI ?_)));(case side2=>exact HC0_2.out);rintro e w22 ⟨rfl,hb⟩;have n0_:=zM (blk_below (g:=gb377) (o := .cells #[.int .i64 a0_0,.int .i64 a0_1,.slice A0_2 l0_2.length c0_2] 29 (0,0)) (zzi BK377) hb);have n1_:=zM (blk_below (g:=gb378) (o := .cells #[.int .i64 a1_0,.int .i64 a1_1] 48 (0,0)) (zzi BK378) hb);have n2_:=zM (blk_below (g:=gb379) (o := .cells #[.int .i64 a2_0,.int .i64 a2_1] 48 (0,0)) (zzi BK379) hb);have n3_:=zM (zQ zzh hb);clear BK377;clear BK378;clear BK379;clear HB;have BK377:=n0_;have BK378:=n1_;have BK379:=n2_;have HB:=n3_;clear n0_ n1_ n2_ n3_;(try clear hb);(try clear hb2);(try clear hk);(try clear hi)))
   go_ret
   exact ⟨by first|rfl|(simp [errW_none,errW_some] <;> rfl)|(simp [*,errW_none,errW_some] <;> rfl),zzh⟩
  ·replace c7:=Bool.eq_false_iff.mpr c7
   subst c7;have H1:(some false) = some r:=by rw [if_neg (show ¬ (false = true) by decide)] at H;exact H
   clear H;have H:=H1;clear H1;obtain rfl:=Option.some.inj H;go_enter Try.func63,Try.ntmps63
   go_wp2_with (first|((with_reducible refine gate_dst (N:=3) rfl ?_);refine zzc 3 #[.int .i64 a0_0,.int .i64 a0_1,.slice A0_2 l0_2.length c0_2] 29 ?_;intro gb377 hg w23 hbox hb;have n0_:=zM (zQ zzh hb);have n1_:=zM (hbox);have n2_:=zM ((by rw [hg];exact (zR zzh):w.heap.size ≤ gb377));have n3_:=zM ((by rw [hg];exact (zR zzh):w.heap.size ≤ gb377));clear HB;have HB:=n0_;have BK377:=n1_;have GW377:=n2_;have GE377:=n3_;clear n0_ n1_ n2_ n3_;clear hb hbox hg)|((with_reducible refine gate_dst (N:=4) rfl ?_);refine zzc 4 #[.int .i64 a1_0,.int .i64 a1_1] 48 ?_;intro gb378 hg w24 hbox hb;have n0_:=zM (blk_below (g:=gb377) (o := .cells #[.int .i64 a0_0,.int .i64 a0_1,.slice A0_2 l0_2.length c0_2] 29 (0,0)) (zzi BK377) hb);have n1_:=zM (zQ zzh hb);have n2_:=zM (hbox);have n3_:=zM ((by rw [hg];exact (zR zzh):w.heap.size ≤ gb378));have n4_:=zM ((by rw [hg];exact (zR zzh):w.heap.size ≤ gb378));have n5_:=zM ((by rw [hg];exact Nat.ne_of_lt (blk_lt (g:=gb377) (o := .cells #[.int .i64 a0_0,.int .i64 a0_1,.slice A0_2 l0_2.length c0_2] 29 (0,0)) (zzi BK377)):gb377 ≠ gb378));have n6_:=zM ((by rw [hg];exact Nat.ne_of_gt (blk_lt (g:=gb377) (o := .cells #[.int .i64 a0_0,.int .i64 a0_1,.slice A0_2 l0_2.length c0_2] 29 (0,0)) (zzi BK377)):gb378 ≠ gb377));clear BK377;clear HB;have BK377:=n0_;have HB:=n1_;have BK378:=n2_;have GW378:=n3_;have GE378:=n4_;have NB377_378:=n5_;have NB378_377:=n6_;clear n0_ n1_ n2_ n3_ n4_ n5_ n6_;clear hb hbox hg)|((with_reducible refine gate_dst (N:=5) rfl ?_);refine zzc 5 #[.int .i64 a2_0,.int .i64 a2_1] 48 ?_;intro gb379 hg w25 hbox hb;have n0_:=zM (blk_below (g:=gb377) (o := .cells #[.int .i64 a0_0,.int .i64 a0_1,.slice A0_2 l0_2.length c0_2] 29 (0,0)) (zzi BK377) hb);have n1_:=zM (blk_below (g:=gb378) (o := .cells #[.int .i64 a1_0,.int .i64 a1_1] 48 (0,0)) (zzi BK378) hb);have n2_:=zM (zQ zzh hb);have n3_:=zM (hbox);have n4_:=zM ((by rw [hg];exact (zR zzh):w.heap.size ≤ gb379));have n5_:=zM ((by rw [hg];exact (zR zzh):w.heap.size ≤ gb379));have n6_:=zM ((by rw [hg];exact Nat.ne_of_lt (blk_lt (g:=gb377) (o := .cells #[.int .i64 a0_0,.int .i64 a0_1,.slice A0_2 l0_2.length c0_2] 29 (0,0)) (zzi BK377)):gb377 ≠ gb379));have n7_:=zM ((by rw [hg];exact Nat.ne_of_gt (blk_lt (g:=gb377) (o := .cells #[.int .i64 a0_0,.int .i64 a0_1,.slice A0_2 l0_2.length c0_2] 29 (0,0)) (zzi BK377)):gb379 ≠ gb377));have n8_:=zM ((by rw [hg];exact Nat.ne_of_lt (blk_lt (g:=gb378) (o := .cells #[.int .i64 a1_0,.int .i64 a1_1] 48 (0,0)) (zzi BK378)):gb378 ≠ gb379));have n9_:=zM ((by rw [hg];exact Nat.ne_of_gt (blk_lt (g:=gb378) (o := .cells #[.int .i64 a1_0,.int .i64 a1_1] 48 (0,0)) (zzi BK378)):gb379 ≠ gb378));clear BK377;clear BK378;clear HB;have BK377:=n0_;have BK378:=n1_;have HB:=n2_;have BK379:=n3_;have GW379:=n4_;have GE379:=n5_;have NB377_379:=n6_;have NB379_377:=n7_;have NB378_379:=n8_;have NB379_378:=n9_;clear n0_ n1_ n2_ n3_ n4_ n5_ n6_ n7_ n8_ n9_;clear hb hbox hg;have hnb26:=NB377_378.out;have hnc26:=NB378_377.out;have hnb27:=NB377_379.out;have hnc27:=NB379_377.out;have hcz28_0:=zz0 BK377;have hcz28_1:=zz1 BK377;have hcz28_2:=zz2 BK377;have hfz28_0:=blk_frozen BK377.out 0;have hfz28_1:=blk_frozen BK377.out 1;have hfz28_2:=blk_frozen BK377.out 2)|((with_reducible refine gate_callee (f:=53) rfl ?_);refine goesL_ (some 8) rfl rfl Try.func53 (by kernel_rfl) rfl #[.agg #[.int .i64 a0_0,.int .i64 a0_1,.slice A0_2 l0_2.length c0_2]] rfl (by (try simp only [List.map_toArray,List.map_cons,List.map_nil]);first|done|rfl|(simp only [List.length_drop,List.length_take];rfl)) ?_;(with_reducible refine (spec_l16Good.calls k a0_0 a0_1 _ _ l0_2 true _ ?side1 ?side2 A4.out).mono ?_);(case side1=>repeat (first|exact (zO HR0_2.out HB.out)|(with_reducible first|refine zG ?_ _|refine zH ?_ _|refine zI ?_)));(case side2=>exact HC0_2.out);rintro e w29 ⟨rfl,hb⟩;refine ⟨_,rfl,?_⟩;have n0_:=zM (blk_below (g:=gb377) (o := .cells #[.int .i64 a0_0,.int .i64 a0_1,.slice A0_2 l0_2.length c0_2] 29 (0,0)) (zzi BK377) hb);have n1_:=zM (blk_below (g:=gb378) (o := .cells #[.int .i64 a1_0,.int .i64 a1_1] 48 (0,0)) (zzi BK378) hb);have n2_:=zM (blk_below (g:=gb379) (o := .cells #[.int .i64 a2_0,.int .i64 a2_1] 48 (0,0)) (zzi BK379) hb);have n3_:=zM (zQ zzh hb);clear BK377;clear BK378;clear BK379;clear HB;have BK377:=n0_;have BK378:=n1_;have BK379:=n2_;have HB:=n3_;clear n0_ n1_ n2_ n3_;(try clear hb);(try clear hb2);(try clear hk);(try clear hi);have hcz30_0:=zz0 BK377;have hcz30_1:=zz1 BK377;have hcz30_2:=zz2 BK377;have hfz30_0:=blk_frozen BK377.out 0;have hfz30_1:=blk_frozen BK377.out 1;have hfz30_2:=blk_frozen BK377.out 2;have hnb31:=NB378_379.out;have hnc31:=NB379_378.out;have hcz32_0:=zz0 BK378;have hcz32_1:=zz1 BK378;have hfz32_0:=blk_frozen BK378.out 0;have hfz32_1:=blk_frozen BK378.out 1)|(go_at_call 82;(with_reducible refine (spec_l16Free.calls k a0_0 a0_1 _ _ l0_2 a1_0 a1_1 false _ ?side1 ?side2 A6.out).mono ?_);(case side1=>repeat (first|exact (zO HR0_2.out HB.out)|(with_reducible first|refine zG ?_ _|refine zH ?_ _|refine zI ?_)));(case side2=>exact HC0_2.out);rintro e w33 ⟨rfl,hb⟩;have n0_:=zM (blk_below (g:=gb377) (o := .cells #[.int .i64 a0_0,.int .i64 a0_1,.slice A0_2 l0_2.length c0_2] 29 (0,0)) (zzi BK377) hb);have n1_:=zM (blk_below (g:=gb378) (o := .cells #[.int .i64 a1_0,.int .i64 a1_1] 48 (0,0)) (zzi BK378) hb);have n2_:=zM (blk_below (g:=gb379) (o := .cells #[.int .i64 a2_0,.int .i64 a2_1] 48 (0,0)) (zzi BK379) hb);have n3_:=zM (zQ zzh hb);clear BK377;clear BK378;clear BK379;clear HB;have BK377:=n0_;have BK378:=n1_;have BK379:=n2_;have HB:=n3_;clear n0_ n1_ n2_ n3_;(try clear hb);(try clear hb2);(try clear hk);(try clear hi)))
   go_ret
   exact ⟨by first|rfl|(simp [errW_none,errW_some] <;> rfl)|(simp [*,errW_none,errW_some] <;> rfl),zzh⟩
 ·replace c5:=Bool.eq_false_iff.mpr c5
  subst c5;have H1:(some false) = some r:=by rw [if_neg (show ¬ (false = true) by decide)] at H;exact H
  clear H;have H:=H1;clear H1;obtain rfl:=Option.some.inj H;go_enter Try.func63,Try.ntmps63
  go_wp2_with (first|((with_reducible refine gate_dst (N:=3) rfl ?_);refine zzc 3 #[.int .i64 a0_0,.int .i64 a0_1,.slice A0_2 l0_2.length c0_2] 29 ?_;intro gb377 hg w34 hbox hb;have n0_:=zM (zQ zzh hb);have n1_:=zM (hbox);have n2_:=zM ((by rw [hg];exact (zR zzh):w.heap.size ≤ gb377));have n3_:=zM ((by rw [hg];exact (zR zzh):w.heap.size ≤ gb377));clear HB;have HB:=n0_;have BK377:=n1_;have GW377:=n2_;have GE377:=n3_;clear n0_ n1_ n2_ n3_;clear hb hbox hg)|((with_reducible refine gate_dst (N:=4) rfl ?_);refine zzc 4 #[.int .i64 a1_0,.int .i64 a1_1] 48 ?_;intro gb378 hg w35 hbox hb;have n0_:=zM (blk_below (g:=gb377) (o := .cells #[.int .i64 a0_0,.int .i64 a0_1,.slice A0_2 l0_2.length c0_2] 29 (0,0)) (zzi BK377) hb);have n1_:=zM (zQ zzh hb);have n2_:=zM (hbox);have n3_:=zM ((by rw [hg];exact (zR zzh):w.heap.size ≤ gb378));have n4_:=zM ((by rw [hg];exact (zR zzh):w.heap.size ≤ gb378));have n5_:=zM ((by rw [hg];exact Nat.ne_of_lt (blk_lt (g:=gb377) (o := .cells #[.int .i64 a0_0,.int .i64 a0_1,.slice A0_2 l0_2.length c0_2] 29 (0,0)) (zzi BK377)):gb377 ≠ gb378));have n6_:=zM ((by rw [hg];exact Nat.ne_of_gt (blk_lt (g:=gb377) (o := .cells #[.int .i64 a0_0,.int .i64 a0_1,.slice A0_2 l0_2.length c0_2] 29 (0,0)) (zzi BK377)):gb378 ≠ gb377));clear BK377;clear HB;have BK377:=n0_;have HB:=n1_;have BK378:=n2_;have GW378:=n3_;have GE378:=n4_;have NB377_378:=n5_;have NB378_377:=n6_;clear n0_ n1_ n2_ n3_ n4_ n5_ n6_;clear hb hbox hg)|((with_reducible refine gate_dst (N:=5) rfl ?_);refine zzc 5 #[.int .i64 a2_0,.int .i64 a2_1] 48 ?_;intro gb379 hg w36 hbox hb;have n0_:=zM (blk_below (g:=gb377) (o := .cells #[.int .i64 a0_0,.int .i64 a0_1,.slice A0_2 l0_2.length c0_2] 29 (0,0)) (zzi BK377) hb);have n1_:=zM (blk_below (g:=gb378) (o := .cells #[.int .i64 a1_0,.int .i64 a1_1] 48 (0,0)) (zzi BK378) hb);have n2_:=zM (zQ zzh hb);have n3_:=zM (hbox);have n4_:=zM ((by rw [hg];exact (zR zzh):w.heap.size ≤ gb379));have n5_:=zM ((by rw [hg];exact (zR zzh):w.heap.size ≤ gb379));have n6_:=zM ((by rw [hg];exact Nat.ne_of_lt (blk_lt (g:=gb377) (o := .cells #[.int .i64 a0_0,.int .i64 a0_1,.slice A0_2 l0_2.length c0_2] 29 (0,0)) (zzi BK377)):gb377 ≠ gb379));have n7_:=zM ((by rw [hg];exact Nat.ne_of_gt (blk_lt (g:=gb377) (o := .cells #[.int .i64 a0_0,.int .i64 a0_1,.slice A0_2 l0_2.length c0_2] 29 (0,0)) (zzi BK377)):gb379 ≠ gb377));have n8_:=zM ((by rw [hg];exact Nat.ne_of_lt (blk_lt (g:=gb378) (o := .cells #[.int .i64 a1_0,.int .i64 a1_1] 48 (0,0)) (zzi BK378)):gb378 ≠ gb379));have n9_:=zM ((by rw [hg];exact Nat.ne_of_gt (blk_lt (g:=gb378) (o := .cells #[.int .i64 a1_0,.int .i64 a1_1] 48 (0,0)) (zzi BK378)):gb379 ≠ gb378));clear BK377;clear BK378;clear HB;have BK377:=n0_;have BK378:=n1_;have HB:=n2_;have BK379:=n3_;have GW379:=n4_;have GE379:=n5_;have NB377_379:=n6_;have NB379_377:=n7_;have NB378_379:=n8_;have NB379_378:=n9_;clear n0_ n1_ n2_ n3_ n4_ n5_ n6_ n7_ n8_ n9_;clear hb hbox hg;have hnb37:=NB377_378.out;have hnc37:=NB378_377.out;have hnb38:=NB377_379.out;have hnc38:=NB379_377.out;have hcz39_0:=zz0 BK377;have hcz39_1:=zz1 BK377;have hcz39_2:=zz2 BK377;have hfz39_0:=blk_frozen BK377.out 0;have hfz39_1:=blk_frozen BK377.out 1;have hfz39_2:=blk_frozen BK377.out 2)|((with_reducible refine gate_callee (f:=53) rfl ?_);refine goesL_ (some 8) rfl rfl Try.func53 (by kernel_rfl) rfl #[.agg #[.int .i64 a0_0,.int .i64 a0_1,.slice A0_2 l0_2.length c0_2]] rfl (by (try simp only [List.map_toArray,List.map_cons,List.map_nil]);first|done|rfl|(simp only [List.length_drop,List.length_take];rfl)) ?_;(with_reducible refine (spec_l16Good.calls k a0_0 a0_1 _ _ l0_2 false _ ?side1 ?side2 A4.out).mono ?_);(case side1=>repeat (first|exact (zO HR0_2.out HB.out)|(with_reducible first|refine zG ?_ _|refine zH ?_ _|refine zI ?_)));(case side2=>exact HC0_2.out);rintro e w40 ⟨rfl,hb⟩;refine ⟨_,rfl,?_⟩;have n0_:=zM (blk_below (g:=gb377) (o := .cells #[.int .i64 a0_0,.int .i64 a0_1,.slice A0_2 l0_2.length c0_2] 29 (0,0)) (zzi BK377) hb);have n1_:=zM (blk_below (g:=gb378) (o := .cells #[.int .i64 a1_0,.int .i64 a1_1] 48 (0,0)) (zzi BK378) hb);have n2_:=zM (blk_below (g:=gb379) (o := .cells #[.int .i64 a2_0,.int .i64 a2_1] 48 (0,0)) (zzi BK379) hb);have n3_:=zM (zQ zzh hb);clear BK377;clear BK378;clear BK379;clear HB;have BK377:=n0_;have BK378:=n1_;have BK379:=n2_;have HB:=n3_;clear n0_ n1_ n2_ n3_;(try clear hb);(try clear hb2);(try clear hk);(try clear hi)))
  go_ret
  exact ⟨by first|rfl|(simp [errW_none,errW_some] <;> rfl)|(simp [*,errW_none,errW_some] <;> rfl),zzh⟩



/-! ### spec_l16Next: function 64 -/
def spec_l16Next.l0:Nat → List (S48) → List (S48) → Int → Int → Int → List (S48) → Option ((List (S48)))
 | 0,_,_,_,_,_,_=>none
 | k + 1,x5,x6,x7,x384000,x384001,x384002=>if x7 < (x5.length:Int) then (if 0 ≤ x7 then ((spec_l16Free.f k x384000 x384001 x384002 ((rd_T48 x5 x7).f0) ((rd_T48 x5 x7).f1)).bind fun t392=>(if t392 = true then (if x6.length < 8796093022208 then (spec_l16Next.l0 k x5 (x6 ++ [(⟨(rd_T48 x5 x7).f0,(rd_T48 x5 x7).f1⟩ : S48)]) (wrap64 (x7 + 1)) x384000 x384001 x384002) else (none)) else (spec_l16Next.l0 k x5 x6 (wrap64 (x7 + 1)) x384000 x384001 x384002))) else (none)) else (some x6)
def spec_l16Next.f (k:Nat) (a0_0:Int) (a0_1:Int) (l0_2:List (S48)) (a1_0:Int) (a1_1:Int):Option ((List (S48))):=spec_l16Next.l0 k (([(⟨a1_0,wrap64 (a1_1 - 1)⟩ : S48),(⟨wrap64 (a1_0 - 1),a1_1⟩ : S48),(⟨a1_0,a1_1⟩ : S48),(⟨wrap64 (a1_0 + 1),a1_1⟩ : S48),(⟨a1_0,wrap64 (a1_1 + 1)⟩ : S48)]:List (S48))) (([]:List (S48))) 0 a0_0 a0_1 l0_2
end Go.Proofs.Ytbpccdbkaiigcaa.G

/- The walks of spec.PathLengthTo. -/
namespace Go.Proofs.Ytbpccdbkaiigcaa.G
open Go.RowKit Go.Proofs.YtbpccdbkaiigcaaW.PrintWords Go.Proofs.YtbpccdbkaiigcaaW.PrintLast Go.Proofs.YtbpccdbkaiigcaaW.PrintMore
set_option linter.unusedVariables false
set_option linter.unusedSimpArgs false
/-- The reference's neighbours among the cells G. -/
structure Nbs' (a0_0 a0_1 : Int) (l0_2 : List S48) (G : S48 → Prop) (nb : S48 → List S48) : Prop where
 inn : ∀ d,G d → (0 ≤ d.f0 ∧ d.f0 < a0_0) ∧ (0 ≤ d.f1 ∧ d.f1 < a0_1)
 len : ∀ d,G d → (nb d).length ≤ 5
 cl : ∀ d,G d → ∀ e ∈ nb d,G e
 run : ∀ d,G d → ∃ k,spec_l16Next.f k a0_0 a0_1 l0_2 d.f0 d.f1 = some (nb d)
end Go.Proofs.Ytbpccdbkaiigcaa.G

/- The neighbours of a free cell, and that the search by breadth comes to its end. -/
namespace Go.Proofs.Ytbpccdbkaiigcaa.G
open Go.RowKit Go.Proofs.YtbpccdbkaiigcaaW.PrintWords Go.Proofs.YtbpccdbkaiigcaaW.PrintLast
set_option linter.unusedVariables false
set_option linter.unusedSimpArgs false
noncomputable def sel (w h : Int) (bl : List S48) (d : S48) : List S48:=chk (Free w h bl d) [d] []
noncomputable def nbOf (w h : Int) (bl : List S48) (c : S48) : List S48:=((((([] ++ sel w h bl ⟨c.f0,c.f1 - 1⟩) ++ sel w h bl ⟨c.f0 - 1,c.f1⟩) ++ sel w h bl ⟨c.f0,c.f1⟩) ++ sel w h bl ⟨c.f0 + 1,c.f1⟩) ++ sel w h bl ⟨c.f0,c.f1 + 1⟩)
theorem sel_len (w h : Int) (bl : List S48) (d : S48) : (sel w h bl d).length ≤ 1:=by
 unfold sel
 by_cases hf : Free w h bl d
 ·rw [chk_pos hf];simp
 ·rw [chk_neg hf];simp
theorem sel_mem {w h : Int} {bl : List S48} {d e : S48} : e ∈ sel w h bl d ↔ e = d ∧ Free w h bl d:=by
 unfold sel
 by_cases hf : Free w h bl d
 ·rw [chk_pos hf];simp [hf]
 ·rw [chk_neg hf];simp [hf]
theorem nb_len (w h : Int) (bl : List S48) (c : S48) : (nbOf w h bl c).length ≤ 5:=by
 unfold nbOf
 simp only [List.length_append,List.length_nil]
 have h1:=sel_len w h bl ⟨c.f0,c.f1 - 1⟩
 have h2:=sel_len w h bl ⟨c.f0 - 1,c.f1⟩
 have h3:=sel_len w h bl ⟨c.f0,c.f1⟩
 have h4:=sel_len w h bl ⟨c.f0 + 1,c.f1⟩
 have h5:=sel_len w h bl ⟨c.f0,c.f1 + 1⟩
 omega
theorem nb_mem {w h : Int} {bl : List S48} {c e : S48} : e ∈ nbOf w h bl c ↔ Free w h bl e ∧ (e = ⟨c.f0,c.f1 - 1⟩ ∨ e = ⟨c.f0 - 1,c.f1⟩ ∨ e = ⟨c.f0,c.f1⟩ ∨ e = ⟨c.f0 + 1,c.f1⟩ ∨ e = ⟨c.f0,c.f1 + 1⟩):=by
 unfold nbOf
 simp only [List.mem_append,List.not_mem_nil,false_or,sel_mem]
 constructor
 ·rintro ((((⟨rfl,h⟩|⟨rfl,h⟩)|⟨rfl,h⟩)|⟨rfl,h⟩)|⟨rfl,h⟩) <;> simp [h]
 ·rintro ⟨h,(rfl|rfl|rfl|rfl|rfl)⟩ <;> simp [h]
theorem free_in {w h : Int} {bl : List S48} {c : S48} (hf : FloorOk w h bl) (hc : Free w h bl c) : (0 ≤ c.f0 ∧ c.f0 ≤ 5) ∧ (0 ≤ c.f1 ∧ c.f1 ≤ 5):=by
 have:=hf.1
 have:=hf.2.1
 have:=hc.1
 unfold In at this
 omega
theorem impl_nb {w h : Int} {bl : List S48} (hf : FloorOk w h bl) (hb : (bl.length : Int) ≤ 1099511627776) {c : S48} (hc : Free w h bl c) : Ev (fun k=>impl_around.f k w h bl c.f0 c.f1) (nbOf w h bl c):=by
 have hin:=free_in hf hc
 unfold impl_around.f
 simp only [Option.bind_some]
 obtain ⟨L,hL⟩ : ∃ L : List S48,[(⟨0,(-1)⟩ : S48),(⟨(-1),0⟩ : S48),(⟨0,0⟩ : S48),(⟨1,0⟩ : S48),(⟨0,1⟩ : S48)] = L:=⟨_,rfl⟩
 have hl : L.length = 5:=by rw [← hL];rfl
 rw [hL,hl]
 have step : ∀ (i : Int) (acc : List S48) (d : S48) (r : List S48),0 ≤ i → i < 5 → acc.length ≤ 10 → wrap64 (c.f0 + (rd_T48 L i).f0) = d.f0 → wrap64 (c.f1 + (rd_T48 L i).f1) = d.f1 → Ev (fun k=>impl_around.l0 k (acc ++ sel w h bl d) L 5 (i + 1) w h bl c.f0 c.f1) r → Ev (fun k=>impl_around.l0 k acc L ((5 : Nat) : Int) i w h bl c.f0 c.f1) r:=by
  intro i acc d r i0 i1 ha e0 e1 hr
  refine Ev.step (fun k=>by rw [impl_around.l0]) ?_
  have q5 : i < ((5 : Nat) : Int):=i1
  have q6 : i < (L.length : Int):=by rw [hl];exact i1
  simp only [if_pos q5,if_pos q6,if_pos i0,e0,e1,wrap64_id (x:=i + 1) (by omega) (by omega)]
  refine Ev.bind (impl_free w h bl d hf.1 hf.2.1 hb) ?_
  unfold sel at hr
  by_cases hd : Free w h bl d
  ·rw [chk_pos hd] at hr ⊢
   simp only [if_true,if_pos (show acc.length < 8796093022208 by omega)]
   exact hr
  ·rw [chk_neg hd] at hr ⊢
   simp only [Bool.false_eq_true,if_false]
   rw [List.append_nil] at hr
   exact hr
 have s1:=sel_len w h bl ⟨c.f0,c.f1 - 1⟩
 have s2:=sel_len w h bl ⟨c.f0 - 1,c.f1⟩
 have s3:=sel_len w h bl ⟨c.f0,c.f1⟩
 have s4:=sel_len w h bl ⟨c.f0 + 1,c.f1⟩
 have s5:=sel_len w h bl ⟨c.f0,c.f1 + 1⟩
 refine step 0 [] ⟨c.f0,c.f1 - 1⟩ _ (by omega) (by omega) (by simp) (by rw [← hL];show wrap64 (c.f0 + 0) = c.f0;rw [wrap64_id (by omega) (by omega)];omega) (by rw [← hL];show wrap64 (c.f1 + (-1)) = c.f1 - 1;rw [wrap64_id (by omega) (by omega)];omega) ?_
 refine step 1 _ ⟨c.f0 - 1,c.f1⟩ _ (by omega) (by omega) (by simp;omega) (by rw [← hL];show wrap64 (c.f0 + (-1)) = c.f0 - 1;rw [wrap64_id (by omega) (by omega)];omega) (by rw [← hL];show wrap64 (c.f1 + 0) = c.f1;rw [wrap64_id (by omega) (by omega)];omega) ?_
 refine step 2 _ ⟨c.f0,c.f1⟩ _ (by omega) (by omega) (by simp;omega) (by rw [← hL];show wrap64 (c.f0 + 0) = c.f0;rw [wrap64_id (by omega) (by omega)];omega) (by rw [← hL];show wrap64 (c.f1 + 0) = c.f1;rw [wrap64_id (by omega) (by omega)];omega) ?_
 refine step 3 _ ⟨c.f0 + 1,c.f1⟩ _ (by omega) (by omega) (by simp;omega) (by rw [← hL];show wrap64 (c.f0 + 1) = c.f0 + 1;rw [wrap64_id (by omega) (by omega)]) (by rw [← hL];show wrap64 (c.f1 + 0) = c.f1;rw [wrap64_id (by omega) (by omega)];omega) ?_
 refine step 4 _ ⟨c.f0,c.f1 + 1⟩ _ (by omega) (by omega) (by simp;omega) (by rw [← hL];show wrap64 (c.f0 + 0) = c.f0;rw [wrap64_id (by omega) (by omega)];omega) (by rw [← hL];show wrap64 (c.f1 + 1) = c.f1 + 1;rw [wrap64_id (by omega) (by omega)]) ?_
 refine Ev.step (fun k=>by rw [impl_around.l0]) ?_
 simp only [if_neg (show ¬ ((4 : Int) + 1 < 5) by decide)]
 exact Ev.now _
theorem nbs_impl {w h : Int} {bl : List S48} (hf : FloorOk w h bl) (hb : (bl.length : Int) ≤ 1099511627776) : Nbs w h bl (Free w h bl) (nbOf w h bl) where
 wf:=fun d hd=>by have:=free_in hf hd;exact ⟨wf_small (by omega) (by omega),wf_small (by omega) (by omega)⟩
 len:=fun d _=>nb_len w h bl d
 cl:=fun d _ e he=>(nb_mem.1 he).1
 run:=fun d hd=>Ev.rounds (impl_nb hf hb hd)
/-! the end of the search -/
def unseen (m : Mp) : List S48 → Nat
 | []=>0
 | c :: cs=>(if (m c).isSome then 0 else 1) + unseen m cs
def grid : List S48:=(List.range 6).flatMap fun (y : Nat)=>(List.range 6).map fun (x : Nat)=>(⟨(x : Int),(y : Int)⟩ : S48)
theorem spec_asked (w h : Int) (bl : List S48) (hb : (bl.length : Int) ≤ 1099511627776) (a b : S48) : Ev (fun k=>spec_l16Asked.f k w h bl a.f0 a.f1 b.f0 b.f1) (chk (FloorOk w h bl ∧ Free w h bl a ∧ Free w h bl b) true false):=by
 unfold spec_l16Asked.f
 refine Ev.bind (spec_floor w h bl hb) ?_
 by_cases hf : FloorOk w h bl
 ·rw [chk_pos hf]
  simp only [if_true]
  refine Ev.bind (spec_free w h bl a hf.1 hf.2.1 hb) ?_
  by_cases ha : Free w h bl a
  ·rw [chk_pos ha]
   simp only [if_true]
   refine Ev.bind (spec_free w h bl b hf.1 hf.2.1 hb) ?_
   by_cases hb2 : Free w h bl b
   ·rw [chk_pos hb2,chk_pos ⟨hf,ha,hb2⟩];exact Ev.now _
   ·rw [chk_neg hb2,chk_neg (fun x=>hb2 x.2.2)];exact Ev.now _
  ·rw [chk_neg ha,chk_neg (fun x=>ha x.2.1)];exact Ev.now _
 ·rw [chk_neg hf,chk_neg (fun x=>hf x.1)];exact Ev.now _
end Go.Proofs.Ytbpccdbkaiigcaa.G

/- The search by breadth finds the least numbers of steps. -/
namespace Go.Proofs.Ytbpccdbkaiigcaa.G
open Go.RowKit Go.Proofs.YtbpccdbkaiigcaaW.PrintWords Go.Proofs.YtbpccdbkaiigcaaW.PrintLast
set_option linter.unusedVariables false
set_option linter.unusedSimpArgs false
/-- x is reached from c by n steps. -/
def Rch (nb : S48 → List S48) (c : S48) : Nat → S48 → Prop
 | 0,x=>x = c
 | n + 1,x => ∃ y,Rch nb c n y ∧ x ∈ nb y
/-- What a round of the search keeps: hd is the number of the line's head. -/
structure BI (nb : S48 → List S48) (c0 : S48) (D : S48 → Prop) (m : Mp) (q : List S48) (hd : Int) : Prop where
 st : m c0 = some 0
 snd : ∀ x v,m x = some v → 0 ≤ v ∧ Rch nb c0 v.toNat x
 cls : ∀ x v,m x = some v → x ∉ q → ¬ D x → ∀ y ∈ nb x,∃ u,m y = some u ∧ u ≤ v + 1
 seen : ∀ x ∈ q,∃ v,m x = some v ∧ hd ≤ v
 top : ∀ x v,m x = some v → v ≤ hd + 1
 srt : q.Pairwise (fun x y => ∀ u v,m x = some u → m y = some v → u ≤ v)
/-- The map that the search makes tells the least number of steps. -/
structure Dist (nb : S48 → List S48) (c : S48) (m : Mp) : Prop where
 snd : ∀ x v,m x = some v → 0 ≤ v ∧ Rch nb c v.toNat x
 least : ∀ n x,Rch nb c n x → ∃ v,m x = some v ∧ v ≤ (n : Int)
 near : ∀ x v,m x = some v → ∀ y ∈ nb x,∃ u,m y = some u ∧ u ≤ v + 1
end Go.Proofs.Ytbpccdbkaiigcaa.G

-- Written by wip/tools/gen.py out of the translation (the kit's printer, one namespace a seat). Lean checks it.
namespace Go.Proofs.Ytbpccdbkaiigcaa.G
open Go.RowKit Go.Proofs.YtbpccdbkaiigcaaW.PrintWords Go.Proofs.YtbpccdbkaiigcaaW.PrintLast Go.Proofs.YtbpccdbkaiigcaaW.PrintMore
attribute [local go_sem] max2_int min2_int max_two min_two max_three min_three max_four min_four   -- for this text's walks alone
set_option linter.unusedVariables false
set_option linter.unusedSimpArgs false

/-! ### impl_cellAt: function 62 -/
def impl_cellAt.f (l0:List (S48)) (a1:Int):Option (Int × Int):=if 0 ≤ (mn a1 (wrap64 ((l0.length:Int) - 1))) then (if (mn a1 (wrap64 ((l0.length:Int) - 1))) < (l0.length:Int) then (some ((rd_T48 l0 (mn a1 (wrap64 ((l0.length:Int) - 1)))).f0,(rd_T48 l0 (mn a1 (wrap64 ((l0.length:Int) - 1)))).f1)) else (none)) else (none)
set_option maxHeartbeats 8000000 in
set_option maxRecDepth 100000 in
theorem impl_cellAt.calls (A0:Option Addr) (c0:Nat) (l0:List (S48)) (a1:Int) (r1:Int) (r2:Int) (w:World) (hr0:Kd.C k48 w A0 l0.length l0) (hc0:l0.length ≤ c0) (h:impl_cellAt.f l0 a1 = some (r1,r2)) :
  Calls Try.prog 62 #[.slice A0 l0.length c0,.int .i64 a1] w fun e w'=>e = .returned (.agg #[.int .i64 r1,.int .i64 r2]) ∧ Below w.heap.size w w':=by
 have hu48:=Try.underlying48;have HR0:=zM hr0;have HC0:=zM hc0;clear hr0 hc0;have HB:=zM (Below.refl w.heap.size w);have H:(if 0 ≤ (mn a1 (wrap64 ((l0.length:Int) - 1))) then (if (mn a1 (wrap64 ((l0.length:Int) - 1))) < (l0.length:Int) then (some ((rd_T48 l0 (mn a1 (wrap64 ((l0.length:Int) - 1)))).f0,(rd_T48 l0 (mn a1 (wrap64 ((l0.length:Int) - 1)))).f1)) else (none)) else (none)) = some (r1,r2):=h
 clear h;obtain ⟨ji3,hji3⟩ : ∃ j_:Int,(mn a1 (wrap64 ((l0.length:Int) - 1))) = j_:=⟨_,rfl⟩
 replace H:(if 0 ≤ (ji3) then (if (ji3) < (l0.length:Int) then (some ((rd_T48 l0 (ji3)).f0,(rd_T48 l0 (ji3)).f1)) else (none)) else (none)) = some (r1,r2):=by first|(rw [hji3] at H;exact H)|(simp only [hji3] at H ⊢;exact H)
 have hji3_:(if (wrap64 ((l0.length:Int) - 1)) < a1 then (wrap64 ((l0.length:Int) - 1)) else a1) = ji3:=hji3
 by_cases c4:0 ≤ (ji3)
 ·rw [if_pos c4] at H
  have c4b0:decide (0 ≤ (ji3)) = true:=decide_eq_true c4
  clear c4;by_cases c5:(ji3) < (l0.length:Int)
  ·rw [if_pos c5] at H
   have c5b0:decide ((ji3) < (l0.length:Int)) = true:=decide_eq_true c5
   clear c5;simp only [Option.some.injEq,Prod.mk.injEq] at H
   obtain ⟨rfl,rfl⟩:=H;go_enter Try.func62,Try.ntmps62
   go_wp2_with (first|((with_reducible refine gate_dst (N:=4) rfl ?_);refine zzc 4 #[.int .i64 0,.int .i64 0] 48 ?_;intro gb272 hg w6 hbox hb;have n0_:=zM (zQ zzh hb);have n1_:=zM (hbox);have n2_:=zM ((by rw [hg];exact (zR zzh):w.heap.size ≤ gb272));have n3_:=zM ((by rw [hg];exact (zR zzh):w.heap.size ≤ gb272));clear HB;have HB:=n0_;have BK272:=n1_;have GW272:=n2_;have GE272:=n3_;clear n0_ n1_ n2_ n3_;clear hb hbox hg;have p273:0 ≤ ((ji3):Int):=zzd;have q273:(ji3) < (l0.length:Int):=zzd;obtain ⟨ad273,e273,hx273_0,hx273_1⟩:=at_T48 HR0.out (ji3) p273 q273;cases e273;replace hx273_0:=zS HB.out hx273_0;replace hx273_1:=zS HB.out hx273_1;replace p273:=eq_true p273;replace q273:=eq_true q273;have hcz7_0:=zz0 BK272;have hcz7_1:=zz1 BK272;have hfz7_0:=blk_frozen BK272.out 0;have hfz7_1:=blk_frozen BK272.out 1))
   refine bodyPost_ret (results_cell_row rfl _ _ gb272 48 #[.int .i64 ((rd_T48 l0 (ji3)).f0),.int .i64 ((rd_T48 l0 (ji3)).f1)] (0,0) _ rfl (by (with_reducible repeat (first|refine zJ ?_ _|refine zK ?_|refine zL ?_ _));refine blk_put (cs := #[.int .i64 ((rd_T48 l0 (ji3)).f0),.int .i64 0]) ?_ 1 _ rfl;(with_reducible repeat (first|refine zJ ?_ _|refine zK ?_|refine zL ?_ _));refine blk_put (cs := #[.int .i64 0,.int .i64 0]) ?_ 0 _ rfl;(with_reducible repeat (first|refine zJ ?_ _|refine zK ?_|refine zL ?_ _));exact BK272.out) Try.underlying48 rfl (by kernel_rfl)) rfl ?_
   exact ⟨by first|rfl|(simp [errW_none,errW_some] <;> rfl)|(simp only [← hji3];first|rfl|(simp [errW_none,errW_some] <;> rfl))|(simp [*,errW_none,errW_some] <;> rfl),zzh⟩
  ·rw [if_neg c5] at H
   exact absurd H (by simp)
 ·rw [if_neg c4] at H
  exact absurd H (by simp)



attribute [local go_sem high] eqA48
/-! ### impl_FirstCollision: function 24 -/
mutual
def impl_FirstCollision.j0:Nat → List (S48) → List (S48) → Bool → Option (Int × Bool × Bool)
 | 0,_,_,_=>none
 | k + 1,x1,x2,x21=>if x21 = true then (some (0,false,false)) else (impl_FirstCollision.l0 k x1 x2 (mx (x1.length:Int) (x2.length:Int)) 0)
def impl_FirstCollision.l0:Nat → List (S48) → List (S48) → Int → Int → Option (Int × Bool × Bool)
 | 0,_,_,_,_=>none
 | k + 1,x1,x2,x26,x27=>if x27 < x26 then ((impl_cellAt.f x1 x27).bind fun bt277=>((impl_cellAt.f x2 x27).bind fun bt279=>(if (bt277.1 == bt279.1 && (bt277.2 == bt279.2)) = true then (some (x27,true,true)) else (if x27 > 0 then ((impl_cellAt.f x2 (wrap64 (x27 - 1))).bind fun bt283=>(if (bt277.1 == bt283.1 && (bt277.2 == bt283.2)) = true then ((impl_cellAt.f x1 (wrap64 (x27 - 1))).bind fun bt285=>(if (bt279.1 == bt285.1 && (bt279.2 == bt285.2)) = true then (some (x27,true,true)) else (impl_FirstCollision.l0 k x1 x2 x26 (wrap64 (x27 + 1))))) else (impl_FirstCollision.l0 k x1 x2 x26 (wrap64 (x27 + 1))))) else (impl_FirstCollision.l0 k x1 x2 x26 (wrap64 (x27 + 1))))))) else (some (0,false,true))
end
def impl_FirstCollision.f (k:Nat) (a0_0:Int) (a0_1:Int) (l0_2:List (S48)) (l1:List (S48)) (l2:List (S48)):Option (Int × Bool × Bool):=(impl_IsValidPath.f k a0_0 a0_1 l0_2 l1).bind fun t275=>(if t275 = true then ((impl_IsValidPath.f k a0_0 a0_1 l0_2 l2).bind fun t276=>(impl_FirstCollision.j0 k l1 l2 (!t276))) else (impl_FirstCollision.j0 k l1 l2 true))
def impl_FirstCollision.T7:Bool × List (List Nat × List Nat):=(true,[([],[]),([],[]),([0,1],[0,1]),([2],[2]),([3],[3]),([4,3],[3,4]),([5,3,3],[3,5]),([6],[6]),([6],[6]),([6],[6]),([9,6],[6,9]),([8,10,6,6],[6,8,10]),([7,11,6],[6,7,11]),([6,12,3],[3,6,12]),([13,11,3],[3,13]),([14],[14]),([14],[14]),([14],[14]),([17,14],[14,17]),([16,18,14,14],[14,16,18]),([15,19,14],[14,15,19]),([14,20,3],[3,14,20]),([3,21],[3,21])])
def impl_FirstCollision.B7:List Nat:=[0,0,3,7,15,31,63,127,127,127,639,1919,4095,8191,16383,32767,32767,32767,163839,491519,1048575,2097151,4194303]


/-! ### spec_l1Least: function 101 -/
def spec_l1Least.f (a0:Int) (a1:Int):Option (Int):=if a0 < a1 then (some a0) else (some a1)
set_option maxHeartbeats 8000000 in
set_option maxRecDepth 100000 in
theorem spec_l1Least.calls (a0:Int) (a1:Int) (r:Int) (w:World) (h:spec_l1Least.f a0 a1 = some r) :
  Calls Try.prog 101 #[.int .i64 a0,.int .i64 a1] w fun e w'=>e = .returned (.int .i64 r) ∧ Drawn0 w w':=by
 have H:(if a0 < a1 then (some a0) else (some a1)) = some r:=h
 clear h;by_cases c3:a0 < a1
 ·rw [if_pos c3] at H
  have c3b0:decide (a0 < a1) = true:=decide_eq_true c3
  clear c3;obtain rfl:=Option.some.inj H;go_enter Try.func101,Try.ntmps101
  go_wp2
  go_ret
  exact ⟨by first|rfl|(simp;done)|(simp [*];done),by repeat (first|exact Drawn0.refl _|apply Drawn0.step)⟩
 ·rw [if_neg c3] at H
  have c3b0:decide (a0 < a1) = false:=decide_eq_false c3
  clear c3;obtain rfl:=Option.some.inj H;go_enter Try.func101,Try.ntmps101
  go_wp2
  go_ret
  exact ⟨by first|rfl|(simp;done)|(simp [*];done),by repeat (first|exact Drawn0.refl _|apply Drawn0.step)⟩



/-! ### spec_l16At: function 98 -/
def spec_l16At.f (l0:List (S48)) (a1:Int):Option (Int × Int):=(spec_l1Least.f a1 (wrap64 ((l0.length:Int) - 1))).bind fun t251=>(if 0 ≤ t251 then (if t251 < (l0.length:Int) then (some ((rd_T48 l0 t251).f0,(rd_T48 l0 t251).f1)) else (none)) else (none))
set_option maxHeartbeats 8000000 in
set_option maxRecDepth 100000 in
theorem spec_l16At.calls (A0:Option Addr) (c0:Nat) (l0:List (S48)) (a1:Int) (r1:Int) (r2:Int) (w:World) (hr0:Kd.C k48 w A0 l0.length l0) (hc0:l0.length ≤ c0) (h:spec_l16At.f l0 a1 = some (r1,r2)) :
  Calls Try.prog 98 #[.slice A0 l0.length c0,.int .i64 a1] w fun e w'=>e = .returned (.agg #[.int .i64 r1,.int .i64 r2]) ∧ Below w.heap.size w w':=by
 have hu48:=Try.underlying48;have HR0:=zM hr0;have HC0:=zM hc0;clear hr0 hc0;have HB:=zM (Below.refl w.heap.size w);have H:((spec_l1Least.f a1 (wrap64 ((l0.length:Int) - 1))).bind fun t251=>(if 0 ≤ t251 then (if t251 < (l0.length:Int) then (some ((rd_T48 l0 t251).f0,(rd_T48 l0 t251).f1)) else (none)) else (none))) = some (r1,r2):=h
 clear h;replace H:=Option.bind_eq_some_iff.mp H;obtain ⟨t251,A30,H⟩:=H;replace H:(if 0 ≤ t251 then (if t251 < (l0.length:Int) then (some ((rd_T48 l0 t251).f0,(rd_T48 l0 t251).f1)) else (none)) else (none)) = some (r1,r2):=H
 have A3:=zM A30;clear A30;by_cases c4:0 ≤ t251
 ·rw [if_pos c4] at H
  have c4b0:decide (0 ≤ t251) = true:=decide_eq_true c4
  clear c4;by_cases c5:t251 < (l0.length:Int)
  ·rw [if_pos c5] at H
   have c5b0:decide (t251 < (l0.length:Int)) = true:=decide_eq_true c5
   clear c5;simp only [Option.some.injEq,Prod.mk.injEq] at H
   obtain ⟨rfl,rfl⟩:=H;go_enter Try.func98,Try.ntmps98
   go_wp2_with (first|((with_reducible refine gate_dst (N:=4) rfl ?_);refine zzc 4 #[.int .i64 0,.int .i64 0] 48 ?_;intro gb250 hg w6 hbox hb;have n0_:=zM (zQ zzh hb);have n1_:=zM (hbox);have n2_:=zM ((by rw [hg];exact (zR zzh):w.heap.size ≤ gb250));have n3_:=zM ((by rw [hg];exact (zR zzh):w.heap.size ≤ gb250));clear HB;have HB:=n0_;have BK250:=n1_;have GW250:=n2_;have GE250:=n3_;clear n0_ n1_ n2_ n3_;clear hb hbox hg)|((with_reducible refine gate_callee (f:=101) rfl ?_);refine goesL_ (some 10) rfl rfl Try.func101 (by kernel_rfl) rfl #[.int .i64 a1,.int .i64 (wrap64 ((l0.length:Int) - 1))] rfl (by (try simp only [List.map_toArray,List.map_cons,List.map_nil]);first|done|rfl|(simp only [List.length_drop,List.length_take];rfl)) ?_;(with_reducible refine (spec_l1Least.calls a1 (wrap64 ((l0.length:Int) - 1)) t251 _ A3.out).mono ?_);rintro e w' ⟨rfl,⟨nd,rfl⟩⟩;refine ⟨_,rfl,?_⟩;(try (rw [drewN_self w6];generalize hq_:World.drewN w6 _ = w6;have n0_:Aside0 (w6.heap[gb250]? = some (.cells #[.int .i64 0,.int .i64 0] 48 (0,0))):=⟨by rw [← hq_];exact (zzi BK250)⟩;have n1_:Aside0 (Below w.heap.size w w6):=⟨by rw [← hq_];exact zzh⟩;clear BK250 HB hq_;have BK250:=n0_;have HB:=n1_;clear n0_ n1_));have p252:0 ≤ (t251:Int):=zzd;have q252:t251 < (l0.length:Int):=zzd;obtain ⟨ad252,e252,hx252_0,hx252_1⟩:=at_T48 HR0.out t251 p252 q252;cases e252;replace hx252_0:=zS HB.out hx252_0;replace hx252_1:=zS HB.out hx252_1;replace p252:=eq_true p252;replace q252:=eq_true q252;have hcz7_0:=zz0 BK250;have hcz7_1:=zz1 BK250;have hfz7_0:=blk_frozen BK250.out 0;have hfz7_1:=blk_frozen BK250.out 1))
   refine bodyPost_ret (results_cell_row rfl _ _ gb250 48 #[.int .i64 ((rd_T48 l0 t251).f0),.int .i64 ((rd_T48 l0 t251).f1)] (0,0) _ rfl (by (with_reducible repeat (first|refine zJ ?_ _|refine zK ?_|refine zL ?_ _));refine blk_put (cs := #[.int .i64 ((rd_T48 l0 t251).f0),.int .i64 0]) ?_ 1 _ rfl;(with_reducible repeat (first|refine zJ ?_ _|refine zK ?_|refine zL ?_ _));refine blk_put (cs := #[.int .i64 0,.int .i64 0]) ?_ 0 _ rfl;(with_reducible repeat (first|refine zJ ?_ _|refine zK ?_|refine zL ?_ _));exact BK250.out) Try.underlying48 rfl (by kernel_rfl)) rfl ?_
   exact ⟨by first|rfl|(simp [errW_none,errW_some] <;> rfl)|(simp [*,errW_none,errW_some] <;> rfl),zzh⟩
  ·rw [if_neg c5] at H
   exact absurd H (by simp)
 ·rw [if_neg c4] at H
  exact absurd H (by simp)



attribute [local go_sem high] eqA48
/-! ### spec_l16Hit: function 87 -/
def spec_l16Hit.f (l0:List (S48)) (l1:List (S48)) (a2:Int):Option (Bool):=(spec_l16At.f l0 a2).bind fun bt253=>((spec_l16At.f l1 a2).bind fun bt255=>(if (bt253.1 == bt255.1 && (bt253.2 == bt255.2)) = true then (some true) else (if a2 > 0 then ((spec_l16At.f l0 a2).bind fun bt257=>((spec_l16At.f l1 (wrap64 (a2 - 1))).bind fun bt259=>(if (bt257.1 == bt259.1 && (bt257.2 == bt259.2)) = true then ((spec_l16At.f l0 (wrap64 (a2 - 1))).bind fun bt261=>((spec_l16At.f l1 a2).bind fun bt263=>(some (bt261.1 == bt263.1 && (bt261.2 == bt263.2))))) else (some false)))) else (some false))))


/-! ### spec_l16Collision: function 61 -/
def spec_l16Collision.l0:Nat → List (S48) → List (S48) → Int → Option (Int)
 | 0,_,_,_=>none
 | k + 1,x0,x1,x5=>(spec_l1Most.f (x0.length:Int) (x1.length:Int)).bind fun t265=>(if x5 < t265 then ((spec_l16Hit.f x0 x1 x5).bind fun t266=>(if t266 = true then (some x5) else (spec_l16Collision.l0 k x0 x1 (wrap64 (x5 + 1))))) else (some (-1)))
def spec_l16Collision.f (k:Nat) (l0:List (S48)) (l1:List (S48)):Option (Int):=spec_l16Collision.l0 k l0 l1 0


/-! ### spec_FirstCollision: function 23 -/
def spec_FirstCollision.j0:Nat → List (S48) → List (S48) → Bool → Option (Int × Bool × Bool)
 | 0,_,_,_=>none
 | k + 1,x1,x2,x24=>if x24 = true then (some (0,false,false)) else ((spec_l16Collision.f k x1 x2).bind fun t271=>(if t271 < 0 then (some (0,false,true)) else (some (t271,true,true))))
def spec_FirstCollision.f (k:Nat) (a0_0:Int) (a0_1:Int) (l0_2:List (S48)) (l1:List (S48)) (l2:List (S48)):Option (Int × Bool × Bool):=(spec_l16Good.f k a0_0 a0_1 l0_2).bind fun t268=>(if t268 = true then ((spec_l16Path.f k a0_0 a0_1 l0_2 l1).bind fun t269=>(if t269 = true then ((spec_l16Path.f k a0_0 a0_1 l0_2 l2).bind fun t270=>(spec_FirstCollision.j0 k l1 l2 (!t270))) else (spec_FirstCollision.j0 k l1 l2 true))) else (spec_FirstCollision.j0 k l1 l2 true))
end Go.Proofs.Ytbpccdbkaiigcaa.G

namespace Go.Proofs.Ytbpccdbkaiigcaa.G
open Go.RowKit Go.Proofs.YtbpccdbkaiigcaaW.PrintWords Go.Proofs.YtbpccdbkaiigcaaW.PrintLast Go.Proofs.YtbpccdbkaiigcaaW.PrintMore
set_option linter.unusedVariables false
set_option linter.unusedSimpArgs false
theorem least_eq (a b : Int) : spec_l1Least.f a b = some (mn a b):=by
 unfold spec_l1Least.f mn
 split <;> split <;> first|rfl|(congr 1;omega)
theorem mn_cases (a b : Int) : (mn a b = a ∨ mn a b = b) ∧ mn a b ≤ a ∧ mn a b ≤ b:=by unfold mn;split <;> omega
/-- Where a vehicle is after i minutes. -/
def cat (p : List S48) (i : Int) : S48:=rd_T48 p (mn i ((p.length : Int) - 1))
theorem impl_cat (p : List S48) (h1 : 1 ≤ (p.length : Int)) (h2 : (p.length : Int) ≤ 25) (i : Int) (h0 : 0 ≤ i) : impl_cellAt.f p i = some ((cat p i).f0,(cat p i).f1):=by
 have m:=mn_cases i ((p.length : Int) - 1)
 unfold impl_cellAt.f
 rw [wrap64_id (by omega) (by omega)]
 simp (disch:=omega) only [if_pos]
 rfl
theorem spec_cat (p : List S48) (h1 : 1 ≤ (p.length : Int)) (h2 : (p.length : Int) ≤ 25) (i : Int) (h0 : 0 ≤ i) : spec_l16At.f p i = some ((cat p i).f0,(cat p i).f1):=by
 have m:=mn_cases i ((p.length : Int) - 1)
 unfold spec_l16At.f
 rw [wrap64_id (by omega) (by omega),least_eq]
 simp (disch:=omega) only [Option.bind_some,if_pos]
 rfl
def Hit (p q : List S48) (i : Int) : Prop:=eqc (cat p i) (cat q i) ∨ (0 < i ∧ eqc (cat p i) (cat q (i - 1)) ∧ eqc (cat p (i - 1)) (cat q i))
noncomputable def collF (p q : List S48) : Nat → Int → Int
 | 0,_ => -1
 | d + 1,i=>chk (Hit p q i) i (collF p q d (i + 1))
/-- What FirstCollision answers at a first time of collision, or -1. -/
def ans (t : Int) : Int × Bool × Bool:=if t < 0 then (0,false,true) else (t,true,true)
noncomputable def collR (w h : Int) (bl p q : List S48) : Int × Bool × Bool:=chk (PathOk w h bl p ∧ PathOk w h bl q) (ans (collF p q (mx (p.length : Int) (q.length : Int)).toNat 0)) (0,false,false)
end Go.Proofs.Ytbpccdbkaiigcaa.G

/- The first shortest path beside others, as a pure function: levels, ends and sets from behind; that the two ways to tell it agree. -/
namespace Go.Proofs.Ytbpccdbkaiigcaa.G
open Go.RowKit Go.Proofs.YtbpccdbkaiigcaaW.PrintWords Go.Proofs.YtbpccdbkaiigcaaW.PrintLast
set_option linter.unusedVariables false
set_option linter.unusedSimpArgs false
theorem eqc_iff {a b : S48} : eqc a b ↔ a = b:=by
 cases a
 cases b
 unfold eqc
 simp
/-- One of the others hinders the way from a to b that ends at minute t. -/
def HitAt (os : List (List S48)) (a b : S48) (t : Int) : Prop := ∃ p ∈ os,cat p t = b ∨ (0 < t ∧ cat p t = a ∧ cat p (t - 1) = b)
theorem hitAt_same {os : List (List S48)} {b : S48} {t : Int} : HitAt os b b t ↔ ∃ p ∈ os,cat p t = b:=by
 constructor
 ·rintro ⟨p,hp,h|h⟩
  ·exact ⟨p,hp,h⟩
  ·exact ⟨p,hp,h.2.1⟩
 ·rintro ⟨p,hp,h⟩
  exact ⟨p,hp,Or.inl h⟩
/-- Such as are told by P, in order. -/
noncomputable def fil (P : S48 → Prop) (l : List S48) : List S48:=l.filter (fun c=>chk (P c) true false)
noncomputable def fnd (P : S48 → Prop) (l : List S48) : Option S48:=(fil P l).head?
theorem fil_nil (P : S48 → Prop) : fil P [] = []:=rfl
theorem fil_app (P : S48 → Prop) (l k : List S48) : fil P (l ++ k) = fil P l ++ fil P k:=List.filter_append ..
theorem fil_one_pos {P : S48 → Prop} {c : S48} (h : P c) : fil P [c] = [c]:=by unfold fil;simp [chk_pos h]
theorem fil_one_neg {P : S48 → Prop} {c : S48} (h : ¬ P c) : fil P [c] = []:=by unfold fil;simp [chk_neg h]
theorem fil_mem {P : S48 → Prop} {l : List S48} {c : S48} : c ∈ fil P l ↔ c ∈ l ∧ P c:=by
 unfold fil
 rw [List.mem_filter]
 exact ⟨fun h=>⟨h.1,chk_true.1 h.2⟩,fun h=>⟨h.1,chk_true.2 h.2⟩⟩
theorem fnd_nil (P : S48 → Prop) : fnd P [] = none:=rfl
theorem fnd_pos {P : S48 → Prop} {c : S48} {l : List S48} (h : P c) : fnd P (c :: l) = some c:=by unfold fnd fil;simp [List.filter_cons,chk_pos h]
theorem fnd_neg {P : S48 → Prop} {c : S48} {l : List S48} (h : ¬ P c) : fnd P (c :: l) = fnd P l:=by unfold fnd fil;simp [List.filter_cons,chk_neg h]
theorem fnd_mem {P : S48 → Prop} {l : List S48} {c : S48} (h : fnd P l = some c) : c ∈ l ∧ P c:=fil_mem.1 (List.mem_of_mem_head? h)
/-! order -/
theorem bef_irr {a : S48} : ¬ Bef a a:=by unfold Bef;omega
theorem bef_tr {a b c : S48} (h : Bef a b) (k : Bef b c) : Bef a c:=by unfold Bef at *;omega
theorem srt_eq : ∀ {l k : List S48},l.Pairwise Bef → k.Pairwise Bef → (∀ c,c ∈ l ↔ c ∈ k) → l = k
 | [],[],_,_,_=>rfl
 | [],b :: k,_,_,h=>by have:=(h b).2 List.mem_cons_self;cases this
 | a :: l,[],_,_,h=>by have:=(h a).1 List.mem_cons_self;cases this
 | a :: l,b :: k,hl,hk,h=>by
  have l1:=List.pairwise_cons.1 hl
  have k1:=List.pairwise_cons.1 hk
  have e : a = b:=by
   rcases List.mem_cons.1 ((h a).1 List.mem_cons_self) with e|e
   ·exact e
   ·rcases List.mem_cons.1 ((h b).2 List.mem_cons_self) with e'|e'
    ·exact e'.symm
    ·exact absurd (bef_tr (l1.1 b e') (k1.1 a e)) bef_irr
  subst e
  rw [srt_eq l1.2 k1.2 (fun c=>⟨fun hc=>?_,fun hc=>?_⟩)]
  ·rcases List.mem_cons.1 ((h c).1 (List.mem_cons_of_mem _ hc)) with e|e
   ·subst e;exact absurd (l1.1 c hc) bef_irr
   ·exact e
  ·rcases List.mem_cons.1 ((h c).2 (List.mem_cons_of_mem _ hc)) with e|e
   ·subst e;exact absurd (k1.1 c hc) bef_irr
   ·exact e
theorem fil_srt {P : S48 → Prop} {l : List S48} (h : l.Pairwise Bef) : (fil P l).Pairwise Bef:=List.Pairwise.filter _ h
theorem fnd_eq {P Q : S48 → Prop} {l k : List S48} (hl : l.Pairwise Bef) (hk : k.Pairwise Bef) (h : ∀ c,(c ∈ l ∧ P c) ↔ (c ∈ k ∧ Q c)) : fnd P l = fnd Q k:=by
 unfold fnd
 rw [srt_eq (fil_srt hl) (fil_srt hk) (fun c=>by rw [fil_mem,fil_mem];exact h c)]
/-! the floor's cells, row by row -/
def rowC (y : Int) (n : Nat) : List S48:=(List.range n).map fun (x : Nat)=>(⟨(x : Int),y⟩ : S48)
def cellsTo (w : Nat) (n : Nat) : List S48:=(List.range n).flatMap fun (y : Nat)=>rowC (y : Int) w
theorem rowC_succ (y : Int) (n : Nat) : rowC y (n + 1) = rowC y n ++ [⟨(n : Int),y⟩]:=by unfold rowC;rw [List.range_succ,List.map_append];rfl
theorem cellsTo_succ (w n : Nat) : cellsTo w (n + 1) = cellsTo w n ++ rowC (n : Int) w:=by unfold cellsTo;rw [List.range_succ,List.flatMap_append];simp
theorem rowC_mem {y : Int} {n : Nat} {c : S48} : c ∈ rowC y n ↔ (0 ≤ c.f0 ∧ c.f0 < n) ∧ c.f1 = y:=by
 unfold rowC
 rw [List.mem_map]
 constructor
 ·rintro ⟨x,hx,rfl⟩
  rw [List.mem_range] at hx
  exact ⟨⟨by show (0 : Int) ≤ x;omega,by show (x : Int) < n;omega⟩,rfl⟩
 ·rintro ⟨⟨h0,h1⟩,h2⟩
  refine ⟨c.f0.toNat,List.mem_range.2 (by omega),?_⟩
  cases c
  simp only [S48.mk.injEq]
  simp only at h0 h2
  exact ⟨by omega,h2.symm⟩
theorem cellsTo_mem {w n : Nat} {c : S48} : c ∈ cellsTo w n ↔ (0 ≤ c.f0 ∧ c.f0 < w) ∧ (0 ≤ c.f1 ∧ c.f1 < n):=by
 unfold cellsTo
 rw [List.mem_flatMap]
 constructor
 ·rintro ⟨y,hy,hc⟩
  rw [List.mem_range] at hy
  have:=rowC_mem.1 hc
  exact ⟨this.1,by omega,by omega⟩
 ·rintro ⟨h0,h1,h2⟩
  exact ⟨c.f1.toNat,List.mem_range.2 (by omega),rowC_mem.2 ⟨h0,by omega⟩⟩
theorem rowC_srt (y : Int) : ∀ n,(rowC y n).Pairwise Bef
 | 0=>List.Pairwise.nil
 | n + 1=>by
  rw [rowC_succ,List.pairwise_append]
  refine ⟨rowC_srt y n,List.pairwise_singleton _ _,fun a ha b hb=>?_⟩
  rw [List.mem_singleton] at hb
  subst hb
  have:=rowC_mem.1 ha
  refine Or.inr ⟨this.2,?_⟩
  exact this.1.2
theorem cellsTo_srt (w : Nat) : ∀ n,(cellsTo w n).Pairwise Bef
 | 0=>List.Pairwise.nil
 | n + 1=>by
  rw [cellsTo_succ,List.pairwise_append]
  refine ⟨cellsTo_srt w n,rowC_srt _ _,fun a ha b hb=>Or.inl ?_⟩
  have h1:=cellsTo_mem.1 ha
  have h2:=rowC_mem.1 hb
  omega
theorem cellsTo_len (w : Nat) : ∀ n,(cellsTo w n).length = n * w
 | 0=>by unfold cellsTo;simp
 | n + 1=>by rw [cellsTo_succ,List.length_append,cellsTo_len w n];unfold rowC;simp;rw [Nat.add_mul];simp
noncomputable def cells (w h : Int) : List S48:=cellsTo w.toNat h.toNat
theorem cells_mem {w h : Int} {c : S48} : c ∈ cells w h ↔ In w h c:=by
 unfold cells In
 rw [cellsTo_mem]
 omega
theorem sel_srt (w h : Int) (bl : List S48) (d : S48) : (sel w h bl d).Pairwise Bef:=by
 unfold sel
 by_cases hf : Free w h bl d
 ·rw [chk_pos hf];exact List.pairwise_singleton _ _
 ·rw [chk_neg hf];exact List.Pairwise.nil
theorem nb_srt (w h : Int) (bl : List S48) (c : S48) : (nbOf w h bl c).Pairwise Bef:=by
 unfold nbOf
 simp only [List.pairwise_append,sel_srt,List.mem_append,sel_mem,List.Pairwise.nil,List.not_mem_nil,true_and,and_true,false_or]
 refine ⟨⟨⟨⟨?_,?_⟩,?_⟩,?_⟩,?_⟩
 ·intro a ha;cases ha
 ·rintro a ha b ⟨rfl,_⟩
  have ha:=ha.1
  subst ha
  left;show c.f1 - 1 < c.f1;omega
 ·rintro a ha b ⟨rfl,_⟩
  rcases ha with ⟨rfl,_⟩|⟨rfl,_⟩
  ·left;show c.f1 - 1 < c.f1;omega
  ·right;exact ⟨rfl,by show c.f0 - 1 < c.f0;omega⟩
 ·rintro a ha b ⟨rfl,_⟩
  rcases ha with (⟨rfl,_⟩|⟨rfl,_⟩)|⟨rfl,_⟩
  ·left;show c.f1 - 1 < c.f1;omega
  ·right;exact ⟨rfl,by show c.f0 - 1 < c.f0 + 1;omega⟩
  ·right;exact ⟨rfl,by show c.f0 < c.f0 + 1;omega⟩
 ·rintro a ha b ⟨rfl,_⟩
  rcases ha with ((⟨rfl,_⟩|⟨rfl,_⟩)|⟨rfl,_⟩)|⟨rfl,_⟩
  ·left;show c.f1 - 1 < c.f1 + 1;omega
  ·left;show c.f1 < c.f1 + 1;omega
  ·left;show c.f1 < c.f1 + 1;omega
  ·left;show c.f1 < c.f1 + 1;omega
theorem near_comm {a b : S48} : Near a b ↔ Near b a:=by
 unfold Near mx
 constructor <;> intro h <;> (repeat' split) <;> (repeat' split at h) <;> omega
theorem near_five {a b : S48} : Near a b ↔ (b = ⟨a.f0,a.f1 - 1⟩ ∨ b = ⟨a.f0 - 1,a.f1⟩ ∨ b = ⟨a.f0,a.f1⟩ ∨ b = ⟨a.f0 + 1,a.f1⟩ ∨ b = ⟨a.f0,a.f1 + 1⟩):=by
 cases a with|mk a0 a1 =>
 cases b with|mk b0 b1 =>
 simp only [S48.mk.injEq]
 unfold Near mx
 simp only
 constructor
 ·intro h;(repeat' split at h) <;> omega
 ·intro h;(repeat' split) <;> omega
theorem nb_iff {w h : Int} {bl : List S48} {c e : S48} : e ∈ nbOf w h bl c ↔ Free w h bl e ∧ Near c e:=by
 rw [nb_mem,near_five]
section
variable (w h : Int) (bl : List S48) (os : List (List S48)) (a b : S48)
/-- At minute t + 1 a vehicle can be at c, having been at one of the cells l. -/
def Can (l : List S48) (t : Int) (c : S48) : Prop := ∃ d ∈ l,Near d c ∧ ¬ HitAt os d c t
noncomputable def lev : Nat → List S48
 | 0=>[a]
 | t + 1=>fil (fun c=>Free w h bl c ∧ Can os (lev t) ((t + 1 : Nat) : Int) c) (cells w h)
def Rest (t : Nat) : Prop := ∀ s : Nat,t ≤ s → s ≤ 24 → ¬ HitAt os b b (s : Int)
def EndS (t : Nat) : Prop:=b ∈ lev w h bl os a t ∧ Rest os b t
noncomputable def firstN (P : Nat → Prop) : Nat → Nat → Option Nat
 | 0,_=>none
 | d + 1,t=>chk (P t) (some t) (firstN P d (t + 1))
/-- From c the end e can be reached in j minutes (the reference's lists, from behind). -/
def Lead (l : List S48) (t : Int) (c : S48) : Prop := ∃ d ∈ l,Near c d ∧ ¬ HitAt os c d t
noncomputable def gdl (e : Nat) : Nat → List S48
 | 0=>[b]
 | j + 1=>fil (fun c=>Lead os (gdl e j) ((e - j : Nat) : Int) c) (lev w h bl os a (e - (j + 1)))
/-- The same as the program keeps it: sets. -/
def GI (e : Nat) : Nat → S48 → Prop
 | 0,c=>c = b
 | j + 1,c => ∃ d,GI e j d ∧ c ∈ nbOf w h bl d ∧ ¬ HitAt os c d ((e - j : Nat) : Int)
noncomputable def nxS (e t : Nat) (c : S48) : Option S48:=fnd (fun d=>Near c d ∧ ¬ HitAt os c d (t : Int)) (gdl w h bl os a b e (e - t))
noncomputable def nxI (e t : Nat) (c : S48) : Option S48:=fnd (fun d=>GI w h bl os b e (e - t) d ∧ ¬ HitAt os c d (t : Int)) (nbOf w h bl c)
end
/-- The path of n steps, each told by nx. -/
def trace (nx : Nat → S48 → Option S48) (a : S48) : Nat → Option (List S48)
 | 0=>some [a]
 | t + 1=>match trace nx a t with
  | none=>none
  | some p=>match nx (t + 1) (rd_T48 p (t : Int)) with
   | none=>none
   | some c=>some (p ++ [c])
theorem trace_len {nx : Nat → S48 → Option S48} {a : S48} : ∀ {t : Nat} {p : List S48},trace nx a t = some p → p.length = t + 1
 | 0,p,h=>by rw [trace] at h;obtain rfl:=Option.some.inj h;rfl
 | t + 1,p,h=>by
  rw [trace] at h
  cases hq : trace nx a t with
  | none=>rw [hq] at h;cases h
  | some q =>
   rw [hq] at h
   dsimp only at h
   cases hc : nx (t + 1) (rd_T48 q (t : Int)) with
   | none=>rw [hc] at h;cases h
   | some c =>
    rw [hc] at h
    obtain rfl:=Option.some.inj h
    rw [List.length_append,trace_len hq]
    rfl
theorem trace_step {nx : Nat → S48 → Option S48} {a c : S48} {t : Nat} {p : List S48} (h : trace nx a t = some p) (hc : nx (t + 1) (rd_T48 p (t : Int)) = some c) : trace nx a (t + 1) = some (p ++ [c]):=by
 rw [trace,h]
 dsimp only
 rw [hc]
theorem firstN_some {P : Nat → Prop} : ∀ {d t e : Nat},firstN P d t = some e → P e ∧ t ≤ e ∧ e < t + d
 | 0,t,e,h=>by cases h
 | d + 1,t,e,h=>by
  rw [firstN] at h
  by_cases hp : P t
  ·rw [chk_pos hp] at h
   obtain rfl:=Option.some.inj h
   exact ⟨hp,Nat.le_refl _,by omega⟩
  ·rw [chk_neg hp] at h
   have:=firstN_some h
   exact ⟨this.1,by omega,by omega⟩
theorem firstN_least {P : Nat → Prop} : ∀ {d t e : Nat},firstN P d t = some e → ∀ s,t ≤ s → s < e → ¬ P s
 | 0,t,e,h=>by cases h
 | d + 1,t,e,h=>by
  rw [firstN] at h
  by_cases hp : P t
  ·rw [chk_pos hp] at h
   obtain rfl:=Option.some.inj h
   intro s h0 h1
   omega
  ·rw [chk_neg hp] at h
   intro s h0 h1
   by_cases e' : s = t
   ·rw [e'];exact hp
   ·exact firstN_least h s (by omega) h1
theorem firstN_none {P : Nat → Prop} : ∀ {d t : Nat},firstN P d t = none → ∀ s,t ≤ s → s < t + d → ¬ P s
 | 0,t,h=>fun s h0 h1=>by omega
 | d + 1,t,h=>by
  rw [firstN] at h
  by_cases hp : P t
  ·rw [chk_pos hp] at h;cases h
  ·rw [chk_neg hp] at h
   intro s h0 h1
   by_cases e : s = t
   ·rw [e];exact hp
   ·exact firstN_none h s (by omega) (by omega)
theorem firstN_of {P : Nat → Prop} : ∀ {d t e : Nat},P e → (∀ s,t ≤ s → s < e → ¬ P s) → t ≤ e → e < t + d → firstN P d t = some e
 | 0,t,e,_,_,_,h=>by omega
 | d + 1,t,e,hp,hl,h0,h1=>by
  rw [firstN]
  by_cases e' : t = e
  ·subst e';rw [chk_pos hp]
  ·rw [chk_neg (hl t (Nat.le_refl _) (by omega))]
   exact firstN_of hp (fun s a b=>hl s (by omega) b) (by omega) (by omega)
section
variable {w h : Int} {bl : List S48} {os : List (List S48)} {a b : S48}
theorem lev_free (ha : Free w h bl a) : ∀ t,∀ c ∈ lev w h bl os a t,Free w h bl c
 | 0,c,hc=>by rw [lev,List.mem_singleton] at hc;subst hc;exact ha
 | t + 1,c,hc=>by rw [lev] at hc;exact (fil_mem.1 hc).2.1
theorem lev_mem {t : Nat} {c : S48} : c ∈ lev w h bl os a (t + 1) ↔ Free w h bl c ∧ Can os (lev w h bl os a t) ((t + 1 : Nat) : Int) c:=by
 rw [lev,fil_mem,cells_mem]
 exact ⟨fun x=>x.2,fun x=>⟨x.1.1,x⟩⟩
theorem lev_srt : ∀ t,(lev w h bl os a t).Pairwise Bef
 | 0=>by rw [lev];exact List.pairwise_singleton _ _
 | t + 1=>by rw [lev];exact fil_srt (cellsTo_srt _ _)
theorem gdl_srt {e : Nat} : ∀ j,(gdl w h bl os a b e j).Pairwise Bef
 | 0=>by rw [gdl];exact List.pairwise_singleton _ _
 | j + 1=>by rw [gdl];exact fil_srt (lev_srt _)
theorem gi_free (hb : Free w h bl b) {e : Nat} : ∀ {j : Nat} {c : S48},GI w h bl os b e j c → Free w h bl c
 | 0,c,hc=>by obtain rfl : c = b:=hc;exact hb
 | j + 1,c,hc=>by obtain ⟨d,_,hn,_⟩:=hc;exact (nb_iff.1 hn).1
theorem gdl_mem (ha : Free w h bl a) (hb : Free w h bl b) {e : Nat} (he : b ∈ lev w h bl os a e) : ∀ {j : Nat},j ≤ e → ∀ {c : S48},c ∈ gdl w h bl os a b e j ↔ c ∈ lev w h bl os a (e - j) ∧ GI w h bl os b e j c
 | 0,_,c=>by
  rw [gdl,GI,List.mem_singleton]
  exact ⟨fun x=>⟨by rw [x];exact he,x⟩,fun x=>x.2⟩
 | j + 1,hj,c=>by
  rw [gdl,GI,fil_mem]
  have ih := @gdl_mem ha hb e he j (by omega)
  constructor
  ·rintro ⟨hc,d,hd,hn,hh⟩
   exact ⟨hc,d,((ih (c:=d)).1 hd).2,nb_iff.2 ⟨lev_free ha _ c hc,near_comm.1 hn⟩,hh⟩
  ·rintro ⟨hc,d,hd,hn,hh⟩
   refine ⟨hc,d,(ih (c:=d)).2 ⟨?_,hd⟩,near_comm.1 (nb_iff.1 hn).2,hh⟩
   have e1 : e - j = (e - (j + 1)) + 1:=by omega
   rw [e1,lev_mem]
   rw [e1] at hh
   exact ⟨gi_free hb hd,c,hc,near_comm.1 (nb_iff.1 hn).2,hh⟩
/-- The end is reached at minute e just when the sets from behind hold the start. -/
theorem end_iff (ha : Free w h bl a) (hb : Free w h bl b) (e : Nat) : b ∈ lev w h bl os a e ↔ GI w h bl os b e e a:=by
 have key : ∀ j,j ≤ e → ((∃ c,c ∈ lev w h bl os a (e - j) ∧ GI w h bl os b e j c) ↔ b ∈ lev w h bl os a e):=by
  intro j
  induction j with
  | zero =>
   intro _
   constructor
   ·rintro ⟨c,hc,hg⟩;obtain rfl : c = b:=hg;exact hc
   ·intro hb';exact ⟨b,hb',rfl⟩
  | succ j ih =>
   intro hj
   rw [← ih (by omega)]
   have e1 : e - j = (e - (j + 1)) + 1:=by omega
   constructor
   ·rintro ⟨c,hc,d,hd,hn,hh⟩
    refine ⟨d,?_,hd⟩
    rw [e1,lev_mem]
    rw [e1] at hh
    exact ⟨gi_free hb hd,c,hc,near_comm.1 (nb_iff.1 hn).2,hh⟩
   ·rintro ⟨d,hd,hg⟩
    rw [e1,lev_mem] at hd
    obtain ⟨hf,c,hc,hn,hh⟩:=hd
    rw [← e1] at hh
    exact ⟨c,hc,d,hg,nb_iff.2 ⟨lev_free ha _ c hc,near_comm.1 hn⟩,hh⟩
 have:=key e (Nat.le_refl _)
 rw [Nat.sub_self,lev] at this
 rw [← this]
 constructor
 ·rintro ⟨c,hc,hg⟩;rw [List.mem_singleton] at hc;subst hc;exact hg
 ·intro hg;exact ⟨a,List.mem_singleton.2 rfl,hg⟩
theorem nx_eq (ha : Free w h bl a) (hb : Free w h bl b) {e : Nat} (he : b ∈ lev w h bl os a e) {t : Nat} (ht : t < e) {c : S48} (hc : c ∈ lev w h bl os a t) : nxS w h bl os a b e (t + 1) c = nxI w h bl os b e (t + 1) c:=by
 unfold nxS nxI
 refine fnd_eq (gdl_srt _) (nb_srt _ _ _ _) (fun d=>?_)
 rw [gdl_mem ha hb he (by omega),show e - (e - (t + 1)) = t + 1 from by omega,nb_iff]
 constructor
 ·rintro ⟨⟨h1,h2⟩,h3,h4⟩;exact ⟨⟨lev_free ha _ d h1,h3⟩,h2,h4⟩
 ·rintro ⟨⟨h1,h2⟩,h3,h4⟩;exact ⟨⟨lev_mem.2 ⟨h1,c,hc,h2,h4⟩,h3⟩,h2,h4⟩
/-- There is a next cell wherever the end can still be reached. -/
theorem nx_some (ha : Free w h bl a) (hb : Free w h bl b) {e t : Nat} (ht : t < e) {c : S48} (hc : c ∈ lev w h bl os a t) (hg : GI w h bl os b e (e - t) c) : ∃ d,nxI w h bl os b e (t + 1) c = some d ∧ d ∈ lev w h bl os a (t + 1) ∧ GI w h bl os b e (e - (t + 1)) d ∧ Near c d ∧ ¬ HitAt os c d ((t + 1 : Nat) : Int):=by
 have e1 : e - t = (e - (t + 1)) + 1:=by omega
 rw [e1] at hg
 obtain ⟨d,hd,hn,hh⟩:=hg
 rw [show e - (e - (t + 1)) = t + 1 from by omega] at hh
 have hm : d ∈ fil (fun d=>GI w h bl os b e (e - (t + 1)) d ∧ ¬ HitAt os c d ((t + 1 : Nat) : Int)) (nbOf w h bl c):=fil_mem.2 ⟨nb_iff.2 ⟨gi_free hb hd,near_comm.1 (nb_iff.1 hn).2⟩,hd,hh⟩
 cases hf : nxI w h bl os b e (t + 1) c with
 | none =>
  unfold nxI fnd at hf
  rw [List.head?_eq_none_iff] at hf
  rw [hf] at hm
  cases hm
 | some d' =>
  have hf2:=hf
  unfold nxI at hf
  have hm':=fnd_mem hf
  have hnb:=nb_iff.1 hm'.1
  exact ⟨d',rfl,lev_mem.2 ⟨hnb.1,c,hc,hnb.2,hm'.2.2⟩,hm'.2.1,hnb.2,hm'.2.2⟩
/-- What is known of the path that is made. -/
structure PathI (w h : Int) (bl : List S48) (os : List (List S48)) (a b : S48) (e t : Nat) (p : List S48) : Prop where
 len : p.length = t + 1
 hd : rd_T48 p 0 = a
 on : ∀ s : Nat,s ≤ t → rd_T48 p (s : Int) ∈ lev w h bl os a s ∧ GI w h bl os b e (e - s) (rd_T48 p (s : Int))
 step : ∀ s : Nat,s < t → Near (rd_T48 p (s : Int)) (rd_T48 p ((s + 1 : Nat) : Int)) ∧ ¬ HitAt os (rd_T48 p (s : Int)) (rd_T48 p ((s + 1 : Nat) : Int)) ((s + 1 : Nat) : Int)
theorem rd_app_lt {p : List S48} {c : S48} {i : Nat} (hi : i < p.length) : rd_T48 (p ++ [c]) (i : Int) = rd_T48 p (i : Int):=by
 unfold rd_T48
 rw [Int.toNat_natCast,List.getD_eq_getElem?_getD,List.getD_eq_getElem?_getD,List.getElem?_append_left hi]
theorem rd_app_eq {p : List S48} {c : S48} {i : Nat} (hi : i = p.length) : rd_T48 (p ++ [c]) (i : Int) = c:=by
 unfold rd_T48
 subst hi
 rw [Int.toNat_natCast,List.getD_eq_getElem?_getD,List.getElem?_append_right (Nat.le_refl _),Nat.sub_self]
 rfl
theorem trace_both (ha : Free w h bl a) (hb : Free w h bl b) {e : Nat} (he : b ∈ lev w h bl os a e) : ∀ t,t ≤ e → ∃ p,trace (nxI w h bl os b e) a t = some p ∧ trace (nxS w h bl os a b e) a t = some p ∧ PathI w h bl os a b e t p
 | 0,_=>⟨[a],rfl,rfl,rfl,rfl,fun s hs=>by
   obtain rfl : s = 0:=by omega
   exact ⟨by rw [lev];exact List.mem_singleton.2 rfl,(end_iff ha hb e).1 he⟩,fun s hs=>by omega⟩
 | t + 1,ht=>by
  obtain ⟨p,h1,h2,hp⟩:=trace_both ha hb he t (by omega)
  obtain ⟨hc,hg⟩:=hp.on t (Nat.le_refl _)
  obtain ⟨d,hd,hl,hgd,hn,hh⟩:=nx_some ha hb (show t < e by omega) hc hg
  refine ⟨p ++ [d],trace_step h1 hd,trace_step h2 (by rw [nx_eq ha hb he (by omega) hc];exact hd),?_,?_,?_,?_⟩
  ·rw [List.length_append,hp.len];rfl
  ·have:=rd_app_lt (c:=d) (i:=0) (p:=p) (by rw [hp.len];omega)
   exact this.trans hp.hd
  ·intro s hs
   by_cases e1 : s = t + 1
   ·subst e1
    rw [rd_app_eq hp.len.symm]
    exact ⟨hl,hgd⟩
   ·rw [rd_app_lt (by rw [hp.len];omega)]
    exact hp.on s (by omega)
  ·intro s hs
   by_cases e1 : s = t
   ·subst e1
    rw [rd_app_eq hp.len.symm,rd_app_lt (by rw [hp.len];omega)]
    exact ⟨hn,hh⟩
   ·rw [rd_app_lt (by rw [hp.len];omega),rd_app_lt (by rw [hp.len];omega)]
    exact hp.step s (by omega)
end
/-- The answer: the first shortest path beside the others, if there is one. -/
noncomputable def safeP (w h : Int) (bl : List S48) (os : List (List S48)) (a b : S48) : Option (List S48):=chk (HitAt os a a 0) none ((firstN (EndS w h bl os a b) 25 0).bind fun e=>trace (nxS w h bl os a b e) a e)
/-- The same as the program finds it. -/
def EndI (w h : Int) (bl : List S48) (os : List (List S48)) (a b : S48) (e : Nat) : Prop:=(∀ s : Nat,e ≤ s → s ≤ 25 → ¬ ∃ p ∈ os,cat p (s : Int) = b) ∧ GI w h bl os b e e a
noncomputable def safeI (w h : Int) (bl : List S48) (os : List (List S48)) (a b : S48) : Option (List S48):=chk (HitAt os a a 0) none ((firstN (EndI w h bl os a b) 25 0).bind fun e=>trace (nxI w h bl os b e) a e)
theorem cat_last {p : List S48} (h1 : 1 ≤ (p.length : Int)) (h2 : (p.length : Int) ≤ 25) : cat p 25 = cat p 24:=by
 unfold cat mn
 rw [if_pos (by omega)]
 by_cases e : (p.length : Int) - 1 < 24
 ·rw [if_pos e]
 ·rw [if_neg e];congr 1;omega
theorem end_eq {w h : Int} {bl : List S48} {os : List (List S48)} {a b : S48} (ha : Free w h bl a) (hb : Free w h bl b) (ho : ∀ p ∈ os,1 ≤ (p.length : Int) ∧ (p.length : Int) ≤ 25) {e : Nat} (he : e ≤ 24) : EndS w h bl os a b e ↔ EndI w h bl os a b e:=by
 unfold EndS EndI
 rw [end_iff ha hb e,and_comm]
 refine and_congr ⟨fun hr s h0 h1=>?_,fun hr s h0 h1 hh=>hr s h0 (by omega) (hitAt_same.1 hh)⟩ Iff.rfl
 rintro ⟨p,hp,hc⟩
 by_cases e1 : s = 25
 ·subst e1
  exact hr 24 he (Nat.le_refl _) (hitAt_same.2 ⟨p,hp,by rw [← hc];exact (cat_last (ho p hp).1 (ho p hp).2).symm⟩)
 ·exact hr s h0 (by omega) (hitAt_same.2 ⟨p,hp,hc⟩)
theorem firstN_congr {P Q : Nat → Prop} : ∀ {d t : Nat},(∀ s,t ≤ s → s < t + d → (P s ↔ Q s)) → firstN P d t = firstN Q d t
 | 0,t,_=>rfl
 | d + 1,t,h=>by
  rw [firstN,firstN,chk_congr (h t (Nat.le_refl _) (by omega)),firstN_congr (fun s a b=>h s (by omega) (by omega))]
theorem safe_eq {w h : Int} {bl : List S48} {os : List (List S48)} {a b : S48} (ha : Free w h bl a) (hb : Free w h bl b) (ho : ∀ p ∈ os,1 ≤ (p.length : Int) ∧ (p.length : Int) ≤ 25) : safeI w h bl os a b = safeP w h bl os a b:=by
 unfold safeI safeP
 rw [firstN_congr (P:=EndI w h bl os a b) (Q:=EndS w h bl os a b) (fun s _ h1=>(end_eq ha hb ho (by omega)).symm)]
 congr 1
 cases hf : firstN (EndS w h bl os a b) 25 0 with
 | none=>rfl
 | some e =>
  obtain ⟨p,h1,h2,_⟩:=trace_both ha hb (firstN_some hf).1.1 e (Nat.le_refl _)
  show trace _ a e = trace _ a e
  rw [h1,h2]
end Go.Proofs.Ytbpccdbkaiigcaa.G

/- The path along falling numbers of steps, as a pure function. -/
namespace Go.Proofs.Ytbpccdbkaiigcaa.G
open Go.RowKit Go.Proofs.YtbpccdbkaiigcaaW.PrintWords Go.Proofs.YtbpccdbkaiigcaaW.PrintLast Go.Proofs.YtbpccdbkaiigcaaW.PrintMore
set_option linter.unusedVariables false
set_option linter.unusedSimpArgs false
/-- The first of the cells whose number is x (what is not in the map reads 0). -/
def firstAt (m : Mp) (x : Int) : List S48 → Option S48
 | []=>none
 | d :: ds=>if (m d).getD 0 = x then some d else firstAt m x ds
/-- The path p, led on while n steps are left. -/
def leadOn (nb : S48 → List S48) (m : Mp) : Nat → List S48 → List S48
 | 0,p=>p
 | n + 1,p=>match firstAt m (n : Int) (nb (rd_T48 p ((p.length : Int) - 1))) with
  | some c=>leadOn nb m n (p ++ [c])
  | none=>leadOn nb m n p
/-- What the path's walk holds of the world. -/
structure SR (w0 w : World) (fc : Array Value) (g2 b n : Nat) (m : Mp) (v6 : Value) (l : List S48) (vn : Value) (ds : List S48) : Prop where
 fl : w.heap[g2]? = some (.cells fc 29 (0,0))
 mp : MapI w b n m
 mb : w0.heap.size ≤ b
 gb : w0.heap.size ≤ g2
 ln : Kd.R k48 48 w w0.heap.size (fun k=>k ≠ b ∧ k ≠ g2) v6 l
 nb : Kd.R k48 48 w w0.heap.size (fun k=>(k ≠ b ∧ k ≠ g2) ∧ some k ≠ v6.ownBlock) vn ds
 bl : Below w0.heap.size w0 w
theorem SR.below {w0 w w1 : World} {fc : Array Value} {g2 b n : Nat} {m : Mp} {v6 vn : Value} {l ds : List S48} (h : SR w0 w fc g2 b n m v6 l vn ds) (hb : Below w.heap.size w w1) : SR w0 w1 fc g2 b n m v6 l vn ds :=
 ⟨blk_below h.fl hb,h.mp.below hb,h.mb,h.gb,Kd.R_below h.ln hb,Kd.R_below h.nb hb,below_step h.bl hb⟩
theorem SR.put {w0 w w1 : World} {fc : Array Value} {g2 b n n' : Nat} {m m' : Mp} {v6 vn : Value} {l ds : List S48} (h : SR w0 w fc g2 b n m v6 l vn ds) (hm : MapI w1 b n' m') (hg : w.grownBy w1 (some b)) : SR w0 w1 fc g2 b n' m' v6 l vn ds :=
 ⟨(hg.block g2 (blk_lt h.fl) (fun e=>h.mp.cells h.fl (Option.some.inj e).symm)).trans h.fl,hm,h.mb,h.gb,Kd.R_grown h.ln hg (fun k hk e=>hk.1 (Option.some.inj e)),Kd.R_grown h.nb hg (fun k hk e=>hk.1.1 (Option.some.inj e)),h.bl.grown hg h.bl.size (fun k hk=>by cases hk;exact h.mb)⟩
theorem SR.app {w0 w w1 : World} {fc : Array Value} {g2 b n : Nat} {m : Mp} {v6 v7 vn : Value} {l l' ds : List S48} (h : SR w0 w fc g2 b n m v6 l vn ds) (hq : Kd.R k48 48 w1 w0.heap.size (fun k=>k ≠ b ∧ k ≠ g2) v7 l') (hb : Below w0.heap.size w0 w1) (hg : w.grownBy w1 v6.ownBlock) (hat : v7.ownBlock = v6.ownBlock ∨ ∃ b,v7.ownBlock = some b ∧ w.heap.size ≤ b) : SR w0 w1 fc g2 b n m v7 l' vn ds :=
 ⟨(hg.block g2 (blk_lt h.fl) (Kd.R_ne h.ln h.fl (by decide))).trans h.fl,h.mp.grown hg (Kd.R_away h.ln (fun k hk=>hk.1)),h.mb,h.gb,hq,Kd.R_after h.nb hg hat,hb⟩
/-- The neighbours have come: their list is a new one. -/
theorem SR.near {w0 w w1 : World} {fc : Array Value} {g2 b n : Nat} {m : Mp} {v6 vn vn' : Value} {l ds ds' : List S48} (h : SR w0 w fc g2 b n m v6 l vn ds) (hb : Below w.heap.size w w1) (hr : Kd.R k48 48 w1 w.heap.size (fun _=>True) vn' ds') : SR w0 w1 fc g2 b n m v6 l vn' ds' :=
 have h':=h.below hb
 ⟨h'.fl,h'.mp,h.mb,h.gb,h'.ln,Kd.R_lower (Kd.R_mono (Kd.R_bound hr) (fun k hk=>⟨⟨fun e=>by have:=h.mp.lt;have:=hk.2.1;omega,fun e=>by have:=blk_lt h.fl;have:=hk.2.1;omega⟩,fun e=>by have:=Kd.R_lt h.ln k e.symm;have:=hk.2.1;omega⟩)) h.bl.size,h'.bl⟩
end Go.Proofs.Ytbpccdbkaiigcaa.G

/- The path along falling numbers of steps is the first shortest path. -/
namespace Go.Proofs.Ytbpccdbkaiigcaa.G
open Go.RowKit Go.Proofs.YtbpccdbkaiigcaaW.PrintWords Go.Proofs.YtbpccdbkaiigcaaW.PrintLast
set_option linter.unusedVariables false
set_option linter.unusedSimpArgs false
section
variable {w h : Int} {bl : List S48} {a b : S48}
end
/-- What ShortestPath answers. -/
noncomputable def safeR (w h : Int) (bl : List S48) (os : List (List S48)) (a b : S48) : List S48 × Bool:=match safeP w h bl os a b with
 | some p=>(p,true)
 | none=>([],false)
theorem safeR_some {w h : Int} {bl : List S48} {os : List (List S48)} {a b : S48} {p : List S48} (e : safeP w h bl os a b = some p) : safeR w h bl os a b = (p,true):=by unfold safeR;rw [e]
theorem safeR_none {w h : Int} {bl : List S48} {os : List (List S48)} {a b : S48} (e : safeP w h bl os a b = none) : safeR w h bl os a b = ([],false):=by unfold safeR;rw [e]
noncomputable def shortR (w h : Int) (bl : List S48) (a b : S48) : List S48 × Bool:=chk (FloorOk w h bl ∧ Free w h bl a ∧ Free w h bl b) (safeR w h bl [] a b) ([],false)
end Go.Proofs.Ytbpccdbkaiigcaa.G

-- Written by wip/tools/gen.py out of the translation (the kit's printer, one namespace a seat). Lean checks it.
namespace Go.Proofs.Ytbpccdbkaiigcaa.G
open Go.RowKit Go.Proofs.YtbpccdbkaiigcaaW.PrintWords Go.Proofs.YtbpccdbkaiigcaaW.PrintLast Go.Proofs.YtbpccdbkaiigcaaW.PrintMore
attribute [local go_sem] max2_int min2_int max_two min_two max_three min_three max_four min_four   -- for this text's walks alone
set_option linter.unusedVariables false
set_option linter.unusedSimpArgs false

attribute [local go_sem high] eqA48
/-! ### spec_l16Clear: function 91 -/
def spec_l16Clear.l0:Nat → List (List (S48)) → Int → Int → Int → Int → Int → Int → Option (Bool)
 | 0,_,_,_,_,_,_,_=>none
 | k + 1,x0,x3,x9,x471000,x471001,x472000,x472001=>if x9 < (x0.length:Int) then (if 0 ≤ x9 then ((spec_l16At.f (rd_L6 x0 x9) x3).bind fun bt473=>(if (bt473.1 == x472000 && (bt473.2 == x472001)) = true then (some false) else (if x3 > 0 then ((spec_l16At.f (rd_L6 x0 x9) x3).bind fun bt476=>(if (bt476.1 == x471000 && (bt476.2 == x471001)) = true then ((spec_l16At.f (rd_L6 x0 x9) (wrap64 (x3 - 1))).bind fun bt479=>(if (bt479.1 == x472000 && (bt479.2 == x472001)) = true then (some false) else (spec_l16Clear.l0 k x0 x3 (wrap64 (x9 + 1)) x471000 x471001 x472000 x472001))) else (spec_l16Clear.l0 k x0 x3 (wrap64 (x9 + 1)) x471000 x471001 x472000 x472001))) else (spec_l16Clear.l0 k x0 x3 (wrap64 (x9 + 1)) x471000 x471001 x472000 x472001)))) else (none)) else (some true)
def spec_l16Clear.f (k:Nat) (l0:List (List (S48))) (a1_0:Int) (a1_1:Int) (a2_0:Int) (a2_1:Int) (a3:Int):Option (Bool):=spec_l16Clear.l0 k l0 a3 0 a1_0 a1_1 a2_0 a2_1
def spec_l16Clear.T4:Bool × List (List Nat × List Nat):=(true,[([],[]),([],[]),([0,1],[0,1]),([2],[2]),([],[]),([3,4],[3,4]),([],[]),([5,6],[5,6])])
def spec_l16Clear.B4:List Nat:=[0,0,3,7,0,31,0,127]
theorem spec_l16Clear.tab4:rtab .any (opsOf Try.f91 4) = spec_l16Clear.T4:=by kernel_rfl
theorem spec_l16Clear.bits4:waitsOk spec_l16Clear.T4.2 spec_l16Clear.B4 = true:=by kernel_rfl
def spec_l16Clear.T6:Bool × List (List Nat × List Nat):=(true,[([],[]),([0],[0]),([1],[1]),([2],[2]),([2],[2]),([3,4,2],[2,3,4]),([5,2],[2,5]),([2],[2]),([6,7,2,2],[2,6,7]),([2],[2]),([8,9,2],[2,8,9]),([2,10],[2,10]),([11,8],[11]),([12],[12]),([12],[12]),([13,14,12],[12,13,14]),([15,12],[12,15]),([12],[12]),([17,12],[12,17]),([16,18,12,12],[12,16,18]),([12],[12]),([19,20,12],[12,19,20]),([12,21],[12,21])])
def spec_l16Clear.B6:List Nat:=[0,1,3,7,7,31,63,7,255,7,1023,2047,4095,8191,8191,32767,65535,8191,139263,524287,8191,2097151,4194303]
theorem spec_l16Clear.tab6:rtab .any (opsOf Try.f91 6) = spec_l16Clear.T6:=by kernel_rfl
theorem spec_l16Clear.bits6:waitsOk spec_l16Clear.T6.2 spec_l16Clear.B6 = true:=by kernel_rfl
set_option maxHeartbeats 8000000 in
set_option maxRecDepth 100000 in
theorem spec_l16Clear.calls (k:Nat) (A0:Option Addr) (c0:Nat) (l0:List (List (S48))) (a1_0:Int) (a1_1:Int) (a2_0:Int) (a2_1:Int) (a3:Int) (r:Bool) (w:World) (hr0:Kd.C (Kd.slice 48 k48) w A0 l0.length l0) (hc0:l0.length ≤ c0) (h:spec_l16Clear.f k l0 a1_0 a1_1 a2_0 a2_1 a3 = some r) :
  Calls Try.prog 91 #[.slice A0 l0.length c0,.agg #[.int .i64 a1_0,.int .i64 a1_1],.agg #[.int .i64 a2_0,.int .i64 a2_1],.int .i64 a3] w fun e w'=>e = .returned (.bool r) ∧ Below w.heap.size w w':=by
 have hu48:=Try.underlying48;have HR0:=zM hr0;have HC0:=zM hc0;clear hr0 hc0;have HB:=zM (Below.refl w.heap.size w);have H:(spec_l16Clear.l0 k l0 a3 0 a1_0 a1_1 a2_0 a2_1) = some r:=h
 clear h;have H':=zM H;clear H;go_enter Try.func91,Try.ntmps91
 go_wp2_with (first|((with_reducible refine gate_dst (N:=5) rfl ?_);refine zzc 5 #[.int .i64 a1_0,.int .i64 a1_1] 48 ?_;intro gb470 hg w5 hbox hb;have n0_:=zM (zQ zzh hb);have n1_:=zM (hbox);have n2_:=zM ((by rw [hg];exact (zR zzh):w.heap.size ≤ gb470));have n3_:=zM ((by rw [hg];exact (zR zzh):w.heap.size ≤ gb470));clear HB;have HB:=n0_;have BK470:=n1_;have GW470:=n2_;have GE470:=n3_;clear n0_ n1_ n2_ n3_;clear hb hbox hg)|((with_reducible refine gate_dst (N:=6) rfl ?_);refine zzc 6 #[.int .i64 a2_0,.int .i64 a2_1] 48 ?_;intro gb471 hg w6 hbox hb;have n0_:=zM (blk_below (g:=gb470) (o := .cells #[.int .i64 a1_0,.int .i64 a1_1] 48 (0,0)) (zzi BK470) hb);have n1_:=zM (zQ zzh hb);have n2_:=zM (hbox);have n3_:=zM ((by rw [hg];exact (zR zzh):w.heap.size ≤ gb471));have n4_:=zM ((by rw [hg];exact (zR zzh):w.heap.size ≤ gb471));have n5_:=zM ((by rw [hg];exact Nat.ne_of_lt (blk_lt (g:=gb470) (o := .cells #[.int .i64 a1_0,.int .i64 a1_1] 48 (0,0)) (zzi BK470)):gb470 ≠ gb471));have n6_:=zM ((by rw [hg];exact Nat.ne_of_gt (blk_lt (g:=gb470) (o := .cells #[.int .i64 a1_0,.int .i64 a1_1] 48 (0,0)) (zzi BK470)):gb471 ≠ gb470));clear BK470;clear HB;have BK470:=n0_;have HB:=n1_;have BK471:=n2_;have GW471:=n3_;have GE471:=n4_;have NB470_471:=n5_;have NB471_470:=n6_;clear n0_ n1_ n2_ n3_ n4_ n5_ n6_;clear hb hbox hg))
 go_loopg [9] k (fun kq v9 w' => ∃ (x9_1:Int),v9 = .int .i64 x9_1 ∧ Aside0 (spec_l16Clear.l0 kq l0 a3 x9_1 a1_0 a1_1 a2_0 a2_1 = some r) ∧ Aside0 (kq ≤ k) ∧ Aside0 (w'.heap[gb470]? = some (.cells #[.int .i64 a1_0,.int .i64 a1_1] 48 (0,0))) ∧ Aside0 (w'.heap[gb471]? = some (.cells #[.int .i64 a2_0,.int .i64 a2_1] 48 (0,0))) ∧ Aside0 (Below w.heap.size w w'))
 case atStart=>exact ⟨(0),(by first|rfl|(simp;done)|(simp [*];done)),H',⟨Nat.le_refl _⟩,⟨zzi BK470⟩,⟨zzi BK471⟩,⟨zzh⟩⟩
 case round =>
  clear H';(try clear p2);obtain ⟨x9_1,rfl,HA,HK1,BK470,BK471,HB⟩:=hrel;cases gk with
  | zero=>exact absurd HA.out (by simp [spec_l16Clear.l0])
  | succ k1 =>
   have H:=HA.out;clear HA;simp only [spec_l16Clear.l0] at H
   by_cases c7:x9_1 < (l0.length:Int)
   ·rw [if_pos c7] at H
    have c7b0:decide (x9_1 < (l0.length:Int)) = true:=decide_eq_true c7
    clear c7;by_cases c8:0 ≤ x9_1
    ·rw [if_pos c8] at H
     have c8b0:decide (0 ≤ x9_1) = true:=decide_eq_true c8
     clear c8;replace H:=Option.bind_eq_some_iff.mp H;obtain ⟨⟨t473,t474⟩,A90,H⟩:=H;replace H:(if (t473 == a2_0 && (t474 == a2_1)) = true then (some false) else (if a3 > 0 then ((spec_l16At.f (rd_L6 l0 x9_1) a3).bind fun bt476=>(if (bt476.1 == a1_0 && (bt476.2 == a1_1)) = true then ((spec_l16At.f (rd_L6 l0 x9_1) (wrap64 (a3 - 1))).bind fun bt479=>(if (bt479.1 == a2_0 && (bt479.2 == a2_1)) = true then (some false) else (spec_l16Clear.l0 k1 l0 a3 (wrap64 (x9_1 + 1)) a1_0 a1_1 a2_0 a2_1))) else (spec_l16Clear.l0 k1 l0 a3 (wrap64 (x9_1 + 1)) a1_0 a1_1 a2_0 a2_1))) else (spec_l16Clear.l0 k1 l0 a3 (wrap64 (x9_1 + 1)) a1_0 a1_1 a2_0 a2_1))) = some r:=H
     have A9:=zM A90;clear A90;by_cases c10:(t473 == a2_0 && (t474 == a2_1)) = true
     ·rw [if_pos c10] at H
      have c10b0:(t473 == a2_0 && (t474 == a2_1)) = true:=c10
      (try (have c10b1:decide (t473 = a2_0 && (t474 == a2_1)) = true:=by simpa using c10))
      (try (have c10b2:(t473 == a2_0 && (t474 == a2_1)) = true:=by simpa using c10))
      clear c10;obtain rfl:=Option.some.inj H;try go_wp2
      have n0_:=zM (zK BK470.out);have n1_:=zM (zK BK471.out);have n2_:=zM (zF HB.out);clear BK470;clear BK471;clear HB;have BK470:=n0_;have BK471:=n1_;have HB:=n2_;clear n0_ n1_ n2_;have p472:0 ≤ (x9_1:Int):=zzd
      have q472:x9_1 < (l0.length:Int):=zzd
      obtain ⟨ad472,A472_0,c472_0,e472,hx472_0,hl472_0,hi472_0⟩:=at_L6 HR0.out x9_1 p472 q472;have hw472_0:=hx472_0;cases e472
      replace hx472_0:=zS HB.out hx472_0;have HR472_0:=zM hi472_0;have HC472_0:=zM hl472_0;clear hi472_0 hl472_0;replace p472:=eq_true p472;replace q472:=eq_true q472;refine start_ (n:=8) (S:=fun w'=>w'.cell? ⟨gb471,0,none⟩ = some (.int .i64 a2_0) ∧ w'.cell? ⟨gb471,1,none⟩ = some (.int .i64 a2_1) ∧ w'.cell? (ad472.add (x9_1).toNat) = some (.slice A472_0 (rd_L6 l0 x9_1).length c472_0)) (ds:=[]) #[false,false,false,false,false,false,false,false] (by kernel_rfl) rfl rfl ⟨zz0 BK471,zz1 BK471,(zS HB.out hw472_0 :)⟩ (fun hHeld=>?_);refine with_tabW spec_l16Clear.tab4 spec_l16Clear.bits4 (fun HT_ HW_=>?_)
      generalize wr.drew = w11 at BK470 BK471 HB HR472_0 hx472_0 hHeld ⊢
      refine zzp 0 16 (zzb 8 1) ?_ (hc:=zzx HT_);refine zzp 1 17 (zzb 8 3) ?_ (hc:=zzx HT_);refine zzp 2 18 (zzb 8 7) ?_ (hc:=zzx HT_);refine zzp 4 20 (zzb 8 23) ?_ (hc:=zzx HT_)
      refine zzt 3 19 (zzb 8 31) hHeld ?_ (hc:=zzy HT_ HW_) (hy:=by rintro w' ⟨s0,s1,s2⟩;go_simp;with_reducible rfl)
      refine zzt 6 22 (zzb 8 95) hHeld ?_ (hc:=zzy HT_ HW_) (hy:=by rintro w' ⟨s0,s1,s2⟩;go_simp;with_reducible rfl)
      refine zzo 5 21 (zzb 8 127) (hc:=zzw HT_) (fun K hK=>?_)
      refine zzf Try.func98 #[.slice A472_0 (rd_L6 l0 x9_1).length c472_0,.int .i64 a3] ?_
      with_reducible refine (spec_l16At.calls _ _ (rd_L6 l0 x9_1) a3 t473 t474 _ ?side1 ?side2 A9.out).mono ?_
      (case side1=>repeat (first|exact (zO HR472_0.out HB.out)|(with_reducible first|refine zG ?_ _|refine zH ?_ _|refine zI ?_)))
      (case side2=>exact HC472_0.out)
      rintro e w12 ⟨rfl,hb⟩
      refine ⟨_,rfl,?_⟩
      have n0_:=zM (blk_below (g:=gb470) (o := .cells #[.int .i64 a1_0,.int .i64 a1_1] 48 (0,0)) (zzi BK470) hb)
      have n1_:=zM (blk_below (g:=gb471) (o := .cells #[.int .i64 a2_0,.int .i64 a2_1] 48 (0,0)) (zzi BK471) hb)
      have n2_:=zM (zQ zzh hb)
      clear BK470;clear BK471;clear HB;have BK470:=n0_;have BK471:=n1_;have HB:=n2_;clear n0_ n1_ n2_;(try clear hb)
      (try clear hb2)
      (try clear hk)
      (try clear hi)
      refine hK.out _ _ ⟨zz0 BK471,zz1 BK471,(zS HB.out hw472_0 :)⟩ (fun hHeld=>?_)
      clear hK K;refine zzn 21 ?_;refine zzp 7 23 (zzb 8 255) ?_ (hc:=zzx HT_)
      refine done_ (done_of HT_.out (by kernel_rfl)) ?_
      try go_wp2
      go_ret
      exact ⟨by first|rfl|(simp [errW_none,errW_some] <;> rfl)|(simp [*,errW_none,errW_some] <;> rfl),zzh⟩
     ·rw [if_neg c10] at H
      have c10b0:(t473 == a2_0 && (t474 == a2_1)) = false:=by simpa using c10
      (try (have c10b1:decide (t473 = a2_0 && (t474 == a2_1)) = false:=by simpa using c10))
      (try (have c10b2:(t473 == a2_0 && (t474 == a2_1)) = false:=by simpa using c10))
      (try (have c10b3:¬ (t473 = a2_0 && (t474 == a2_1)):=by simpa using c10))
      clear c10;by_cases c13:a3 > 0
      ·rw [if_pos c13] at H
       have c13b0:decide (0 < a3) = true:=decide_eq_true c13
       clear c13;replace H:=Option.bind_eq_some_iff.mp H;obtain ⟨⟨t476,t477⟩,A140,H⟩:=H;replace H:(if (t476 == a1_0 && (t477 == a1_1)) = true then ((spec_l16At.f (rd_L6 l0 x9_1) (wrap64 (a3 - 1))).bind fun bt479=>(if (bt479.1 == a2_0 && (bt479.2 == a2_1)) = true then (some false) else (spec_l16Clear.l0 k1 l0 a3 (wrap64 (x9_1 + 1)) a1_0 a1_1 a2_0 a2_1))) else (spec_l16Clear.l0 k1 l0 a3 (wrap64 (x9_1 + 1)) a1_0 a1_1 a2_0 a2_1)) = some r:=H
       have A14:=zM A140;clear A140;by_cases c15:(t476 == a1_0 && (t477 == a1_1)) = true
       ·rw [if_pos c15] at H
        have c15b0:(t476 == a1_0 && (t477 == a1_1)) = true:=c15
        (try (have c15b1:decide (t476 = a1_0 && (t477 == a1_1)) = true:=by simpa using c15))
        (try (have c15b2:(t476 == a1_0 && (t477 == a1_1)) = true:=by simpa using c15))
        clear c15;replace H:=Option.bind_eq_some_iff.mp H;obtain ⟨⟨t479,t480⟩,A160,H⟩:=H;replace H:(if (t479 == a2_0 && (t480 == a2_1)) = true then (some false) else (spec_l16Clear.l0 k1 l0 a3 (wrap64 (x9_1 + 1)) a1_0 a1_1 a2_0 a2_1)) = some r:=H
        have A16:=zM A160;clear A160;by_cases c17:(t479 == a2_0 && (t480 == a2_1)) = true
        ·rw [if_pos c17] at H
         have c17b0:(t479 == a2_0 && (t480 == a2_1)) = true:=c17
         (try (have c17b1:decide (t479 = a2_0 && (t480 == a2_1)) = true:=by simpa using c17))
         (try (have c17b2:(t479 == a2_0 && (t480 == a2_1)) = true:=by simpa using c17))
         clear c17;obtain rfl:=Option.some.inj H;try go_wp2
         have n0_:=zM (zK BK470.out);have n1_:=zM (zK BK471.out);have n2_:=zM (zF HB.out);clear BK470;clear BK471;clear HB;have BK470:=n0_;have BK471:=n1_;have HB:=n2_;clear n0_ n1_ n2_;have p472:0 ≤ (x9_1:Int):=zzd
         have q472:x9_1 < (l0.length:Int):=zzd
         obtain ⟨ad472,A472_0,c472_0,e472,hx472_0,hl472_0,hi472_0⟩:=at_L6 HR0.out x9_1 p472 q472;have hw472_0:=hx472_0;cases e472
         replace hx472_0:=zS HB.out hx472_0;have HR472_0:=zM hi472_0;have HC472_0:=zM hl472_0;clear hi472_0 hl472_0;replace p472:=eq_true p472;replace q472:=eq_true q472;refine start_ (n:=8) (S:=fun w'=>w'.cell? ⟨gb471,0,none⟩ = some (.int .i64 a2_0) ∧ w'.cell? ⟨gb471,1,none⟩ = some (.int .i64 a2_1) ∧ w'.cell? (ad472.add (x9_1).toNat) = some (.slice A472_0 (rd_L6 l0 x9_1).length c472_0)) (ds:=[]) #[false,false,false,false,false,false,false,false] (by kernel_rfl) rfl rfl ⟨zz0 BK471,zz1 BK471,(zS HB.out hw472_0 :)⟩ (fun hHeld=>?_);refine with_tabW spec_l16Clear.tab4 spec_l16Clear.bits4 (fun HT_ HW_=>?_)
         generalize wr.drew = w18 at BK470 BK471 HB HR472_0 hx472_0 hHeld ⊢
         refine zzp 0 16 (zzb 8 1) ?_ (hc:=zzx HT_);refine zzp 1 17 (zzb 8 3) ?_ (hc:=zzx HT_);refine zzp 2 18 (zzb 8 7) ?_ (hc:=zzx HT_);refine zzp 4 20 (zzb 8 23) ?_ (hc:=zzx HT_)
         refine zzt 3 19 (zzb 8 31) hHeld ?_ (hc:=zzy HT_ HW_) (hy:=by rintro w' ⟨s0,s1,s2⟩;go_simp;with_reducible rfl)
         refine zzt 6 22 (zzb 8 95) hHeld ?_ (hc:=zzy HT_ HW_) (hy:=by rintro w' ⟨s0,s1,s2⟩;go_simp;with_reducible rfl)
         refine zzo 5 21 (zzb 8 127) (hc:=zzw HT_) (fun K hK=>?_)
         refine zzf Try.func98 #[.slice A472_0 (rd_L6 l0 x9_1).length c472_0,.int .i64 a3] ?_
         with_reducible refine (spec_l16At.calls _ _ (rd_L6 l0 x9_1) a3 t473 t474 _ ?side1 ?side2 A9.out).mono ?_
         (case side1=>repeat (first|exact (zO HR472_0.out HB.out)|(with_reducible first|refine zG ?_ _|refine zH ?_ _|refine zI ?_)))
         (case side2=>exact HC472_0.out)
         rintro e w19 ⟨rfl,hb⟩
         refine ⟨_,rfl,?_⟩
         have n0_:=zM (blk_below (g:=gb470) (o := .cells #[.int .i64 a1_0,.int .i64 a1_1] 48 (0,0)) (zzi BK470) hb)
         have n1_:=zM (blk_below (g:=gb471) (o := .cells #[.int .i64 a2_0,.int .i64 a2_1] 48 (0,0)) (zzi BK471) hb)
         have n2_:=zM (zQ zzh hb)
         clear BK470;clear BK471;clear HB;have BK470:=n0_;have BK471:=n1_;have HB:=n2_;clear n0_ n1_ n2_;(try clear hb)
         (try clear hb2)
         (try clear hk)
         (try clear hi)
         refine hK.out _ _ ⟨zz0 BK471,zz1 BK471,(zS HB.out hw472_0 :)⟩ (fun hHeld=>?_)
         clear hK K;refine zzn 21 ?_;refine zzp 7 23 (zzb 8 255) ?_ (hc:=zzx HT_)
         refine done_ (done_of HT_.out (by kernel_rfl)) ?_
         try go_wp2
         have n0_:=zM (zK BK470.out);have n1_:=zM (zK BK471.out);have n2_:=zM (zF HB.out);clear BK470;clear BK471;clear HB;have BK470:=n0_;have BK471:=n1_;have HB:=n2_;clear n0_ n1_ n2_;have p475:0 ≤ (x9_1:Int):=zzd
         have q475:x9_1 < (l0.length:Int):=zzd
         obtain ⟨ad475,A475_0,c475_0,e475,hx475_0,hl475_0,hi475_0⟩:=at_L6 HR0.out x9_1 p475 q475;have hw475_0:=hx475_0;obtain rfl:ad472 = ad475:=(by injection e475)
         replace hx475_0:=zS HB.out hx475_0;have HR475_0:=zM hi475_0;have HC475_0:=zM hl475_0;clear hi475_0 hl475_0;replace p475:=eq_true p475;replace q475:=eq_true q475;have p478:0 ≤ (x9_1:Int):=zzd
         have q478:x9_1 < (l0.length:Int):=zzd
         obtain ⟨ad478,A478_0,c478_0,e478,hx478_0,hl478_0,hi478_0⟩:=at_L6 HR0.out x9_1 p478 q478;have hw478_0:=hx478_0;obtain rfl:ad472 = ad478:=(by injection e478)
         (have hj2_:=Option.some.inj (hw475_0.symm.trans hw478_0);injection hj2_ with hjA_ hjN_ hjC_;subst hjA_;subst hjC_)
         replace hx478_0:=zS HB.out hx478_0;have HR478_0:=zM hi478_0;have HC478_0:=zM hl478_0;clear hi478_0 hl478_0;replace p478:=eq_true p478;replace q478:=eq_true q478;refine start_ (n:=23) (S:=fun w'=>w'.cell? ⟨gb470,0,none⟩ = some (.int .i64 a1_0) ∧ w'.cell? ⟨gb470,1,none⟩ = some (.int .i64 a1_1) ∧ w'.cell? ⟨gb471,0,none⟩ = some (.int .i64 a2_0) ∧ w'.cell? ⟨gb471,1,none⟩ = some (.int .i64 a2_1) ∧ w'.cell? (ad472.add (x9_1).toNat) = some (.slice A475_0 (rd_L6 l0 x9_1).length c475_0) ∧ w'.cell? (ad472.add (x9_1).toNat) = some (.slice A475_0 (rd_L6 l0 x9_1).length c475_0)) (ds:=[]) #[false,false,false,false,false,false,false,false,false,false,false,false,false,false,false,false,false,false,false,false,false,false,false] (by kernel_rfl) rfl rfl ⟨zz0 BK470,zz1 BK470,zz0 BK471,zz1 BK471,(zS HB.out hw475_0 :),(zS HB.out hw478_0 :)⟩ (fun hHeld=>?_);refine with_tabW spec_l16Clear.tab6 spec_l16Clear.bits6 (fun HT_ HW_=>?_)
         generalize w19.drew = w20 at BK470 BK471 HB HR475_0 HR478_0 hx475_0 hx478_0 hHeld ⊢
         refine zzp 0 24 (zzb 23 1) ?_ (hc:=zzx HT_);refine zzp 1 25 (zzb 23 3) ?_ (hc:=zzx HT_);refine zzp 2 26 (zzb 23 7) ?_ (hc:=zzx HT_);refine zzp 3 27 (zzb 23 15) ?_ (hc:=zzx HT_);refine zzp 4 28 (zzb 23 31) ?_ (hc:=zzx HT_);refine zzp 5 29 (zzb 23 63) ?_ (hc:=zzx HT_);refine zzp 7 31 (zzb 23 191) ?_ (hc:=zzx HT_)
         refine zzt 6 30 (zzb 23 255) hHeld ?_ (hc:=zzy HT_ HW_) (hy:=by rintro w' ⟨s0,s1,s2,s3,s4,s5⟩;go_simp;with_reducible rfl)
         refine zzt 9 33 (zzb 23 767) hHeld ?_ (hc:=zzy HT_ HW_) (hy:=by rintro w' ⟨s0,s1,s2,s3,s4,s5⟩;go_simp;with_reducible rfl)
         refine zzo 8 32 (zzb 23 1023) (hc:=zzw HT_) (fun K hK=>?_)
         refine zzf Try.func98 #[.slice A475_0 (rd_L6 l0 x9_1).length c475_0,.int .i64 a3] ?_
         with_reducible refine (spec_l16At.calls _ _ (rd_L6 l0 x9_1) a3 t476 t477 _ ?side1 ?side2 A14.out).mono ?_
         (case side1=>repeat (first|exact (zO HR475_0.out HB.out)|(with_reducible first|refine zG ?_ _|refine zH ?_ _|refine zI ?_)))
         (case side2=>exact HC475_0.out)
         rintro e w21 ⟨rfl,hb⟩
         refine ⟨_,rfl,?_⟩
         have n0_:=zM (blk_below (g:=gb470) (o := .cells #[.int .i64 a1_0,.int .i64 a1_1] 48 (0,0)) (zzi BK470) hb)
         have n1_:=zM (blk_below (g:=gb471) (o := .cells #[.int .i64 a2_0,.int .i64 a2_1] 48 (0,0)) (zzi BK471) hb)
         have n2_:=zM (zQ zzh hb)
         clear BK470;clear BK471;clear HB;have BK470:=n0_;have BK471:=n1_;have HB:=n2_;clear n0_ n1_ n2_;(try clear hb)
         (try clear hb2)
         (try clear hk)
         (try clear hi)
         refine hK.out _ _ ⟨zz0 BK470,zz1 BK470,zz0 BK471,zz1 BK471,(zS HB.out hw475_0 :),(zS HB.out hw478_0 :)⟩ (fun hHeld=>?_)
         clear hK K;refine zzn 32 ?_;refine zzp 10 34 (zzb 23 2047) ?_ (hc:=zzx HT_);refine zzp 11 35 (zzb 23 4095) ?_ (hc:=zzx HT_);refine zzp 12 36 (zzb 23 8191) ?_ (hc:=zzx HT_);refine zzp 13 37 (zzb 23 16383) ?_ (hc:=zzx HT_);refine zzp 14 38 (zzb 23 32767) ?_ (hc:=zzx HT_);refine zzp 15 39 (zzb 23 65535) ?_ (hc:=zzx HT_);refine zzp 17 41 (zzb 23 196607) ?_ (hc:=zzx HT_);refine zzp 18 42 (zzb 23 458751) ?_ (hc:=zzx HT_)
         refine zzt 16 40 (zzb 23 524287) hHeld ?_ (hc:=zzy HT_ HW_) (hy:=by rintro w' ⟨s0,s1,s2,s3,s4,s5⟩;go_simp;with_reducible rfl)
         refine zzt 20 44 (zzb 23 1572863) hHeld ?_ (hc:=zzy HT_ HW_) (hy:=by rintro w' ⟨s0,s1,s2,s3,s4,s5⟩;go_simp;with_reducible rfl)
         refine zzo 19 43 (zzb 23 2097151) (hc:=zzw HT_) (fun K hK=>?_)
         refine zzf Try.func98 #[.slice A475_0 (rd_L6 l0 x9_1).length c475_0,.int .i64 (wrap64 (a3 - 1))] ?_
         with_reducible refine (spec_l16At.calls _ _ (rd_L6 l0 x9_1) (wrap64 (a3 - 1)) t479 t480 _ ?side1 ?side2 A16.out).mono ?_
         (case side1=>repeat (first|exact (zO HR478_0.out HB.out)|(with_reducible first|refine zG ?_ _|refine zH ?_ _|refine zI ?_)))
         (case side2=>exact HC478_0.out)
         rintro e w22 ⟨rfl,hb⟩
         refine ⟨_,rfl,?_⟩
         have n0_:=zM (blk_below (g:=gb470) (o := .cells #[.int .i64 a1_0,.int .i64 a1_1] 48 (0,0)) (zzi BK470) hb)
         have n1_:=zM (blk_below (g:=gb471) (o := .cells #[.int .i64 a2_0,.int .i64 a2_1] 48 (0,0)) (zzi BK471) hb)
         have n2_:=zM (zQ zzh hb)
         clear BK470;clear BK471;clear HB;have BK470:=n0_;have BK471:=n1_;have HB:=n2_;clear n0_ n1_ n2_;(try clear hb)
         (try clear hb2)
         (try clear hk)
         (try clear hi)
         refine hK.out _ _ ⟨zz0 BK470,zz1 BK470,zz0 BK471,zz1 BK471,(zS HB.out hw475_0 :),(zS HB.out hw478_0 :)⟩ (fun hHeld=>?_)
         clear hK K;refine zzn 43 ?_;refine zzp 21 45 (zzb 23 4194303) ?_ (hc:=zzx HT_);refine zzp 22 46 (zzb 23 8388607) ?_ (hc:=zzx HT_)
         refine done_ (done_of HT_.out (by kernel_rfl)) ?_
         try go_wp2
         go_ret
         exact ⟨by first|rfl|(simp [errW_none,errW_some] <;> rfl)|(simp [*,errW_none,errW_some] <;> rfl),zzh⟩
        ·rw [if_neg c17] at H
         have c17b0:(t479 == a2_0 && (t480 == a2_1)) = false:=by simpa using c17
         (try (have c17b1:decide (t479 = a2_0 && (t480 == a2_1)) = false:=by simpa using c17))
         (try (have c17b2:(t479 == a2_0 && (t480 == a2_1)) = false:=by simpa using c17))
         (try (have c17b3:¬ (t479 = a2_0 && (t480 == a2_1)):=by simpa using c17))
         clear c17;have H':=zM H;clear H;try go_wp2
         have n0_:=zM (zK BK470.out);have n1_:=zM (zK BK471.out);have n2_:=zM (zF HB.out);clear BK470;clear BK471;clear HB;have BK470:=n0_;have BK471:=n1_;have HB:=n2_;clear n0_ n1_ n2_;have p472:0 ≤ (x9_1:Int):=zzd
         have q472:x9_1 < (l0.length:Int):=zzd
         obtain ⟨ad472,A472_0,c472_0,e472,hx472_0,hl472_0,hi472_0⟩:=at_L6 HR0.out x9_1 p472 q472;have hw472_0:=hx472_0;cases e472
         replace hx472_0:=zS HB.out hx472_0;have HR472_0:=zM hi472_0;have HC472_0:=zM hl472_0;clear hi472_0 hl472_0;replace p472:=eq_true p472;replace q472:=eq_true q472;refine start_ (n:=8) (S:=fun w'=>w'.cell? ⟨gb471,0,none⟩ = some (.int .i64 a2_0) ∧ w'.cell? ⟨gb471,1,none⟩ = some (.int .i64 a2_1) ∧ w'.cell? (ad472.add (x9_1).toNat) = some (.slice A472_0 (rd_L6 l0 x9_1).length c472_0)) (ds:=[]) #[false,false,false,false,false,false,false,false] (by kernel_rfl) rfl rfl ⟨zz0 BK471,zz1 BK471,(zS HB.out hw472_0 :)⟩ (fun hHeld=>?_);refine with_tabW spec_l16Clear.tab4 spec_l16Clear.bits4 (fun HT_ HW_=>?_)
         generalize wr.drew = w23 at BK470 BK471 HB HR472_0 hx472_0 hHeld ⊢
         refine zzp 0 16 (zzb 8 1) ?_ (hc:=zzx HT_);refine zzp 1 17 (zzb 8 3) ?_ (hc:=zzx HT_);refine zzp 2 18 (zzb 8 7) ?_ (hc:=zzx HT_);refine zzp 4 20 (zzb 8 23) ?_ (hc:=zzx HT_)
         refine zzt 3 19 (zzb 8 31) hHeld ?_ (hc:=zzy HT_ HW_) (hy:=by rintro w' ⟨s0,s1,s2⟩;go_simp;with_reducible rfl)
         refine zzt 6 22 (zzb 8 95) hHeld ?_ (hc:=zzy HT_ HW_) (hy:=by rintro w' ⟨s0,s1,s2⟩;go_simp;with_reducible rfl)
         refine zzo 5 21 (zzb 8 127) (hc:=zzw HT_) (fun K hK=>?_)
         refine zzf Try.func98 #[.slice A472_0 (rd_L6 l0 x9_1).length c472_0,.int .i64 a3] ?_
         with_reducible refine (spec_l16At.calls _ _ (rd_L6 l0 x9_1) a3 t473 t474 _ ?side1 ?side2 A9.out).mono ?_
         (case side1=>repeat (first|exact (zO HR472_0.out HB.out)|(with_reducible first|refine zG ?_ _|refine zH ?_ _|refine zI ?_)))
         (case side2=>exact HC472_0.out)
         rintro e w24 ⟨rfl,hb⟩
         refine ⟨_,rfl,?_⟩
         have n0_:=zM (blk_below (g:=gb470) (o := .cells #[.int .i64 a1_0,.int .i64 a1_1] 48 (0,0)) (zzi BK470) hb)
         have n1_:=zM (blk_below (g:=gb471) (o := .cells #[.int .i64 a2_0,.int .i64 a2_1] 48 (0,0)) (zzi BK471) hb)
         have n2_:=zM (zQ zzh hb)
         clear BK470;clear BK471;clear HB;have BK470:=n0_;have BK471:=n1_;have HB:=n2_;clear n0_ n1_ n2_;(try clear hb)
         (try clear hb2)
         (try clear hk)
         (try clear hi)
         refine hK.out _ _ ⟨zz0 BK471,zz1 BK471,(zS HB.out hw472_0 :)⟩ (fun hHeld=>?_)
         clear hK K;refine zzn 21 ?_;refine zzp 7 23 (zzb 8 255) ?_ (hc:=zzx HT_)
         refine done_ (done_of HT_.out (by kernel_rfl)) ?_
         try go_wp2
         have n0_:=zM (zK BK470.out);have n1_:=zM (zK BK471.out);have n2_:=zM (zF HB.out);clear BK470;clear BK471;clear HB;have BK470:=n0_;have BK471:=n1_;have HB:=n2_;clear n0_ n1_ n2_;have p475:0 ≤ (x9_1:Int):=zzd
         have q475:x9_1 < (l0.length:Int):=zzd
         obtain ⟨ad475,A475_0,c475_0,e475,hx475_0,hl475_0,hi475_0⟩:=at_L6 HR0.out x9_1 p475 q475;have hw475_0:=hx475_0;obtain rfl:ad472 = ad475:=(by injection e475)
         replace hx475_0:=zS HB.out hx475_0;have HR475_0:=zM hi475_0;have HC475_0:=zM hl475_0;clear hi475_0 hl475_0;replace p475:=eq_true p475;replace q475:=eq_true q475;have p478:0 ≤ (x9_1:Int):=zzd
         have q478:x9_1 < (l0.length:Int):=zzd
         obtain ⟨ad478,A478_0,c478_0,e478,hx478_0,hl478_0,hi478_0⟩:=at_L6 HR0.out x9_1 p478 q478;have hw478_0:=hx478_0;obtain rfl:ad472 = ad478:=(by injection e478)
         (have hj2_:=Option.some.inj (hw475_0.symm.trans hw478_0);injection hj2_ with hjA_ hjN_ hjC_;subst hjA_;subst hjC_)
         replace hx478_0:=zS HB.out hx478_0;have HR478_0:=zM hi478_0;have HC478_0:=zM hl478_0;clear hi478_0 hl478_0;replace p478:=eq_true p478;replace q478:=eq_true q478;refine start_ (n:=23) (S:=fun w'=>w'.cell? ⟨gb470,0,none⟩ = some (.int .i64 a1_0) ∧ w'.cell? ⟨gb470,1,none⟩ = some (.int .i64 a1_1) ∧ w'.cell? ⟨gb471,0,none⟩ = some (.int .i64 a2_0) ∧ w'.cell? ⟨gb471,1,none⟩ = some (.int .i64 a2_1) ∧ w'.cell? (ad472.add (x9_1).toNat) = some (.slice A475_0 (rd_L6 l0 x9_1).length c475_0) ∧ w'.cell? (ad472.add (x9_1).toNat) = some (.slice A475_0 (rd_L6 l0 x9_1).length c475_0)) (ds:=[]) #[false,false,false,false,false,false,false,false,false,false,false,false,false,false,false,false,false,false,false,false,false,false,false] (by kernel_rfl) rfl rfl ⟨zz0 BK470,zz1 BK470,zz0 BK471,zz1 BK471,(zS HB.out hw475_0 :),(zS HB.out hw478_0 :)⟩ (fun hHeld=>?_);refine with_tabW spec_l16Clear.tab6 spec_l16Clear.bits6 (fun HT_ HW_=>?_)
         generalize w24.drew = w25 at BK470 BK471 HB HR475_0 HR478_0 hx475_0 hx478_0 hHeld ⊢
         refine zzp 0 24 (zzb 23 1) ?_ (hc:=zzx HT_);refine zzp 1 25 (zzb 23 3) ?_ (hc:=zzx HT_);refine zzp 2 26 (zzb 23 7) ?_ (hc:=zzx HT_);refine zzp 3 27 (zzb 23 15) ?_ (hc:=zzx HT_);refine zzp 4 28 (zzb 23 31) ?_ (hc:=zzx HT_);refine zzp 5 29 (zzb 23 63) ?_ (hc:=zzx HT_);refine zzp 7 31 (zzb 23 191) ?_ (hc:=zzx HT_)
         refine zzt 6 30 (zzb 23 255) hHeld ?_ (hc:=zzy HT_ HW_) (hy:=by rintro w' ⟨s0,s1,s2,s3,s4,s5⟩;go_simp;with_reducible rfl)
         refine zzt 9 33 (zzb 23 767) hHeld ?_ (hc:=zzy HT_ HW_) (hy:=by rintro w' ⟨s0,s1,s2,s3,s4,s5⟩;go_simp;with_reducible rfl)
         refine zzo 8 32 (zzb 23 1023) (hc:=zzw HT_) (fun K hK=>?_)
         refine zzf Try.func98 #[.slice A475_0 (rd_L6 l0 x9_1).length c475_0,.int .i64 a3] ?_
         with_reducible refine (spec_l16At.calls _ _ (rd_L6 l0 x9_1) a3 t476 t477 _ ?side1 ?side2 A14.out).mono ?_
         (case side1=>repeat (first|exact (zO HR475_0.out HB.out)|(with_reducible first|refine zG ?_ _|refine zH ?_ _|refine zI ?_)))
         (case side2=>exact HC475_0.out)
         rintro e w26 ⟨rfl,hb⟩
         refine ⟨_,rfl,?_⟩
         have n0_:=zM (blk_below (g:=gb470) (o := .cells #[.int .i64 a1_0,.int .i64 a1_1] 48 (0,0)) (zzi BK470) hb)
         have n1_:=zM (blk_below (g:=gb471) (o := .cells #[.int .i64 a2_0,.int .i64 a2_1] 48 (0,0)) (zzi BK471) hb)
         have n2_:=zM (zQ zzh hb)
         clear BK470;clear BK471;clear HB;have BK470:=n0_;have BK471:=n1_;have HB:=n2_;clear n0_ n1_ n2_;(try clear hb)
         (try clear hb2)
         (try clear hk)
         (try clear hi)
         refine hK.out _ _ ⟨zz0 BK470,zz1 BK470,zz0 BK471,zz1 BK471,(zS HB.out hw475_0 :),(zS HB.out hw478_0 :)⟩ (fun hHeld=>?_)
         clear hK K;refine zzn 32 ?_;refine zzp 10 34 (zzb 23 2047) ?_ (hc:=zzx HT_);refine zzp 11 35 (zzb 23 4095) ?_ (hc:=zzx HT_);refine zzp 12 36 (zzb 23 8191) ?_ (hc:=zzx HT_);refine zzp 13 37 (zzb 23 16383) ?_ (hc:=zzx HT_);refine zzp 14 38 (zzb 23 32767) ?_ (hc:=zzx HT_);refine zzp 15 39 (zzb 23 65535) ?_ (hc:=zzx HT_);refine zzp 17 41 (zzb 23 196607) ?_ (hc:=zzx HT_);refine zzp 18 42 (zzb 23 458751) ?_ (hc:=zzx HT_)
         refine zzt 16 40 (zzb 23 524287) hHeld ?_ (hc:=zzy HT_ HW_) (hy:=by rintro w' ⟨s0,s1,s2,s3,s4,s5⟩;go_simp;with_reducible rfl)
         refine zzt 20 44 (zzb 23 1572863) hHeld ?_ (hc:=zzy HT_ HW_) (hy:=by rintro w' ⟨s0,s1,s2,s3,s4,s5⟩;go_simp;with_reducible rfl)
         refine zzo 19 43 (zzb 23 2097151) (hc:=zzw HT_) (fun K hK=>?_)
         refine zzf Try.func98 #[.slice A475_0 (rd_L6 l0 x9_1).length c475_0,.int .i64 (wrap64 (a3 - 1))] ?_
         with_reducible refine (spec_l16At.calls _ _ (rd_L6 l0 x9_1) (wrap64 (a3 - 1)) t479 t480 _ ?side1 ?side2 A16.out).mono ?_
         (case side1=>repeat (first|exact (zO HR478_0.out HB.out)|(with_reducible first|refine zG ?_ _|refine zH ?_ _|refine zI ?_)))
         (case side2=>exact HC478_0.out)
         rintro e w27 ⟨rfl,hb⟩
         refine ⟨_,rfl,?_⟩
         have n0_:=zM (blk_below (g:=gb470) (o := .cells #[.int .i64 a1_0,.int .i64 a1_1] 48 (0,0)) (zzi BK470) hb)
         have n1_:=zM (blk_below (g:=gb471) (o := .cells #[.int .i64 a2_0,.int .i64 a2_1] 48 (0,0)) (zzi BK471) hb)
         have n2_:=zM (zQ zzh hb)
         clear BK470;clear BK471;clear HB;have BK470:=n0_;have BK471:=n1_;have HB:=n2_;clear n0_ n1_ n2_;(try clear hb)
         (try clear hb2)
         (try clear hk)
         (try clear hi)
         refine hK.out _ _ ⟨zz0 BK470,zz1 BK470,zz0 BK471,zz1 BK471,(zS HB.out hw475_0 :),(zS HB.out hw478_0 :)⟩ (fun hHeld=>?_)
         clear hK K;refine zzn 43 ?_;refine zzp 21 45 (zzb 23 4194303) ?_ (hc:=zzx HT_);refine zzp 22 46 (zzb 23 8388607) ?_ (hc:=zzx HT_)
         refine done_ (done_of HT_.out (by kernel_rfl)) ?_
         try go_wp2
         go_roundg k1
         case measure=>have:=HK1.out;omega
         case rel=>exact ⟨(wrap64 (x9_1 + 1)),(by first|rfl|(simp;done)|(simp [*];done)),H',⟨by have:=HK1.out;omega⟩,⟨zzi BK470⟩,⟨zzi BK471⟩,⟨zzh⟩⟩
       ·rw [if_neg c15] at H
        have c15b0:(t476 == a1_0 && (t477 == a1_1)) = false:=by simpa using c15
        (try (have c15b1:decide (t476 = a1_0 && (t477 == a1_1)) = false:=by simpa using c15))
        (try (have c15b2:(t476 == a1_0 && (t477 == a1_1)) = false:=by simpa using c15))
        (try (have c15b3:¬ (t476 = a1_0 && (t477 == a1_1)):=by simpa using c15))
        clear c15;have H':=zM H;clear H;try go_wp2
        have n0_:=zM (zK BK470.out);have n1_:=zM (zK BK471.out);have n2_:=zM (zF HB.out);clear BK470;clear BK471;clear HB;have BK470:=n0_;have BK471:=n1_;have HB:=n2_;clear n0_ n1_ n2_;have p472:0 ≤ (x9_1:Int):=zzd
        have q472:x9_1 < (l0.length:Int):=zzd
        obtain ⟨ad472,A472_0,c472_0,e472,hx472_0,hl472_0,hi472_0⟩:=at_L6 HR0.out x9_1 p472 q472;have hw472_0:=hx472_0;cases e472
        replace hx472_0:=zS HB.out hx472_0;have HR472_0:=zM hi472_0;have HC472_0:=zM hl472_0;clear hi472_0 hl472_0;replace p472:=eq_true p472;replace q472:=eq_true q472;refine start_ (n:=8) (S:=fun w'=>w'.cell? ⟨gb471,0,none⟩ = some (.int .i64 a2_0) ∧ w'.cell? ⟨gb471,1,none⟩ = some (.int .i64 a2_1) ∧ w'.cell? (ad472.add (x9_1).toNat) = some (.slice A472_0 (rd_L6 l0 x9_1).length c472_0)) (ds:=[]) #[false,false,false,false,false,false,false,false] (by kernel_rfl) rfl rfl ⟨zz0 BK471,zz1 BK471,(zS HB.out hw472_0 :)⟩ (fun hHeld=>?_);refine with_tabW spec_l16Clear.tab4 spec_l16Clear.bits4 (fun HT_ HW_=>?_)
        generalize wr.drew = w28 at BK470 BK471 HB HR472_0 hx472_0 hHeld ⊢
        refine zzp 0 16 (zzb 8 1) ?_ (hc:=zzx HT_);refine zzp 1 17 (zzb 8 3) ?_ (hc:=zzx HT_);refine zzp 2 18 (zzb 8 7) ?_ (hc:=zzx HT_);refine zzp 4 20 (zzb 8 23) ?_ (hc:=zzx HT_)
        refine zzt 3 19 (zzb 8 31) hHeld ?_ (hc:=zzy HT_ HW_) (hy:=by rintro w' ⟨s0,s1,s2⟩;go_simp;with_reducible rfl)
        refine zzt 6 22 (zzb 8 95) hHeld ?_ (hc:=zzy HT_ HW_) (hy:=by rintro w' ⟨s0,s1,s2⟩;go_simp;with_reducible rfl)
        refine zzo 5 21 (zzb 8 127) (hc:=zzw HT_) (fun K hK=>?_)
        refine zzf Try.func98 #[.slice A472_0 (rd_L6 l0 x9_1).length c472_0,.int .i64 a3] ?_
        with_reducible refine (spec_l16At.calls _ _ (rd_L6 l0 x9_1) a3 t473 t474 _ ?side1 ?side2 A9.out).mono ?_
        (case side1=>repeat (first|exact (zO HR472_0.out HB.out)|(with_reducible first|refine zG ?_ _|refine zH ?_ _|refine zI ?_)))
        (case side2=>exact HC472_0.out)
        rintro e w29 ⟨rfl,hb⟩
        refine ⟨_,rfl,?_⟩
        have n0_:=zM (blk_below (g:=gb470) (o := .cells #[.int .i64 a1_0,.int .i64 a1_1] 48 (0,0)) (zzi BK470) hb)
        have n1_:=zM (blk_below (g:=gb471) (o := .cells #[.int .i64 a2_0,.int .i64 a2_1] 48 (0,0)) (zzi BK471) hb)
        have n2_:=zM (zQ zzh hb)
        clear BK470;clear BK471;clear HB;have BK470:=n0_;have BK471:=n1_;have HB:=n2_;clear n0_ n1_ n2_;(try clear hb)
        (try clear hb2)
        (try clear hk)
        (try clear hi)
        refine hK.out _ _ ⟨zz0 BK471,zz1 BK471,(zS HB.out hw472_0 :)⟩ (fun hHeld=>?_)
        clear hK K;refine zzn 21 ?_;refine zzp 7 23 (zzb 8 255) ?_ (hc:=zzx HT_)
        refine done_ (done_of HT_.out (by kernel_rfl)) ?_
        try go_wp2
        have n0_:=zM (zK BK470.out);have n1_:=zM (zK BK471.out);have n2_:=zM (zF HB.out);clear BK470;clear BK471;clear HB;have BK470:=n0_;have BK471:=n1_;have HB:=n2_;clear n0_ n1_ n2_;have p475:0 ≤ (x9_1:Int):=zzd
        have q475:x9_1 < (l0.length:Int):=zzd
        obtain ⟨ad475,A475_0,c475_0,e475,hx475_0,hl475_0,hi475_0⟩:=at_L6 HR0.out x9_1 p475 q475;have hw475_0:=hx475_0;obtain rfl:ad472 = ad475:=(by injection e475)
        replace hx475_0:=zS HB.out hx475_0;have HR475_0:=zM hi475_0;have HC475_0:=zM hl475_0;clear hi475_0 hl475_0;replace p475:=eq_true p475;replace q475:=eq_true q475;refine start_ (n:=23) (S:=fun w'=>w'.cell? ⟨gb470,0,none⟩ = some (.int .i64 a1_0) ∧ w'.cell? ⟨gb470,1,none⟩ = some (.int .i64 a1_1) ∧ w'.cell? (ad472.add (x9_1).toNat) = some (.slice A475_0 (rd_L6 l0 x9_1).length c475_0)) (ds:=[]) #[false,false,false,false,false,false,false,false,false,false,false,false,false,false,false,false,false,false,false,false,false,false,false] (by kernel_rfl) rfl rfl ⟨zz0 BK470,zz1 BK470,(zS HB.out hw475_0 :)⟩ (fun hHeld=>?_);refine with_tabW spec_l16Clear.tab6 spec_l16Clear.bits6 (fun HT_ HW_=>?_)
        generalize w29.drew = w30 at BK470 BK471 HB HR475_0 hx475_0 hHeld ⊢
        refine zzp 0 24 (zzb 23 1) ?_ (hc:=zzx HT_);refine zzp 1 25 (zzb 23 3) ?_ (hc:=zzx HT_);refine zzp 2 26 (zzb 23 7) ?_ (hc:=zzx HT_);refine zzp 3 27 (zzb 23 15) ?_ (hc:=zzx HT_);refine zzp 4 28 (zzb 23 31) ?_ (hc:=zzx HT_);refine zzp 5 29 (zzb 23 63) ?_ (hc:=zzx HT_);refine zzp 7 31 (zzb 23 191) ?_ (hc:=zzx HT_)
        refine zzt 6 30 (zzb 23 255) hHeld ?_ (hc:=zzy HT_ HW_) (hy:=by rintro w' ⟨s0,s1,s2⟩;go_simp;with_reducible rfl)
        refine zzt 9 33 (zzb 23 767) hHeld ?_ (hc:=zzy HT_ HW_) (hy:=by rintro w' ⟨s0,s1,s2⟩;go_simp;with_reducible rfl)
        refine zzo 8 32 (zzb 23 1023) (hc:=zzw HT_) (fun K hK=>?_)
        refine zzf Try.func98 #[.slice A475_0 (rd_L6 l0 x9_1).length c475_0,.int .i64 a3] ?_
        with_reducible refine (spec_l16At.calls _ _ (rd_L6 l0 x9_1) a3 t476 t477 _ ?side1 ?side2 A14.out).mono ?_
        (case side1=>repeat (first|exact (zO HR475_0.out HB.out)|(with_reducible first|refine zG ?_ _|refine zH ?_ _|refine zI ?_)))
        (case side2=>exact HC475_0.out)
        rintro e w31 ⟨rfl,hb⟩
        refine ⟨_,rfl,?_⟩
        have n0_:=zM (blk_below (g:=gb470) (o := .cells #[.int .i64 a1_0,.int .i64 a1_1] 48 (0,0)) (zzi BK470) hb)
        have n1_:=zM (blk_below (g:=gb471) (o := .cells #[.int .i64 a2_0,.int .i64 a2_1] 48 (0,0)) (zzi BK471) hb)
        have n2_:=zM (zQ zzh hb)
        clear BK470;clear BK471;clear HB;have BK470:=n0_;have BK471:=n1_;have HB:=n2_;clear n0_ n1_ n2_;(try clear hb)
        (try clear hb2)
        (try clear hk)
        (try clear hi)
        refine hK.out _ _ ⟨zz0 BK470,zz1 BK470,(zS HB.out hw475_0 :)⟩ (fun hHeld=>?_)
        clear hK K;refine zzn 32 ?_;refine zzp 10 34 (zzb 23 2047) ?_ (hc:=zzx HT_);refine zzp 11 35 (zzb 23 4095) ?_ (hc:=zzx HT_);refine zzp 12 36 (zzb 23 8191) ?_ (hc:=zzx HT_);refine zzu 13 37 (zzb 23 16383) ?_ (hc:=zzx HT_);refine zzu 14 38 (zzb 23 32767) ?_ (hc:=zzx HT_);refine zzu 15 39 (zzb 23 65535) ?_ (hc:=zzx HT_);refine zzu 16 40 (zzb 23 131071) ?_ (hc:=zzx HT_);refine zzu 17 41 (zzb 23 262143) ?_ (hc:=zzx HT_);refine zzu 18 42 (zzb 23 524287) ?_ (hc:=zzx HT_);refine zzu 19 43 (zzb 23 1048575) ?_ (hc:=zzx HT_);refine zzu 20 44 (zzb 23 2097151) ?_ (hc:=zzx HT_);refine zzu 21 45 (zzb 23 4194303) ?_ (hc:=zzx HT_);refine zzp 22 46 (zzb 23 8388607) ?_ (hc:=zzx HT_)
        refine done_ (done_of HT_.out (by kernel_rfl)) ?_
        try go_wp2
        go_roundg k1
        case measure=>have:=HK1.out;omega
        case rel=>exact ⟨(wrap64 (x9_1 + 1)),(by first|rfl|(simp;done)|(simp [*];done)),H',⟨by have:=HK1.out;omega⟩,⟨zzi BK470⟩,⟨zzi BK471⟩,⟨zzh⟩⟩
      ·rw [if_neg c13] at H
       have c13b0:decide (0 < a3) = false:=decide_eq_false c13
       clear c13;have H':=zM H;clear H;try go_wp2
       have n0_:=zM (zK BK470.out);have n1_:=zM (zK BK471.out);have n2_:=zM (zF HB.out);clear BK470;clear BK471;clear HB;have BK470:=n0_;have BK471:=n1_;have HB:=n2_;clear n0_ n1_ n2_;have p472:0 ≤ (x9_1:Int):=zzd
       have q472:x9_1 < (l0.length:Int):=zzd
       obtain ⟨ad472,A472_0,c472_0,e472,hx472_0,hl472_0,hi472_0⟩:=at_L6 HR0.out x9_1 p472 q472;have hw472_0:=hx472_0;cases e472
       replace hx472_0:=zS HB.out hx472_0;have HR472_0:=zM hi472_0;have HC472_0:=zM hl472_0;clear hi472_0 hl472_0;replace p472:=eq_true p472;replace q472:=eq_true q472;refine start_ (n:=8) (S:=fun w'=>w'.cell? ⟨gb471,0,none⟩ = some (.int .i64 a2_0) ∧ w'.cell? ⟨gb471,1,none⟩ = some (.int .i64 a2_1) ∧ w'.cell? (ad472.add (x9_1).toNat) = some (.slice A472_0 (rd_L6 l0 x9_1).length c472_0)) (ds:=[]) #[false,false,false,false,false,false,false,false] (by kernel_rfl) rfl rfl ⟨zz0 BK471,zz1 BK471,(zS HB.out hw472_0 :)⟩ (fun hHeld=>?_);refine with_tabW spec_l16Clear.tab4 spec_l16Clear.bits4 (fun HT_ HW_=>?_)
       generalize wr.drew = w32 at BK470 BK471 HB HR472_0 hx472_0 hHeld ⊢
       refine zzp 0 16 (zzb 8 1) ?_ (hc:=zzx HT_);refine zzp 1 17 (zzb 8 3) ?_ (hc:=zzx HT_);refine zzp 2 18 (zzb 8 7) ?_ (hc:=zzx HT_);refine zzp 4 20 (zzb 8 23) ?_ (hc:=zzx HT_)
       refine zzt 3 19 (zzb 8 31) hHeld ?_ (hc:=zzy HT_ HW_) (hy:=by rintro w' ⟨s0,s1,s2⟩;go_simp;with_reducible rfl)
       refine zzt 6 22 (zzb 8 95) hHeld ?_ (hc:=zzy HT_ HW_) (hy:=by rintro w' ⟨s0,s1,s2⟩;go_simp;with_reducible rfl)
       refine zzo 5 21 (zzb 8 127) (hc:=zzw HT_) (fun K hK=>?_)
       refine zzf Try.func98 #[.slice A472_0 (rd_L6 l0 x9_1).length c472_0,.int .i64 a3] ?_
       with_reducible refine (spec_l16At.calls _ _ (rd_L6 l0 x9_1) a3 t473 t474 _ ?side1 ?side2 A9.out).mono ?_
       (case side1=>repeat (first|exact (zO HR472_0.out HB.out)|(with_reducible first|refine zG ?_ _|refine zH ?_ _|refine zI ?_)))
       (case side2=>exact HC472_0.out)
       rintro e w33 ⟨rfl,hb⟩
       refine ⟨_,rfl,?_⟩
       have n0_:=zM (blk_below (g:=gb470) (o := .cells #[.int .i64 a1_0,.int .i64 a1_1] 48 (0,0)) (zzi BK470) hb)
       have n1_:=zM (blk_below (g:=gb471) (o := .cells #[.int .i64 a2_0,.int .i64 a2_1] 48 (0,0)) (zzi BK471) hb)
       have n2_:=zM (zQ zzh hb)
       clear BK470;clear BK471;clear HB;have BK470:=n0_;have BK471:=n1_;have HB:=n2_;clear n0_ n1_ n2_;(try clear hb)
       (try clear hb2)
       (try clear hk)
       (try clear hi)
       refine hK.out _ _ ⟨zz0 BK471,zz1 BK471,(zS HB.out hw472_0 :)⟩ (fun hHeld=>?_)
       clear hK K;refine zzn 21 ?_;refine zzp 7 23 (zzb 8 255) ?_ (hc:=zzx HT_)
       refine done_ (done_of HT_.out (by kernel_rfl)) ?_
       try go_wp2
       have n0_:=zM (zK BK470.out);have n1_:=zM (zK BK471.out);have n2_:=zM (zF HB.out);clear BK470;clear BK471;clear HB;have BK470:=n0_;have BK471:=n1_;have HB:=n2_;clear n0_ n1_ n2_;refine start_ (n:=23) (S:=fun w'=>True) (ds:=[]) #[false,false,false,false,false,false,false,false,false,false,false,false,false,false,false,false,false,false,false,false,false,false,false] (by kernel_rfl) rfl rfl trivial (fun hHeld=>?_);refine with_tabW spec_l16Clear.tab6 spec_l16Clear.bits6 (fun HT_ HW_=>?_)
       generalize w33.drew = w34 at BK470 BK471 HB hHeld ⊢
       refine zzp 0 24 (zzb 23 1) ?_ (hc:=zzx HT_);refine zzp 1 25 (zzb 23 3) ?_ (hc:=zzx HT_);refine zzp 2 26 (zzb 23 7) ?_ (hc:=zzx HT_);refine zzu 3 27 (zzb 23 15) ?_ (hc:=zzx HT_);refine zzu 4 28 (zzb 23 31) ?_ (hc:=zzx HT_);refine zzu 5 29 (zzb 23 63) ?_ (hc:=zzx HT_);refine zzu 6 30 (zzb 23 127) ?_ (hc:=zzx HT_);refine zzu 7 31 (zzb 23 255) ?_ (hc:=zzx HT_);refine zzu 8 32 (zzb 23 511) ?_ (hc:=zzx HT_);refine zzu 9 33 (zzb 23 1023) ?_ (hc:=zzx HT_);refine zzu 10 34 (zzb 23 2047) ?_ (hc:=zzx HT_);refine zzp 11 35 (zzb 23 4095) ?_ (hc:=zzx HT_);refine zzp 12 36 (zzb 23 8191) ?_ (hc:=zzx HT_);refine zzu 13 37 (zzb 23 16383) ?_ (hc:=zzx HT_);refine zzu 14 38 (zzb 23 32767) ?_ (hc:=zzx HT_);refine zzu 15 39 (zzb 23 65535) ?_ (hc:=zzx HT_);refine zzu 16 40 (zzb 23 131071) ?_ (hc:=zzx HT_);refine zzu 17 41 (zzb 23 262143) ?_ (hc:=zzx HT_);refine zzu 18 42 (zzb 23 524287) ?_ (hc:=zzx HT_)
       refine zzu 19 43 (zzb 23 1048575) ?_ (hc:=zzx HT_);refine zzu 20 44 (zzb 23 2097151) ?_ (hc:=zzx HT_);refine zzu 21 45 (zzb 23 4194303) ?_ (hc:=zzx HT_);refine zzp 22 46 (zzb 23 8388607) ?_ (hc:=zzx HT_)
       refine done_ (done_of HT_.out (by kernel_rfl)) ?_
       try go_wp2
       go_roundg k1
       case measure=>have:=HK1.out;omega
       case rel=>exact ⟨(wrap64 (x9_1 + 1)),(by first|rfl|(simp;done)|(simp [*];done)),H',⟨by have:=HK1.out;omega⟩,⟨zzi BK470⟩,⟨zzi BK471⟩,⟨zzh⟩⟩
    ·rw [if_neg c8] at H
     exact absurd H (by simp)
   ·rw [if_neg c7] at H
    have c7b0:decide (x9_1 < (l0.length:Int)) = false:=decide_eq_false c7
    clear c7;obtain rfl:=Option.some.inj H;go_wp2
    go_ret
    exact ⟨by first|rfl|(simp [errW_none,errW_some] <;> rfl)|(simp [*,errW_none,errW_some] <;> rfl),zzh⟩



/-! ### spec_l16Rest: function 90 -/
def spec_l16Rest.l0:Nat → List (List (S48)) → Int → Int → Int → Option (Bool)
 | 0,_,_,_,_=>none
 | k + 1,x0,x2,x511000,x511001=>if x2 ≤ 24 then ((spec_l16Clear.f k x0 x511000 x511001 x511000 x511001 x2).bind fun t511=>(if t511 = true then (spec_l16Rest.l0 k x0 (wrap64 (x2 + 1)) x511000 x511001) else (some false))) else (some true)
def spec_l16Rest.f (k:Nat) (l0:List (List (S48))) (a1_0:Int) (a1_1:Int) (a2:Int):Option (Bool):=spec_l16Rest.l0 k l0 a2 a1_0 a1_1
set_option maxHeartbeats 8000000 in
set_option maxRecDepth 100000 in
theorem spec_l16Rest.calls (k:Nat) (A0:Option Addr) (c0:Nat) (l0:List (List (S48))) (a1_0:Int) (a1_1:Int) (a2:Int) (r:Bool) (w:World) (hr0:Kd.C (Kd.slice 48 k48) w A0 l0.length l0) (hc0:l0.length ≤ c0) (h:spec_l16Rest.f k l0 a1_0 a1_1 a2 = some r) :
  Calls Try.prog 90 #[.slice A0 l0.length c0,.agg #[.int .i64 a1_0,.int .i64 a1_1],.int .i64 a2] w fun e w'=>e = .returned (.bool r) ∧ Below w.heap.size w w':=by
 have hu48:=Try.underlying48;have HR0:=zM hr0;have HC0:=zM hc0;clear hr0 hc0;have HB:=zM (Below.refl w.heap.size w);have H:(spec_l16Rest.l0 k l0 a2 a1_0 a1_1) = some r:=h
 clear h;have H':=zM H;clear H;go_enter Try.func90,Try.ntmps90
 go_wp2_with (first|((with_reducible refine gate_dst (N:=4) rfl ?_);refine zzc 4 #[.int .i64 a1_0,.int .i64 a1_1] 48 ?_;intro gb510 hg w4 hbox hb;have n0_:=zM (zQ zzh hb);have n1_:=zM (hbox);have n2_:=zM ((by rw [hg];exact (zR zzh):w.heap.size ≤ gb510));have n3_:=zM ((by rw [hg];exact (zR zzh):w.heap.size ≤ gb510));clear HB;have HB:=n0_;have BK510:=n1_;have GW510:=n2_;have GE510:=n3_;clear n0_ n1_ n2_ n3_;clear hb hbox hg))
 go_loopg [2] k (fun kq v2 w' => ∃ (x2_1:Int),v2 = .int .i64 x2_1 ∧ Aside0 (spec_l16Rest.l0 kq l0 x2_1 a1_0 a1_1 = some r) ∧ Aside0 (kq ≤ k) ∧ Aside0 (w'.heap[gb510]? = some (.cells #[.int .i64 a1_0,.int .i64 a1_1] 48 (0,0))) ∧ Aside0 (Below w.heap.size w w'))
 case atStart=>exact ⟨(a2),(by first|rfl|(simp;done)|(simp [*];done)),H',⟨Nat.le_refl _⟩,⟨zzi BK510⟩,⟨zzh⟩⟩
 case round =>
  clear H';(try clear p2);obtain ⟨x2_1,rfl,HA,HK1,BK510,HB⟩:=hrel;cases gk with
  | zero=>exact absurd HA.out (by simp [spec_l16Rest.l0])
  | succ k1 =>
   have H:=HA.out;clear HA;simp only [spec_l16Rest.l0] at H
   by_cases c5:x2_1 ≤ 24
   ·rw [if_pos c5] at H
    have c5b0:decide (x2_1 ≤ 24) = true:=decide_eq_true c5
    clear c5;replace H:=Option.bind_eq_some_iff.mp H;obtain ⟨t511,A60,H⟩:=H;replace H:(if t511 = true then (spec_l16Rest.l0 k1 l0 (wrap64 (x2_1 + 1)) a1_0 a1_1) else (some false)) = some r:=H
    have A6:=zM A60;clear A60;by_cases c7:t511 = true
    ·subst c7
     have H1:(spec_l16Rest.l0 k1 l0 (wrap64 (x2_1 + 1)) a1_0 a1_1) = some r:=by rw [if_pos rfl] at H;exact H
     clear H;have H:=H1;clear H1;have H':=zM H;clear H;have hcz8_0:=zz0 BK510
     have hcz8_1:=zz1 BK510
     have hfz8_0:=blk_frozen BK510.out 0;have hfz8_1:=blk_frozen BK510.out 1;go_wp2_with (first|((with_reducible refine gate_callee (f:=91) rfl ?_);refine goesL_ (some 15) rfl rfl Try.func91 (by kernel_rfl) rfl #[.slice A0 l0.length c0,.agg #[.int .i64 a1_0,.int .i64 a1_1],.agg #[.int .i64 a1_0,.int .i64 a1_1],.int .i64 x2_1] rfl (by (try simp only [List.map_toArray,List.map_cons,List.map_nil]);first|done|rfl|(simp only [List.length_drop,List.length_take];rfl)) ?_;(with_reducible refine (spec_l16Clear.calls k1 _ _ l0 a1_0 a1_1 a1_0 a1_1 x2_1 true _ ?side1 ?side2 A6.out).mono ?_);(case side1=>repeat (first|exact (zO HR0.out HB.out)|(with_reducible first|refine zG ?_ _|refine zH ?_ _|refine zI ?_)));(case side2=>exact HC0.out);rintro e w9 ⟨rfl,hb⟩;refine ⟨_,rfl,?_⟩;have n0_:=zM (blk_below (g:=gb510) (o := .cells #[.int .i64 a1_0,.int .i64 a1_1] 48 (0,0)) (zzi BK510) hb);have n1_:=zM (zQ zzh hb);clear BK510;clear HB;have BK510:=n0_;have HB:=n1_;clear n0_ n1_;(try clear hb);(try clear hb2);(try clear hk);(try clear hi)))
     go_roundg k1
     case measure=>have:=HK1.out;omega
     case rel=>exact ⟨(wrap64 (x2_1 + 1)),(by first|rfl|(simp;done)|(simp [*];done)),H',⟨by have:=HK1.out;omega⟩,⟨zzi BK510⟩,⟨zzh⟩⟩
    ·replace c7:=Bool.eq_false_iff.mpr c7
     subst c7;have H1:(some false) = some r:=by rw [if_neg (show ¬ (false = true) by decide)] at H;exact H
     clear H;have H:=H1;clear H1;obtain rfl:=Option.some.inj H;have hcz10_0:=zz0 BK510
     have hcz10_1:=zz1 BK510
     have hfz10_0:=blk_frozen BK510.out 0;have hfz10_1:=blk_frozen BK510.out 1;go_wp2_with (first|((with_reducible refine gate_callee (f:=91) rfl ?_);refine goesL_ (some 15) rfl rfl Try.func91 (by kernel_rfl) rfl #[.slice A0 l0.length c0,.agg #[.int .i64 a1_0,.int .i64 a1_1],.agg #[.int .i64 a1_0,.int .i64 a1_1],.int .i64 x2_1] rfl (by (try simp only [List.map_toArray,List.map_cons,List.map_nil]);first|done|rfl|(simp only [List.length_drop,List.length_take];rfl)) ?_;(with_reducible refine (spec_l16Clear.calls k1 _ _ l0 a1_0 a1_1 a1_0 a1_1 x2_1 false _ ?side1 ?side2 A6.out).mono ?_);(case side1=>repeat (first|exact (zO HR0.out HB.out)|(with_reducible first|refine zG ?_ _|refine zH ?_ _|refine zI ?_)));(case side2=>exact HC0.out);rintro e w11 ⟨rfl,hb⟩;refine ⟨_,rfl,?_⟩;have n0_:=zM (blk_below (g:=gb510) (o := .cells #[.int .i64 a1_0,.int .i64 a1_1] 48 (0,0)) (zzi BK510) hb);have n1_:=zM (zQ zzh hb);clear BK510;clear HB;have BK510:=n0_;have HB:=n1_;clear n0_ n1_;(try clear hb);(try clear hb2);(try clear hk);(try clear hi)))
     go_ret
     exact ⟨by first|rfl|(simp [errW_none,errW_some] <;> rfl)|(simp [*,errW_none,errW_some] <;> rfl),zzh⟩
   ·rw [if_neg c5] at H
    have c5b0:decide (x2_1 ≤ 24) = false:=decide_eq_false c5
    clear c5;obtain rfl:=Option.some.inj H;go_wp2
    go_ret
    exact ⟨by first|rfl|(simp [errW_none,errW_some] <;> rfl)|(simp [*,errW_none,errW_some] <;> rfl),zzh⟩



attribute [local go_sem high] eqA48
/-! ### spec_l16Has: function 89 -/
def spec_l16Has.l0:Nat → List (S48) → Int → Int → Int → Option (Bool)
 | 0,_,_,_,_=>none
 | k + 1,x0,x5,x509000,x509001=>if x5 < (x0.length:Int) then (if 0 ≤ x5 then (if (((rd_T48 x0 x5).f0) == x509000 && (((rd_T48 x0 x5).f1) == x509001)) = true then (some true) else (spec_l16Has.l0 k x0 (wrap64 (x5 + 1)) x509000 x509001)) else (none)) else (some false)
def spec_l16Has.f (k:Nat) (l0:List (S48)) (a1_0:Int) (a1_1:Int):Option (Bool):=spec_l16Has.l0 k l0 0 a1_0 a1_1
set_option maxHeartbeats 8000000 in
set_option maxRecDepth 100000 in
theorem spec_l16Has.calls (k:Nat) (A0:Option Addr) (c0:Nat) (l0:List (S48)) (a1_0:Int) (a1_1:Int) (r:Bool) (w:World) (hr0:Kd.C k48 w A0 l0.length l0) (hc0:l0.length ≤ c0) (h:spec_l16Has.f k l0 a1_0 a1_1 = some r) :
  Calls Try.prog 89 #[.slice A0 l0.length c0,.agg #[.int .i64 a1_0,.int .i64 a1_1]] w fun e w'=>e = .returned (.bool r) ∧ Below w.heap.size w w':=by
 have hu48:=Try.underlying48;have HR0:=zM hr0;have HC0:=zM hc0;clear hr0 hc0;have HB:=zM (Below.refl w.heap.size w);have H:(spec_l16Has.l0 k l0 0 a1_0 a1_1) = some r:=h
 clear h;have H':=zM H;clear H;go_enter Try.func89,Try.ntmps89
 go_wp2_with (first|((with_reducible refine gate_dst (N:=3) rfl ?_);refine zzc 3 #[.int .i64 a1_0,.int .i64 a1_1] 48 ?_;intro gb508 hg w3 hbox hb;have n0_:=zM (zQ zzh hb);have n1_:=zM (hbox);have n2_:=zM ((by rw [hg];exact (zR zzh):w.heap.size ≤ gb508));have n3_:=zM ((by rw [hg];exact (zR zzh):w.heap.size ≤ gb508));clear HB;have HB:=n0_;have BK508:=n1_;have GW508:=n2_;have GE508:=n3_;clear n0_ n1_ n2_ n3_;clear hb hbox hg))
 repeat (go_quiet (first|((with_reducible refine gate_dst (N:=3) rfl ?_);refine zzc 3 #[.int .i64 a1_0,.int .i64 a1_1] 48 ?_;intro gb508 hg w3 hbox hb;have n0_:=zM (zQ zzh hb);have n1_:=zM (hbox);have n2_:=zM ((by rw [hg];exact (zR zzh):w.heap.size ≤ gb508));have n3_:=zM ((by rw [hg];exact (zR zzh):w.heap.size ≤ gb508));clear HB;have HB:=n0_;have BK508:=n1_;have GW508:=n2_;have GE508:=n3_;clear n0_ n1_ n2_ n3_;clear hb hbox hg));try go_wp2_with (first|((with_reducible refine gate_dst (N:=3) rfl ?_);refine zzc 3 #[.int .i64 a1_0,.int .i64 a1_1] 48 ?_;intro gb508 hg w3 hbox hb;have n0_:=zM (zQ zzh hb);have n1_:=zM (hbox);have n2_:=zM ((by rw [hg];exact (zR zzh):w.heap.size ≤ gb508));have n3_:=zM ((by rw [hg];exact (zR zzh):w.heap.size ≤ gb508));clear HB;have HB:=n0_;have BK508:=n1_;have GW508:=n2_;have GE508:=n3_;clear n0_ n1_ n2_ n3_;clear hb hbox hg)))
 go_loopg [5] k (fun kq v5 w' => ∃ (x5_1:Int),v5 = .int .i64 x5_1 ∧ Aside0 (spec_l16Has.l0 kq l0 x5_1 a1_0 a1_1 = some r) ∧ Aside0 (kq ≤ k) ∧ Aside0 (w'.heap[gb508]? = some (.cells #[.int .i64 a1_0,.int .i64 a1_1] 48 (0,0))) ∧ Aside0 (Below w.heap.size w w'))
 case atStart=>exact ⟨(0),(by first|rfl|(simp;done)|(simp [*];done)),H',⟨Nat.le_refl _⟩,⟨zzi BK508⟩,⟨zzh⟩⟩
 case round =>
  clear H';(try clear p2);obtain ⟨x5_1,rfl,HA,HK1,BK508,HB⟩:=hrel;cases gk with
  | zero=>exact absurd HA.out (by simp [spec_l16Has.l0])
  | succ k1 =>
   have H:=HA.out;clear HA;simp only [spec_l16Has.l0] at H
   by_cases c4:x5_1 < (l0.length:Int)
   ·rw [if_pos c4] at H
    have c4b0:decide (x5_1 < (l0.length:Int)) = true:=decide_eq_true c4
    clear c4;by_cases c5:0 ≤ x5_1
    ·rw [if_pos c5] at H
     have c5b0:decide (0 ≤ x5_1) = true:=decide_eq_true c5
     clear c5;by_cases c6:(((rd_T48 l0 x5_1).f0) == a1_0 && (((rd_T48 l0 x5_1).f1) == a1_1)) = true
     ·rw [if_pos c6] at H
      have c6b0:(((rd_T48 l0 x5_1).f0) == a1_0 && (((rd_T48 l0 x5_1).f1) == a1_1)) = true:=c6
      (try (have c6b1:decide (((rd_T48 l0 x5_1).f0) = a1_0 && (((rd_T48 l0 x5_1).f1) == a1_1)) = true:=by simpa using c6))
      (try (have c6b2:(((rd_T48 l0 x5_1).f0) == a1_0 && (((rd_T48 l0 x5_1).f1) == a1_1)) = true:=by simpa using c6))
      clear c6;obtain rfl:=Option.some.inj H;have p509:0 ≤ (x5_1:Int):=zzd
      have q509:x5_1 < (l0.length:Int):=zzd
      obtain ⟨ad509,e509,hx509_0,hx509_1⟩:=at_T48 HR0.out x5_1 p509 q509;cases e509
      replace hx509_0:=zS HB.out hx509_0;replace hx509_1:=zS HB.out hx509_1;replace p509:=eq_true p509;replace q509:=eq_true q509;have hcz7_0:=zz0 BK508
      have hcz7_1:=zz1 BK508
      have hfz7_0:=blk_frozen BK508.out 0;have hfz7_1:=blk_frozen BK508.out 1;go_wp2
      repeat (go_quiet (fail);try go_wp2)
      go_ret
      exact ⟨by first|rfl|(simp [errW_none,errW_some] <;> rfl)|(simp [*,errW_none,errW_some] <;> rfl),zzh⟩
     ·rw [if_neg c6] at H
      have c6b0:(((rd_T48 l0 x5_1).f0) == a1_0 && (((rd_T48 l0 x5_1).f1) == a1_1)) = false:=by simpa using c6
      (try (have c6b1:decide (((rd_T48 l0 x5_1).f0) = a1_0 && (((rd_T48 l0 x5_1).f1) == a1_1)) = false:=by simpa using c6))
      (try (have c6b2:(((rd_T48 l0 x5_1).f0) == a1_0 && (((rd_T48 l0 x5_1).f1) == a1_1)) = false:=by simpa using c6))
      (try (have c6b3:¬ (((rd_T48 l0 x5_1).f0) = a1_0 && (((rd_T48 l0 x5_1).f1) == a1_1)):=by simpa using c6))
      clear c6;have H':=zM H;clear H;have p509:0 ≤ (x5_1:Int):=zzd
      have q509:x5_1 < (l0.length:Int):=zzd
      obtain ⟨ad509,e509,hx509_0,hx509_1⟩:=at_T48 HR0.out x5_1 p509 q509;cases e509
      replace hx509_0:=zS HB.out hx509_0;replace hx509_1:=zS HB.out hx509_1;replace p509:=eq_true p509;replace q509:=eq_true q509;have hcz8_0:=zz0 BK508
      have hcz8_1:=zz1 BK508
      have hfz8_0:=blk_frozen BK508.out 0;have hfz8_1:=blk_frozen BK508.out 1;go_wp2
      repeat (go_quiet (fail);try go_wp2)
      go_roundg k1
      case measure=>have:=HK1.out;omega
      case rel=>exact ⟨(wrap64 (x5_1 + 1)),(by first|rfl|(simp;done)|(simp [*];done)),H',⟨by have:=HK1.out;omega⟩,⟨zzi BK508⟩,⟨zzh⟩⟩
    ·rw [if_neg c5] at H
     exact absurd H (by simp)
   ·rw [if_neg c4] at H
    have c4b0:decide (x5_1 < (l0.length:Int)) = false:=decide_eq_false c4
    clear c4;obtain rfl:=Option.some.inj H;go_wp2
    repeat (go_quiet (fail);try go_wp2)
    go_ret
    exact ⟨by first|rfl|(simp [errW_none,errW_some] <;> rfl)|(simp [*,errW_none,errW_some] <;> rfl),zzh⟩

end Go.Proofs.Ytbpccdbkaiigcaa.G

/- What l16Clear, l16Rest and l16Has answer. -/
namespace Go.Proofs.Ytbpccdbkaiigcaa.G
open Go.RowKit Go.Proofs.YtbpccdbkaiigcaaW.PrintWords Go.Proofs.YtbpccdbkaiigcaaW.PrintLast
set_option linter.unusedVariables false
set_option linter.unusedSimpArgs false
/-- Which operations of a region have come up: the bits of k. -/
def bits (n k : Nat) : Array Bool:=((List.range n).map (Nat.testBit k)).toArray
theorem rd6_mem {os : List (List S48)} {i : Int} (h0 : 0 ≤ i) (h1 : i < (os.length : Int)) : rd_L6 os i ∈ os:=by
 unfold rd_L6
 rw [List.getD_eq_getElem?_getD,List.getElem?_eq_getElem (by omega)]
 exact List.getElem_mem _
theorem mem_rd6 {os : List (List S48)} {p : List S48} (h : p ∈ os) : ∃ i : Int,0 ≤ i ∧ i < (os.length : Int) ∧ rd_L6 os i = p:=by
 obtain ⟨i,hi,e⟩:=List.mem_iff_getElem.1 h
 refine ⟨(i : Int),by omega,by omega,?_⟩
 unfold rd_L6
 rw [Int.toNat_natCast,List.getD_eq_getElem?_getD,List.getElem?_eq_getElem hi]
 exact e
/-- One vehicle's part of it. -/
def Hit1 (p : List S48) (a b : S48) (t : Int) : Prop:=cat p t = b ∨ (0 < t ∧ cat p t = a ∧ cat p (t - 1) = b)
theorem hitAt_all {os : List (List S48)} {a b : S48} {t : Int} : All (fun j => ¬ Hit1 (rd_L6 os j) a b t) 0 (os.length : Int) ↔ ¬ HitAt os a b t:=by
 constructor
 ·rintro h ⟨p,hp,hh⟩
  obtain ⟨i,h0,h1,rfl⟩:=mem_rd6 hp
  exact h i h0 h1 hh
 ·intro h i h0 h1 hh
  exact h ⟨_,rd6_mem h0 h1,hh⟩
theorem eq_bool (a b : S48) : (a.f0 == b.f0 && (a.f1 == b.f1)) = true ↔ a = b:=(eqc_bool a b).trans eqc_iff
/-- The others are paths of a length that fits. -/
def Len (os : List (List S48)) : Prop:=(os.length : Int) ≤ 1099511627776 ∧ ∀ p ∈ os,1 ≤ (p.length : Int) ∧ (p.length : Int) ≤ 25
theorem spec_clear {os : List (List S48)} (ho : Len os) (a b : S48) (t : Int) (h0 : 0 ≤ t) (h1 : t ≤ 30) : Ev (fun k=>spec_l16Clear.f k os a.f0 a.f1 b.f0 b.f1 t) (chk (HitAt os a b t) false true):=by
 unfold spec_l16Clear.f
 have hl:=ho.1
 have main:=Ev.check (fun k i=>spec_l16Clear.l0 k os t i a.f0 a.f1 b.f0 b.f1) (os.length : Int) (fun j => ¬ Hit1 (rd_L6 os j) a b t) true false 0 (by
  refine Ev.step (fun k=>by rw [spec_l16Clear.l0]) ?_
  simp only [Int.lt_irrefl,if_false]
  exact Ev.now _) (by
  intro i i0 hlt r hr
  have hp:=ho.2 _ (rd6_mem i0 hlt)
  refine Ev.step (fun k=>by rw [spec_l16Clear.l0]) ?_
  simp (disch:=omega) only [if_pos]
  rw [spec_cat _ hp.1 hp.2 t h0]
  simp only [Option.bind_some]
  rw [wrap64_id (x:=i + 1) (by omega) (by omega)]
  refine Ev.ite (fun e1=>?_) (fun e1=>?_)
  ·rw [chk_neg (fun m=>m (Or.inl ((eq_bool _ _).1 e1)))];exact Ev.now _
  ·have e1:=fun m=>e1 ((eq_bool (cat (rd_L6 os i) t) b).2 m)
   refine Ev.ite (fun g=>?_) (fun g=>?_)
   ·refine Ev.ite (fun e2=>?_) (fun e2=>?_)
    ·have e2:=(eq_bool (cat (rd_L6 os i) t) a).1 e2
     rw [wrap64_id (x:=t - 1) (by omega) (by omega),spec_cat _ hp.1 hp.2 (t - 1) (by omega)]
     simp only [Option.bind_some]
     refine Ev.ite (fun e3=>?_) (fun e3=>?_)
     ·have e3:=(eq_bool (cat (rd_L6 os i) (t - 1)) b).1 e3
      rw [chk_neg (fun m=>m (Or.inr ⟨g,e2,e3⟩))];exact Ev.now _
     ·have e3:=fun m=>e3 ((eq_bool (cat (rd_L6 os i) (t - 1)) b).2 m)
      rw [chk_pos (fun m=>m.elim e1 (fun m=>e3 m.2.2))];exact hr
    ·have e2:=fun m=>e2 ((eq_bool (cat (rd_L6 os i) t) a).2 m)
     rw [chk_pos (fun m=>m.elim e1 (fun m=>e2 m.2.1))];exact hr
   ·rw [chk_pos (fun m=>m.elim e1 (fun m=>g m.1))];exact hr) 0 (by omega) (by omega)
 refine Ev.eq main ?_
 by_cases hh : HitAt os a b t
 ·rw [chk_pos hh,chk_neg (fun m=>hitAt_all.1 m hh)]
 ·rw [chk_neg hh,chk_pos (hitAt_all.2 hh)]
theorem spec_rest {os : List (List S48)} (ho : Len os) (b : S48) (t : Nat) (h1 : t ≤ 25) : Ev (fun k=>spec_l16Rest.f k os b.f0 b.f1 (t : Int)) (chk (Rest os b t) true false):=by
 unfold spec_l16Rest.f
 have main:=Ev.check (fun k i=>spec_l16Rest.l0 k os i b.f0 b.f1) 25 (fun j => ¬ HitAt os b b j) true false 0 (by
  refine Ev.step (fun k=>by rw [spec_l16Rest.l0]) ?_
  simp (disch:=omega) only [if_neg]
  exact Ev.now _) (by
  intro i i0 hlt r hr
  refine Ev.step (fun k=>by rw [spec_l16Rest.l0]) ?_
  simp (disch:=omega) only [if_pos (show i ≤ 24 by omega)]
  refine Ev.bind (spec_clear ho b b i i0 (by omega)) ?_
  rw [wrap64_id (x:=i + 1) (by omega) (by omega)]
  by_cases hh : HitAt os b b i
  ·rw [chk_pos hh,chk_neg (fun m=>m hh)];exact Ev.now _
  ·rw [chk_neg hh,chk_pos hh];exact hr) (t : Int) (by omega) (by omega)
 refine Ev.eq main (chk_congr (p:=All (fun j => ¬ HitAt os b b j) (t : Int) 25) (q:=Rest os b t) ⟨fun a s s0 s1=>a (s : Int) (by omega) (by omega),fun a i i0 i1=>?_⟩ _ _)
 have:=a i.toNat (by omega) (by omega)
 rwa [Int.toNat_of_nonneg (by omega)] at this
theorem spec_has (l : List S48) (hl : (l.length : Int) ≤ 1099511627776) (c : S48) : Ev (fun k=>spec_l16Has.f k l c.f0 c.f1) (chk (c ∈ l) true false):=by
 unfold spec_l16Has.f
 have h:=Ev.check (fun k i=>spec_l16Has.l0 k l i c.f0 c.f1) (l.length : Int) (fun j => ¬ rd_T48 l j = c) false true 0 (by
  refine Ev.step (fun k=>by rw [spec_l16Has.l0]) ?_
  simp only [Int.lt_irrefl,if_false]
  exact Ev.now _) (by
  intro i h0 hlt r hr
  refine Ev.step (fun k=>by rw [spec_l16Has.l0]) ?_
  simp (disch:=omega) only [if_pos,wrap64_id]
  refine Ev.ite (fun g=>?_) (fun g=>?_)
  ·rw [chk_neg (fun m=>m ((eq_bool _ _).1 g))];exact Ev.now _
  ·rw [chk_pos (fun m=>g ((eq_bool _ _).2 m))];exact hr) 0 (by omega) (by omega)
 refine Ev.eq h ?_
 by_cases ha : c ∈ l
 ·rw [chk_pos ha,chk_neg (fun m=>?_)]
  obtain ⟨i,hi,e⟩:=List.mem_iff_getElem.1 ha
  refine m (i : Int) (by omega) (by omega) ?_
  unfold rd_T48
  rw [Int.toNat_natCast,List.getD_eq_getElem?_getD,List.getElem?_eq_getElem hi]
  exact e
 ·rw [chk_neg ha,chk_pos (show All (fun j => ¬ rd_T48 l j = c) 0 (l.length : Int) from fun i h0 h1 (e : rd_T48 l i = c)=>ha (by rw [← e];exact mem48 l i h0 h1))]
end Go.Proofs.Ytbpccdbkaiigcaa.G

/- What the walk of spec.l16Levels holds of the world. -/
namespace Go.Proofs.Ytbpccdbkaiigcaa.G
open Go.RowKit Go.Proofs.YtbpccdbkaiigcaaW.PrintWords Go.Proofs.YtbpccdbkaiigcaaW.PrintLast Go.Proofs.YtbpccdbkaiigcaaW.PrintMore
set_option linter.unusedVariables false
set_option linter.unusedSimpArgs false
abbrev SL6 : Kd (List S48):=Kd.slice 48 k48
theorem fil_len (P : S48 → Prop) (l : List S48) : (fil P l).length ≤ l.length:=List.length_filter_le _ _
theorem lev_len {w h : Int} {bl : List S48} {os : List (List S48)} {a : S48} (hf : FloorOk w h bl) : ∀ t,(lev w h bl os a t).length ≤ 36
 | 0=>by rw [lev];show 1 ≤ 36;omega
 | t + 1=>by
  rw [lev]
  refine Nat.le_trans (fil_len _ _) ?_
  unfold cells
  rw [cellsTo_len]
  have h1 : h.toNat ≤ 6:=by have:=hf.2.1;omega
  have h2 : w.toNat ≤ 6:=by have:=hf.1;omega
  exact Nat.mul_le_mul h1 h2
theorem cells_pre {w y x : Nat} (h1 : y ≤ 6) (h2 : w ≤ 6) (h3 : x ≤ 6) : (cellsTo w y ++ rowC (y : Int) x).length ≤ 50:=by
 have:=Nat.mul_le_mul h1 h2
 rw [List.length_append,cellsTo_len]
 unfold rowC
 simp
 omega
/-- out: the levels so far, now: the last of them, nxt: the one that is being made. -/
structure LV (w0 w : World) (fc : Array Value) (g3 : Nat) (v7 : Value) (out : List (List S48)) (v8 : Value) (now : List S48) (v10 : Value) (nxt : List S48) : Prop where
 fl : w.heap[g3]? = some (.cells fc 29 (0,0))
 out : Kd.R SL6 27 w w0.heap.size (fun k=>some k ≠ v10.ownBlock) v7 out
 now : Kd.R k48 48 w w0.heap.size (fun k=>some k ≠ v10.ownBlock) v8 now
 nxt : Kd.R k48 48 w w0.heap.size (fun _=>True) v10 nxt
 bl : Below w0.heap.size w0 w
section
variable {w0 w w1 : World} {fc : Array Value} {g3 : Nat} {v7 v8 v10 v7' v10' : Value} {out : List (List S48)} {now nxt nxt' : List S48}
theorem LV.below (h : LV w0 w fc g3 v7 out v8 now v10 nxt) (hb : Below w.heap.size w w1) : LV w0 w1 fc g3 v7 out v8 now v10 nxt :=
 ⟨blk_below h.fl hb,Kd.R_below h.out hb,Kd.R_below h.now hb,Kd.R_below h.nxt hb,below_step h.bl hb⟩
theorem LV.fresh (h : LV w0 w fc g3 v7 out v8 now v10 nxt) (hb : Below w.heap.size w w1) (hr : Kd.R k48 48 w1 w.heap.size (fun _=>True) v10' nxt') : LV w0 w1 fc g3 v7 out v8 now v10' nxt' :=
 ⟨blk_below h.fl hb,Kd.R_mono (Kd.R_elder (Kd.R_mono h.out (ok':=fun _=>True) (fun _ _=>trivial)) hr hb) (fun _ hk=>hk.2),Kd.R_mono (Kd.R_elder (Kd.R_mono h.now (ok':=fun _=>True) (fun _ _=>trivial)) hr hb) (fun _ hk=>hk.2),Kd.R_lower hr h.bl.size,below_step h.bl hb⟩
theorem LV.app (h : LV w0 w fc g3 v7 out v8 now v10 nxt) (hq : Kd.R k48 48 w1 w0.heap.size (fun _=>True) v10' nxt') (hB : Below w0.heap.size w0 w1) (hg : w.grownBy w1 v10.ownBlock) (hat : v10'.ownBlock = v10.ownBlock ∨ ∃ b,v10'.ownBlock = some b ∧ w.heap.size ≤ b) : LV w0 w1 fc g3 v7 out v8 now v10' nxt' :=
 ⟨(hg.block g3 (blk_lt h.fl) (Kd.R_ne h.nxt h.fl (by decide))).trans h.fl,Kd.R_mono (Kd.R_after (ok:=fun _=>True) (Kd.R_mono h.out (fun _ hk=>⟨trivial,hk⟩)) hg hat) (fun _ hk=>hk.2),Kd.R_mono (Kd.R_after (ok:=fun _=>True) (Kd.R_mono h.now (fun _ hk=>⟨trivial,hk⟩)) hg hat) (fun _ hk=>hk.2),hq,hB⟩
theorem LV.turn (h : LV w0 w fc g3 v7 out v8 now v10 nxt) (hR : Kd.R SL6 27 w1 w0.heap.size (fun _=>True) v7' (out ++ [nxt])) (hB : Below w0.heap.size w0 w1) (hg : w.grownBy w1 v7.ownBlock) : LV w0 w1 fc g3 v7' (out ++ [nxt]) v10 nxt (.slice none 0 0) [] :=
 ⟨(hg.block g3 (blk_lt h.fl) (Kd.R_ne h.out h.fl (by decide))).trans h.fl,Kd.R_mono hR (fun k _=>by simp [Value.ownBlock]),Kd.R_mono (Kd.R_over' h.nxt (Kd.R_typed h.out) (by decide) hg) (fun k _=>by simp [Value.ownBlock]),Kd.R_nil _ _ _ _ _,hB⟩
/-- The row that is appended, as the law of append asks for it. -/
theorem LV.rowM (h : LV w0 w fc g3 v7 out v8 now v10 nxt) : SL6.M w w0.heap.size (fun k=>True ∧ some k ≠ v7.ownBlock) nxt [v10]:=Kd.M_row (Kd.R_apart' h.nxt (Kd.R_typed h.out) (by decide))
theorem LV.outT (h : LV w0 w fc g3 v7 out v8 now v10 nxt) : Kd.R SL6 27 w w0.heap.size (fun _=>True) v7 out:=Kd.R_mono h.out (fun _ _=>trivial)
end
end Go.Proofs.Ytbpccdbkaiigcaa.G
