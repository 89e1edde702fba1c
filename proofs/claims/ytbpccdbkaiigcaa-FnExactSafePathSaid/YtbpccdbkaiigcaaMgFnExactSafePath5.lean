/- Texts of the proof of FnExactSafePath, joined in build order. -/
import Derived.Test.YtbpccdbkaiigcaaMgFnExactSafePath1
import Derived.Test.YtbpccdbkaiigcaaMgFnExactSafePath4
import Derived.Deep.Slices
import Derived.ChangeArms
import Derived.WideShapes
import Derived.ChangeShapes
-- Written by wip/tools/gen.py out of the translation (the kit's printer, one namespace a seat). Lean checks it.
namespace Go.Proofs.Ytbpccdbkaiigcaa.G
open Go.RowKit Go.Proofs.YtbpccdbkaiigcaaW.PrintWords Go.Proofs.YtbpccdbkaiigcaaW.PrintLast Go.Proofs.YtbpccdbkaiigcaaW.PrintMore
attribute [local go_sem] max2_int min2_int max_two min_two max_three min_three max_four min_four   -- for this text's walks alone
set_option linter.unusedVariables false
set_option linter.unusedSimpArgs false

/-! ### laws_eqCellS: function 22 -/
def laws_eqCellS.l0:Nat → List (S48) → List (S48) → Int → Option (Bool)
 | 0,_,_,_=>none
 | k + 1,x0,x1,x5=>if x5 < (x0.length:Int) then (if 0 ≤ x5 then (if x5 < (x1.length:Int) then ((laws_eqCell.f ((rd_T48 x0 x5).f0) ((rd_T48 x0 x5).f1) ((rd_T48 x1 x5).f0) ((rd_T48 x1 x5).f1)).bind fun t152=>(if t152 = true then (laws_eqCellS.l0 k x0 x1 (wrap64 (x5 + 1))) else (some false))) else (none)) else (none)) else (some true)
def laws_eqCellS.f (k:Nat) (l0:List (S48)) (l1:List (S48)):Option (Bool):=if (l0.length:Int) = (l1.length:Int) then (laws_eqCellS.l0 k l0 l1 0) else (some false)
def laws_eqCellS.T6:Bool × List (List Nat × List Nat):=(true,[([],[]),([],[]),([0,1],[0,1]),([2],[2]),([],[]),([],[]),([4,5],[4,5]),([6],[6]),([3,7],[3,7]),([8],[8])])
def laws_eqCellS.B6:List Nat:=[0,0,3,7,0,0,48,112,255,511]
theorem laws_eqCellS.tab6:rtab .any (opsOf Try.f22 6) = laws_eqCellS.T6:=by kernel_rfl
theorem laws_eqCellS.bits6:waitsOk laws_eqCellS.T6.2 laws_eqCellS.B6 = true:=by kernel_rfl
set_option maxHeartbeats 8000000 in
set_option maxRecDepth 100000 in
theorem laws_eqCellS.calls (k:Nat) (A0:Option Addr) (c0:Nat) (l0:List (S48)) (A1:Option Addr) (c1:Nat) (l1:List (S48)) (r:Bool) (w:World) (hr0:Kd.C k48 w A0 l0.length l0) (hc0:l0.length ≤ c0) (hr1:Kd.C k48 w A1 l1.length l1) (hc1:l1.length ≤ c1) (h:laws_eqCellS.f k l0 l1 = some r) :
  Calls Try.prog 22 #[.slice A0 l0.length c0,.slice A1 l1.length c1] w fun e w'=>e = .returned (.bool r) ∧ Below w.heap.size w w':=by
 have hu48:=Try.underlying48;have HR0:=zM hr0;have HC0:=zM hc0;clear hr0 hc0;have HR1:=zM hr1;have HC1:=zM hc1;clear hr1 hc1;have HB:=zM (Below.refl w.heap.size w);have H:(if (l0.length:Int) = (l1.length:Int) then (laws_eqCellS.l0 k l0 l1 0) else (some false)) = some r:=h
 clear h;by_cases c3:(l0.length:Int) = (l1.length:Int)
 ·rw [if_pos c3] at H
  have c3b0:((l0.length:Int) == (l1.length:Int)) = true:=beq_iff_eq.mpr c3
  have c3b1:((l0.length:Int) != (l1.length:Int)) = false:=bne_eq_false_iff_eq.mpr c3
  have c3b2:(l0.length == l1.length) = true:=by first|simpa using c3|(simp at c3 ⊢;omega)
  clear c3;have H':=zM H;clear H;go_enter Try.func22,Try.ntmps22
  go_wp2
  go_loopg [5] k (fun kq v5 w' => ∃ (x5_1:Int),v5 = .int .i64 x5_1 ∧ Aside0 (laws_eqCellS.l0 kq l0 l1 x5_1 = some r) ∧ Aside0 (kq ≤ k) ∧ Aside0 (Below w.heap.size w w'))
  case atStart=>exact ⟨(0),(by first|rfl|(simp;done)|(simp [*];done)),H',⟨Nat.le_refl _⟩,⟨by repeat (first|(with_reducible first|exact HB.out|apply zD|apply zE|apply zF)|exact HB.out)⟩⟩
  case round =>
   clear H';(try clear c1);(try clear c2);(try clear p2);(try clear c3);(try clear c3b0);(try clear c3b1);(try clear c3b2);obtain ⟨x5_1,rfl,HA,HK1,HB⟩:=hrel;cases gk with
   | zero=>exact absurd HA.out (by simp [laws_eqCellS.l0])
   | succ k1 =>
    have H:=HA.out;clear HA;simp only [laws_eqCellS.l0] at H
    by_cases c4:x5_1 < (l0.length:Int)
    ·rw [if_pos c4] at H
     have c4b0:decide (x5_1 < (l0.length:Int)) = true:=decide_eq_true c4
     clear c4;by_cases c5:0 ≤ x5_1
     ·rw [if_pos c5] at H
      have c5b0:decide (0 ≤ x5_1) = true:=decide_eq_true c5
      clear c5;by_cases c6:x5_1 < (l1.length:Int)
      ·rw [if_pos c6] at H
       have c6b0:decide (x5_1 < (l1.length:Int)) = true:=decide_eq_true c6
       clear c6;replace H:=Option.bind_eq_some_iff.mp H;obtain ⟨t152,A70,H⟩:=H;replace H:(if t152 = true then (laws_eqCellS.l0 k1 l0 l1 (wrap64 (x5_1 + 1))) else (some false)) = some r:=H
       have A7:=zM A70;clear A70;by_cases c8:t152 = true
       ·subst c8
        have H1:(laws_eqCellS.l0 k1 l0 l1 (wrap64 (x5_1 + 1))) = some r:=by rw [if_pos rfl] at H;exact H
        clear H;have H:=H1;clear H1;have H':=zM H;clear H;try go_wp2
        have n0_:=zM (zF HB.out);clear HB;have HB:=n0_;clear n0_;have p150:0 ≤ (x5_1:Int):=of_decide_eq_true (by first|(with_reducible assumption)|assumption)
        have q150:x5_1 < (l0.length:Int):=of_decide_eq_true (by first|(with_reducible assumption)|assumption)
        obtain ⟨ad150,e150,hx150_0,hx150_1⟩:=at_T48 HR0.out x5_1 p150 q150;have hw150_1:=hx150_1;have hw150_0:=hx150_0;cases e150
        replace hx150_0:=zS HB.out hx150_0;replace hx150_1:=zS HB.out hx150_1;replace p150:=eq_true p150;replace q150:=eq_true q150;have p151:0 ≤ (x5_1:Int):=of_decide_eq_true (by first|(with_reducible assumption)|assumption)
        have q151:x5_1 < (l1.length:Int):=of_decide_eq_true (by first|(with_reducible assumption)|assumption)
        obtain ⟨ad151,e151,hx151_0,hx151_1⟩:=at_T48 HR1.out x5_1 p151 q151;have hw151_1:=hx151_1;have hw151_0:=hx151_0;cases e151
        replace hx151_0:=zS HB.out hx151_0;replace hx151_1:=zS HB.out hx151_1;replace p151:=eq_true p151;replace q151:=eq_true q151;refine start_ (n:=10) (S:=fun w'=>w'.cell? (ad150.add ((x5_1).toNat * 2)) = some (.int .i64 ((rd_T48 l0 x5_1).f0)) ∧ w'.cell? ⟨(ad150.add ((x5_1).toNat * 2)).block,(ad150.add ((x5_1).toNat * 2)).off + 1,none⟩ = some (.int .i64 ((rd_T48 l0 x5_1).f1)) ∧ w'.cell? (ad151.add ((x5_1).toNat * 2)) = some (.int .i64 ((rd_T48 l1 x5_1).f0)) ∧ w'.cell? ⟨(ad151.add ((x5_1).toNat * 2)).block,(ad151.add ((x5_1).toNat * 2)).off + 1,none⟩ = some (.int .i64 ((rd_T48 l1 x5_1).f1))) (ds:=[]) #[false,false,false,false,false,false,false,false,false,false] (by kernel_rfl) rfl rfl ⟨(zS HB.out hw150_0 :),(zS HB.out hw150_1 :),(zS HB.out hw151_0 :),(zS HB.out hw151_1 :)⟩ (fun hHeld=>?_);refine with_tabW laws_eqCellS.tab6 laws_eqCellS.bits6 (fun HT_ HW_=>?_)
        generalize wr.drew = w9 at HB hx150_0 hx150_1 hx151_0 hx151_1 hHeld ⊢
        refine zzp 0 17 (zzb 10 1) ?_ (hc:=zzx HT_);refine zzp 1 18 (zzb 10 3) ?_ (hc:=zzx HT_);refine zzp 2 19 (zzb 10 7) ?_ (hc:=zzx HT_);refine zzp 4 21 (zzb 10 23) ?_ (hc:=zzx HT_);refine zzp 5 22 (zzb 10 55) ?_ (hc:=zzx HT_);refine zzp 6 23 (zzb 10 119) ?_ (hc:=zzx HT_)
        refine zzt 3 20 (zzb 10 127) hHeld ?_ (hc:=zzy HT_ HW_) (hy:=by rintro w' ⟨s0,s1,s2,s3⟩;go_simp;with_reducible rfl)
        refine zzt 7 24 (zzb 10 255) hHeld ?_ (hc:=zzy HT_ HW_) (hy:=by rintro w' ⟨s0,s1,s2,s3⟩;go_simp;with_reducible rfl)
        refine one_ (i:=8) (N:=some 25) #[true,true,true,true,true,true,true,true,true,false] rfl rfl (one_of HT_.out (by kernel_rfl)) (by decide) (fun K hK=>?_)
        refine goes_ Try.func60 (by kernel_rfl) rfl #[.agg #[.int .i64 ((rd_T48 l0 x5_1).f0),.int .i64 ((rd_T48 l0 x5_1).f1)],.agg #[.int .i64 ((rd_T48 l1 x5_1).f0),.int .i64 ((rd_T48 l1 x5_1).f1)]] (by rfl) rfl rfl (by (try simp only [List.map_toArray,List.map_cons,List.map_nil]);first|done|rfl|(simp only [List.length_drop,List.length_take];rfl)) ?_
        with_reducible refine (laws_eqCell.calls ((rd_T48 l0 x5_1).f0) ((rd_T48 l0 x5_1).f1) ((rd_T48 l1 x5_1).f0) ((rd_T48 l1 x5_1).f1) true _ A7.out).mono ?_
        rintro e w10 ⟨rfl,hb⟩
        refine ⟨_,rfl,?_⟩
        have n0_:=zM (zQ (by repeat (first|(with_reducible first|exact HB.out|apply zD|apply zE|apply zF)|exact HB.out)) hb)
        clear HB;have HB:=n0_;clear n0_;(try clear hb)
        (try clear hb2)
        (try clear hk)
        (try clear hi)
        refine hK.out _ _ ⟨(zS HB.out hw150_0 :),(zS HB.out hw150_1 :),(zS HB.out hw151_0 :),(zS HB.out hw151_1 :)⟩ (fun hHeld=>?_)
        clear hK K;refine zzn 25 ?_;refine zzp 9 26 (zzb 10 1023) ?_ (hc:=zzx HT_)
        refine done_ (done_of HT_.out (by kernel_rfl)) ?_
        try go_wp2
        go_roundg k1
        case measure=>have:=HK1.out;omega
        case rel=>exact ⟨(wrap64 (x5_1 + 1)),(by first|rfl|(simp;done)|(simp [*];done)),H',⟨by have:=HK1.out;omega⟩,⟨by repeat (first|(with_reducible first|exact HB.out|apply zD|apply zE|apply zF)|exact HB.out)⟩⟩
       ·replace c8:=Bool.eq_false_iff.mpr c8
        subst c8;have H1:(some false) = some r:=by rw [if_neg (show ¬ (false = true) by decide)] at H;exact H
        clear H;have H:=H1;clear H1;obtain rfl:=Option.some.inj H;try go_wp2
        have n0_:=zM (zF HB.out);clear HB;have HB:=n0_;clear n0_;have p150:0 ≤ (x5_1:Int):=of_decide_eq_true (by first|(with_reducible assumption)|assumption)
        have q150:x5_1 < (l0.length:Int):=of_decide_eq_true (by first|(with_reducible assumption)|assumption)
        obtain ⟨ad150,e150,hx150_0,hx150_1⟩:=at_T48 HR0.out x5_1 p150 q150;have hw150_1:=hx150_1;have hw150_0:=hx150_0;cases e150
        replace hx150_0:=zS HB.out hx150_0;replace hx150_1:=zS HB.out hx150_1;replace p150:=eq_true p150;replace q150:=eq_true q150;have p151:0 ≤ (x5_1:Int):=of_decide_eq_true (by first|(with_reducible assumption)|assumption)
        have q151:x5_1 < (l1.length:Int):=of_decide_eq_true (by first|(with_reducible assumption)|assumption)
        obtain ⟨ad151,e151,hx151_0,hx151_1⟩:=at_T48 HR1.out x5_1 p151 q151;have hw151_1:=hx151_1;have hw151_0:=hx151_0;cases e151
        replace hx151_0:=zS HB.out hx151_0;replace hx151_1:=zS HB.out hx151_1;replace p151:=eq_true p151;replace q151:=eq_true q151;refine start_ (n:=10) (S:=fun w'=>w'.cell? (ad150.add ((x5_1).toNat * 2)) = some (.int .i64 ((rd_T48 l0 x5_1).f0)) ∧ w'.cell? ⟨(ad150.add ((x5_1).toNat * 2)).block,(ad150.add ((x5_1).toNat * 2)).off + 1,none⟩ = some (.int .i64 ((rd_T48 l0 x5_1).f1)) ∧ w'.cell? (ad151.add ((x5_1).toNat * 2)) = some (.int .i64 ((rd_T48 l1 x5_1).f0)) ∧ w'.cell? ⟨(ad151.add ((x5_1).toNat * 2)).block,(ad151.add ((x5_1).toNat * 2)).off + 1,none⟩ = some (.int .i64 ((rd_T48 l1 x5_1).f1))) (ds:=[]) #[false,false,false,false,false,false,false,false,false,false] (by kernel_rfl) rfl rfl ⟨(zS HB.out hw150_0 :),(zS HB.out hw150_1 :),(zS HB.out hw151_0 :),(zS HB.out hw151_1 :)⟩ (fun hHeld=>?_);refine with_tabW laws_eqCellS.tab6 laws_eqCellS.bits6 (fun HT_ HW_=>?_)
        generalize wr.drew = w11 at HB hx150_0 hx150_1 hx151_0 hx151_1 hHeld ⊢
        refine zzp 0 17 (zzb 10 1) ?_ (hc:=zzx HT_);refine zzp 1 18 (zzb 10 3) ?_ (hc:=zzx HT_);refine zzp 2 19 (zzb 10 7) ?_ (hc:=zzx HT_);refine zzp 4 21 (zzb 10 23) ?_ (hc:=zzx HT_);refine zzp 5 22 (zzb 10 55) ?_ (hc:=zzx HT_);refine zzp 6 23 (zzb 10 119) ?_ (hc:=zzx HT_)
        refine zzt 3 20 (zzb 10 127) hHeld ?_ (hc:=zzy HT_ HW_) (hy:=by rintro w' ⟨s0,s1,s2,s3⟩;go_simp;with_reducible rfl)
        refine zzt 7 24 (zzb 10 255) hHeld ?_ (hc:=zzy HT_ HW_) (hy:=by rintro w' ⟨s0,s1,s2,s3⟩;go_simp;with_reducible rfl)
        refine one_ (i:=8) (N:=some 25) #[true,true,true,true,true,true,true,true,true,false] rfl rfl (one_of HT_.out (by kernel_rfl)) (by decide) (fun K hK=>?_)
        refine goes_ Try.func60 (by kernel_rfl) rfl #[.agg #[.int .i64 ((rd_T48 l0 x5_1).f0),.int .i64 ((rd_T48 l0 x5_1).f1)],.agg #[.int .i64 ((rd_T48 l1 x5_1).f0),.int .i64 ((rd_T48 l1 x5_1).f1)]] (by rfl) rfl rfl (by (try simp only [List.map_toArray,List.map_cons,List.map_nil]);first|done|rfl|(simp only [List.length_drop,List.length_take];rfl)) ?_
        with_reducible refine (laws_eqCell.calls ((rd_T48 l0 x5_1).f0) ((rd_T48 l0 x5_1).f1) ((rd_T48 l1 x5_1).f0) ((rd_T48 l1 x5_1).f1) false _ A7.out).mono ?_
        rintro e w12 ⟨rfl,hb⟩
        refine ⟨_,rfl,?_⟩
        have n0_:=zM (zQ (by repeat (first|(with_reducible first|exact HB.out|apply zD|apply zE|apply zF)|exact HB.out)) hb)
        clear HB;have HB:=n0_;clear n0_;(try clear hb)
        (try clear hb2)
        (try clear hk)
        (try clear hi)
        refine hK.out _ _ ⟨(zS HB.out hw150_0 :),(zS HB.out hw150_1 :),(zS HB.out hw151_0 :),(zS HB.out hw151_1 :)⟩ (fun hHeld=>?_)
        clear hK K;refine zzn 25 ?_;refine zzp 9 26 (zzb 10 1023) ?_ (hc:=zzx HT_)
        refine done_ (done_of HT_.out (by kernel_rfl)) ?_
        try go_wp2
        go_ret
        exact ⟨by first|rfl|(simp [errW_none,errW_some] <;> rfl)|(simp [*,errW_none,errW_some] <;> rfl),by repeat (first|(with_reducible first|exact HB.out|apply zD|apply zE|apply zF)|exact HB.out)⟩
      ·rw [if_neg c6] at H
       exact absurd H (by simp)
     ·rw [if_neg c5] at H
      exact absurd H (by simp)
    ·rw [if_neg c4] at H
     have c4b0:decide (x5_1 < (l0.length:Int)) = false:=decide_eq_false c4
     clear c4;obtain rfl:=Option.some.inj H;go_wp2
     go_ret
     exact ⟨by first|rfl|(simp [errW_none,errW_some] <;> rfl)|(simp [*,errW_none,errW_some] <;> rfl),by repeat (first|(with_reducible first|exact HB.out|apply zD|apply zE|apply zF)|exact HB.out)⟩
 ·rw [if_neg c3] at H
  have c3b0:((l0.length:Int) == (l1.length:Int)) = false:=beq_eq_false_iff_ne.mpr c3
  have c3b1:((l0.length:Int) != (l1.length:Int)) = true:=bne_iff_ne.mpr c3
  have c3b2:(l0.length == l1.length) = false:=by first|simpa using c3|(simp at c3 ⊢;omega)
  obtain rfl:=Option.some.inj H;go_enter Try.func22,Try.ntmps22
  go_wp2
  go_ret
  exact ⟨by first|rfl|(simp [errW_none,errW_some] <;> rfl)|(simp [*,errW_none,errW_some] <;> rfl),by repeat (first|(with_reducible first|exact HB.out|apply zD|apply zE|apply zF)|exact HB.out)⟩



/-! ### laws_toFloor: function 15 -/
def laws_toFloor.f (k:Nat) (a0_0:Int) (a0_1:Int) (l0_2:List (S44)):Option (Int × Int × (List (S48))):=(laws_toCellS.f k l0_2).bind fun t131=>(some (a0_0,a0_1,t131))
set_option maxHeartbeats 8000000 in
set_option maxRecDepth 100000 in
theorem laws_toFloor.calls (k:Nat) (a0_0:Int) (a0_1:Int) (A0_2:Option Addr) (c0_2:Nat) (l0_2:List (S44)) (r1:Int) (r2:Int) (r3:List (S48)) (w:World) (hr0_2:Kd.C k44 w A0_2 l0_2.length l0_2) (hc0_2:l0_2.length ≤ c0_2) (h:laws_toFloor.f k a0_0 a0_1 l0_2 = some (r1,r2,r3)) :
  Calls Try.prog 15 #[.agg #[.int .i64 a0_0,.int .i64 a0_1,.slice A0_2 l0_2.length c0_2]] w fun e w' => ∃ v2_:Value,e = .returned (.agg #[.int .i64 r1,.int .i64 r2,v2_]) ∧ Kd.R k48 48 w' w.heap.size (fun _=>True) v2_ r3 ∧ Below w.heap.size w w':=by
 have hu24:=Try.underlying24;have hu29:=Try.underlying29;have HR0_2:=zM hr0_2;have HC0_2:=zM hc0_2;clear hr0_2 hc0_2;have HB:=zM (Below.refl w.heap.size w);have H:((laws_toCellS.f k l0_2).bind fun t131=>(some (a0_0,a0_1,t131))) = some (r1,r2,r3):=h
 clear h;replace H:=Option.bind_eq_some_iff.mp H;obtain ⟨t131,A20,H⟩:=H;replace H:(some (a0_0,a0_1,t131)) = some (r1,r2,r3):=H
 have A2:=zM A20;clear A20;simp only [Option.some.injEq,Prod.mk.injEq] at H
 obtain ⟨rfl,rfl,rfl⟩:=H;go_enter Try.func15,Try.ntmps15
 go_wp2_with (first|((with_reducible refine gate_dst (N:=1) rfl ?_);refine box_event ?hg (N:=1) ?hd (cs := #[.int .i64 a0_0,.int .i64 a0_1,.slice A0_2 l0_2.length c0_2]) (t:=24) ?hr ?_;(case hd=>rfl);(case hg=>rfl);(case hr=>first|(go_simp;done)|(go_simp;rfl));intro gb128 hg w3 hbox hb;have n0_:=zM (zQ (by repeat (first|(with_reducible first|exact HB.out|apply zD|apply zE|apply zF)|exact HB.out)) hb);have n1_:=zM (hbox);have n2_:=zM ((by rw [hg];exact (zR (by repeat (first|(with_reducible first|exact HB.out|apply zD|apply zE|apply zF)|exact HB.out))):w.heap.size ≤ gb128));have n3_:=zM ((by rw [hg];exact (zR (by repeat (first|(with_reducible first|exact HB.out|apply zD|apply zE|apply zF)|exact HB.out))):w.heap.size ≤ gb128));clear HB;have HB:=n0_;have BK128:=n1_;have GW128:=n2_;have GE128:=n3_;clear n0_ n1_ n2_ n3_;clear hb hbox hg)|((with_reducible refine gate_dst (N:=2) rfl ?_);refine box_event ?hg (N:=2) ?hd (cs := #[.int .i64 0,.int .i64 0,.slice none 0 0]) (t:=29) ?hr ?_;(case hd=>rfl);(case hg=>rfl);(case hr=>first|(go_simp;done)|(go_simp;rfl));intro gb129 hg w4 hbox hb;have n0_:=zM (blk_below (g:=gb128) (o := .cells #[.int .i64 a0_0,.int .i64 a0_1,.slice A0_2 l0_2.length c0_2] 24 (0,0)) (by (with_reducible repeat (first|refine zJ ?_ _|refine zK ?_|refine zL ?_ _));exact BK128.out) hb);have n1_:=zM (zQ (by repeat (first|(with_reducible first|exact HB.out|apply zD|apply zE|apply zF|refine below_set ?_ GE128.out)|exact HB.out)) hb);have n2_:=zM (hbox);have n3_:=zM ((by rw [hg];exact (zR (by repeat (first|(with_reducible first|exact HB.out|apply zD|apply zE|apply zF|refine below_set ?_ GE128.out)|exact HB.out))):w.heap.size ≤ gb129));have n4_:=zM ((by rw [hg];exact (zR (by repeat (first|(with_reducible first|exact HB.out|apply zD|apply zE|apply zF|refine below_set ?_ GE128.out)|exact HB.out))):w.heap.size ≤ gb129));have n5_:=zM ((by rw [hg];exact Nat.ne_of_lt (blk_lt (g:=gb128) (o := .cells #[.int .i64 a0_0,.int .i64 a0_1,.slice A0_2 l0_2.length c0_2] 24 (0,0)) (by (with_reducible repeat (first|refine zJ ?_ _|refine zK ?_|refine zL ?_ _));exact BK128.out)):gb128 ≠ gb129));have n6_:=zM ((by rw [hg];exact Nat.ne_of_gt (blk_lt (g:=gb128) (o := .cells #[.int .i64 a0_0,.int .i64 a0_1,.slice A0_2 l0_2.length c0_2] 24 (0,0)) (by (with_reducible repeat (first|refine zJ ?_ _|refine zK ?_|refine zL ?_ _));exact BK128.out)):gb129 ≠ gb128));clear BK128;clear HB;have BK128:=n0_;have HB:=n1_;have BK129:=n2_;have GW129:=n3_;have GE129:=n4_;have NB128_129:=n5_;have NB129_128:=n6_;clear n0_ n1_ n2_ n3_ n4_ n5_ n6_;clear hb hbox hg)|((with_reducible refine gate_dst (N:=3) rfl ?_);refine box_event ?hg (N:=3) ?hd (cs := #[.int .i64 0,.int .i64 0,.slice none 0 0]) (t:=29) ?hr ?_;(case hd=>rfl);(case hg=>rfl);(case hr=>first|(go_simp;done)|(go_simp;rfl));intro gb130 hg w5 hbox hb;have n0_:=zM (blk_below (g:=gb128) (o := .cells #[.int .i64 a0_0,.int .i64 a0_1,.slice A0_2 l0_2.length c0_2] 24 (0,0)) (by (with_reducible repeat (first|refine zJ ?_ _|refine zK ?_|refine zL ?_ _));exact BK128.out) hb);have n1_:=zM (blk_below (g:=gb129) (o := .cells #[.int .i64 0,.int .i64 0,.slice none 0 0] 29 (0,0)) (by (with_reducible repeat (first|refine zJ ?_ _|refine zK ?_|refine zL ?_ _));exact BK129.out) hb);have n2_:=zM (zQ (by repeat (first|(with_reducible first|exact HB.out|apply zD|apply zE|apply zF|refine below_set ?_ GE128.out|refine below_set ?_ GE129.out)|exact HB.out)) hb);have n3_:=zM (hbox);have n4_:=zM ((by rw [hg];exact (zR (by repeat (first|(with_reducible first|exact HB.out|apply zD|apply zE|apply zF|refine below_set ?_ GE128.out|refine below_set ?_ GE129.out)|exact HB.out))):w.heap.size ≤ gb130));have n5_:=zM ((by rw [hg];exact (zR (by repeat (first|(with_reducible first|exact HB.out|apply zD|apply zE|apply zF|refine below_set ?_ GE128.out|refine below_set ?_ GE129.out)|exact HB.out))):w.heap.size ≤ gb130));have n6_:=zM ((by rw [hg];exact Nat.ne_of_lt (blk_lt (g:=gb128) (o := .cells #[.int .i64 a0_0,.int .i64 a0_1,.slice A0_2 l0_2.length c0_2] 24 (0,0)) (by (with_reducible repeat (first|refine zJ ?_ _|refine zK ?_|refine zL ?_ _));exact BK128.out)):gb128 ≠ gb130));have n7_:=zM ((by rw [hg];exact Nat.ne_of_gt (blk_lt (g:=gb128) (o := .cells #[.int .i64 a0_0,.int .i64 a0_1,.slice A0_2 l0_2.length c0_2] 24 (0,0)) (by (with_reducible repeat (first|refine zJ ?_ _|refine zK ?_|refine zL ?_ _));exact BK128.out)):gb130 ≠ gb128));have n8_:=zM ((by rw [hg];exact Nat.ne_of_lt (blk_lt (g:=gb129) (o := .cells #[.int .i64 0,.int .i64 0,.slice none 0 0] 29 (0,0)) (by (with_reducible repeat (first|refine zJ ?_ _|refine zK ?_|refine zL ?_ _));exact BK129.out)):gb129 ≠ gb130));have n9_:=zM ((by rw [hg];exact Nat.ne_of_gt (blk_lt (g:=gb129) (o := .cells #[.int .i64 0,.int .i64 0,.slice none 0 0] 29 (0,0)) (by (with_reducible repeat (first|refine zJ ?_ _|refine zK ?_|refine zL ?_ _));exact BK129.out)):gb130 ≠ gb129));clear BK128;clear BK129;clear HB;have BK128:=n0_;have BK129:=n1_;have HB:=n2_;have BK130:=n3_;have GW130:=n4_;have GE130:=n5_;have NB128_130:=n6_;have NB130_128:=n7_;have NB129_130:=n8_;have NB130_129:=n9_;clear n0_ n1_ n2_ n3_ n4_ n5_ n6_ n7_ n8_ n9_;clear hb hbox hg;have hnb6:=NB128_129.out;have hnc6:=NB129_128.out;have hnb7:=NB128_130.out;have hnc7:=NB130_128.out;have hcz8_0:w5.cell? ⟨gb128,0,none⟩ = some (.int .i64 a0_0):=(blk_cell BK128.out 0).trans rfl;have hcz8_1:w5.cell? ⟨gb128,1,none⟩ = some (.int .i64 a0_1):=(blk_cell BK128.out 1).trans rfl;have hcz8_2:w5.cell? ⟨gb128,2,none⟩ = some (.slice A0_2 l0_2.length c0_2):=(blk_cell BK128.out 2).trans rfl;have hfz8_0:=blk_frozen BK128.out 0;have hfz8_1:=blk_frozen BK128.out 1;have hfz8_2:=blk_frozen BK128.out 2;have hnb9:=NB130_129.out;have hnc9:=NB129_130.out;have hcz10_0:w5.cell? ⟨gb130,0,none⟩ = some (.int .i64 0):=(blk_cell BK130.out 0).trans rfl;have hcz10_1:w5.cell? ⟨gb130,1,none⟩ = some (.int .i64 0):=(blk_cell BK130.out 1).trans rfl;have hcz10_2:w5.cell? ⟨gb130,2,none⟩ = some (.slice none 0 0):=(blk_cell BK130.out 2).trans rfl;have hfz10_0:=blk_frozen BK130.out 0;have hfz10_1:=blk_frozen BK130.out 1;have hfz10_2:=blk_frozen BK130.out 2)|((with_reducible refine gate_callee (f:=20) rfl ?_);refine goesL_ (some 12) rfl rfl Try.func20 (by kernel_rfl) rfl #[.slice A0_2 l0_2.length c0_2] rfl (by (try simp only [List.map_toArray,List.map_cons,List.map_nil]);first|done|rfl|(simp only [List.length_drop,List.length_take];rfl)) ?_;(with_reducible refine (laws_toCellS.calls k _ _ l0_2 t131 _ ?side1 ?side2 A2.out).mono ?_);(case side1=>exact zO HR0_2.out (by repeat (first|(with_reducible first|exact HB.out|apply zD|apply zE|apply zF|refine below_set ?_ GE128.out|refine below_set ?_ GE129.out|refine below_set ?_ GE130.out)|exact HB.out)));(case side2=>exact HC0_2.out);rintro e w11 ⟨v132,rfl,ho0,hb⟩;refine ⟨_,rfl,?_⟩;have n0_:=zM (Kd.R_lower ho0 (zR (by repeat (first|(with_reducible first|exact HB.out|apply zD|apply zE|apply zF|refine below_set ?_ GE128.out|refine below_set ?_ GE129.out|refine below_set ?_ GE130.out)|exact HB.out))));have n1_:=zM (blk_below (g:=gb128) (o := .cells #[.int .i64 a0_0,.int .i64 a0_1,.slice A0_2 l0_2.length c0_2] 24 (0,0)) (by (with_reducible repeat (first|refine zJ ?_ _|refine zK ?_|refine zL ?_ _));refine blk_far ?_ NB128_130.out _;(with_reducible repeat (first|refine zJ ?_ _|refine zK ?_|refine zL ?_ _));refine blk_far ?_ NB128_130.out _;(with_reducible repeat (first|refine zJ ?_ _|refine zK ?_|refine zL ?_ _));exact BK128.out) hb);have n2_:=zM (blk_below (g:=gb129) (o := .cells #[.int .i64 0,.int .i64 0,.slice none 0 0] 29 (0,0)) (by (with_reducible repeat (first|refine zJ ?_ _|refine zK ?_|refine zL ?_ _));refine blk_far ?_ NB129_130.out _;(with_reducible repeat (first|refine zJ ?_ _|refine zK ?_|refine zL ?_ _));refine blk_far ?_ NB129_130.out _;(with_reducible repeat (first|refine zJ ?_ _|refine zK ?_|refine zL ?_ _));exact BK129.out) hb);have n3_:=zM (blk_below (g:=gb130) (o := .cells #[.int .i64 a0_0,.int .i64 a0_1,.slice none 0 0] 29 (0,0)) (by (with_reducible repeat (first|refine zJ ?_ _|refine zK ?_|refine zL ?_ _));refine blk_put (cs := #[.int .i64 a0_0,.int .i64 0,.slice none 0 0]) ?_ 1 _ rfl;(with_reducible repeat (first|refine zJ ?_ _|refine zK ?_|refine zL ?_ _));refine blk_put (cs := #[.int .i64 0,.int .i64 0,.slice none 0 0]) ?_ 0 _ rfl;(with_reducible repeat (first|refine zJ ?_ _|refine zK ?_|refine zL ?_ _));exact BK130.out) hb);have n4_:=zM (zQ (by repeat (first|(with_reducible first|exact HB.out|apply zD|apply zE|apply zF|refine below_set ?_ GE128.out|refine below_set ?_ GE129.out|refine below_set ?_ GE130.out)|exact HB.out)) hb);clear BK128;clear BK129;clear BK130;clear HB;have HO133:=n0_;have BK128:=n1_;have BK129:=n2_;have BK130:=n3_;have HB:=n4_;clear n0_ n1_ n2_ n3_ n4_;(try clear hb);(try clear hb2);(try clear hk);(try clear hi);(try clear ho0);obtain ⟨Ao12,co12,eo12⟩:=Kd.R_slice HO133.out;subst eo12;have hcz13_0:w11.cell? ⟨gb130,0,none⟩ = some (.int .i64 a0_0):=(blk_cell BK130.out 0).trans rfl;have hcz13_1:w11.cell? ⟨gb130,1,none⟩ = some (.int .i64 a0_1):=(blk_cell BK130.out 1).trans rfl;have hcz13_2:w11.cell? ⟨gb130,2,none⟩ = some (.slice none 0 0):=(blk_cell BK130.out 2).trans rfl;have hfz13_0:=blk_frozen BK130.out 0;have hfz13_1:=blk_frozen BK130.out 1;have hfz13_2:=blk_frozen BK130.out 2;have hcz14_0:w11.cell? ⟨gb129,0,none⟩ = some (.int .i64 0):=(blk_cell BK129.out 0).trans rfl;have hcz14_1:w11.cell? ⟨gb129,1,none⟩ = some (.int .i64 0):=(blk_cell BK129.out 1).trans rfl;have hcz14_2:w11.cell? ⟨gb129,2,none⟩ = some (.slice none 0 0):=(blk_cell BK129.out 2).trans rfl;have hfz14_0:=blk_frozen BK129.out 0;have hfz14_1:=blk_frozen BK129.out 1;have hfz14_2:=blk_frozen BK129.out 2))
 refine bodyPost_ret (results_cell_row rfl _ _ gb129 29 #[.int .i64 a0_0,.int .i64 a0_1,.slice Ao12 t131.length co12] (0,0) _ rfl (by (with_reducible repeat (first|refine zJ ?_ _|refine zK ?_|refine zL ?_ _));refine blk_put (cs := #[.int .i64 a0_0,.int .i64 a0_1,.slice none 0 0]) ?_ 2 _ rfl;(with_reducible repeat (first|refine zJ ?_ _|refine zK ?_|refine zL ?_ _));refine blk_put (cs := #[.int .i64 a0_0,.int .i64 0,.slice none 0 0]) ?_ 1 _ rfl;(with_reducible repeat (first|refine zJ ?_ _|refine zK ?_|refine zL ?_ _));refine blk_put (cs := #[.int .i64 0,.int .i64 0,.slice none 0 0]) ?_ 0 _ rfl;(with_reducible repeat (first|refine zJ ?_ _|refine zK ?_|refine zL ?_ _));refine blk_far ?_ NB129_130.out _;(with_reducible repeat (first|refine zJ ?_ _|refine zK ?_|refine zL ?_ _));exact BK129.out) Try.underlying29 rfl (by kernel_rfl)) rfl ?_
 exact ⟨_,by first|rfl|(simp [errW_none,errW_some] <;> rfl)|(simp [*,errW_none,errW_some] <;> rfl),by (with_reducible repeat (first|apply zA|apply zB|apply zC));exact Kd.R_mono (Kd.R_far (p:=⟨gb129,2,none⟩) (Kd.R_far (p:=⟨gb129,1,none⟩) (Kd.R_far (p:=⟨gb129,0,none⟩) (Kd.R_far (p:=⟨gb130,2,none⟩) (Kd.R_types (Kd.R_types HO133.out BK130.out (by decide)) BK129.out (by decide)) (fun _ hk=>hk.1.2) (.slice Ao12 t131.length co12)) (fun _ hk=>hk.2) (.int .i64 a0_0)) (fun _ hk=>hk.2) (.int .i64 a0_1)) (fun _ hk=>hk.2) (.slice Ao12 t131.length co12)) (fun _ hk=>trivial),by repeat (first|(with_reducible first|exact HB.out|apply zD|apply zE|apply zF|refine below_set ?_ GE128.out|refine below_set ?_ GE129.out|refine below_set ?_ GE130.out)|exact HB.out)⟩



/-! ### laws_eqFloor: function 17 -/
def laws_eqFloor.f (k:Nat) (a0_0:Int) (a0_1:Int) (l0_2:List (S48)) (a1_0:Int) (a1_1:Int) (l1_2:List (S48)):Option (Bool):=if a0_0 = a1_0 then (if a0_1 = a1_1 then ((laws_eqCellS.f k l0_2 l1_2).bind fun t155=>(if t155 = true then (some true) else (some false))) else (some false)) else (some false)
set_option maxHeartbeats 8000000 in
set_option maxRecDepth 100000 in
theorem laws_eqFloor.calls (k:Nat) (a0_0:Int) (a0_1:Int) (A0_2:Option Addr) (c0_2:Nat) (l0_2:List (S48)) (a1_0:Int) (a1_1:Int) (A1_2:Option Addr) (c1_2:Nat) (l1_2:List (S48)) (r:Bool) (w:World) (hr0_2:Kd.C k48 w A0_2 l0_2.length l0_2) (hc0_2:l0_2.length ≤ c0_2) (hr1_2:Kd.C k48 w A1_2 l1_2.length l1_2) (hc1_2:l1_2.length ≤ c1_2) (h:laws_eqFloor.f k a0_0 a0_1 l0_2 a1_0 a1_1 l1_2 = some r) :
  Calls Try.prog 17 #[.agg #[.int .i64 a0_0,.int .i64 a0_1,.slice A0_2 l0_2.length c0_2],.agg #[.int .i64 a1_0,.int .i64 a1_1,.slice A1_2 l1_2.length c1_2]] w fun e w'=>e = .returned (.bool r) ∧ Below w.heap.size w w':=by
 have hu29:=Try.underlying29;have HR0_2:=zM hr0_2;have HC0_2:=zM hc0_2;clear hr0_2 hc0_2;have HR1_2:=zM hr1_2;have HC1_2:=zM hc1_2;clear hr1_2 hc1_2;have HB:=zM (Below.refl w.heap.size w);have H:(if a0_0 = a1_0 then (if a0_1 = a1_1 then ((laws_eqCellS.f k l0_2 l1_2).bind fun t155=>(if t155 = true then (some true) else (some false))) else (some false)) else (some false)) = some r:=h
 clear h;by_cases c3:a0_0 = a1_0
 ·rw [if_pos c3] at H
  have c3b0:(a0_0 == a1_0) = true:=beq_iff_eq.mpr c3
  have c3b1:(a0_0 != a1_0) = false:=bne_eq_false_iff_eq.mpr c3
  clear c3;by_cases c4:a0_1 = a1_1
  ·rw [if_pos c4] at H
   have c4b0:(a0_1 == a1_1) = true:=beq_iff_eq.mpr c4
   have c4b1:(a0_1 != a1_1) = false:=bne_eq_false_iff_eq.mpr c4
   clear c4;replace H:=Option.bind_eq_some_iff.mp H;obtain ⟨t155,A50,H⟩:=H;replace H:(if t155 = true then (some true) else (some false)) = some r:=H
   have A5:=zM A50;clear A50;by_cases c6:t155 = true
   ·subst c6
    have H1:(some true) = some r:=by rw [if_pos rfl] at H;exact H
    clear H;have H:=H1;clear H1;obtain rfl:=Option.some.inj H;go_enter Try.func17,Try.ntmps17
    go_wp2_with (first|((with_reducible refine gate_dst (N:=2) rfl ?_);refine box_event ?hg (N:=2) ?hd (cs := #[.int .i64 a0_0,.int .i64 a0_1,.slice A0_2 l0_2.length c0_2]) (t:=29) ?hr ?_;(case hd=>rfl);(case hg=>rfl);(case hr=>first|(go_simp;done)|(go_simp;rfl));intro gb153 hg w7 hbox hb;have n0_:=zM (zQ (by repeat (first|(with_reducible first|exact HB.out|apply zD|apply zE|apply zF)|exact HB.out)) hb);have n1_:=zM (hbox);have n2_:=zM ((by rw [hg];exact (zR (by repeat (first|(with_reducible first|exact HB.out|apply zD|apply zE|apply zF)|exact HB.out))):w.heap.size ≤ gb153));have n3_:=zM ((by rw [hg];exact (zR (by repeat (first|(with_reducible first|exact HB.out|apply zD|apply zE|apply zF)|exact HB.out))):w.heap.size ≤ gb153));clear HB;have HB:=n0_;have BK153:=n1_;have GW153:=n2_;have GE153:=n3_;clear n0_ n1_ n2_ n3_;clear hb hbox hg)|((with_reducible refine gate_dst (N:=3) rfl ?_);refine box_event ?hg (N:=3) ?hd (cs := #[.int .i64 a1_0,.int .i64 a1_1,.slice A1_2 l1_2.length c1_2]) (t:=29) ?hr ?_;(case hd=>rfl);(case hg=>rfl);(case hr=>first|(go_simp;done)|(go_simp;rfl));intro gb154 hg w8 hbox hb;have n0_:=zM (blk_below (g:=gb153) (o := .cells #[.int .i64 a0_0,.int .i64 a0_1,.slice A0_2 l0_2.length c0_2] 29 (0,0)) (by (with_reducible repeat (first|refine zJ ?_ _|refine zK ?_|refine zL ?_ _));exact BK153.out) hb);have n1_:=zM (zQ (by repeat (first|(with_reducible first|exact HB.out|apply zD|apply zE|apply zF|refine below_set ?_ GE153.out)|exact HB.out)) hb);have n2_:=zM (hbox);have n3_:=zM ((by rw [hg];exact (zR (by repeat (first|(with_reducible first|exact HB.out|apply zD|apply zE|apply zF|refine below_set ?_ GE153.out)|exact HB.out))):w.heap.size ≤ gb154));have n4_:=zM ((by rw [hg];exact (zR (by repeat (first|(with_reducible first|exact HB.out|apply zD|apply zE|apply zF|refine below_set ?_ GE153.out)|exact HB.out))):w.heap.size ≤ gb154));have n5_:=zM ((by rw [hg];exact Nat.ne_of_lt (blk_lt (g:=gb153) (o := .cells #[.int .i64 a0_0,.int .i64 a0_1,.slice A0_2 l0_2.length c0_2] 29 (0,0)) (by (with_reducible repeat (first|refine zJ ?_ _|refine zK ?_|refine zL ?_ _));exact BK153.out)):gb153 ≠ gb154));have n6_:=zM ((by rw [hg];exact Nat.ne_of_gt (blk_lt (g:=gb153) (o := .cells #[.int .i64 a0_0,.int .i64 a0_1,.slice A0_2 l0_2.length c0_2] 29 (0,0)) (by (with_reducible repeat (first|refine zJ ?_ _|refine zK ?_|refine zL ?_ _));exact BK153.out)):gb154 ≠ gb153));clear BK153;clear HB;have BK153:=n0_;have HB:=n1_;have BK154:=n2_;have GW154:=n3_;have GE154:=n4_;have NB153_154:=n5_;have NB154_153:=n6_;clear n0_ n1_ n2_ n3_ n4_ n5_ n6_;clear hb hbox hg;have hnb9:=NB153_154.out;have hnc9:=NB154_153.out;have hcz10_0:w8.cell? ⟨gb153,0,none⟩ = some (.int .i64 a0_0):=(blk_cell BK153.out 0).trans rfl;have hcz10_1:w8.cell? ⟨gb153,1,none⟩ = some (.int .i64 a0_1):=(blk_cell BK153.out 1).trans rfl;have hcz10_2:w8.cell? ⟨gb153,2,none⟩ = some (.slice A0_2 l0_2.length c0_2):=(blk_cell BK153.out 2).trans rfl;have hfz10_0:=blk_frozen BK153.out 0;have hfz10_1:=blk_frozen BK153.out 1;have hfz10_2:=blk_frozen BK153.out 2;have hcz11_0:w8.cell? ⟨gb154,0,none⟩ = some (.int .i64 a1_0):=(blk_cell BK154.out 0).trans rfl;have hcz11_1:w8.cell? ⟨gb154,1,none⟩ = some (.int .i64 a1_1):=(blk_cell BK154.out 1).trans rfl;have hcz11_2:w8.cell? ⟨gb154,2,none⟩ = some (.slice A1_2 l1_2.length c1_2):=(blk_cell BK154.out 2).trans rfl;have hfz11_0:=blk_frozen BK154.out 0;have hfz11_1:=blk_frozen BK154.out 1;have hfz11_2:=blk_frozen BK154.out 2)|((with_reducible refine gate_callee (f:=22) rfl ?_);refine goesL_ (some 19) rfl rfl Try.func22 (by kernel_rfl) rfl #[.slice A0_2 l0_2.length c0_2,.slice A1_2 l1_2.length c1_2] rfl (by (try simp only [List.map_toArray,List.map_cons,List.map_nil]);first|done|rfl|(simp only [List.length_drop,List.length_take];rfl)) ?_;(with_reducible refine (laws_eqCellS.calls k _ _ l0_2 _ _ l1_2 true _ ?side1 ?side2 ?side3 ?side4 A5.out).mono ?_);(case side1=>repeat (first|exact (zO HR0_2.out HB.out)|(with_reducible first|refine zG ?_ _|refine zH ?_ _|refine zI ?_)));(case side2=>exact HC0_2.out);(case side3=>repeat (first|exact (zO HR1_2.out HB.out)|(with_reducible first|refine zG ?_ _|refine zH ?_ _|refine zI ?_)));(case side4=>exact HC1_2.out);rintro e w12 ⟨rfl,hb⟩;refine ⟨_,rfl,?_⟩;have n0_:=zM (blk_below (g:=gb153) (o := .cells #[.int .i64 a0_0,.int .i64 a0_1,.slice A0_2 l0_2.length c0_2] 29 (0,0)) (by (with_reducible repeat (first|refine zJ ?_ _|refine zK ?_|refine zL ?_ _));exact BK153.out) hb);have n1_:=zM (blk_below (g:=gb154) (o := .cells #[.int .i64 a1_0,.int .i64 a1_1,.slice A1_2 l1_2.length c1_2] 29 (0,0)) (by (with_reducible repeat (first|refine zJ ?_ _|refine zK ?_|refine zL ?_ _));exact BK154.out) hb);have n2_:=zM (zQ (by repeat (first|(with_reducible first|exact HB.out|apply zD|apply zE|apply zF|refine below_set ?_ GE153.out|refine below_set ?_ GE154.out)|exact HB.out)) hb);clear BK153;clear BK154;clear HB;have BK153:=n0_;have BK154:=n1_;have HB:=n2_;clear n0_ n1_ n2_;(try clear hb);(try clear hb2);(try clear hk);(try clear hi)))
    go_ret
    exact ⟨by first|rfl|(simp [errW_none,errW_some] <;> rfl)|(simp [*,errW_none,errW_some] <;> rfl),by repeat (first|(with_reducible first|exact HB.out|apply zD|apply zE|apply zF|refine below_set ?_ GE153.out|refine below_set ?_ GE154.out)|exact HB.out)⟩
   ·replace c6:=Bool.eq_false_iff.mpr c6
    subst c6;have H1:(some false) = some r:=by rw [if_neg (show ¬ (false = true) by decide)] at H;exact H
    clear H;have H:=H1;clear H1;obtain rfl:=Option.some.inj H;go_enter Try.func17,Try.ntmps17
    go_wp2_with (first|((with_reducible refine gate_dst (N:=2) rfl ?_);refine box_event ?hg (N:=2) ?hd (cs := #[.int .i64 a0_0,.int .i64 a0_1,.slice A0_2 l0_2.length c0_2]) (t:=29) ?hr ?_;(case hd=>rfl);(case hg=>rfl);(case hr=>first|(go_simp;done)|(go_simp;rfl));intro gb153 hg w13 hbox hb;have n0_:=zM (zQ (by repeat (first|(with_reducible first|exact HB.out|apply zD|apply zE|apply zF)|exact HB.out)) hb);have n1_:=zM (hbox);have n2_:=zM ((by rw [hg];exact (zR (by repeat (first|(with_reducible first|exact HB.out|apply zD|apply zE|apply zF)|exact HB.out))):w.heap.size ≤ gb153));have n3_:=zM ((by rw [hg];exact (zR (by repeat (first|(with_reducible first|exact HB.out|apply zD|apply zE|apply zF)|exact HB.out))):w.heap.size ≤ gb153));clear HB;have HB:=n0_;have BK153:=n1_;have GW153:=n2_;have GE153:=n3_;clear n0_ n1_ n2_ n3_;clear hb hbox hg)|((with_reducible refine gate_dst (N:=3) rfl ?_);refine box_event ?hg (N:=3) ?hd (cs := #[.int .i64 a1_0,.int .i64 a1_1,.slice A1_2 l1_2.length c1_2]) (t:=29) ?hr ?_;(case hd=>rfl);(case hg=>rfl);(case hr=>first|(go_simp;done)|(go_simp;rfl));intro gb154 hg w14 hbox hb;have n0_:=zM (blk_below (g:=gb153) (o := .cells #[.int .i64 a0_0,.int .i64 a0_1,.slice A0_2 l0_2.length c0_2] 29 (0,0)) (by (with_reducible repeat (first|refine zJ ?_ _|refine zK ?_|refine zL ?_ _));exact BK153.out) hb);have n1_:=zM (zQ (by repeat (first|(with_reducible first|exact HB.out|apply zD|apply zE|apply zF|refine below_set ?_ GE153.out)|exact HB.out)) hb);have n2_:=zM (hbox);have n3_:=zM ((by rw [hg];exact (zR (by repeat (first|(with_reducible first|exact HB.out|apply zD|apply zE|apply zF|refine below_set ?_ GE153.out)|exact HB.out))):w.heap.size ≤ gb154));have n4_:=zM ((by rw [hg];exact (zR (by repeat (first|(with_reducible first|exact HB.out|apply zD|apply zE|apply zF|refine below_set ?_ GE153.out)|exact HB.out))):w.heap.size ≤ gb154));have n5_:=zM ((by rw [hg];exact Nat.ne_of_lt (blk_lt (g:=gb153) (o := .cells #[.int .i64 a0_0,.int .i64 a0_1,.slice A0_2 l0_2.length c0_2] 29 (0,0)) (by (with_reducible repeat (first|refine zJ ?_ _|refine zK ?_|refine zL ?_ _));exact BK153.out)):gb153 ≠ gb154));have n6_:=zM ((by rw [hg];exact Nat.ne_of_gt (blk_lt (g:=gb153) (o := .cells #[.int .i64 a0_0,.int .i64 a0_1,.slice A0_2 l0_2.length c0_2] 29 (0,0)) (by (with_reducible repeat (first|refine zJ ?_ _|refine zK ?_|refine zL ?_ _));exact BK153.out)):gb154 ≠ gb153));clear BK153;clear HB;have BK153:=n0_;have HB:=n1_;have BK154:=n2_;have GW154:=n3_;have GE154:=n4_;have NB153_154:=n5_;have NB154_153:=n6_;clear n0_ n1_ n2_ n3_ n4_ n5_ n6_;clear hb hbox hg;have hnb15:=NB153_154.out;have hnc15:=NB154_153.out;have hcz16_0:w14.cell? ⟨gb153,0,none⟩ = some (.int .i64 a0_0):=(blk_cell BK153.out 0).trans rfl;have hcz16_1:w14.cell? ⟨gb153,1,none⟩ = some (.int .i64 a0_1):=(blk_cell BK153.out 1).trans rfl;have hcz16_2:w14.cell? ⟨gb153,2,none⟩ = some (.slice A0_2 l0_2.length c0_2):=(blk_cell BK153.out 2).trans rfl;have hfz16_0:=blk_frozen BK153.out 0;have hfz16_1:=blk_frozen BK153.out 1;have hfz16_2:=blk_frozen BK153.out 2;have hcz17_0:w14.cell? ⟨gb154,0,none⟩ = some (.int .i64 a1_0):=(blk_cell BK154.out 0).trans rfl;have hcz17_1:w14.cell? ⟨gb154,1,none⟩ = some (.int .i64 a1_1):=(blk_cell BK154.out 1).trans rfl;have hcz17_2:w14.cell? ⟨gb154,2,none⟩ = some (.slice A1_2 l1_2.length c1_2):=(blk_cell BK154.out 2).trans rfl;have hfz17_0:=blk_frozen BK154.out 0;have hfz17_1:=blk_frozen BK154.out 1;have hfz17_2:=blk_frozen BK154.out 2)|((with_reducible refine gate_callee (f:=22) rfl ?_);refine goesL_ (some 19) rfl rfl Try.func22 (by kernel_rfl) rfl #[.slice A0_2 l0_2.length c0_2,.slice A1_2 l1_2.length c1_2] rfl (by (try simp only [List.map_toArray,List.map_cons,List.map_nil]);first|done|rfl|(simp only [List.length_drop,List.length_take];rfl)) ?_;(with_reducible refine (laws_eqCellS.calls k _ _ l0_2 _ _ l1_2 false _ ?side1 ?side2 ?side3 ?side4 A5.out).mono ?_);(case side1=>repeat (first|exact (zO HR0_2.out HB.out)|(with_reducible first|refine zG ?_ _|refine zH ?_ _|refine zI ?_)));(case side2=>exact HC0_2.out);(case side3=>repeat (first|exact (zO HR1_2.out HB.out)|(with_reducible first|refine zG ?_ _|refine zH ?_ _|refine zI ?_)));(case side4=>exact HC1_2.out);rintro e w18 ⟨rfl,hb⟩;refine ⟨_,rfl,?_⟩;have n0_:=zM (blk_below (g:=gb153) (o := .cells #[.int .i64 a0_0,.int .i64 a0_1,.slice A0_2 l0_2.length c0_2] 29 (0,0)) (by (with_reducible repeat (first|refine zJ ?_ _|refine zK ?_|refine zL ?_ _));exact BK153.out) hb);have n1_:=zM (blk_below (g:=gb154) (o := .cells #[.int .i64 a1_0,.int .i64 a1_1,.slice A1_2 l1_2.length c1_2] 29 (0,0)) (by (with_reducible repeat (first|refine zJ ?_ _|refine zK ?_|refine zL ?_ _));exact BK154.out) hb);have n2_:=zM (zQ (by repeat (first|(with_reducible first|exact HB.out|apply zD|apply zE|apply zF|refine below_set ?_ GE153.out|refine below_set ?_ GE154.out)|exact HB.out)) hb);clear BK153;clear BK154;clear HB;have BK153:=n0_;have BK154:=n1_;have HB:=n2_;clear n0_ n1_ n2_;(try clear hb);(try clear hb2);(try clear hk);(try clear hi)))
    go_ret
    exact ⟨by first|rfl|(simp [errW_none,errW_some] <;> rfl)|(simp [*,errW_none,errW_some] <;> rfl),by repeat (first|(with_reducible first|exact HB.out|apply zD|apply zE|apply zF|refine below_set ?_ GE153.out|refine below_set ?_ GE154.out)|exact HB.out)⟩
  ·rw [if_neg c4] at H
   have c4b0:(a0_1 == a1_1) = false:=beq_eq_false_iff_ne.mpr c4
   have c4b1:(a0_1 != a1_1) = true:=bne_iff_ne.mpr c4
   obtain rfl:=Option.some.inj H;go_enter Try.func17,Try.ntmps17
   go_wp2_with (first|((with_reducible refine gate_dst (N:=2) rfl ?_);refine box_event ?hg (N:=2) ?hd (cs := #[.int .i64 a0_0,.int .i64 a0_1,.slice A0_2 l0_2.length c0_2]) (t:=29) ?hr ?_;(case hd=>rfl);(case hg=>rfl);(case hr=>first|(go_simp;done)|(go_simp;rfl));intro gb153 hg w19 hbox hb;have n0_:=zM (zQ (by repeat (first|(with_reducible first|exact HB.out|apply zD|apply zE|apply zF)|exact HB.out)) hb);have n1_:=zM (hbox);have n2_:=zM ((by rw [hg];exact (zR (by repeat (first|(with_reducible first|exact HB.out|apply zD|apply zE|apply zF)|exact HB.out))):w.heap.size ≤ gb153));have n3_:=zM ((by rw [hg];exact (zR (by repeat (first|(with_reducible first|exact HB.out|apply zD|apply zE|apply zF)|exact HB.out))):w.heap.size ≤ gb153));clear HB;have HB:=n0_;have BK153:=n1_;have GW153:=n2_;have GE153:=n3_;clear n0_ n1_ n2_ n3_;clear hb hbox hg)|((with_reducible refine gate_dst (N:=3) rfl ?_);refine box_event ?hg (N:=3) ?hd (cs := #[.int .i64 a1_0,.int .i64 a1_1,.slice A1_2 l1_2.length c1_2]) (t:=29) ?hr ?_;(case hd=>rfl);(case hg=>rfl);(case hr=>first|(go_simp;done)|(go_simp;rfl));intro gb154 hg w20 hbox hb;have n0_:=zM (blk_below (g:=gb153) (o := .cells #[.int .i64 a0_0,.int .i64 a0_1,.slice A0_2 l0_2.length c0_2] 29 (0,0)) (by (with_reducible repeat (first|refine zJ ?_ _|refine zK ?_|refine zL ?_ _));exact BK153.out) hb);have n1_:=zM (zQ (by repeat (first|(with_reducible first|exact HB.out|apply zD|apply zE|apply zF|refine below_set ?_ GE153.out)|exact HB.out)) hb);have n2_:=zM (hbox);have n3_:=zM ((by rw [hg];exact (zR (by repeat (first|(with_reducible first|exact HB.out|apply zD|apply zE|apply zF|refine below_set ?_ GE153.out)|exact HB.out))):w.heap.size ≤ gb154));have n4_:=zM ((by rw [hg];exact (zR (by repeat (first|(with_reducible first|exact HB.out|apply zD|apply zE|apply zF|refine below_set ?_ GE153.out)|exact HB.out))):w.heap.size ≤ gb154));have n5_:=zM ((by rw [hg];exact Nat.ne_of_lt (blk_lt (g:=gb153) (o := .cells #[.int .i64 a0_0,.int .i64 a0_1,.slice A0_2 l0_2.length c0_2] 29 (0,0)) (by (with_reducible repeat (first|refine zJ ?_ _|refine zK ?_|refine zL ?_ _));exact BK153.out)):gb153 ≠ gb154));have n6_:=zM ((by rw [hg];exact Nat.ne_of_gt (blk_lt (g:=gb153) (o := .cells #[.int .i64 a0_0,.int .i64 a0_1,.slice A0_2 l0_2.length c0_2] 29 (0,0)) (by (with_reducible repeat (first|refine zJ ?_ _|refine zK ?_|refine zL ?_ _));exact BK153.out)):gb154 ≠ gb153));clear BK153;clear HB;have BK153:=n0_;have HB:=n1_;have BK154:=n2_;have GW154:=n3_;have GE154:=n4_;have NB153_154:=n5_;have NB154_153:=n6_;clear n0_ n1_ n2_ n3_ n4_ n5_ n6_;clear hb hbox hg;have hnb21:=NB153_154.out;have hnc21:=NB154_153.out;have hcz22_0:w20.cell? ⟨gb153,0,none⟩ = some (.int .i64 a0_0):=(blk_cell BK153.out 0).trans rfl;have hcz22_1:w20.cell? ⟨gb153,1,none⟩ = some (.int .i64 a0_1):=(blk_cell BK153.out 1).trans rfl;have hcz22_2:w20.cell? ⟨gb153,2,none⟩ = some (.slice A0_2 l0_2.length c0_2):=(blk_cell BK153.out 2).trans rfl;have hfz22_0:=blk_frozen BK153.out 0;have hfz22_1:=blk_frozen BK153.out 1;have hfz22_2:=blk_frozen BK153.out 2;have hcz23_0:w20.cell? ⟨gb154,0,none⟩ = some (.int .i64 a1_0):=(blk_cell BK154.out 0).trans rfl;have hcz23_1:w20.cell? ⟨gb154,1,none⟩ = some (.int .i64 a1_1):=(blk_cell BK154.out 1).trans rfl;have hcz23_2:w20.cell? ⟨gb154,2,none⟩ = some (.slice A1_2 l1_2.length c1_2):=(blk_cell BK154.out 2).trans rfl;have hfz23_0:=blk_frozen BK154.out 0;have hfz23_1:=blk_frozen BK154.out 1;have hfz23_2:=blk_frozen BK154.out 2))
   go_ret
   exact ⟨by first|rfl|(simp [errW_none,errW_some] <;> rfl)|(simp [*,errW_none,errW_some] <;> rfl),by repeat (first|(with_reducible first|exact HB.out|apply zD|apply zE|apply zF|refine below_set ?_ GE153.out|refine below_set ?_ GE154.out)|exact HB.out)⟩
 ·rw [if_neg c3] at H
  have c3b0:(a0_0 == a1_0) = false:=beq_eq_false_iff_ne.mpr c3
  have c3b1:(a0_0 != a1_0) = true:=bne_iff_ne.mpr c3
  obtain rfl:=Option.some.inj H;go_enter Try.func17,Try.ntmps17
  go_wp2_with (first|((with_reducible refine gate_dst (N:=2) rfl ?_);refine box_event ?hg (N:=2) ?hd (cs := #[.int .i64 a0_0,.int .i64 a0_1,.slice A0_2 l0_2.length c0_2]) (t:=29) ?hr ?_;(case hd=>rfl);(case hg=>rfl);(case hr=>first|(go_simp;done)|(go_simp;rfl));intro gb153 hg w24 hbox hb;have n0_:=zM (zQ (by repeat (first|(with_reducible first|exact HB.out|apply zD|apply zE|apply zF)|exact HB.out)) hb);have n1_:=zM (hbox);have n2_:=zM ((by rw [hg];exact (zR (by repeat (first|(with_reducible first|exact HB.out|apply zD|apply zE|apply zF)|exact HB.out))):w.heap.size ≤ gb153));have n3_:=zM ((by rw [hg];exact (zR (by repeat (first|(with_reducible first|exact HB.out|apply zD|apply zE|apply zF)|exact HB.out))):w.heap.size ≤ gb153));clear HB;have HB:=n0_;have BK153:=n1_;have GW153:=n2_;have GE153:=n3_;clear n0_ n1_ n2_ n3_;clear hb hbox hg)|((with_reducible refine gate_dst (N:=3) rfl ?_);refine box_event ?hg (N:=3) ?hd (cs := #[.int .i64 a1_0,.int .i64 a1_1,.slice A1_2 l1_2.length c1_2]) (t:=29) ?hr ?_;(case hd=>rfl);(case hg=>rfl);(case hr=>first|(go_simp;done)|(go_simp;rfl));intro gb154 hg w25 hbox hb;have n0_:=zM (blk_below (g:=gb153) (o := .cells #[.int .i64 a0_0,.int .i64 a0_1,.slice A0_2 l0_2.length c0_2] 29 (0,0)) (by (with_reducible repeat (first|refine zJ ?_ _|refine zK ?_|refine zL ?_ _));exact BK153.out) hb);have n1_:=zM (zQ (by repeat (first|(with_reducible first|exact HB.out|apply zD|apply zE|apply zF|refine below_set ?_ GE153.out)|exact HB.out)) hb);have n2_:=zM (hbox);have n3_:=zM ((by rw [hg];exact (zR (by repeat (first|(with_reducible first|exact HB.out|apply zD|apply zE|apply zF|refine below_set ?_ GE153.out)|exact HB.out))):w.heap.size ≤ gb154));have n4_:=zM ((by rw [hg];exact (zR (by repeat (first|(with_reducible first|exact HB.out|apply zD|apply zE|apply zF|refine below_set ?_ GE153.out)|exact HB.out))):w.heap.size ≤ gb154));have n5_:=zM ((by rw [hg];exact Nat.ne_of_lt (blk_lt (g:=gb153) (o := .cells #[.int .i64 a0_0,.int .i64 a0_1,.slice A0_2 l0_2.length c0_2] 29 (0,0)) (by (with_reducible repeat (first|refine zJ ?_ _|refine zK ?_|refine zL ?_ _));exact BK153.out)):gb153 ≠ gb154));have n6_:=zM ((by rw [hg];exact Nat.ne_of_gt (blk_lt (g:=gb153) (o := .cells #[.int .i64 a0_0,.int .i64 a0_1,.slice A0_2 l0_2.length c0_2] 29 (0,0)) (by (with_reducible repeat (first|refine zJ ?_ _|refine zK ?_|refine zL ?_ _));exact BK153.out)):gb154 ≠ gb153));clear BK153;clear HB;have BK153:=n0_;have HB:=n1_;have BK154:=n2_;have GW154:=n3_;have GE154:=n4_;have NB153_154:=n5_;have NB154_153:=n6_;clear n0_ n1_ n2_ n3_ n4_ n5_ n6_;clear hb hbox hg;have hnb26:=NB153_154.out;have hnc26:=NB154_153.out;have hcz27_0:w25.cell? ⟨gb153,0,none⟩ = some (.int .i64 a0_0):=(blk_cell BK153.out 0).trans rfl;have hcz27_1:w25.cell? ⟨gb153,1,none⟩ = some (.int .i64 a0_1):=(blk_cell BK153.out 1).trans rfl;have hcz27_2:w25.cell? ⟨gb153,2,none⟩ = some (.slice A0_2 l0_2.length c0_2):=(blk_cell BK153.out 2).trans rfl;have hfz27_0:=blk_frozen BK153.out 0;have hfz27_1:=blk_frozen BK153.out 1;have hfz27_2:=blk_frozen BK153.out 2;have hcz28_0:w25.cell? ⟨gb154,0,none⟩ = some (.int .i64 a1_0):=(blk_cell BK154.out 0).trans rfl;have hcz28_1:w25.cell? ⟨gb154,1,none⟩ = some (.int .i64 a1_1):=(blk_cell BK154.out 1).trans rfl;have hcz28_2:w25.cell? ⟨gb154,2,none⟩ = some (.slice A1_2 l1_2.length c1_2):=(blk_cell BK154.out 2).trans rfl;have hfz28_0:=blk_frozen BK154.out 0;have hfz28_1:=blk_frozen BK154.out 1;have hfz28_2:=blk_frozen BK154.out 2))
  go_ret
  exact ⟨by first|rfl|(simp [errW_none,errW_some] <;> rfl)|(simp [*,errW_none,errW_some] <;> rfl),by repeat (first|(with_reducible first|exact HB.out|apply zD|apply zE|apply zF|refine below_set ?_ GE153.out|refine below_set ?_ GE154.out)|exact HB.out)⟩



/-! ### laws_szFloor: function 13 -/
def laws_szFloor.f (a0_0:Int) (a0_1:Int) (l0_2:List (S44)) (a1:Int):Option (Int):=(laws_szCellS.f l0_2 a1).bind fun t102=>(if t102 < 0 then (some (-1)) else (some t102))
set_option maxHeartbeats 8000000 in
set_option maxRecDepth 100000 in
theorem laws_szFloor.calls (a0_0:Int) (a0_1:Int) (A0_2:Option Addr) (c0_2:Nat) (l0_2:List (S44)) (a1:Int) (r:Int) (w:World) (hr0_2:Kd.C k44 w A0_2 l0_2.length l0_2) (hc0_2:l0_2.length ≤ c0_2) (h:laws_szFloor.f a0_0 a0_1 l0_2 a1 = some r) :
  Calls Try.prog 13 #[.agg #[.int .i64 a0_0,.int .i64 a0_1,.slice A0_2 l0_2.length c0_2],.int .i64 a1] w fun e w'=>e = .returned (.int .i64 r) ∧ Below w.heap.size w w':=by
 have hu24:=Try.underlying24;have HR0_2:=zM hr0_2;have HC0_2:=zM hc0_2;clear hr0_2 hc0_2;have HB:=zM (Below.refl w.heap.size w);have H:((laws_szCellS.f l0_2 a1).bind fun t102=>(if t102 < 0 then (some (-1)) else (some t102))) = some r:=h
 clear h;replace H:=Option.bind_eq_some_iff.mp H;obtain ⟨t102,A30,H⟩:=H;replace H:(if t102 < 0 then (some (-1)) else (some t102)) = some r:=H
 have A3:=zM A30;clear A30;by_cases c4:t102 < 0
 ·rw [if_pos c4] at H
  have c4b0:decide (t102 < 0) = true:=decide_eq_true c4
  clear c4;obtain rfl:=Option.some.inj H;go_enter Try.func13,Try.ntmps13
  go_wp2_with (first|((with_reducible refine gate_dst (N:=2) rfl ?_);refine box_event ?hg (N:=2) ?hd (cs := #[.int .i64 a0_0,.int .i64 a0_1,.slice A0_2 l0_2.length c0_2]) (t:=24) ?hr ?_;(case hd=>rfl);(case hg=>rfl);(case hr=>first|(go_simp;done)|(go_simp;rfl));intro gb101 hg w5 hbox hb;have n0_:=zM (zQ (by repeat (first|(with_reducible first|exact HB.out|apply zD|apply zE|apply zF)|exact HB.out)) hb);have n1_:=zM (hbox);have n2_:=zM ((by rw [hg];exact (zR (by repeat (first|(with_reducible first|exact HB.out|apply zD|apply zE|apply zF)|exact HB.out))):w.heap.size ≤ gb101));have n3_:=zM ((by rw [hg];exact (zR (by repeat (first|(with_reducible first|exact HB.out|apply zD|apply zE|apply zF)|exact HB.out))):w.heap.size ≤ gb101));clear HB;have HB:=n0_;have BK101:=n1_;have GW101:=n2_;have GE101:=n3_;clear n0_ n1_ n2_ n3_;clear hb hbox hg;have hcz6_0:w5.cell? ⟨gb101,0,none⟩ = some (.int .i64 a0_0):=(blk_cell BK101.out 0).trans rfl;have hcz6_1:w5.cell? ⟨gb101,1,none⟩ = some (.int .i64 a0_1):=(blk_cell BK101.out 1).trans rfl;have hcz6_2:w5.cell? ⟨gb101,2,none⟩ = some (.slice A0_2 l0_2.length c0_2):=(blk_cell BK101.out 2).trans rfl;have hfz6_0:=blk_frozen BK101.out 0;have hfz6_1:=blk_frozen BK101.out 1;have hfz6_2:=blk_frozen BK101.out 2)|((with_reducible refine gate_callee (f:=18) rfl ?_);refine goesL_ (some 8) rfl rfl Try.func18 (by kernel_rfl) rfl #[.slice A0_2 l0_2.length c0_2,.int .i64 a1] rfl (by (try simp only [List.map_toArray,List.map_cons,List.map_nil]);first|done|rfl|(simp only [List.length_drop,List.length_take];rfl)) ?_;(with_reducible refine (laws_szCellS.calls _ _ l0_2 a1 t102 _ ?side1 ?side2 A3.out).mono ?_);(case side1=>repeat (first|exact (zO HR0_2.out HB.out)|(with_reducible first|refine zG ?_ _|refine zH ?_ _|refine zI ?_)));(case side2=>exact HC0_2.out);rintro e w' ⟨rfl,⟨nd,rfl⟩⟩;refine ⟨_,rfl,?_⟩))
  go_ret
  exact ⟨by first|rfl|(simp [errW_none,errW_some] <;> rfl)|(simp [*,errW_none,errW_some] <;> rfl),by repeat (first|(with_reducible first|exact HB.out|apply zD|apply zE|apply zF|refine below_set ?_ GE101.out)|exact HB.out)⟩
 ·rw [if_neg c4] at H
  have c4b0:decide (t102 < 0) = false:=decide_eq_false c4
  clear c4;obtain rfl:=Option.some.inj H;go_enter Try.func13,Try.ntmps13
  go_wp2_with (first|((with_reducible refine gate_dst (N:=2) rfl ?_);refine box_event ?hg (N:=2) ?hd (cs := #[.int .i64 a0_0,.int .i64 a0_1,.slice A0_2 l0_2.length c0_2]) (t:=24) ?hr ?_;(case hd=>rfl);(case hg=>rfl);(case hr=>first|(go_simp;done)|(go_simp;rfl));intro gb101 hg w7 hbox hb;have n0_:=zM (zQ (by repeat (first|(with_reducible first|exact HB.out|apply zD|apply zE|apply zF)|exact HB.out)) hb);have n1_:=zM (hbox);have n2_:=zM ((by rw [hg];exact (zR (by repeat (first|(with_reducible first|exact HB.out|apply zD|apply zE|apply zF)|exact HB.out))):w.heap.size ≤ gb101));have n3_:=zM ((by rw [hg];exact (zR (by repeat (first|(with_reducible first|exact HB.out|apply zD|apply zE|apply zF)|exact HB.out))):w.heap.size ≤ gb101));clear HB;have HB:=n0_;have BK101:=n1_;have GW101:=n2_;have GE101:=n3_;clear n0_ n1_ n2_ n3_;clear hb hbox hg;have hcz8_0:w7.cell? ⟨gb101,0,none⟩ = some (.int .i64 a0_0):=(blk_cell BK101.out 0).trans rfl;have hcz8_1:w7.cell? ⟨gb101,1,none⟩ = some (.int .i64 a0_1):=(blk_cell BK101.out 1).trans rfl;have hcz8_2:w7.cell? ⟨gb101,2,none⟩ = some (.slice A0_2 l0_2.length c0_2):=(blk_cell BK101.out 2).trans rfl;have hfz8_0:=blk_frozen BK101.out 0;have hfz8_1:=blk_frozen BK101.out 1;have hfz8_2:=blk_frozen BK101.out 2)|((with_reducible refine gate_callee (f:=18) rfl ?_);refine goesL_ (some 8) rfl rfl Try.func18 (by kernel_rfl) rfl #[.slice A0_2 l0_2.length c0_2,.int .i64 a1] rfl (by (try simp only [List.map_toArray,List.map_cons,List.map_nil]);first|done|rfl|(simp only [List.length_drop,List.length_take];rfl)) ?_;(with_reducible refine (laws_szCellS.calls _ _ l0_2 a1 t102 _ ?side1 ?side2 A3.out).mono ?_);(case side1=>repeat (first|exact (zO HR0_2.out HB.out)|(with_reducible first|refine zG ?_ _|refine zH ?_ _|refine zI ?_)));(case side2=>exact HC0_2.out);rintro e w' ⟨rfl,⟨nd,rfl⟩⟩;refine ⟨_,rfl,?_⟩))
  go_ret
  exact ⟨by first|rfl|(simp [errW_none,errW_some] <;> rfl)|(simp [*,errW_none,errW_some] <;> rfl),by repeat (first|(with_reducible first|exact HB.out|apply zD|apply zE|apply zF|refine below_set ?_ GE101.out)|exact HB.out)⟩

end Go.Proofs.Ytbpccdbkaiigcaa.G

namespace Go.Proofs.Ytbpccdbkaiigcaa.G
open Go.RowKit Go.Proofs.YtbpccdbkaiigcaaW.PrintWords Go.Proofs.YtbpccdbkaiigcaaW.PrintLast
set_option linter.unusedVariables false
set_option linter.unusedSimpArgs false
def cv_C (x : S44) : S48:=⟨x.f0,x.f1⟩
theorem to_C (xs : List S44) (h : (xs.length : Int) ≤ 1048576) : Ev (fun k=>laws_toCellS.f k xs) (xs.map cv_C):=by
 unfold laws_toCellS.f
 simp (disch:=omega) only [if_pos]
 simp only [Int.toNat_natCast]
 refine Ev.fill (fun k out i=>laws_toCellS.l0 k xs out i) xs cv_C z44 z48 ?_ ?_
 ·intro out
  refine Ev.step (fun k=>by rw [laws_toCellS.l0]) ?_
  simp only [Int.lt_irrefl,if_false]
  exact Ev.now _
 ·intro out i hl h0 hlt r hr
  refine Ev.step (fun k=>by rw [laws_toCellS.l0]) ?_
  simp (disch:=omega) only [wrap64_id,if_pos,laws_toCell.f,Option.bind_some,hl]
  exact hr
theorem eq_C (xs : List S48) (h : (xs.length : Int) ≤ 1048576) : Ev (fun k=>laws_eqCellS.f k xs xs) true:=by
 unfold laws_eqCellS.f
 simp only [if_true]
 refine Ev.upc (fun k i=>laws_eqCellS.l0 k xs xs i) true (xs.length : Int) 0 ?_ ?_ 0 (by omega) (by omega)
 ·refine Ev.step (fun k=>by rw [laws_eqCellS.l0]) ?_
  simp only [Int.lt_irrefl,if_false]
  exact Ev.now _
 ·intro i h0 hlt hr
  refine Ev.step (fun k=>by rw [laws_eqCellS.l0]) ?_
  simp (disch:=omega) only [wrap64_id,if_pos,laws_eqCell.f,Option.bind_some,if_true]
  exact hr

theorem szc (xs : List S44) (h : xs.length ≤ maxLen) (a : Int) (a0 : 0 ≤ a) (a1 : a ≤ 1048576) : laws_szCellS.f xs a = some (if a - (xs.length : Int) < 0 then -1 else a - (xs.length : Int)):=by
 unfold maxLen at h
 unfold laws_szCellS.f
 rw [wrap64_id (by omega) (by omega)]
 split <;> rfl
theorem szf (w h : Int) (xs : List S44) (hl : xs.length ≤ maxLen) (a : Int) (a0 : 0 ≤ a) (a1 : a ≤ 1048576) : laws_szFloor.f w h xs a = some (if a - (xs.length : Int) < 0 then -1 else a - (xs.length : Int)):=by
 unfold laws_szFloor.f
 rw [szc xs hl a a0 a1]
 simp only [Option.bind_some]
 by_cases h1 : a - (xs.length : Int) < 0
 ·rw [if_pos h1,if_pos (by decide)]
 ·rw [if_neg h1,if_neg h1]
theorem to_F (w h : Int) (xs : List S44) (hl : (xs.length : Int) ≤ 1048576) : Ev (fun k=>laws_toFloor.f k w h xs) (w,h,xs.map cv_C):=by
 unfold laws_toFloor.f
 exact Ev.bind (to_C xs hl) (Ev.now _)
theorem eq_F (w h : Int) (xs : List S48) (hl : (xs.length : Int) ≤ 1048576) : Ev (fun k=>laws_eqFloor.f k w h xs w h xs) true:=by
 unfold laws_eqFloor.f
 simp only [if_true]
 refine Ev.bind (eq_C xs hl) ?_
 simp only [if_true]
 exact Ev.now _
end Go.Proofs.Ytbpccdbkaiigcaa.G

-- Written by wip/tools/gen.py out of the translation (the kit's printer, one namespace a seat). Lean checks it.
namespace Go.Proofs.Ytbpccdbkaiigcaa.G
open Go.RowKit Go.Proofs.YtbpccdbkaiigcaaW.PrintWords Go.Proofs.YtbpccdbkaiigcaaW.PrintLast Go.Proofs.YtbpccdbkaiigcaaW.PrintMore
attribute [local go_sem] max2_int min2_int max_two min_two max_three min_three max_four min_four   -- for this text's walks alone
set_option linter.unusedVariables false
set_option linter.unusedSimpArgs false

/-! ### laws_szCellSS: function 38 -/
def laws_szCellSS.l0:Nat → List (List (S44)) → Int → Int → Option (Int)
 | 0,_,_,_=>none
 | k + 1,x0,x1,x5=>if x5 < (x0.length:Int) then (if 0 ≤ x5 then ((laws_szCellS.f (rd_L3 x0 x5) x1).bind fun t588=>(if t588 < 0 then (some (-1)) else (laws_szCellSS.l0 k x0 t588 (wrap64 (x5 + 1))))) else (none)) else (some x1)
def laws_szCellSS.f (k:Nat) (l0:List (List (S44))) (a1:Int):Option (Int):=if (wrap64 (a1 - (l0.length:Int))) < 0 then (some (-1)) else (laws_szCellSS.l0 k l0 (wrap64 (a1 - (l0.length:Int))) 0)
set_option maxHeartbeats 8000000 in
set_option maxRecDepth 100000 in
theorem laws_szCellSS.calls (k:Nat) (A0:Option Addr) (c0:Nat) (l0:List (List (S44))) (a1:Int) (r:Int) (w:World) (hr0:Kd.C (Kd.slice 44 k44) w A0 l0.length l0) (hc0:l0.length ≤ c0) (h:laws_szCellSS.f k l0 a1 = some r) :
  Calls Try.prog 38 #[.slice A0 l0.length c0,.int .i64 a1] w fun e w'=>e = .returned (.int .i64 r) ∧ Drawn0 w w':=by
 have HR0:=zM hr0;have HC0:=zM hc0;clear hr0 hc0;have H:(if (wrap64 (a1 - (l0.length:Int))) < 0 then (some (-1)) else (laws_szCellSS.l0 k l0 (wrap64 (a1 - (l0.length:Int))) 0)) = some r:=h
 clear h;by_cases c3:(wrap64 (a1 - (l0.length:Int))) < 0
 ·rw [if_pos c3] at H
  have c3b0:decide ((wrap64 (a1 - (l0.length:Int))) < 0) = true:=decide_eq_true c3
  clear c3;obtain rfl:=Option.some.inj H;go_enter Try.func38,Try.ntmps38
  go_wp2
  go_ret
  exact ⟨by first|rfl|(simp;done)|(simp [*];done),by repeat (first|exact Drawn0.refl _|apply Drawn0.step)⟩
 ·rw [if_neg c3] at H
  have c3b0:decide ((wrap64 (a1 - (l0.length:Int))) < 0) = false:=decide_eq_false c3
  clear c3;have H':=zM H;clear H;go_enter Try.func38,Try.ntmps38
  go_wp2
  go_loopg [1,5] k (fun kq v1 v5 w' => ∃ (x1_1:Int) (x5_1:Int),v1 = .int .i64 x1_1 ∧ v5 = .int .i64 x5_1 ∧ Aside0 (laws_szCellSS.l0 kq l0 x1_1 x5_1 = some r) ∧ Aside0 (kq ≤ k) ∧ Drawn0 w w')
  case atStart=>exact ⟨(wrap64 (a1 - (l0.length:Int))),(0),(by first|rfl|(simp;done)|(simp [*];done)),(by first|rfl|(simp;done)|(simp [*];done)),H',⟨Nat.le_refl _⟩,by repeat (first|exact Drawn0.refl _|apply Drawn0.step)⟩
  case round =>
   clear H';(try clear p2);(try clear c3);(try clear c3b0);obtain ⟨x1_1,x5_1,rfl,rfl,HA,HK1,⟨m1,rfl⟩⟩:=hrel;cases gk with
   | zero=>exact absurd HA.out (by simp [laws_szCellSS.l0])
   | succ k1 =>
    have H:=HA.out;clear HA;simp only [laws_szCellSS.l0] at H
    by_cases c4:x5_1 < (l0.length:Int)
    ·rw [if_pos c4] at H
     have c4b0:decide (x5_1 < (l0.length:Int)) = true:=decide_eq_true c4
     clear c4;by_cases c5:0 ≤ x5_1
     ·rw [if_pos c5] at H
      have c5b0:decide (0 ≤ x5_1) = true:=decide_eq_true c5
      clear c5;replace H:=Option.bind_eq_some_iff.mp H;obtain ⟨t588,A60,H⟩:=H;replace H:(if t588 < 0 then (some (-1)) else (laws_szCellSS.l0 k1 l0 t588 (wrap64 (x5_1 + 1)))) = some r:=H
      have A6:=zM A60;clear A60;by_cases c7:t588 < 0
      ·rw [if_pos c7] at H
       have c7b0:decide (t588 < 0) = true:=decide_eq_true c7
       clear c7;obtain rfl:=Option.some.inj H;have p587:0 ≤ (x5_1:Int):=of_decide_eq_true (by first|(with_reducible assumption)|assumption)
       have q587:x5_1 < (l0.length:Int):=of_decide_eq_true (by first|(with_reducible assumption)|assumption)
       obtain ⟨ad587,A587_0,c587_0,e587,hx587_0,hl587_0,hi587_0⟩:=at_L3 HR0.out x5_1 p587 q587;cases e587
       have HR587_0:=zM hi587_0;have HC587_0:=zM hl587_0;clear hi587_0 hl587_0;replace p587:=eq_true p587;replace q587:=eq_true q587;go_wp2_with (first|((with_reducible refine gate_callee (f:=18) rfl ?_);refine goesL_ (some 23) rfl rfl Try.func18 (by kernel_rfl) rfl #[.slice A587_0 (rd_L3 l0 x5_1).length c587_0,.int .i64 x1_1] rfl (by (try simp only [List.map_toArray,List.map_cons,List.map_nil]);first|done|rfl|(simp only [List.length_drop,List.length_take];rfl)) ?_;(with_reducible refine (laws_szCellS.calls _ _ (rd_L3 l0 x5_1) x1_1 t588 _ ?side1 ?side2 A6.out).mono ?_);(case side1=>repeat (first|exact HR587_0.out|(with_reducible first|refine zG ?_ _|refine zH ?_ _|refine zI ?_)));(case side2=>exact HC587_0.out);rintro e w' ⟨rfl,⟨nd,rfl⟩⟩;refine ⟨_,rfl,?_⟩))
       go_ret
       exact ⟨by first|rfl|(simp;done)|(simp [*];done),by repeat (first|exact Drawn0.refl _|apply Drawn0.step)⟩
      ·rw [if_neg c7] at H
       have c7b0:decide (t588 < 0) = false:=decide_eq_false c7
       clear c7;have H':=zM H;clear H;have p587:0 ≤ (x5_1:Int):=of_decide_eq_true (by first|(with_reducible assumption)|assumption)
       have q587:x5_1 < (l0.length:Int):=of_decide_eq_true (by first|(with_reducible assumption)|assumption)
       obtain ⟨ad587,A587_0,c587_0,e587,hx587_0,hl587_0,hi587_0⟩:=at_L3 HR0.out x5_1 p587 q587;cases e587
       have HR587_0:=zM hi587_0;have HC587_0:=zM hl587_0;clear hi587_0 hl587_0;replace p587:=eq_true p587;replace q587:=eq_true q587;go_wp2_with (first|((with_reducible refine gate_callee (f:=18) rfl ?_);refine goesL_ (some 23) rfl rfl Try.func18 (by kernel_rfl) rfl #[.slice A587_0 (rd_L3 l0 x5_1).length c587_0,.int .i64 x1_1] rfl (by (try simp only [List.map_toArray,List.map_cons,List.map_nil]);first|done|rfl|(simp only [List.length_drop,List.length_take];rfl)) ?_;(with_reducible refine (laws_szCellS.calls _ _ (rd_L3 l0 x5_1) x1_1 t588 _ ?side1 ?side2 A6.out).mono ?_);(case side1=>repeat (first|exact HR587_0.out|(with_reducible first|refine zG ?_ _|refine zH ?_ _|refine zI ?_)));(case side2=>exact HC587_0.out);rintro e w' ⟨rfl,⟨nd,rfl⟩⟩;refine ⟨_,rfl,?_⟩))
       go_roundg k1
       case measure=>have:=HK1.out;omega
       case rel=>exact ⟨(t588),(wrap64 (x5_1 + 1)),(by first|rfl|(simp;done)|(simp [*];done)),(by first|rfl|(simp;done)|(simp [*];done)),H',⟨by have:=HK1.out;omega⟩,by repeat (first|exact Drawn0.refl _|apply Drawn0.step)⟩
     ·rw [if_neg c5] at H
      exact absurd H (by simp)
    ·rw [if_neg c4] at H
     have c4b0:decide (x5_1 < (l0.length:Int)) = false:=decide_eq_false c4
     clear c4;obtain rfl:=Option.some.inj H;go_wp2
     go_ret
     exact ⟨by first|rfl|(simp;done)|(simp [*];done),by repeat (first|exact Drawn0.refl _|apply Drawn0.step)⟩



/-! ### laws_toCellSS: function 40 -/
def laws_toCellSS.l0:Nat → List (List (S44)) → List (List (S48)) → Int → Option ((List (List (S48))))
 | 0,_,_,_=>none
 | k + 1,x0,x3,x4=>if x4 < (x0.length:Int) then (if 0 ≤ x4 then ((laws_toCellS.f k (rd_L3 x0 x4)).bind fun t609=>(if x4 < (x3.length:Int) then (laws_toCellSS.l0 k x0 (x3.set (x4:Int).toNat t609) (wrap64 (x4 + 1))) else (none))) else (none)) else (some x3)
def laws_toCellSS.f (k:Nat) (l0:List (List (S44))):Option ((List (List (S48)))):=if 0 ≤ (l0.length:Int) then (if ((l0.length:Int):Int).toNat ≤ 11728124029610 then (laws_toCellSS.l0 k l0 (List.replicate ((l0.length:Int):Int).toNat []) 0) else (none)) else (none)
set_option maxHeartbeats 8000000 in
set_option maxRecDepth 100000 in
theorem laws_toCellSS.calls (k:Nat) (A0:Option Addr) (c0:Nat) (l0:List (List (S44))) (r:List (List (S48))) (w:World) (hr0:Kd.C (Kd.slice 44 k44) w A0 l0.length l0) (hc0:l0.length ≤ c0) (h:laws_toCellSS.f k l0 = some r) :
  Calls Try.prog 40 #[.slice A0 l0.length c0] w fun e w' => ∃ v0_:Value,e = .returned (v0_) ∧ Kd.S (Kd.slice 48 k48) 27 w' w.heap.size (fun _=>True) v0_ r ∧ Below w.heap.size w w':=by
 have HR0:=zM hr0;have HC0:=zM hc0;clear hr0 hc0;have HB:=zM (Below.refl w.heap.size w);have H:(if 0 ≤ (l0.length:Int) then (if ((l0.length:Int):Int).toNat ≤ 11728124029610 then (laws_toCellSS.l0 k l0 (List.replicate ((l0.length:Int):Int).toNat []) 0) else (none)) else (none)) = some r:=h
 clear h;by_cases c2:0 ≤ (l0.length:Int)
 ·rw [if_pos c2] at H
  have c2b0:=eq_true c2;have c2b1:decide (0 ≤ (l0.length:Int)) = true:=decide_eq_true c2
  clear c2;by_cases c3:((l0.length:Int):Int).toNat ≤ 11728124029610
  ·rw [if_pos c3] at H
   have c3b0:=eq_true c3;have c3b1:decide (((l0.length:Int):Int).toNat ≤ 11728124029610) = true:=decide_eq_true c3
   clear c3;obtain ⟨y605,hy605⟩ : ∃ y_:List (List (S48)),y_ = (List.replicate ((l0.length:Int):Int).toNat []):=⟨_,rfl⟩
   replace H:(laws_toCellSS.l0 k l0 y605 0) = some r:=by first|(rw [hy605];with_reducible exact H)|(have H2_:=(Option.bind_some _ _).symm.trans H;rw [hy605];with_reducible exact H2_)|(have H2_:=(Option.bind_some _ _).symm.trans H;with_reducible exact H2_)|with_reducible exact H|(rw [hy605];exact H)|exact H
   have Ny605:=zM hy605;clear hy605;have H':=zM H;clear H;go_enter Try.func40,Try.ntmps40
   go_wp2_with (first|((with_reducible refine gate_dst (N:=7) rfl ?_);refine Kd.S_make (Kd.slice 48 k48) _ 27 rfl (N:=7) rfl 61 _ _ rfl (l0.length:Int) rfl rfl Try.underlying61 (.slice none 0 0) 24 info27 rfl (by decide) (by omega) [] (ok:=fun _=>True) (okp:=fun _=>True) ⟨_,rfl,Kd.R_nil _ _ _ _ _⟩ (fun _ hk=>hk) trivial (of_decide_eq_true (by first|(with_reducible assumption)|assumption)) (Nat.le_trans (Nat.mul_le_mul_right _ (of_decide_eq_true (by first|(with_reducible assumption)|assumption):(l0.length:Int).toNat ≤ 11728124029610)) (by omega)) (Below.refl _ _) (Nat.le_refl _) ?_;intro v606 w4 ho5 hb hg_ hnew_;clear hg_ hnew_;(first|rw [← Ny605.out] at ho5|(simp only [Int.reduceToNat] at ho5;rw [← Ny605.out] at ho5));have n0_:=zM (Kd.S_lower ho5 (zR (by repeat (first|(with_reducible first|exact HB.out|apply zD|apply zE|apply zF)|exact HB.out))));have n1_:=zM (zQ (by repeat (first|(with_reducible first|exact HB.out|apply zD|apply zE|apply zF)|exact HB.out)) hb);clear HB;have HO607:=n0_;have HB:=n1_;clear n0_ n1_;clear hb ho5))
   go_loopg [4] k (fun kq v4 w' => ∃ (x3_1:List (List (S48))) (x4_1:Int),v4 = .int .i64 x4_1 ∧ Aside0 (laws_toCellSS.l0 kq l0 x3_1 x4_1 = some r) ∧ Aside0 (kq ≤ k) ∧ Aside0 (Kd.S (Kd.slice 48 k48) 27 w' w.heap.size (fun _=>True) v606 x3_1) ∧ Aside0 (Below w.heap.size w w'))
   case atStart=>exact ⟨(y605),(0),(by first|rfl|(simp;done)|(simp [*];done)),H',⟨Nat.le_refl _⟩,⟨by (with_reducible repeat (first|apply Kd.S_alloc|apply Kd.S_drewN|apply Kd.S_drew));exact HO607.out⟩,⟨by repeat (first|(with_reducible first|exact HB.out|apply zD|apply zE|apply zF)|exact HB.out)⟩⟩
   case round =>
    clear H';(try clear c2);(try clear c2b0);(try clear c2b1);(try clear p2);(try clear c3);(try clear c3b0);(try clear c3b1);(try clear c4);obtain ⟨x3_1,x4_1,rfl,HA,HK1,HO_3,HB⟩:=hrel;cases gk with
    | zero=>exact absurd HA.out (by simp [laws_toCellSS.l0])
    | succ k1 =>
     have H:=HA.out;clear HA;simp only [laws_toCellSS.l0] at H
     by_cases c6:x4_1 < (l0.length:Int)
     ·rw [if_pos c6] at H
      have c6b0:decide (x4_1 < (l0.length:Int)) = true:=decide_eq_true c6
      clear c6;by_cases c7:0 ≤ x4_1
      ·rw [if_pos c7] at H
       have c7b0:decide (0 ≤ x4_1) = true:=decide_eq_true c7
       clear c7;replace H:=Option.bind_eq_some_iff.mp H;obtain ⟨t609,A80,H⟩:=H;replace H:(if x4_1 < (x3_1.length:Int) then (laws_toCellSS.l0 k1 l0 (x3_1.set (x4_1:Int).toNat t609) (wrap64 (x4_1 + 1))) else (none)) = some r:=H
       have A8:=zM A80;clear A80;by_cases c9:x4_1 < (x3_1.length:Int)
       ·rw [if_pos c9] at H
        have c9b0:decide (x4_1 < (x3_1.length:Int)) = true:=decide_eq_true c9
        clear c9;obtain ⟨y612,hy612⟩ : ∃ y_:List (List (S48)),y_ = (x3_1.set (x4_1:Int).toNat t609):=⟨_,rfl⟩
        replace H:(laws_toCellSS.l0 k1 l0 y612 (wrap64 (x4_1 + 1))) = some r:=by first|(rw [hy612];with_reducible exact H)|(have H2_:=(Option.bind_some _ _).symm.trans H;rw [hy612];with_reducible exact H2_)|(have H2_:=(Option.bind_some _ _).symm.trans H;with_reducible exact H2_)|with_reducible exact H|(rw [hy612];exact H)|exact H
        have Ny612:=zM hy612;clear hy612;have H':=zM H;clear H;have p608:0 ≤ (x4_1:Int):=of_decide_eq_true (by first|(with_reducible assumption)|assumption)
        have q608:x4_1 < (l0.length:Int):=of_decide_eq_true (by first|(with_reducible assumption)|assumption)
        obtain ⟨ad608,A608_0,c608_0,e608,hx608_0,hl608_0,hi608_0⟩:=at_L3 HR0.out x4_1 p608 q608;cases e608
        replace hx608_0:=zS HB.out hx608_0;have HR608_0:=zM hi608_0;have HC608_0:=zM hl608_0;clear hi608_0 hl608_0;replace p608:=eq_true p608;replace q608:=eq_true q608;go_wp2_with (first|((with_reducible refine gate_callee (f:=20) rfl ?_);refine goesL_ (some 20) rfl rfl Try.func20 (by kernel_rfl) rfl #[.slice A608_0 (rd_L3 l0 x4_1).length c608_0] rfl (by (try simp only [List.map_toArray,List.map_cons,List.map_nil]);first|done|rfl|(simp only [List.length_drop,List.length_take];rfl)) ?_;(with_reducible refine (laws_toCellS.calls k1 _ _ (rd_L3 l0 x4_1) t609 _ ?side1 ?side2 A8.out).mono ?_);(case side1=>repeat (first|exact (zO HR608_0.out HB.out)|(with_reducible first|refine zG ?_ _|refine zH ?_ _|refine zI ?_)));(case side2=>exact HC608_0.out);rintro e w11 ⟨v610,rfl,ho0,hb⟩;refine ⟨_,rfl,?_⟩;have n0_:=zM (Kd.S_elder' (by (with_reducible repeat (first|apply Kd.S_alloc|apply Kd.S_drewN|apply Kd.S_drew));exact HO_3.out) (Kd.R_base ho0) hb);have n1_:=zM (Kd.R_lower ho0 (zR (by repeat (first|(with_reducible first|exact HB.out|apply zD|apply zE|apply zF)|exact HB.out))));have n2_:=zM (zQ (by repeat (first|(with_reducible first|exact HB.out|apply zD|apply zE|apply zF)|exact HB.out)) hb);clear HO_3;clear HB;have HO_3:=n0_;have HO611:=n1_;have HB:=n2_;clear n0_ n1_ n2_;(try clear hb);(try clear hb2);(try clear hk);(try clear hi);(try clear ho0);have p10:0 ≤ (x4_1:Int):=of_decide_eq_true (by first|(with_reducible assumption)|assumption);have q10:(x4_1:Int) < ((x3_1.length:Int):Int):=of_decide_eq_true (by first|(with_reducible assumption)|assumption);obtain ⟨go10,co10,eo10,gb10,gl10,cl10,HG10⟩:=Kd.S_form HO_3.out (by omega);(first|cases eo10|(injection eo10 with ea_ en_ ec_;(first|subst ea_|(injection ea_ with ea_;subst ea_));subst ec_;clear en_));have GB10:=zM gb10;have GG10:=zM HG10;clear gb10 gl10 HG10;obtain ⟨_,ce10,hcl10,hM10,hcc10,hfr10,_,_⟩:=Kd.S_elem HO_3.out [] (x4_1:Int) p10 q10;obtain ⟨ve10_0,rfl,ge10_0⟩:=hM10;have hx10_0:=hcc10 0 _ rfl;have hf10_0:=hfr10 0;(try simp only [show ((Kd.slice 48 k48)).sz = 1 from rfl,Nat.mul_one,Nat.add_zero] at hx10_0);(try simp only [show ((Kd.slice 48 k48)).sz = 1 from rfl,Nat.mul_one,Nat.add_zero] at hf10_0);clear hcl10 hcc10 hfr10;(try clear hM10);replace p10:=eq_true p10;replace q10:=eq_true q10;have n_:=zM (Kd.S_mono (ok':=(fun k_=>some k_ ≠ (v610:Value).ownBlock)) HO_3.out (fun k_ hk=>hk.2));clear HO_3;have HO_3:=n_;clear n_;have HX12:=zM (show Kd.S (Kd.slice 48 k48) 27 w11 w.heap.size (fun k_=>((fun _=>True)) k_ ∧ ¬ ((fun k_=>some k_ = (v610:Value).ownBlock)) k_) (.slice (some ⟨go10,0,none⟩) x3_1.length co10) x3_1 from (by (with_reducible repeat (first|apply Kd.S_alloc|apply Kd.S_drewN|apply Kd.S_drew));exact Kd.S_mono HO_3.out (fun k_ hk=>⟨trivial,fun e_=>hk e_⟩)));obtain ⟨oki12,ce12,hcl12,hM12,hcc12,hfr12,hoki12,hH12⟩:=Kd.S_elem HX12.out [] (x4_1:Int) (of_decide_eq_true (by first|(with_reducible assumption)|assumption)) (by have h_:(x4_1:Int) < ((x3_1.length:Int):Int):=of_decide_eq_true (by first|(with_reducible assumption)|assumption);first|exact h_|(have e_:=(Kd.S_reads' HO_3.out).1;omega)|simpa using h_);obtain ⟨ve12_0,rfl,ge12_0⟩:=hM12;have HP12:=Kd.S_seg hH12 (of_decide_eq_true (by first|(with_reducible assumption)|assumption)) (by have h_:(x4_1:Int) < ((x3_1.length:Int):Int):=of_decide_eq_true (by first|(with_reducible assumption)|assumption);first|exact h_|(have e_:=(Kd.S_reads' HO_3.out).1;omega)|simpa using h_) (seg:=[v610]) (j:=0) (show 1 ≤ 1 from by decide) (x':=t609) (Kd.M_row (Kd.R_mono (Kd.R_tight rfl (Kd.R_mono (ok':=fun k_=>((fun _=>True)) k_ ∧ k_ ≠ go10) (Kd.R_apart' (HO611.out) (Kd.S_typed HO_3.out) (by decide)) (fun k_ hk=>⟨trivial,fun e_=>(hk.2) (by rw [e_];rfl)⟩))) (fun _ h_=>Or.inr (h_)))) (fun _ hk=>hk) (fun k_ hk_=>((Kd.R_mono (ok':=fun k_=>((fun _=>True)) k_ ∧ k_ ≠ go10) (Kd.R_apart' (HO611.out) (Kd.S_typed HO_3.out) (by decide)) (fun k_ hk=>⟨trivial,fun e_=>(hk.2) (by rw [e_];rfl)⟩))).1 k_ hk_.symm);have hx12_0:=hcc12 0 _ rfl;(try simp only [show ((Kd.slice 48 k48)).sz = 1 from rfl,Nat.mul_one,Nat.add_zero] at hx12_0);have hf12_0:=hfr12 0;(try simp only [show ((Kd.slice 48 k48)).sz = 1 from rfl,Nat.mul_one,Nat.add_zero] at hf12_0);clear hcl12 hcc12 hfr12 hoki12 hH12;(try clear hM12);(try simp only [show ((Kd.slice 48 k48)).sz = 1 from rfl,Nat.mul_one,Nat.add_zero] at HP12))|((with_reducible refine gate_store (t:=27) (p:=21) rfl ?_);refine store_event (t:=27) (p:=21) (v:=?vo_w13) (w1:=(w11.setCell ⟨go10,(x4_1:Int).toNat,none⟩ (v610))) ?hg ?ho ?hn ?hr ?_;(case ho=>rfl);(case hg=>rfl);(case hn=>rfl);(case hr=>first|(go_simp;done)|(go_simp;rfl)|(obtain ⟨Aq_,cq_,eq_⟩:=Kd.R_slice HO611.out;subst eq_;go_simp;done)|(obtain ⟨Aq_,cq_,eq_⟩:=Kd.R_slice HO611.out;subst eq_;go_simp;rfl));intro w13 hw;have hg:w11.grownBy w13 (some go10):=(by rw [hw];exact HP12.2);have hp_:Kd.S (Kd.slice 48 k48) 27 w13 w.heap.size (fun _=>True) (.slice (some ⟨go10,0,none⟩) x3_1.length co10) y612:=(by rw [hw,Ny612.out];exact HP12.1);clear HP12;have n0_:=zM (hp_);have n1_:=zM ((by rw [hw];exact below_set (HB.out) GB10.out:Below w.heap.size w w13));clear HO_3;clear HB;clear HO611;have HO_3:=n0_;have HB:=n1_;clear n0_ n1_;clear hg hw hp_))
        go_roundg k1
        case measure=>have:=HK1.out;omega
        case rel=>exact ⟨(y612),(wrap64 (x4_1 + 1)),(by first|rfl|(simp;done)|(simp [*];done)),H',⟨by have:=HK1.out;omega⟩,⟨by (with_reducible repeat (first|apply Kd.S_alloc|apply Kd.S_drewN|apply Kd.S_drew));exact HO_3.out⟩,⟨by repeat (first|(with_reducible first|exact HB.out|apply zD|apply zE|apply zF)|exact HB.out)⟩⟩
       ·rw [if_neg c9] at H
        exact absurd H (by simp)
      ·rw [if_neg c7] at H
       exact absurd H (by simp)
     ·rw [if_neg c6] at H
      have c6b0:decide (x4_1 < (l0.length:Int)) = false:=decide_eq_false c6
      clear c6;obtain rfl:=Option.some.inj H;go_wp2
      go_ret
      exact ⟨_,by first|rfl|(simp [errW_none,errW_some] <;> rfl)|(simp [*,errW_none,errW_some] <;> rfl),by (with_reducible repeat (first|apply Kd.S_alloc|apply Kd.S_drewN|apply Kd.S_drew));exact HO_3.out,by repeat (first|(with_reducible first|exact HB.out|apply zD|apply zE|apply zF)|exact HB.out)⟩
  ·rw [if_neg c3] at H
   exact absurd H (by simp)
 ·rw [if_neg c2] at H
  exact absurd H (by simp)



/-! ### laws_eqCellSS: function 42 -/
def laws_eqCellSS.l0:Nat → List (List (S48)) → List (List (S48)) → Int → Option (Bool)
 | 0,_,_,_=>none
 | k + 1,x0,x1,x5=>if x5 < (x0.length:Int) then (if 0 ≤ x5 then (if x5 < (x1.length:Int) then ((laws_eqCellS.f k (rd_L6 x0 x5) (rd_L6 x1 x5)).bind fun t620=>(if t620 = true then (laws_eqCellSS.l0 k x0 x1 (wrap64 (x5 + 1))) else (some false))) else (none)) else (none)) else (some true)
def laws_eqCellSS.f (k:Nat) (l0:List (List (S48))) (l1:List (List (S48))):Option (Bool):=if (l0.length:Int) = (l1.length:Int) then (laws_eqCellSS.l0 k l0 l1 0) else (some false)
def laws_eqCellSS.T6:Bool × List (List Nat × List Nat):=(true,[([],[]),([],[]),([0,1],[0,1]),([2],[2]),([],[]),([],[]),([4,5],[4,5]),([6],[6]),([3,7],[3,7]),([8],[8])])
def laws_eqCellSS.B6:List Nat:=[0,0,3,7,0,0,48,112,255,511]
theorem laws_eqCellSS.tab6:rtab .any (opsOf Try.f42 6) = laws_eqCellSS.T6:=by kernel_rfl
theorem laws_eqCellSS.bits6:waitsOk laws_eqCellSS.T6.2 laws_eqCellSS.B6 = true:=by kernel_rfl
set_option maxHeartbeats 8000000 in
set_option maxRecDepth 100000 in
theorem laws_eqCellSS.calls (k:Nat) (A0:Option Addr) (c0:Nat) (l0:List (List (S48))) (A1:Option Addr) (c1:Nat) (l1:List (List (S48))) (r:Bool) (w:World) (hr0:Kd.C (Kd.slice 48 k48) w A0 l0.length l0) (hc0:l0.length ≤ c0) (hr1:Kd.C (Kd.slice 48 k48) w A1 l1.length l1) (hc1:l1.length ≤ c1) (h:laws_eqCellSS.f k l0 l1 = some r) :
  Calls Try.prog 42 #[.slice A0 l0.length c0,.slice A1 l1.length c1] w fun e w'=>e = .returned (.bool r) ∧ Below w.heap.size w w':=by
 have HR0:=zM hr0;have HC0:=zM hc0;clear hr0 hc0;have HR1:=zM hr1;have HC1:=zM hc1;clear hr1 hc1;have HB:=zM (Below.refl w.heap.size w);have H:(if (l0.length:Int) = (l1.length:Int) then (laws_eqCellSS.l0 k l0 l1 0) else (some false)) = some r:=h
 clear h;by_cases c3:(l0.length:Int) = (l1.length:Int)
 ·rw [if_pos c3] at H
  have c3b0:((l0.length:Int) == (l1.length:Int)) = true:=beq_iff_eq.mpr c3
  have c3b1:((l0.length:Int) != (l1.length:Int)) = false:=bne_eq_false_iff_eq.mpr c3
  have c3b2:(l0.length == l1.length) = true:=by first|simpa using c3|(simp at c3 ⊢;omega)
  clear c3;have H':=zM H;clear H;go_enter Try.func42,Try.ntmps42
  go_wp2
  go_loopg [5] k (fun kq v5 w' => ∃ (x5_1:Int),v5 = .int .i64 x5_1 ∧ Aside0 (laws_eqCellSS.l0 kq l0 l1 x5_1 = some r) ∧ Aside0 (kq ≤ k) ∧ Aside0 (Below w.heap.size w w'))
  case atStart=>exact ⟨(0),(by first|rfl|(simp;done)|(simp [*];done)),H',⟨Nat.le_refl _⟩,⟨by repeat (first|(with_reducible first|exact HB.out|apply zD|apply zE|apply zF)|exact HB.out)⟩⟩
  case round =>
   clear H';(try clear c1);(try clear p2);(try clear c3);(try clear c3b0);(try clear c3b1);(try clear c3b2);obtain ⟨x5_1,rfl,HA,HK1,HB⟩:=hrel;cases gk with
   | zero=>exact absurd HA.out (by simp [laws_eqCellSS.l0])
   | succ k1 =>
    have H:=HA.out;clear HA;simp only [laws_eqCellSS.l0] at H
    by_cases c4:x5_1 < (l0.length:Int)
    ·rw [if_pos c4] at H
     have c4b0:decide (x5_1 < (l0.length:Int)) = true:=decide_eq_true c4
     clear c4;by_cases c5:0 ≤ x5_1
     ·rw [if_pos c5] at H
      have c5b0:decide (0 ≤ x5_1) = true:=decide_eq_true c5
      clear c5;by_cases c6:x5_1 < (l1.length:Int)
      ·rw [if_pos c6] at H
       have c6b0:decide (x5_1 < (l1.length:Int)) = true:=decide_eq_true c6
       clear c6;replace H:=Option.bind_eq_some_iff.mp H;obtain ⟨t620,A70,H⟩:=H;replace H:(if t620 = true then (laws_eqCellSS.l0 k1 l0 l1 (wrap64 (x5_1 + 1))) else (some false)) = some r:=H
       have A7:=zM A70;clear A70;by_cases c8:t620 = true
       ·subst c8
        have H1:(laws_eqCellSS.l0 k1 l0 l1 (wrap64 (x5_1 + 1))) = some r:=by rw [if_pos rfl] at H;exact H
        clear H;have H:=H1;clear H1;have H':=zM H;clear H;try go_wp2
        have n0_:=zM (zF HB.out);clear HB;have HB:=n0_;clear n0_;have p618:0 ≤ (x5_1:Int):=of_decide_eq_true (by first|(with_reducible assumption)|assumption)
        have q618:x5_1 < (l0.length:Int):=of_decide_eq_true (by first|(with_reducible assumption)|assumption)
        obtain ⟨ad618,A618_0,c618_0,e618,hx618_0,hl618_0,hi618_0⟩:=at_L6 HR0.out x5_1 p618 q618;have hw618_0:=hx618_0;cases e618
        replace hx618_0:=zS HB.out hx618_0;have HR618_0:=zM hi618_0;have HC618_0:=zM hl618_0;clear hi618_0 hl618_0;replace p618:=eq_true p618;replace q618:=eq_true q618;have p619:0 ≤ (x5_1:Int):=of_decide_eq_true (by first|(with_reducible assumption)|assumption)
        have q619:x5_1 < (l1.length:Int):=of_decide_eq_true (by first|(with_reducible assumption)|assumption)
        obtain ⟨ad619,A619_0,c619_0,e619,hx619_0,hl619_0,hi619_0⟩:=at_L6 HR1.out x5_1 p619 q619;have hw619_0:=hx619_0;cases e619
        replace hx619_0:=zS HB.out hx619_0;have HR619_0:=zM hi619_0;have HC619_0:=zM hl619_0;clear hi619_0 hl619_0;replace p619:=eq_true p619;replace q619:=eq_true q619;refine start_ (n:=10) (S:=fun w'=>w'.cell? (ad618.add (x5_1).toNat) = some (.slice A618_0 (rd_L6 l0 x5_1).length c618_0) ∧ w'.cell? (ad619.add (x5_1).toNat) = some (.slice A619_0 (rd_L6 l1 x5_1).length c619_0)) (ds:=[]) #[false,false,false,false,false,false,false,false,false,false] (by kernel_rfl) rfl rfl ⟨(zS HB.out hw618_0 :),(zS HB.out hw619_0 :)⟩ (fun hHeld=>?_);refine with_tabW laws_eqCellSS.tab6 laws_eqCellSS.bits6 (fun HT_ HW_=>?_)
        generalize wr.drew = w9 at HB HR618_0 HR619_0 hx618_0 hx619_0 hHeld ⊢
        refine zzp 0 17 (zzb 10 1) ?_ (hc:=zzx HT_);refine zzp 1 18 (zzb 10 3) ?_ (hc:=zzx HT_);refine zzp 2 19 (zzb 10 7) ?_ (hc:=zzx HT_);refine zzp 4 21 (zzb 10 23) ?_ (hc:=zzx HT_);refine zzp 5 22 (zzb 10 55) ?_ (hc:=zzx HT_);refine zzp 6 23 (zzb 10 119) ?_ (hc:=zzx HT_)
        refine zzt 3 20 (zzb 10 127) hHeld ?_ (hc:=zzy HT_ HW_) (hy:=by rintro w' ⟨s0,s1⟩;go_simp;with_reducible rfl)
        refine zzt 7 24 (zzb 10 255) hHeld ?_ (hc:=zzy HT_ HW_) (hy:=by rintro w' ⟨s0,s1⟩;go_simp;with_reducible rfl)
        refine one_ (i:=8) (N:=some 25) #[true,true,true,true,true,true,true,true,true,false] rfl rfl (one_of HT_.out (by kernel_rfl)) (by decide) (fun K hK=>?_)
        refine goes_ Try.func22 (by kernel_rfl) rfl #[.slice A618_0 (rd_L6 l0 x5_1).length c618_0,.slice A619_0 (rd_L6 l1 x5_1).length c619_0] (by rfl) rfl rfl (by (try simp only [List.map_toArray,List.map_cons,List.map_nil]);first|done|rfl|(simp only [List.length_drop,List.length_take];rfl)) ?_
        with_reducible refine (laws_eqCellS.calls k1 _ _ (rd_L6 l0 x5_1) _ _ (rd_L6 l1 x5_1) true _ ?side1 ?side2 ?side3 ?side4 A7.out).mono ?_
        (case side1=>repeat (first|exact (zO HR618_0.out HB.out)|(with_reducible first|refine zG ?_ _|refine zH ?_ _|refine zI ?_)))
        (case side2=>exact HC618_0.out)
        (case side3=>repeat (first|exact (zO HR619_0.out HB.out)|(with_reducible first|refine zG ?_ _|refine zH ?_ _|refine zI ?_)))
        (case side4=>exact HC619_0.out)
        rintro e w10 ⟨rfl,hb⟩
        refine ⟨_,rfl,?_⟩
        have n0_:=zM (zQ (by repeat (first|(with_reducible first|exact HB.out|apply zD|apply zE|apply zF)|exact HB.out)) hb)
        clear HB;have HB:=n0_;clear n0_;(try clear hb)
        (try clear hb2)
        (try clear hk)
        (try clear hi)
        refine hK.out _ _ ⟨(zS HB.out hw618_0 :),(zS HB.out hw619_0 :)⟩ (fun hHeld=>?_)
        clear hK K;refine zzn 25 ?_;refine zzp 9 26 (zzb 10 1023) ?_ (hc:=zzx HT_)
        refine done_ (done_of HT_.out (by kernel_rfl)) ?_
        try go_wp2
        go_roundg k1
        case measure=>have:=HK1.out;omega
        case rel=>exact ⟨(wrap64 (x5_1 + 1)),(by first|rfl|(simp;done)|(simp [*];done)),H',⟨by have:=HK1.out;omega⟩,⟨by repeat (first|(with_reducible first|exact HB.out|apply zD|apply zE|apply zF)|exact HB.out)⟩⟩
       ·replace c8:=Bool.eq_false_iff.mpr c8
        subst c8;have H1:(some false) = some r:=by rw [if_neg (show ¬ (false = true) by decide)] at H;exact H
        clear H;have H:=H1;clear H1;obtain rfl:=Option.some.inj H;try go_wp2
        have n0_:=zM (zF HB.out);clear HB;have HB:=n0_;clear n0_;have p618:0 ≤ (x5_1:Int):=of_decide_eq_true (by first|(with_reducible assumption)|assumption)
        have q618:x5_1 < (l0.length:Int):=of_decide_eq_true (by first|(with_reducible assumption)|assumption)
        obtain ⟨ad618,A618_0,c618_0,e618,hx618_0,hl618_0,hi618_0⟩:=at_L6 HR0.out x5_1 p618 q618;have hw618_0:=hx618_0;cases e618
        replace hx618_0:=zS HB.out hx618_0;have HR618_0:=zM hi618_0;have HC618_0:=zM hl618_0;clear hi618_0 hl618_0;replace p618:=eq_true p618;replace q618:=eq_true q618;have p619:0 ≤ (x5_1:Int):=of_decide_eq_true (by first|(with_reducible assumption)|assumption)
        have q619:x5_1 < (l1.length:Int):=of_decide_eq_true (by first|(with_reducible assumption)|assumption)
        obtain ⟨ad619,A619_0,c619_0,e619,hx619_0,hl619_0,hi619_0⟩:=at_L6 HR1.out x5_1 p619 q619;have hw619_0:=hx619_0;cases e619
        replace hx619_0:=zS HB.out hx619_0;have HR619_0:=zM hi619_0;have HC619_0:=zM hl619_0;clear hi619_0 hl619_0;replace p619:=eq_true p619;replace q619:=eq_true q619;refine start_ (n:=10) (S:=fun w'=>w'.cell? (ad618.add (x5_1).toNat) = some (.slice A618_0 (rd_L6 l0 x5_1).length c618_0) ∧ w'.cell? (ad619.add (x5_1).toNat) = some (.slice A619_0 (rd_L6 l1 x5_1).length c619_0)) (ds:=[]) #[false,false,false,false,false,false,false,false,false,false] (by kernel_rfl) rfl rfl ⟨(zS HB.out hw618_0 :),(zS HB.out hw619_0 :)⟩ (fun hHeld=>?_);refine with_tabW laws_eqCellSS.tab6 laws_eqCellSS.bits6 (fun HT_ HW_=>?_)
        generalize wr.drew = w11 at HB HR618_0 HR619_0 hx618_0 hx619_0 hHeld ⊢
        refine zzp 0 17 (zzb 10 1) ?_ (hc:=zzx HT_);refine zzp 1 18 (zzb 10 3) ?_ (hc:=zzx HT_);refine zzp 2 19 (zzb 10 7) ?_ (hc:=zzx HT_);refine zzp 4 21 (zzb 10 23) ?_ (hc:=zzx HT_);refine zzp 5 22 (zzb 10 55) ?_ (hc:=zzx HT_);refine zzp 6 23 (zzb 10 119) ?_ (hc:=zzx HT_)
        refine zzt 3 20 (zzb 10 127) hHeld ?_ (hc:=zzy HT_ HW_) (hy:=by rintro w' ⟨s0,s1⟩;go_simp;with_reducible rfl)
        refine zzt 7 24 (zzb 10 255) hHeld ?_ (hc:=zzy HT_ HW_) (hy:=by rintro w' ⟨s0,s1⟩;go_simp;with_reducible rfl)
        refine one_ (i:=8) (N:=some 25) #[true,true,true,true,true,true,true,true,true,false] rfl rfl (one_of HT_.out (by kernel_rfl)) (by decide) (fun K hK=>?_)
        refine goes_ Try.func22 (by kernel_rfl) rfl #[.slice A618_0 (rd_L6 l0 x5_1).length c618_0,.slice A619_0 (rd_L6 l1 x5_1).length c619_0] (by rfl) rfl rfl (by (try simp only [List.map_toArray,List.map_cons,List.map_nil]);first|done|rfl|(simp only [List.length_drop,List.length_take];rfl)) ?_
        with_reducible refine (laws_eqCellS.calls k1 _ _ (rd_L6 l0 x5_1) _ _ (rd_L6 l1 x5_1) false _ ?side1 ?side2 ?side3 ?side4 A7.out).mono ?_
        (case side1=>repeat (first|exact (zO HR618_0.out HB.out)|(with_reducible first|refine zG ?_ _|refine zH ?_ _|refine zI ?_)))
        (case side2=>exact HC618_0.out)
        (case side3=>repeat (first|exact (zO HR619_0.out HB.out)|(with_reducible first|refine zG ?_ _|refine zH ?_ _|refine zI ?_)))
        (case side4=>exact HC619_0.out)
        rintro e w12 ⟨rfl,hb⟩
        refine ⟨_,rfl,?_⟩
        have n0_:=zM (zQ (by repeat (first|(with_reducible first|exact HB.out|apply zD|apply zE|apply zF)|exact HB.out)) hb)
        clear HB;have HB:=n0_;clear n0_;(try clear hb)
        (try clear hb2)
        (try clear hk)
        (try clear hi)
        refine hK.out _ _ ⟨(zS HB.out hw618_0 :),(zS HB.out hw619_0 :)⟩ (fun hHeld=>?_)
        clear hK K;refine zzn 25 ?_;refine zzp 9 26 (zzb 10 1023) ?_ (hc:=zzx HT_)
        refine done_ (done_of HT_.out (by kernel_rfl)) ?_
        try go_wp2
        go_ret
        exact ⟨by first|rfl|(simp [errW_none,errW_some] <;> rfl)|(simp [*,errW_none,errW_some] <;> rfl),by repeat (first|(with_reducible first|exact HB.out|apply zD|apply zE|apply zF)|exact HB.out)⟩
      ·rw [if_neg c6] at H
       exact absurd H (by simp)
     ·rw [if_neg c5] at H
      exact absurd H (by simp)
    ·rw [if_neg c4] at H
     have c4b0:decide (x5_1 < (l0.length:Int)) = false:=decide_eq_false c4
     clear c4;obtain rfl:=Option.some.inj H;go_wp2
     go_ret
     exact ⟨by first|rfl|(simp [errW_none,errW_some] <;> rfl)|(simp [*,errW_none,errW_some] <;> rfl),by repeat (first|(with_reducible first|exact HB.out|apply zD|apply zE|apply zF)|exact HB.out)⟩
 ·rw [if_neg c3] at H
  have c3b0:((l0.length:Int) == (l1.length:Int)) = false:=beq_eq_false_iff_ne.mpr c3
  have c3b1:((l0.length:Int) != (l1.length:Int)) = true:=bne_iff_ne.mpr c3
  have c3b2:(l0.length == l1.length) = false:=by first|simpa using c3|(simp at c3 ⊢;omega)
  obtain rfl:=Option.some.inj H;go_enter Try.func42,Try.ntmps42
  go_wp2
  go_ret
  exact ⟨by first|rfl|(simp [errW_none,errW_some] <;> rfl)|(simp [*,errW_none,errW_some] <;> rfl),by repeat (first|(with_reducible first|exact HB.out|apply zD|apply zE|apply zF)|exact HB.out)⟩

end Go.Proofs.Ytbpccdbkaiigcaa.G

/- The laws' helpers over lists of lists of cells. -/
namespace Go.Proofs.Ytbpccdbkaiigcaa.G
open Go.RowKit Go.Proofs.YtbpccdbkaiigcaaW.PrintWords Go.Proofs.YtbpccdbkaiigcaaW.PrintLast
set_option linter.unusedVariables false
set_option linter.unusedSimpArgs false
theorem rd3_mem (xs : List (List S44)) (i : Int) (h0 : 0 ≤ i) (h1 : i < (xs.length : Int)) : rd_L3 xs i ∈ xs:=by
 unfold rd_L3
 rw [List.getD_eq_getElem?_getD,List.getElem?_eq_getElem (show i.toNat < xs.length by omega)]
 exact List.getElem_mem _
/-- All lists are small. -/
def SmallR (xs : List (List S44)) : Prop:=(xs.length : Int) ≤ 1048576 ∧ All (fun i=>((rd_L3 xs i).length : Int) ≤ 1048576) 0 (xs.length : Int)
def SmallC (xs : List (List S48)) : Prop:=(xs.length : Int) ≤ 1048576 ∧ All (fun i=>((rd_L6 xs i).length : Int) ≤ 1048576) 0 (xs.length : Int)
theorem sz_CSS (xs : List (List S44)) (h : xs.length ≤ maxLen) (hr : ∀ y ∈ xs,y.length ≤ maxLen) (b : Int) (b0 : 0 ≤ b) (b1 : b ≤ 1048576) : ∃ v,Ev (fun k=>laws_szCellSS.f k xs b) v ∧ (0 ≤ v → SmallR xs ∧ v ≤ 1048576):=by
 unfold maxLen at h
 unfold laws_szCellSS.f
 rw [wrap64_id (by omega) (by omega)]
 by_cases h0 : b - (xs.length : Int) < 0
 ·refine ⟨-1,?_,fun h=>by omega⟩
  simp only [if_pos h0];exact Ev.now _
 ·simp only [if_neg h0]
  have main : ∀ (d : Nat) (i a : Int),0 ≤ i → i + d = (xs.length : Int) → 0 ≤ a → a ≤ 1048576 → All (fun i=>((rd_L3 xs i).length : Int) ≤ 1048576) 0 i → ∃ v,Ev (fun k=>laws_szCellSS.l0 k xs a i) v ∧ (0 ≤ v → SmallR xs ∧ v ≤ 1048576):=by
   intro d
   induction d with
   | zero =>
    intro i a i0 hd a0 a1 hs
    refine ⟨a,?_,fun _=>⟨⟨by omega,by rwa [show i = (xs.length : Int) from by omega] at hs⟩,a1⟩⟩
    refine Ev.step (fun k=>by rw [laws_szCellSS.l0]) ?_
    simp (disch:=omega) only [if_neg]
    exact Ev.now _
   | succ d ih =>
    intro i a i0 hd a0 a1 hs
    have hm:=hr _ (rd3_mem xs i i0 (by omega))
    have e:=szc (rd_L3 xs i) hm a a0 a1
    by_cases hc : a - ((rd_L3 xs i).length : Int) < 0
    ·refine ⟨-1,?_,fun h=>by omega⟩
     refine Ev.step (fun k=>by rw [laws_szCellSS.l0]) ?_
     simp (disch:=omega) only [if_pos,e,Option.bind_some]
     exact Ev.now _
    ·obtain ⟨v,hv,hs'⟩:=ih (i + 1) (a - ((rd_L3 xs i).length : Int)) (by omega) (by omega) (by omega) (by omega) (fun j h1 h2=>by
      by_cases e2 : j = i
      ·rw [e2];show ((rd_L3 xs i).length : Int) ≤ 1048576;omega
      ·exact hs j h1 (by omega))
     refine ⟨v,?_,hs'⟩
     refine Ev.step (fun k=>by rw [laws_szCellSS.l0]) ?_
     simp (disch:=omega) only [if_pos,if_neg,e,Option.bind_some,wrap64_id]
     exact hv
  exact main xs.length 0 _ (by omega) (by omega) (by omega) (by omega) (fun j h1 h2=>by omega)
theorem to_CSS (xs : List (List S44)) (h : SmallR xs) : Ev (fun k=>laws_toCellSS.f k xs) (xs.map (fun r=>r.map cv_C)):=by
 have hl:=h.1
 unfold laws_toCellSS.f
 simp (disch:=omega) only [if_pos]
 simp only [Int.toNat_natCast]
 exact Ev.fill (fun k out i=>laws_toCellSS.l0 k xs out i) xs (fun r=>r.map cv_C) ([] : List S44) ([] : List S48) (by
  intro out
  refine Ev.step (fun k=>by rw [laws_toCellSS.l0]) ?_
  simp only [Int.lt_irrefl,if_false]
  exact Ev.now _) (by
  intro out i hl h0 hlt r hr
  refine Ev.step (fun k=>by rw [laws_toCellSS.l0]) ?_
  simp (disch:=omega) only [wrap64_id,if_pos,hl]
  refine Ev.bind (to_C _ (h.2 i h0 hlt)) ?_
  exact hr)
theorem rd6_map (xs : List (List S44)) (i : Int) (h0 : 0 ≤ i) (h1 : i < (xs.length : Int)) : rd_L6 (xs.map (fun r=>r.map cv_C)) i = (rd_L3 xs i).map cv_C:=by
 unfold rd_L6 rd_L3
 rw [List.getD_eq_getElem?_getD,List.getD_eq_getElem?_getD,List.getElem?_map,List.getElem?_eq_getElem (show i.toNat < xs.length by omega)]
 rfl
theorem SmallR.map {xs : List (List S44)} (h : SmallR xs) : SmallC (xs.map (fun r=>r.map cv_C)):=⟨by rw [List.length_map];exact h.1,fun i h0 h1=>by
 rw [List.length_map] at h1
 show ((rd_L6 _ i).length : Int) ≤ 1048576
 rw [rd6_map xs i h0 h1,List.length_map]
 exact h.2 i h0 h1⟩
theorem eq_CSS (xs : List (List S48)) (h : SmallC xs) : Ev (fun k=>laws_eqCellSS.f k xs xs) true:=by
 have hl:=h.1
 unfold laws_eqCellSS.f
 simp only [if_true]
 refine Ev.upc (fun k i=>laws_eqCellSS.l0 k xs xs i) true (xs.length : Int) 0 ?_ ?_ 0 (by omega) (by omega)
 ·refine Ev.step (fun k=>by rw [laws_eqCellSS.l0]) ?_
  simp only [Int.lt_irrefl,if_false]
  exact Ev.now _
 ·intro i h0 hlt hr
  refine Ev.step (fun k=>by rw [laws_eqCellSS.l0]) ?_
  simp (disch:=omega) only [wrap64_id,if_pos]
  refine Ev.bind (eq_C _ (h.2 i h0 hlt)) ?_
  simp only [if_true]
  exact hr
end Go.Proofs.Ytbpccdbkaiigcaa.G

-- Written by wip/tools/gen.py out of the translation (the kit's printer, one namespace a seat). Lean checks it.
namespace Go.Proofs.Ytbpccdbkaiigcaa.G
open Go.RowKit Go.Proofs.YtbpccdbkaiigcaaW.PrintWords Go.Proofs.YtbpccdbkaiigcaaW.PrintLast Go.Proofs.YtbpccdbkaiigcaaW.PrintMore
attribute [local go_sem] max2_int min2_int max_two min_two max_three min_three max_four min_four   -- for this text's walks alone
set_option linter.unusedVariables false
set_option linter.unusedSimpArgs false

/-! ### laws_markCellS: function 36 -/
def laws_markCellS.l0:Nat → List (S48) → Int → Int → Option (Int × (List (S48)))
 | 0,_,_,_=>none
 | k + 1,x0,x1,x5=>if x5 < (x0.length:Int) then (if 0 ≤ x5 then ((some (x0.set (x5:Int).toNat (⟨x1,(rd_T48 x0 x5).f1⟩ : S48):List (S48))).bind fun y460=>(laws_markCellS.l0 k (y460.set (x5:Int).toNat (⟨(rd_T48 y460 x5).f0,wrap64 (x1 + 1)⟩ : S48)) (wrap64 ((wrap64 (x1 + 1)) + 1)) (wrap64 (x5 + 1)))) else (none)) else (some (x1,x0))
def laws_markCellS.f (k:Nat) (l0:List (S48)) (a1:Int):Option (Int × (List (S48))):=laws_markCellS.l0 k l0 a1 0
theorem laws_markCellS.mono_l:∀ k,(∀ y0 y1 y2,LeO (laws_markCellS.l0 k y0 y1 y2) (laws_markCellS.l0 (k + 1) y0 y1 y2))
 | 0=>fun _ _ _ r h=>by simp [laws_markCellS.l0] at h
 | k + 1=>by
  have ih0:=laws_markCellS.mono_l k
  ·intro y0 y1 y2
   unfold laws_markCellS.l0
   repeat' first
   | (with_reducible exact ih0 _ _ _)
   | (with_reducible exact LeO.refl _)
   | (with_reducible exact LeO.none _)
   | (with_reducible refine LeO.ite ?_ ?_)
   | (with_reducible refine LeO.bind ?_ (fun _=>?_))
   | exact ih0 _ _ _
   | exact LeO.none _
   | refine LeO.ite ?_ ?_
   | refine LeO.bind ?_ (fun _=>?_)
theorem laws_markCellS.mono:∀ a0 a1 k,LeO (laws_markCellS.f k a0 a1) (laws_markCellS.f (k + 1) a0 a1):=by
 intro a0 a1 k;have ih0:=laws_markCellS.mono_l k;unfold laws_markCellS.f
 repeat' first
   | (with_reducible exact ih0 _ _ _)
   | (with_reducible exact LeO.refl _)
   | (with_reducible exact LeO.none _)
   | (with_reducible refine LeO.ite ?_ ?_)
   | (with_reducible refine LeO.bind ?_ (fun _=>?_))
   | exact ih0 _ _ _
   | exact LeO.none _
   | refine LeO.ite ?_ ?_
   | refine LeO.bind ?_ (fun _=>?_)
set_option maxHeartbeats 8000000 in
set_option maxRecDepth 100000 in
theorem laws_markCellS.calls (k:Nat) (P0_:Nat → Prop) (u9000_:Value) (l0:List (S48)) (a1:Int) (r1:Int) (r2:List (S48)) (w0 w:World) (hB:Below w0.heap.size w0 w) (ho0:Kd.R k48 48 w w0.heap.size P0_ u9000_ l0) (h:laws_markCellS.f k l0 a1 = some (r1,r2)) :
  Calls Try.prog 36 #[u9000_,.int .i64 a1] w fun e w'=>e = .returned (.int .i64 r1) ∧ Kd.R k48 48 w' w0.heap.size (fun k_=>(P0_ k_ ∨ w.heap.size ≤ k_)) u9000_ r2 ∧ Below w0.heap.size w0 w' ∧ Kept w w' (fun k_=>P0_ k_):=by
 have HO0:=zM (show Kd.R k48 48 w w0.heap.size (fun k_=>(P0_ k_ ∨ w.heap.size ≤ k_)) u9000_ l0 from Kd.R_mono ho0 (fun k_ hk=>(.inl hk)))
 have HK:=zM (Kept.refl w (fun k_=>P0_ k_))
 have HW0:=zM hB.size;have HB:=zM hB;clear hB;have H:(laws_markCellS.l0 k l0 a1 0) = some (r1,r2):=h
 clear h;have H':=zM H;clear H;go_enter Try.func36,Try.ntmps36
 go_wp2
 go_loopg [1,5] k (fun kq v1 v5 w' => ∃ (x0_1:List (S48)) (x1_1:Int) (x5_1:Int),v1 = .int .i64 x1_1 ∧ v5 = .int .i64 x5_1 ∧ Aside0 (laws_markCellS.l0 kq x0_1 x1_1 x5_1 = some (r1,r2)) ∧ Aside0 (kq ≤ k) ∧ Aside0 (Kd.R k48 48 w' w0.heap.size (fun k_=>(P0_ k_ ∨ w.heap.size ≤ k_)) u9000_ x0_1) ∧ Aside0 (Kept w w' (fun k_=>P0_ k_)) ∧ Aside0 (Below w0.heap.size w0 w'))
 case atStart=>exact ⟨(l0),(a1),(0),(by first|rfl|(simp;done)|(simp [*];done)),(by first|rfl|(simp;done)|(simp [*];done)),H',⟨Nat.le_refl _⟩,⟨by (with_reducible repeat (first|apply zA|apply zB|apply zC));exact HO0.out⟩,⟨by repeat (first|(with_reducible first|exact HK.out|apply Kept.alloc|apply Kept.drewN|apply Kept.drew)|exact HK.out)⟩,⟨by repeat (first|(with_reducible first|exact HB.out|apply zD|apply zE|apply zF)|exact HB.out)⟩⟩
 case round =>
  clear H';(try clear p2);obtain ⟨x0_1,x1_1,x5_1,rfl,rfl,HA,HK1,HO_0,HK,HB⟩:=hrel;cases gk with
  | zero=>exact absurd HA.out (by simp [laws_markCellS.l0])
  | succ k1 =>
   have H:=HA.out;clear HA;simp only [laws_markCellS.l0] at H
   by_cases c3:x5_1 < (x0_1.length:Int)
   ·rw [if_pos c3] at H
    have c3b0:decide (x5_1 < (x0_1.length:Int)) = true:=decide_eq_true c3
    clear c3;by_cases c4:0 ≤ x5_1
    ·rw [if_pos c4] at H
     have c4b0:decide (0 ≤ x5_1) = true:=decide_eq_true c4
     clear c4;obtain ⟨y460,hy460⟩ : ∃ y_:List (S48),y_ = (x0_1.set (x5_1:Int).toNat (⟨x1_1,(rd_T48 x0_1 x5_1).f1⟩ : S48)):=⟨_,rfl⟩
     replace H:(laws_markCellS.l0 k1 (y460.set (x5_1:Int).toNat (⟨(rd_T48 y460 x5_1).f0,wrap64 (x1_1 + 1)⟩ : S48)) (wrap64 ((wrap64 (x1_1 + 1)) + 1)) (wrap64 (x5_1 + 1))) = some (r1,r2):=by first|(rw [hy460];with_reducible exact H)|(have H2_:=(Option.bind_some _ _).symm.trans H;rw [hy460];with_reducible exact H2_)|(have H2_:=(Option.bind_some _ _).symm.trans H;with_reducible exact H2_)|with_reducible exact H|(rw [hy460];exact H)|exact H
     have Ny460:=zM hy460;clear hy460;obtain ⟨y461,hy461⟩ : ∃ y_:List (S48),y_ = (y460.set (x5_1:Int).toNat (⟨(rd_T48 y460 x5_1).f0,wrap64 (x1_1 + 1)⟩ : S48)):=⟨_,rfl⟩
     replace H:(laws_markCellS.l0 k1 y461 (wrap64 ((wrap64 (x1_1 + 1)) + 1)) (wrap64 (x5_1 + 1))) = some (r1,r2):=by first|(rw [hy461];with_reducible exact H)|(have H2_:=(Option.bind_some _ _).symm.trans H;rw [hy461];with_reducible exact H2_)|(have H2_:=(Option.bind_some _ _).symm.trans H;with_reducible exact H2_)|with_reducible exact H|(rw [hy461];exact H)|exact H
     have Ny461:=zM hy461;clear hy461;have H':=zM H;clear H;obtain ⟨Ao7,co7,eo7⟩:=Kd.R_slice HO_0.out;subst eo7;have p5:0 ≤ (x5_1:Int):=of_decide_eq_true (by first|(with_reducible assumption)|assumption)
     have q5:(x5_1:Int) < ((x0_1.length:Int):Int):=of_decide_eq_true (by first|(with_reducible assumption)|assumption)
     obtain ⟨go5,co5,eo5,gb5,gl5,cl5,HG5⟩:=Kd.R_form HO_0.out (by omega)
     (first|cases eo5|(injection eo5 with ea_ en_ ec_;(first|subst ea_|(injection ea_ with ea_;subst ea_));subst ec_;clear en_))
     have GB5:=zM gb5;have GG5:=zM HG5;clear gb5 gl5 HG5;have HMgo5:=zM (show (P0_ go5 ∨ w.heap.size ≤ go5) from (HO_0.out.1 _ rfl))
     obtain ⟨ce5,hcl5,hM5,hcc5,hfr5⟩:=Kd.R_elem HO_0.out z48 (x5_1:Int) p5 q5;obtain rfl:=k48_openM hM5;have hx5_0:wr.cell? ⟨go5,(x5_1:Int).toNat * 2,none⟩ = some (.int .i64 ((rd_T48 x0_1 x5_1).f0)):=hcc5 0 _ rfl
     have hx5_1:wr.cell? ⟨go5,(x5_1:Int).toNat * 2 + 1,none⟩ = some (.int .i64 ((rd_T48 x0_1 x5_1).f1)):=hcc5 1 _ rfl
     have hf5_0:wr.frozen? ⟨go5,(x5_1:Int).toNat * 2,none⟩ = false:=hfr5 0
     have hf5_1:wr.frozen? ⟨go5,(x5_1:Int).toNat * 2 + 1,none⟩ = false:=hfr5 1
     clear hcl5 hcc5 hfr5;(try clear hM5)
     replace p5:=eq_true p5;replace q5:=eq_true q5;have HX8:=zM (show Kd.R k48 48 wr w0.heap.size (fun k_=>(P0_ k_ ∨ w.heap.size ≤ k_)) (.slice (some ⟨go5,0,none⟩) x0_1.length co7) x0_1 from (by (with_reducible repeat (first|apply zA|apply zB|apply zC));exact HO_0.out))
     obtain ⟨ce8,hcl8,hM8,hcc8,hfr8⟩:=Kd.R_elem HX8.out z48 (x5_1:Int) (of_decide_eq_true (by first|(with_reducible assumption)|assumption)) (by have h_:(x5_1:Int) < ((x0_1.length:Int):Int):=of_decide_eq_true (by first|(with_reducible assumption)|assumption);first|exact h_|(have e_:=(zN HO_0.out).1;omega)|simpa using h_)
     obtain rfl:=k48_openM hM8;have HP8:=Kd.R_seg HX8.out (x5_1:Int) (of_decide_eq_true (by first|(with_reducible assumption)|assumption)) (by have h_:(x5_1:Int) < ((x0_1.length:Int):Int):=of_decide_eq_true (by first|(with_reducible assumption)|assumption);first|exact h_|(have e_:=(zN HO_0.out).1;omega)|simpa using h_) (seg:=[.int .i64 x1_1]) (j:=0) hcl8 hcc8 (show 1 ≤ 2 from by decide) (x':=(⟨x1_1,(rd_T48 x0_1 x5_1).f1⟩ : S48)) (k48_mkM _ _ _ (⟨x1_1,(rd_T48 x0_1 x5_1).f1⟩ : S48) ) (fun _ hk=>hk)
     have hx8_0:=hcc8 0 _ rfl;(try simp only [show (k48).sz = 2 from rfl,Nat.mul_one,Nat.add_zero] at hx8_0)
     have hf8_0:=hfr8 0;(try simp only [show (k48).sz = 2 from rfl,Nat.mul_one,Nat.add_zero] at hf8_0)
     clear hcl8 hcc8 hfr8;(try clear hM8)
     go_wp2_with (first|((with_reducible refine gate_store (t:=3) (p:=16) rfl ?_);refine store_event (t:=3) (p:=16) (v:=?vo_w9) (w1:=(wr.setCell ⟨go5,(x5_1:Int).toNat * 2,none⟩ (.int .i64 x1_1))) ?hg ?ho ?hn ?hr ?_;(case ho=>rfl);(case hg=>rfl);(case hn=>rfl);(case hr=>first|(go_simp;done)|(go_simp;rfl));intro w9 hw;have hg:wr.grownBy w9 (some go5):=(by rw [hw];exact HP8.2);have hp_:Kd.R k48 48 w9 w0.heap.size (fun k_=>(P0_ k_ ∨ w.heap.size ≤ k_)) (.slice (some ⟨go5,0,none⟩) x0_1.length co7) y460:=(by rw [hw,Ny460.out];exact HP8.1);clear HP8;have n0_:=zM (hp_);have n1_:=zM ((by rw [hw];exact below_set (HB.out) GB5.out:Below w0.heap.size w0 w9));have n2_:=zM (Kept.of_grown (S:=(fun k_=>P0_ k_)) hg (by repeat (first|(with_reducible first|exact HK.out|apply Kept.alloc|apply Kept.drewN|apply Kept.drew)|exact HK.out)) (fun k_ e_=>(HO_0.out.1 k_ e_)));clear HO_0;clear HB;clear HK;have HO_0:=n0_;have HB:=n1_;have HK:=n2_;clear n0_ n1_ n2_;clear hg hw hp_;have p6:0 ≤ (x5_1:Int):=of_decide_eq_true (by first|(with_reducible assumption)|assumption);have q6:(x5_1:Int) < ((x0_1.length:Int):Int):=of_decide_eq_true (by first|(with_reducible assumption)|assumption);obtain ⟨ce6,hcl6,hM6,hcc6,hfr6⟩:=Kd.R_elem HO_0.out z48 (x5_1:Int) p6 q6;obtain rfl:=k48_openM hM6;have hx6_0:w9.cell? ⟨go5,(x5_1:Int).toNat * 2,none⟩ = some (.int .i64 ((rd_T48 y460 x5_1).f0)):=hcc6 0 _ rfl;have hx6_1:w9.cell? ⟨go5,(x5_1:Int).toNat * 2 + 1,none⟩ = some (.int .i64 ((rd_T48 y460 x5_1).f1)):=hcc6 1 _ rfl;have hf6_0:w9.frozen? ⟨go5,(x5_1:Int).toNat * 2,none⟩ = false:=hfr6 0;have hf6_1:w9.frozen? ⟨go5,(x5_1:Int).toNat * 2 + 1,none⟩ = false:=hfr6 1;clear hcl6 hcc6 hfr6;(try clear hM6);replace p6:=eq_true p6;replace q6:=eq_true q6;have HX10:=zM (show Kd.R k48 48 w9 w0.heap.size (fun k_=>(P0_ k_ ∨ w.heap.size ≤ k_)) (.slice (some ⟨go5,0,none⟩) x0_1.length co7) y460 from (by (with_reducible repeat (first|apply zA|apply zB|apply zC));exact HO_0.out));obtain ⟨ce10,hcl10,hM10,hcc10,hfr10⟩:=Kd.R_elem HX10.out z48 (x5_1:Int) (of_decide_eq_true (by first|(with_reducible assumption)|assumption)) (by have h_:(x5_1:Int) < ((x0_1.length:Int):Int):=of_decide_eq_true (by first|(with_reducible assumption)|assumption);first|exact h_|(have e_:=(zN HO_0.out).1;omega)|simpa using h_);obtain rfl:=k48_openM hM10;have HP10:=Kd.R_seg HX10.out (x5_1:Int) (of_decide_eq_true (by first|(with_reducible assumption)|assumption)) (by have h_:(x5_1:Int) < ((x0_1.length:Int):Int):=of_decide_eq_true (by first|(with_reducible assumption)|assumption);first|exact h_|(have e_:=(zN HO_0.out).1;omega)|simpa using h_) (seg:=[.int .i64 (wrap64 (x1_1 + 1))]) (j:=1) hcl10 hcc10 (show 2 ≤ 2 from by decide) (x':=(⟨(rd_T48 y460 x5_1).f0,wrap64 (x1_1 + 1)⟩ : S48)) (k48_mkM _ _ _ (⟨(rd_T48 y460 x5_1).f0,wrap64 (x1_1 + 1)⟩ : S48) ) (fun _ hk=>hk);have hx10_1:=hcc10 1 _ rfl;(try simp only [show (k48).sz = 2 from rfl,Nat.mul_one,Nat.add_zero] at hx10_1);have hf10_1:=hfr10 1;(try simp only [show (k48).sz = 2 from rfl,Nat.mul_one,Nat.add_zero] at hf10_1);clear hcl10 hcc10 hfr10;(try clear hM10))|((with_reducible refine gate_store (t:=3) (p:=23) rfl ?_);refine store_event (t:=3) (p:=23) (v:=?vo_w11) (w1:=(w9.setCell ⟨go5,(x5_1:Int).toNat * 2 + 1,none⟩ (.int .i64 (wrap64 (x1_1 + 1))))) ?hg ?ho ?hn ?hr ?_;(case ho=>rfl);(case hg=>rfl);(case hn=>rfl);(case hr=>first|(go_simp;done)|(go_simp;rfl));intro w11 hw;have hg:w9.grownBy w11 (some go5):=(by rw [hw];exact HP10.2);have hp_:Kd.R k48 48 w11 w0.heap.size (fun k_=>(P0_ k_ ∨ w.heap.size ≤ k_)) (.slice (some ⟨go5,0,none⟩) x0_1.length co7) y461:=(by rw [hw,Ny461.out];exact HP10.1);clear HP10;have n0_:=zM (hp_);have n1_:=zM ((by rw [hw];exact below_set (HB.out) GB5.out:Below w0.heap.size w0 w11));have n2_:=zM (Kept.of_grown (S:=(fun k_=>P0_ k_)) hg (by repeat (first|(with_reducible first|exact HK.out|apply Kept.alloc|apply Kept.drewN|apply Kept.drew)|exact HK.out)) (fun k_ e_=>(HO_0.out.1 k_ e_)));clear HO_0;clear HB;clear HK;have HO_0:=n0_;have HB:=n1_;have HK:=n2_;clear n0_ n1_ n2_;clear hg hw hp_))
     go_roundg k1
     case measure=>have:=HK1.out;omega
     case rel=>exact ⟨(y461),(wrap64 ((wrap64 (x1_1 + 1)) + 1)),(wrap64 (x5_1 + 1)),(by first|rfl|(simp;done)|(simp [*];done)),(by first|rfl|(simp;done)|(simp [*];done)),H',⟨by have:=HK1.out;omega⟩,⟨by (with_reducible repeat (first|apply zA|apply zB|apply zC));exact HO_0.out⟩,⟨by repeat (first|(with_reducible first|exact HK.out|apply Kept.alloc|apply Kept.drewN|apply Kept.drew)|exact HK.out)⟩,⟨by repeat (first|(with_reducible first|exact HB.out|apply zD|apply zE|apply zF)|exact HB.out)⟩⟩
    ·rw [if_neg c4] at H
     exact absurd H (by simp)
   ·rw [if_neg c3] at H
    have c3b0:decide (x5_1 < (x0_1.length:Int)) = false:=decide_eq_false c3
    clear c3;simp only [Option.some.injEq,Prod.mk.injEq] at H
    obtain ⟨rfl,rfl⟩:=H;obtain ⟨Ao12,co12,eo12⟩:=Kd.R_slice HO_0.out;subst eo12;go_wp2
    go_ret
    exact ⟨by first|rfl|(simp [errW_none,errW_some] <;> rfl)|(simp [*,errW_none,errW_some] <;> rfl),by (with_reducible repeat (first|apply zA|apply zB|apply zC));exact HO_0.out,by repeat (first|(with_reducible first|exact HB.out|apply zD|apply zE|apply zF)|exact HB.out),by repeat (first|(with_reducible first|exact HK.out|apply Kept.alloc|apply Kept.drewN|apply Kept.drew)|exact HK.out)⟩



/-! ### laws_heldCellS: function 37 -/
def laws_heldCellS.l0:Nat → List (S48) → Int → Int → Option (Int)
 | 0,_,_,_=>none
 | k + 1,x0,x1,x5=>if x5 < (x0.length:Int) then (if 0 ≤ x5 then (if ((rd_T48 x0 x5).f0) = x1 then (if ((rd_T48 x0 x5).f1) = (wrap64 (x1 + 1)) then (laws_heldCellS.l0 k x0 (wrap64 ((wrap64 (x1 + 1)) + 1)) (wrap64 (x5 + 1))) else (some (-1))) else (some (-1))) else (none)) else (some x1)
def laws_heldCellS.f (k:Nat) (l0:List (S48)) (a1:Int):Option (Int):=laws_heldCellS.l0 k l0 a1 0
set_option maxHeartbeats 8000000 in
set_option maxRecDepth 100000 in
theorem laws_heldCellS.calls (k:Nat) (A0:Option Addr) (c0:Nat) (l0:List (S48)) (a1:Int) (r:Int) (w:World) (hr0:Kd.C k48 w A0 l0.length l0) (hc0:l0.length ≤ c0) (h:laws_heldCellS.f k l0 a1 = some r) :
  Calls Try.prog 37 #[.slice A0 l0.length c0,.int .i64 a1] w fun e w'=>e = .returned (.int .i64 r) ∧ Drawn0 w w':=by
 have HR0:=zM hr0;have HC0:=zM hc0;clear hr0 hc0;have H:(laws_heldCellS.l0 k l0 a1 0) = some r:=h
 clear h;have H':=zM H;clear H;go_enter Try.func37,Try.ntmps37
 go_wp2
 go_loopg [1,5] k (fun kq v1 v5 w' => ∃ (x1_1:Int) (x5_1:Int),v1 = .int .i64 x1_1 ∧ v5 = .int .i64 x5_1 ∧ Aside0 (laws_heldCellS.l0 kq l0 x1_1 x5_1 = some r) ∧ Aside0 (kq ≤ k) ∧ Drawn0 w w')
 case atStart=>exact ⟨(a1),(0),(by first|rfl|(simp;done)|(simp [*];done)),(by first|rfl|(simp;done)|(simp [*];done)),H',⟨Nat.le_refl _⟩,by repeat (first|exact Drawn0.refl _|apply Drawn0.step)⟩
 case round =>
  clear H';(try clear p2);obtain ⟨x1_1,x5_1,rfl,rfl,HA,HK1,⟨m1,rfl⟩⟩:=hrel;cases gk with
  | zero=>exact absurd HA.out (by simp [laws_heldCellS.l0])
  | succ k1 =>
   have H:=HA.out;clear HA;simp only [laws_heldCellS.l0] at H
   by_cases c3:x5_1 < (l0.length:Int)
   ·rw [if_pos c3] at H
    have c3b0:decide (x5_1 < (l0.length:Int)) = true:=decide_eq_true c3
    clear c3;by_cases c4:0 ≤ x5_1
    ·rw [if_pos c4] at H
     have c4b0:decide (0 ≤ x5_1) = true:=decide_eq_true c4
     clear c4;by_cases c5:((rd_T48 l0 x5_1).f0) = x1_1
     ·rw [if_pos c5] at H
      have c5b0:(((rd_T48 l0 x5_1).f0) == x1_1) = true:=beq_iff_eq.mpr c5
      have c5b1:(((rd_T48 l0 x5_1).f0) != x1_1) = false:=bne_eq_false_iff_eq.mpr c5
      clear c5;by_cases c6:((rd_T48 l0 x5_1).f1) = (wrap64 (x1_1 + 1))
      ·rw [if_pos c6] at H
       have c6b0:(((rd_T48 l0 x5_1).f1) == (wrap64 (x1_1 + 1))) = true:=beq_iff_eq.mpr c6
       have c6b1:(((rd_T48 l0 x5_1).f1) != (wrap64 (x1_1 + 1))) = false:=bne_eq_false_iff_eq.mpr c6
       clear c6;have H':=zM H;clear H;have p526:0 ≤ (x5_1:Int):=of_decide_eq_true (by first|(with_reducible assumption)|assumption)
       have q526:x5_1 < (l0.length:Int):=of_decide_eq_true (by first|(with_reducible assumption)|assumption)
       obtain ⟨ad526,e526,hx526_0,hx526_1⟩:=at_T48 HR0.out x5_1 p526 q526;cases e526
       replace p526:=eq_true p526;replace q526:=eq_true q526;have p527:0 ≤ (x5_1:Int):=of_decide_eq_true (by first|(with_reducible assumption)|assumption)
       have q527:x5_1 < (l0.length:Int):=of_decide_eq_true (by first|(with_reducible assumption)|assumption)
       obtain ⟨ad527,e527,hx527_0,hx527_1⟩:=at_T48 HR0.out x5_1 p527 q527;obtain rfl:ad526 = ad527:=(by injection e527)
       replace p527:=eq_true p527;replace q527:=eq_true q527;go_wp2
       go_roundg k1
       case measure=>have:=HK1.out;omega
       case rel=>exact ⟨(wrap64 ((wrap64 (x1_1 + 1)) + 1)),(wrap64 (x5_1 + 1)),(by first|rfl|(simp;done)|(simp [*];done)),(by first|rfl|(simp;done)|(simp [*];done)),H',⟨by have:=HK1.out;omega⟩,by repeat (first|exact Drawn0.refl _|apply Drawn0.step)⟩
      ·rw [if_neg c6] at H
       have c6b0:(((rd_T48 l0 x5_1).f1) == (wrap64 (x1_1 + 1))) = false:=beq_eq_false_iff_ne.mpr c6
       have c6b1:(((rd_T48 l0 x5_1).f1) != (wrap64 (x1_1 + 1))) = true:=bne_iff_ne.mpr c6
       obtain rfl:=Option.some.inj H;have p526:0 ≤ (x5_1:Int):=of_decide_eq_true (by first|(with_reducible assumption)|assumption)
       have q526:x5_1 < (l0.length:Int):=of_decide_eq_true (by first|(with_reducible assumption)|assumption)
       obtain ⟨ad526,e526,hx526_0,hx526_1⟩:=at_T48 HR0.out x5_1 p526 q526;cases e526
       replace p526:=eq_true p526;replace q526:=eq_true q526;have p527:0 ≤ (x5_1:Int):=of_decide_eq_true (by first|(with_reducible assumption)|assumption)
       have q527:x5_1 < (l0.length:Int):=of_decide_eq_true (by first|(with_reducible assumption)|assumption)
       obtain ⟨ad527,e527,hx527_0,hx527_1⟩:=at_T48 HR0.out x5_1 p527 q527;obtain rfl:ad526 = ad527:=(by injection e527)
       replace p527:=eq_true p527;replace q527:=eq_true q527;go_wp2
       go_ret
       exact ⟨by first|rfl|(simp;done)|(simp [*];done),by repeat (first|exact Drawn0.refl _|apply Drawn0.step)⟩
     ·rw [if_neg c5] at H
      have c5b0:(((rd_T48 l0 x5_1).f0) == x1_1) = false:=beq_eq_false_iff_ne.mpr c5
      have c5b1:(((rd_T48 l0 x5_1).f0) != x1_1) = true:=bne_iff_ne.mpr c5
      obtain rfl:=Option.some.inj H;have p526:0 ≤ (x5_1:Int):=of_decide_eq_true (by first|(with_reducible assumption)|assumption)
      have q526:x5_1 < (l0.length:Int):=of_decide_eq_true (by first|(with_reducible assumption)|assumption)
      obtain ⟨ad526,e526,hx526_0,hx526_1⟩:=at_T48 HR0.out x5_1 p526 q526;cases e526
      replace p526:=eq_true p526;replace q526:=eq_true q526;go_wp2
      go_ret
      exact ⟨by first|rfl|(simp;done)|(simp [*];done),by repeat (first|exact Drawn0.refl _|apply Drawn0.step)⟩
    ·rw [if_neg c4] at H
     exact absurd H (by simp)
   ·rw [if_neg c3] at H
    have c3b0:decide (x5_1 < (l0.length:Int)) = false:=decide_eq_false c3
    clear c3;obtain rfl:=Option.some.inj H;go_wp2
    go_ret
    exact ⟨by first|rfl|(simp;done)|(simp [*];done),by repeat (first|exact Drawn0.refl _|apply Drawn0.step)⟩



/-! ### laws_markFloor: function 31 -/
def laws_markFloor.f (k:Nat) (a0_0:Int) (a0_1:Int) (l0_2:List (S48)) (a1:Int):Option (Int × (List (S48))):=(laws_markCellS.f k l0_2 a1).bind fun bt463=>(some (bt463.1,bt463.2))
set_option maxHeartbeats 8000000 in
set_option maxRecDepth 100000 in
theorem laws_markFloor.calls (k:Nat) (a0_0:Int) (a0_1:Int) (P0_2_:Nat → Prop) (u9000_:Value) (l0_2:List (S48)) (a1:Int) (r1:Int) (r2:List (S48)) (w0 w:World) (hB:Below w0.heap.size w0 w) (ho0_2:Kd.R k48 48 w w0.heap.size P0_2_ u9000_ l0_2) (h:laws_markFloor.f k a0_0 a0_1 l0_2 a1 = some (r1,r2)) :
  Calls Try.prog 31 #[.agg #[.int .i64 a0_0,.int .i64 a0_1,u9000_],.int .i64 a1] w fun e w'=>e = .returned (.int .i64 r1) ∧ Kd.R k48 48 w' w0.heap.size (fun k_=>(P0_2_ k_ ∨ w.heap.size ≤ k_)) u9000_ r2 ∧ Below w0.heap.size w0 w' ∧ Kept w w' (fun k_=>P0_2_ k_):=by
 have hu29:=Try.underlying29;have HO0_2:=zM (show Kd.R k48 48 w w0.heap.size (fun k_=>(P0_2_ k_ ∨ w.heap.size ≤ k_)) u9000_ l0_2 from Kd.R_mono ho0_2 (fun k_ hk=>(.inl hk)))
 have HK:=zM (Kept.refl w (fun k_=>P0_2_ k_))
 have HW0:=zM hB.size;have HB:=zM hB;clear hB;have H:((laws_markCellS.f k l0_2 a1).bind fun bt463=>(some (bt463.1,bt463.2))) = some (r1,r2):=h
 clear h;replace H:=Option.bind_eq_some_iff.mp H;obtain ⟨⟨t463,t464⟩,A30,H⟩:=H;replace H:(some (t463,t464)) = some (r1,r2):=H
 have A3:=zM A30;clear A30;simp only [Option.some.injEq,Prod.mk.injEq] at H
 obtain ⟨rfl,rfl⟩:=H;obtain ⟨Ao4,co4,eo4⟩:=Kd.R_slice HO0_2.out;subst eo4;go_enter Try.func31,Try.ntmps31
 go_wp2_with (first|((with_reducible refine gate_dst (N:=2) rfl ?_);refine box_event ?hg (N:=2) ?hd (cs := #[.int .i64 a0_0,.int .i64 a0_1,.slice Ao4 l0_2.length co4]) (t:=29) ?hr ?_;(case hd=>rfl);(case hg=>rfl);(case hr=>first|(go_simp;done)|(go_simp;rfl));intro gb462 hg w5 hbox hb;have n0_:=zM (zP (by (with_reducible repeat (first|apply zA|apply zB|apply zC));exact HO0_2.out) hb);have n1_:=zM (Kept.below (S:=(fun k_=>P0_2_ k_)) (by repeat (first|(with_reducible first|exact HK.out|apply Kept.alloc|apply Kept.drewN|apply Kept.drew)|exact HK.out)) hb);have n2_:=zM (zQ (by repeat (first|(with_reducible first|exact HB.out|apply zD|apply zE|apply zF)|exact HB.out)) hb);have n3_:=zM (hbox);have n4_:=zM ((by rw [hg];exact (by first|exact HK.out.1|exact (show Kept w _ (fun k_=>P0_2_ k_) from by repeat (first|(with_reducible first|exact HK.out|apply Kept.alloc|apply Kept.drewN|apply Kept.drew)|exact HK.out)).1):w.heap.size ≤ gb462));have n5_:=zM ((by rw [hg];exact (zR (by repeat (first|(with_reducible first|exact HB.out|apply zD|apply zE|apply zF)|exact HB.out))):w0.heap.size ≤ gb462));clear HO0_2;clear HK;clear HB;have HO0_2:=n0_;have HK:=n1_;have HB:=n2_;have BK462:=n3_;have GW462:=n4_;have GE462:=n5_;clear n0_ n1_ n2_ n3_ n4_ n5_;clear hb hbox hg;have hcz6_0:w5.cell? ⟨gb462,0,none⟩ = some (.int .i64 a0_0):=(blk_cell BK462.out 0).trans rfl;have hcz6_1:w5.cell? ⟨gb462,1,none⟩ = some (.int .i64 a0_1):=(blk_cell BK462.out 1).trans rfl;have hcz6_2:w5.cell? ⟨gb462,2,none⟩ = some (.slice Ao4 l0_2.length co4):=(blk_cell BK462.out 2).trans rfl;have hfz6_0:=blk_frozen BK462.out 0;have hfz6_1:=blk_frozen BK462.out 1;have hfz6_2:=blk_frozen BK462.out 2)|((with_reducible refine gate_callee (f:=36) rfl ?_);refine goesL_ (some 8) rfl rfl Try.func36 (by kernel_rfl) rfl #[.slice Ao4 l0_2.length co4,.int .i64 a1] rfl (by (try simp only [List.map_toArray,List.map_cons,List.map_nil]);first|done|rfl|(simp only [List.length_drop,List.length_take];rfl)) ?_;(with_reducible refine (laws_markCellS.calls k (fun k_=>some k_ = (.slice Ao4 l0_2.length co4:Value).ownBlock) (.slice Ao4 l0_2.length co4) l0_2 a1 t463 t464 w0 _ ?side1 ?side2 A3.out).mono ?_);(case side1=>repeat (first|(with_reducible first|exact HB.out|apply zD|apply zE|apply zF|refine below_set ?_ GE462.out)|exact HB.out));(case side2=>exact Kd.R_tight rfl HO0_2.out);rintro e w7 ⟨rfl,hy0,hb,hkp⟩;refine ⟨_,rfl,?_⟩;have n0_:=zM (Kd.R_reok rfl hy0 (fun k_ e_=>HO0_2.out.1 k_ e_));have n1_:=zM (blk_kept (by (with_reducible repeat (first|refine zJ ?_ _|refine zK ?_|refine zL ?_ _));exact BK462.out) hkp (fun hs_=>(fun e_=>(Kd.R_ne HO0_2.out BK462.out (by decide)) e_) hs_));have n2_:=zM (Kept.then_ (S:=(fun k_=>P0_2_ k_)) (by repeat (first|(with_reducible first|exact HK.out|apply Kept.alloc|apply Kept.drewN|apply Kept.drew|refine Kept.setCell ?_ (.inr GW462.out) _)|exact HK.out)) hkp (fun k_ hs_=>(fun e_=>(HO0_2.out.1 k_ e_.symm)) hs_));have n3_:=zM (hb);clear HO0_2;clear BK462;clear HK;clear HB;have HO0_2:=n0_;have BK462:=n1_;have HK:=n2_;have HB:=n3_;clear n0_ n1_ n2_ n3_;(try clear hb);(try clear hkp);(try clear hy0)))
 go_ret
 exact ⟨by first|rfl|(simp [errW_none,errW_some] <;> rfl)|(simp [*,errW_none,errW_some] <;> rfl),by (with_reducible repeat (first|apply zA|apply zB|apply zC));exact HO0_2.out,by repeat (first|(with_reducible first|exact HB.out|apply zD|apply zE|apply zF|refine below_set ?_ GE462.out)|exact HB.out),by repeat (first|(with_reducible first|exact HK.out|apply Kept.alloc|apply Kept.drewN|apply Kept.drew|refine Kept.setCell ?_ (.inr GW462.out) _)|exact HK.out)⟩

end Go.Proofs.Ytbpccdbkaiigcaa.G

namespace Go.Proofs.Ytbpccdbkaiigcaa.G
open Go.RowKit Go.Proofs.YtbpccdbkaiigcaaW.PrintWords Go.Proofs.YtbpccdbkaiigcaaW.PrintLast
set_option linter.unusedVariables false
set_option linter.unusedSimpArgs false
theorem mark_C (xs : List S48) (h : (xs.length : Int) ≤ 1048576) : ∃ ys,Ev (fun k=>laws_markCellS.f k xs 1) (1 + 2 * (xs.length : Int),ys) ∧ Ev (fun k=>laws_heldCellS.f k ys 1) (1 + 2 * (xs.length : Int)):=by
 obtain ⟨ys,h1,h2,h3⟩:=Ev.mark (fun k xs c i=>laws_markCellS.l0 k xs c i) (xs.length : Int) 2 (fun i=>(⟨1 + 2 * i,1 + 2 * i + 1⟩ : S48)) z48 (by
   intro ys c hl
   refine Ev.step (fun k=>by rw [laws_markCellS.l0]) ?_
   simp only [hl,Int.lt_irrefl,if_false]
   exact Ev.now _) (by
   intro ys c i hl h0 hlt hc r hr
   refine Ev.step (fun k=>by rw [laws_markCellS.l0]) ?_
   have e1 : wrap64 (c + 1) = c + 1:=wrap64_id (by omega) (by omega)
   have e2 : wrap64 (c + 1 + 1) = c + 2:=by rw [wrap64_id (by omega) (by omega)];omega
   have e3 : wrap64 (i + 1) = i + 1:=wrap64_id (by omega) (by omega)
   simp only [hl,if_pos hlt,if_pos h0,Option.bind_some,e1,e2,e3,rd_T48,getD_set _ _ _ _ _ (show i.toNat < ys.length by omega),if_true,List.set_set]
   rw [hc] at hr ⊢
   exact hr) xs rfl
 refine ⟨ys,h1,?_⟩
 refine Ev.up (fun k (c : Int) i=>laws_heldCellS.l0 k ys c i) (fun _ _=>1 + 2 * (xs.length : Int)) (fun c i=>0 ≤ i ∧ c = 1 + 2 * i) (xs.length : Int) ?_ ?_ 1 0 ⟨by omega,by omega⟩ (by omega)
 ·rintro c ⟨_,rfl⟩
  refine Ev.step (fun k=>by rw [laws_heldCellS.l0]) ?_
  simp only [h2,Int.lt_irrefl,if_false]
  exact Ev.now _
 ·rintro c i ⟨h0,hc⟩ hlt ih
  refine Ev.step (fun k=>by rw [laws_heldCellS.l0]) ?_
  have e1 : wrap64 (c + 1) = c + 1:=wrap64_id (by omega) (by omega)
  have e2 : wrap64 (c + 1 + 1) = c + 2:=by rw [wrap64_id (by omega) (by omega)];omega
  have e3 : wrap64 (i + 1) = i + 1:=wrap64_id (by omega) (by omega)
  simp only [h2,if_pos hlt,if_pos h0,e1,e2,e3,rd_T48,h3 i h0 hlt,← hc,if_true]
  exact ih _ ⟨by omega,by omega⟩
theorem mark_F (w h : Int) (xs : List S48) (hl : (xs.length : Int) ≤ 1048576) : ∃ ys,Ev (fun k=>laws_markFloor.f k w h xs 1) (1 + 2 * (xs.length : Int),ys):=by
 obtain ⟨ys,h1,_⟩:=mark_C xs hl
 refine ⟨ys,?_⟩
 unfold laws_markFloor.f
 exact Ev.bind h1 (Ev.now _)
end Go.Proofs.Ytbpccdbkaiigcaa.G

-- Written by wip/tools/gen.py out of the translation (the kit's printer, one namespace a seat). Lean checks it.
namespace Go.Proofs.Ytbpccdbkaiigcaa.G
open Go.RowKit Go.Proofs.YtbpccdbkaiigcaaW.PrintWords Go.Proofs.YtbpccdbkaiigcaaW.PrintLast Go.Proofs.YtbpccdbkaiigcaaW.PrintMore
attribute [local go_sem] max2_int min2_int max_two min_two max_three min_three max_four min_four   -- for this text's walks alone
set_option linter.unusedVariables false
set_option linter.unusedSimpArgs false

/-! ### laws_heldCellSS: function 46 -/
def laws_heldCellSS.l0:Nat → List (List (S48)) → Int → Int → Option (Int)
 | 0,_,_,_=>none
 | k + 1,x0,x1,x5=>if x5 < (x0.length:Int) then (if 0 ≤ x5 then ((laws_heldCellS.f k (rd_L6 x0 x5) x1).bind fun t660=>(if t660 < 0 then (some (-1)) else (laws_heldCellSS.l0 k x0 t660 (wrap64 (x5 + 1))))) else (none)) else (some x1)
def laws_heldCellSS.f (k:Nat) (l0:List (List (S48))) (a1:Int):Option (Int):=laws_heldCellSS.l0 k l0 a1 0
end Go.Proofs.Ytbpccdbkaiigcaa.G

/- markCellSS over a slice of slices of one's own whose rows lie apart: what stands in it afterwards. -/
namespace Go.Proofs.Ytbpccdbkaiigcaa.G
open Go.RowKit Go.Proofs.YtbpccdbkaiigcaaW.PrintWords Go.Proofs.YtbpccdbkaiigcaaW.PrintLast Go.Proofs.YtbpccdbkaiigcaaW.PrintMore
set_option linter.unusedVariables false
set_option linter.unusedSimpArgs false
theorem mark_CK (xs : List S48) (h : (xs.length : Int) ≤ 1048576) (s : Int) (s0 : 0 ≤ s) (s1 : s ≤ 8796093022208) : ∃ ys,Ev (fun k=>laws_markCellS.f k xs s) (s + 2 * (xs.length : Int),ys) ∧ Ev (fun k=>laws_heldCellS.f k ys s) (s + 2 * (xs.length : Int)) ∧ (ys.length : Int) = (xs.length : Int):=by
 obtain ⟨ys,h1,h2,h3⟩:=Ev.markFrom (fun k xs c i=>laws_markCellS.l0 k xs c i) (xs.length : Int) 2 s (fun i=>(⟨s + 2 * i,s + 2 * i + 1⟩ : S48)) z48 (by
   intro ys c hl
   refine Ev.step (fun k=>by rw [laws_markCellS.l0]) ?_
   simp only [hl,Int.lt_irrefl,if_false]
   exact Ev.now _) (by
   intro ys c i hl h0 hlt hc r hr
   refine Ev.step (fun k=>by rw [laws_markCellS.l0]) ?_
   have e1 : wrap64 (c + 1) = c + 1:=wrap64_id (by omega) (by omega)
   have e2 : wrap64 (c + 1 + 1) = c + 2:=by rw [wrap64_id (by omega) (by omega)];omega
   have e3 : wrap64 (i + 1) = i + 1:=wrap64_id (by omega) (by omega)
   simp only [hl,if_pos hlt,if_pos h0,Option.bind_some,e1,e2,e3,rd_T48,getD_set _ _ _ _ _ (show i.toNat < ys.length by omega),if_true,List.set_set]
   rw [hc] at hr ⊢
   exact hr) xs rfl
 refine ⟨ys,h1,?_,h2⟩
 refine Ev.up (fun k (c : Int) i=>laws_heldCellS.l0 k ys c i) (fun _ _=>s + 2 * (xs.length : Int)) (fun c i=>0 ≤ i ∧ c = s + 2 * i) (xs.length : Int) ?_ ?_ s 0 ⟨by omega,by omega⟩ (by omega)
 ·rintro c ⟨_,rfl⟩
  refine Ev.step (fun k=>by rw [laws_heldCellS.l0]) ?_
  simp only [h2,Int.lt_irrefl,if_false]
  exact Ev.now _
 ·rintro c i ⟨h0,hc⟩ hlt ih
  refine Ev.step (fun k=>by rw [laws_heldCellS.l0]) ?_
  have e1 : wrap64 (c + 1) = c + 1:=wrap64_id (by omega) (by omega)
  have e2 : wrap64 (c + 1 + 1) = c + 2:=by rw [wrap64_id (by omega) (by omega)];omega
  have e3 : wrap64 (i + 1) = i + 1:=wrap64_id (by omega) (by omega)
  simp only [h2,if_pos hlt,if_pos h0,e1,e2,e3,rd_T48,h3 i h0 hlt,← hc,if_true]
  exact ih _ ⟨by omega,by omega⟩
def tot2 (xs : List (List S48)) : Nat → Int
 | 0=>0
 | i + 1=>tot2 xs i + 2 * ((rd_L6 xs (i : Int)).length : Int)
theorem tot2_mono (xs : List (List S48)) : ∀ i : Nat,0 ≤ tot2 xs i
 | 0=>Int.le_refl _
 | i + 1=>by have:=tot2_mono xs i;unfold tot2;omega
theorem tot2_le (xs : List (List S48)) (i : Nat) : ∀ d : Nat,tot2 xs i ≤ tot2 xs (i + d)
 | 0=>Int.le_refl _
 | d + 1=>by have:=tot2_le xs i d;show tot2 xs i ≤ tot2 xs (i + d) + 2 * ((rd_L6 xs ((i + d : Nat) : Int)).length : Int);omega
theorem take_set_dropC {α : Type} (ys xs : List α) (z : α) (i : Nat) (hl : ys.length = xs.length) (hi : i < xs.length) : (ys.take i ++ xs.drop i).set i (ys.getD i z) = ys.take (i + 1) ++ xs.drop (i + 1):=by
 rw [List.set_append_right _ _ (by rw [List.length_take];omega),List.length_take,Nat.min_eq_left (by omega),Nat.sub_self]
 have e1 : xs.drop i = xs[i] :: xs.drop (i + 1):=List.drop_eq_getElem_cons hi
 have e2 : ys.take (i + 1) = ys.take i ++ [ys[i]'(by omega)]:=by rw [List.take_add_one,List.getElem?_eq_getElem (by omega)];rfl
 rw [e1,List.set_cons_zero,e2,List.getD_eq_getElem?_getD,List.getElem?_eq_getElem (by omega),List.append_assoc]
 rfl
theorem getD_take_dropC {α : Type} (ys xs : List α) (z : α) (i : Nat) (hl : ys.length = xs.length) (hi : i < xs.length) : (ys.take i ++ xs.drop i).getD i z = xs.getD i z:=by
 rw [List.getD_eq_getElem?_getD,List.getElem?_append_right (by rw [List.length_take];omega),List.length_take,Nat.min_eq_left (by omega),Nat.sub_self,List.getElem?_drop,Nat.add_zero,List.getD_eq_getElem?_getD]
set_option maxHeartbeats 4000000 in
set_option maxRecDepth 100000 in
theorem markCSS_rows {ok : Nat → Prop} (kf : Nat) (A : Option Addr) (c : Nat) (xs ys : List (List S48)) (k : Int) (w0 w : World) (hB : Below w0.heap.size w0 w) (h : Kd.S (Kd.slice 48 k48) 27 w w0.heap.size ok (.slice A xs.length c) xs) (hl : ys.length = xs.length)
  (hm : ∀ i : Nat,i < xs.length → laws_markCellS.f kf (rd_L6 xs (i : Int)) (k + tot2 xs i) = some (k + tot2 xs (i + 1),rd_L6 ys (i : Int))) :
  Calls Try.prog 43 #[.slice A xs.length c,.int .i64 k] w fun e w'=>e = .returned (.int .i64 (k + tot2 xs xs.length)) ∧ Kd.S (Kd.slice 48 k48) 27 w' w0.heap.size ok (.slice A xs.length c) ys ∧ Below w0.heap.size w0 w' ∧ Kept w w' ok:=by
 have hn : xs.length ≤ 9223372036854775807:=(Kd.S_reads' h).2.2.2.1
 have HS:=Aside0.mk h
 have HM:=Aside0.mk hm
 have HB0:=Aside0.mk hB
 clear h hm hB
 go_enter Try.func43,Try.ntmps43
 go_wp2
 go_loopw [1,5] (fun kv iv w' => ∃ i : Nat,i ≤ xs.length ∧ iv = .int .i64 i ∧ kv = .int .i64 (k + tot2 xs i) ∧ Aside0 (Kd.S (Kd.slice 48 k48) 27 w' w0.heap.size ok (.slice A xs.length c) (ys.take i ++ xs.drop i)) ∧ Aside0 (Below w0.heap.size w0 w' ∧ Kept w w' ok)) (fun _ i _=>xs.length - (intOf i).toNat)
 case atStart=>exact ⟨0,Nat.zero_le _,rfl,by simp [tot2],Aside0.mk (by simpa using HS.out),Aside0.mk ⟨HB0.out,Kept.refl _ _⟩⟩
 case round =>
  obtain ⟨i,hi,rfl,rfl,hS,hK⟩:=hrel
  by_cases hlt : i < xs.length
  ·have hll : (ys.take i ++ xs.drop i).length = xs.length:=by simp;omega
   obtain ⟨ad,_,hA,_⟩:=ReadsRow.get_ (Kd.S_reads' hS.out).2.2 ([] : List S48) (i : Int) (by omega) (by omega)
   subst hA
   obtain ⟨g,rfl⟩:=Kd.R_head (Kd.S_R hS.out)
   obtain ⟨oki,cl,hcl,hM,hcc,hoki,hH⟩:=Kd.S_lend hS.out ([] : List S48) (i : Int) (by omega) (by omega)
   obtain ⟨vr,rfl,hR⟩:=hM
   rw [Int.toNat_natCast,getD_take_dropC ys xs [] i hl hlt] at hR
   have hrow : xs.getD i ([] : List S48) = rd_L6 xs (i : Int):=rfl
   have hrowy : ys.getD i ([] : List S48) = rd_L6 ys (i : Int):=rfl
   rw [hrow] at hR
   have hcell : wr.cell? ⟨g,i,none⟩ = some vr:=by
    have:=hcc 0 _ rfl
    rw [Int.toNat_natCast,show (Kd.slice 48 k48).sz = 1 from rfl,Nat.mul_one,Nat.add_zero] at this
    exact this
   have HR:=Aside0.mk hR
   have HH:=Aside0.mk hH
   have HMi:=Aside0.mk (HM.out i hlt)
   clear hcl hcc hrow hR hH hll hoki
   go_wp2_with (go_at_call 36;refine (laws_markCellS.calls kf oki vr (rd_L6 xs (i : Int)) (k + tot2 xs i) _ (rd_L6 ys (i : Int)) w0 _ hK.out.1 HR.out HMi.out).mono ?_;rintro e w2 ⟨rfl,hR2,hB2,hk2⟩;have HR2:=Aside0.mk hR2;have HB2:=Aside0.mk hB2;have HK2:=Aside0.mk hk2;clear hR2 hB2 hk2)
   have hH2:=Kd.H_kept HH.out HK2.out (fun k _ hn=>hn)
   have hR3:=Kd.R_mono (ok':=oki) (Kd.R_tight rfl HR2.out) (fun k hk=>HR.out.1 k hk.symm)
   have hS2:=Kd.H_back hH2 (x':=rd_L6 ys (i : Int)) ⟨vr,rfl,hR3⟩ (fun _ h=>h)
   rw [Int.toNat_natCast,← hrowy,take_set_dropC ys xs [] i hl hlt] at hS2
   have HS2:=Aside0.mk hS2
   have HK3 : Aside0 (Kept w w2 ok):=Aside0.mk (Kept.then_ hK.out.2 HK2.out (fun k hk => .inl (HH.out.1 k hk)))
   clear hS2 hH2 hR3
   go_roundw
   case rel=>exact ⟨i + 1,by omega,by go_num,rfl,HS2,Aside0.mk ⟨HB2.out,HK3.out⟩⟩
   case measure=>simp [intOf];omega
  ·obtain rfl : i = xs.length:=by omega
   go_wp2
   go_ret
   have h2:=hS.out
   rw [List.take_of_length_le (by omega),List.drop_length,List.append_nil] at h2
   exact ⟨rfl,h2,hK.out⟩
/-- The marked rows. -/
theorem markC_rows (s : Int) (s0 : 0 ≤ s) (xs : List (List S48)) (hr : ∀ i : Nat,i < xs.length → ((rd_L6 xs (i : Int)).length : Int) ≤ 1048576) (ht : s + tot2 xs xs.length ≤ 8796093022208) :
  ∃ ys : List (List S48),ys.length = xs.length ∧ (∃ kf,∀ i : Nat,i < xs.length → laws_markCellS.f kf (rd_L6 xs (i : Int)) (s + tot2 xs i) = some (s + tot2 xs (i + 1),rd_L6 ys (i : Int))) ∧ (∀ i : Nat,i < xs.length → Ev (fun k=>laws_heldCellS.f k (rd_L6 ys (i : Int)) (s + tot2 xs i)) (s + tot2 xs (i + 1))):=by
 have one : ∀ i : Nat,i < xs.length → ∃ r,Ev (fun k=>laws_markCellS.f k (rd_L6 xs (i : Int)) (s + tot2 xs i)) (s + tot2 xs (i + 1),r) ∧ Ev (fun k=>laws_heldCellS.f k r (s + tot2 xs i)) (s + tot2 xs (i + 1)):=fun i hi=>by
  have h0:=tot2_mono xs i
  have h1:=tot2_le xs i (xs.length - i)
  rw [show i + (xs.length - i) = xs.length from by omega] at h1
  obtain ⟨r,m1,m2,_⟩:=mark_CK (rd_L6 xs (i : Int)) (by have:=hr i hi;omega) (s + tot2 xs i) (by omega) (by omega)
  have e : s + tot2 xs i + 2 * (((rd_L6 xs (i : Int)).length : Int) : Int) = s + tot2 xs (i + 1):=by rw [show tot2 xs (i + 1) = tot2 xs i + 2 * ((rd_L6 xs (i : Int)).length : Int) from rfl];omega
  rw [e] at m1 m2
  exact ⟨r,m1,m2⟩
 have all : ∀ n : Nat,n ≤ xs.length → ∃ (ys : List (List S48)) (kf : Nat),ys.length = n ∧ (∀ i : Nat,i < n → laws_markCellS.f kf (rd_L6 xs (i : Int)) (s + tot2 xs i) = some (s + tot2 xs (i + 1),rd_L6 ys (i : Int))) ∧ (∀ i : Nat,i < n → Ev (fun k=>laws_heldCellS.f k (rd_L6 ys (i : Int)) (s + tot2 xs i)) (s + tot2 xs (i + 1))):=by
  intro n
  induction n with
  | zero=>exact fun _=>⟨[],0,rfl,fun i hi=>absurd hi (by omega),fun i hi=>absurd hi (by omega)⟩
  | succ n ih =>
   intro hn
   obtain ⟨ys,kf,hl,h1,h2⟩:=ih (by omega)
   obtain ⟨r,m1,m2⟩:=one n (by omega)
   obtain ⟨kr,hkr⟩:=Ev.rounds m1
   have up : ∀ {k : Nat} {a : List S48} {s' : Int} {v : Int × List S48} (d : Nat),laws_markCellS.f k a s' = some v → laws_markCellS.f (k + d) a s' = some v:=fun d h=>by
    induction d with
    | zero=>exact h
    | succ d ih=>exact laws_markCellS.mono _ _ _ _ ih
   have lo : ∀ i : Nat,i < n → rd_L6 (ys ++ [r]) (i : Int) = rd_L6 ys (i : Int):=fun i hi=>by
    show (ys ++ [r]).getD i [] = ys.getD i []
    rw [List.getD_eq_getElem?_getD,List.getElem?_append_left (by omega),← List.getD_eq_getElem?_getD]
   have hi' : rd_L6 (ys ++ [r]) (n : Int) = r:=by
    show (ys ++ [r]).getD n [] = r
    rw [List.getD_eq_getElem?_getD,List.getElem?_append_right (by omega),hl,Nat.sub_self]
    rfl
   refine ⟨ys ++ [r],kf + kr,by simp [hl],fun i hi=>?_,fun i hi=>?_⟩
   ·by_cases h : i < n
    ·rw [lo i h]
     exact up kr (h1 i h)
    ·obtain rfl : i = n:=by omega
     rw [hi',Nat.add_comm]
     exact up kf hkr
   ·by_cases h : i < n
    ·rw [lo i h]
     exact h2 i h
    ·obtain rfl : i = n:=by omega
     rw [hi']
     exact m2
 obtain ⟨ys,kf,hl,h1,h2⟩:=all xs.length (Nat.le_refl _)
 exact ⟨ys,hl,⟨kf,h1⟩,h2⟩
theorem tot2_cap {xs : List (List S48)} (h : ∀ i : Nat,i < xs.length → ((rd_L6 xs (i : Int)).length : Int) ≤ 1048576) : ∀ i : Nat,i ≤ xs.length → tot2 xs i ≤ (i : Int) * 2097152
 | 0,_=>by simp [tot2]
 | i + 1,hi=>by
  have h1:=tot2_cap h i (by omega)
  have h2:=h i (by omega)
  show tot2 xs i + 2 * ((rd_L6 xs (i : Int)).length : Int) ≤ ((i + 1 : Nat) : Int) * 2097152
  omega
end Go.Proofs.Ytbpccdbkaiigcaa.G

/- The walk of FnExactSafePath: on every argument the law answers true. -/
namespace Go.Proofs.Ytbpccdbkaiigcaa.G
open Go.RowKit Go.Proofs.YtbpccdbkaiigcaaW.PrintWords Go.Proofs.YtbpccdbkaiigcaaW.PrintLast Go.Proofs.YtbpccdbkaiigcaaW.PrintMore
set_option linter.unusedVariables false
set_option linter.unusedSimpArgs false
theorem heldCl_at (k : Nat) (A : Option Addr) (c : Nat) (l : List S48) (n : Nat) (a r : Int) (w : World) (hn : l.length = n) (hC : Kd.C k48 w A l.length l) (hc : n ≤ c) (h : laws_heldCellS.f k l a = some r) :
  Calls Try.prog 37 #[.slice A n c,.int .i64 a] w fun e w'=>e = .returned (.int .i64 r) ∧ Drawn0 w w':=by
 subst hn
 exact laws_heldCellS.calls k A c l a r w hC hc h
set_option maxHeartbeats 8000000 in
set_option maxRecDepth 100000 in
theorem laws_FnExactSafePath.walk (a0_0 : Int) (a0_1 : Int) (A0_2 : Option Addr) (c0_2 : Nat) (l0_2 : List S44) (A1 : Option Addr) (c1 : Nat) (l1 : List (List S44)) (a2_0 : Int) (a2_1 : Int) (a3_0 : Int) (a3_1 : Int) (w : World) (hr0_2 : Kd.C k44 w A0_2 l0_2.length l0_2) (hc0_2 : l0_2.length ≤ c0_2) (hr1 : Kd.C (Kd.slice 44 k44) w A1 l1.length l1) (hc1 : l1.length ≤ c1) (hw0 : (Lit.int .i64 a0_0).wf = true) (hw1 : (Lit.int .i64 a0_1).wf = true) (hw2 : (l0_2.length ≤ maxLen ∧ ∀ y ∈ l0_2,W44 y)) (hw3 : (l1.length ≤ maxLen ∧ ∀ y ∈ l1,(y.length ≤ maxLen ∧ ∀ z ∈ y,W44 z))) (hw4 : (Lit.int .i64 a2_0).wf = true) (hw5 : (Lit.int .i64 a2_1).wf = true) (hw6 : (Lit.int .i64 a3_0).wf = true) (hw7 : (Lit.int .i64 a3_1).wf = true) :
  Calls Try.prog 9 #[.agg #[.int .i64 a0_0,.int .i64 a0_1,.slice A0_2 l0_2.length c0_2],.slice A1 l1.length c1,.agg #[.int .i64 a2_0,.int .i64 a2_1],.agg #[.int .i64 a3_0,.int .i64 a3_1]] w fun e w'=>e = .returned (.bool true) ∧ Below w.heap.size w w':=by
 have hu24:=Try.underlying24
 have hu29:=Try.underlying29
 have hu44:=Try.underlying44
 have hu48:=Try.underlying48
 have CC_0:=Aside0.mk hr0_2
 have C1_0:=Aside0.mk hr1
 have HB_0:=Aside0.mk (Below.refl w.heap.size w)
 have hs:=szf a0_0 a0_1 l0_2 hw2.1 1048576 (by omega) (by omega)
 obtain ⟨sz,hsz⟩ : ∃ z,(if 1048576 - (l0_2.length : Int) < 0 then -1 else 1048576 - (l0_2.length : Int)) = z:=⟨_,rfl⟩
 rw [hsz] at hs
 have KS:=Aside0.mk hs
 have hwr : ∀ y ∈ l1,y.length ≤ maxLen:=fun y hy=>(hw3.2 y hy).1
 have hwl:=hw3.1
 clear hs hr0_2 hr1 hw0 hw1 hw2 hw3 hw4 hw5 hw6 hw7
 by_cases h0 : sz < 0
 ·have e1 : decide (sz < 0) = true:=decide_eq_true h0
  clear hsz h0 hwr hwl
  go_enter Try.func9,Try.ntmps9
  go_wp2_with (first|((with_reducible refine gate_dst (N:=4) rfl ?_);refine box_event ?hg (N:=4) ?hd (cs := #[.int .i64 a0_0,.int .i64 a0_1,.slice A0_2 l0_2.length c0_2]) (t:=24) ?hr ?_;(case hd=>rfl);(case hg=>rfl);(case hr=>first|(go_simp;done)|(go_simp;rfl));intro g4 hgg4 w1 hbox hb;have HB_1:=Aside0.mk (below_step HB_0.out hb);have CC_1:=Aside0.mk (Kd.C_below CC_0.out hb);have C1_1:=Aside0.mk (Kd.C_below C1_0.out hb);have Hg4_1:=Aside0.mk hbox;have Gg4 : Aside0 (g4 = _):=Aside0.mk hgg4;have fg40_1 : w1.cell? ⟨g4,0,none⟩ = some (.int .i64 a0_0):=(blk_cell Hg4_1.out 0).trans rfl;have fg41_1 : w1.cell? ⟨g4,1,none⟩ = some (.int .i64 a0_1):=(blk_cell Hg4_1.out 1).trans rfl;have fg42_1 : w1.cell? ⟨g4,2,none⟩ = some (.slice A0_2 l0_2.length c0_2):=(blk_cell Hg4_1.out 2).trans rfl;clear hbox hb hgg4)|((with_reducible refine gate_dst (N:=6) rfl ?_);refine box_event ?hg (N:=6) ?hd (cs := #[.int .i64 a2_0,.int .i64 a2_1]) (t:=44) ?hr ?_;(case hd=>rfl);(case hg=>rfl);(case hr=>first|(go_simp;done)|(go_simp;rfl));intro g6 hgg6 w2 hbox hb;have HB_2:=Aside0.mk (below_step HB_1.out hb);have CC_2:=Aside0.mk (Kd.C_below CC_1.out hb);have C1_2:=Aside0.mk (Kd.C_below C1_1.out hb);have Hg4_2:=Aside0.mk (blk_below Hg4_1.out hb);have Hg6_2:=Aside0.mk hbox;have Gg6 : Aside0 (g6 = _):=Aside0.mk hgg6;have fg40_2 : w2.cell? ⟨g4,0,none⟩ = some (.int .i64 a0_0):=(blk_cell Hg4_2.out 0).trans rfl;have fg41_2 : w2.cell? ⟨g4,1,none⟩ = some (.int .i64 a0_1):=(blk_cell Hg4_2.out 1).trans rfl;have fg42_2 : w2.cell? ⟨g4,2,none⟩ = some (.slice A0_2 l0_2.length c0_2):=(blk_cell Hg4_2.out 2).trans rfl;have fg60_2 : w2.cell? ⟨g6,0,none⟩ = some (.int .i64 a2_0):=(blk_cell Hg6_2.out 0).trans rfl;have fg61_2 : w2.cell? ⟨g6,1,none⟩ = some (.int .i64 a2_1):=(blk_cell Hg6_2.out 1).trans rfl;clear hbox hb hgg6)|((with_reducible refine gate_dst (N:=7) rfl ?_);refine box_event ?hg (N:=7) ?hd (cs := #[.int .i64 a3_0,.int .i64 a3_1]) (t:=44) ?hr ?_;(case hd=>rfl);(case hg=>rfl);(case hr=>first|(go_simp;done)|(go_simp;rfl));intro g7 hgg7 w3 hbox hb;have HB_3:=Aside0.mk (below_step HB_2.out hb);have CC_3:=Aside0.mk (Kd.C_below CC_2.out hb);have C1_3:=Aside0.mk (Kd.C_below C1_2.out hb);have Hg4_3:=Aside0.mk (blk_below Hg4_2.out hb);have Hg6_3:=Aside0.mk (blk_below Hg6_2.out hb);have Hg7_3:=Aside0.mk hbox;have Gg7 : Aside0 (g7 = _):=Aside0.mk hgg7;have fg40_3 : w3.cell? ⟨g4,0,none⟩ = some (.int .i64 a0_0):=(blk_cell Hg4_3.out 0).trans rfl;have fg41_3 : w3.cell? ⟨g4,1,none⟩ = some (.int .i64 a0_1):=(blk_cell Hg4_3.out 1).trans rfl;have fg42_3 : w3.cell? ⟨g4,2,none⟩ = some (.slice A0_2 l0_2.length c0_2):=(blk_cell Hg4_3.out 2).trans rfl;have fg60_3 : w3.cell? ⟨g6,0,none⟩ = some (.int .i64 a2_0):=(blk_cell Hg6_3.out 0).trans rfl;have fg61_3 : w3.cell? ⟨g6,1,none⟩ = some (.int .i64 a2_1):=(blk_cell Hg6_3.out 1).trans rfl;have fg70_3 : w3.cell? ⟨g7,0,none⟩ = some (.int .i64 a3_0):=(blk_cell Hg7_3.out 0).trans rfl;have fg71_3 : w3.cell? ⟨g7,1,none⟩ = some (.int .i64 a3_1):=(blk_cell Hg7_3.out 1).trans rfl;clear hbox hb hgg7)|(go_at_call 13;(with_reducible refine (laws_szFloor.calls a0_0 a0_1 A0_2 c0_2 l0_2 1048576 sz _ CC_3.out hc0_2 KS.out).mono ?_);rintro e w4 ⟨rfl,hB⟩;have HB_4:=Aside0.mk (below_step HB_3.out hB);have CC_4:=Aside0.mk (Kd.C_below CC_3.out hB);have C1_4:=Aside0.mk (Kd.C_below C1_3.out hB);have Hg4_4:=Aside0.mk (blk_below Hg4_3.out hB);have Hg6_4:=Aside0.mk (blk_below Hg6_3.out hB);have Hg7_4:=Aside0.mk (blk_below Hg7_3.out hB);have fg40_4 : w4.cell? ⟨g4,0,none⟩ = some (.int .i64 a0_0):=(blk_cell Hg4_4.out 0).trans rfl;have fg41_4 : w4.cell? ⟨g4,1,none⟩ = some (.int .i64 a0_1):=(blk_cell Hg4_4.out 1).trans rfl;have fg42_4 : w4.cell? ⟨g4,2,none⟩ = some (.slice A0_2 l0_2.length c0_2):=(blk_cell Hg4_4.out 2).trans rfl;have fg60_4 : w4.cell? ⟨g6,0,none⟩ = some (.int .i64 a2_0):=(blk_cell Hg6_4.out 0).trans rfl;have fg61_4 : w4.cell? ⟨g6,1,none⟩ = some (.int .i64 a2_1):=(blk_cell Hg6_4.out 1).trans rfl;have fg70_4 : w4.cell? ⟨g7,0,none⟩ = some (.int .i64 a3_0):=(blk_cell Hg7_4.out 0).trans rfl;have fg71_4 : w4.cell? ⟨g7,1,none⟩ = some (.int .i64 a3_1):=(blk_cell Hg7_4.out 1).trans rfl;clear hB))
  go_ret
  exact ⟨rfl,HB_4.out⟩
 ·have e1 : decide (sz < 0) = false:=decide_eq_false h0
  have n1 : (l0_2.length : Int) ≤ 1048576:=by split at hsz <;> omega
  obtain ⟨sy,hsy,hsm⟩:=sz_CSS l1 hwl hwr sz (by omega) (by split at hsz <;> omega)
  obtain ⟨kz,hkz⟩:=Ev.rounds hsy
  have KZ:=Aside0.mk hkz
  clear hsy hkz hwr hwl hsz h0
  by_cases h1 : sy < 0
  ·have e2 : decide (sy < 0) = true:=decide_eq_true h1
   clear h1 hsm n1
   go_enter Try.func9,Try.ntmps9
   go_wp2_with (first|((with_reducible refine gate_dst (N:=4) rfl ?_);refine box_event ?hg (N:=4) ?hd (cs := #[.int .i64 a0_0,.int .i64 a0_1,.slice A0_2 l0_2.length c0_2]) (t:=24) ?hr ?_;(case hd=>rfl);(case hg=>rfl);(case hr=>first|(go_simp;done)|(go_simp;rfl));intro g4 hgg4 w1 hbox hb;have HB_1:=Aside0.mk (below_step HB_0.out hb);have CC_1:=Aside0.mk (Kd.C_below CC_0.out hb);have C1_1:=Aside0.mk (Kd.C_below C1_0.out hb);have Hg4_1:=Aside0.mk hbox;have Gg4 : Aside0 (g4 = _):=Aside0.mk hgg4;have fg40_1 : w1.cell? ⟨g4,0,none⟩ = some (.int .i64 a0_0):=(blk_cell Hg4_1.out 0).trans rfl;have fg41_1 : w1.cell? ⟨g4,1,none⟩ = some (.int .i64 a0_1):=(blk_cell Hg4_1.out 1).trans rfl;have fg42_1 : w1.cell? ⟨g4,2,none⟩ = some (.slice A0_2 l0_2.length c0_2):=(blk_cell Hg4_1.out 2).trans rfl;clear hbox hb hgg4)|((with_reducible refine gate_dst (N:=6) rfl ?_);refine box_event ?hg (N:=6) ?hd (cs := #[.int .i64 a2_0,.int .i64 a2_1]) (t:=44) ?hr ?_;(case hd=>rfl);(case hg=>rfl);(case hr=>first|(go_simp;done)|(go_simp;rfl));intro g6 hgg6 w2 hbox hb;have HB_2:=Aside0.mk (below_step HB_1.out hb);have CC_2:=Aside0.mk (Kd.C_below CC_1.out hb);have C1_2:=Aside0.mk (Kd.C_below C1_1.out hb);have Hg4_2:=Aside0.mk (blk_below Hg4_1.out hb);have Hg6_2:=Aside0.mk hbox;have Gg6 : Aside0 (g6 = _):=Aside0.mk hgg6;have fg40_2 : w2.cell? ⟨g4,0,none⟩ = some (.int .i64 a0_0):=(blk_cell Hg4_2.out 0).trans rfl;have fg41_2 : w2.cell? ⟨g4,1,none⟩ = some (.int .i64 a0_1):=(blk_cell Hg4_2.out 1).trans rfl;have fg42_2 : w2.cell? ⟨g4,2,none⟩ = some (.slice A0_2 l0_2.length c0_2):=(blk_cell Hg4_2.out 2).trans rfl;have fg60_2 : w2.cell? ⟨g6,0,none⟩ = some (.int .i64 a2_0):=(blk_cell Hg6_2.out 0).trans rfl;have fg61_2 : w2.cell? ⟨g6,1,none⟩ = some (.int .i64 a2_1):=(blk_cell Hg6_2.out 1).trans rfl;clear hbox hb hgg6)|((with_reducible refine gate_dst (N:=7) rfl ?_);refine box_event ?hg (N:=7) ?hd (cs := #[.int .i64 a3_0,.int .i64 a3_1]) (t:=44) ?hr ?_;(case hd=>rfl);(case hg=>rfl);(case hr=>first|(go_simp;done)|(go_simp;rfl));intro g7 hgg7 w3 hbox hb;have HB_3:=Aside0.mk (below_step HB_2.out hb);have CC_3:=Aside0.mk (Kd.C_below CC_2.out hb);have C1_3:=Aside0.mk (Kd.C_below C1_2.out hb);have Hg4_3:=Aside0.mk (blk_below Hg4_2.out hb);have Hg6_3:=Aside0.mk (blk_below Hg6_2.out hb);have Hg7_3:=Aside0.mk hbox;have Gg7 : Aside0 (g7 = _):=Aside0.mk hgg7;have fg40_3 : w3.cell? ⟨g4,0,none⟩ = some (.int .i64 a0_0):=(blk_cell Hg4_3.out 0).trans rfl;have fg41_3 : w3.cell? ⟨g4,1,none⟩ = some (.int .i64 a0_1):=(blk_cell Hg4_3.out 1).trans rfl;have fg42_3 : w3.cell? ⟨g4,2,none⟩ = some (.slice A0_2 l0_2.length c0_2):=(blk_cell Hg4_3.out 2).trans rfl;have fg60_3 : w3.cell? ⟨g6,0,none⟩ = some (.int .i64 a2_0):=(blk_cell Hg6_3.out 0).trans rfl;have fg61_3 : w3.cell? ⟨g6,1,none⟩ = some (.int .i64 a2_1):=(blk_cell Hg6_3.out 1).trans rfl;have fg70_3 : w3.cell? ⟨g7,0,none⟩ = some (.int .i64 a3_0):=(blk_cell Hg7_3.out 0).trans rfl;have fg71_3 : w3.cell? ⟨g7,1,none⟩ = some (.int .i64 a3_1):=(blk_cell Hg7_3.out 1).trans rfl;clear hbox hb hgg7)|(go_at_call 13;(with_reducible refine (laws_szFloor.calls a0_0 a0_1 A0_2 c0_2 l0_2 1048576 sz _ CC_3.out hc0_2 KS.out).mono ?_);rintro e w4 ⟨rfl,hB⟩;have HB_4:=Aside0.mk (below_step HB_3.out hB);have CC_4:=Aside0.mk (Kd.C_below CC_3.out hB);have C1_4:=Aside0.mk (Kd.C_below C1_3.out hB);have Hg4_4:=Aside0.mk (blk_below Hg4_3.out hB);have Hg6_4:=Aside0.mk (blk_below Hg6_3.out hB);have Hg7_4:=Aside0.mk (blk_below Hg7_3.out hB);have fg40_4 : w4.cell? ⟨g4,0,none⟩ = some (.int .i64 a0_0):=(blk_cell Hg4_4.out 0).trans rfl;have fg41_4 : w4.cell? ⟨g4,1,none⟩ = some (.int .i64 a0_1):=(blk_cell Hg4_4.out 1).trans rfl;have fg42_4 : w4.cell? ⟨g4,2,none⟩ = some (.slice A0_2 l0_2.length c0_2):=(blk_cell Hg4_4.out 2).trans rfl;have fg60_4 : w4.cell? ⟨g6,0,none⟩ = some (.int .i64 a2_0):=(blk_cell Hg6_4.out 0).trans rfl;have fg61_4 : w4.cell? ⟨g6,1,none⟩ = some (.int .i64 a2_1):=(blk_cell Hg6_4.out 1).trans rfl;have fg70_4 : w4.cell? ⟨g7,0,none⟩ = some (.int .i64 a3_0):=(blk_cell Hg7_4.out 0).trans rfl;have fg71_4 : w4.cell? ⟨g7,1,none⟩ = some (.int .i64 a3_1):=(blk_cell Hg7_4.out 1).trans rfl;clear hB)|(go_at_call 38;(with_reducible refine (laws_szCellSS.calls kz A1 c1 l1 sz sy _ C1_4.out hc1 KZ.out).mono ?_);rintro e w5 ⟨rfl,hd⟩;have hB:=hd.below;clear hd;have HB_5:=Aside0.mk (below_step HB_4.out hB);have CC_5:=Aside0.mk (Kd.C_below CC_4.out hB);have C1_5:=Aside0.mk (Kd.C_below C1_4.out hB);have Hg4_5:=Aside0.mk (blk_below Hg4_4.out hB);have Hg6_5:=Aside0.mk (blk_below Hg6_4.out hB);have Hg7_5:=Aside0.mk (blk_below Hg7_4.out hB);have fg40_5 : w5.cell? ⟨g4,0,none⟩ = some (.int .i64 a0_0):=(blk_cell Hg4_5.out 0).trans rfl;have fg41_5 : w5.cell? ⟨g4,1,none⟩ = some (.int .i64 a0_1):=(blk_cell Hg4_5.out 1).trans rfl;have fg42_5 : w5.cell? ⟨g4,2,none⟩ = some (.slice A0_2 l0_2.length c0_2):=(blk_cell Hg4_5.out 2).trans rfl;have fg60_5 : w5.cell? ⟨g6,0,none⟩ = some (.int .i64 a2_0):=(blk_cell Hg6_5.out 0).trans rfl;have fg61_5 : w5.cell? ⟨g6,1,none⟩ = some (.int .i64 a2_1):=(blk_cell Hg6_5.out 1).trans rfl;have fg70_5 : w5.cell? ⟨g7,0,none⟩ = some (.int .i64 a3_0):=(blk_cell Hg7_5.out 0).trans rfl;have fg71_5 : w5.cell? ⟨g7,1,none⟩ = some (.int .i64 a3_1):=(blk_cell Hg7_5.out 1).trans rfl;clear hB))
   go_ret
   exact ⟨rfl,HB_5.out⟩
  ·have e2 : decide (sy < 0) = false:=decide_eq_false h1
   have hsr:=(hsm (by omega)).1
   obtain ⟨bl,hbl⟩ : ∃ bl,l0_2.map cv_C = bl:=⟨_,rfl⟩
   have nb1 : (bl.length : Int) ≤ 1048576:=by rw [← hbl];simpa using n1
   obtain ⟨os,hos⟩ : ∃ os,l1.map (fun r=>r.map cv_C) = os:=⟨_,rfl⟩
   have hsc : SmallC os:=by rw [← hos];exact hsr.map
   obtain ⟨R,hR⟩ : ∃ R,askR a0_0 a0_1 bl os ⟨a2_0,a2_1⟩ ⟨a3_0,a3_1⟩ = R:=⟨_,rfl⟩
   have hRl : (R.1.length : Int) ≤ 25:=by rw [← hR];have:=askR_len a0_0 a0_1 bl os ⟨a2_0,a2_1⟩ ⟨a3_0,a3_1⟩;omega
   have htf:=to_F a0_0 a0_1 l0_2 n1
   rw [hbl] at htf
   have htq:=to_CSS l1 hsr
   rw [hos] at htq
   have hsp:=spec_safe a0_0 a0_1 bl os (by omega) (all_rows (fun i h0 h1=>by have h : ((rd_L6 os i).length : Int) ≤ 1048576:=hsc.2 i h0 h1;omega)) a2_0 a2_1 a3_0 a3_1
   have him:=impl_safe a0_0 a0_1 bl os (by omega) a2_0 a2_1 a3_0 a3_1
   rw [hR] at hsp him
   obtain ⟨kt,hkt⟩:=Ev.rounds htf
   obtain ⟨kq,hkq⟩:=Ev.rounds htq
   obtain ⟨ks,hks⟩:=Ev.rounds hsp
   obtain ⟨ke,hke⟩:=Ev.rounds (eq_F a0_0 a0_1 bl nb1)
   obtain ⟨kw,hkw⟩:=Ev.rounds (eq_CSS os hsc)
   obtain ⟨kr,hkr⟩:=Ev.rounds (eq_C R.1 (by omega))
   obtain ⟨xs,hmx⟩:=mark_F a0_0 a0_1 bl nb1
   obtain ⟨km,hkm⟩:=Ev.rounds hmx
   have htr:=tot2_cap (fun i hi=>hsc.2 (i : Int) (by omega) (by omega)) os.length (Nat.le_refl _)
   have hsl:=hsc.1
   obtain ⟨ys,hyl,⟨kn,hkn⟩,_⟩:=markC_rows (1 + 2 * (bl.length : Int)) (by omega) os (fun i hi=>hsc.2 (i : Int) (by omega) (by omega)) (by omega)
   have ht1:=tot2_mono os os.length
   obtain ⟨gs,hg1,hg2,hgl⟩:=mark_CK R.1 (by omega) 1 (by omega) (by omega)
   obtain ⟨kg,hkg⟩:=Ev.rounds hg1
   obtain ⟨kh,hkh⟩:=Ev.rounds hg2
   have KT:=Aside0.mk hkt
   have KQ:=Aside0.mk hkq
   have KP:=Aside0.mk hks
   have KI:=Aside0.mk him
   have KE:=Aside0.mk hke
   have KW:=Aside0.mk hkw
   have KR:=Aside0.mk hkr
   have KM:=Aside0.mk hkm
   have KN:=Aside0.mk hkn
   have KG:=Aside0.mk hkg
   have KH:=Aside0.mk hkh
   have HYL:=Aside0.mk hyl
   have HGL : Aside0 (gs.length = R.1.length):=⟨by omega⟩
   have hm1 : decide (1 + 2 * (bl.length : Int) + tot2 os os.length < 0) = false:=decide_eq_false (by omega)
   have hm2 : decide (1 + 2 * (R.1.length : Int) < 0) = false:=decide_eq_false (by omega)
   have hok : (R.2 != R.2) = false:=bne_self_eq_false R.2
   clear hsl h1 hsm hsr hsc hbl hos hR hRl htf htq hsp him hkt hkq hks hke hkw hkr hmx hkm htr hyl hkn ht1 hg1 hg2 hgl hkg hkh n1 nb1
   go_enter Try.func9,Try.ntmps9
   go_wp2_with (first|((with_reducible refine gate_dst (N:=4) rfl ?_);refine box_event ?hg (N:=4) ?hd (cs := #[.int .i64 a0_0,.int .i64 a0_1,.slice A0_2 l0_2.length c0_2]) (t:=24) ?hr ?_;(case hd=>rfl);(case hg=>rfl);(case hr=>first|(go_simp;done)|(go_simp;rfl));intro g4 hgg4 w1 hbox hb;have HB_1:=Aside0.mk (below_step HB_0.out hb);have CC_1:=Aside0.mk (Kd.C_below CC_0.out hb);have C1_1:=Aside0.mk (Kd.C_below C1_0.out hb);have Hg4_1:=Aside0.mk hbox;have Gg4 : Aside0 (g4 = _):=Aside0.mk hgg4;have fg40_1 : w1.cell? ⟨g4,0,none⟩ = some (.int .i64 a0_0):=(blk_cell Hg4_1.out 0).trans rfl;have fg41_1 : w1.cell? ⟨g4,1,none⟩ = some (.int .i64 a0_1):=(blk_cell Hg4_1.out 1).trans rfl;have fg42_1 : w1.cell? ⟨g4,2,none⟩ = some (.slice A0_2 l0_2.length c0_2):=(blk_cell Hg4_1.out 2).trans rfl;clear hbox hb hgg4)|((with_reducible refine gate_dst (N:=6) rfl ?_);refine box_event ?hg (N:=6) ?hd (cs := #[.int .i64 a2_0,.int .i64 a2_1]) (t:=44) ?hr ?_;(case hd=>rfl);(case hg=>rfl);(case hr=>first|(go_simp;done)|(go_simp;rfl));intro g6 hgg6 w2 hbox hb;have HB_2:=Aside0.mk (below_step HB_1.out hb);have CC_2:=Aside0.mk (Kd.C_below CC_1.out hb);have C1_2:=Aside0.mk (Kd.C_below C1_1.out hb);have Hg4_2:=Aside0.mk (blk_below Hg4_1.out hb);have Hg6_2:=Aside0.mk hbox;have Gg6 : Aside0 (g6 = _):=Aside0.mk hgg6;have fg40_2 : w2.cell? ⟨g4,0,none⟩ = some (.int .i64 a0_0):=(blk_cell Hg4_2.out 0).trans rfl;have fg41_2 : w2.cell? ⟨g4,1,none⟩ = some (.int .i64 a0_1):=(blk_cell Hg4_2.out 1).trans rfl;have fg42_2 : w2.cell? ⟨g4,2,none⟩ = some (.slice A0_2 l0_2.length c0_2):=(blk_cell Hg4_2.out 2).trans rfl;have fg60_2 : w2.cell? ⟨g6,0,none⟩ = some (.int .i64 a2_0):=(blk_cell Hg6_2.out 0).trans rfl;have fg61_2 : w2.cell? ⟨g6,1,none⟩ = some (.int .i64 a2_1):=(blk_cell Hg6_2.out 1).trans rfl;clear hbox hb hgg6)|((with_reducible refine gate_dst (N:=7) rfl ?_);refine box_event ?hg (N:=7) ?hd (cs := #[.int .i64 a3_0,.int .i64 a3_1]) (t:=44) ?hr ?_;(case hd=>rfl);(case hg=>rfl);(case hr=>first|(go_simp;done)|(go_simp;rfl));intro g7 hgg7 w3 hbox hb;have HB_3:=Aside0.mk (below_step HB_2.out hb);have CC_3:=Aside0.mk (Kd.C_below CC_2.out hb);have C1_3:=Aside0.mk (Kd.C_below C1_2.out hb);have Hg4_3:=Aside0.mk (blk_below Hg4_2.out hb);have Hg6_3:=Aside0.mk (blk_below Hg6_2.out hb);have Hg7_3:=Aside0.mk hbox;have Gg7 : Aside0 (g7 = _):=Aside0.mk hgg7;have fg40_3 : w3.cell? ⟨g4,0,none⟩ = some (.int .i64 a0_0):=(blk_cell Hg4_3.out 0).trans rfl;have fg41_3 : w3.cell? ⟨g4,1,none⟩ = some (.int .i64 a0_1):=(blk_cell Hg4_3.out 1).trans rfl;have fg42_3 : w3.cell? ⟨g4,2,none⟩ = some (.slice A0_2 l0_2.length c0_2):=(blk_cell Hg4_3.out 2).trans rfl;have fg60_3 : w3.cell? ⟨g6,0,none⟩ = some (.int .i64 a2_0):=(blk_cell Hg6_3.out 0).trans rfl;have fg61_3 : w3.cell? ⟨g6,1,none⟩ = some (.int .i64 a2_1):=(blk_cell Hg6_3.out 1).trans rfl;have fg70_3 : w3.cell? ⟨g7,0,none⟩ = some (.int .i64 a3_0):=(blk_cell Hg7_3.out 0).trans rfl;have fg71_3 : w3.cell? ⟨g7,1,none⟩ = some (.int .i64 a3_1):=(blk_cell Hg7_3.out 1).trans rfl;clear hbox hb hgg7)|(go_at_call 13;(with_reducible refine (laws_szFloor.calls a0_0 a0_1 A0_2 c0_2 l0_2 1048576 sz _ CC_3.out hc0_2 KS.out).mono ?_);rintro e w4 ⟨rfl,hB⟩;have HB_4:=Aside0.mk (below_step HB_3.out hB);have CC_4:=Aside0.mk (Kd.C_below CC_3.out hB);have C1_4:=Aside0.mk (Kd.C_below C1_3.out hB);have Hg4_4:=Aside0.mk (blk_below Hg4_3.out hB);have Hg6_4:=Aside0.mk (blk_below Hg6_3.out hB);have Hg7_4:=Aside0.mk (blk_below Hg7_3.out hB);have fg40_4 : w4.cell? ⟨g4,0,none⟩ = some (.int .i64 a0_0):=(blk_cell Hg4_4.out 0).trans rfl;have fg41_4 : w4.cell? ⟨g4,1,none⟩ = some (.int .i64 a0_1):=(blk_cell Hg4_4.out 1).trans rfl;have fg42_4 : w4.cell? ⟨g4,2,none⟩ = some (.slice A0_2 l0_2.length c0_2):=(blk_cell Hg4_4.out 2).trans rfl;have fg60_4 : w4.cell? ⟨g6,0,none⟩ = some (.int .i64 a2_0):=(blk_cell Hg6_4.out 0).trans rfl;have fg61_4 : w4.cell? ⟨g6,1,none⟩ = some (.int .i64 a2_1):=(blk_cell Hg6_4.out 1).trans rfl;have fg70_4 : w4.cell? ⟨g7,0,none⟩ = some (.int .i64 a3_0):=(blk_cell Hg7_4.out 0).trans rfl;have fg71_4 : w4.cell? ⟨g7,1,none⟩ = some (.int .i64 a3_1):=(blk_cell Hg7_4.out 1).trans rfl;clear hB)|(go_at_call 38;(with_reducible refine (laws_szCellSS.calls kz A1 c1 l1 sz sy _ C1_4.out hc1 KZ.out).mono ?_);rintro e w5 ⟨rfl,hd⟩;have hB:=hd.below;clear hd;have HB_5:=Aside0.mk (below_step HB_4.out hB);have CC_5:=Aside0.mk (Kd.C_below CC_4.out hB);have C1_5:=Aside0.mk (Kd.C_below C1_4.out hB);have Hg4_5:=Aside0.mk (blk_below Hg4_4.out hB);have Hg6_5:=Aside0.mk (blk_below Hg6_4.out hB);have Hg7_5:=Aside0.mk (blk_below Hg7_4.out hB);have fg40_5 : w5.cell? ⟨g4,0,none⟩ = some (.int .i64 a0_0):=(blk_cell Hg4_5.out 0).trans rfl;have fg41_5 : w5.cell? ⟨g4,1,none⟩ = some (.int .i64 a0_1):=(blk_cell Hg4_5.out 1).trans rfl;have fg42_5 : w5.cell? ⟨g4,2,none⟩ = some (.slice A0_2 l0_2.length c0_2):=(blk_cell Hg4_5.out 2).trans rfl;have fg60_5 : w5.cell? ⟨g6,0,none⟩ = some (.int .i64 a2_0):=(blk_cell Hg6_5.out 0).trans rfl;have fg61_5 : w5.cell? ⟨g6,1,none⟩ = some (.int .i64 a2_1):=(blk_cell Hg6_5.out 1).trans rfl;have fg70_5 : w5.cell? ⟨g7,0,none⟩ = some (.int .i64 a3_0):=(blk_cell Hg7_5.out 0).trans rfl;have fg71_5 : w5.cell? ⟨g7,1,none⟩ = some (.int .i64 a3_1):=(blk_cell Hg7_5.out 1).trans rfl;clear hB))
   have HB_6:=Aside0.mk (below_step HB_5.out (below_drew1 (Below.refl _ _)))
   have CC_6:=Aside0.mk (Kd.C_below CC_5.out (below_drew1 (Below.refl _ _)))
   have C1_6:=Aside0.mk (Kd.C_below C1_5.out (below_drew1 (Below.refl _ _)))
   have Hg4_6:=Aside0.mk (blk_below Hg4_5.out (below_drew1 (Below.refl _ _)))
   have Hg6_6:=Aside0.mk (blk_below Hg6_5.out (below_drew1 (Below.refl _ _)))
   have Hg7_6:=Aside0.mk (blk_below Hg7_5.out (below_drew1 (Below.refl _ _)))
   have fg40_6 : w5.drew.cell? ⟨g4,0,none⟩ = some (.int .i64 a0_0):=(blk_cell Hg4_6.out 0).trans rfl
   have fg41_6 : w5.drew.cell? ⟨g4,1,none⟩ = some (.int .i64 a0_1):=(blk_cell Hg4_6.out 1).trans rfl
   have fg42_6 : w5.drew.cell? ⟨g4,2,none⟩ = some (.slice A0_2 l0_2.length c0_2):=(blk_cell Hg4_6.out 2).trans rfl
   have fg60_6 : w5.drew.cell? ⟨g6,0,none⟩ = some (.int .i64 a2_0):=(blk_cell Hg6_6.out 0).trans rfl
   have fg61_6 : w5.drew.cell? ⟨g6,1,none⟩ = some (.int .i64 a2_1):=(blk_cell Hg6_6.out 1).trans rfl
   have fg70_6 : w5.drew.cell? ⟨g7,0,none⟩ = some (.int .i64 a3_0):=(blk_cell Hg7_6.out 0).trans rfl
   have fg71_6 : w5.drew.cell? ⟨g7,1,none⟩ = some (.int .i64 a3_1):=(blk_cell Hg7_6.out 1).trans rfl
   refine start_ (n:=14) (S:=fun w'=>w'.cell? ⟨g4,0,none⟩ = some (.int .i64 a0_0) ∧ w'.cell? ⟨g4,1,none⟩ = some (.int .i64 a0_1) ∧ w'.cell? ⟨g4,2,none⟩ = some (.slice A0_2 l0_2.length c0_2) ∧ w'.cell? ⟨g6,0,none⟩ = some (.int .i64 a2_0) ∧ w'.cell? ⟨g6,1,none⟩ = some (.int .i64 a2_1) ∧ w'.cell? ⟨g7,0,none⟩ = some (.int .i64 a3_0) ∧ w'.cell? ⟨g7,1,none⟩ = some (.int .i64 a3_1)) (ds:=[7,8]) #[false,false,false,false,false,false,false,false,false,false,false,false,false,false] (by kernel_rfl) rfl rfl ⟨fg40_6,fg41_6,fg42_6,fg60_6,fg61_6,fg70_6,fg71_6⟩ (fun hHeld=>?_)
   generalize w5.drew = w6 at HB_6 CC_6 C1_6 Hg4_6 Hg6_6 Hg7_6 fg40_6 fg41_6 fg42_6 fg60_6 fg61_6 fg70_6 fg71_6 hHeld ⊢
   refine zzt 0 32 (zzb 14 1) hHeld ?_ (hy:=by intro w' s0;obtain ⟨q0,q1,q2,q3,q4,q5,q6⟩:=s0;go_simp;with_reducible rfl);refine zzp 2 34 (zzb 14 5) ?_
   refine zzt 4 36 (zzb 14 21) hHeld ?_ (hy:=by intro w' s0;obtain ⟨q0,q1,q2,q3,q4,q5,q6⟩:=s0;go_simp;with_reducible rfl)
   refine zzt 6 38 (zzb 14 85) hHeld ?_ (hy:=by intro w' s0;obtain ⟨q0,q1,q2,q3,q4,q5,q6⟩:=s0;go_simp;with_reducible rfl)
   refine one_ (i:=1) (N:=(some 33)) #[true,true,true,false,true,false,true,false,false,false,false,false,false,false] rfl rfl (by kernel_rfl) (by decide) (fun K hK=>?_)
   refine call_ 15 #[.agg #[.int .i64 a0_0,.int .i64 a0_1,.slice A0_2 l0_2.length c0_2]] (by rfl) rfl ?hr33_1 ?_
   case hr33_1 =>
    unfold execOp
    simp [resolve,Deferred.ofValue,invoke,Act.eval,enters_ Try.func15 (by kernel_rfl) rfl]
   refine (laws_toFloor.calls kt a0_0 a0_1 A0_2 c0_2 l0_2 a0_0 a0_1 bl _ CC_6.out hc0_2 KT.out).mono ?_
   rintro e w7 ⟨v8,rfl,hR,hB⟩
   refine ⟨_,rfl,?_⟩
   have HB_7:=Aside0.mk (below_step HB_6.out hB)
   have CC_7:=Aside0.mk (Kd.C_below CC_6.out hB)
   have C1_7:=Aside0.mk (Kd.C_below C1_6.out hB)
   have Hg4_7:=Aside0.mk (blk_below Hg4_6.out hB)
   have Hg6_7:=Aside0.mk (blk_below Hg6_6.out hB)
   have Hg7_7:=Aside0.mk (blk_below Hg7_6.out hB)
   obtain ⟨A8,c8,rfl⟩:=Kd.R_slice hR
   have CX8_7:=Aside0.mk (Kd.R_reads' hR).2.2
   have LX8:=Aside0.mk (Kd.R_reads' hR).2.1
   clear hR
   have fg40_7 : w7.cell? ⟨g4,0,none⟩ = some (.int .i64 a0_0):=(blk_cell Hg4_7.out 0).trans rfl
   have fg41_7 : w7.cell? ⟨g4,1,none⟩ = some (.int .i64 a0_1):=(blk_cell Hg4_7.out 1).trans rfl
   have fg42_7 : w7.cell? ⟨g4,2,none⟩ = some (.slice A0_2 l0_2.length c0_2):=(blk_cell Hg4_7.out 2).trans rfl
   have fg60_7 : w7.cell? ⟨g6,0,none⟩ = some (.int .i64 a2_0):=(blk_cell Hg6_7.out 0).trans rfl
   have fg61_7 : w7.cell? ⟨g6,1,none⟩ = some (.int .i64 a2_1):=(blk_cell Hg6_7.out 1).trans rfl
   have fg70_7 : w7.cell? ⟨g7,0,none⟩ = some (.int .i64 a3_0):=(blk_cell Hg7_7.out 0).trans rfl
   have fg71_7 : w7.cell? ⟨g7,1,none⟩ = some (.int .i64 a3_1):=(blk_cell Hg7_7.out 1).trans rfl
   clear hB
   refine hK.out _ _ ⟨fg40_7,fg41_7,fg42_7,fg60_7,fg61_7,fg70_7,fg71_7⟩ (fun hHeld=>?_)
   clear hK K
   refine zzn 33 ?_
   refine one_ (i:=3) (N:=(some 35)) #[true,true,true,true,true,false,true,false,false,false,false,false,false,false] rfl rfl (by kernel_rfl) (by decide) (fun K hK=>?_)
   refine call_ 40 #[.slice A1 l1.length c1] (by rfl) rfl ?hr35_3 ?_
   case hr35_3 =>
    unfold execOp
    simp [resolve,Deferred.ofValue,invoke,Act.eval,enters_ Try.func40 (by kernel_rfl) rfl]
   refine (laws_toCellSS.calls kq A1 c1 l1 os _ C1_7.out hc1 KQ.out).mono ?_
   rintro e w8 ⟨v9,rfl,hS,hB⟩
   refine ⟨_,rfl,?_⟩
   have HB_8:=Aside0.mk (below_step HB_7.out hB)
   have CC_8:=Aside0.mk (Kd.C_below CC_7.out hB)
   have C1_8:=Aside0.mk (Kd.C_below C1_7.out hB)
   have Hg4_8:=Aside0.mk (blk_below Hg4_7.out hB)
   have Hg6_8:=Aside0.mk (blk_below Hg6_7.out hB)
   have Hg7_8:=Aside0.mk (blk_below Hg7_7.out hB)
   have CX8_8:=Aside0.mk (Kd.C_below CX8_7.out hB)
   obtain ⟨A9,c9,rfl⟩:=Kd.S_slice hS
   have CX9_8:=Aside0.mk (Kd.S_reads' hS).2.2
   have LX9:=Aside0.mk (Kd.S_reads' hS).2.1
   clear hS
   have fg40_8 : w8.cell? ⟨g4,0,none⟩ = some (.int .i64 a0_0):=(blk_cell Hg4_8.out 0).trans rfl
   have fg41_8 : w8.cell? ⟨g4,1,none⟩ = some (.int .i64 a0_1):=(blk_cell Hg4_8.out 1).trans rfl
   have fg42_8 : w8.cell? ⟨g4,2,none⟩ = some (.slice A0_2 l0_2.length c0_2):=(blk_cell Hg4_8.out 2).trans rfl
   have fg60_8 : w8.cell? ⟨g6,0,none⟩ = some (.int .i64 a2_0):=(blk_cell Hg6_8.out 0).trans rfl
   have fg61_8 : w8.cell? ⟨g6,1,none⟩ = some (.int .i64 a2_1):=(blk_cell Hg6_8.out 1).trans rfl
   have fg70_8 : w8.cell? ⟨g7,0,none⟩ = some (.int .i64 a3_0):=(blk_cell Hg7_8.out 0).trans rfl
   have fg71_8 : w8.cell? ⟨g7,1,none⟩ = some (.int .i64 a3_1):=(blk_cell Hg7_8.out 1).trans rfl
   clear hB
   refine hK.out _ _ ⟨fg40_8,fg41_8,fg42_8,fg60_8,fg61_8,fg70_8,fg71_8⟩ (fun hHeld=>?_)
   clear hK K
   refine zzn 35 ?_
   refine one_ (i:=5) (N:=(some 37)) #[true,true,true,true,true,true,true,false,false,false,false,false,false,false] rfl rfl (by kernel_rfl) (by decide) (fun K hK=>?_)
   refine call_ 28 #[.agg #[.int .i64 a2_0,.int .i64 a2_1]] (by rfl) rfl ?hr37_5 ?_
   case hr37_5 =>
    unfold execOp
    simp [resolve,Deferred.ofValue,invoke,Act.eval,enters_ Try.func28 (by kernel_rfl) rfl]
   refine (laws_toCell.calls a2_0 a2_1 a2_0 a2_1 _ rfl).mono ?_
   rintro e w9 ⟨rfl,hB⟩
   refine ⟨_,rfl,?_⟩
   have HB_9:=Aside0.mk (below_step HB_8.out hB)
   have CC_9:=Aside0.mk (Kd.C_below CC_8.out hB)
   have C1_9:=Aside0.mk (Kd.C_below C1_8.out hB)
   have Hg4_9:=Aside0.mk (blk_below Hg4_8.out hB)
   have Hg6_9:=Aside0.mk (blk_below Hg6_8.out hB)
   have Hg7_9:=Aside0.mk (blk_below Hg7_8.out hB)
   have CX8_9:=Aside0.mk (Kd.C_below CX8_8.out hB)
   have CX9_9:=Aside0.mk (Kd.C_below CX9_8.out hB)
   have fg40_9 : w9.cell? ⟨g4,0,none⟩ = some (.int .i64 a0_0):=(blk_cell Hg4_9.out 0).trans rfl
   have fg41_9 : w9.cell? ⟨g4,1,none⟩ = some (.int .i64 a0_1):=(blk_cell Hg4_9.out 1).trans rfl
   have fg42_9 : w9.cell? ⟨g4,2,none⟩ = some (.slice A0_2 l0_2.length c0_2):=(blk_cell Hg4_9.out 2).trans rfl
   have fg60_9 : w9.cell? ⟨g6,0,none⟩ = some (.int .i64 a2_0):=(blk_cell Hg6_9.out 0).trans rfl
   have fg61_9 : w9.cell? ⟨g6,1,none⟩ = some (.int .i64 a2_1):=(blk_cell Hg6_9.out 1).trans rfl
   have fg70_9 : w9.cell? ⟨g7,0,none⟩ = some (.int .i64 a3_0):=(blk_cell Hg7_9.out 0).trans rfl
   have fg71_9 : w9.cell? ⟨g7,1,none⟩ = some (.int .i64 a3_1):=(blk_cell Hg7_9.out 1).trans rfl
   clear hB
   refine hK.out _ _ ⟨fg40_9,fg41_9,fg42_9,fg60_9,fg61_9,fg70_9,fg71_9⟩ (fun hHeld=>?_)
   clear hK K
   refine zzn 37 ?_
   refine last_ (i:=7) (N:=(some 39)) #[true,true,true,true,true,true,true,true,false,false,false,false,false,false] rfl rfl (by kernel_rfl) (by decide) (fun K hK=>?_)
   refine call_ 28 #[.agg #[.int .i64 a3_0,.int .i64 a3_1]] (by rfl) rfl ?hr39_7 ?_
   case hr39_7 =>
    unfold execOp
    simp [resolve,Deferred.ofValue,invoke,Act.eval,enters_ Try.func28 (by kernel_rfl) rfl]
   refine (laws_toCell.calls a3_0 a3_1 a3_0 a3_1 _ rfl).mono ?_
   rintro e w10 ⟨rfl,hB⟩
   refine ⟨_,rfl,?_⟩
   have HB_10:=Aside0.mk (below_step HB_9.out hB)
   have CC_10:=Aside0.mk (Kd.C_below CC_9.out hB)
   have C1_10:=Aside0.mk (Kd.C_below C1_9.out hB)
   have Hg4_10:=Aside0.mk (blk_below Hg4_9.out hB)
   have Hg6_10:=Aside0.mk (blk_below Hg6_9.out hB)
   have Hg7_10:=Aside0.mk (blk_below Hg7_9.out hB)
   have CX8_10:=Aside0.mk (Kd.C_below CX8_9.out hB)
   have CX9_10:=Aside0.mk (Kd.C_below CX9_9.out hB)
   have fg40_10 : w10.cell? ⟨g4,0,none⟩ = some (.int .i64 a0_0):=(blk_cell Hg4_10.out 0).trans rfl
   have fg41_10 : w10.cell? ⟨g4,1,none⟩ = some (.int .i64 a0_1):=(blk_cell Hg4_10.out 1).trans rfl
   have fg42_10 : w10.cell? ⟨g4,2,none⟩ = some (.slice A0_2 l0_2.length c0_2):=(blk_cell Hg4_10.out 2).trans rfl
   have fg60_10 : w10.cell? ⟨g6,0,none⟩ = some (.int .i64 a2_0):=(blk_cell Hg6_10.out 0).trans rfl
   have fg61_10 : w10.cell? ⟨g6,1,none⟩ = some (.int .i64 a2_1):=(blk_cell Hg6_10.out 1).trans rfl
   have fg70_10 : w10.cell? ⟨g7,0,none⟩ = some (.int .i64 a3_0):=(blk_cell Hg7_10.out 0).trans rfl
   have fg71_10 : w10.cell? ⟨g7,1,none⟩ = some (.int .i64 a3_1):=(blk_cell Hg7_10.out 1).trans rfl
   clear hB
   refine hK.out _ _ ?_
   clear hK K
   refine zzn 39 ?_
   refine last_ (i:=8) (N:=(some 40)) #[true,true,true,true,true,true,true,true,true,false,false,false,false,false] rfl rfl (by kernel_rfl) (by decide) (fun K hK=>?_)
   refine call_ 39 #[.agg #[.int .i64 a0_0,.int .i64 a0_1,.slice A8 bl.length c8],.slice A9 os.length c9,.agg #[.int .i64 a2_0,.int .i64 a2_1],.agg #[.int .i64 a3_0,.int .i64 a3_1]] (by rfl) rfl ?hr40_8 ?_
   case hr40_8 =>
    unfold execOp
    simp [resolve,Deferred.ofValue,invoke,Act.eval,enters_ Try.func39 (by kernel_rfl) rfl]
   refine (spec_SafePath.calls ks a0_0 a0_1 A8 c8 bl A9 c9 os a2_0 a2_1 a3_0 a3_1 R.1 R.2 _ CX8_10.out LX8.out CX9_10.out LX9.out KP.out).mono ?_
   rintro e w11 ⟨v10,rfl,hR,hB⟩
   refine ⟨_,rfl,?_⟩
   have HB_11:=Aside0.mk (below_step HB_10.out hB)
   have CC_11:=Aside0.mk (Kd.C_below CC_10.out hB)
   have C1_11:=Aside0.mk (Kd.C_below C1_10.out hB)
   have Hg4_11:=Aside0.mk (blk_below Hg4_10.out hB)
   have Hg6_11:=Aside0.mk (blk_below Hg6_10.out hB)
   have Hg7_11:=Aside0.mk (blk_below Hg7_10.out hB)
   have CX8_11:=Aside0.mk (Kd.C_below CX8_10.out hB)
   have CX9_11:=Aside0.mk (Kd.C_below CX9_10.out hB)
   obtain ⟨A10,c10,rfl⟩:=Kd.R_slice hR
   have RW_11:=Aside0.mk (Kd.R_mono (Kd.R_bound hR) (fun k hk=>(hk.2.2.1 : k < w11.heap.size)))
   clear hR
   have Lg4 : Aside0 (g4 < w11.heap.size):=Aside0.mk (blk_lt Hg4_11.out)
   have Lg6 : Aside0 (g6 < w11.heap.size):=Aside0.mk (blk_lt Hg6_11.out)
   have Lg7 : Aside0 (g7 < w11.heap.size):=Aside0.mk (blk_lt Hg7_11.out)
   have fg40_11 : w11.cell? ⟨g4,0,none⟩ = some (.int .i64 a0_0):=(blk_cell Hg4_11.out 0).trans rfl
   have fg41_11 : w11.cell? ⟨g4,1,none⟩ = some (.int .i64 a0_1):=(blk_cell Hg4_11.out 1).trans rfl
   have fg42_11 : w11.cell? ⟨g4,2,none⟩ = some (.slice A0_2 l0_2.length c0_2):=(blk_cell Hg4_11.out 2).trans rfl
   have fg60_11 : w11.cell? ⟨g6,0,none⟩ = some (.int .i64 a2_0):=(blk_cell Hg6_11.out 0).trans rfl
   have fg61_11 : w11.cell? ⟨g6,1,none⟩ = some (.int .i64 a2_1):=(blk_cell Hg6_11.out 1).trans rfl
   have fg70_11 : w11.cell? ⟨g7,0,none⟩ = some (.int .i64 a3_0):=(blk_cell Hg7_11.out 0).trans rfl
   have fg71_11 : w11.cell? ⟨g7,1,none⟩ = some (.int .i64 a3_1):=(blk_cell Hg7_11.out 1).trans rfl
   clear hB
   refine hK.out _ _ ?_
   clear hK K
   refine zzn 40 ?_;refine zzp 9 31 (zzb 14 1023) ?_;refine zzp 10 41 (zzb 14 2047) ?_;refine zzp 11 42 (zzb 14 4095) ?_;refine zzp 12 10 (zzb 14 8191) ?_;refine zzp 13 11 (zzb 14 16383) ?_
   refine done_ (by kernel_rfl) ?_
   go_wp2_with (first|(go_at_call 15;(with_reducible refine (laws_toFloor.calls kt a0_0 a0_1 A0_2 c0_2 l0_2 a0_0 a0_1 bl _ CC_11.out hc0_2 KT.out).mono ?_);rintro e w12 ⟨v11,rfl,hR,hB⟩;have HB_12:=Aside0.mk (below_step HB_11.out hB);have CC_12:=Aside0.mk (Kd.C_below CC_11.out hB);have C1_12:=Aside0.mk (Kd.C_below C1_11.out hB);have Hg4_12:=Aside0.mk (blk_below Hg4_11.out hB);have Hg6_12:=Aside0.mk (blk_below Hg6_11.out hB);have Hg7_12:=Aside0.mk (blk_below Hg7_11.out hB);have RW_12:=Aside0.mk (Kd.R_below RW_11.out hB);obtain ⟨A11,c11,rfl⟩:=Kd.R_slice hR;have RX_12:=Aside0.mk (Kd.R_mono (Kd.R_bound hR) (fun k hk=>(⟨hk.2.1,hk.2.2.1⟩ : w11.heap.size ≤ k ∧ k < w12.heap.size)));have Z1011 : Aside0 (w11.heap.size ≤ w12.heap.size):=Aside0.mk hB.size;clear hR;have fg40_12 : w12.cell? ⟨g4,0,none⟩ = some (.int .i64 a0_0):=(blk_cell Hg4_12.out 0).trans rfl;have fg41_12 : w12.cell? ⟨g4,1,none⟩ = some (.int .i64 a0_1):=(blk_cell Hg4_12.out 1).trans rfl;have fg42_12 : w12.cell? ⟨g4,2,none⟩ = some (.slice A0_2 l0_2.length c0_2):=(blk_cell Hg4_12.out 2).trans rfl;have fg60_12 : w12.cell? ⟨g6,0,none⟩ = some (.int .i64 a2_0):=(blk_cell Hg6_12.out 0).trans rfl;have fg61_12 : w12.cell? ⟨g6,1,none⟩ = some (.int .i64 a2_1):=(blk_cell Hg6_12.out 1).trans rfl;have fg70_12 : w12.cell? ⟨g7,0,none⟩ = some (.int .i64 a3_0):=(blk_cell Hg7_12.out 0).trans rfl;have fg71_12 : w12.cell? ⟨g7,1,none⟩ = some (.int .i64 a3_1):=(blk_cell Hg7_12.out 1).trans rfl;clear hB)|((with_reducible refine gate_dst (N:=12) rfl ?_);refine box_event ?hg (N:=12) ?hd (cs := #[.int .i64 0,.int .i64 0,.slice none 0 0]) (t:=29) ?hr ?_;(case hd=>rfl);(case hg=>rfl);(case hr=>first|(go_simp;done)|(go_simp;rfl));intro g12 hgg12 w13 hbox hb;have HB_13:=Aside0.mk (below_step HB_12.out hb);have CC_13:=Aside0.mk (Kd.C_below CC_12.out hb);have C1_13:=Aside0.mk (Kd.C_below C1_12.out hb);have Hg4_13:=Aside0.mk (blk_below Hg4_12.out hb);have Hg6_13:=Aside0.mk (blk_below Hg6_12.out hb);have Hg7_13:=Aside0.mk (blk_below Hg7_12.out hb);have RW_13:=Aside0.mk (Kd.R_below RW_12.out hb);have RX_13:=Aside0.mk (Kd.R_below RX_12.out hb);have Hg12_13:=Aside0.mk hbox;have Gg12 : Aside0 (g12 = _):=Aside0.mk hgg12;have hz80 : w13.cell? ⟨g12,0,none⟩ = some (.int .i64 0):=(blk_cell Hg12_13.out 0).trans rfl;have hy80:=blk_frozen Hg12_13.out 0;have hz81 : w13.cell? ⟨g12,1,none⟩ = some (.int .i64 0):=(blk_cell Hg12_13.out 1).trans rfl;have hy81:=blk_frozen Hg12_13.out 1;have hz82 : w13.cell? ⟨g12,2,none⟩ = some (.slice none 0 0):=(blk_cell Hg12_13.out 2).trans rfl;have hy82:=blk_frozen Hg12_13.out 2;have B12:=Aside0.mk (below_set (j:=2) (v := .slice A11 bl.length c11) (below_set (j:=1) (v := .int .i64 a0_1) (below_set (j:=0) (v := .int .i64 a0_0) hb (Nat.le_of_eq Gg12.out.symm)) (Nat.le_of_eq Gg12.out.symm)) (Nat.le_of_eq Gg12.out.symm));clear hbox hb hgg12))
   have HB_14:=Aside0.mk (below_step HB_12.out B12.out)
   have CC_14:=Aside0.mk (Kd.C_below CC_12.out B12.out)
   have C1_14:=Aside0.mk (Kd.C_below C1_12.out B12.out)
   have Hg4_14:=Aside0.mk (blk_below Hg4_12.out B12.out)
   have Hg6_14:=Aside0.mk (blk_below Hg6_12.out B12.out)
   have Hg7_14:=Aside0.mk (blk_below Hg7_12.out B12.out)
   have RW_14:=Aside0.mk (Kd.R_below RW_12.out B12.out)
   have RX_14:=Aside0.mk (Kd.R_below RX_12.out B12.out)
   have Hg12_14 : Aside0 ((((w13.setCell ⟨g12,0,none⟩ (.int .i64 a0_0)).setCell ⟨g12,1,none⟩ (.int .i64 a0_1)).setCell ⟨g12,2,none⟩ (.slice A11 bl.length c11)).heap[g12]? = some (.cells #[.int .i64 a0_0,.int .i64 a0_1,.slice A11 bl.length c11] 29 (0,0))):=Aside0.mk (blk_put (cs := #[.int .i64 a0_0,.int .i64 a0_1,.slice none 0 0]) (blk_put (cs := #[.int .i64 a0_0,.int .i64 0,.slice none 0 0]) (blk_put (cs := #[.int .i64 0,.int .i64 0,.slice none 0 0]) Hg12_13.out 0 _ rfl) 1 _ rfl) 2 _ rfl)
   have Z1112 : Aside0 (w12.heap.size ≤ (((w13.setCell ⟨g12,0,none⟩ (.int .i64 a0_0)).setCell ⟨g12,1,none⟩ (.int .i64 a0_1)).setCell ⟨g12,2,none⟩ (.slice A11 bl.length c11)).heap.size):=Aside0.mk B12.out.size
   clear B12
   generalize (((w13.setCell ⟨g12,0,none⟩ (.int .i64 a0_0)).setCell ⟨g12,1,none⟩ (.int .i64 a0_1)).setCell ⟨g12,2,none⟩ (.slice A11 bl.length c11)) = w14 at Z1112 HB_14 CC_14 C1_14 Hg4_14 Hg6_14 Hg7_14 RW_14 RX_14 Hg12_14 ⊢
   have fg40_14 : w14.cell? ⟨g4,0,none⟩ = some (.int .i64 a0_0):=(blk_cell Hg4_14.out 0).trans rfl
   have fg41_14 : w14.cell? ⟨g4,1,none⟩ = some (.int .i64 a0_1):=(blk_cell Hg4_14.out 1).trans rfl
   have fg42_14 : w14.cell? ⟨g4,2,none⟩ = some (.slice A0_2 l0_2.length c0_2):=(blk_cell Hg4_14.out 2).trans rfl
   have fg60_14 : w14.cell? ⟨g6,0,none⟩ = some (.int .i64 a2_0):=(blk_cell Hg6_14.out 0).trans rfl
   have fg61_14 : w14.cell? ⟨g6,1,none⟩ = some (.int .i64 a2_1):=(blk_cell Hg6_14.out 1).trans rfl
   have fg70_14 : w14.cell? ⟨g7,0,none⟩ = some (.int .i64 a3_0):=(blk_cell Hg7_14.out 0).trans rfl
   have fg71_14 : w14.cell? ⟨g7,1,none⟩ = some (.int .i64 a3_1):=(blk_cell Hg7_14.out 1).trans rfl
   have fg120_14 : w14.cell? ⟨g12,0,none⟩ = some (.int .i64 a0_0):=(blk_cell Hg12_14.out 0).trans rfl
   have fg121_14 : w14.cell? ⟨g12,1,none⟩ = some (.int .i64 a0_1):=(blk_cell Hg12_14.out 1).trans rfl
   have fg122_14 : w14.cell? ⟨g12,2,none⟩ = some (.slice A11 bl.length c11):=(blk_cell Hg12_14.out 2).trans rfl
   go_wp2_with (first|(go_at_call 40;(with_reducible refine (laws_toCellSS.calls kq A1 c1 l1 os _ C1_14.out hc1 KQ.out).mono ?_);rintro e w15 ⟨v13,rfl,hS,hB⟩;have HB_15:=Aside0.mk (below_step HB_14.out hB);have CC_15:=Aside0.mk (Kd.C_below CC_14.out hB);have C1_15:=Aside0.mk (Kd.C_below C1_14.out hB);have Hg4_15:=Aside0.mk (blk_below Hg4_14.out hB);have Hg6_15:=Aside0.mk (blk_below Hg6_14.out hB);have Hg7_15:=Aside0.mk (blk_below Hg7_14.out hB);have RW_15:=Aside0.mk (Kd.R_below RW_14.out hB);have RX_15:=Aside0.mk (Kd.R_below RX_14.out hB);have Hg12_15:=Aside0.mk (blk_below Hg12_14.out hB);obtain ⟨A13,c13,rfl⟩:=Kd.S_slice hS;have SX_15:=Aside0.mk (Kd.S_mono (Kd.S_bound hS) (fun k hk=>(⟨hk.2.1,hk.2.2.1⟩ : w14.heap.size ≤ k ∧ k < w15.heap.size)));have Z13 : Aside0 (w14.heap.size ≤ w15.heap.size):=Aside0.mk hB.size;have LG12 : Aside0 (g12 < w14.heap.size):=Aside0.mk (blk_lt Hg12_14.out);clear hS;have fg40_15 : w15.cell? ⟨g4,0,none⟩ = some (.int .i64 a0_0):=(blk_cell Hg4_15.out 0).trans rfl;have fg41_15 : w15.cell? ⟨g4,1,none⟩ = some (.int .i64 a0_1):=(blk_cell Hg4_15.out 1).trans rfl;have fg42_15 : w15.cell? ⟨g4,2,none⟩ = some (.slice A0_2 l0_2.length c0_2):=(blk_cell Hg4_15.out 2).trans rfl;have fg60_15 : w15.cell? ⟨g6,0,none⟩ = some (.int .i64 a2_0):=(blk_cell Hg6_15.out 0).trans rfl;have fg61_15 : w15.cell? ⟨g6,1,none⟩ = some (.int .i64 a2_1):=(blk_cell Hg6_15.out 1).trans rfl;have fg70_15 : w15.cell? ⟨g7,0,none⟩ = some (.int .i64 a3_0):=(blk_cell Hg7_15.out 0).trans rfl;have fg71_15 : w15.cell? ⟨g7,1,none⟩ = some (.int .i64 a3_1):=(blk_cell Hg7_15.out 1).trans rfl;have fg120_15 : w15.cell? ⟨g12,0,none⟩ = some (.int .i64 a0_0):=(blk_cell Hg12_15.out 0).trans rfl;have fg121_15 : w15.cell? ⟨g12,1,none⟩ = some (.int .i64 a0_1):=(blk_cell Hg12_15.out 1).trans rfl;have fg122_15 : w15.cell? ⟨g12,2,none⟩ = some (.slice A11 bl.length c11):=(blk_cell Hg12_15.out 2).trans rfl;clear hB))
   have HB_16:=Aside0.mk (below_step HB_15.out (below_drew1 (Below.refl _ _)))
   have CC_16:=Aside0.mk (Kd.C_below CC_15.out (below_drew1 (Below.refl _ _)))
   have C1_16:=Aside0.mk (Kd.C_below C1_15.out (below_drew1 (Below.refl _ _)))
   have Hg4_16:=Aside0.mk (blk_below Hg4_15.out (below_drew1 (Below.refl _ _)))
   have Hg6_16:=Aside0.mk (blk_below Hg6_15.out (below_drew1 (Below.refl _ _)))
   have Hg7_16:=Aside0.mk (blk_below Hg7_15.out (below_drew1 (Below.refl _ _)))
   have RW_16:=Aside0.mk (Kd.R_below RW_15.out (below_drew1 (Below.refl _ _)))
   have RX_16:=Aside0.mk (Kd.R_below RX_15.out (below_drew1 (Below.refl _ _)))
   have Hg12_16:=Aside0.mk (blk_below Hg12_15.out (below_drew1 (Below.refl _ _)))
   have SX_16:=Aside0.mk (Kd.S_below SX_15.out (below_drew1 (Below.refl _ _)))
   have fg40_16 : w15.drew.cell? ⟨g4,0,none⟩ = some (.int .i64 a0_0):=(blk_cell Hg4_16.out 0).trans rfl
   have fg41_16 : w15.drew.cell? ⟨g4,1,none⟩ = some (.int .i64 a0_1):=(blk_cell Hg4_16.out 1).trans rfl
   have fg42_16 : w15.drew.cell? ⟨g4,2,none⟩ = some (.slice A0_2 l0_2.length c0_2):=(blk_cell Hg4_16.out 2).trans rfl
   have fg60_16 : w15.drew.cell? ⟨g6,0,none⟩ = some (.int .i64 a2_0):=(blk_cell Hg6_16.out 0).trans rfl
   have fg61_16 : w15.drew.cell? ⟨g6,1,none⟩ = some (.int .i64 a2_1):=(blk_cell Hg6_16.out 1).trans rfl
   have fg70_16 : w15.drew.cell? ⟨g7,0,none⟩ = some (.int .i64 a3_0):=(blk_cell Hg7_16.out 0).trans rfl
   have fg71_16 : w15.drew.cell? ⟨g7,1,none⟩ = some (.int .i64 a3_1):=(blk_cell Hg7_16.out 1).trans rfl
   have fg120_16 : w15.drew.cell? ⟨g12,0,none⟩ = some (.int .i64 a0_0):=(blk_cell Hg12_16.out 0).trans rfl
   have fg121_16 : w15.drew.cell? ⟨g12,1,none⟩ = some (.int .i64 a0_1):=(blk_cell Hg12_16.out 1).trans rfl
   have fg122_16 : w15.drew.cell? ⟨g12,2,none⟩ = some (.slice A11 bl.length c11):=(blk_cell Hg12_16.out 2).trans rfl
   have Z13b : Aside0 (w15.heap.size ≤ w15.drew.heap.size):=Aside0.mk (Nat.le_refl _)
   refine start_ (n:=12) (S:=fun w'=>w'.cell? ⟨g12,0,none⟩ = some (.int .i64 a0_0) ∧ w'.cell? ⟨g12,1,none⟩ = some (.int .i64 a0_1) ∧ w'.cell? ⟨g12,2,none⟩ = some (.slice A11 bl.length c11) ∧ w'.cell? ⟨g6,0,none⟩ = some (.int .i64 a2_0) ∧ w'.cell? ⟨g6,1,none⟩ = some (.int .i64 a2_1) ∧ w'.cell? ⟨g7,0,none⟩ = some (.int .i64 a3_0) ∧ w'.cell? ⟨g7,1,none⟩ = some (.int .i64 a3_1)) (ds:=[6]) #[false,false,false,false,false,false,false,false,false,false,false,false] (by kernel_rfl) rfl rfl ⟨fg120_16,fg121_16,fg122_16,fg60_16,fg61_16,fg70_16,fg71_16⟩ (fun hHeld=>?_)
   generalize w15.drew = w16 at HB_16 CC_16 C1_16 Hg4_16 Hg6_16 Hg7_16 RW_16 RX_16 Hg12_16 SX_16 fg40_16 fg41_16 fg42_16 fg60_16 fg61_16 fg70_16 fg71_16 fg120_16 fg121_16 fg122_16 Z13b hHeld ⊢
   refine zzt 0 48 (zzb 12 1) hHeld ?_ (hy:=by intro w' s0;obtain ⟨q0,q1,q2,q3,q4,q5,q6⟩:=s0;go_simp;with_reducible rfl);refine zzp 1 49 (zzb 12 3) ?_
   refine zzt 2 50 (zzb 12 7) hHeld ?_ (hy:=by intro w' s0;obtain ⟨q0,q1,q2,q3,q4,q5,q6⟩:=s0;go_simp;with_reducible rfl)
   refine zzt 4 52 (zzb 12 23) hHeld ?_ (hy:=by intro w' s0;obtain ⟨q0,q1,q2,q3,q4,q5,q6⟩:=s0;go_simp;with_reducible rfl)
   refine one_ (i:=3) (N:=(some 51)) #[true,true,true,true,true,false,false,false,false,false,false,false] rfl rfl (by kernel_rfl) (by decide) (fun K hK=>?_)
   refine call_ 28 #[.agg #[.int .i64 a2_0,.int .i64 a2_1]] (by rfl) rfl ?hr51_3 ?_
   case hr51_3 =>
    unfold execOp
    simp [resolve,Deferred.ofValue,invoke,Act.eval,enters_ Try.func28 (by kernel_rfl) rfl]
   refine (laws_toCell.calls a2_0 a2_1 a2_0 a2_1 _ rfl).mono ?_
   rintro e w17 ⟨rfl,hB⟩
   refine ⟨_,rfl,?_⟩
   have HB_17:=Aside0.mk (below_step HB_16.out hB)
   have CC_17:=Aside0.mk (Kd.C_below CC_16.out hB)
   have C1_17:=Aside0.mk (Kd.C_below C1_16.out hB)
   have Hg4_17:=Aside0.mk (blk_below Hg4_16.out hB)
   have Hg6_17:=Aside0.mk (blk_below Hg6_16.out hB)
   have Hg7_17:=Aside0.mk (blk_below Hg7_16.out hB)
   have RW_17:=Aside0.mk (Kd.R_below RW_16.out hB)
   have RX_17:=Aside0.mk (Kd.R_below RX_16.out hB)
   have Hg12_17:=Aside0.mk (blk_below Hg12_16.out hB)
   have SX_17:=Aside0.mk (Kd.S_below SX_16.out hB)
   have Z51 : Aside0 (w15.heap.size ≤ w17.heap.size):=Aside0.mk (Nat.le_trans Z13b.out hB.size)
   have fg40_17 : w17.cell? ⟨g4,0,none⟩ = some (.int .i64 a0_0):=(blk_cell Hg4_17.out 0).trans rfl
   have fg41_17 : w17.cell? ⟨g4,1,none⟩ = some (.int .i64 a0_1):=(blk_cell Hg4_17.out 1).trans rfl
   have fg42_17 : w17.cell? ⟨g4,2,none⟩ = some (.slice A0_2 l0_2.length c0_2):=(blk_cell Hg4_17.out 2).trans rfl
   have fg60_17 : w17.cell? ⟨g6,0,none⟩ = some (.int .i64 a2_0):=(blk_cell Hg6_17.out 0).trans rfl
   have fg61_17 : w17.cell? ⟨g6,1,none⟩ = some (.int .i64 a2_1):=(blk_cell Hg6_17.out 1).trans rfl
   have fg70_17 : w17.cell? ⟨g7,0,none⟩ = some (.int .i64 a3_0):=(blk_cell Hg7_17.out 0).trans rfl
   have fg71_17 : w17.cell? ⟨g7,1,none⟩ = some (.int .i64 a3_1):=(blk_cell Hg7_17.out 1).trans rfl
   have fg120_17 : w17.cell? ⟨g12,0,none⟩ = some (.int .i64 a0_0):=(blk_cell Hg12_17.out 0).trans rfl
   have fg121_17 : w17.cell? ⟨g12,1,none⟩ = some (.int .i64 a0_1):=(blk_cell Hg12_17.out 1).trans rfl
   have fg122_17 : w17.cell? ⟨g12,2,none⟩ = some (.slice A11 bl.length c11):=(blk_cell Hg12_17.out 2).trans rfl
   clear hB
   refine hK.out _ _ ⟨fg120_17,fg121_17,fg122_17,fg60_17,fg61_17,fg70_17,fg71_17⟩ (fun hHeld=>?_)
   clear hK K
   refine zzn 51 ?_
   refine one_ (i:=5) (N:=(some 53)) #[true,true,true,true,true,true,false,false,false,false,false,false] rfl rfl (by kernel_rfl) (by decide) (fun K hK=>?_)
   refine call_ 28 #[.agg #[.int .i64 a3_0,.int .i64 a3_1]] (by rfl) rfl ?hr53_5 ?_
   case hr53_5 =>
    unfold execOp
    simp [resolve,Deferred.ofValue,invoke,Act.eval,enters_ Try.func28 (by kernel_rfl) rfl]
   refine (laws_toCell.calls a3_0 a3_1 a3_0 a3_1 _ rfl).mono ?_
   rintro e w18 ⟨rfl,hB⟩
   refine ⟨_,rfl,?_⟩
   have HB_18:=Aside0.mk (below_step HB_17.out hB)
   have CC_18:=Aside0.mk (Kd.C_below CC_17.out hB)
   have C1_18:=Aside0.mk (Kd.C_below C1_17.out hB)
   have Hg4_18:=Aside0.mk (blk_below Hg4_17.out hB)
   have Hg6_18:=Aside0.mk (blk_below Hg6_17.out hB)
   have Hg7_18:=Aside0.mk (blk_below Hg7_17.out hB)
   have RW_18:=Aside0.mk (Kd.R_below RW_17.out hB)
   have RX_18:=Aside0.mk (Kd.R_below RX_17.out hB)
   have Hg12_18:=Aside0.mk (blk_below Hg12_17.out hB)
   have SX_18:=Aside0.mk (Kd.S_below SX_17.out hB)
   have Z53 : Aside0 (w15.heap.size ≤ w18.heap.size):=Aside0.mk (Nat.le_trans Z51.out hB.size)
   have fg40_18 : w18.cell? ⟨g4,0,none⟩ = some (.int .i64 a0_0):=(blk_cell Hg4_18.out 0).trans rfl
   have fg41_18 : w18.cell? ⟨g4,1,none⟩ = some (.int .i64 a0_1):=(blk_cell Hg4_18.out 1).trans rfl
   have fg42_18 : w18.cell? ⟨g4,2,none⟩ = some (.slice A0_2 l0_2.length c0_2):=(blk_cell Hg4_18.out 2).trans rfl
   have fg60_18 : w18.cell? ⟨g6,0,none⟩ = some (.int .i64 a2_0):=(blk_cell Hg6_18.out 0).trans rfl
   have fg61_18 : w18.cell? ⟨g6,1,none⟩ = some (.int .i64 a2_1):=(blk_cell Hg6_18.out 1).trans rfl
   have fg70_18 : w18.cell? ⟨g7,0,none⟩ = some (.int .i64 a3_0):=(blk_cell Hg7_18.out 0).trans rfl
   have fg71_18 : w18.cell? ⟨g7,1,none⟩ = some (.int .i64 a3_1):=(blk_cell Hg7_18.out 1).trans rfl
   have fg120_18 : w18.cell? ⟨g12,0,none⟩ = some (.int .i64 a0_0):=(blk_cell Hg12_18.out 0).trans rfl
   have fg121_18 : w18.cell? ⟨g12,1,none⟩ = some (.int .i64 a0_1):=(blk_cell Hg12_18.out 1).trans rfl
   have fg122_18 : w18.cell? ⟨g12,2,none⟩ = some (.slice A11 bl.length c11):=(blk_cell Hg12_18.out 2).trans rfl
   clear hB
   refine hK.out _ _ ⟨fg120_18,fg121_18,fg122_18,fg60_18,fg61_18,fg70_18,fg71_18⟩ (fun hHeld=>?_)
   clear hK K
   refine zzn 53 ?_
   refine last_ (i:=6) (N:=(some 54)) #[true,true,true,true,true,true,true,false,false,false,false,false] rfl rfl (by kernel_rfl) (by decide) (fun K hK=>?_)
   refine call_ 41 #[.agg #[.int .i64 a0_0,.int .i64 a0_1,.slice A11 bl.length c11],.slice A13 os.length c13,.agg #[.int .i64 a2_0,.int .i64 a2_1],.agg #[.int .i64 a3_0,.int .i64 a3_1]] (by rfl) rfl ?hr54_6 ?_
   case hr54_6 =>
    unfold execOp
    simp [resolve,Deferred.ofValue,invoke,Act.eval,enters_ Try.func41 (by kernel_rfl) rfl]
   refine (impl_SafePath.calls a0_0 a0_1 A11 c11 bl A13 c13 os a2_0 a2_1 a3_0 a3_1 R.1 R.2 _ (Kd.R_reads' RX_18.out).2.2 (Kd.R_reads' RX_18.out).2.1 (Kd.S_reads' SX_18.out).2.2 (Kd.S_reads' SX_18.out).2.1 KI.out).mono ?_
   rintro e w19 ⟨v14,rfl,hR,hB⟩
   refine ⟨_,rfl,?_⟩
   have HB_19:=Aside0.mk (below_step HB_18.out hB)
   have CC_19:=Aside0.mk (Kd.C_below CC_18.out hB)
   have C1_19:=Aside0.mk (Kd.C_below C1_18.out hB)
   have Hg4_19:=Aside0.mk (blk_below Hg4_18.out hB)
   have Hg6_19:=Aside0.mk (blk_below Hg6_18.out hB)
   have Hg7_19:=Aside0.mk (blk_below Hg7_18.out hB)
   have RW_19:=Aside0.mk (Kd.R_below RW_18.out hB)
   have RX_19:=Aside0.mk (Kd.R_below RX_18.out hB)
   have Hg12_19:=Aside0.mk (blk_below Hg12_18.out hB)
   have SX_19:=Aside0.mk (Kd.S_below SX_18.out hB)
   obtain ⟨A14,c14,rfl⟩:=Kd.R_slice hR
   have RG_19:=Aside0.mk (Kd.R_mono (Kd.R_bound hR) (fun k hk=>(hk.2.1 : w18.heap.size ≤ k)))
   clear hR
   have fg40_19 : w19.cell? ⟨g4,0,none⟩ = some (.int .i64 a0_0):=(blk_cell Hg4_19.out 0).trans rfl
   have fg41_19 : w19.cell? ⟨g4,1,none⟩ = some (.int .i64 a0_1):=(blk_cell Hg4_19.out 1).trans rfl
   have fg42_19 : w19.cell? ⟨g4,2,none⟩ = some (.slice A0_2 l0_2.length c0_2):=(blk_cell Hg4_19.out 2).trans rfl
   have fg60_19 : w19.cell? ⟨g6,0,none⟩ = some (.int .i64 a2_0):=(blk_cell Hg6_19.out 0).trans rfl
   have fg61_19 : w19.cell? ⟨g6,1,none⟩ = some (.int .i64 a2_1):=(blk_cell Hg6_19.out 1).trans rfl
   have fg70_19 : w19.cell? ⟨g7,0,none⟩ = some (.int .i64 a3_0):=(blk_cell Hg7_19.out 0).trans rfl
   have fg71_19 : w19.cell? ⟨g7,1,none⟩ = some (.int .i64 a3_1):=(blk_cell Hg7_19.out 1).trans rfl
   have fg120_19 : w19.cell? ⟨g12,0,none⟩ = some (.int .i64 a0_0):=(blk_cell Hg12_19.out 0).trans rfl
   have fg121_19 : w19.cell? ⟨g12,1,none⟩ = some (.int .i64 a0_1):=(blk_cell Hg12_19.out 1).trans rfl
   have fg122_19 : w19.cell? ⟨g12,2,none⟩ = some (.slice A11 bl.length c11):=(blk_cell Hg12_19.out 2).trans rfl
   clear hB
   refine hK.out _ _ ?_
   clear hK K
   refine zzn 54 ?_;refine zzp 7 47 (zzb 12 255) ?_;refine zzp 8 55 (zzb 12 511) ?_;refine zzp 9 56 (zzb 12 1023) ?_;refine zzp 10 14 (zzb 12 2047) ?_;refine zzp 11 15 (zzb 12 4095) ?_
   refine done_ (by kernel_rfl) ?_
   go_wp2_with (first|(go_at_call 22;(with_reducible refine (laws_eqCellS.calls kr A14 c14 R.1 A10 c10 R.1 true _ (Kd.R_reads' RG_19.out).2.2 (Kd.R_reads' RG_19.out).2.1 (Kd.R_reads' RW_19.out).2.2 (Kd.R_reads' RW_19.out).2.1 KR.out).mono ?_);rintro e w20 ⟨rfl,hB⟩;have HB_20:=Aside0.mk (below_step HB_19.out hB);have CC_20:=Aside0.mk (Kd.C_below CC_19.out hB);have C1_20:=Aside0.mk (Kd.C_below C1_19.out hB);have Hg4_20:=Aside0.mk (blk_below Hg4_19.out hB);have Hg6_20:=Aside0.mk (blk_below Hg6_19.out hB);have Hg7_20:=Aside0.mk (blk_below Hg7_19.out hB);have RW_20:=Aside0.mk (Kd.R_below RW_19.out hB);have RX_20:=Aside0.mk (Kd.R_below RX_19.out hB);have Hg12_20:=Aside0.mk (blk_below Hg12_19.out hB);have SX_20:=Aside0.mk (Kd.S_below SX_19.out hB);have RG_20:=Aside0.mk (Kd.R_below RG_19.out hB);have fg40_20 : w20.cell? ⟨g4,0,none⟩ = some (.int .i64 a0_0):=(blk_cell Hg4_20.out 0).trans rfl;have fg41_20 : w20.cell? ⟨g4,1,none⟩ = some (.int .i64 a0_1):=(blk_cell Hg4_20.out 1).trans rfl;have fg42_20 : w20.cell? ⟨g4,2,none⟩ = some (.slice A0_2 l0_2.length c0_2):=(blk_cell Hg4_20.out 2).trans rfl;have fg60_20 : w20.cell? ⟨g6,0,none⟩ = some (.int .i64 a2_0):=(blk_cell Hg6_20.out 0).trans rfl;have fg61_20 : w20.cell? ⟨g6,1,none⟩ = some (.int .i64 a2_1):=(blk_cell Hg6_20.out 1).trans rfl;have fg70_20 : w20.cell? ⟨g7,0,none⟩ = some (.int .i64 a3_0):=(blk_cell Hg7_20.out 0).trans rfl;have fg71_20 : w20.cell? ⟨g7,1,none⟩ = some (.int .i64 a3_1):=(blk_cell Hg7_20.out 1).trans rfl;have fg120_20 : w20.cell? ⟨g12,0,none⟩ = some (.int .i64 a0_0):=(blk_cell Hg12_20.out 0).trans rfl;have fg121_20 : w20.cell? ⟨g12,1,none⟩ = some (.int .i64 a0_1):=(blk_cell Hg12_20.out 1).trans rfl;have fg122_20 : w20.cell? ⟨g12,2,none⟩ = some (.slice A11 bl.length c11):=(blk_cell Hg12_20.out 2).trans rfl;clear hB))
   have HB_21:=Aside0.mk (below_step HB_20.out (below_drew1 (Below.refl _ _)))
   have CC_21:=Aside0.mk (Kd.C_below CC_20.out (below_drew1 (Below.refl _ _)))
   have C1_21:=Aside0.mk (Kd.C_below C1_20.out (below_drew1 (Below.refl _ _)))
   have Hg4_21:=Aside0.mk (blk_below Hg4_20.out (below_drew1 (Below.refl _ _)))
   have Hg6_21:=Aside0.mk (blk_below Hg6_20.out (below_drew1 (Below.refl _ _)))
   have Hg7_21:=Aside0.mk (blk_below Hg7_20.out (below_drew1 (Below.refl _ _)))
   have RW_21:=Aside0.mk (Kd.R_below RW_20.out (below_drew1 (Below.refl _ _)))
   have RX_21:=Aside0.mk (Kd.R_below RX_20.out (below_drew1 (Below.refl _ _)))
   have Hg12_21:=Aside0.mk (blk_below Hg12_20.out (below_drew1 (Below.refl _ _)))
   have SX_21:=Aside0.mk (Kd.S_below SX_20.out (below_drew1 (Below.refl _ _)))
   have RG_21:=Aside0.mk (Kd.R_below RG_20.out (below_drew1 (Below.refl _ _)))
   have fg40_21 : w20.drew.cell? ⟨g4,0,none⟩ = some (.int .i64 a0_0):=(blk_cell Hg4_21.out 0).trans rfl
   have fg41_21 : w20.drew.cell? ⟨g4,1,none⟩ = some (.int .i64 a0_1):=(blk_cell Hg4_21.out 1).trans rfl
   have fg42_21 : w20.drew.cell? ⟨g4,2,none⟩ = some (.slice A0_2 l0_2.length c0_2):=(blk_cell Hg4_21.out 2).trans rfl
   have fg60_21 : w20.drew.cell? ⟨g6,0,none⟩ = some (.int .i64 a2_0):=(blk_cell Hg6_21.out 0).trans rfl
   have fg61_21 : w20.drew.cell? ⟨g6,1,none⟩ = some (.int .i64 a2_1):=(blk_cell Hg6_21.out 1).trans rfl
   have fg70_21 : w20.drew.cell? ⟨g7,0,none⟩ = some (.int .i64 a3_0):=(blk_cell Hg7_21.out 0).trans rfl
   have fg71_21 : w20.drew.cell? ⟨g7,1,none⟩ = some (.int .i64 a3_1):=(blk_cell Hg7_21.out 1).trans rfl
   have fg120_21 : w20.drew.cell? ⟨g12,0,none⟩ = some (.int .i64 a0_0):=(blk_cell Hg12_21.out 0).trans rfl
   have fg121_21 : w20.drew.cell? ⟨g12,1,none⟩ = some (.int .i64 a0_1):=(blk_cell Hg12_21.out 1).trans rfl
   have fg122_21 : w20.drew.cell? ⟨g12,2,none⟩ = some (.slice A11 bl.length c11):=(blk_cell Hg12_21.out 2).trans rfl
   refine start_ (n:=5) (S:=fun w'=>w'.cell? ⟨g12,0,none⟩ = some (.int .i64 a0_0) ∧ w'.cell? ⟨g12,1,none⟩ = some (.int .i64 a0_1) ∧ w'.cell? ⟨g12,2,none⟩ = some (.slice A11 bl.length c11) ∧ w'.cell? ⟨g4,0,none⟩ = some (.int .i64 a0_0) ∧ w'.cell? ⟨g4,1,none⟩ = some (.int .i64 a0_1) ∧ w'.cell? ⟨g4,2,none⟩ = some (.slice A0_2 l0_2.length c0_2)) (ds:=[3]) #[false,false,false,false,false] (by kernel_rfl) rfl rfl ⟨fg120_21,fg121_21,fg122_21,fg40_21,fg41_21,fg42_21⟩ (fun hHeld=>?_)
   generalize w20.drew = w21 at HB_21 CC_21 C1_21 Hg4_21 Hg6_21 Hg7_21 RW_21 RX_21 Hg12_21 SX_21 RG_21 fg40_21 fg41_21 fg42_21 fg60_21 fg61_21 fg70_21 fg71_21 fg120_21 fg121_21 fg122_21 hHeld ⊢
   refine zzt 0 66 (zzb 5 1) hHeld ?_ (hy:=by intro w' s0;obtain ⟨q0,q1,q2,q3,q4,q5⟩:=s0;go_simp;with_reducible rfl)
   refine zzt 1 67 (zzb 5 3) hHeld ?_ (hy:=by intro w' s0;obtain ⟨q0,q1,q2,q3,q4,q5⟩:=s0;go_simp;with_reducible rfl)
   refine one_ (i:=2) (N:=(some 68)) #[true,true,true,false,false] rfl rfl (by kernel_rfl) (by decide) (fun K hK=>?_)
   refine call_ 15 #[.agg #[.int .i64 a0_0,.int .i64 a0_1,.slice A0_2 l0_2.length c0_2]] (by rfl) rfl ?hr68_2 ?_
   case hr68_2 =>
    unfold execOp
    simp [resolve,Deferred.ofValue,invoke,Act.eval,enters_ Try.func15 (by kernel_rfl) rfl]
   refine (laws_toFloor.calls kt a0_0 a0_1 A0_2 c0_2 l0_2 a0_0 a0_1 bl _ CC_21.out hc0_2 KT.out).mono ?_
   rintro e w22 ⟨v17,rfl,hR,hB⟩
   refine ⟨_,rfl,?_⟩
   have HB_22:=Aside0.mk (below_step HB_21.out hB)
   have CC_22:=Aside0.mk (Kd.C_below CC_21.out hB)
   have C1_22:=Aside0.mk (Kd.C_below C1_21.out hB)
   have Hg4_22:=Aside0.mk (blk_below Hg4_21.out hB)
   have Hg6_22:=Aside0.mk (blk_below Hg6_21.out hB)
   have Hg7_22:=Aside0.mk (blk_below Hg7_21.out hB)
   have RW_22:=Aside0.mk (Kd.R_below RW_21.out hB)
   have RX_22:=Aside0.mk (Kd.R_below RX_21.out hB)
   have Hg12_22:=Aside0.mk (blk_below Hg12_21.out hB)
   have SX_22:=Aside0.mk (Kd.S_below SX_21.out hB)
   have RG_22:=Aside0.mk (Kd.R_below RG_21.out hB)
   obtain ⟨A17,c17,rfl⟩:=Kd.R_slice hR
   have CX17_22:=Aside0.mk (Kd.R_reads' hR).2.2
   have LX17:=Aside0.mk (Kd.R_reads' hR).2.1
   clear hR
   have fg40_22 : w22.cell? ⟨g4,0,none⟩ = some (.int .i64 a0_0):=(blk_cell Hg4_22.out 0).trans rfl
   have fg41_22 : w22.cell? ⟨g4,1,none⟩ = some (.int .i64 a0_1):=(blk_cell Hg4_22.out 1).trans rfl
   have fg42_22 : w22.cell? ⟨g4,2,none⟩ = some (.slice A0_2 l0_2.length c0_2):=(blk_cell Hg4_22.out 2).trans rfl
   have fg60_22 : w22.cell? ⟨g6,0,none⟩ = some (.int .i64 a2_0):=(blk_cell Hg6_22.out 0).trans rfl
   have fg61_22 : w22.cell? ⟨g6,1,none⟩ = some (.int .i64 a2_1):=(blk_cell Hg6_22.out 1).trans rfl
   have fg70_22 : w22.cell? ⟨g7,0,none⟩ = some (.int .i64 a3_0):=(blk_cell Hg7_22.out 0).trans rfl
   have fg71_22 : w22.cell? ⟨g7,1,none⟩ = some (.int .i64 a3_1):=(blk_cell Hg7_22.out 1).trans rfl
   have fg120_22 : w22.cell? ⟨g12,0,none⟩ = some (.int .i64 a0_0):=(blk_cell Hg12_22.out 0).trans rfl
   have fg121_22 : w22.cell? ⟨g12,1,none⟩ = some (.int .i64 a0_1):=(blk_cell Hg12_22.out 1).trans rfl
   have fg122_22 : w22.cell? ⟨g12,2,none⟩ = some (.slice A11 bl.length c11):=(blk_cell Hg12_22.out 2).trans rfl
   clear hB
   refine hK.out _ _ ⟨fg120_22,fg121_22,fg122_22,fg40_22,fg41_22,fg42_22⟩ (fun hHeld=>?_)
   clear hK K
   refine zzn 68 ?_
   refine last_ (i:=3) (N:=(some 69)) #[true,true,true,true,false] rfl rfl (by kernel_rfl) (by decide) (fun K hK=>?_)
   refine call_ 17 #[.agg #[.int .i64 a0_0,.int .i64 a0_1,.slice A11 bl.length c11],.agg #[.int .i64 a0_0,.int .i64 a0_1,.slice A17 bl.length c17]] (by rfl) rfl ?hr69_3 ?_
   case hr69_3 =>
    unfold execOp
    simp [resolve,Deferred.ofValue,invoke,Act.eval,enters_ Try.func17 (by kernel_rfl) rfl]
   refine (laws_eqFloor.calls ke a0_0 a0_1 A11 c11 bl a0_0 a0_1 A17 c17 bl true _ (Kd.R_reads' RX_22.out).2.2 (Kd.R_reads' RX_22.out).2.1 CX17_22.out LX17.out KE.out).mono ?_
   rintro e w23 ⟨rfl,hB⟩
   refine ⟨_,rfl,?_⟩
   have HB_23:=Aside0.mk (below_step HB_22.out hB)
   have CC_23:=Aside0.mk (Kd.C_below CC_22.out hB)
   have C1_23:=Aside0.mk (Kd.C_below C1_22.out hB)
   have Hg4_23:=Aside0.mk (blk_below Hg4_22.out hB)
   have Hg6_23:=Aside0.mk (blk_below Hg6_22.out hB)
   have Hg7_23:=Aside0.mk (blk_below Hg7_22.out hB)
   have RW_23:=Aside0.mk (Kd.R_below RW_22.out hB)
   have RX_23:=Aside0.mk (Kd.R_below RX_22.out hB)
   have Hg12_23:=Aside0.mk (blk_below Hg12_22.out hB)
   have SX_23:=Aside0.mk (Kd.S_below SX_22.out hB)
   have RG_23:=Aside0.mk (Kd.R_below RG_22.out hB)
   have CX17_23:=Aside0.mk (Kd.C_below CX17_22.out hB)
   have fg40_23 : w23.cell? ⟨g4,0,none⟩ = some (.int .i64 a0_0):=(blk_cell Hg4_23.out 0).trans rfl
   have fg41_23 : w23.cell? ⟨g4,1,none⟩ = some (.int .i64 a0_1):=(blk_cell Hg4_23.out 1).trans rfl
   have fg42_23 : w23.cell? ⟨g4,2,none⟩ = some (.slice A0_2 l0_2.length c0_2):=(blk_cell Hg4_23.out 2).trans rfl
   have fg60_23 : w23.cell? ⟨g6,0,none⟩ = some (.int .i64 a2_0):=(blk_cell Hg6_23.out 0).trans rfl
   have fg61_23 : w23.cell? ⟨g6,1,none⟩ = some (.int .i64 a2_1):=(blk_cell Hg6_23.out 1).trans rfl
   have fg70_23 : w23.cell? ⟨g7,0,none⟩ = some (.int .i64 a3_0):=(blk_cell Hg7_23.out 0).trans rfl
   have fg71_23 : w23.cell? ⟨g7,1,none⟩ = some (.int .i64 a3_1):=(blk_cell Hg7_23.out 1).trans rfl
   have fg120_23 : w23.cell? ⟨g12,0,none⟩ = some (.int .i64 a0_0):=(blk_cell Hg12_23.out 0).trans rfl
   have fg121_23 : w23.cell? ⟨g12,1,none⟩ = some (.int .i64 a0_1):=(blk_cell Hg12_23.out 1).trans rfl
   have fg122_23 : w23.cell? ⟨g12,2,none⟩ = some (.slice A11 bl.length c11):=(blk_cell Hg12_23.out 2).trans rfl
   clear hB
   refine hK.out _ _ ?_
   clear hK K
   refine zzn 69 ?_;refine zzp 4 70 (zzb 5 31) ?_
   refine done_ (by kernel_rfl) ?_
   go_wp2_with (first|(go_at_call 40;(with_reducible refine (laws_toCellSS.calls kq A1 c1 l1 os _ C1_23.out hc1 KQ.out).mono ?_);rintro e w24 ⟨v18,rfl,hS,hB⟩;have HB_24:=Aside0.mk (below_step HB_23.out hB);have CC_24:=Aside0.mk (Kd.C_below CC_23.out hB);have C1_24:=Aside0.mk (Kd.C_below C1_23.out hB);have Hg4_24:=Aside0.mk (blk_below Hg4_23.out hB);have Hg6_24:=Aside0.mk (blk_below Hg6_23.out hB);have Hg7_24:=Aside0.mk (blk_below Hg7_23.out hB);have RW_24:=Aside0.mk (Kd.R_below RW_23.out hB);have RX_24:=Aside0.mk (Kd.R_below RX_23.out hB);have Hg12_24:=Aside0.mk (blk_below Hg12_23.out hB);have SX_24:=Aside0.mk (Kd.S_below SX_23.out hB);have RG_24:=Aside0.mk (Kd.R_below RG_23.out hB);obtain ⟨A18,c18,rfl⟩:=Kd.S_slice hS;have CX18_24:=Aside0.mk (Kd.S_reads' hS).2.2;have LX18:=Aside0.mk (Kd.S_reads' hS).2.1;clear hS;have fg40_24 : w24.cell? ⟨g4,0,none⟩ = some (.int .i64 a0_0):=(blk_cell Hg4_24.out 0).trans rfl;have fg41_24 : w24.cell? ⟨g4,1,none⟩ = some (.int .i64 a0_1):=(blk_cell Hg4_24.out 1).trans rfl;have fg42_24 : w24.cell? ⟨g4,2,none⟩ = some (.slice A0_2 l0_2.length c0_2):=(blk_cell Hg4_24.out 2).trans rfl;have fg60_24 : w24.cell? ⟨g6,0,none⟩ = some (.int .i64 a2_0):=(blk_cell Hg6_24.out 0).trans rfl;have fg61_24 : w24.cell? ⟨g6,1,none⟩ = some (.int .i64 a2_1):=(blk_cell Hg6_24.out 1).trans rfl;have fg70_24 : w24.cell? ⟨g7,0,none⟩ = some (.int .i64 a3_0):=(blk_cell Hg7_24.out 0).trans rfl;have fg71_24 : w24.cell? ⟨g7,1,none⟩ = some (.int .i64 a3_1):=(blk_cell Hg7_24.out 1).trans rfl;have fg120_24 : w24.cell? ⟨g12,0,none⟩ = some (.int .i64 a0_0):=(blk_cell Hg12_24.out 0).trans rfl;have fg121_24 : w24.cell? ⟨g12,1,none⟩ = some (.int .i64 a0_1):=(blk_cell Hg12_24.out 1).trans rfl;have fg122_24 : w24.cell? ⟨g12,2,none⟩ = some (.slice A11 bl.length c11):=(blk_cell Hg12_24.out 2).trans rfl;clear hB)|(go_at_call 42;(with_reducible refine (laws_eqCellSS.calls kw A13 c13 os A18 c18 os true _ (Kd.S_reads' SX_24.out).2.2 (Kd.S_reads' SX_24.out).2.1 CX18_24.out LX18.out KW.out).mono ?_);rintro e w25 ⟨rfl,hB⟩;have HB_25:=Aside0.mk (below_step HB_24.out hB);have CC_25:=Aside0.mk (Kd.C_below CC_24.out hB);have C1_25:=Aside0.mk (Kd.C_below C1_24.out hB);have Hg4_25:=Aside0.mk (blk_below Hg4_24.out hB);have Hg6_25:=Aside0.mk (blk_below Hg6_24.out hB);have Hg7_25:=Aside0.mk (blk_below Hg7_24.out hB);have RW_25:=Aside0.mk (Kd.R_below RW_24.out hB);have RX_25:=Aside0.mk (Kd.R_below RX_24.out hB);have Hg12_25:=Aside0.mk (blk_below Hg12_24.out hB);have SX_25:=Aside0.mk (Kd.S_below SX_24.out hB);have RG_25:=Aside0.mk (Kd.R_below RG_24.out hB);have CX18_25:=Aside0.mk (Kd.C_below CX18_24.out hB);have fg40_25 : w25.cell? ⟨g4,0,none⟩ = some (.int .i64 a0_0):=(blk_cell Hg4_25.out 0).trans rfl;have fg41_25 : w25.cell? ⟨g4,1,none⟩ = some (.int .i64 a0_1):=(blk_cell Hg4_25.out 1).trans rfl;have fg42_25 : w25.cell? ⟨g4,2,none⟩ = some (.slice A0_2 l0_2.length c0_2):=(blk_cell Hg4_25.out 2).trans rfl;have fg60_25 : w25.cell? ⟨g6,0,none⟩ = some (.int .i64 a2_0):=(blk_cell Hg6_25.out 0).trans rfl;have fg61_25 : w25.cell? ⟨g6,1,none⟩ = some (.int .i64 a2_1):=(blk_cell Hg6_25.out 1).trans rfl;have fg70_25 : w25.cell? ⟨g7,0,none⟩ = some (.int .i64 a3_0):=(blk_cell Hg7_25.out 0).trans rfl;have fg71_25 : w25.cell? ⟨g7,1,none⟩ = some (.int .i64 a3_1):=(blk_cell Hg7_25.out 1).trans rfl;have fg120_25 : w25.cell? ⟨g12,0,none⟩ = some (.int .i64 a0_0):=(blk_cell Hg12_25.out 0).trans rfl;have fg121_25 : w25.cell? ⟨g12,1,none⟩ = some (.int .i64 a0_1):=(blk_cell Hg12_25.out 1).trans rfl;have fg122_25 : w25.cell? ⟨g12,2,none⟩ = some (.slice A11 bl.length c11):=(blk_cell Hg12_25.out 2).trans rfl;clear hB)|(go_at_call 31;(with_reducible refine (laws_markFloor.calls km a0_0 a0_1 (fun k=>w11.heap.size ≤ k ∧ k < w12.heap.size) (.slice A11 bl.length c11) bl 1 (1 + 2 * (bl.length : Int)) xs w _ HB_25.out (Kd.R_lower RX_25.out HB_11.out.size) KM.out).mono ?_);rintro e w26 ⟨rfl,hS,hB,hk⟩;have HB_26:=Aside0.mk hB;have CC_26:=Aside0.mk (Kd.C_below CC_0.out hB);have C1_26:=Aside0.mk (Kd.C_below C1_0.out hB);have Hg4_26:=Aside0.mk ((hk.2 g4 (blk_lt Hg4_25.out) (fun p=>by have:=Lg4.out;have z6:=p.1;omega)).trans Hg4_25.out);have Hg6_26:=Aside0.mk ((hk.2 g6 (blk_lt Hg6_25.out) (fun p=>by have:=Lg6.out;have z6:=p.1;omega)).trans Hg6_25.out);have Hg7_26:=Aside0.mk ((hk.2 g7 (blk_lt Hg7_25.out) (fun p=>by have:=Lg7.out;have z6:=p.1;omega)).trans Hg7_25.out);have RW_26:=Aside0.mk (Kd.R_kept RW_25.out hk (fun k hk p=>by have z6:=p.1;omega));have RX_26:=Aside0.mk hS;have Hg12_26:=Aside0.mk ((hk.2 g12 (blk_lt Hg12_25.out) (fun p=>by have:=Gg12.out;have z7:=p.2;omega)).trans Hg12_25.out);have SX_26:=Aside0.mk (Kd.S_kept SX_25.out hk (fun k hk p=>by have z:=Z1112.out;have z7:=p.2;have z8:=hk.1;omega));have RG_26:=Aside0.mk (Kd.R_kept RG_25.out hk (fun k hk p=>by have z:=Z1112.out;have z7:=p.2;have z8:=Z53.out;have z9:=Z13.out;omega));have fg40_26 : w26.cell? ⟨g4,0,none⟩ = some (.int .i64 a0_0):=(blk_cell Hg4_26.out 0).trans rfl;have fg41_26 : w26.cell? ⟨g4,1,none⟩ = some (.int .i64 a0_1):=(blk_cell Hg4_26.out 1).trans rfl;have fg42_26 : w26.cell? ⟨g4,2,none⟩ = some (.slice A0_2 l0_2.length c0_2):=(blk_cell Hg4_26.out 2).trans rfl;have fg60_26 : w26.cell? ⟨g6,0,none⟩ = some (.int .i64 a2_0):=(blk_cell Hg6_26.out 0).trans rfl;have fg61_26 : w26.cell? ⟨g6,1,none⟩ = some (.int .i64 a2_1):=(blk_cell Hg6_26.out 1).trans rfl;have fg70_26 : w26.cell? ⟨g7,0,none⟩ = some (.int .i64 a3_0):=(blk_cell Hg7_26.out 0).trans rfl;have fg71_26 : w26.cell? ⟨g7,1,none⟩ = some (.int .i64 a3_1):=(blk_cell Hg7_26.out 1).trans rfl;have fg120_26 : w26.cell? ⟨g12,0,none⟩ = some (.int .i64 a0_0):=(blk_cell Hg12_26.out 0).trans rfl;have fg121_26 : w26.cell? ⟨g12,1,none⟩ = some (.int .i64 a0_1):=(blk_cell Hg12_26.out 1).trans rfl;have fg122_26 : w26.cell? ⟨g12,2,none⟩ = some (.slice A11 bl.length c11):=(blk_cell Hg12_26.out 2).trans rfl;clear hS hB hk)|(go_at_call 43;(with_reducible refine (markCSS_rows kn A13 c13 os ys (1 + 2 * (bl.length : Int)) w _ HB_26.out (Kd.S_lower SX_26.out HB_14.out.size) HYL.out KN.out).mono ?_);rintro e w27 ⟨rfl,hS,hB,hk⟩;have HB_27:=Aside0.mk hB;have CC_27:=Aside0.mk (Kd.C_below CC_0.out hB);have C1_27:=Aside0.mk (Kd.C_below C1_0.out hB);have Hg4_27:=Aside0.mk ((hk.2 g4 (blk_lt Hg4_26.out) (fun p=>by have:=Lg4.out;have z6:=p.1;have z:=Z1112.out;have z1:=Z1011.out;omega)).trans Hg4_26.out);have Hg6_27:=Aside0.mk ((hk.2 g6 (blk_lt Hg6_26.out) (fun p=>by have:=Lg6.out;have z6:=p.1;have z:=Z1112.out;have z1:=Z1011.out;omega)).trans Hg6_26.out);have Hg7_27:=Aside0.mk ((hk.2 g7 (blk_lt Hg7_26.out) (fun p=>by have:=Lg7.out;have z6:=p.1;have z:=Z1112.out;have z1:=Z1011.out;omega)).trans Hg7_26.out);have RW_27:=Aside0.mk (Kd.R_kept RW_26.out hk (fun k hk p=>by have z6:=p.1;have z:=Z1112.out;have z1:=Z1011.out;omega));have Hg12_27:=Aside0.mk ((hk.2 g12 (blk_lt Hg12_26.out) (fun p=>by have:=LG12.out;have z6:=p.1;omega)).trans Hg12_26.out);have SX_27:=Aside0.mk hS;have RG_27:=Aside0.mk (Kd.R_kept RG_26.out hk (fun k hk p=>by have z7:=p.2;have z8:=Z53.out;omega));have fg40_27 : w27.cell? ⟨g4,0,none⟩ = some (.int .i64 a0_0):=(blk_cell Hg4_27.out 0).trans rfl;have fg41_27 : w27.cell? ⟨g4,1,none⟩ = some (.int .i64 a0_1):=(blk_cell Hg4_27.out 1).trans rfl;have fg42_27 : w27.cell? ⟨g4,2,none⟩ = some (.slice A0_2 l0_2.length c0_2):=(blk_cell Hg4_27.out 2).trans rfl;have fg60_27 : w27.cell? ⟨g6,0,none⟩ = some (.int .i64 a2_0):=(blk_cell Hg6_27.out 0).trans rfl;have fg61_27 : w27.cell? ⟨g6,1,none⟩ = some (.int .i64 a2_1):=(blk_cell Hg6_27.out 1).trans rfl;have fg70_27 : w27.cell? ⟨g7,0,none⟩ = some (.int .i64 a3_0):=(blk_cell Hg7_27.out 0).trans rfl;have fg71_27 : w27.cell? ⟨g7,1,none⟩ = some (.int .i64 a3_1):=(blk_cell Hg7_27.out 1).trans rfl;have fg120_27 : w27.cell? ⟨g12,0,none⟩ = some (.int .i64 a0_0):=(blk_cell Hg12_27.out 0).trans rfl;have fg121_27 : w27.cell? ⟨g12,1,none⟩ = some (.int .i64 a0_1):=(blk_cell Hg12_27.out 1).trans rfl;have fg122_27 : w27.cell? ⟨g12,2,none⟩ = some (.slice A11 bl.length c11):=(blk_cell Hg12_27.out 2).trans rfl;clear hS hB hk)|(go_at_call 22;(with_reducible refine (laws_eqCellS.calls kr A14 c14 R.1 A10 c10 R.1 true _ (Kd.R_reads' RG_27.out).2.2 (Kd.R_reads' RG_27.out).2.1 (Kd.R_reads' RW_27.out).2.2 (Kd.R_reads' RW_27.out).2.1 KR.out).mono ?_);rintro e w28 ⟨rfl,hB⟩;have HB_28:=Aside0.mk (below_step HB_27.out hB);have CC_28:=Aside0.mk (Kd.C_below CC_27.out hB);have C1_28:=Aside0.mk (Kd.C_below C1_27.out hB);have Hg4_28:=Aside0.mk (blk_below Hg4_27.out hB);have Hg6_28:=Aside0.mk (blk_below Hg6_27.out hB);have Hg7_28:=Aside0.mk (blk_below Hg7_27.out hB);have RW_28:=Aside0.mk (Kd.R_below RW_27.out hB);have Hg12_28:=Aside0.mk (blk_below Hg12_27.out hB);have RG_28:=Aside0.mk (Kd.R_below RG_27.out hB);have fg40_28 : w28.cell? ⟨g4,0,none⟩ = some (.int .i64 a0_0):=(blk_cell Hg4_28.out 0).trans rfl;have fg41_28 : w28.cell? ⟨g4,1,none⟩ = some (.int .i64 a0_1):=(blk_cell Hg4_28.out 1).trans rfl;have fg42_28 : w28.cell? ⟨g4,2,none⟩ = some (.slice A0_2 l0_2.length c0_2):=(blk_cell Hg4_28.out 2).trans rfl;have fg60_28 : w28.cell? ⟨g6,0,none⟩ = some (.int .i64 a2_0):=(blk_cell Hg6_28.out 0).trans rfl;have fg61_28 : w28.cell? ⟨g6,1,none⟩ = some (.int .i64 a2_1):=(blk_cell Hg6_28.out 1).trans rfl;have fg70_28 : w28.cell? ⟨g7,0,none⟩ = some (.int .i64 a3_0):=(blk_cell Hg7_28.out 0).trans rfl;have fg71_28 : w28.cell? ⟨g7,1,none⟩ = some (.int .i64 a3_1):=(blk_cell Hg7_28.out 1).trans rfl;have fg120_28 : w28.cell? ⟨g12,0,none⟩ = some (.int .i64 a0_0):=(blk_cell Hg12_28.out 0).trans rfl;have fg121_28 : w28.cell? ⟨g12,1,none⟩ = some (.int .i64 a0_1):=(blk_cell Hg12_28.out 1).trans rfl;have fg122_28 : w28.cell? ⟨g12,2,none⟩ = some (.slice A11 bl.length c11):=(blk_cell Hg12_28.out 2).trans rfl;clear hB)|(go_at_call 36;(with_reducible refine (laws_markCellS.calls kg (fun k=>w18.heap.size ≤ k) (.slice A14 R.1.length c14) R.1 1 (1 + 2 * (R.1.length : Int)) gs w _ HB_28.out (Kd.R_lower RG_28.out HB_18.out.size) KG.out).mono ?_);rintro e w29 ⟨rfl,hS,hB,hk⟩;have HB_29:=Aside0.mk hB;have CC_29:=Aside0.mk (Kd.C_below CC_0.out hB);have C1_29:=Aside0.mk (Kd.C_below C1_0.out hB);have Hg4_29:=Aside0.mk ((hk.2 g4 (blk_lt Hg4_28.out) (fun p=>by have:=Lg4.out;have z:=Z1112.out;have z1:=Z1011.out;have z8:=Z53.out;have z9:=Z13.out;omega)).trans Hg4_28.out);have Hg6_29:=Aside0.mk ((hk.2 g6 (blk_lt Hg6_28.out) (fun p=>by have:=Lg6.out;have z:=Z1112.out;have z1:=Z1011.out;have z8:=Z53.out;have z9:=Z13.out;omega)).trans Hg6_28.out);have Hg7_29:=Aside0.mk ((hk.2 g7 (blk_lt Hg7_28.out) (fun p=>by have:=Lg7.out;have z:=Z1112.out;have z1:=Z1011.out;have z8:=Z53.out;have z9:=Z13.out;omega)).trans Hg7_28.out);have RW_29:=Aside0.mk (Kd.R_kept RW_28.out hk (fun k hk p=>by have z:=Z1112.out;have z1:=Z1011.out;have z8:=Z53.out;have z9:=Z13.out;omega));have Hg12_29:=Aside0.mk ((hk.2 g12 (blk_lt Hg12_28.out) (fun p=>by have:=LG12.out;have z8:=Z53.out;have z9:=Z13.out;omega)).trans Hg12_28.out);have RG_29:=Aside0.mk hS;have fg40_29 : w29.cell? ⟨g4,0,none⟩ = some (.int .i64 a0_0):=(blk_cell Hg4_29.out 0).trans rfl;have fg41_29 : w29.cell? ⟨g4,1,none⟩ = some (.int .i64 a0_1):=(blk_cell Hg4_29.out 1).trans rfl;have fg42_29 : w29.cell? ⟨g4,2,none⟩ = some (.slice A0_2 l0_2.length c0_2):=(blk_cell Hg4_29.out 2).trans rfl;have fg60_29 : w29.cell? ⟨g6,0,none⟩ = some (.int .i64 a2_0):=(blk_cell Hg6_29.out 0).trans rfl;have fg61_29 : w29.cell? ⟨g6,1,none⟩ = some (.int .i64 a2_1):=(blk_cell Hg6_29.out 1).trans rfl;have fg70_29 : w29.cell? ⟨g7,0,none⟩ = some (.int .i64 a3_0):=(blk_cell Hg7_29.out 0).trans rfl;have fg71_29 : w29.cell? ⟨g7,1,none⟩ = some (.int .i64 a3_1):=(blk_cell Hg7_29.out 1).trans rfl;have fg120_29 : w29.cell? ⟨g12,0,none⟩ = some (.int .i64 a0_0):=(blk_cell Hg12_29.out 0).trans rfl;have fg121_29 : w29.cell? ⟨g12,1,none⟩ = some (.int .i64 a0_1):=(blk_cell Hg12_29.out 1).trans rfl;have fg122_29 : w29.cell? ⟨g12,2,none⟩ = some (.slice A11 bl.length c11):=(blk_cell Hg12_29.out 2).trans rfl;clear hS hB hk)|(go_at_call 37;(with_reducible refine (heldCl_at kh A14 c14 gs R.1.length 1 _ _ HGL.out (Kd.R_reads' RG_29.out).2.2 (Kd.R_reads' RG_29.out).2.1 KH.out).mono ?_);rintro e w30 ⟨rfl,hd⟩;have hB:=hd.below;clear hd;have HB_30:=Aside0.mk (below_step HB_29.out hB);have CC_30:=Aside0.mk (Kd.C_below CC_29.out hB);have C1_30:=Aside0.mk (Kd.C_below C1_29.out hB);have Hg4_30:=Aside0.mk (blk_below Hg4_29.out hB);have Hg6_30:=Aside0.mk (blk_below Hg6_29.out hB);have Hg7_30:=Aside0.mk (blk_below Hg7_29.out hB);have RW_30:=Aside0.mk (Kd.R_below RW_29.out hB);have Hg12_30:=Aside0.mk (blk_below Hg12_29.out hB);have RG_30:=Aside0.mk (Kd.R_below RG_29.out hB);have fg40_30 : w30.cell? ⟨g4,0,none⟩ = some (.int .i64 a0_0):=(blk_cell Hg4_30.out 0).trans rfl;have fg41_30 : w30.cell? ⟨g4,1,none⟩ = some (.int .i64 a0_1):=(blk_cell Hg4_30.out 1).trans rfl;have fg42_30 : w30.cell? ⟨g4,2,none⟩ = some (.slice A0_2 l0_2.length c0_2):=(blk_cell Hg4_30.out 2).trans rfl;have fg60_30 : w30.cell? ⟨g6,0,none⟩ = some (.int .i64 a2_0):=(blk_cell Hg6_30.out 0).trans rfl;have fg61_30 : w30.cell? ⟨g6,1,none⟩ = some (.int .i64 a2_1):=(blk_cell Hg6_30.out 1).trans rfl;have fg70_30 : w30.cell? ⟨g7,0,none⟩ = some (.int .i64 a3_0):=(blk_cell Hg7_30.out 0).trans rfl;have fg71_30 : w30.cell? ⟨g7,1,none⟩ = some (.int .i64 a3_1):=(blk_cell Hg7_30.out 1).trans rfl;have fg120_30 : w30.cell? ⟨g12,0,none⟩ = some (.int .i64 a0_0):=(blk_cell Hg12_30.out 0).trans rfl;have fg121_30 : w30.cell? ⟨g12,1,none⟩ = some (.int .i64 a0_1):=(blk_cell Hg12_30.out 1).trans rfl;have fg122_30 : w30.cell? ⟨g12,2,none⟩ = some (.slice A11 bl.length c11):=(blk_cell Hg12_30.out 2).trans rfl;clear hB))
   have HB_31:=Aside0.mk (below_step HB_30.out (below_drew1 (Below.refl _ _)))
   have CC_31:=Aside0.mk (Kd.C_below CC_30.out (below_drew1 (Below.refl _ _)))
   have C1_31:=Aside0.mk (Kd.C_below C1_30.out (below_drew1 (Below.refl _ _)))
   have Hg4_31:=Aside0.mk (blk_below Hg4_30.out (below_drew1 (Below.refl _ _)))
   have Hg6_31:=Aside0.mk (blk_below Hg6_30.out (below_drew1 (Below.refl _ _)))
   have Hg7_31:=Aside0.mk (blk_below Hg7_30.out (below_drew1 (Below.refl _ _)))
   have RW_31:=Aside0.mk (Kd.R_below RW_30.out (below_drew1 (Below.refl _ _)))
   have Hg12_31:=Aside0.mk (blk_below Hg12_30.out (below_drew1 (Below.refl _ _)))
   have RG_31:=Aside0.mk (Kd.R_below RG_30.out (below_drew1 (Below.refl _ _)))
   have fg40_31 : w30.drew.cell? ⟨g4,0,none⟩ = some (.int .i64 a0_0):=(blk_cell Hg4_31.out 0).trans rfl
   have fg41_31 : w30.drew.cell? ⟨g4,1,none⟩ = some (.int .i64 a0_1):=(blk_cell Hg4_31.out 1).trans rfl
   have fg42_31 : w30.drew.cell? ⟨g4,2,none⟩ = some (.slice A0_2 l0_2.length c0_2):=(blk_cell Hg4_31.out 2).trans rfl
   have fg60_31 : w30.drew.cell? ⟨g6,0,none⟩ = some (.int .i64 a2_0):=(blk_cell Hg6_31.out 0).trans rfl
   have fg61_31 : w30.drew.cell? ⟨g6,1,none⟩ = some (.int .i64 a2_1):=(blk_cell Hg6_31.out 1).trans rfl
   have fg70_31 : w30.drew.cell? ⟨g7,0,none⟩ = some (.int .i64 a3_0):=(blk_cell Hg7_31.out 0).trans rfl
   have fg71_31 : w30.drew.cell? ⟨g7,1,none⟩ = some (.int .i64 a3_1):=(blk_cell Hg7_31.out 1).trans rfl
   have fg120_31 : w30.drew.cell? ⟨g12,0,none⟩ = some (.int .i64 a0_0):=(blk_cell Hg12_31.out 0).trans rfl
   have fg121_31 : w30.drew.cell? ⟨g12,1,none⟩ = some (.int .i64 a0_1):=(blk_cell Hg12_31.out 1).trans rfl
   have fg122_31 : w30.drew.cell? ⟨g12,2,none⟩ = some (.slice A11 bl.length c11):=(blk_cell Hg12_31.out 2).trans rfl
   refine start_ (n:=14) (S:=fun w'=>w'.cell? ⟨g4,0,none⟩ = some (.int .i64 a0_0) ∧ w'.cell? ⟨g4,1,none⟩ = some (.int .i64 a0_1) ∧ w'.cell? ⟨g4,2,none⟩ = some (.slice A0_2 l0_2.length c0_2) ∧ w'.cell? ⟨g6,0,none⟩ = some (.int .i64 a2_0) ∧ w'.cell? ⟨g6,1,none⟩ = some (.int .i64 a2_1) ∧ w'.cell? ⟨g7,0,none⟩ = some (.int .i64 a3_0) ∧ w'.cell? ⟨g7,1,none⟩ = some (.int .i64 a3_1)) (ds:=[7,8]) #[false,false,false,false,false,false,false,false,false,false,false,false,false,false] (by kernel_rfl) rfl rfl ⟨fg40_31,fg41_31,fg42_31,fg60_31,fg61_31,fg70_31,fg71_31⟩ (fun hHeld=>?_)
   generalize w30.drew = w31 at HB_31 CC_31 C1_31 Hg4_31 Hg6_31 Hg7_31 RW_31 Hg12_31 RG_31 fg40_31 fg41_31 fg42_31 fg60_31 fg61_31 fg70_31 fg71_31 fg120_31 fg121_31 fg122_31 hHeld ⊢
   refine zzt 0 107 (zzb 14 1) hHeld ?_ (hy:=by intro w' s0;obtain ⟨q0,q1,q2,q3,q4,q5,q6⟩:=s0;go_simp;with_reducible rfl);refine zzp 2 109 (zzb 14 5) ?_
   refine zzt 4 111 (zzb 14 21) hHeld ?_ (hy:=by intro w' s0;obtain ⟨q0,q1,q2,q3,q4,q5,q6⟩:=s0;go_simp;with_reducible rfl)
   refine zzt 6 113 (zzb 14 85) hHeld ?_ (hy:=by intro w' s0;obtain ⟨q0,q1,q2,q3,q4,q5,q6⟩:=s0;go_simp;with_reducible rfl)
   refine one_ (i:=1) (N:=(some 108)) #[true,true,true,false,true,false,true,false,false,false,false,false,false,false] rfl rfl (by kernel_rfl) (by decide) (fun K hK=>?_)
   refine call_ 15 #[.agg #[.int .i64 a0_0,.int .i64 a0_1,.slice A0_2 l0_2.length c0_2]] (by rfl) rfl ?hr108_1 ?_
   case hr108_1 =>
    unfold execOp
    simp [resolve,Deferred.ofValue,invoke,Act.eval,enters_ Try.func15 (by kernel_rfl) rfl]
   refine (laws_toFloor.calls kt a0_0 a0_1 A0_2 c0_2 l0_2 a0_0 a0_1 bl _ CC_31.out hc0_2 KT.out).mono ?_
   rintro e w32 ⟨v21,rfl,hR,hB⟩
   refine ⟨_,rfl,?_⟩
   have HB_32:=Aside0.mk (below_step HB_31.out hB)
   have CC_32:=Aside0.mk (Kd.C_below CC_31.out hB)
   have C1_32:=Aside0.mk (Kd.C_below C1_31.out hB)
   have Hg4_32:=Aside0.mk (blk_below Hg4_31.out hB)
   have Hg6_32:=Aside0.mk (blk_below Hg6_31.out hB)
   have Hg7_32:=Aside0.mk (blk_below Hg7_31.out hB)
   have RW_32:=Aside0.mk (Kd.R_below RW_31.out hB)
   have Hg12_32:=Aside0.mk (blk_below Hg12_31.out hB)
   have RG_32:=Aside0.mk (Kd.R_below RG_31.out hB)
   obtain ⟨A21,c21,rfl⟩:=Kd.R_slice hR
   have CX21_32:=Aside0.mk (Kd.R_reads' hR).2.2
   have LX21:=Aside0.mk (Kd.R_reads' hR).2.1
   clear hR
   have fg40_32 : w32.cell? ⟨g4,0,none⟩ = some (.int .i64 a0_0):=(blk_cell Hg4_32.out 0).trans rfl
   have fg41_32 : w32.cell? ⟨g4,1,none⟩ = some (.int .i64 a0_1):=(blk_cell Hg4_32.out 1).trans rfl
   have fg42_32 : w32.cell? ⟨g4,2,none⟩ = some (.slice A0_2 l0_2.length c0_2):=(blk_cell Hg4_32.out 2).trans rfl
   have fg60_32 : w32.cell? ⟨g6,0,none⟩ = some (.int .i64 a2_0):=(blk_cell Hg6_32.out 0).trans rfl
   have fg61_32 : w32.cell? ⟨g6,1,none⟩ = some (.int .i64 a2_1):=(blk_cell Hg6_32.out 1).trans rfl
   have fg70_32 : w32.cell? ⟨g7,0,none⟩ = some (.int .i64 a3_0):=(blk_cell Hg7_32.out 0).trans rfl
   have fg71_32 : w32.cell? ⟨g7,1,none⟩ = some (.int .i64 a3_1):=(blk_cell Hg7_32.out 1).trans rfl
   have fg120_32 : w32.cell? ⟨g12,0,none⟩ = some (.int .i64 a0_0):=(blk_cell Hg12_32.out 0).trans rfl
   have fg121_32 : w32.cell? ⟨g12,1,none⟩ = some (.int .i64 a0_1):=(blk_cell Hg12_32.out 1).trans rfl
   have fg122_32 : w32.cell? ⟨g12,2,none⟩ = some (.slice A11 bl.length c11):=(blk_cell Hg12_32.out 2).trans rfl
   clear hB
   refine hK.out _ _ ⟨fg40_32,fg41_32,fg42_32,fg60_32,fg61_32,fg70_32,fg71_32⟩ (fun hHeld=>?_)
   clear hK K
   refine zzn 108 ?_
   refine one_ (i:=3) (N:=(some 110)) #[true,true,true,true,true,false,true,false,false,false,false,false,false,false] rfl rfl (by kernel_rfl) (by decide) (fun K hK=>?_)
   refine call_ 40 #[.slice A1 l1.length c1] (by rfl) rfl ?hr110_3 ?_
   case hr110_3 =>
    unfold execOp
    simp [resolve,Deferred.ofValue,invoke,Act.eval,enters_ Try.func40 (by kernel_rfl) rfl]
   refine (laws_toCellSS.calls kq A1 c1 l1 os _ C1_32.out hc1 KQ.out).mono ?_
   rintro e w33 ⟨v22,rfl,hS,hB⟩
   refine ⟨_,rfl,?_⟩
   have HB_33:=Aside0.mk (below_step HB_32.out hB)
   have CC_33:=Aside0.mk (Kd.C_below CC_32.out hB)
   have C1_33:=Aside0.mk (Kd.C_below C1_32.out hB)
   have Hg4_33:=Aside0.mk (blk_below Hg4_32.out hB)
   have Hg6_33:=Aside0.mk (blk_below Hg6_32.out hB)
   have Hg7_33:=Aside0.mk (blk_below Hg7_32.out hB)
   have RW_33:=Aside0.mk (Kd.R_below RW_32.out hB)
   have Hg12_33:=Aside0.mk (blk_below Hg12_32.out hB)
   have RG_33:=Aside0.mk (Kd.R_below RG_32.out hB)
   have CX21_33:=Aside0.mk (Kd.C_below CX21_32.out hB)
   obtain ⟨A22,c22,rfl⟩:=Kd.S_slice hS
   have CX22_33:=Aside0.mk (Kd.S_reads' hS).2.2
   have LX22:=Aside0.mk (Kd.S_reads' hS).2.1
   clear hS
   have fg40_33 : w33.cell? ⟨g4,0,none⟩ = some (.int .i64 a0_0):=(blk_cell Hg4_33.out 0).trans rfl
   have fg41_33 : w33.cell? ⟨g4,1,none⟩ = some (.int .i64 a0_1):=(blk_cell Hg4_33.out 1).trans rfl
   have fg42_33 : w33.cell? ⟨g4,2,none⟩ = some (.slice A0_2 l0_2.length c0_2):=(blk_cell Hg4_33.out 2).trans rfl
   have fg60_33 : w33.cell? ⟨g6,0,none⟩ = some (.int .i64 a2_0):=(blk_cell Hg6_33.out 0).trans rfl
   have fg61_33 : w33.cell? ⟨g6,1,none⟩ = some (.int .i64 a2_1):=(blk_cell Hg6_33.out 1).trans rfl
   have fg70_33 : w33.cell? ⟨g7,0,none⟩ = some (.int .i64 a3_0):=(blk_cell Hg7_33.out 0).trans rfl
   have fg71_33 : w33.cell? ⟨g7,1,none⟩ = some (.int .i64 a3_1):=(blk_cell Hg7_33.out 1).trans rfl
   have fg120_33 : w33.cell? ⟨g12,0,none⟩ = some (.int .i64 a0_0):=(blk_cell Hg12_33.out 0).trans rfl
   have fg121_33 : w33.cell? ⟨g12,1,none⟩ = some (.int .i64 a0_1):=(blk_cell Hg12_33.out 1).trans rfl
   have fg122_33 : w33.cell? ⟨g12,2,none⟩ = some (.slice A11 bl.length c11):=(blk_cell Hg12_33.out 2).trans rfl
   clear hB
   refine hK.out _ _ ⟨fg40_33,fg41_33,fg42_33,fg60_33,fg61_33,fg70_33,fg71_33⟩ (fun hHeld=>?_)
   clear hK K
   refine zzn 110 ?_
   refine one_ (i:=5) (N:=(some 112)) #[true,true,true,true,true,true,true,false,false,false,false,false,false,false] rfl rfl (by kernel_rfl) (by decide) (fun K hK=>?_)
   refine call_ 28 #[.agg #[.int .i64 a2_0,.int .i64 a2_1]] (by rfl) rfl ?hr112_5 ?_
   case hr112_5 =>
    unfold execOp
    simp [resolve,Deferred.ofValue,invoke,Act.eval,enters_ Try.func28 (by kernel_rfl) rfl]
   refine (laws_toCell.calls a2_0 a2_1 a2_0 a2_1 _ rfl).mono ?_
   rintro e w34 ⟨rfl,hB⟩
   refine ⟨_,rfl,?_⟩
   have HB_34:=Aside0.mk (below_step HB_33.out hB)
   have CC_34:=Aside0.mk (Kd.C_below CC_33.out hB)
   have C1_34:=Aside0.mk (Kd.C_below C1_33.out hB)
   have Hg4_34:=Aside0.mk (blk_below Hg4_33.out hB)
   have Hg6_34:=Aside0.mk (blk_below Hg6_33.out hB)
   have Hg7_34:=Aside0.mk (blk_below Hg7_33.out hB)
   have RW_34:=Aside0.mk (Kd.R_below RW_33.out hB)
   have Hg12_34:=Aside0.mk (blk_below Hg12_33.out hB)
   have RG_34:=Aside0.mk (Kd.R_below RG_33.out hB)
   have CX21_34:=Aside0.mk (Kd.C_below CX21_33.out hB)
   have CX22_34:=Aside0.mk (Kd.C_below CX22_33.out hB)
   have fg40_34 : w34.cell? ⟨g4,0,none⟩ = some (.int .i64 a0_0):=(blk_cell Hg4_34.out 0).trans rfl
   have fg41_34 : w34.cell? ⟨g4,1,none⟩ = some (.int .i64 a0_1):=(blk_cell Hg4_34.out 1).trans rfl
   have fg42_34 : w34.cell? ⟨g4,2,none⟩ = some (.slice A0_2 l0_2.length c0_2):=(blk_cell Hg4_34.out 2).trans rfl
   have fg60_34 : w34.cell? ⟨g6,0,none⟩ = some (.int .i64 a2_0):=(blk_cell Hg6_34.out 0).trans rfl
   have fg61_34 : w34.cell? ⟨g6,1,none⟩ = some (.int .i64 a2_1):=(blk_cell Hg6_34.out 1).trans rfl
   have fg70_34 : w34.cell? ⟨g7,0,none⟩ = some (.int .i64 a3_0):=(blk_cell Hg7_34.out 0).trans rfl
   have fg71_34 : w34.cell? ⟨g7,1,none⟩ = some (.int .i64 a3_1):=(blk_cell Hg7_34.out 1).trans rfl
   have fg120_34 : w34.cell? ⟨g12,0,none⟩ = some (.int .i64 a0_0):=(blk_cell Hg12_34.out 0).trans rfl
   have fg121_34 : w34.cell? ⟨g12,1,none⟩ = some (.int .i64 a0_1):=(blk_cell Hg12_34.out 1).trans rfl
   have fg122_34 : w34.cell? ⟨g12,2,none⟩ = some (.slice A11 bl.length c11):=(blk_cell Hg12_34.out 2).trans rfl
   clear hB
   refine hK.out _ _ ⟨fg40_34,fg41_34,fg42_34,fg60_34,fg61_34,fg70_34,fg71_34⟩ (fun hHeld=>?_)
   clear hK K
   refine zzn 112 ?_
   refine last_ (i:=7) (N:=(some 114)) #[true,true,true,true,true,true,true,true,false,false,false,false,false,false] rfl rfl (by kernel_rfl) (by decide) (fun K hK=>?_)
   refine call_ 28 #[.agg #[.int .i64 a3_0,.int .i64 a3_1]] (by rfl) rfl ?hr114_7 ?_
   case hr114_7 =>
    unfold execOp
    simp [resolve,Deferred.ofValue,invoke,Act.eval,enters_ Try.func28 (by kernel_rfl) rfl]
   refine (laws_toCell.calls a3_0 a3_1 a3_0 a3_1 _ rfl).mono ?_
   rintro e w35 ⟨rfl,hB⟩
   refine ⟨_,rfl,?_⟩
   have HB_35:=Aside0.mk (below_step HB_34.out hB)
   have CC_35:=Aside0.mk (Kd.C_below CC_34.out hB)
   have C1_35:=Aside0.mk (Kd.C_below C1_34.out hB)
   have Hg4_35:=Aside0.mk (blk_below Hg4_34.out hB)
   have Hg6_35:=Aside0.mk (blk_below Hg6_34.out hB)
   have Hg7_35:=Aside0.mk (blk_below Hg7_34.out hB)
   have RW_35:=Aside0.mk (Kd.R_below RW_34.out hB)
   have Hg12_35:=Aside0.mk (blk_below Hg12_34.out hB)
   have RG_35:=Aside0.mk (Kd.R_below RG_34.out hB)
   have CX21_35:=Aside0.mk (Kd.C_below CX21_34.out hB)
   have CX22_35:=Aside0.mk (Kd.C_below CX22_34.out hB)
   have fg40_35 : w35.cell? ⟨g4,0,none⟩ = some (.int .i64 a0_0):=(blk_cell Hg4_35.out 0).trans rfl
   have fg41_35 : w35.cell? ⟨g4,1,none⟩ = some (.int .i64 a0_1):=(blk_cell Hg4_35.out 1).trans rfl
   have fg42_35 : w35.cell? ⟨g4,2,none⟩ = some (.slice A0_2 l0_2.length c0_2):=(blk_cell Hg4_35.out 2).trans rfl
   have fg60_35 : w35.cell? ⟨g6,0,none⟩ = some (.int .i64 a2_0):=(blk_cell Hg6_35.out 0).trans rfl
   have fg61_35 : w35.cell? ⟨g6,1,none⟩ = some (.int .i64 a2_1):=(blk_cell Hg6_35.out 1).trans rfl
   have fg70_35 : w35.cell? ⟨g7,0,none⟩ = some (.int .i64 a3_0):=(blk_cell Hg7_35.out 0).trans rfl
   have fg71_35 : w35.cell? ⟨g7,1,none⟩ = some (.int .i64 a3_1):=(blk_cell Hg7_35.out 1).trans rfl
   have fg120_35 : w35.cell? ⟨g12,0,none⟩ = some (.int .i64 a0_0):=(blk_cell Hg12_35.out 0).trans rfl
   have fg121_35 : w35.cell? ⟨g12,1,none⟩ = some (.int .i64 a0_1):=(blk_cell Hg12_35.out 1).trans rfl
   have fg122_35 : w35.cell? ⟨g12,2,none⟩ = some (.slice A11 bl.length c11):=(blk_cell Hg12_35.out 2).trans rfl
   clear hB
   refine hK.out _ _ ?_
   clear hK K
   refine zzn 114 ?_
   refine last_ (i:=8) (N:=(some 115)) #[true,true,true,true,true,true,true,true,true,false,false,false,false,false] rfl rfl (by kernel_rfl) (by decide) (fun K hK=>?_)
   refine call_ 41 #[.agg #[.int .i64 a0_0,.int .i64 a0_1,.slice A21 bl.length c21],.slice A22 os.length c22,.agg #[.int .i64 a2_0,.int .i64 a2_1],.agg #[.int .i64 a3_0,.int .i64 a3_1]] (by rfl) rfl ?hr115_8 ?_
   case hr115_8 =>
    unfold execOp
    simp [resolve,Deferred.ofValue,invoke,Act.eval,enters_ Try.func41 (by kernel_rfl) rfl]
   refine (impl_SafePath.calls a0_0 a0_1 A21 c21 bl A22 c22 os a2_0 a2_1 a3_0 a3_1 R.1 R.2 _ CX21_35.out LX21.out CX22_35.out LX22.out KI.out).mono ?_
   rintro e w36 ⟨v23,rfl,hR,hB⟩
   refine ⟨_,rfl,?_⟩
   have HB_36:=Aside0.mk (below_step HB_35.out hB)
   have CC_36:=Aside0.mk (Kd.C_below CC_35.out hB)
   have C1_36:=Aside0.mk (Kd.C_below C1_35.out hB)
   have Hg4_36:=Aside0.mk (blk_below Hg4_35.out hB)
   have Hg6_36:=Aside0.mk (blk_below Hg6_35.out hB)
   have Hg7_36:=Aside0.mk (blk_below Hg7_35.out hB)
   have RW_36:=Aside0.mk (Kd.R_below RW_35.out hB)
   have Hg12_36:=Aside0.mk (blk_below Hg12_35.out hB)
   have RG_36:=Aside0.mk (Kd.R_below RG_35.out hB)
   have CX21_36:=Aside0.mk (Kd.C_below CX21_35.out hB)
   have CX22_36:=Aside0.mk (Kd.C_below CX22_35.out hB)
   obtain ⟨A23,c23,rfl⟩:=Kd.R_slice hR
   have RH_36:=Aside0.mk hR
   clear hR
   have fg40_36 : w36.cell? ⟨g4,0,none⟩ = some (.int .i64 a0_0):=(blk_cell Hg4_36.out 0).trans rfl
   have fg41_36 : w36.cell? ⟨g4,1,none⟩ = some (.int .i64 a0_1):=(blk_cell Hg4_36.out 1).trans rfl
   have fg42_36 : w36.cell? ⟨g4,2,none⟩ = some (.slice A0_2 l0_2.length c0_2):=(blk_cell Hg4_36.out 2).trans rfl
   have fg60_36 : w36.cell? ⟨g6,0,none⟩ = some (.int .i64 a2_0):=(blk_cell Hg6_36.out 0).trans rfl
   have fg61_36 : w36.cell? ⟨g6,1,none⟩ = some (.int .i64 a2_1):=(blk_cell Hg6_36.out 1).trans rfl
   have fg70_36 : w36.cell? ⟨g7,0,none⟩ = some (.int .i64 a3_0):=(blk_cell Hg7_36.out 0).trans rfl
   have fg71_36 : w36.cell? ⟨g7,1,none⟩ = some (.int .i64 a3_1):=(blk_cell Hg7_36.out 1).trans rfl
   have fg120_36 : w36.cell? ⟨g12,0,none⟩ = some (.int .i64 a0_0):=(blk_cell Hg12_36.out 0).trans rfl
   have fg121_36 : w36.cell? ⟨g12,1,none⟩ = some (.int .i64 a0_1):=(blk_cell Hg12_36.out 1).trans rfl
   have fg122_36 : w36.cell? ⟨g12,2,none⟩ = some (.slice A11 bl.length c11):=(blk_cell Hg12_36.out 2).trans rfl
   clear hB
   refine hK.out _ _ ?_
   clear hK K
   refine zzn 115 ?_;refine zzp 9 106 (zzb 14 1023) ?_;refine zzp 10 116 (zzb 14 2047) ?_;refine zzp 11 117 (zzb 14 4095) ?_;refine zzp 12 19 (zzb 14 8191) ?_;refine zzp 13 20 (zzb 14 16383) ?_
   refine done_ (by kernel_rfl) ?_
   go_wp2_with (first|(go_at_call 22;(with_reducible refine (laws_eqCellS.calls kr A23 c23 R.1 A10 c10 R.1 true _ (Kd.R_reads' RH_36.out).2.2 (Kd.R_reads' RH_36.out).2.1 (Kd.R_reads' RW_36.out).2.2 (Kd.R_reads' RW_36.out).2.1 KR.out).mono ?_);rintro e w37 ⟨rfl,hB⟩;have HB_37:=Aside0.mk (below_step HB_36.out hB);have CC_37:=Aside0.mk (Kd.C_below CC_36.out hB);have C1_37:=Aside0.mk (Kd.C_below C1_36.out hB);have Hg4_37:=Aside0.mk (blk_below Hg4_36.out hB);have Hg6_37:=Aside0.mk (blk_below Hg6_36.out hB);have Hg7_37:=Aside0.mk (blk_below Hg7_36.out hB);have RW_37:=Aside0.mk (Kd.R_below RW_36.out hB);have Hg12_37:=Aside0.mk (blk_below Hg12_36.out hB);have RG_37:=Aside0.mk (Kd.R_below RG_36.out hB);have RH_37:=Aside0.mk (Kd.R_below RH_36.out hB);have fg40_37 : w37.cell? ⟨g4,0,none⟩ = some (.int .i64 a0_0):=(blk_cell Hg4_37.out 0).trans rfl;have fg41_37 : w37.cell? ⟨g4,1,none⟩ = some (.int .i64 a0_1):=(blk_cell Hg4_37.out 1).trans rfl;have fg42_37 : w37.cell? ⟨g4,2,none⟩ = some (.slice A0_2 l0_2.length c0_2):=(blk_cell Hg4_37.out 2).trans rfl;have fg60_37 : w37.cell? ⟨g6,0,none⟩ = some (.int .i64 a2_0):=(blk_cell Hg6_37.out 0).trans rfl;have fg61_37 : w37.cell? ⟨g6,1,none⟩ = some (.int .i64 a2_1):=(blk_cell Hg6_37.out 1).trans rfl;have fg70_37 : w37.cell? ⟨g7,0,none⟩ = some (.int .i64 a3_0):=(blk_cell Hg7_37.out 0).trans rfl;have fg71_37 : w37.cell? ⟨g7,1,none⟩ = some (.int .i64 a3_1):=(blk_cell Hg7_37.out 1).trans rfl;have fg120_37 : w37.cell? ⟨g12,0,none⟩ = some (.int .i64 a0_0):=(blk_cell Hg12_37.out 0).trans rfl;have fg121_37 : w37.cell? ⟨g12,1,none⟩ = some (.int .i64 a0_1):=(blk_cell Hg12_37.out 1).trans rfl;have fg122_37 : w37.cell? ⟨g12,2,none⟩ = some (.slice A11 bl.length c11):=(blk_cell Hg12_37.out 2).trans rfl;clear hB)|(go_at_call 37;(with_reducible refine (heldCl_at kh A14 c14 gs R.1.length 1 _ _ HGL.out (Kd.R_reads' RG_37.out).2.2 (Kd.R_reads' RG_37.out).2.1 KH.out).mono ?_);rintro e w38 ⟨rfl,hd⟩;have hB:=hd.below;clear hd;have HB_38:=Aside0.mk (below_step HB_37.out hB);have CC_38:=Aside0.mk (Kd.C_below CC_37.out hB);have C1_38:=Aside0.mk (Kd.C_below C1_37.out hB);have Hg4_38:=Aside0.mk (blk_below Hg4_37.out hB);have Hg6_38:=Aside0.mk (blk_below Hg6_37.out hB);have Hg7_38:=Aside0.mk (blk_below Hg7_37.out hB);have RW_38:=Aside0.mk (Kd.R_below RW_37.out hB);have Hg12_38:=Aside0.mk (blk_below Hg12_37.out hB);have RG_38:=Aside0.mk (Kd.R_below RG_37.out hB);have RH_38:=Aside0.mk (Kd.R_below RH_37.out hB);have fg40_38 : w38.cell? ⟨g4,0,none⟩ = some (.int .i64 a0_0):=(blk_cell Hg4_38.out 0).trans rfl;have fg41_38 : w38.cell? ⟨g4,1,none⟩ = some (.int .i64 a0_1):=(blk_cell Hg4_38.out 1).trans rfl;have fg42_38 : w38.cell? ⟨g4,2,none⟩ = some (.slice A0_2 l0_2.length c0_2):=(blk_cell Hg4_38.out 2).trans rfl;have fg60_38 : w38.cell? ⟨g6,0,none⟩ = some (.int .i64 a2_0):=(blk_cell Hg6_38.out 0).trans rfl;have fg61_38 : w38.cell? ⟨g6,1,none⟩ = some (.int .i64 a2_1):=(blk_cell Hg6_38.out 1).trans rfl;have fg70_38 : w38.cell? ⟨g7,0,none⟩ = some (.int .i64 a3_0):=(blk_cell Hg7_38.out 0).trans rfl;have fg71_38 : w38.cell? ⟨g7,1,none⟩ = some (.int .i64 a3_1):=(blk_cell Hg7_38.out 1).trans rfl;have fg120_38 : w38.cell? ⟨g12,0,none⟩ = some (.int .i64 a0_0):=(blk_cell Hg12_38.out 0).trans rfl;have fg121_38 : w38.cell? ⟨g12,1,none⟩ = some (.int .i64 a0_1):=(blk_cell Hg12_38.out 1).trans rfl;have fg122_38 : w38.cell? ⟨g12,2,none⟩ = some (.slice A11 bl.length c11):=(blk_cell Hg12_38.out 2).trans rfl;clear hB))
   go_ret
   exact ⟨rfl,HB_38.out⟩
end Go.Proofs.Ytbpccdbkaiigcaa.G

-- Written by wip/tools/gen.py out of the translation (the kit's printer, one namespace a seat). Lean checks it.
namespace Go.Proofs.Ytbpccdbkaiigcaa.G
open Go.RowKit Go.ChangeShapes Go.WideShapes Go.Deep Go.Proofs.YtbpccdbkaiigcaaW.PrintWords Go.Proofs.YtbpccdbkaiigcaaW.PrintLast
set_option linter.unusedVariables false
/-! Opening the arguments of a law: whatever reads as data of type t reads as a value of kind d, within what its type allows. -/
def Opens {α : Type} (P : Program) (t : TypeId) (d : Kd α) (Wf : α → Prop) : Prop :=
 ∀ {H : Type} {enc : TypeId × Value → H} {W : World} {spare : Nat → Bool} {held : Bool} {fuel : Nat} {cs : List Value} {x : DataW H × List MemPlace},
  DataW.trod enc P W 0 spare held fuel t cs = some x → ∃ a,d.K W a cs ∧ Wf a
theorem opens_int {P : Program} {t : TypeId} {k : IntKind} (ht : P.underlying t = some (.int k)) : Opens P t (Kd.int k) (fun x=>(Lit.int k x).wf = true):=by
 intro H enc W spare held fuel cs x h
 obtain ⟨n,rfl,_,hw⟩:=DataW.trod_int ht h
 exact ⟨n,rfl,hw⟩
theorem opens_row {α : Type} {d : Kd α} {Wf : α → Prop} {W : World} (Q : Nat → List Value → Prop) (hq : ∀ i cs,Q i cs → ∃ a,d.K W a cs ∧ Wf a) (n : Nat) (h : ∀ i,i < n → ∃ cs,Q i cs) :
  ∃ xs : List α,xs.length = n ∧ (∀ y ∈ xs,Wf y) ∧ ∀ j p,xs[j]? = some p → ∃ cs,Q j cs ∧ d.K W p cs:=by
 induction n with
 | zero=>exact ⟨[],rfl,fun y hy=>by simp at hy,fun j p hp=>by simp at hp⟩
 | succ n ih =>
  obtain ⟨xs,hl,hw,hx⟩:=ih (fun i hi=>h i (by omega))
  obtain ⟨cs,hcs⟩:=h n (by omega)
  obtain ⟨a,ha,hwa⟩:=hq n cs hcs
  refine ⟨xs ++ [a],by simp [hl],fun y hy=>?_,fun j p hp=>?_⟩
  ·rcases List.mem_append.1 hy with hy|hy
   ·exact hw y hy
   ·rw [List.mem_singleton.1 hy];exact hwa
  ·rcases Nat.lt_or_ge j xs.length with hj|hj
   ·rw [List.getElem?_append_left hj] at hp
    exact hx j p hp
   ·rw [List.getElem?_append_right hj] at hp
    have h0 : j - xs.length = 0:=by
     rcases Nat.eq_zero_or_pos (j - xs.length) with h0|h0
     ·exact h0
     ·rw [List.getElem?_eq_none (by simp;omega)] at hp;cases hp
    rw [h0] at hp
    simp at hp
    subst hp
    have : j = n:=by omega
    subst this
    exact ⟨cs,hcs,ha⟩
theorem opens_slice {α : Type} {P : Program} {t e : TypeId} {d : Kd α} {Wf : α → Prop} (ht : P.underlying t = some (.slice e)) (hC : P.cellsOf e = d.sz) (ho : Opens P e d Wf) :
  Opens P t (Kd.slice e d) (fun xs=>xs.length ≤ maxLen ∧ ∀ y ∈ xs,Wf y):=by
 intro H enc W spare held fuel cs x h
 rcases open_slice ht h with ⟨rfl,_⟩|⟨a,len,cap,m,n,D,Pl,rfl,_,hl,hm,hmm,_,hi⟩
 ·exact ⟨[],⟨none,0,rfl,Nat.le_refl _,rfl,by simp,fun h=>by simp at h⟩,by simp [maxLen],fun y hy=>by simp at hy⟩
 ·have hml : len ≤ m:=by rw [hmm];split <;> omega
  obtain ⟨xs,hxl,hw,hx⟩:=opens_row (W:=W) (d:=d) (Wf:=Wf) (fun i cs'=>W.cells? 0 (a.add (i * P.cellsOf e)) (P.cellsOf e) = some cs' ∧ DataW.trod enc P W 0 spare held n e cs' = some (D i,Pl i))
   (fun i cs' hq=>ho hq.2) len (fun i hi'=>hi i (by omega))
  refine ⟨xs,⟨some a,cap,by rw [hxl],by omega,rfl,?_,fun _=>⟨a,rfl,fun j p hj=>?_⟩⟩,by omega,hw⟩
  ·simp only [maxLen] at hm
   omega
  ·obtain ⟨cs',⟨hc,_⟩,hK⟩:=hx j p hj
   obtain ⟨_,hcl,hat⟩:=World.cells?_some hc
   refine ⟨cs',d.K_len hK,hK,fun i u hu=>?_⟩
   have hil : i < cs'.length:=(List.getElem?_eq_some_iff.1 hu).1
   have h1:=hat i (by omega)
   rw [hC] at h1
   rw [← Go.Deep.add_add,h1,hu]
theorem opens_iso {α β : Type} {P : Program} {t : TypeId} {d : Kd α} {Wf : α → Prop} {Wf' : β → Prop} {f : β → α} (ho : Opens P t d Wf) (g : α → β) (hg : ∀ a,f (g a) = a) (hw : ∀ a,Wf a → Wf' (g a)) : Opens P t (Kd.iso d f) Wf':=by
 intro H enc W spare held fuel cs x h
 obtain ⟨a,hK,hwa⟩:=ho h
 refine ⟨g a,?_,hw a hwa⟩
 show d.K W (f (g a)) cs
 rw [hg]
 exact hK
section
variable {α β γ δ : Type} {P : Program} {t : TypeId} {f0 f1 f2 f3 : Field} {d0 : Kd α} {d1 : Kd β} {d2 : Kd γ} {d3 : Kd δ} {W0 : α → Prop} {W1 : β → Prop} {W2 : γ → Prop} {W3 : δ → Prop}
theorem opens_struct2 (ht : P.underlying t = some (.struct #[f0,f1])) (hT : P.cellsOf t = d0.sz + d1.sz) (s0 : f0.offset = 0) (c0 : P.cellsOf f0.type = d0.sz) (s1 : f1.offset = d0.sz) (c1 : P.cellsOf f1.type = d1.sz)
  (o0 : Opens P f0.type d0 W0) (o1 : Opens P f1.type d1 W1) : Opens P t (Kd.pair d0 d1) (fun x=>W0 x.1 ∧ W1 x.2):=by
 intro H enc W spare held fuel cs x h
 obtain ⟨xs,n,_,_,hlen,hxl,hf⟩:=DataW.trod_struct ht h
 have h0:=hf 0 f0 rfl
 have h1:=hf 1 f1 rfl
 rw [List.getElem?_eq_getElem (show 0 < xs.length by rw [hxl];simp),s0,c0,List.drop_zero] at h0
 rw [List.getElem?_eq_getElem (show 1 < xs.length by rw [hxl];simp),s1,c1,List.take_of_length_le (by simp;omega)] at h1
 obtain ⟨a,ka,wa⟩:=o0 h0
 obtain ⟨b,kb,wb⟩:=o1 h1
 exact ⟨(a,b),⟨_,_,(List.take_append_drop d0.sz cs).symm,ka,kb⟩,wa,wb⟩
theorem opens_struct3 (ht : P.underlying t = some (.struct #[f0,f1,f2])) (hT : P.cellsOf t = d0.sz + (d1.sz + d2.sz)) (s0 : f0.offset = 0) (c0 : P.cellsOf f0.type = d0.sz) (s1 : f1.offset = d0.sz) (c1 : P.cellsOf f1.type = d1.sz)
  (s2 : f2.offset = d0.sz + d1.sz) (c2 : P.cellsOf f2.type = d2.sz) (o0 : Opens P f0.type d0 W0) (o1 : Opens P f1.type d1 W1) (o2 : Opens P f2.type d2 W2) : Opens P t (Kd.pair d0 (Kd.pair d1 d2)) (fun x=>W0 x.1 ∧ W1 x.2.1 ∧ W2 x.2.2):=by
 intro H enc W spare held fuel cs x h
 obtain ⟨xs,n,_,_,hlen,hxl,hf⟩:=DataW.trod_struct ht h
 have h0:=hf 0 f0 rfl
 have h1:=hf 1 f1 rfl
 have h2:=hf 2 f2 rfl
 rw [List.getElem?_eq_getElem (show 0 < xs.length by rw [hxl];simp),s0,c0,List.drop_zero] at h0
 rw [List.getElem?_eq_getElem (show 1 < xs.length by rw [hxl];simp),s1,c1] at h1
 rw [List.getElem?_eq_getElem (show 2 < xs.length by rw [hxl];simp),s2,c2,List.take_of_length_le (by simp;omega)] at h2
 obtain ⟨a,ka,wa⟩:=o0 h0
 obtain ⟨b,kb,wb⟩:=o1 h1
 obtain ⟨c,kc,wc⟩:=o2 h2
 refine ⟨(a,b,c),⟨_,_,(List.take_append_drop d0.sz cs).symm,ka,⟨_,_,(List.take_append_drop d1.sz (cs.drop d0.sz)).symm,kb,?_⟩⟩,wa,wb,wc⟩
 rw [List.drop_drop]
 exact kc
end
theorem opens_arg {α : Type} {P : Program} {t e : TypeId} {d : Kd α} {Wf : List α → Prop} (ho : Opens P t (Kd.slice e d) Wf) {H : Type} {enc : TypeId × Value → H} {W : World} {spare : Nat → Bool} {held : Bool} {a : Option Addr} {len cap : Nat} {dd : DataW H} {p : List MemPlace}
  (h : DataW.Trod enc P W 0 spare held t (.slice a len cap) dd p) : ∃ l : List α,len = l.length ∧ l.length ≤ cap ∧ Kd.C d W a l.length l ∧ Wf l:=by
 obtain ⟨fuel,hf⟩:=h
 obtain ⟨l,⟨A,c,he,hl,hC⟩,hw⟩:=ho hf
 simp [Value.cells] at he
 obtain ⟨rfl,rfl,rfl⟩:=he
 exact ⟨l,rfl,hl,hC,hw⟩
theorem opens_agg {α : Type} {P : Program} {t : TypeId} {fs : Array Field} {d : Kd α} {Wf : α → Prop} (ht : P.underlying t = some (.struct fs)) (hT : P.cellsOf t = d.sz) (ho : Opens P t d Wf) {H : Type} {enc : TypeId × Value → H} {W : World} {r : Reach} {b0 : Nat} {spare : Nat → Bool} {held : Bool} {v : Value} {dd : DataW H} {p : List MemPlace}
  (hv : Value.okWide P W r b0 t v) (h : DataW.Trod enc P W 0 spare held t v dd p) : ∃ x : α,(∀ cs : List Value,v.cells.toList = cs → v = .agg cs.toArray) ∧ d.K W x v.cells.toList ∧ Wf x:=by
 obtain ⟨cs,rfl,_⟩:=okWide_struct ht hv
 obtain ⟨fuel,hf⟩:=h
 obtain ⟨x,hK,hw⟩:=ho hf
 refine ⟨x,fun l hl=>?_,hK,hw⟩
 rw [← hl]
 simp [Value.cells]

set_option maxRecDepth 100000 in
theorem opens_T44 : Opens Try.prog 44 k44 W44 :=
 opens_iso (opens_struct2 Try.underlying44 (by kernel_rfl) rfl (by kernel_rfl) rfl (by kernel_rfl) (opens_int Try.underlying3) (opens_int Try.underlying3)) (fun p=>⟨p.1,p.2⟩) (fun _=>rfl) (fun _ h=>h)
set_option maxRecDepth 100000 in
theorem opens_T24 : Opens Try.prog 24 k24 W24 :=
 opens_iso (opens_struct3 Try.underlying24 (by kernel_rfl) rfl (by kernel_rfl) rfl (by kernel_rfl) rfl (by kernel_rfl) (opens_int Try.underlying3) (opens_int Try.underlying3) (opens_slice Try.underlying22 (by kernel_rfl) (opens_T44))) (fun p=>⟨p.1,p.2.1,p.2.2⟩) (fun _=>rfl) (fun _ h=>h)
end Go.Proofs.Ytbpccdbkaiigcaa.G
