/- Texts of the proof of FnExactSafePath, joined in build order. -/
import Derived.Test.YtbpccdbkaiigcaaMgFnExactSafePath2
import Derived.Test.YtbpccdbkaiigcaaMgFnExactSafePath1
/- The walk of spec.l16Levels: for every minute the cells at which a vehicle can be. -/
namespace Go.Proofs.Ytbpccdbkaiigcaa.G
open Go.RowKit Go.Proofs.YtbpccdbkaiigcaaW.PrintWords Go.Proofs.YtbpccdbkaiigcaaW.PrintLast Go.Proofs.YtbpccdbkaiigcaaW.PrintMore
set_option linter.unusedVariables false
set_option linter.unusedSimpArgs false
theorem can_succ {os : List (List S48)} {now : List S48} {z : Int} {b d : S48} {i : Nat} (hi : i < now.length) (hd : rd_T48 now (i : Int) = d) : Can os (now.take (i + 1)) z b ↔ Can os (now.take i) z b ∨ (Near d b ∧ ¬ HitAt os d b z):=by
 have e : now.take (i + 1) = now.take i ++ [d]:=by
  rw [List.take_succ_eq_append_getElem hi]
  congr 2
  rw [← hd]
  unfold rd_T48
  rw [Int.toNat_natCast,List.getD_eq_getElem?_getD,List.getElem?_eq_getElem hi]
  rfl
 unfold Can
 rw [e]
 constructor
 ·rintro ⟨q,hq,h⟩
  rcases List.mem_append.1 hq with hq|hq
  ·exact Or.inl ⟨q,hq,h⟩
  ·rw [List.mem_singleton] at hq;subst hq;exact Or.inr h
 ·rintro (⟨q,hq,h⟩|h)
  ·exact ⟨q,List.mem_append.2 (Or.inl hq),h⟩
  ·exact ⟨d,List.mem_append.2 (Or.inr (List.mem_singleton.2 rfl)),h⟩
theorem can_zero {os : List (List S48)} {now : List S48} {z : Int} {b : S48} : ¬ Can os (now.take 0) z b:=by rintro ⟨q,hq,_⟩;simp at hq
set_option maxHeartbeats 8000000 in
set_option maxRecDepth 100000 in
theorem spec_l16Levels.bad (a0_0 a0_1 : Int) (A0_2 : Option Addr) (c0_2 : Nat) (l0_2 : List S48) (A1 : Option Addr) (c1 : Nat) (os : List (List S48)) (c2 : S48) (w : World) (hr0_2 : Kd.C k48 w A0_2 l0_2.length l0_2) (hc0_2 : l0_2.length ≤ c0_2) (hr1 : Kd.C SL6 w A1 os.length os) (hc1 : os.length ≤ c1) (kc : Nat) (hkc : spec_l16Clear.f kc os c2.f0 c2.f1 c2.f0 c2.f1 0 = some false) :
  Calls Try.prog 88 #[.agg #[.int .i64 a0_0,.int .i64 a0_1,.slice A0_2 l0_2.length c0_2],.slice A1 os.length c1,.agg #[.int .i64 c2.f0,.int .i64 c2.f1]] w fun e w' => ∃ u : Value,e = .returned u ∧ Kd.R SL6 27 w' w.heap.size (fun _=>True) u [] ∧ Below w.heap.size w w':=by
 have hu29:=Try.underlying29
 have hu48:=Try.underlying48
 have HR0:=Aside0.mk hr0_2
 have HC0:=Aside0.mk hc0_2
 have HR1:=Aside0.mk hr1
 have HC1:=Aside0.mk hc1
 have HKC:=Aside0.mk hkc
 clear hr0_2 hc0_2 hr1 hc1 hkc
 go_enter Try.func88,Try.ntmps88
 go_wp2_with (first|((with_reducible refine gate_dst (N:=3) rfl ?_);refine zzc 3 #[.int .i64 a0_0,.int .i64 a0_1,.slice A0_2 l0_2.length c0_2] 29 ?_;intro g3 hgg3 w3 hbox hb;have HF3:=Aside0.mk hbox;have HB3:=Aside0.mk hb;clear hbox hb hgg3)|((with_reducible refine gate_dst (N:=5) rfl ?_);refine zzc 5 #[.int .i64 c2.f0,.int .i64 c2.f1] 48 ?_;intro g5 hgg5 w5 hbox hb;have HF5:=Aside0.mk hbox;have HF3':=Aside0.mk (blk_below HF3.out hb);have HB5:=Aside0.mk (below_step HB3.out hb);clear HF3 HB3 hbox hb hgg5;have f50:=zz0 HF5;have f51:=zz1 HF5)|((with_reducible refine gate_dst (N:=16) rfl ?_);refine Kd.R_lit SL6 _ 27 ?hg (N:=16) ?hd (xs:=([] : List (List S48))) (inner:=[]) (ok:=fun _=>True) (okp:=fun _=>True) ?hr ?hp (fun _ hk=>hk) trivial (Below.refl _ _) (Nat.le_refl _) (by simp) ?_;(case hd=>rfl);(case hg=>rfl);(case hr=>first|(go_simp;done)|(go_simp;rfl));(case hp=>exact (Reps.none _ _));intro v16 w16 hR hB hg_ hnew_;clear hg_ hnew_;have HS16 : Aside0 (LV w w16 #[.int .i64 a0_0,.int .i64 a0_1,.slice A0_2 l0_2.length c0_2] g3 v16 [] (.slice none 0 0) [] (.slice none 0 0) []):=Aside0.mk ⟨blk_below HF3'.out hB,Kd.R_mono (Kd.R_lower hR HB5.out.size) (fun k _=>by simp [Value.ownBlock]),Kd.R_nil _ _ _ _ _,Kd.R_nil _ _ _ _ _,below_step HB5.out hB⟩;have HF5':=Aside0.mk (blk_below HF5.out hB);clear f50 f51 HF3' HB5 HF5;have f50:=zz0 HF5';have f51:=zz1 HF5';clear hR hB)|(go_at_call 91;(with_reducible refine (spec_l16Clear.calls kc A1 c1 os c2.f0 c2.f1 c2.f0 c2.f1 0 false _ (Kd.C_below HR1.out HS16.out.bl) HC1.out HKC.out).mono ?_);rintro e w20 ⟨rfl,hB⟩;have HS20:=Aside0.mk (HS16.out.below hB);have HF5'':=Aside0.mk (blk_below HF5'.out hB);clear f50 f51 HS16 HF5' hB;have f50:=zz0 HF5'';have f51:=zz1 HF5''))
 obtain ⟨A16,c16,e16⟩:=Kd.R_slice HS20.out.out
 subst e16
 go_ret
 exact ⟨_,rfl,HS20.out.outT,HS20.out.bl⟩
set_option maxHeartbeats 8000000 in
set_option maxRecDepth 100000 in
theorem spec_l16Levels.good (a0_0 a0_1 : Int) (A0_2 : Option Addr) (c0_2 : Nat) (l0_2 : List S48) (A1 : Option Addr) (c1 : Nat) (os : List (List S48)) (c2 : S48) (w : World) (hr0_2 : Kd.C k48 w A0_2 l0_2.length l0_2) (hc0_2 : l0_2.length ≤ c0_2) (hr1 : Kd.C SL6 w A1 os.length os) (hc1 : os.length ≤ c1) (kc : Nat) (hkc : spec_l16Clear.f kc os c2.f0 c2.f1 c2.f0 c2.f1 0 = some true) (hf : FloorOk a0_0 a0_1 l0_2) (hb : (l0_2.length : Int) ≤ 1099511627776) (ha : Free a0_0 a0_1 l0_2 c2) (ho : Len os) :
  Calls Try.prog 88 #[.agg #[.int .i64 a0_0,.int .i64 a0_1,.slice A0_2 l0_2.length c0_2],.slice A1 os.length c1,.agg #[.int .i64 c2.f0,.int .i64 c2.f1]] w fun e w' => ∃ u : Value,e = .returned u ∧ Kd.R SL6 27 w' w.heap.size (fun _=>True) u ((List.range 25).map (lev a0_0 a0_1 l0_2 os c2)) ∧ Below w.heap.size w w':=by
 have hu29:=Try.underlying29
 have hu48:=Try.underlying48
 have HR0:=Aside0.mk hr0_2
 have HC0:=Aside0.mk hc0_2
 have HR1:=Aside0.mk hr1
 have HC1:=Aside0.mk hc1
 have HKC:=Aside0.mk hkc
 have HFL:=Aside0.mk hf
 have HBL:=Aside0.mk hb
 have HA:=Aside0.mk ha
 have HO:=Aside0.mk ho
 have hW6 : a0_0.toNat ≤ 6:=by have:=hf.1;omega
 have hH6 : a0_1.toNat ≤ 6:=by have:=hf.2.1;omega
 have HWH : Aside0 (0 ≤ a0_0 ∧ 0 ≤ a0_1):=⟨by have:=hf.1;have:=hf.2.1;omega⟩
 clear hr0_2 hc0_2 hr1 hc1 hkc hf hb ha ho
 go_enter Try.func88,Try.ntmps88
 go_wp2_with (first|((with_reducible refine gate_dst (N:=3) rfl ?_);refine zzc 3 #[.int .i64 a0_0,.int .i64 a0_1,.slice A0_2 l0_2.length c0_2] 29 ?_;intro g3 hgg3 w3 hbox hb;have HF3:=Aside0.mk hbox;have HB3:=Aside0.mk hb;clear hbox hb hgg3)|((with_reducible refine gate_dst (N:=5) rfl ?_);refine zzc 5 #[.int .i64 c2.f0,.int .i64 c2.f1] 48 ?_;intro g5 hgg5 w5 hbox hb;have HF5:=Aside0.mk hbox;have HF3':=Aside0.mk (blk_below HF3.out hb);have HB5:=Aside0.mk (below_step HB3.out hb);clear HF3 HB3 hbox hb hgg5;have f50:=zz0 HF5;have f51:=zz1 HF5)|((with_reducible refine gate_dst (N:=16) rfl ?_);refine Kd.R_lit SL6 _ 27 ?hg (N:=16) ?hd (xs:=([] : List (List S48))) (inner:=[]) (ok:=fun _=>True) (okp:=fun _=>True) ?hr ?hp (fun _ hk=>hk) trivial (Below.refl _ _) (Nat.le_refl _) (by simp) ?_;(case hd=>rfl);(case hg=>rfl);(case hr=>first|(go_simp;done)|(go_simp;rfl));(case hp=>exact (Reps.none _ _));intro v16 w16 hR hB hg_ hnew_;clear hg_ hnew_;have HS16 : Aside0 (LV w w16 #[.int .i64 a0_0,.int .i64 a0_1,.slice A0_2 l0_2.length c0_2] g3 v16 [] (.slice none 0 0) [] (.slice none 0 0) []):=Aside0.mk ⟨blk_below HF3'.out hB,Kd.R_mono (Kd.R_lower hR HB5.out.size) (fun k _=>by simp [Value.ownBlock]),Kd.R_nil _ _ _ _ _,Kd.R_nil _ _ _ _ _,below_step HB5.out hB⟩;have HF5':=Aside0.mk (blk_below HF5.out hB);clear f50 f51 HF3' HB5 HF5;have f50:=zz0 HF5';have f51:=zz1 HF5';clear hR hB)|(go_at_call 91;(with_reducible refine (spec_l16Clear.calls kc A1 c1 os c2.f0 c2.f1 c2.f0 c2.f1 0 true _ (Kd.C_below HR1.out HS16.out.bl) HC1.out HKC.out).mono ?_);rintro e w20 ⟨rfl,hB⟩;have HS20:=Aside0.mk (HS16.out.below hB);have HF5'':=Aside0.mk (blk_below HF5'.out hB);clear f50 f51 HS16 HF5' hB;have f50:=zz0 HF5'';have f51:=zz1 HF5'')|((with_reducible refine gate_dst (N:=24) rfl ?_);refine Kd.R_lit k48 _ 48 ?hg (N:=24) ?hd (xs:=([c2] : List S48)) (inner:=[.int .i64 c2.f0,.int .i64 c2.f1]) (ok:=fun _=>True) (okp:=fun _=>True) ?hr ?hp (fun _ hk=>hk) trivial (Below.refl _ _) (Nat.le_refl _) (by simp) ?_;(case hd=>rfl);(case hg=>rfl);(case hr=>first|(go_simp;done)|(go_simp;rfl));(case hp=>exact (Reps.c2 (show Kd.M k48 _ _ _ c2 [.int .i64 c2.f0,.int .i64 c2.f1] from k48_mkM _ _ _ c2) (Reps.none _ _)));intro v24 w24 hR hB hg_ hnew_;clear hg_ hnew_;obtain ⟨A24,c24,e24⟩:=Kd.R_slice hR;rw [show ([c2] : List S48).length = 1 from rfl] at e24;subst e24;have HS24:=Aside0.mk (HS20.out.fresh hB hR);clear HS20 HF5'' f50 f51;clear hR hB)|(at_builtin;refine Kd.R_append SL6 (W:=w24) w.heap.size rfl (.tmp 25) (.tmp 27) 61 27 (.slice none 0 0) 24 rfl Try.underlying61 info27 rfl (by decide) (by decide) v16 [] [c2] [.slice A24 1 c24] (fun _=>True) (fun k=>True ∧ some k ≠ (v16 : Value).ownBlock) rfl rfl HS24.out.rowM (fun _ hk=>hk) (fun _ _=>trivial) HS24.out.outT HS24.out.bl HS24.out.bl.size (by decide) ?_;intro v28 w28 hR hB hg hat;have HST:=Aside0.mk (HS24.out.turn hR hB hg);clear hR hB hg hat HS24))
 go_loopw [7,8,9] (fun v7 v8 v9 w' => ∃ (s : Nat) (z : Int) (out : List (List S48)) (now : List S48),v9 = .int .i64 z ∧ Aside0 (z = (s : Int) + 1 ∧ s ≤ 24) ∧ Aside0 (out = (List.range (s + 1)).map (lev a0_0 a0_1 l0_2 os c2) ∧ now = lev a0_0 a0_1 l0_2 os c2 s) ∧ Aside0 (LV w w' #[.int .i64 a0_0,.int .i64 a0_1,.slice A0_2 l0_2.length c0_2] g3 v7 out v8 now (.slice none 0 0) [])) (fun _ _ v9 _=>25 - (intOf v9).toNat)
 case atStart=>exact ⟨0,1,[[c2]],[c2],rfl,⟨by omega⟩,⟨rfl,rfl⟩,HST⟩
 case round =>
  clear HST
  obtain ⟨s,z,out,now,rfl,HZ,HON,HS⟩:=hrel
  obtain ⟨A8,c8,e8⟩:=Kd.R_slice HS.out.now
  subst e8
  have hnl : now.length ≤ 36:=by rw [HON.out.2];exact lev_len HFL.out s
  have hz1 : wrap64 (z + 1) = z + 1:=wrap64_id (by have:=HZ.out;omega) (by have:=HZ.out;omega)
  have HMEM : Aside0 (∀ d ∈ now,Free a0_0 a0_1 l0_2 d):=⟨by rw [HON.out.2];exact lev_free HA.out s⟩
  by_cases hz : z ≤ 24
  ·have cz : decide (z ≤ 24) = true:=decide_eq_true hz
   have HZ2:=Aside0.mk hz
   clear hz
   go_wp2_with (first|((with_reducible refine gate_dst (N:=33) rfl ?_);refine Kd.R_lit k48 _ 48 ?hg (N:=33) ?hd (xs:=([] : List S48)) (inner:=[]) (ok:=fun _=>True) (okp:=fun _=>True) ?hr ?hp (fun _ hk=>hk) trivial (Below.refl _ _) (Nat.le_refl _) (by simp) ?_;(case hd=>rfl);(case hg=>rfl);(case hr=>first|(go_simp;done)|(go_simp;rfl));(case hp=>exact (Reps.none _ _));intro v33 w33 hR hB hg_ hnew_;clear hg_ hnew_;have HS33:=Aside0.mk (HS.out.fresh hB hR);clear HS;clear hR hB))
   obtain ⟨P,hP⟩ : ∃ P : S48 → Prop,(fun c=>Free a0_0 a0_1 l0_2 c ∧ Can os now z c) = P:=⟨_,rfl⟩
   have HP:=Aside0.mk hP
   clear hP
   go_loopw [10,11] (fun v10 v11 w' => ∃ (y : Nat) (nxt : List S48),v11 = .int .i64 (y : Int) ∧ Aside0 (y ≤ a0_1.toNat) ∧ Aside0 (nxt = fil P (cellsTo a0_0.toNat y)) ∧ Aside0 (LV w w' #[.int .i64 a0_0,.int .i64 a0_1,.slice A0_2 l0_2.length c0_2] g3 u7 out (.slice A8 now.length c8) now v10 nxt)) (fun _ v11 _=>a0_1.toNat - (intOf v11).toNat)
   case atStart=>exact ⟨0,[],rfl,⟨by omega⟩,⟨rfl⟩,HS33⟩
   case round =>
    clear HS33
    obtain ⟨y,nxt,rfl,HY,HNXT,HS⟩:=hrel
    have f30 : wr.cell? ⟨g3,0,none⟩ = some (.int .i64 a0_0):=(blk_cell HS.out.fl 0).trans rfl;have f31 : wr.cell? ⟨g3,1,none⟩ = some (.int .i64 a0_1):=(blk_cell HS.out.fl 1).trans rfl;have f32 : wr.cell? ⟨g3,2,none⟩ = some (.slice A0_2 l0_2.length c0_2):=(blk_cell HS.out.fl 2).trans rfl
    by_cases hy : y < a0_1.toNat
    ·have cy : decide ((y : Int) < a0_1) = true:=decide_eq_true (by have:=HWH.out;omega)
     go_wp2
     go_loopw [10,12] (fun v10 v12 w' => ∃ (x : Nat) (nxt : List S48),v12 = .int .i64 (x : Int) ∧ Aside0 (x ≤ a0_0.toNat) ∧ Aside0 (nxt = fil P (cellsTo a0_0.toNat y ++ rowC (y : Int) x)) ∧ Aside0 (LV w w' #[.int .i64 a0_0,.int .i64 a0_1,.slice A0_2 l0_2.length c0_2] g3 u7 out (.slice A8 now.length c8) now v10 nxt)) (fun _ v12 _=>a0_0.toNat - (intOf v12).toNat)
     case atStart=>exact ⟨0,nxt,rfl,⟨by omega⟩,⟨by rw [HNXT.out];simp [rowC]⟩,HS⟩
     case round =>
      clear HS HNXT f30 f31 f32
      obtain ⟨x,nxt,rfl,HX,HNXT,HS⟩:=hrel
      have f30 : wr.cell? ⟨g3,0,none⟩ = some (.int .i64 a0_0):=(blk_cell HS.out.fl 0).trans rfl;have f31 : wr.cell? ⟨g3,1,none⟩ = some (.int .i64 a0_1):=(blk_cell HS.out.fl 1).trans rfl;have f32 : wr.cell? ⟨g3,2,none⟩ = some (.slice A0_2 l0_2.length c0_2):=(blk_cell HS.out.fl 2).trans rfl
      by_cases hx : x < a0_0.toNat
      ·have cx : decide ((x : Int) < a0_0) = true:=decide_eq_true (by have:=HWH.out;omega)
       have HNX : Aside0 (nxt.length ≤ 50):=⟨by rw [HNXT.out];exact Nat.le_trans (fil_len _ _) (cells_pre (by omega) (by omega) (by omega))⟩
       obtain ⟨b,hbd⟩ : ∃ b : S48,(⟨(x : Int),(y : Int)⟩ : S48) = b:=⟨_,rfl⟩
       have HBD:=Aside0.mk hbd
       clear hbd
       have HNP : Aside0 (∀ nx : List S48,nx = nxt ++ fil P [b] → nx = fil P (cellsTo a0_0.toNat y ++ rowC (y : Int) (x + 1))):=⟨fun nx e=>by rw [e,HNXT.out,rowC_succ,← List.append_assoc,fil_app P (cellsTo a0_0.toNat y ++ rowC (y : Int) x),HBD.out]⟩
       go_wp2_with (first|((with_reducible refine gate_dst (N:=13) rfl ?_);refine zzc 13 #[.int .i64 0,.int .i64 0] 48 ?_;intro g13 hgg13 w13 hbox hb;have HF13:=Aside0.mk hbox;have HB13:=Aside0.mk hb;have HG13:=Aside0.mk hgg13;clear hbox hb hgg13;have hz0:=zz0 HF13;have hz1_:=zz1 HF13;have hzf0:=blk_frozen HF13.out 0;have hzf1:=blk_frozen HF13.out 1))
       have HS4 : Aside0 (LV w ((w13.setCell ⟨g13,0,none⟩ (.int .i64 (x : Int))).setCell ⟨g13,1,none⟩ (.int .i64 (y : Int))) #[.int .i64 a0_0,.int .i64 a0_1,.slice A0_2 l0_2.length c0_2] g3 u7 out (.slice A8 now.length c8) now u10 nxt ∧ ((w13.setCell ⟨g13,0,none⟩ (.int .i64 (x : Int))).setCell ⟨g13,1,none⟩ (.int .i64 (y : Int))).heap[g13]? = some (.cells #[.int .i64 (x : Int),.int .i64 (y : Int)] 48 (0,0))):=Aside0.mk ⟨HS.out.below (below_set (j:=1) (v := .int .i64 (y : Int)) (below_set (j:=0) (v := .int .i64 (x : Int)) HB13.out (Nat.le_of_eq HG13.out.symm)) (Nat.le_of_eq HG13.out.symm)),blk_put (cs := #[.int .i64 (x : Int),.int .i64 0]) (blk_put (cs := #[.int .i64 0,.int .i64 0]) HF13.out 0 _ rfl) 1 _ rfl⟩
       clear HS hz0 hz1_ hzf0 hzf1 HF13 HB13 HG13 f30 f31 f32
       generalize ((w13.setCell ⟨g13,0,none⟩ (.int .i64 (x : Int))).setCell ⟨g13,1,none⟩ (.int .i64 (y : Int))) = w9 at HS4 ⊢
       go_loopw [14,15] (fun v14 v15 w' => ∃ (i : Nat) (can : Bool),v14 = .bool can ∧ v15 = .int .i64 (i : Int) ∧ Aside0 (i ≤ now.length) ∧ Aside0 (can = true ↔ Can os (now.take i) z b) ∧ Aside0 (0 < i → Free a0_0 a0_1 l0_2 b) ∧ Aside0 (LV w w' #[.int .i64 a0_0,.int .i64 a0_1,.slice A0_2 l0_2.length c0_2] g3 u7 out (.slice A8 now.length c8) now u10 nxt ∧ w'.heap[g13]? = some (.cells #[.int .i64 (x : Int),.int .i64 (y : Int)] 48 (0,0)))) (fun _ v15 _=>now.length - (intOf v15).toNat)
       case atStart=>exact ⟨0,false,rfl,rfl,⟨by omega⟩,⟨⟨fun h=>(by cases h),fun h=>absurd h can_zero⟩⟩,⟨fun h=>by omega⟩,HS4⟩
       case round =>
        clear HS4
        obtain ⟨i,can,rfl,rfl,HI,HC,HFI,HS4⟩:=hrel
        have f30 : wr.cell? ⟨g3,0,none⟩ = some (.int .i64 a0_0):=(blk_cell HS4.out.1.fl 0).trans rfl;have f31 : wr.cell? ⟨g3,1,none⟩ = some (.int .i64 a0_1):=(blk_cell HS4.out.1.fl 1).trans rfl;have f32 : wr.cell? ⟨g3,2,none⟩ = some (.slice A0_2 l0_2.length c0_2):=(blk_cell HS4.out.1.fl 2).trans rfl;have fb0 : wr.cell? ⟨g13,0,none⟩ = some (.int .i64 (x : Int)):=(blk_cell HS4.out.2 0).trans rfl;have fb1 : wr.cell? ⟨g13,1,none⟩ = some (.int .i64 (y : Int)):=(blk_cell HS4.out.2 1).trans rfl
        by_cases hi : i < now.length
        ·have ci : decide ((i : Int) < (now.length : Int)) = true:=decide_eq_true (by omega)
         have cin : decide (i < now.length) = true:=decide_eq_true hi
         have hi2 : i < 100:=by omega
         by_cases hF : Free a0_0 a0_1 l0_2 b
         ·have HFB:=Aside0.mk hF
          obtain ⟨kf,hkf⟩:=Ev.rounds (spec_free a0_0 a0_1 l0_2 b HFL.out.1 HFL.out.2.1 HBL.out)
          rw [chk_pos hF,← HBD.out] at hkf
          have HKF:=Aside0.mk hkf
          clear hkf hF
          go_wp2_with (first|(go_at_call 82;(with_reducible refine (spec_l16Free.calls kf a0_0 a0_1 A0_2 c0_2 l0_2 (x : Int) (y : Int) true _ (Kd.C_below HR0.out HS4.out.1.bl) HC0.out HKF.out).mono ?_);rintro e w56 ⟨rfl,hB⟩;have HS5 : Aside0 (LV w w56 #[.int .i64 a0_0,.int .i64 a0_1,.slice A0_2 l0_2.length c0_2] g3 u7 out (.slice A8 now.length c8) now u10 nxt ∧ w56.heap[g13]? = some (.cells #[.int .i64 (x : Int),.int .i64 (y : Int)] 48 (0,0))):=Aside0.mk ⟨HS4.out.1.below hB,blk_below HS4.out.2 hB⟩;clear f30 f31 f32 fb0 fb1 HS4 hB;have f30 : w56.cell? ⟨g3,0,none⟩ = some (.int .i64 a0_0):=(blk_cell HS5.out.1.fl 0).trans rfl;have f31 : w56.cell? ⟨g3,1,none⟩ = some (.int .i64 a0_1):=(blk_cell HS5.out.1.fl 1).trans rfl;have f32 : w56.cell? ⟨g3,2,none⟩ = some (.slice A0_2 l0_2.length c0_2):=(blk_cell HS5.out.1.fl 2).trans rfl;have fb0 : w56.cell? ⟨g13,0,none⟩ = some (.int .i64 (x : Int)):=(blk_cell HS5.out.2 0).trans rfl;have fb1 : w56.cell? ⟨g13,1,none⟩ = some (.int .i64 (y : Int)):=(blk_cell HS5.out.2 1).trans rfl))
          obtain ⟨d,hd⟩ : ∃ d,rd_T48 now (i : Int) = d:=⟨_,rfl⟩
          have HSUC:=Aside0.mk (can_succ (os:=os) (z:=z) (b:=b) hi hd)
          have p1 : (0 ≤ (i : Int)) = True:=eq_true (by omega)
          have p2 : ((i : Int) < (now.length : Int)) = True:=eq_true (by omega)
          obtain ⟨ad8,ea8,_,_⟩:=at_T48 (Kd.R_reads' HS5.out.1.now).2.2 (i : Int) (by omega) (by omega)
          cases ea8
          cases can with
          | true =>
           clear hd
           refine start_ (n:=20) (S:=fun w'=>LV w w' #[.int .i64 a0_0,.int .i64 a0_1,.slice A0_2 l0_2.length c0_2] g3 u7 out (.slice (some ad8) now.length c8) now u10 nxt ∧ w'.heap[g13]? = some (.cells #[.int .i64 (x : Int),.int .i64 (y : Int)] 48 (0,0))) (ds:=[]) (bits 20 0) (by kernel_rfl) rfl rfl ⟨HS5.out.1.below (below_drew1 (Below.refl _ _)),blk_below HS5.out.2 (below_drew1 (Below.refl _ _))⟩ (fun hHeld=>?_)
           have HSd:=Aside0.mk hHeld
           clear HS5 f30 f31 f32 fb0 fb1
           generalize w56.drew = wd at HSd hHeld ⊢
           refine zzp 0 60 (zzb 20 1) ?_;refine zzp 1 61 (zzb 20 3) ?_;refine zzu 2 62 (zzb 20 7) ?_;refine zzu 3 63 (zzb 20 15) ?_;refine zzu 4 64 (zzb 20 31) ?_;refine zzu 5 65 (zzb 20 63) ?_;refine zzu 6 66 (zzb 20 127) ?_;refine zzu 7 67 (zzb 20 255) ?_;refine zzu 8 68 (zzb 20 511) ?_;refine zzu 9 69 (zzb 20 1023) ?_;refine zzu 10 70 (zzb 20 2047) ?_;refine zzu 11 71 (zzb 20 4095) ?_;refine zzu 12 72 (zzb 20 8191) ?_;refine zzu 13 73 (zzb 20 16383) ?_;refine zzu 14 74 (zzb 20 32767) ?_;refine zzu 15 75 (zzb 20 65535) ?_;refine zzu 16 76 (zzb 20 131071) ?_;refine zzu 17 77 (zzb 20 262143) ?_;refine zzp 18 78 (zzb 20 524287) ?_;refine zzp 19 14 (zzb 20 1048575) ?_
           refine done_ (by kernel_rfl) ?_
           go_wp2
           go_roundw
           case measure=>simp [intOf];omega
           case rel=>exact ⟨i + 1,true,rfl,by go_num,⟨by omega⟩,⟨⟨fun _=>HSUC.out.2 (Or.inl (HC.out.1 rfl)),fun _=>rfl⟩⟩,⟨fun _=>HFB.out⟩,HSd⟩
          | false =>
           have hdm : d ∈ now:=by rw [← hd];exact mem48 now _ (by omega) (by omega)
           have hdb:=free_in HFL.out (HMEM.out d hdm)
           have hbb:=free_in HFL.out HFB.out
           have hkn:=near_spec d b hdb hbb
           obtain ⟨kcl,hkcl⟩:=Ev.rounds (spec_clear HO.out d b z (by have:=HZ.out;omega) (by have:=HZ.out;omega))
           rw [← HBD.out] at hkn hkcl
           clear hdm hdb hbb
           by_cases hN : Near d b
           ·have HN:=Aside0.mk hN
            rw [HBD.out,chk_pos hN,← HBD.out] at hkn
            have HKN:=Aside0.mk hkn
            clear hkn hN
            by_cases hH : HitAt os d b z
            ·have HH:=Aside0.mk hH
             rw [HBD.out,chk_pos hH,← HBD.out] at hkcl
             have HKCL:=Aside0.mk hkcl
             clear hkcl hH
             refine start_ (n:=20) (S:=fun w'=>LV w w' #[.int .i64 a0_0,.int .i64 a0_1,.slice A0_2 l0_2.length c0_2] g3 u7 out (.slice (some ad8) now.length c8) now u10 nxt ∧ w'.heap[g13]? = some (.cells #[.int .i64 (x : Int),.int .i64 (y : Int)] 48 (0,0))) (ds:=[]) (bits 20 0) (by kernel_rfl) rfl rfl ⟨HS5.out.1.below (below_drew1 (Below.refl _ _)),blk_below HS5.out.2 (below_drew1 (Below.refl _ _))⟩ (fun hHeld=>?_)
             have HSd:=Aside0.mk hHeld
             clear HS5 f30 f31 f32 fb0 fb1
             generalize w56.drew = wd at HSd hHeld ⊢
             refine zzp 0 60 (zzb 20 1) ?_;refine zzp 1 61 (zzb 20 3) ?_;refine zzp 2 62 (zzb 20 7) ?_;refine zzp 3 63 (zzb 20 15) ?_;refine zzp 4 64 (zzb 20 31) ?_
             refine zzt 5 65 (zzb 20 63) hHeld ?_ (hy:=by intro w' s0;(obtain ⟨ad_,ea_,hx0,hx1⟩:=at_T48 (Kd.R_reads' s0.1.now).2.2 (i : Int) (by omega) (by omega));cases ea_;rw [hd,Int.toNat_natCast] at hx0;rw [hd,Int.toNat_natCast] at hx1;go_simp;with_reducible rfl)
             refine zzt 6 66 (zzb 20 127) hHeld ?_ (hy:=by intro w' s0;have fb0 : w'.cell? ⟨g13,0,none⟩ = some (.int .i64 (x : Int)):=(blk_cell s0.2 0).trans rfl;have fb1 : w'.cell? ⟨g13,1,none⟩ = some (.int .i64 (y : Int)):=(blk_cell s0.2 1).trans rfl;go_simp;with_reducible rfl)
             refine zzo 7 67 (zzb 20 255) (fun K hK=>?_)
             refine zzf Try.func83 #[.agg #[.int .i64 d.f0,.int .i64 d.f1],.agg #[.int .i64 (x : Int),.int .i64 (y : Int)]] ?_
             with_reducible refine (spec_l16Near.calls d.f0 d.f1 (x : Int) (y : Int) true _ HKN.out).mono ?_
             rintro e w67 ⟨rfl,hB⟩
             refine ⟨_,rfl,?_⟩
             have HSn : Aside0 (LV w w67 #[.int .i64 a0_0,.int .i64 a0_1,.slice A0_2 l0_2.length c0_2] g3 u7 out (.slice (some ad8) now.length c8) now u10 nxt ∧ w67.heap[g13]? = some (.cells #[.int .i64 (x : Int),.int .i64 (y : Int)] 48 (0,0))):=Aside0.mk ⟨HSd.out.1.below hB,blk_below HSd.out.2 hB⟩
             clear hB HSd hHeld
             have HSd:=HSn
             clear HSn
             refine hK.out _ _ HSd.out (fun hHeld=>?_)
             clear hK K
             refine zzn 67 ?_;refine zzp 8 68 (zzb 20 511) ?_;refine zzp 9 69 (zzb 20 1023) ?_;refine zzp 10 70 (zzb 20 2047) ?_;refine zzp 11 71 (zzb 20 4095) ?_;refine zzp 12 72 (zzb 20 8191) ?_
             refine zzt 13 73 (zzb 20 16383) hHeld ?_ (hy:=by intro w' s0;(obtain ⟨ad_,ea_,hx0,hx1⟩:=at_T48 (Kd.R_reads' s0.1.now).2.2 (i : Int) (by omega) (by omega));cases ea_;rw [hd,Int.toNat_natCast] at hx0;rw [hd,Int.toNat_natCast] at hx1;go_simp;with_reducible rfl)
             refine zzt 14 74 (zzb 20 32767) hHeld ?_ (hy:=by intro w' s0;have fb0 : w'.cell? ⟨g13,0,none⟩ = some (.int .i64 (x : Int)):=(blk_cell s0.2 0).trans rfl;have fb1 : w'.cell? ⟨g13,1,none⟩ = some (.int .i64 (y : Int)):=(blk_cell s0.2 1).trans rfl;go_simp;with_reducible rfl);refine zzp 15 75 (zzb 20 65535) ?_
             refine zzo 16 76 (zzb 20 131071) (fun K hK=>?_)
             refine zzf Try.func91 #[.slice A1 os.length c1,.agg #[.int .i64 d.f0,.int .i64 d.f1],.agg #[.int .i64 (x : Int),.int .i64 (y : Int)],.int .i64 z] ?_
             with_reducible refine (spec_l16Clear.calls kcl A1 c1 os d.f0 d.f1 (x : Int) (y : Int) z false _ (Kd.C_below HR1.out HSd.out.1.bl) HC1.out HKCL.out).mono ?_
             rintro e w76 ⟨rfl,hB⟩
             refine ⟨_,rfl,?_⟩
             have HSn : Aside0 (LV w w76 #[.int .i64 a0_0,.int .i64 a0_1,.slice A0_2 l0_2.length c0_2] g3 u7 out (.slice (some ad8) now.length c8) now u10 nxt ∧ w76.heap[g13]? = some (.cells #[.int .i64 (x : Int),.int .i64 (y : Int)] 48 (0,0))):=Aside0.mk ⟨HSd.out.1.below hB,blk_below HSd.out.2 hB⟩
             clear hB HSd hHeld
             have HSd:=HSn
             clear HSn
             refine hK.out _ _ HSd.out (fun hHeld=>?_)
             clear hK K
             refine zzn 76 ?_;refine zzp 17 77 (zzb 20 262143) ?_;refine zzp 18 78 (zzb 20 524287) ?_;refine zzp 19 14 (zzb 20 1048575) ?_
             refine done_ (by kernel_rfl) ?_
             go_wp2
             go_roundw
             case measure=>simp [intOf];omega
             case rel=>exact ⟨i + 1,false,rfl,by go_num,⟨by omega⟩,⟨⟨fun h=>(by cases h),fun h=>(by rcases HSUC.out.1 h with h|h;exact HC.out.2 h;exact absurd HH.out h.2)⟩⟩,⟨fun _=>HFB.out⟩,HSd⟩
            ·have HH:=Aside0.mk hH
             rw [HBD.out,chk_neg hH,← HBD.out] at hkcl
             have HKCL:=Aside0.mk hkcl
             clear hkcl hH
             refine start_ (n:=20) (S:=fun w'=>LV w w' #[.int .i64 a0_0,.int .i64 a0_1,.slice A0_2 l0_2.length c0_2] g3 u7 out (.slice (some ad8) now.length c8) now u10 nxt ∧ w'.heap[g13]? = some (.cells #[.int .i64 (x : Int),.int .i64 (y : Int)] 48 (0,0))) (ds:=[]) (bits 20 0) (by kernel_rfl) rfl rfl ⟨HS5.out.1.below (below_drew1 (Below.refl _ _)),blk_below HS5.out.2 (below_drew1 (Below.refl _ _))⟩ (fun hHeld=>?_)
             have HSd:=Aside0.mk hHeld
             clear HS5 f30 f31 f32 fb0 fb1
             generalize w56.drew = wd at HSd hHeld ⊢
             refine zzp 0 60 (zzb 20 1) ?_;refine zzp 1 61 (zzb 20 3) ?_;refine zzp 2 62 (zzb 20 7) ?_;refine zzp 3 63 (zzb 20 15) ?_;refine zzp 4 64 (zzb 20 31) ?_
             refine zzt 5 65 (zzb 20 63) hHeld ?_ (hy:=by intro w' s0;(obtain ⟨ad_,ea_,hx0,hx1⟩:=at_T48 (Kd.R_reads' s0.1.now).2.2 (i : Int) (by omega) (by omega));cases ea_;rw [hd,Int.toNat_natCast] at hx0;rw [hd,Int.toNat_natCast] at hx1;go_simp;with_reducible rfl)
             refine zzt 6 66 (zzb 20 127) hHeld ?_ (hy:=by intro w' s0;have fb0 : w'.cell? ⟨g13,0,none⟩ = some (.int .i64 (x : Int)):=(blk_cell s0.2 0).trans rfl;have fb1 : w'.cell? ⟨g13,1,none⟩ = some (.int .i64 (y : Int)):=(blk_cell s0.2 1).trans rfl;go_simp;with_reducible rfl)
             refine zzo 7 67 (zzb 20 255) (fun K hK=>?_)
             refine zzf Try.func83 #[.agg #[.int .i64 d.f0,.int .i64 d.f1],.agg #[.int .i64 (x : Int),.int .i64 (y : Int)]] ?_
             with_reducible refine (spec_l16Near.calls d.f0 d.f1 (x : Int) (y : Int) true _ HKN.out).mono ?_
             rintro e w67 ⟨rfl,hB⟩
             refine ⟨_,rfl,?_⟩
             have HSn : Aside0 (LV w w67 #[.int .i64 a0_0,.int .i64 a0_1,.slice A0_2 l0_2.length c0_2] g3 u7 out (.slice (some ad8) now.length c8) now u10 nxt ∧ w67.heap[g13]? = some (.cells #[.int .i64 (x : Int),.int .i64 (y : Int)] 48 (0,0))):=Aside0.mk ⟨HSd.out.1.below hB,blk_below HSd.out.2 hB⟩
             clear hB HSd hHeld
             have HSd:=HSn
             clear HSn
             refine hK.out _ _ HSd.out (fun hHeld=>?_)
             clear hK K
             refine zzn 67 ?_;refine zzp 8 68 (zzb 20 511) ?_;refine zzp 9 69 (zzb 20 1023) ?_;refine zzp 10 70 (zzb 20 2047) ?_;refine zzp 11 71 (zzb 20 4095) ?_;refine zzp 12 72 (zzb 20 8191) ?_
             refine zzt 13 73 (zzb 20 16383) hHeld ?_ (hy:=by intro w' s0;(obtain ⟨ad_,ea_,hx0,hx1⟩:=at_T48 (Kd.R_reads' s0.1.now).2.2 (i : Int) (by omega) (by omega));cases ea_;rw [hd,Int.toNat_natCast] at hx0;rw [hd,Int.toNat_natCast] at hx1;go_simp;with_reducible rfl)
             refine zzt 14 74 (zzb 20 32767) hHeld ?_ (hy:=by intro w' s0;have fb0 : w'.cell? ⟨g13,0,none⟩ = some (.int .i64 (x : Int)):=(blk_cell s0.2 0).trans rfl;have fb1 : w'.cell? ⟨g13,1,none⟩ = some (.int .i64 (y : Int)):=(blk_cell s0.2 1).trans rfl;go_simp;with_reducible rfl);refine zzp 15 75 (zzb 20 65535) ?_
             refine zzo 16 76 (zzb 20 131071) (fun K hK=>?_)
             refine zzf Try.func91 #[.slice A1 os.length c1,.agg #[.int .i64 d.f0,.int .i64 d.f1],.agg #[.int .i64 (x : Int),.int .i64 (y : Int)],.int .i64 z] ?_
             with_reducible refine (spec_l16Clear.calls kcl A1 c1 os d.f0 d.f1 (x : Int) (y : Int) z true _ (Kd.C_below HR1.out HSd.out.1.bl) HC1.out HKCL.out).mono ?_
             rintro e w76 ⟨rfl,hB⟩
             refine ⟨_,rfl,?_⟩
             have HSn : Aside0 (LV w w76 #[.int .i64 a0_0,.int .i64 a0_1,.slice A0_2 l0_2.length c0_2] g3 u7 out (.slice (some ad8) now.length c8) now u10 nxt ∧ w76.heap[g13]? = some (.cells #[.int .i64 (x : Int),.int .i64 (y : Int)] 48 (0,0))):=Aside0.mk ⟨HSd.out.1.below hB,blk_below HSd.out.2 hB⟩
             clear hB HSd hHeld
             have HSd:=HSn
             clear HSn
             refine hK.out _ _ HSd.out (fun hHeld=>?_)
             clear hK K
             refine zzn 76 ?_;refine zzp 17 77 (zzb 20 262143) ?_;refine zzp 18 78 (zzb 20 524287) ?_;refine zzp 19 14 (zzb 20 1048575) ?_
             refine done_ (by kernel_rfl) ?_
             go_wp2
             go_roundw
             case measure=>simp [intOf];omega
             case rel=>exact ⟨i + 1,true,rfl,by go_num,⟨by omega⟩,⟨⟨fun _=>HSUC.out.2 (Or.inr ⟨HN.out,HH.out⟩),fun _=>rfl⟩⟩,⟨fun _=>HFB.out⟩,HSd⟩
           ·have HN:=Aside0.mk hN
            rw [HBD.out,chk_neg hN,← HBD.out] at hkn
            have HKN:=Aside0.mk hkn
            clear hkn hN hkcl
            refine start_ (n:=20) (S:=fun w'=>LV w w' #[.int .i64 a0_0,.int .i64 a0_1,.slice A0_2 l0_2.length c0_2] g3 u7 out (.slice (some ad8) now.length c8) now u10 nxt ∧ w'.heap[g13]? = some (.cells #[.int .i64 (x : Int),.int .i64 (y : Int)] 48 (0,0))) (ds:=[]) (bits 20 0) (by kernel_rfl) rfl rfl ⟨HS5.out.1.below (below_drew1 (Below.refl _ _)),blk_below HS5.out.2 (below_drew1 (Below.refl _ _))⟩ (fun hHeld=>?_)
            have HSd:=Aside0.mk hHeld
            clear HS5 f30 f31 f32 fb0 fb1
            generalize w56.drew = wd at HSd hHeld ⊢
            refine zzp 0 60 (zzb 20 1) ?_;refine zzp 1 61 (zzb 20 3) ?_;refine zzp 2 62 (zzb 20 7) ?_;refine zzp 3 63 (zzb 20 15) ?_;refine zzp 4 64 (zzb 20 31) ?_
            refine zzt 5 65 (zzb 20 63) hHeld ?_ (hy:=by intro w' s0;(obtain ⟨ad_,ea_,hx0,hx1⟩:=at_T48 (Kd.R_reads' s0.1.now).2.2 (i : Int) (by omega) (by omega));cases ea_;rw [hd,Int.toNat_natCast] at hx0;rw [hd,Int.toNat_natCast] at hx1;go_simp;with_reducible rfl)
            refine zzt 6 66 (zzb 20 127) hHeld ?_ (hy:=by intro w' s0;have fb0 : w'.cell? ⟨g13,0,none⟩ = some (.int .i64 (x : Int)):=(blk_cell s0.2 0).trans rfl;have fb1 : w'.cell? ⟨g13,1,none⟩ = some (.int .i64 (y : Int)):=(blk_cell s0.2 1).trans rfl;go_simp;with_reducible rfl)
            refine zzo 7 67 (zzb 20 255) (fun K hK=>?_)
            refine zzf Try.func83 #[.agg #[.int .i64 d.f0,.int .i64 d.f1],.agg #[.int .i64 (x : Int),.int .i64 (y : Int)]] ?_
            with_reducible refine (spec_l16Near.calls d.f0 d.f1 (x : Int) (y : Int) false _ HKN.out).mono ?_
            rintro e w67 ⟨rfl,hB⟩
            refine ⟨_,rfl,?_⟩
            have HSn : Aside0 (LV w w67 #[.int .i64 a0_0,.int .i64 a0_1,.slice A0_2 l0_2.length c0_2] g3 u7 out (.slice (some ad8) now.length c8) now u10 nxt ∧ w67.heap[g13]? = some (.cells #[.int .i64 (x : Int),.int .i64 (y : Int)] 48 (0,0))):=Aside0.mk ⟨HSd.out.1.below hB,blk_below HSd.out.2 hB⟩
            clear hB HSd hHeld
            have HSd:=HSn
            clear HSn
            refine hK.out _ _ HSd.out (fun hHeld=>?_)
            clear hK K
            refine zzn 67 ?_;refine zzp 8 68 (zzb 20 511) ?_;refine zzu 9 69 (zzb 20 1023) ?_;refine zzu 10 70 (zzb 20 2047) ?_;refine zzu 11 71 (zzb 20 4095) ?_;refine zzu 12 72 (zzb 20 8191) ?_;refine zzu 13 73 (zzb 20 16383) ?_;refine zzu 14 74 (zzb 20 32767) ?_;refine zzu 15 75 (zzb 20 65535) ?_;refine zzu 16 76 (zzb 20 131071) ?_;refine zzp 17 77 (zzb 20 262143) ?_;refine zzp 18 78 (zzb 20 524287) ?_;refine zzp 19 14 (zzb 20 1048575) ?_
            refine done_ (by kernel_rfl) ?_
            go_wp2
            go_roundw
            case measure=>simp [intOf];omega
            case rel=>exact ⟨i + 1,false,rfl,by go_num,⟨by omega⟩,⟨⟨fun h=>(by cases h),fun h=>(by rcases HSUC.out.1 h with h|h;exact HC.out.2 h;exact absurd h.1 HN.out)⟩⟩,⟨fun _=>HFB.out⟩,HSd⟩
         ·obtain ⟨kf,hkf⟩:=Ev.rounds (spec_free a0_0 a0_1 l0_2 b HFL.out.1 HFL.out.2.1 HBL.out)
          rw [chk_neg hF,← HBD.out] at hkf
          have HKF:=Aside0.mk hkf
          have hcf : can = false:=by
           obtain rfl : i = 0:=by
            apply Classical.byContradiction
            intro hn
            exact hF (HFI.out (by omega))
           apply Bool.eq_false_iff.2
           intro hc
           exact can_zero (HC.out.1 hc)
          have HNP2:=Aside0.mk (HNP.out nxt (by rw [fil_one_neg (fun h=>hF (by rw [← HP.out] at h;exact h.1)),List.append_nil]))
          subst hcf
          clear hkf hF
          go_wp2_with (first|(go_at_call 82;(with_reducible refine (spec_l16Free.calls kf a0_0 a0_1 A0_2 c0_2 l0_2 (x : Int) (y : Int) false _ (Kd.C_below HR0.out HS4.out.1.bl) HC0.out HKF.out).mono ?_);rintro e w56 ⟨rfl,hB⟩;have HS5 : Aside0 (LV w w56 #[.int .i64 a0_0,.int .i64 a0_1,.slice A0_2 l0_2.length c0_2] g3 u7 out (.slice A8 now.length c8) now u10 nxt ∧ w56.heap[g13]? = some (.cells #[.int .i64 (x : Int),.int .i64 (y : Int)] 48 (0,0))):=Aside0.mk ⟨HS4.out.1.below hB,blk_below HS4.out.2 hB⟩;clear f30 f31 f32 fb0 fb1 HS4 hB;have f30 : w56.cell? ⟨g3,0,none⟩ = some (.int .i64 a0_0):=(blk_cell HS5.out.1.fl 0).trans rfl;have f31 : w56.cell? ⟨g3,1,none⟩ = some (.int .i64 a0_1):=(blk_cell HS5.out.1.fl 1).trans rfl;have f32 : w56.cell? ⟨g3,2,none⟩ = some (.slice A0_2 l0_2.length c0_2):=(blk_cell HS5.out.1.fl 2).trans rfl;have fb0 : w56.cell? ⟨g13,0,none⟩ = some (.int .i64 (x : Int)):=(blk_cell HS5.out.2 0).trans rfl;have fb1 : w56.cell? ⟨g13,1,none⟩ = some (.int .i64 (y : Int)):=(blk_cell HS5.out.2 1).trans rfl))
          go_roundw
          case measure=>simp [intOf];omega
          case rel=>exact ⟨x + 1,nxt,by go_num,⟨by omega⟩,HNP2,⟨HS5.out.1⟩⟩
        ·have ci : decide ((i : Int) < (now.length : Int)) = false:=decide_eq_false (by omega)
         have cin : decide (i < now.length) = false:=decide_eq_false hi
         obtain rfl : i = now.length:=by have:=HI.out;omega
         cases can with
         | true =>
          have HNP2:=Aside0.mk (HNP.out (nxt ++ [b]) (by
           have hc:=HC.out.1 rfl
           rw [List.take_length] at hc
           rw [fil_one_pos]
           rw [← HP.out]
           refine ⟨HFI.out ?_,hc⟩
           obtain ⟨q,hq,_⟩:=hc
           exact List.length_pos_of_mem hq))
          go_wp2_with (first|(at_builtin;refine Kd.R_append k48 (W:=wr) w.heap.size rfl (.tmp 80) (.tmp 82) 27 48 _ 16 rfl Try.underlying27 info48 rfl (by decide) (by decide) u10 nxt ⟨(x : Int),(y : Int)⟩ [.int .i64 (x : Int),.int .i64 (y : Int)] (fun _=>True) (fun _=>False) rfl rfl (k48_mkM _ _ _ ⟨(x : Int),(y : Int)⟩) (fun _ hk=>hk.elim) (fun _ _=>trivial) HS4.out.1.nxt HS4.out.1.bl HS4.out.1.bl.size (by have:=HNX.out;omega) ?_;intro v83 w83 hQ hB hg hat;have HS83:=Aside0.mk (HS4.out.1.app hQ hB hg hat);clear hQ hB hg hat HS4))
          go_roundw
          case measure=>simp [intOf];omega
          case rel=>exact ⟨x + 1,nxt ++ [b],by go_num,⟨by omega⟩,HNP2,⟨by rw [← HBD.out];exact HS83.out⟩⟩
         | false =>
          have HNP2:=Aside0.mk (HNP.out nxt (by
           rw [fil_one_neg,List.append_nil]
           intro h
           rw [← HP.out] at h
           have hc:=HC.out.2 (by rw [List.take_length];exact h.2)
           cases hc))
          go_wp2
          go_roundw
          case measure=>simp [intOf];omega
          case rel=>exact ⟨x + 1,nxt,by go_num,⟨by omega⟩,HNP2,⟨HS4.out.1⟩⟩
      ·have cx : decide ((x : Int) < a0_0) = false:=decide_eq_false (by omega)
       have HNP2 : Aside0 (nxt = fil P (cellsTo a0_0.toNat (y + 1))):=⟨by
        rw [HNXT.out,cellsTo_succ,show x = a0_0.toNat from by have:=HX.out;omega]⟩
       go_wp2
       go_roundw
       case measure=>simp [intOf];omega
       case rel=>exact ⟨y + 1,nxt,by go_num,⟨by omega⟩,HNP2,HS⟩
    ·have cy : decide ((y : Int) < a0_1) = false:=decide_eq_false (by omega)
     have HLEV : Aside0 (nxt = lev a0_0 a0_1 l0_2 os c2 (s + 1)):=⟨by
      rw [lev,HNXT.out,← HP.out,← HON.out.2,show y = a0_1.toNat from by have:=HY.out;omega,HZ.out.1]
      rfl⟩
     have hol : Aside0 (out.length ≤ 25):=⟨by rw [HON.out.1,List.length_map,List.length_range];have:=HZ.out;omega⟩
     obtain ⟨A10,c10,e10⟩:=Kd.R_slice HS.out.nxt
     subst e10
     go_wp2_with (first|(at_builtin;refine Kd.R_append SL6 (W:=wr) w.heap.size rfl (.tmp 85) (.tmp 87) 61 27 (.slice none 0 0) 24 rfl Try.underlying61 info27 rfl (by decide) (by decide) u7 out nxt [.slice A10 nxt.length c10] (fun _=>True) (fun k=>True ∧ some k ≠ (u7 : Value).ownBlock) rfl rfl HS.out.rowM (fun _ hk=>hk) (fun _ _=>trivial) HS.out.outT HS.out.bl HS.out.bl.size (by have:=hol.out;omega) ?_;intro v88 w88 hR hB hg hat;have HST:=Aside0.mk (HS.out.turn hR hB hg);clear hR hB hg hat HS))
     go_roundw
     case measure=>simp [intOf];have:=HZ.out;have:=HZ2.out;omega
     case rel=>exact ⟨s + 1,z + 1,out ++ [nxt],nxt,(by rw [hz1]),⟨by have:=HZ.out;have:=HZ2.out;omega⟩,⟨by rw [HON.out.1,HLEV.out,List.range_succ (n:=s + 1),List.map_append];rfl,HLEV.out⟩,HST⟩
  ·have cz : decide (z ≤ 24) = false:=decide_eq_false hz
   obtain ⟨A7,c7,e7⟩:=Kd.R_slice HS.out.out
   subst e7
   have HE : Aside0 (out = (List.range 25).map (lev a0_0 a0_1 l0_2 os c2)):=⟨by rw [HON.out.1,show s + 1 = 25 from by have:=HZ.out;omega]⟩
   clear hz
   go_wp2
   go_ret
   exact ⟨_,rfl,by rw [← HE.out];exact HS.out.outT,HS.out.bl⟩
end Go.Proofs.Ytbpccdbkaiigcaa.G

/- What the walk of spec.l16Safe holds of the world while it fills the lists from behind; these lists, as far as they are filled. -/
namespace Go.Proofs.Ytbpccdbkaiigcaa.G
open Go.RowKit Go.Maps Go.Proofs.YtbpccdbkaiigcaaW.PrintWords Go.Proofs.YtbpccdbkaiigcaaW.PrintLast Go.Proofs.YtbpccdbkaiigcaaW.PrintMore
set_option linter.unusedVariables false
set_option linter.unusedSimpArgs false
/-- The lists from behind; j rows below the last one are filled. -/
noncomputable def gds (w h : Int) (bl : List S48) (os : List (List S48)) (a b : S48) (e j : Nat) : List (List S48):=(List.range (e + 1)).map fun i=>if e ≤ i + j then gdl w h bl os a b e (e - i) else []
section
variable {w h : Int} {bl : List S48} {os : List (List S48)} {a b : S48} {e j : Nat}
theorem gds_len : (gds w h bl os a b e j).length = e + 1:=by unfold gds;rw [List.length_map,List.length_range]
theorem gds_get {i : Nat} (hi : i ≤ e) : (gds w h bl os a b e j)[i]? = some (if e ≤ i + j then gdl w h bl os a b e (e - i) else []):=by
 unfold gds
 rw [List.getElem?_map,List.getElem?_range (by omega)]
 rfl
theorem rd6_nat (l : List (List S48)) (i : Nat) {x : List S48} (hx : l[i]? = some x) : rd_L6 l (i : Int) = x:=by
 unfold rd_L6
 rw [Int.toNat_natCast,List.getD_eq_getElem?_getD,hx]
 rfl
theorem gds_rd {i : Nat} (hi : i ≤ e) (hj : e ≤ i + j) : rd_L6 (gds w h bl os a b e j) (i : Int) = gdl w h bl os a b e (e - i):=by
 rw [rd6_nat _ _ (gds_get hi),if_pos hj]
theorem gds_zero : (List.replicate (e + 1) ([] : List S48)).set e [b] = gds w h bl os a b e 0:=by
 apply List.ext_getElem?
 intro i
 by_cases hi : i ≤ e
 ·rw [gds_get hi,List.getElem?_set,List.length_replicate]
  by_cases he : e = i
  ·subst he
   rw [if_pos rfl,if_pos (by omega),if_pos (by omega),Nat.sub_self]
   rfl
  ·rw [if_neg he,List.getElem?_replicate,if_pos (by omega),if_neg (by omega)]
 ·rw [List.getElem?_eq_none (by rw [List.length_set,List.length_replicate];omega),List.getElem?_eq_none (by rw [gds_len];omega)]
theorem gds_step (hj : j < e) : (gds w h bl os a b e j).set (e - 1 - j) (gdl w h bl os a b e (j + 1)) = gds w h bl os a b e (j + 1):=by
 apply List.ext_getElem?
 intro i
 by_cases hi : i ≤ e
 ·rw [gds_get hi,List.getElem?_set,gds_len,gds_get hi]
  by_cases he : e - 1 - j = i
  ·rw [if_pos he,if_pos (by omega),if_pos (by omega),show e - i = j + 1 from by omega]
  ·rw [if_neg he]
   by_cases h1 : e ≤ i + j
   ·rw [if_pos h1,if_pos (by omega)]
   ·rw [if_neg h1,if_neg (by omega)]
 ·rw [List.getElem?_eq_none (by rw [List.length_set,gds_len];omega),List.getElem?_eq_none (by rw [gds_len];omega)]
theorem gds_same (hj : j < e) : (gds w h bl os a b e j).set (e - 1 - j) [] = gds w h bl os a b e j:=by
 apply List.ext_getElem?
 intro i
 rw [List.getElem?_set,gds_len]
 by_cases he : e - 1 - j = i
 ·rw [if_pos he,if_pos (by omega),gds_get (by omega),if_neg (by omega)]
 ·rw [if_neg he]
theorem gdl_len (hf : FloorOk w h bl) : ∀ j,(gdl w h bl os a b e j).length ≤ 36
 | 0=>by rw [gdl];show 1 ≤ 36;omega
 | j + 1=>by rw [gdl];exact Nat.le_trans (fil_len _ _) (lev_len hf _)
theorem gdl_free (ha : Free w h bl a) (hb : Free w h bl b) : ∀ j,∀ c ∈ gdl w h bl os a b e j,Free w h bl c
 | 0,c,hc=>by rw [gdl,List.mem_singleton] at hc;subst hc;exact hb
 | j + 1,c,hc=>by rw [gdl] at hc;exact lev_free ha _ c (fil_mem.1 hc).1
theorem lead_succ {now : List S48} {z : Int} {c d : S48} {i : Nat} (hi : i < now.length) (hd : rd_T48 now (i : Int) = d) : Lead os (now.take (i + 1)) z c ↔ Lead os (now.take i) z c ∨ (Near c d ∧ ¬ HitAt os c d z):=by
 have e : now.take (i + 1) = now.take i ++ [d]:=by
  rw [List.take_succ_eq_append_getElem hi]
  congr 2
  rw [← hd]
  unfold rd_T48
  rw [Int.toNat_natCast,List.getD_eq_getElem?_getD,List.getElem?_eq_getElem hi]
  rfl
 unfold Lead
 rw [e]
 constructor
 ·rintro ⟨q,hq,h⟩
  rcases List.mem_append.1 hq with hq|hq
  ·exact Or.inl ⟨q,hq,h⟩
  ·rw [List.mem_singleton] at hq;subst hq;exact Or.inr h
 ·rintro (⟨q,hq,h⟩|h)
  ·exact ⟨q,List.mem_append.2 (Or.inl hq),h⟩
  ·exact ⟨d,List.mem_append.2 (Or.inr (List.mem_singleton.2 rfl)),h⟩
theorem lead_zero {now : List S48} {z : Int} {c : S48} : ¬ Lead os (now.take 0) z c:=by rintro ⟨q,hq,_⟩;simp at hq
theorem take_rd {l : List S48} {i : Nat} (hi : i < l.length) : l.take (i + 1) = l.take i ++ [rd_T48 l (i : Int)]:=by
 rw [List.take_succ_eq_append_getElem hi]
 congr 2
 unfold rd_T48
 rw [Int.toNat_natCast,List.getD_eq_getElem?_getD,List.getElem?_eq_getElem hi]
 rfl
end
/-- The lists from behind, held since world w1. -/
structure GD (w1 w : World) (v : Value) (gd : List (List S48)) : Prop where
 s : Kd.S SL6 27 w w1.heap.size (fun _=>True) v gd
 bl : Below w1.heap.size w1 w
section
variable {w1 w w2 : World} {v vr : Value} {gd : List (List S48)} {row : List S48} {g n cap : Nat} {i : Int}
theorem GD.below (h : GD w1 w v gd) (hb : Below w.heap.size w w2) : GD w1 w2 v gd:=⟨Kd.S_below h.s hb,below_step h.bl hb⟩
theorem GD.ge (h : GD w1 w (.slice (some ⟨g,0,none⟩) n cap) gd) : w1.heap.size ≤ g:=Kd.S_base h.s g (by simp [Value.ownBlock])
theorem GD.cell (h : GD w1 w (.slice (some ⟨g,0,none⟩) n cap) gd) (h0 : 0 ≤ i) (h1 : i < n) : ∃ A c,w.cell? ⟨g,i.toNat,none⟩ = some (.slice A (rd_L6 gd i).length c) ∧ (rd_L6 gd i).length ≤ c ∧ Kd.C k48 w A (rd_L6 gd i).length (rd_L6 gd i) ∧ w.frozen? ⟨g,i.toNat,none⟩ = false:=by
 obtain ⟨oki,cl,hcl,hM,hcc,hfz,hoki,hH⟩:=Kd.S_elem h.s ([] : List S48) i h0 h1
 obtain ⟨vr,rfl,hRow⟩:=hM
 have hx:=hcc 0 _ rfl
 have hz:=hfz 0
 rw [show (Kd.slice 48 k48).sz = 1 from rfl,Nat.mul_one,Nat.add_zero] at hx hz
 obtain ⟨A,c,rfl,hc,hC⟩:=Kd.R_reads hRow
 exact ⟨A,c,hx,hc,hC,hz⟩
theorem GD.put (h : GD w1 w (.slice (some ⟨g,0,none⟩) n cap) gd) (hb : Below w.heap.size w w2) (hr : Kd.R k48 48 w2 w.heap.size (fun _=>True) vr row) (h0 : 0 ≤ i) (h1 : i < n) : GD w1 (w2.setCell ⟨g,i.toNat,none⟩ vr) (.slice (some ⟨g,0,none⟩) n cap) (gd.set i.toNat row):=by
 have hs:=Kd.S_below (Kd.S_mono (Kd.S_bound h.s) (fun k hk=>(⟨trivial,by have:=hk.2.2.1;omega⟩ : True ∧ ¬ w.heap.size ≤ k))) hb
 obtain ⟨oki,cl,hcl,hM,hcc,hfz,hoki,hH⟩:=Kd.S_elem hs ([] : List S48) i h0 h1
 obtain ⟨vo,rfl,hRow⟩:=hM
 have hlt : g < w.heap.size:=by
  obtain ⟨cells,hg⟩:=Kd.S_typed h.s g (by simp [Value.ownBlock])
  exact blk_lt hg
 have hr2 : Kd.R k48 48 w2 w1.heap.size (fun k=>w.heap.size ≤ k) vr row:=Kd.R_lower (Kd.R_mono (Kd.R_bound hr) (fun k hk=>hk.2.1)) h.bl.size
 have r:=(Kd.S_seg (okg:=fun k=>w.heap.size ≤ k) (ok:=fun _=>True) hH h0 h1 (seg:=[vr]) (j:=0) (Nat.le_refl 1) (x':=row) ⟨_,rfl,hr2⟩ (fun b h => .inr h) (fun b hb=>⟨trivial,fun e=>by have hb : w.heap.size ≤ b:=hb;omega⟩)).1
 rw [show i.toNat * (Kd.slice 48 k48).sz + 0 = i.toNat from by rw [show (Kd.slice 48 k48).sz = 1 from rfl];omega] at r
 exact ⟨r,Below.setCell (below_step h.bl hb) h.ge _⟩
end
section
variable {ops : Array Oper} {rest : List Oper} {o : Oper} {a : Act} {Q : Exit → Act → World → Prop} {w : World}
/-- An addition ahead of an operation that has an arm of its own (the walk would take both at once). -/
theorem wp_add {m n r : Int} (hg : o.guard = none) (x y : Operand) (hop : o.op = Op.binOp .add 3 x y 3) (hx : a.eval x = .int .i64 m) (hy : a.eval y = .int .i64 n) (hr : wrap64 (m + n) = r)
  (hK : wpList Try.prog ops Q rest (a.put o.dst (.int .i64 r)) w) : wpList Try.prog ops Q (o :: rest) a w:=by
 refine wpList_plain hg fun K' hK'=>?_
 unfold Oper.wp
 simp only [execOp,hop,hx,hy]
 simp [go_sem]
 rw [show IntKind.i64.wrap (m + n) = r from by rw [i64_w];exact hr]
 exact hK' _ _ hK
end
end Go.Proofs.Ytbpccdbkaiigcaa.G

/- The walks of spec.l16Safe: the first shortest path beside others. -/
namespace Go.Proofs.Ytbpccdbkaiigcaa.G
open Go.RowKit Go.Proofs.YtbpccdbkaiigcaaW.PrintWords Go.Proofs.YtbpccdbkaiigcaaW.PrintLast Go.Proofs.YtbpccdbkaiigcaaW.PrintMore
set_option linter.unusedVariables false
set_option linter.unusedSimpArgs false
noncomputable def levels (w h : Int) (bl : List S48) (os : List (List S48)) (a : S48) : List (List S48):=chk (HitAt os a a 0) [] ((List.range 25).map (lev w h bl os a))
theorem spec_l16Levels.both (a0_0 a0_1 : Int) (A0_2 : Option Addr) (c0_2 : Nat) (l0_2 : List S48) (A1 : Option Addr) (c1 : Nat) (os : List (List S48)) (c2 : S48) (w : World) (hr0_2 : Kd.C k48 w A0_2 l0_2.length l0_2) (hc0_2 : l0_2.length ≤ c0_2) (hr1 : Kd.C SL6 w A1 os.length os) (hc1 : os.length ≤ c1) (hf : FloorOk a0_0 a0_1 l0_2) (hb : (l0_2.length : Int) ≤ 1099511627776) (ha : Free a0_0 a0_1 l0_2 c2) (ho : Len os) :
  Calls Try.prog 88 #[.agg #[.int .i64 a0_0,.int .i64 a0_1,.slice A0_2 l0_2.length c0_2],.slice A1 os.length c1,.agg #[.int .i64 c2.f0,.int .i64 c2.f1]] w fun e w' => ∃ u : Value,e = .returned u ∧ Kd.R SL6 27 w' w.heap.size (fun _=>True) u (levels a0_0 a0_1 l0_2 os c2) ∧ Below w.heap.size w w':=by
 obtain ⟨kc,hkc⟩:=Ev.rounds (spec_clear ho c2 c2 0 (by omega) (by omega))
 unfold levels
 by_cases hh : HitAt os c2 c2 0
 ·rw [chk_pos hh] at hkc ⊢
  exact spec_l16Levels.bad a0_0 a0_1 A0_2 c0_2 l0_2 A1 c1 os c2 w hr0_2 hc0_2 hr1 hc1 kc hkc
 ·rw [chk_neg hh] at hkc ⊢
  exact spec_l16Levels.good a0_0 a0_1 A0_2 c0_2 l0_2 A1 c1 os c2 w hr0_2 hc0_2 hr1 hc1 kc hkc hf hb ha ho
theorem levels_rd {w h : Int} {bl : List S48} {os : List (List S48)} {a : S48} {t : Nat} (ht : t < 25) : rd_L6 ((List.range 25).map (lev w h bl os a)) (t : Int) = lev w h bl os a t:=by
 refine rd6_nat _ _ ?_
 rw [List.getElem?_map,List.getElem?_range ht]
 rfl
theorem trace_next {nx : Nat → S48 → Option S48} {a : S48} {t : Nat} {p p' : List S48} (h : trace nx a t = some p) (h' : trace nx a (t + 1) = some p') : ∃ c,nx (t + 1) (rd_T48 p (t : Int)) = some c ∧ p' = p ++ [c]:=by
 rw [trace,h] at h'
 dsimp only at h'
 cases hc : nx (t + 1) (rd_T48 p (t : Int)) with
 | none=>rw [hc] at h';cases h'
 | some c =>
  rw [hc] at h'
  exact ⟨c,rfl,(Option.some.inj h').symm⟩
set_option maxHeartbeats 8000000 in
set_option maxRecDepth 100000 in
theorem spec_l16Safe.fails (a0_0 a0_1 : Int) (A0_2 : Option Addr) (c0_2 : Nat) (l0_2 : List S48) (A1 : Option Addr) (c1 : Nat) (os : List (List S48)) (c2 c3 : S48) (w : World) (hr0_2 : Kd.C k48 w A0_2 l0_2.length l0_2) (hc0_2 : l0_2.length ≤ c0_2) (hr1 : Kd.C SL6 w A1 os.length os) (hc1 : os.length ≤ c1) (hf : FloorOk a0_0 a0_1 l0_2) (hb : (l0_2.length : Int) ≤ 1099511627776) (ha : Free a0_0 a0_1 l0_2 c2) (hbt : Free a0_0 a0_1 l0_2 c3) (ho : Len os) (L : List (List S48)) (hL : levels a0_0 a0_1 l0_2 os c2 = L) (hLe : L = [] ∨ L = (List.range 25).map (lev a0_0 a0_1 l0_2 os c2) ∧ ∀ s,s < 25 → ¬ EndS a0_0 a0_1 l0_2 os c2 c3 s) :
  Calls Try.prog 69 #[.agg #[.int .i64 a0_0,.int .i64 a0_1,.slice A0_2 l0_2.length c0_2],.slice A1 os.length c1,.agg #[.int .i64 c2.f0,.int .i64 c2.f1],.agg #[.int .i64 c3.f0,.int .i64 c3.f1]] w fun e w' => ∃ u : Value,e = .returned (.tuple #[u,.bool false]) ∧ Kd.R k48 48 w' w.heap.size (fun _=>True) u [] ∧ Below w.heap.size w w':=by
 have hu29:=Try.underlying29
 have hu48:=Try.underlying48
 have HR0:=Aside0.mk hr0_2
 have HC0:=Aside0.mk hc0_2
 have HR1:=Aside0.mk hr1
 have HC1:=Aside0.mk hc1
 have HFL:=Aside0.mk hf
 have HBL:=Aside0.mk hb
 have HA:=Aside0.mk ha
 have HT:=Aside0.mk hbt
 have HO:=Aside0.mk ho
 clear hr0_2 hc0_2 hr1 hc1 hf hb ha hbt ho
 have HLL:=Aside0.mk hL
 have HLC:=Aside0.mk hLe
 clear hL hLe
 go_enter Try.func69,Try.ntmps69
 go_wp2_with (first|((with_reducible refine gate_dst (N:=4) rfl ?_);refine zzc 4 #[.int .i64 a0_0,.int .i64 a0_1,.slice A0_2 l0_2.length c0_2] 29 ?_;intro g4 hgg4 w4 hbox hb;have HF4:=Aside0.mk hbox;have HB4:=Aside0.mk hb;clear hbox hb hgg4;have f40:=zz0 HF4;have f41:=zz1 HF4;have f42:=zz2 HF4)|((with_reducible refine gate_dst (N:=6) rfl ?_);refine zzc 6 #[.int .i64 c2.f0,.int .i64 c2.f1] 48 ?_;intro g6 hgg6 w6 hbox hb;have HF6:=Aside0.mk hbox;have HF4':=Aside0.mk (blk_below HF4.out hb);have HB6:=Aside0.mk (below_step HB4.out hb);clear HF4 HB4 hbox hb hgg6 f40 f41 f42;have f40:=zz0 HF4';have f41:=zz1 HF4';have f42:=zz2 HF4';have f60:=zz0 HF6;have f61:=zz1 HF6)|((with_reducible refine gate_dst (N:=7) rfl ?_);refine zzc 7 #[.int .i64 c3.f0,.int .i64 c3.f1] 48 ?_;intro g7 hgg7 w7 hbox hb;have HF7:=Aside0.mk hbox;have HF4'':=Aside0.mk (blk_below HF4'.out hb);have HF6':=Aside0.mk (blk_below HF6.out hb);have HB7:=Aside0.mk (below_step HB6.out hb);clear HF4' HF6 HB6 hbox hb hgg7 f40 f41 f42 f60 f61;have f40:=zz0 HF4'';have f41:=zz1 HF4'';have f42:=zz2 HF4'';have f60:=zz0 HF6';have f61:=zz1 HF6')|(go_at_call 88;(with_reducible refine (spec_l16Levels.both a0_0 a0_1 A0_2 c0_2 l0_2 A1 c1 os c2 _ (Kd.C_below HR0.out HB7.out) HC0.out (Kd.C_below HR1.out HB7.out) HC1.out HFL.out HBL.out HA.out HO.out).mono ?_);rintro e w1 ⟨u10,rfl,hR,hB⟩;rw [HLL.out] at hR;obtain ⟨A10,c10,e10⟩:=Kd.R_slice hR;subst e10;have HL1:=Aside0.mk hR;have HF4:=Aside0.mk (blk_below HF4''.out hB);have HF6:=Aside0.mk (blk_below HF6'.out hB);have HF7':=Aside0.mk (blk_below HF7.out hB);have HB1:=Aside0.mk (below_step HB7.out hB);clear f40 f41 f42 f60 f61 HF4'' HF6' HF7 HB7 hR hB))
 go_loopw [11,12] (fun v11 v12 w' => ∃ t : Nat,v11 = .int .i64 (-1) ∧ v12 = .int .i64 (t : Int) ∧ Aside0 (t ≤ L.length) ∧ Aside0 (Below w1.heap.size w1 w')) (fun _ v12 _=>L.length - (intOf v12).toNat)
 case atStart=>exact ⟨0,rfl,rfl,⟨by omega⟩,⟨Below.refl _ _⟩⟩
 case round =>
  obtain ⟨t,rfl,rfl,HT2,HS⟩:=hrel
  by_cases htl : t < L.length
  ·have HLE : Aside0 (L = (List.range 25).map (lev a0_0 a0_1 l0_2 os c2)):=⟨by rcases HLC.out with e|e;rw [e] at htl;cases htl;exact e.1⟩
   have HNE : Aside0 (∀ s,s < 25 → ¬ EndS a0_0 a0_1 l0_2 os c2 c3 s):=⟨by rcases HLC.out with e|e;rw [e] at htl;cases htl;exact e.2⟩
   have hL25 : L.length = 25:=by rw [HLE.out,List.length_map,List.length_range]
   have ct : decide ((t : Int) < (L.length : Int)) = true:=decide_eq_true (by omega)
   have ctn : decide (t < L.length) = true:=decide_eq_true (by omega)
   obtain ⟨ad10,Ar,cr,ea,hx,hl,hC⟩:=at_L6 (Kd.R_reads' HL1.out).2.2 (t : Int) (by omega) (by omega)
   cases ea
   rw [Int.toNat_natCast] at hx
   obtain ⟨lt,hlt⟩ : ∃ lt,rd_L6 L (t : Int) = lt:=⟨_,rfl⟩
   rw [hlt] at hx hl hC
   have HLT:=Aside0.mk hlt
   have HRR:=Aside0.mk hC
   have HRC:=Aside0.mk hl
   have p1 : (0 ≤ (t : Int)) = True:=eq_true (by omega)
   have p2 : ((t : Int) < (L.length : Int)) = True:=eq_true (by omega)
   have ht2 : t < 100:=by omega
   clear hlt hl hC
   have HL25:=Aside0.mk hL25
   have hlev : lt = lev a0_0 a0_1 l0_2 os c2 t:=by rw [← HLT.out,HLE.out];exact levels_rd (by omega)
   have hll : lt.length ≤ 36:=by rw [hlev];exact lev_len HFL.out t
   obtain ⟨kh,hkh⟩:=Ev.rounds (spec_has lt (by omega) c3)
   obtain ⟨kr,hkr⟩:=Ev.rounds (spec_rest HO.out c3 t (by omega))
   clear hL25
   by_cases hh : c3 ∈ lt
   ·have hnr : ¬ Rest os c3 t:=fun hr=>HNE.out t (by have:=HL25.out;omega) ⟨by rw [← hlev];exact hh,hr⟩
    rw [chk_pos hh] at hkh
    rw [chk_neg hnr] at hkr
    have HKH:=Aside0.mk hkh
    have HKR:=Aside0.mk hkr
    clear hh hnr hkh hkr hlev hll
    go_wp2
    refine start_ (n:=12) (S:=fun w'=>Below w1.heap.size w1 w') (ds:=[]) (bits 12 0) (by kernel_rfl) rfl rfl (below_step HS.out (below_drew1 (Below.refl _ _))) (fun hHeld=>?_)
    have HBd:=Aside0.mk hHeld
    clear HS
    generalize wr.drew = wd at HBd hHeld ⊢
    refine zzp 0 38 (zzb 12 1) ?_;refine zzp 1 39 (zzb 12 3) ?_;refine zzp 2 40 (zzb 12 7) ?_
    refine zzt 3 41 (zzb 12 15) hHeld ?_ (hy:=by intro w' s0;have hx_:=pw_cell_below s0 hx;go_simp;with_reducible rfl)
    refine zzt 4 42 (zzb 12 31) hHeld ?_ (hy:=by intro w' s0;have f70 : w'.cell? ⟨g7,0,none⟩ = some (.int .i64 c3.f0):=(blk_cell (blk_below HF7'.out s0) 0).trans rfl;have f71 : w'.cell? ⟨g7,1,none⟩ = some (.int .i64 c3.f1):=(blk_cell (blk_below HF7'.out s0) 1).trans rfl;go_simp;with_reducible rfl)
    refine zzo 5 43 (zzb 12 63) (fun K hK=>?_)
    refine zzf Try.func89 #[.slice Ar lt.length cr,.agg #[.int .i64 c3.f0,.int .i64 c3.f1]] ?_
    with_reducible refine (spec_l16Has.calls kh Ar cr lt c3.f0 c3.f1 true _ (Kd.C_below HRR.out HBd.out) HRC.out HKH.out).mono ?_
    rintro e w43 ⟨rfl,hB⟩
    refine ⟨_,rfl,?_⟩
    have HBn : Aside0 (Below w1.heap.size w1 w43):=Aside0.mk (below_step HBd.out hB)
    clear hB HBd hHeld
    have HBd:=HBn
    clear HBn
    refine hK.out _ _ HBd.out (fun hHeld=>?_)
    clear hK K
    refine zzn 43 ?_;refine zzp 6 44 (zzb 12 127) ?_;refine zzp 7 45 (zzb 12 255) ?_
    refine zzt 8 46 (zzb 12 511) hHeld ?_ (hy:=by intro w' s0;have f70 : w'.cell? ⟨g7,0,none⟩ = some (.int .i64 c3.f0):=(blk_cell (blk_below HF7'.out s0) 0).trans rfl;have f71 : w'.cell? ⟨g7,1,none⟩ = some (.int .i64 c3.f1):=(blk_cell (blk_below HF7'.out s0) 1).trans rfl;go_simp;with_reducible rfl);refine zzp 9 47 (zzb 12 1023) ?_
    refine zzo 10 48 (zzb 12 2047) (fun K hK=>?_)
    refine zzf Try.func90 #[.slice A1 os.length c1,.agg #[.int .i64 c3.f0,.int .i64 c3.f1],.int .i64 (t : Int)] ?_
    with_reducible refine (spec_l16Rest.calls kr A1 c1 os c3.f0 c3.f1 (t : Int) false _ (Kd.C_below HR1.out (below_step HB1.out (HBd.out))) HC1.out HKR.out).mono ?_
    rintro e w48 ⟨rfl,hB⟩
    refine ⟨_,rfl,?_⟩
    have HBn : Aside0 (Below w1.heap.size w1 w48):=Aside0.mk (below_step HBd.out hB)
    clear hB HBd hHeld
    have HBd:=HBn
    clear HBn
    refine hK.out _ _ HBd.out (fun hHeld=>?_)
    clear hK K
    refine zzn 48 ?_;refine zzp 11 49 (zzb 12 4095) ?_
    refine done_ (by kernel_rfl) ?_
    go_wp2
    go_roundw
    case measure=>simp [intOf];omega
    case rel=>exact ⟨t + 1,rfl,by go_num,⟨by omega⟩,HBd⟩
   ·rw [chk_neg hh] at hkh
    have HKH:=Aside0.mk hkh
    clear hh hkh hkr hlev hll
    go_wp2
    refine start_ (n:=12) (S:=fun w'=>Below w1.heap.size w1 w') (ds:=[]) (bits 12 0) (by kernel_rfl) rfl rfl (below_step HS.out (below_drew1 (Below.refl _ _))) (fun hHeld=>?_)
    have HBd:=Aside0.mk hHeld
    clear HS
    generalize wr.drew = wd at HBd hHeld ⊢
    refine zzp 0 38 (zzb 12 1) ?_;refine zzp 1 39 (zzb 12 3) ?_;refine zzp 2 40 (zzb 12 7) ?_
    refine zzt 3 41 (zzb 12 15) hHeld ?_ (hy:=by intro w' s0;have hx_:=pw_cell_below s0 hx;go_simp;with_reducible rfl)
    refine zzt 4 42 (zzb 12 31) hHeld ?_ (hy:=by intro w' s0;have f70 : w'.cell? ⟨g7,0,none⟩ = some (.int .i64 c3.f0):=(blk_cell (blk_below HF7'.out s0) 0).trans rfl;have f71 : w'.cell? ⟨g7,1,none⟩ = some (.int .i64 c3.f1):=(blk_cell (blk_below HF7'.out s0) 1).trans rfl;go_simp;with_reducible rfl)
    refine zzo 5 43 (zzb 12 63) (fun K hK=>?_)
    refine zzf Try.func89 #[.slice Ar lt.length cr,.agg #[.int .i64 c3.f0,.int .i64 c3.f1]] ?_
    with_reducible refine (spec_l16Has.calls kh Ar cr lt c3.f0 c3.f1 false _ (Kd.C_below HRR.out HBd.out) HRC.out HKH.out).mono ?_
    rintro e w43 ⟨rfl,hB⟩
    refine ⟨_,rfl,?_⟩
    have HBn : Aside0 (Below w1.heap.size w1 w43):=Aside0.mk (below_step HBd.out hB)
    clear hB HBd hHeld
    have HBd:=HBn
    clear HBn
    refine hK.out _ _ HBd.out (fun hHeld=>?_)
    clear hK K
    refine zzn 43 ?_;refine zzp 6 44 (zzb 12 127) ?_;refine zzu 7 45 (zzb 12 255) ?_;refine zzu 8 46 (zzb 12 511) ?_;refine zzu 9 47 (zzb 12 1023) ?_;refine zzu 10 48 (zzb 12 2047) ?_;refine zzp 11 49 (zzb 12 4095) ?_
    refine done_ (by kernel_rfl) ?_
    go_wp2
    go_roundw
    case measure=>simp [intOf];omega
    case rel=>exact ⟨t + 1,rfl,by go_num,⟨by omega⟩,HBd⟩
  ·have ct : decide ((t : Int) < (L.length : Int)) = false:=decide_eq_false (by omega)
   have ctn : decide (t < L.length) = false:=decide_eq_false htl
   clear htl
   go_wp2_with (first|((with_reducible refine gate_dst (N:=53) rfl ?_);refine Kd.R_lit k48 _ 48 ?hg (N:=53) ?hd (xs:=([] : List S48)) (inner:=[]) (ok:=fun _=>True) (okp:=fun _=>True) ?hr ?hp (fun _ hk=>hk) trivial (Below.refl _ _) (Nat.le_refl _) (by simp) ?_;(case hd=>rfl);(case hg=>rfl);(case hr=>first|(go_simp;done)|(go_simp;rfl));(case hp=>exact (Reps.none _ _));intro v53 w53 hR hB hg_ hnew_;clear hg_ hnew_;have HR53:=Aside0.mk (Kd.R_lower hR (below_step HB1.out HS.out).size);have HB53:=Aside0.mk (below_step (below_step HB1.out HS.out) hB);clear hR hB))
   go_ret2
   exact ⟨_,rfl,HR53.out,HB53.out⟩
end Go.Proofs.Ytbpccdbkaiigcaa.G

/- The walk of spec.l16Safe to an answer. -/
namespace Go.Proofs.Ytbpccdbkaiigcaa.G
open Go.RowKit Go.Proofs.YtbpccdbkaiigcaaW.PrintWords Go.Proofs.YtbpccdbkaiigcaaW.PrintLast Go.Proofs.YtbpccdbkaiigcaaW.PrintMore
set_option linter.unusedVariables false
set_option linter.unusedSimpArgs false
set_option maxHeartbeats 8000000 in
set_option maxRecDepth 100000 in
theorem spec_l16Safe.good (a0_0 a0_1 : Int) (A0_2 : Option Addr) (c0_2 : Nat) (l0_2 : List S48) (A1 : Option Addr) (c1 : Nat) (os : List (List S48)) (c2 c3 : S48) (w : World) (hr0_2 : Kd.C k48 w A0_2 l0_2.length l0_2) (hc0_2 : l0_2.length ≤ c0_2) (hr1 : Kd.C SL6 w A1 os.length os) (hc1 : os.length ≤ c1) (hf : FloorOk a0_0 a0_1 l0_2) (hb : (l0_2.length : Int) ≤ 1099511627776) (ha : Free a0_0 a0_1 l0_2 c2) (hbt : Free a0_0 a0_1 l0_2 c3) (ho : Len os) (L : List (List S48)) (hL : levels a0_0 a0_1 l0_2 os c2 = L) (hLe : L = (List.range 25).map (lev a0_0 a0_1 l0_2 os c2)) (e0 : Nat) (he24 : e0 ≤ 24) (he0 : EndS a0_0 a0_1 l0_2 os c2 c3 e0) (hel : ∀ s,s < e0 → ¬ EndS a0_0 a0_1 l0_2 os c2 c3 s) (q : List S48) (hq : trace (nxS a0_0 a0_1 l0_2 os c2 c3 e0) c2 e0 = some q) :
  Calls Try.prog 69 #[.agg #[.int .i64 a0_0,.int .i64 a0_1,.slice A0_2 l0_2.length c0_2],.slice A1 os.length c1,.agg #[.int .i64 c2.f0,.int .i64 c2.f1],.agg #[.int .i64 c3.f0,.int .i64 c3.f1]] w fun e w' => ∃ u : Value,e = .returned (.tuple #[u,.bool true]) ∧ Kd.R k48 48 w' w.heap.size (fun _=>True) u q ∧ Below w.heap.size w w':=by
 have hu29:=Try.underlying29
 have hu48:=Try.underlying48
 have HR0:=Aside0.mk hr0_2
 have HC0:=Aside0.mk hc0_2
 have HR1:=Aside0.mk hr1
 have HC1:=Aside0.mk hc1
 have HFL:=Aside0.mk hf
 have HBL:=Aside0.mk hb
 have HA:=Aside0.mk ha
 have HT:=Aside0.mk hbt
 have HO:=Aside0.mk ho
 clear hr0_2 hc0_2 hr1 hc1 hf hb ha hbt ho
 have HLL:=Aside0.mk hL
 have HLE:=Aside0.mk hLe
 have HE24:=Aside0.mk he24
 have HE0:=Aside0.mk he0
 have HEL:=Aside0.mk hel
 have HQ:=Aside0.mk hq
 have HL25 : Aside0 (L.length = 25):=⟨by rw [hLe,List.length_map,List.length_range]⟩
 clear hL hLe he24 he0 hel hq
 go_enter Try.func69,Try.ntmps69
 go_wp2_with (first|((with_reducible refine gate_dst (N:=4) rfl ?_);refine zzc 4 #[.int .i64 a0_0,.int .i64 a0_1,.slice A0_2 l0_2.length c0_2] 29 ?_;intro g4 hgg4 w4 hbox hb;have HF4:=Aside0.mk hbox;have HB4:=Aside0.mk hb;clear hbox hb hgg4;have f40:=zz0 HF4;have f41:=zz1 HF4;have f42:=zz2 HF4)|((with_reducible refine gate_dst (N:=6) rfl ?_);refine zzc 6 #[.int .i64 c2.f0,.int .i64 c2.f1] 48 ?_;intro g6 hgg6 w6 hbox hb;have HF6:=Aside0.mk hbox;have HF4':=Aside0.mk (blk_below HF4.out hb);have HB6:=Aside0.mk (below_step HB4.out hb);clear HF4 HB4 hbox hb hgg6 f40 f41 f42;have f40:=zz0 HF4';have f41:=zz1 HF4';have f42:=zz2 HF4';have f60:=zz0 HF6;have f61:=zz1 HF6)|((with_reducible refine gate_dst (N:=7) rfl ?_);refine zzc 7 #[.int .i64 c3.f0,.int .i64 c3.f1] 48 ?_;intro g7 hgg7 w7 hbox hb;have HF7:=Aside0.mk hbox;have HF4'':=Aside0.mk (blk_below HF4'.out hb);have HF6':=Aside0.mk (blk_below HF6.out hb);have HB7:=Aside0.mk (below_step HB6.out hb);clear HF4' HF6 HB6 hbox hb hgg7 f40 f41 f42 f60 f61;have f40:=zz0 HF4'';have f41:=zz1 HF4'';have f42:=zz2 HF4'';have f60:=zz0 HF6';have f61:=zz1 HF6')|(go_at_call 88;(with_reducible refine (spec_l16Levels.both a0_0 a0_1 A0_2 c0_2 l0_2 A1 c1 os c2 _ (Kd.C_below HR0.out HB7.out) HC0.out (Kd.C_below HR1.out HB7.out) HC1.out HFL.out HBL.out HA.out HO.out).mono ?_);rintro e w1 ⟨u10,rfl,hR,hB⟩;rw [HLL.out] at hR;obtain ⟨A10,c10,e10⟩:=Kd.R_slice hR;subst e10;have HL1:=Aside0.mk hR;have HF4:=Aside0.mk (blk_below HF4''.out hB);have HF6:=Aside0.mk (blk_below HF6'.out hB);have HF7':=Aside0.mk (blk_below HF7.out hB);have HB1:=Aside0.mk (below_step HB7.out hB);clear f40 f41 f42 f60 f61 HF4'' HF6' HF7 HB7 hR hB))
 go_loopw [11,12] (fun v11 v12 w' => ∃ (t : Nat) (e : Int),v11 = .int .i64 e ∧ v12 = .int .i64 (t : Int) ∧ Aside0 ((e = -1 ∧ t ≤ e0) ∨ (e = (e0 : Int) ∧ t = e0 + 1)) ∧ Aside0 (Below w1.heap.size w1 w')) (fun _ v12 _=>26 - (intOf v12).toNat)
 case atStart=>exact ⟨0, -1,rfl,rfl,⟨.inl ⟨rfl,by omega⟩⟩,⟨Below.refl _ _⟩⟩
 case round =>
  obtain ⟨t,e,rfl,rfl,HTE,HS⟩:=hrel
  by_cases hte : e = -1
  ·subst hte
   have hte0 : t ≤ e0:=by rcases HTE.out with h|h;exact h.2;omega
   have htl : t < L.length:=by have:=HL25.out;have:=HE24.out;omega
   have ct : decide ((t : Int) < (L.length : Int)) = true:=decide_eq_true (by omega)
   have ctn : decide (t < L.length) = true:=decide_eq_true (by omega)
   obtain ⟨ad10,Ar,cr,ea,hx,hl,hC⟩:=at_L6 (Kd.R_reads' HL1.out).2.2 (t : Int) (by omega) (by omega)
   cases ea
   rw [Int.toNat_natCast] at hx
   obtain ⟨lt,hlt⟩ : ∃ lt,rd_L6 L (t : Int) = lt:=⟨_,rfl⟩
   rw [hlt] at hx hl hC
   have HLT:=Aside0.mk hlt
   have HRR:=Aside0.mk hC
   have HRC:=Aside0.mk hl
   have p1 : (0 ≤ (t : Int)) = True:=eq_true (by omega)
   have p2 : ((t : Int) < (L.length : Int)) = True:=eq_true (by omega)
   have ht2 : t < 100:=by have:=HL25.out;omega
   clear hlt hl hC
   have hlev : lt = lev a0_0 a0_1 l0_2 os c2 t:=by rw [← HLT.out,HLE.out];exact levels_rd (by have:=HE24.out;omega)
   have hll : lt.length ≤ 36:=by rw [hlev];exact lev_len HFL.out t
   obtain ⟨kh,hkh⟩:=Ev.rounds (spec_has lt (by omega) c3)
   obtain ⟨kr,hkr⟩:=Ev.rounds (spec_rest HO.out c3 t (by have:=HE24.out;omega))
   by_cases hte1 : t = e0
   ·subst hte1
    have hh : c3 ∈ lt:=by rw [hlev];exact HE0.out.1
    rw [chk_pos hh] at hkh
    rw [chk_pos HE0.out.2] at hkr
    have HKH:=Aside0.mk hkh
    have HKR:=Aside0.mk hkr
    clear hh hkh hkr hlev hll
    go_wp2
    refine start_ (n:=12) (S:=fun w'=>Below w1.heap.size w1 w') (ds:=[]) (bits 12 0) (by kernel_rfl) rfl rfl (below_step HS.out (below_drew1 (Below.refl _ _))) (fun hHeld=>?_)
    have HBd:=Aside0.mk hHeld
    clear HS
    generalize wr.drew = wd at HBd hHeld ⊢
    refine zzp 0 38 (zzb 12 1) ?_;refine zzp 1 39 (zzb 12 3) ?_;refine zzp 2 40 (zzb 12 7) ?_
    refine zzt 3 41 (zzb 12 15) hHeld ?_ (hy:=by intro w' s0;have hx_:=pw_cell_below s0 hx;go_simp;with_reducible rfl)
    refine zzt 4 42 (zzb 12 31) hHeld ?_ (hy:=by intro w' s0;have f70 : w'.cell? ⟨g7,0,none⟩ = some (.int .i64 c3.f0):=(blk_cell (blk_below HF7'.out s0) 0).trans rfl;have f71 : w'.cell? ⟨g7,1,none⟩ = some (.int .i64 c3.f1):=(blk_cell (blk_below HF7'.out s0) 1).trans rfl;go_simp;with_reducible rfl)
    refine zzo 5 43 (zzb 12 63) (fun K hK=>?_)
    refine zzf Try.func89 #[.slice Ar lt.length cr,.agg #[.int .i64 c3.f0,.int .i64 c3.f1]] ?_
    with_reducible refine (spec_l16Has.calls kh Ar cr lt c3.f0 c3.f1 true _ (Kd.C_below HRR.out HBd.out) HRC.out HKH.out).mono ?_
    rintro e w43 ⟨rfl,hB⟩
    refine ⟨_,rfl,?_⟩
    have HBn : Aside0 (Below w1.heap.size w1 w43):=Aside0.mk (below_step HBd.out hB)
    clear hB HBd hHeld
    have HBd:=HBn
    clear HBn
    refine hK.out _ _ HBd.out (fun hHeld=>?_)
    clear hK K
    refine zzn 43 ?_;refine zzp 6 44 (zzb 12 127) ?_;refine zzp 7 45 (zzb 12 255) ?_
    refine zzt 8 46 (zzb 12 511) hHeld ?_ (hy:=by intro w' s0;have f70 : w'.cell? ⟨g7,0,none⟩ = some (.int .i64 c3.f0):=(blk_cell (blk_below HF7'.out s0) 0).trans rfl;have f71 : w'.cell? ⟨g7,1,none⟩ = some (.int .i64 c3.f1):=(blk_cell (blk_below HF7'.out s0) 1).trans rfl;go_simp;with_reducible rfl);refine zzp 9 47 (zzb 12 1023) ?_
    refine zzo 10 48 (zzb 12 2047) (fun K hK=>?_)
    refine zzf Try.func90 #[.slice A1 os.length c1,.agg #[.int .i64 c3.f0,.int .i64 c3.f1],.int .i64 (t : Int)] ?_
    with_reducible refine (spec_l16Rest.calls kr A1 c1 os c3.f0 c3.f1 (t : Int) true _ (Kd.C_below HR1.out (below_step HB1.out (HBd.out))) HC1.out HKR.out).mono ?_
    rintro e w48 ⟨rfl,hB⟩
    refine ⟨_,rfl,?_⟩
    have HBn : Aside0 (Below w1.heap.size w1 w48):=Aside0.mk (below_step HBd.out hB)
    clear hB HBd hHeld
    have HBd:=HBn
    clear HBn
    refine hK.out _ _ HBd.out (fun hHeld=>?_)
    clear hK K
    refine zzn 48 ?_;refine zzp 11 49 (zzb 12 4095) ?_
    refine done_ (by kernel_rfl) ?_
    go_wp2
    go_roundw
    case measure=>simp [intOf];have:=HE24.out;omega
    case rel=>exact ⟨t + 1,(t : Int),rfl,by go_num,⟨.inr ⟨rfl,rfl⟩⟩,HBd⟩
   ·by_cases hh : c3 ∈ lt
    ·have hnr : ¬ Rest os c3 t:=fun hr=>HEL.out t (by omega) ⟨by rw [← hlev];exact hh,hr⟩
     rw [chk_pos hh] at hkh
     rw [chk_neg hnr] at hkr
     have HKH:=Aside0.mk hkh
     have HKR:=Aside0.mk hkr
     clear hh hnr hkh hkr hlev hll
     go_wp2
     refine start_ (n:=12) (S:=fun w'=>Below w1.heap.size w1 w') (ds:=[]) (bits 12 0) (by kernel_rfl) rfl rfl (below_step HS.out (below_drew1 (Below.refl _ _))) (fun hHeld=>?_)
     have HBd:=Aside0.mk hHeld
     clear HS
     generalize wr.drew = wd at HBd hHeld ⊢
     refine zzp 0 38 (zzb 12 1) ?_;refine zzp 1 39 (zzb 12 3) ?_;refine zzp 2 40 (zzb 12 7) ?_
     refine zzt 3 41 (zzb 12 15) hHeld ?_ (hy:=by intro w' s0;have hx_:=pw_cell_below s0 hx;go_simp;with_reducible rfl)
     refine zzt 4 42 (zzb 12 31) hHeld ?_ (hy:=by intro w' s0;have f70 : w'.cell? ⟨g7,0,none⟩ = some (.int .i64 c3.f0):=(blk_cell (blk_below HF7'.out s0) 0).trans rfl;have f71 : w'.cell? ⟨g7,1,none⟩ = some (.int .i64 c3.f1):=(blk_cell (blk_below HF7'.out s0) 1).trans rfl;go_simp;with_reducible rfl)
     refine zzo 5 43 (zzb 12 63) (fun K hK=>?_)
     refine zzf Try.func89 #[.slice Ar lt.length cr,.agg #[.int .i64 c3.f0,.int .i64 c3.f1]] ?_
     with_reducible refine (spec_l16Has.calls kh Ar cr lt c3.f0 c3.f1 true _ (Kd.C_below HRR.out HBd.out) HRC.out HKH.out).mono ?_
     rintro e w43 ⟨rfl,hB⟩
     refine ⟨_,rfl,?_⟩
     have HBn : Aside0 (Below w1.heap.size w1 w43):=Aside0.mk (below_step HBd.out hB)
     clear hB HBd hHeld
     have HBd:=HBn
     clear HBn
     refine hK.out _ _ HBd.out (fun hHeld=>?_)
     clear hK K
     refine zzn 43 ?_;refine zzp 6 44 (zzb 12 127) ?_;refine zzp 7 45 (zzb 12 255) ?_
     refine zzt 8 46 (zzb 12 511) hHeld ?_ (hy:=by intro w' s0;have f70 : w'.cell? ⟨g7,0,none⟩ = some (.int .i64 c3.f0):=(blk_cell (blk_below HF7'.out s0) 0).trans rfl;have f71 : w'.cell? ⟨g7,1,none⟩ = some (.int .i64 c3.f1):=(blk_cell (blk_below HF7'.out s0) 1).trans rfl;go_simp;with_reducible rfl);refine zzp 9 47 (zzb 12 1023) ?_
     refine zzo 10 48 (zzb 12 2047) (fun K hK=>?_)
     refine zzf Try.func90 #[.slice A1 os.length c1,.agg #[.int .i64 c3.f0,.int .i64 c3.f1],.int .i64 (t : Int)] ?_
     with_reducible refine (spec_l16Rest.calls kr A1 c1 os c3.f0 c3.f1 (t : Int) false _ (Kd.C_below HR1.out (below_step HB1.out (HBd.out))) HC1.out HKR.out).mono ?_
     rintro e w48 ⟨rfl,hB⟩
     refine ⟨_,rfl,?_⟩
     have HBn : Aside0 (Below w1.heap.size w1 w48):=Aside0.mk (below_step HBd.out hB)
     clear hB HBd hHeld
     have HBd:=HBn
     clear HBn
     refine hK.out _ _ HBd.out (fun hHeld=>?_)
     clear hK K
     refine zzn 48 ?_;refine zzp 11 49 (zzb 12 4095) ?_
     refine done_ (by kernel_rfl) ?_
     go_wp2
     go_roundw
     case measure=>simp [intOf];have:=HE24.out;omega
     case rel=>exact ⟨t + 1, -1,rfl,by go_num,⟨.inl ⟨rfl,by omega⟩⟩,HBd⟩
    ·rw [chk_neg hh] at hkh
     have HKH:=Aside0.mk hkh
     clear hh hkh hkr hlev hll
     go_wp2
     refine start_ (n:=12) (S:=fun w'=>Below w1.heap.size w1 w') (ds:=[]) (bits 12 0) (by kernel_rfl) rfl rfl (below_step HS.out (below_drew1 (Below.refl _ _))) (fun hHeld=>?_)
     have HBd:=Aside0.mk hHeld
     clear HS
     generalize wr.drew = wd at HBd hHeld ⊢
     refine zzp 0 38 (zzb 12 1) ?_;refine zzp 1 39 (zzb 12 3) ?_;refine zzp 2 40 (zzb 12 7) ?_
     refine zzt 3 41 (zzb 12 15) hHeld ?_ (hy:=by intro w' s0;have hx_:=pw_cell_below s0 hx;go_simp;with_reducible rfl)
     refine zzt 4 42 (zzb 12 31) hHeld ?_ (hy:=by intro w' s0;have f70 : w'.cell? ⟨g7,0,none⟩ = some (.int .i64 c3.f0):=(blk_cell (blk_below HF7'.out s0) 0).trans rfl;have f71 : w'.cell? ⟨g7,1,none⟩ = some (.int .i64 c3.f1):=(blk_cell (blk_below HF7'.out s0) 1).trans rfl;go_simp;with_reducible rfl)
     refine zzo 5 43 (zzb 12 63) (fun K hK=>?_)
     refine zzf Try.func89 #[.slice Ar lt.length cr,.agg #[.int .i64 c3.f0,.int .i64 c3.f1]] ?_
     with_reducible refine (spec_l16Has.calls kh Ar cr lt c3.f0 c3.f1 false _ (Kd.C_below HRR.out HBd.out) HRC.out HKH.out).mono ?_
     rintro e w43 ⟨rfl,hB⟩
     refine ⟨_,rfl,?_⟩
     have HBn : Aside0 (Below w1.heap.size w1 w43):=Aside0.mk (below_step HBd.out hB)
     clear hB HBd hHeld
     have HBd:=HBn
     clear HBn
     refine hK.out _ _ HBd.out (fun hHeld=>?_)
     clear hK K
     refine zzn 43 ?_;refine zzp 6 44 (zzb 12 127) ?_;refine zzu 7 45 (zzb 12 255) ?_;refine zzu 8 46 (zzb 12 511) ?_;refine zzu 9 47 (zzb 12 1023) ?_;refine zzu 10 48 (zzb 12 2047) ?_;refine zzp 11 49 (zzb 12 4095) ?_
     refine done_ (by kernel_rfl) ?_
     go_wp2
     go_roundw
     case measure=>simp [intOf];have:=HE24.out;omega
     case rel=>exact ⟨t + 1, -1,rfl,by go_num,⟨.inl ⟨rfl,by omega⟩⟩,HBd⟩
  ·have hte2 : e = (e0 : Int) ∧ t = e0 + 1:=by rcases HTE.out with h|h;exact absurd h.1 hte;exact h
   obtain ⟨rfl,rfl⟩:=hte2
   have ce : decide ((e0 : Int) < 0) = false:=decide_eq_false (by omega)
   obtain ⟨z0,hz0⟩ : ∃ z0 : Int,(e0 : Int) + 1 = z0:=⟨_,rfl⟩
   have HZ0 : Aside0 (z0 = (e0 : Int) + 1):=⟨hz0.symm⟩
   have hwz : wrap64 ((e0 : Int) + 1) = z0:=by rw [wrap64_id (by omega) (by have:=HE24.out;omega)];exact hz0
   obtain ⟨zm,hzm⟩ : ∃ zm : Int,(e0 : Int) - 1 = zm:=⟨_,rfl⟩
   have HZM : Aside0 (zm = (e0 : Int) - 1):=⟨hzm.symm⟩
   have hwm : wrap64 ((e0 : Int) - 1) = zm:=by rw [wrap64_id (by omega) (by have:=HE24.out;omega)];exact hzm
   have p1 : (0 ≤ (e0 : Int)) = True:=eq_true (by omega)
   have p2 : ((e0 : Int) < ((e0 + 1 : Nat) : Int)) = True:=eq_true (by omega)
   have p3 : ((e0 : Int) < (e0 : Int) + 1) = True:=eq_true (by omega)
   have f70 : wr.cell? ⟨g7,0,none⟩ = some (.int .i64 c3.f0):=(blk_cell (blk_below HF7'.out HS.out) 0).trans rfl;have f71 : wr.cell? ⟨g7,1,none⟩ = some (.int .i64 c3.f1):=(blk_cell (blk_below HF7'.out HS.out) 1).trans rfl
   clear hte hz0 hzm
   obtain ⟨wo,rfl⟩ : ∃ wo : World,wo = wr:=⟨_,rfl⟩
   have hct : decide ((e0 : Int) + 1 < (L.length : Int)) = true ∨ decide ((e0 : Int) + 1 < (L.length : Int)) = false:=by
    cases decide ((e0 : Int) + 1 < (L.length : Int))
    ·exact Or.inr rfl
    ·exact Or.inl rfl
   rcases hct with ct|ct
   all_goals
    clear HTE
    go_wp2_with (first|((with_reducible refine gate_dst (N:=55) rfl ?_);refine wp_add rfl (.tmp 54) (.const (.int .i64 1)) rfl rfl rfl hwz ?_)|((with_reducible refine gate_dst (N:=56) rfl ?_);refine Kd.S_make SL6 _ 27 rfl (N:=56) rfl 61 _ _ rfl (z0 : Int) rfl rfl Try.underlying61 (.slice none 0 0) 24 info27 rfl (by decide) (by omega) [] (ok:=fun _=>True) (okp:=fun _=>True) ⟨_,rfl,Kd.R_nil _ _ _ _ _⟩ (fun _ hk=>hk) trivial (by have:=HZ0.out;omega) (by have:=HZ0.out;have:=HE24.out;omega) (Below.refl _ _) (Nat.le_refl _) ?_;intro v56 w56 hS hb hg_ hnew_;clear hg_ hnew_;rw [show z0.toNat = e0 + 1 from by have:=HZ0.out;omega] at hS;obtain ⟨g13,c13,ev,_,_,_⟩:=Kd.S_form hS (by rw [List.length_replicate];omega);rw [List.length_replicate] at ev;subst ev;have HG56 : Aside0 (GD wo w56 (.slice (some ⟨g13,0,none⟩) (e0 + 1) c13) (List.replicate (e0 + 1) [])):=Aside0.mk ⟨hS,hb⟩;clear hS hb f70 f71;have f70 : w56.cell? ⟨g7,0,none⟩ = some (.int .i64 c3.f0):=(blk_cell (blk_below HF7'.out (below_step HS.out HG56.out.bl)) 0).trans rfl;have f71 : w56.cell? ⟨g7,1,none⟩ = some (.int .i64 c3.f1):=(blk_cell (blk_below HF7'.out (below_step HS.out HG56.out.bl)) 1).trans rfl)|((with_reducible refine gate_dst (N:=60) rfl ?_);refine Kd.R_lit k48 _ 48 ?hg (N:=60) ?hd (xs:=([c3] : List S48)) (inner:=[.int .i64 c3.f0,.int .i64 c3.f1]) (ok:=fun _=>True) (okp:=fun _=>True) ?hr ?hp (fun _ hk=>hk) trivial (Below.refl _ _) (Nat.le_refl _) (by simp) ?_;(case hd=>rfl);(case hg=>rfl);(case hr=>first|(go_simp;done)|(go_simp;rfl));(case hp=>exact (Reps.c2 (show Kd.M k48 _ _ _ c3 [.int .i64 c3.f0,.int .i64 c3.f1] from k48_mkM _ _ _ c3) (Reps.none _ _)));intro v60 w60 hR hB hg_ hnew_;clear hg_ hnew_;obtain ⟨A60,c60,e60⟩:=Kd.R_slice hR;rw [show ([c3] : List S48).length = 1 from rfl] at e60;subst e60;obtain ⟨Ao,co,hox,_,_,hof⟩:=(HG56.out.below hB).cell (i:=(e0 : Int)) (by omega) (by omega);rw [Int.toNat_natCast] at hox hof;have HG61:=Aside0.mk (HG56.out.put (i:=(e0 : Int)) hB hR (by omega) (by omega));clear f70 f71 HG56;clear hR hB))
    have HG2 : Aside0 (GD wo (w60.setCell ⟨g13,e0,none⟩ (.slice A60 1 c60)) (.slice (some ⟨g13,0,none⟩) (e0 + 1) c13) (gds a0_0 a0_1 l0_2 os c2 c3 e0 0)):=⟨by have:=HG61.out;rw [Int.toNat_natCast,gds_zero] at this;exact this⟩
    clear HG61 hox hof p1 p2 p3 hwz
    generalize w60.setCell ⟨g13,e0,none⟩ (.slice A60 1 c60) = w61 at HG2 ⊢
    go_loopw [14] (fun v14 w' => ∃ (j : Nat) (z : Int),v14 = .int .i64 z ∧ Aside0 (z = (e0 : Int) - 1 - j ∧ j ≤ e0) ∧ Aside0 (GD wo w' (.slice (some ⟨g13,0,none⟩) (e0 + 1) c13) (gds a0_0 a0_1 l0_2 os c2 c3 e0 j))) (fun v14 _=>(intOf v14 + 1).toNat)
    case atStart=>exact ⟨0,zm,(by rw [hwm]),⟨by have:=HZM.out;omega⟩,HG2⟩
    case round =>
     clear HG2 hwm
     obtain ⟨j,z,rfl,HZJ,HG⟩:=hrel
     by_cases hz : 0 ≤ z
     ·have cz : decide (0 ≤ z) = true:=decide_eq_true hz
      have HZ0:=Aside0.mk hz
      have HZ1 : Aside0 (z < ((e0 + 1 : Nat) : Int)):=⟨by have:=HZJ.out;omega⟩
      have HJE : Aside0 (j < e0):=⟨by have:=HZJ.out;omega⟩
      have HZT : Aside0 (z.toNat = e0 - 1 - j):=⟨by have:=HZJ.out;omega⟩
      obtain ⟨ad10,Ar,cr,ea,hx,hl,hC⟩:=at_L6 (Kd.R_reads' HL1.out).2.2 z hz (by have:=HL25.out;have:=HZJ.out;have:=HE24.out;omega)
      cases ea
      obtain ⟨lt,hlt⟩ : ∃ lt,rd_L6 L z = lt:=⟨_,rfl⟩
      rw [hlt] at hx hl hC
      have HRR:=Aside0.mk hC
      have HRC:=Aside0.mk hl
      have HX:=Aside0.mk hx
      have HLT : Aside0 (lt = lev a0_0 a0_1 l0_2 os c2 (e0 - (j + 1))):=⟨by
       rw [← hlt,HLE.out,show z = ((e0 - (j + 1) : Nat) : Int) from by have:=HZJ.out;omega]
       exact levels_rd (by have:=HE24.out;omega)⟩
      have hll : lt.length ≤ 36:=by rw [HLT.out];exact lev_len HFL.out _
      have p1 : (0 ≤ z) = True:=eq_true hz
      have p2 : (z < (L.length : Int)) = True:=eq_true (by have:=HL25.out;have:=HZJ.out;have:=HE24.out;omega)
      obtain ⟨zp,hzp⟩ : ∃ zp : Int,z + 1 = zp:=⟨_,rfl⟩
      have HZP : Aside0 (zp = z + 1):=⟨hzp.symm⟩
      have hwz1 : wrap64 (z + 1) = zp:=by rw [wrap64_id (by omega) (by have:=HZJ.out;have:=HE24.out;omega)];exact hzp
      obtain ⟨zn,hzn⟩ : ∃ zn : Int,z - 1 = zn:=⟨_,rfl⟩
      have HZN : Aside0 (zn = z - 1):=⟨hzn.symm⟩
      have hwzn : wrap64 (z - 1) = zn:=by rw [wrap64_id (by omega) (by have:=HZJ.out;have:=HE24.out;omega)];exact hzn
      have hzi : (zp : Int) = ((e0 - j : Nat) : Int):=by have:=HZJ.out;omega
      have p3 : (0 ≤ zp) = True:=eq_true (by omega)
      have p4 : (zp < ((e0 + 1 : Nat) : Int)) = True:=eq_true (by have:=HJE.out;omega)
      have p5 : (zp < (e0 : Int) + 1) = True:=eq_true (by have:=HJE.out;omega)
      have p6 : (z < ((e0 + 1 : Nat) : Int)) = True:=eq_true HZ1.out
      have p7 : (z < (e0 : Int) + 1) = True:=eq_true (by have:=HJE.out;omega)
      have HZI:=Aside0.mk hzi
      obtain ⟨grow,hgrow⟩ : ∃ l,gdl a0_0 a0_1 l0_2 os c2 c3 e0 j = l:=⟨_,rfl⟩
      have HGROW:=Aside0.mk hgrow
      have hgl : grow.length ≤ 36:=by rw [← hgrow];exact gdl_len HFL.out j
      obtain ⟨P,hP⟩ : ∃ P : S48 → Prop,(fun c=>Lead os grow zp c) = P:=⟨_,rfl⟩
      have HP:=Aside0.mk hP
      have HG3 : Aside0 (GD wo wr (.slice (some ⟨g13,0,none⟩) (e0 + 1) c13) ((gds a0_0 a0_1 l0_2 os c2 c3 e0 j).set z.toNat [])):=⟨by rw [HZT.out,gds_same HJE.out];exact HG.out⟩
      clear hz hlt hl hC hx hzp hzn hzi hgrow hP HG
      go_wp2
      go_loopw [15] (fun v15 w' => ∃ (i : Nat) (row : List S48),v15 = .int .i64 (i : Int) ∧ Aside0 (i ≤ lt.length) ∧ Aside0 (row = fil P (lt.take i)) ∧ Aside0 (GD wo w' (.slice (some ⟨g13,0,none⟩) (e0 + 1) c13) ((gds a0_0 a0_1 l0_2 os c2 c3 e0 j).set z.toNat row))) (fun v15 _=>lt.length - (intOf v15).toNat)
      case atStart=>exact ⟨0,[],rfl,⟨by omega⟩,⟨rfl⟩,HG3⟩
      case round =>
       clear HG3
       obtain ⟨i,row,rfl,HI,HROW,HG⟩:=hrel
       have hx:=pw_cell_below (below_step HS.out HG.out.bl) HX.out
       by_cases hi : i < lt.length
       ·have ci : decide ((i : Int) < (lt.length : Int)) = true:=decide_eq_true (by omega)
        have cin : decide (i < lt.length) = true:=decide_eq_true hi
        have hi2 : i < 100:=by omega
        have q1 : (0 ≤ (i : Int)) = True:=eq_true (by omega)
        have q2 : ((i : Int) < (lt.length : Int)) = True:=eq_true (by omega)
        obtain ⟨adr,ear,ha0,ha1⟩:=at_T48 (Kd.C_below HRR.out (below_step HS.out HG.out.bl)) (i : Int) (by omega) (by omega)
        cases ear
        rw [Int.toNat_natCast] at ha0 ha1
        obtain ⟨a,haa⟩ : ∃ a,rd_T48 lt (i : Int) = a:=⟨_,rfl⟩
        rw [haa] at ha0 ha1
        have HAA:=Aside0.mk haa
        have HTK : Aside0 (lt.take (i + 1) = lt.take i ++ [a]):=⟨by rw [← haa];exact take_rd hi⟩
        have HAF : Aside0 (Free a0_0 a0_1 l0_2 a):=⟨by rw [← haa];exact lev_free HA.out (e0 - (j + 1)) _ (by rw [← HLT.out];exact mem48 lt _ (by omega) (by omega))⟩
        have HLn : Aside0 (row.length ≤ 36):=⟨by rw [HROW.out];exact Nat.le_trans (fil_len _ _) (Nat.le_trans (by rw [List.length_take];omega) hll)⟩
        clear haa
        go_wp2_with (first|((with_reducible refine gate_dst (N:=16) rfl ?_);refine zzc 16 #[.int .i64 0,.int .i64 0] 48 ?_;intro g16 hgg16 w16 hbox hb;have HF16:=Aside0.mk hbox;have HB16:=Aside0.mk hb;have HG16:=Aside0.mk hgg16;clear hbox hb hgg16;have hz0:=zz0 HF16;have hz1_:=zz1 HF16;have hzf0:=blk_frozen HF16.out 0;have hzf1:=blk_frozen HF16.out 1))
        have HG4 : Aside0 (GD wo ((w16.setCell ⟨g16,0,none⟩ (.int .i64 a.f0)).setCell ⟨g16,1,none⟩ (.int .i64 a.f1)) (.slice (some ⟨g13,0,none⟩) (e0 + 1) c13) ((gds a0_0 a0_1 l0_2 os c2 c3 e0 j).set z.toNat row) ∧ ((w16.setCell ⟨g16,0,none⟩ (.int .i64 a.f0)).setCell ⟨g16,1,none⟩ (.int .i64 a.f1)).heap[g16]? = some (.cells #[.int .i64 a.f0,.int .i64 a.f1] 48 (0,0))):=Aside0.mk ⟨HG.out.below (below_set (j:=1) (v := .int .i64 a.f1) (below_set (j:=0) (v := .int .i64 a.f0) HB16.out (Nat.le_of_eq HG16.out.symm)) (Nat.le_of_eq HG16.out.symm)),(blk_put (cs := #[.int .i64 a.f0,.int .i64 0]) (blk_put (cs := #[.int .i64 0,.int .i64 0]) HF16.out 0 _ rfl) 1 _ rfl)⟩
        have HS16 : Aside0 (Kd.S SL6 27 ((w16.setCell ⟨g16,0,none⟩ (.int .i64 a.f0)).setCell ⟨g16,1,none⟩ (.int .i64 a.f1)) wo.heap.size (fun k=>True ∧ k ≠ g16) (.slice (some ⟨g13,0,none⟩) (e0 + 1) c13) ((gds a0_0 a0_1 l0_2 os c2 c3 e0 j).set z.toNat row)):=Aside0.mk (Kd.S_below (Kd.S_elderB HG.out.s g16 (Nat.le_of_eq HG16.out.symm)) (below_set (j:=1) (v := .int .i64 a.f1) (below_set (j:=0) (v := .int .i64 a.f0) HB16.out (Nat.le_of_eq HG16.out.symm)) (Nat.le_of_eq HG16.out.symm)))
        clear HG hz0 hz1_ hzf0 hzf1 HF16 HB16 HG16 hx ha0 ha1
        generalize ((w16.setCell ⟨g16,0,none⟩ (.int .i64 a.f0)).setCell ⟨g16,1,none⟩ (.int .i64 a.f1)) = w16_ at HG4 HS16 ⊢
        go_loopw [17,18] (fun v17 v18 w' => ∃ (k : Nat) (can : Bool),v17 = .bool can ∧ v18 = .int .i64 (k : Int) ∧ Aside0 (k ≤ grow.length) ∧ Aside0 (can = true ↔ Lead os (grow.take k) zp a) ∧ Aside0 (Kd.S SL6 27 w' wo.heap.size (fun k=>True ∧ k ≠ g16) (.slice (some ⟨g13,0,none⟩) (e0 + 1) c13) ((gds a0_0 a0_1 l0_2 os c2 c3 e0 j).set z.toNat row)) ∧ Aside0 (GD wo w' (.slice (some ⟨g13,0,none⟩) (e0 + 1) c13) ((gds a0_0 a0_1 l0_2 os c2 c3 e0 j).set z.toNat row) ∧ w'.heap[g16]? = some (.cells #[.int .i64 a.f0,.int .i64 a.f1] 48 (0,0)))) (fun _ v18 _=>grow.length - (intOf v18).toNat)
        case atStart=>exact ⟨0,false,rfl,rfl,⟨by omega⟩,⟨⟨fun h=>(by cases h),fun h=>absurd h lead_zero⟩⟩,HS16,HG4⟩
        case round =>
         clear HG4 HS16
         obtain ⟨k,can,rfl,rfl,HK,HC,HS16,HGA⟩:=hrel
         obtain ⟨wb,rfl⟩ : ∃ wb : World,wb = wr:=⟨_,rfl⟩
         have HG4:=Aside0.mk HGA.out.1
         have HA16:=Aside0.mk HGA.out.2
         clear HGA
         have HBW:=Aside0.mk (below_step (below_step HB1.out HS.out) HG4.out.bl)
         obtain ⟨Ag,cg,hgx,hgl2,hgC,_⟩:=HG4.out.cell (i:=zp) (by have:=HZI.out;omega) (by have:=HZI.out;omega)
         have hgrd : rd_L6 ((gds a0_0 a0_1 l0_2 os c2 c3 e0 j).set z.toNat row) zp = grow:=by
          have e1:=gds_rd (w:=a0_0) (h:=a0_1) (bl:=l0_2) (os:=os) (a:=c2) (b:=c3) (e:=e0) (j:=j) (i:=e0 - j) (by omega) (by have:=HJE.out;omega)
          rw [show e0 - (e0 - j) = j from by have:=HJE.out;omega] at e1
          rw [← HGROW.out,← e1,HZI.out]
          unfold rd_L6
          rw [List.getD_eq_getElem?_getD,List.getD_eq_getElem?_getD,List.getElem?_set,if_neg (by have:=HZT.out;have:=HJE.out;omega)]
         rw [hgrd] at hgx hgl2 hgC
         clear hgrd
         by_cases hk : k < grow.length
         ·have ck : decide ((k : Int) < (grow.length : Int)) = true:=decide_eq_true (by omega)
          have ckn : decide (k < grow.length) = true:=decide_eq_true hk
          have hk2 : k < 100:=by omega
          have q3 : (0 ≤ (k : Int)) = True:=eq_true (by omega)
          have q4 : ((k : Int) < (grow.length : Int)) = True:=eq_true (by omega)
          obtain ⟨adg,eag,hk0,hk1⟩:=at_T48 hgC (k : Int) (by omega) (by omega)
          cases eag
          rw [Int.toNat_natCast] at hk0 hk1
          obtain ⟨d,hd⟩ : ∃ d,rd_T48 grow (k : Int) = d:=⟨_,rfl⟩
          rw [hd] at hk0 hk1
          have HSUC:=Aside0.mk (lead_succ (os:=os) (z:=zp) (c:=a) hk hd)
          have HDF : Aside0 (Free a0_0 a0_1 l0_2 d):=⟨by rw [← hd];exact gdl_free HA.out HT.out j _ (by rw [HGROW.out];exact mem48 grow _ (by omega) (by omega))⟩
          clear hd hgC hgl2
          cases can with
          | true =>
           go_wp2
           refine start_ (n:=29) (S:=fun w'=>Below wb.heap.size wb w') (ds:=[]) (bits 29 0) (by kernel_rfl) rfl rfl (below_drew1 (Below.refl _ _)) (fun hHeld=>?_)
           have HBd:=Aside0.mk hHeld
           generalize wb.drew = wd at HBd hHeld ⊢
           refine zzp 0 94 (zzb 29 1) ?_;refine zzp 1 95 (zzb 29 3) ?_;refine zzu 2 96 (zzb 29 7) ?_;refine zzu 3 97 (zzb 29 15) ?_;refine zzu 4 98 (zzb 29 31) ?_;refine zzu 5 99 (zzb 29 63) ?_;refine zzu 6 100 (zzb 29 127) ?_;refine zzu 7 101 (zzb 29 255) ?_;refine zzu 8 102 (zzb 29 511) ?_;refine zzu 9 103 (zzb 29 1023) ?_;refine zzu 10 104 (zzb 29 2047) ?_;refine zzu 11 105 (zzb 29 4095) ?_;refine zzu 12 106 (zzb 29 8191) ?_;refine zzu 13 107 (zzb 29 16383) ?_;refine zzu 14 108 (zzb 29 32767) ?_;refine zzu 15 109 (zzb 29 65535) ?_;refine zzu 16 110 (zzb 29 131071) ?_;refine zzu 17 111 (zzb 29 262143) ?_;refine zzu 18 112 (zzb 29 524287) ?_;refine zzu 19 113 (zzb 29 1048575) ?_;refine zzu 20 114 (zzb 29 2097151) ?_;refine zzu 21 115 (zzb 29 4194303) ?_;refine zzu 22 116 (zzb 29 8388607) ?_;refine zzu 23 117 (zzb 29 16777215) ?_;refine zzu 24 118 (zzb 29 33554431) ?_;refine zzu 25 119 (zzb 29 67108863) ?_
           refine zzu 26 120 (zzb 29 134217727) ?_;refine zzp 27 121 (zzb 29 268435455) ?_;refine zzp 28 17 (zzb 29 536870911) ?_
           refine done_ (by kernel_rfl) ?_
           go_wp2
           go_roundw
           case measure=>simp [intOf];omega
           case rel=>exact ⟨k + 1,true,rfl,by go_num,⟨by omega⟩,⟨⟨fun _=>HSUC.out.2 (Or.inl (HC.out.1 (by first|rfl|trivial))),fun _=>rfl⟩⟩,⟨Kd.S_below HS16.out HBd.out⟩,⟨HG4.out.below HBd.out,blk_below HA16.out HBd.out⟩⟩
          | false =>
           have hkn:=near_spec a d (free_in HFL.out HAF.out) (free_in HFL.out HDF.out)
           obtain ⟨kcl,hkcl⟩:=Ev.rounds (spec_clear HO.out a d zp (by have:=HZI.out;omega) (by have:=HZI.out;have:=HE24.out;omega))
           by_cases hN : Near a d
           ·have HN:=Aside0.mk hN
            rw [chk_pos hN] at hkn
            have HKN:=Aside0.mk hkn
            clear hkn hN
            by_cases hH : HitAt os a d zp
            ·have HH:=Aside0.mk hH
             rw [chk_pos hH] at hkcl
             have HKCL:=Aside0.mk hkcl
             clear hkcl hH
             go_wp2
             refine start_ (n:=29) (S:=fun w'=>Below wb.heap.size wb w') (ds:=[]) (bits 29 0) (by kernel_rfl) rfl rfl (below_drew1 (Below.refl _ _)) (fun hHeld=>?_)
             have HBd:=Aside0.mk hHeld
             generalize wb.drew = wd at HBd hHeld ⊢
             refine zzp 0 94 (zzb 29 1) ?_;refine zzp 1 95 (zzb 29 3) ?_
             refine zzt 2 96 (zzb 29 7) hHeld ?_ (hy:=by intro w' s0;have fa0 : w'.cell? ⟨g16,0,none⟩ = some (.int .i64 a.f0):=(blk_cell (blk_below HA16.out s0) 0).trans rfl;have fa1 : w'.cell? ⟨g16,1,none⟩ = some (.int .i64 a.f1):=(blk_cell (blk_below HA16.out s0) 1).trans rfl;go_simp;with_reducible rfl);refine zzp 3 97 (zzb 29 15) ?_;refine zzp 4 98 (zzb 29 31) ?_;refine zzp 5 99 (zzb 29 63) ?_;refine zzp 6 100 (zzb 29 127) ?_
             refine zzt 7 101 (zzb 29 255) hHeld ?_ (hy:=by intro w' s0;have hx_:=pw_cell_below s0 hgx;go_simp;with_reducible rfl);refine zzp 8 102 (zzb 29 511) ?_;refine zzp 9 103 (zzb 29 1023) ?_
             refine zzt 10 104 (zzb 29 2047) hHeld ?_ (hy:=by intro w' s0;have hx0_:=pw_cell_below s0 hk0;have hx1_:=pw_cell_below s0 hk1;go_simp;with_reducible rfl)
             refine zzo 11 105 (zzb 29 4095) (fun K hK=>?_)
             refine zzf Try.func83 #[.agg #[.int .i64 a.f0,.int .i64 a.f1],.agg #[.int .i64 d.f0,.int .i64 d.f1]] ?_
             with_reducible refine (spec_l16Near.calls a.f0 a.f1 d.f0 d.f1 true _ HKN.out).mono ?_
             rintro e w105 ⟨rfl,hB⟩
             refine ⟨_,rfl,?_⟩
             have HBn : Aside0 (Below wb.heap.size wb w105):=Aside0.mk (below_step HBd.out hB)
             clear hB HBd hHeld
             have HBd:=HBn
             clear HBn
             refine hK.out _ _ HBd.out (fun hHeld=>?_)
             clear hK K
             refine zzn 105 ?_;refine zzp 12 106 (zzb 29 8191) ?_;refine zzp 13 107 (zzb 29 16383) ?_
             refine zzt 14 108 (zzb 29 32767) hHeld ?_ (hy:=by intro w' s0;have fa0 : w'.cell? ⟨g16,0,none⟩ = some (.int .i64 a.f0):=(blk_cell (blk_below HA16.out s0) 0).trans rfl;have fa1 : w'.cell? ⟨g16,1,none⟩ = some (.int .i64 a.f1):=(blk_cell (blk_below HA16.out s0) 1).trans rfl;go_simp;with_reducible rfl);refine zzp 15 109 (zzb 29 65535) ?_;refine zzp 16 110 (zzb 29 131071) ?_;refine zzp 17 111 (zzb 29 262143) ?_;refine zzp 18 112 (zzb 29 524287) ?_
             refine zzt 19 113 (zzb 29 1048575) hHeld ?_ (hy:=by intro w' s0;have hx_:=pw_cell_below s0 hgx;go_simp;with_reducible rfl);refine zzp 20 114 (zzb 29 2097151) ?_;refine zzp 21 115 (zzb 29 4194303) ?_
             refine zzt 22 116 (zzb 29 8388607) hHeld ?_ (hy:=by intro w' s0;have hx0_:=pw_cell_below s0 hk0;have hx1_:=pw_cell_below s0 hk1;go_simp;with_reducible rfl);refine zzp 23 117 (zzb 29 16777215) ?_;refine zzp 24 118 (zzb 29 33554431) ?_
             refine zzo 25 119 (zzb 29 67108863) (fun K hK=>?_)
             refine goes_ Try.func91 (by kernel_rfl) rfl #[.slice A1 os.length c1,.agg #[.int .i64 a.f0,.int .i64 a.f1],.agg #[.int .i64 d.f0,.int .i64 d.f1],.int .i64 zp] (by rfl) rfl rfl (by (try simp only [List.map_toArray,List.map_cons,List.map_nil]);first|rfl|(simp only [hwz1];rfl)) ?_
             with_reducible refine (spec_l16Clear.calls kcl A1 c1 os a.f0 a.f1 d.f0 d.f1 zp false _ (Kd.C_below HR1.out (below_step HBW.out HBd.out)) HC1.out HKCL.out).mono ?_
             rintro e w119 ⟨rfl,hB⟩
             refine ⟨_,rfl,?_⟩
             have HBn : Aside0 (Below wb.heap.size wb w119):=Aside0.mk (below_step HBd.out hB)
             clear hB HBd hHeld
             have HBd:=HBn
             clear HBn
             refine hK.out _ _ HBd.out (fun hHeld=>?_)
             clear hK K
             refine zzn 119 ?_;refine zzp 26 120 (zzb 29 134217727) ?_;refine zzp 27 121 (zzb 29 268435455) ?_;refine zzp 28 17 (zzb 29 536870911) ?_
             refine done_ (by kernel_rfl) ?_
             go_wp2
             go_roundw
             case measure=>simp [intOf];omega
             case rel=>exact ⟨k + 1,false,rfl,by go_num,⟨by omega⟩,⟨⟨fun h=>(by cases h),fun h=>(by rcases HSUC.out.1 h with h|h;exact HC.out.2 h;exact absurd HH.out h.2)⟩⟩,⟨Kd.S_below HS16.out HBd.out⟩,⟨HG4.out.below HBd.out,blk_below HA16.out HBd.out⟩⟩
            ·have HH:=Aside0.mk hH
             rw [chk_neg hH] at hkcl
             have HKCL:=Aside0.mk hkcl
             clear hkcl hH
             go_wp2
             refine start_ (n:=29) (S:=fun w'=>Below wb.heap.size wb w') (ds:=[]) (bits 29 0) (by kernel_rfl) rfl rfl (below_drew1 (Below.refl _ _)) (fun hHeld=>?_)
             have HBd:=Aside0.mk hHeld
             generalize wb.drew = wd at HBd hHeld ⊢
             refine zzp 0 94 (zzb 29 1) ?_;refine zzp 1 95 (zzb 29 3) ?_
             refine zzt 2 96 (zzb 29 7) hHeld ?_ (hy:=by intro w' s0;have fa0 : w'.cell? ⟨g16,0,none⟩ = some (.int .i64 a.f0):=(blk_cell (blk_below HA16.out s0) 0).trans rfl;have fa1 : w'.cell? ⟨g16,1,none⟩ = some (.int .i64 a.f1):=(blk_cell (blk_below HA16.out s0) 1).trans rfl;go_simp;with_reducible rfl);refine zzp 3 97 (zzb 29 15) ?_;refine zzp 4 98 (zzb 29 31) ?_;refine zzp 5 99 (zzb 29 63) ?_;refine zzp 6 100 (zzb 29 127) ?_
             refine zzt 7 101 (zzb 29 255) hHeld ?_ (hy:=by intro w' s0;have hx_:=pw_cell_below s0 hgx;go_simp;with_reducible rfl);refine zzp 8 102 (zzb 29 511) ?_;refine zzp 9 103 (zzb 29 1023) ?_
             refine zzt 10 104 (zzb 29 2047) hHeld ?_ (hy:=by intro w' s0;have hx0_:=pw_cell_below s0 hk0;have hx1_:=pw_cell_below s0 hk1;go_simp;with_reducible rfl)
             refine zzo 11 105 (zzb 29 4095) (fun K hK=>?_)
             refine zzf Try.func83 #[.agg #[.int .i64 a.f0,.int .i64 a.f1],.agg #[.int .i64 d.f0,.int .i64 d.f1]] ?_
             with_reducible refine (spec_l16Near.calls a.f0 a.f1 d.f0 d.f1 true _ HKN.out).mono ?_
             rintro e w105 ⟨rfl,hB⟩
             refine ⟨_,rfl,?_⟩
             have HBn : Aside0 (Below wb.heap.size wb w105):=Aside0.mk (below_step HBd.out hB)
             clear hB HBd hHeld
             have HBd:=HBn
             clear HBn
             refine hK.out _ _ HBd.out (fun hHeld=>?_)
             clear hK K
             refine zzn 105 ?_;refine zzp 12 106 (zzb 29 8191) ?_;refine zzp 13 107 (zzb 29 16383) ?_
             refine zzt 14 108 (zzb 29 32767) hHeld ?_ (hy:=by intro w' s0;have fa0 : w'.cell? ⟨g16,0,none⟩ = some (.int .i64 a.f0):=(blk_cell (blk_below HA16.out s0) 0).trans rfl;have fa1 : w'.cell? ⟨g16,1,none⟩ = some (.int .i64 a.f1):=(blk_cell (blk_below HA16.out s0) 1).trans rfl;go_simp;with_reducible rfl);refine zzp 15 109 (zzb 29 65535) ?_;refine zzp 16 110 (zzb 29 131071) ?_;refine zzp 17 111 (zzb 29 262143) ?_;refine zzp 18 112 (zzb 29 524287) ?_
             refine zzt 19 113 (zzb 29 1048575) hHeld ?_ (hy:=by intro w' s0;have hx_:=pw_cell_below s0 hgx;go_simp;with_reducible rfl);refine zzp 20 114 (zzb 29 2097151) ?_;refine zzp 21 115 (zzb 29 4194303) ?_
             refine zzt 22 116 (zzb 29 8388607) hHeld ?_ (hy:=by intro w' s0;have hx0_:=pw_cell_below s0 hk0;have hx1_:=pw_cell_below s0 hk1;go_simp;with_reducible rfl);refine zzp 23 117 (zzb 29 16777215) ?_;refine zzp 24 118 (zzb 29 33554431) ?_
             refine zzo 25 119 (zzb 29 67108863) (fun K hK=>?_)
             refine goes_ Try.func91 (by kernel_rfl) rfl #[.slice A1 os.length c1,.agg #[.int .i64 a.f0,.int .i64 a.f1],.agg #[.int .i64 d.f0,.int .i64 d.f1],.int .i64 zp] (by rfl) rfl rfl (by (try simp only [List.map_toArray,List.map_cons,List.map_nil]);first|rfl|(simp only [hwz1];rfl)) ?_
             with_reducible refine (spec_l16Clear.calls kcl A1 c1 os a.f0 a.f1 d.f0 d.f1 zp true _ (Kd.C_below HR1.out (below_step HBW.out HBd.out)) HC1.out HKCL.out).mono ?_
             rintro e w119 ⟨rfl,hB⟩
             refine ⟨_,rfl,?_⟩
             have HBn : Aside0 (Below wb.heap.size wb w119):=Aside0.mk (below_step HBd.out hB)
             clear hB HBd hHeld
             have HBd:=HBn
             clear HBn
             refine hK.out _ _ HBd.out (fun hHeld=>?_)
             clear hK K
             refine zzn 119 ?_;refine zzp 26 120 (zzb 29 134217727) ?_;refine zzp 27 121 (zzb 29 268435455) ?_;refine zzp 28 17 (zzb 29 536870911) ?_
             refine done_ (by kernel_rfl) ?_
             go_wp2
             go_roundw
             case measure=>simp [intOf];omega
             case rel=>exact ⟨k + 1,true,rfl,by go_num,⟨by omega⟩,⟨⟨fun _=>HSUC.out.2 (Or.inr ⟨HN.out,HH.out⟩),fun _=>rfl⟩⟩,⟨Kd.S_below HS16.out HBd.out⟩,⟨HG4.out.below HBd.out,blk_below HA16.out HBd.out⟩⟩
           ·have HN:=Aside0.mk hN
            rw [chk_neg hN] at hkn
            have HKN:=Aside0.mk hkn
            clear hkn hN hkcl
            go_wp2
            refine start_ (n:=29) (S:=fun w'=>Below wb.heap.size wb w') (ds:=[]) (bits 29 0) (by kernel_rfl) rfl rfl (below_drew1 (Below.refl _ _)) (fun hHeld=>?_)
            have HBd:=Aside0.mk hHeld
            generalize wb.drew = wd at HBd hHeld ⊢
            refine zzp 0 94 (zzb 29 1) ?_;refine zzp 1 95 (zzb 29 3) ?_
            refine zzt 2 96 (zzb 29 7) hHeld ?_ (hy:=by intro w' s0;have fa0 : w'.cell? ⟨g16,0,none⟩ = some (.int .i64 a.f0):=(blk_cell (blk_below HA16.out s0) 0).trans rfl;have fa1 : w'.cell? ⟨g16,1,none⟩ = some (.int .i64 a.f1):=(blk_cell (blk_below HA16.out s0) 1).trans rfl;go_simp;with_reducible rfl);refine zzp 3 97 (zzb 29 15) ?_;refine zzp 4 98 (zzb 29 31) ?_;refine zzp 5 99 (zzb 29 63) ?_;refine zzp 6 100 (zzb 29 127) ?_
            refine zzt 7 101 (zzb 29 255) hHeld ?_ (hy:=by intro w' s0;have hx_:=pw_cell_below s0 hgx;go_simp;with_reducible rfl);refine zzp 8 102 (zzb 29 511) ?_;refine zzp 9 103 (zzb 29 1023) ?_
            refine zzt 10 104 (zzb 29 2047) hHeld ?_ (hy:=by intro w' s0;have hx0_:=pw_cell_below s0 hk0;have hx1_:=pw_cell_below s0 hk1;go_simp;with_reducible rfl)
            refine zzo 11 105 (zzb 29 4095) (fun K hK=>?_)
            refine zzf Try.func83 #[.agg #[.int .i64 a.f0,.int .i64 a.f1],.agg #[.int .i64 d.f0,.int .i64 d.f1]] ?_
            with_reducible refine (spec_l16Near.calls a.f0 a.f1 d.f0 d.f1 false _ HKN.out).mono ?_
            rintro e w105 ⟨rfl,hB⟩
            refine ⟨_,rfl,?_⟩
            have HBn : Aside0 (Below wb.heap.size wb w105):=Aside0.mk (below_step HBd.out hB)
            clear hB HBd hHeld
            have HBd:=HBn
            clear HBn
            refine hK.out _ _ HBd.out (fun hHeld=>?_)
            clear hK K
            refine zzn 105 ?_;refine zzp 12 106 (zzb 29 8191) ?_;refine zzu 13 107 (zzb 29 16383) ?_;refine zzu 14 108 (zzb 29 32767) ?_;refine zzu 15 109 (zzb 29 65535) ?_;refine zzu 16 110 (zzb 29 131071) ?_;refine zzu 17 111 (zzb 29 262143) ?_;refine zzu 18 112 (zzb 29 524287) ?_;refine zzu 19 113 (zzb 29 1048575) ?_;refine zzu 20 114 (zzb 29 2097151) ?_;refine zzu 21 115 (zzb 29 4194303) ?_;refine zzu 22 116 (zzb 29 8388607) ?_;refine zzu 23 117 (zzb 29 16777215) ?_;refine zzu 24 118 (zzb 29 33554431) ?_;refine zzu 25 119 (zzb 29 67108863) ?_;refine zzp 26 120 (zzb 29 134217727) ?_;refine zzp 27 121 (zzb 29 268435455) ?_;refine zzp 28 17 (zzb 29 536870911) ?_
            refine done_ (by kernel_rfl) ?_
            go_wp2
            go_roundw
            case measure=>simp [intOf];omega
            case rel=>exact ⟨k + 1,false,rfl,by go_num,⟨by omega⟩,⟨⟨fun h=>(by cases h),fun h=>(by rcases HSUC.out.1 h with h|h;exact HC.out.2 h;exact absurd h.1 HN.out)⟩⟩,⟨Kd.S_below HS16.out HBd.out⟩,⟨HG4.out.below HBd.out,blk_below HA16.out HBd.out⟩⟩
         ·have ck : decide ((k : Int) < (grow.length : Int)) = false:=decide_eq_false (by omega)
          have ckn : decide (k < grow.length) = false:=decide_eq_false hk
          obtain rfl : k = grow.length:=by have:=HK.out;omega
          have hfull:=HC.out
          rw [List.take_length] at hfull
          cases can with
          | true =>
           have HNX : Aside0 (row ++ [a] = fil P (lt.take (i + 1))):=⟨by
            rw [HTK.out,fil_app,← HROW.out,fil_one_pos]
            rw [← HP.out]
            exact hfull.1 rfl⟩
           obtain ⟨oki,cl,hcl,hM,hcc,hfz,hoki,hH⟩:=Kd.S_elem (Kd.S_mono (Kd.S_bound HS16.out) (fun b hb=>(⟨hb.1,by have:=hb.2.2.1;omega⟩ : (True ∧ b ≠ g16) ∧ ¬ wb.heap.size ≤ b))) ([] : List S48) z HZ0.out HZ1.out
           obtain ⟨vr,rfl,hRow⟩:=hM
           have hgd : ((gds a0_0 a0_1 l0_2 os c2 c3 e0 j).set z.toNat row).getD z.toNat [] = row:=by
            rw [List.getD_eq_getElem?_getD,List.getElem?_set,if_pos rfl,if_pos (by rw [gds_len];have:=HZT.out;omega)]
            rfl
           rw [hgd] at hRow
           obtain ⟨Ar2,cr2,er⟩:=Kd.R_slice hRow
           subst er
           have hgr : wb.cell? ⟨g13,z.toNat,none⟩ = some (.slice Ar2 row.length cr2):=by
            have:=hcc 0 _ rfl
            rw [show (Kd.slice 48 k48).sz = 1 from rfl,Nat.mul_one,Nat.add_zero] at this
            exact this
           obtain ⟨cells,hgb⟩:=Kd.S_typed HG4.out.s g13 (by simp [Value.ownBlock])
           have HGB:=Aside0.mk hgb
           have HRow:=Aside0.mk hRow
           have HH:=Aside0.mk hH
           have HOk:=Aside0.mk hoki
           have HNA : Aside0 (¬ oki g16):=⟨fun h=>(hoki g16 h).1.1.2 rfl⟩
           have HGE:=Aside0.mk HG4.out.ge
           have fa0:=zz0 HA16
           have fa1:=zz1 HA16
           clear hcl hcc hfz hoki hH hRow hgd hgb hfull hgC hgl2
           go_wp2
           refine start_ (n:=11) (S:=fun w'=>w'.cell? ⟨g13,z.toNat,none⟩ = some (.slice Ar2 row.length cr2) ∧ w'.cell? ⟨g16,0,none⟩ = some (.int .i64 a.f0) ∧ w'.cell? ⟨g16,1,none⟩ = some (.int .i64 a.f1)) (ds:=[10]) (bits 11 0) (by kernel_rfl) rfl rfl ⟨hgr,fa0,fa1⟩ (fun hHeld=>?_)
           have HHd:=Aside0.mk (Kd.H_drew HH.out)
           have HRd:=Aside0.mk (Kd.R_drew HRow.out)
           have HBd : Aside0 (Below wo.heap.size wo wb.drew):=Aside0.mk (below_step HG4.out.bl (below_drew1 (Below.refl _ _)))
           have HGd : Aside0 (wb.drew.heap[g13]? = some (.cells cells 27 (0,0))):=HGB
           have HSz : Aside0 (wb.drew.heap.size = wb.heap.size):=Aside0.mk rfl
           have HA16d : Aside0 (wb.drew.heap[g16]? = some (.cells #[.int .i64 a.f0,.int .i64 a.f1] 48 (0,0))):=Aside0.mk (blk_below HA16.out (below_drew1 (Below.refl _ _)))
           generalize wb.drew = wd at HHd HRd HBd HGd HSz HA16d hHeld ⊢
           refine zzp 0 123 (zzb 11 1) ?_;refine zzp 1 124 (zzb 11 3) ?_;refine zzp 2 125 (zzb 11 7) ?_;refine zzp 3 126 (zzb 11 15) ?_;refine zzp 4 127 (zzb 11 31) ?_
           refine zzt 5 128 (zzb 11 63) hHeld ?_ (hy:=by intro w' s0;obtain ⟨s1,s2,s3⟩:=s0;go_simp;with_reducible rfl)
           refine zzt 6 129 (zzb 11 127) hHeld ?_ (hy:=by intro w' s0;obtain ⟨s1,s2,s3⟩:=s0;go_simp;with_reducible rfl)
           refine zzo 7 130 (zzb 11 255) (fun K hK=>?_)
           refine value_ (w1:=wd.alloc (.cells #[.int .i64 a.f0,.int .i64 a.f1] 48)) (v := .slice (some ⟨wd.heap.size,0,none⟩) 1 1) (by rfl) rfl ?hr7 ?_
           case hr7=>first|(go_simp;done)|(go_simp;rfl)
           have hal:=below_alloc (Below.refl wd.heap.size wd) (.cells #[.int .i64 a.f0,.int .i64 a.f1] 48)
           refine hK.out _ _ ⟨pw_cell_below hal hHeld.1,pw_cell_below hal hHeld.2.1,pw_cell_below hal hHeld.2.2⟩ (fun hHeld2=>?_)
           clear hK K
           refine zzn 130 ?_
           refine zzo 8 131 (zzb 11 511) (fun K hK=>?_)
           refine Kd.R_append_step k48 (w0:=wo) (W:=wd) wo.heap.size (by rfl) (.tmp 128) (.tmp 130) 27 48 _ 16 rfl Try.underlying27 info48 rfl (by decide) (by decide) (.slice Ar2 row.length cr2) row a [.int .i64 a.f0,.int .i64 a.f1] (fun b=>oki b ∨ wb.heap.size ≤ b) (fun _=>False) rfl rfl (k48_mkM _ _ _ a) (fun _ h=>h.elim) (fun b h => .inr (by rw [← HSz.out];exact h)) (Kd.R_mono HRd.out (fun b h => .inl h)) HBd.out HBd.out.size (by have:=HLn.out;omega) ?_
           intro v5 w5 hR5 hB5 hg5 hat5
           obtain ⟨A5,c5,e5⟩:=Kd.R_slice hR5
           rw [List.length_append,List.length_singleton] at e5
           subst e5
           have HR5:=Aside0.mk hR5
           have HB5:=Aside0.mk hB5
           have hgne : some g13 ≠ (Value.slice Ar2 row.length cr2).ownBlock:=fun e=>by have:=(HOk.out g13 (HRow.out.1 g13 e.symm)).2;exact this rfl
           have h5g : w5.heap[g13]? = some (.cells cells 27 (0,0)):=(hg5.block g13 (blk_lt HGd.out) hgne).trans HGd.out
           have HH5:=Aside0.mk (Kd.H_grown HHd.out hg5 (fun b hb=>HRow.out.1 b hb))
           have hz1 : w5.cell? ⟨g13,z.toNat,none⟩ = some (.slice Ar2 row.length cr2):=(World.cell?_of_block (w:=wd) (w':=w5) (a:=⟨g13,z.toNat,none⟩) (h5g.trans HGd.out.symm)).trans hHeld.1
           have hz2 : w5.frozen? ⟨g13,z.toNat,none⟩ = false:=blk_frozen h5g _
           have hane : some g16 ≠ (Value.slice Ar2 row.length cr2).ownBlock:=fun e=>HNA.out (HRow.out.1 g16 e.symm)
           have h5a : w5.heap[g16]? = some (.cells #[.int .i64 a.f0,.int .i64 a.f1] 48 (0,0)):=(hg5.block g16 (blk_lt HA16d.out) hane).trans HA16d.out
           clear hR5 hB5 hg5 hat5 h5g
           refine hK.out _ _ ⟨hz1,(blk_cell h5a 0).trans rfl,(blk_cell h5a 1).trans rfl⟩ (fun hHeld3=>?_)
           clear hK K
           refine zzn 131 ?_;refine zzp 9 132 (zzb 11 1023) ?_
           refine last_ (i:=10) (N:=none) (bits 11 2047) rfl rfl (by kernel_rfl) (by decide) (fun K hK=>?_)
           refine skip_ (w1:=w5.setCell ⟨g13,z.toNat,none⟩ (.slice A5 (row.length + 1) c5)) (by rfl) rfl ?hr13 ?_
           case hr13=>first|(go_simp;done)|(go_simp;rfl)
           refine hK.out _ _ ?_
           clear hK K
           have hS6:=(Kd.S_seg (okg:=fun b=>wb.heap.size ≤ b) (ok:=fun k=>True ∧ k ≠ g16) HH5.out HZ0.out HZ1.out (seg:=[.slice A5 (row.length + 1) c5]) (j:=0) (Nat.le_refl 1) (x':=row ++ [a]) ⟨_,rfl,HR5.out⟩ (fun b h=>h) (fun b h=>⟨⟨trivial,fun e=>by have:=blk_lt HA16.out;have h : wb.heap.size ≤ b:=h;omega⟩,fun e=>by have:=blk_lt HGB.out;have h : wb.heap.size ≤ b:=h;omega⟩)).1
           rw [show z.toNat * (Kd.slice 48 k48).sz + 0 = z.toNat from by rw [show (Kd.slice 48 k48).sz = 1 from rfl];omega,List.set_set] at hS6
           have HG6 : Aside0 (GD wo (w5.setCell ⟨g13,z.toNat,none⟩ (.slice A5 (row.length + 1) c5)) (.slice (some ⟨g13,0,none⟩) (e0 + 1) c13) ((gds a0_0 a0_1 l0_2 os c2 c3 e0 j).set z.toNat (row ++ [a]))):=Aside0.mk ⟨Kd.S_mono hS6 (fun _ _=>trivial),Below.setCell HB5.out HGE.out _⟩
           clear hS6
           refine done_ (by kernel_rfl) ?_
           go_wp2
           go_roundw
           case measure=>simp [intOf];omega
           case rel=>exact ⟨i + 1,row ++ [a],by go_num,⟨by omega⟩,HNX,HG6⟩
          | false =>
           have HNX : Aside0 (row = fil P (lt.take (i + 1))):=⟨by
            rw [HTK.out,fil_app,← HROW.out,fil_one_neg,List.append_nil]
            rw [← HP.out]
            intro h
            have:=hfull.2 h
            cases this⟩
           clear hfull hgC hgl2
           go_wp2
           go_roundw
           case measure=>simp [intOf];omega
           case rel=>exact ⟨i + 1,row,by go_num,⟨by omega⟩,HNX,HG4⟩
       ·have ci : decide ((i : Int) < (lt.length : Int)) = false:=decide_eq_false (by omega)
        have cin : decide (i < lt.length) = false:=decide_eq_false hi
        have HG5 : Aside0 (GD wo wr (.slice (some ⟨g13,0,none⟩) (e0 + 1) c13) (gds a0_0 a0_1 l0_2 os c2 c3 e0 (j + 1))):=⟨by
         have e : row = gdl a0_0 a0_1 l0_2 os c2 c3 e0 (j + 1):=by
          rw [HROW.out,show i = lt.length from by have:=HI.out;omega,List.take_length,gdl,HGROW.out,← HLT.out,← HZI.out,← HP.out]
         have:=HG.out
         rw [e,HZT.out,gds_step HJE.out] at this
         exact this⟩
        clear HG hi
        go_wp2
        go_roundw
        case measure=>simp [intOf];have:=HZN.out;have:=HZ0.out;omega
        case rel=>exact ⟨j + 1,zn,(by rw [hwzn]),⟨by have:=HZN.out;have:=HZJ.out;have:=HJE.out;omega⟩,HG5⟩
     ·have cz : decide (0 ≤ z) = false:=decide_eq_false hz
      have hje : e0 = j:=by have:=HZJ.out;omega
      subst hje
      obtain ⟨gall,hga⟩ : ∃ l,gds a0_0 a0_1 l0_2 os c2 c3 e0 e0 = l:=⟨_,rfl⟩
      have HGA : Aside0 (∀ i : Nat,i ≤ e0 → rd_L6 gall (i : Int) = gdl a0_0 a0_1 l0_2 os c2 c3 e0 (e0 - i)):=⟨fun i hi=>by rw [← hga];exact gds_rd hi (by omega)⟩
      have HGN : Aside0 (gall.length = e0 + 1):=⟨by rw [← hga];exact gds_len⟩
      rw [hga] at HG
      have HBo:=Aside0.mk (below_step HB1.out HS.out)
      have HP3 : Aside0 (LV w wr #[.int .i64 a0_0,.int .i64 a0_1,.slice A0_2 l0_2.length c0_2] g4 (.slice (some ⟨g13,0,none⟩) (e0 + 1) c13) gall (.slice none 0 0) [] (.slice none 0 0) []):=Aside0.mk ⟨blk_below HF4.out (below_step HS.out HG.out.bl),Kd.R_mono (Kd.R_lower (Kd.S_R HG.out.s) HBo.out.size) (fun k _=>by simp [Value.ownBlock]),Kd.R_nil _ _ _ _ _,Kd.R_nil _ _ _ _ _,below_step HBo.out HG.out.bl⟩
      have f60 : wr.cell? ⟨g6,0,none⟩ = some (.int .i64 c2.f0):=(blk_cell (blk_below HF6.out (below_step HS.out HG.out.bl)) 0).trans rfl;have f61 : wr.cell? ⟨g6,1,none⟩ = some (.int .i64 c2.f1):=(blk_cell (blk_below HF6.out (below_step HS.out HG.out.bl)) 1).trans rfl
      clear hga HG hz
      go_wp2_with (first|((with_reducible refine gate_dst (N:=134) rfl ?_);refine Kd.R_lit k48 _ 48 ?hg (N:=134) ?hd (xs:=([c2] : List S48)) (inner:=[.int .i64 c2.f0,.int .i64 c2.f1]) (ok:=fun _=>True) (okp:=fun _=>True) ?hr ?hp (fun _ hk=>hk) trivial (Below.refl _ _) (Nat.le_refl _) (by simp) ?_;(case hd=>rfl);(case hg=>rfl);(case hr=>first|(go_simp;done)|(go_simp;rfl));(case hp=>exact (Reps.c2 (show Kd.M k48 _ _ _ c2 [.int .i64 c2.f0,.int .i64 c2.f1] from k48_mkM _ _ _ c2) (Reps.none _ _)));intro v134 w134 hR hB hg_ hnew_;clear hg_ hnew_;have HP4:=Aside0.mk (HP3.out.fresh hB hR);clear HP3 f60 f61;clear hR hB))
      go_loopw [19,20] (fun v19 v20 w' => ∃ (s : Nat) (z : Int) (p : List S48),v20 = .int .i64 z ∧ Aside0 (z = (s : Int) + 1 ∧ s ≤ e0) ∧ Aside0 (trace (nxS a0_0 a0_1 l0_2 os c2 c3 e0) c2 s = some p) ∧ Aside0 (LV w w' #[.int .i64 a0_0,.int .i64 a0_1,.slice A0_2 l0_2.length c0_2] g4 (.slice (some ⟨g13,0,none⟩) (e0 + 1) c13) gall (.slice none 0 0) [] v19 p)) (fun _ v20 _=>30 - (intOf v20).toNat)
      case atStart=>exact ⟨0,1,[c2],rfl,⟨by omega⟩,⟨rfl⟩,HP4⟩
      case round =>
       clear HP4 HZJ
       obtain ⟨s,z,p,rfl,HSE,HTR,HP⟩:=hrel
       have hpl : p.length = s + 1:=trace_len HTR.out
       have HPL:=Aside0.mk hpl
       clear hpl
       obtain ⟨A19,c19,e19⟩:=Kd.R_slice HP.out.nxt
       subst e19
       by_cases hz : z ≤ (e0 : Int)
       ·have cz : decide (z ≤ (e0 : Int)) = true:=decide_eq_true hz
        have hse : s < e0:=by have:=HSE.out;omega
        have HSL:=Aside0.mk hse
        obtain ⟨p2,hp2,hp2b,hp2c⟩:=trace_both HA.out HT.out HE0.out.1 (s + 1) hse
        obtain ⟨cc,hcc,hpp⟩:=trace_next HTR.out hp2b
        have HP2 : Aside0 (trace (nxS a0_0 a0_1 l0_2 os c2 c3 e0) c2 (s + 1) = some (p ++ [cc])):=⟨by rw [← hpp];exact hp2b⟩
        have hzs : z - 1 = (s : Int):=by have:=HSE.out;omega
        have hwzs : wrap64 (z - 1) = (s : Int):=by rw [wrap64_id (by omega) (by have:=HSE.out;have:=HE24.out;omega)];exact hzs
        have hs30 : s < 30:=by have:=HE24.out;omega
        obtain ⟨ad19,ea,hd0,hd1⟩:=at_T48 (Kd.R_reads' HP.out.nxt).2.2 (s : Int) (by omega) (by have:=HPL.out;omega)
        cases ea
        rw [Int.toNat_natCast] at hd0 hd1
        obtain ⟨d,hd⟩ : ∃ d,rd_T48 p (s : Int) = d:=⟨_,rfl⟩
        rw [hd] at hd0 hd1 hcc
        have p1 : (0 ≤ (s : Int)) = True:=eq_true (by omega)
        have p2_ : ((s : Int) < (p.length : Int)) = True:=eq_true (by have:=HPL.out;omega)
        obtain ⟨grow,hgr⟩ : ∃ l,gdl a0_0 a0_1 l0_2 os c2 c3 e0 (e0 - (s + 1)) = l:=⟨_,rfl⟩
        obtain ⟨P,hP⟩ : ∃ P : S48 → Prop,(fun c=>Near d c ∧ ¬ HitAt os d c ((s + 1 : Nat) : Int)) = P:=⟨_,rfl⟩
        have HFN : Aside0 (fnd P grow = some cc):=⟨by rw [← hP,← hgr];exact hcc⟩
        have HZS : Aside0 (z = ((s + 1 : Nat) : Int)):=⟨by have:=HSE.out;omega⟩
        have HGR : Aside0 (rd_L6 gall z = grow):=⟨by rw [← hgr,HZS.out];exact HGA.out (s + 1) (by omega)⟩
        have HGF : Aside0 (∀ c ∈ grow,Free a0_0 a0_1 l0_2 c):=⟨by rw [← hgr];exact gdl_free HA.out HT.out _⟩
        have hgl : grow.length ≤ 36:=by rw [← hgr];exact gdl_len HFL.out _
        have HPP:=Aside0.mk hP
        have HDF : Aside0 (Free a0_0 a0_1 l0_2 d):=⟨by
         have h1:=(hp2c.on s (by omega)).1
         rw [hpp,rd_app_lt (by have:=HPL.out;omega),hd] at h1
         exact lev_free HA.out s d h1⟩
        have p3 : (0 ≤ z) = True:=eq_true (by have:=HSE.out;omega)
        have p4 : (z < ((e0 + 1 : Nat) : Int)) = True:=eq_true (by omega)
        have p5 : (z < (e0 : Int) + 1) = True:=eq_true (by omega)
        obtain ⟨zq,hzq⟩ : ∃ zq : Int,z + 1 = zq:=⟨_,rfl⟩
        have HZQ : Aside0 (zq = z + 1):=⟨hzq.symm⟩
        have hwzq : wrap64 (z + 1) = zq:=by rw [wrap64_id (by omega) (by have:=HE24.out;omega)];exact hzq
        have hzq30 : zq < 30:=by have:=HE24.out;omega
        clear hp2 hp2b hp2c hcc hpp hd hgr hP hzq hzs
        go_wp2_with (first|((with_reducible refine gate_dst (N:=21) rfl ?_);refine zzc 21 #[.int .i64 0,.int .i64 0] 48 ?_;intro g21 hgg21 w21 hbox hb;have HF21:=Aside0.mk hbox;have HB21:=Aside0.mk hb;have HG21:=Aside0.mk hgg21;clear hbox hb hgg21;have hz0:=zz0 HF21;have hz1_:=zz1 HF21;have hzf0:=blk_frozen HF21.out 0;have hzf1:=blk_frozen HF21.out 1))
        have HP5 : Aside0 (LV w ((w21.setCell ⟨g21,0,none⟩ (.int .i64 d.f0)).setCell ⟨g21,1,none⟩ (.int .i64 d.f1)) #[.int .i64 a0_0,.int .i64 a0_1,.slice A0_2 l0_2.length c0_2] g4 (.slice (some ⟨g13,0,none⟩) (e0 + 1) c13) gall (.slice none 0 0) [] (.slice (some ad19) p.length c19) p ∧ ((w21.setCell ⟨g21,0,none⟩ (.int .i64 d.f0)).setCell ⟨g21,1,none⟩ (.int .i64 d.f1)).heap[g21]? = some (.cells #[.int .i64 d.f0,.int .i64 d.f1] 48 (0,0))):=Aside0.mk ⟨HP.out.below (below_set (j:=1) (v := .int .i64 d.f1) (below_set (j:=0) (v := .int .i64 d.f0) HB21.out (Nat.le_of_eq HG21.out.symm)) (Nat.le_of_eq HG21.out.symm)),(blk_put (cs := #[.int .i64 d.f0,.int .i64 0]) (blk_put (cs := #[.int .i64 0,.int .i64 0]) HF21.out 0 _ rfl) 1 _ rfl)⟩
        clear HP hz0 hz1_ hzf0 hzf1 HF21 HB21 HG21 hd0 hd1 hwzs
        generalize ((w21.setCell ⟨g21,0,none⟩ (.int .i64 d.f0)).setCell ⟨g21,1,none⟩ (.int .i64 d.f1)) = w21_ at HP5 ⊢
        go_loopw [19,22] (fun v19 v22 w' => ∃ (k : Nat) (p' : List S48),v22 = .int .i64 (k : Int) ∧ Aside0 (k ≤ grow.length) ∧ Aside0 (LV w w' #[.int .i64 a0_0,.int .i64 a0_1,.slice A0_2 l0_2.length c0_2] g4 (.slice (some ⟨g13,0,none⟩) (e0 + 1) c13) gall (.slice none 0 0) [] v19 p') ∧ Aside0 ((p' = p ∧ fnd P (grow.drop k) = some cc ∧ w'.heap[g21]? = some (.cells #[.int .i64 d.f0,.int .i64 d.f1] 48 (0,0))) ∨ p' = p ++ [cc])) (fun _ v22 _=>grow.length - (intOf v22).toNat)
        case atStart=>exact ⟨0,p,rfl,⟨by omega⟩,⟨HP5.out.1⟩,⟨.inl ⟨rfl,HFN.out,HP5.out.2⟩⟩⟩
        case round =>
         clear HP5
         obtain ⟨k,p',rfl,HK,HP6,HCS⟩:=hrel
         obtain ⟨A20,c20,e20⟩:=Kd.R_slice HP6.out.nxt
         subst e20
         obtain ⟨ad13,Ag,cg,ea,hgx,hgl2,hgC⟩:=at_L6 (Kd.R_reads' HP6.out.out).2.2 z (by have:=HSE.out;omega) (by rw [HGN.out];omega)
         cases ea
         rw [HGR.out,add_plain] at hgx
         rw [HGR.out] at hgl2 hgC
         by_cases hk : k < grow.length
         ·have ck : decide ((k : Int) < (grow.length : Int)) = true:=decide_eq_true (by omega)
          have ckn : decide (k < grow.length) = true:=decide_eq_true hk
          have hk2 : k < 100:=by omega
          have q3 : (0 ≤ (k : Int)) = True:=eq_true (by omega)
          have q4 : ((k : Int) < (grow.length : Int)) = True:=eq_true (by omega)
          obtain ⟨adg,eag,hk0,hk1⟩:=at_T48 hgC (k : Int) (by omega) (by omega)
          cases eag
          rw [Int.toNat_natCast] at hk0 hk1
          obtain ⟨c,hc⟩ : ∃ c,rd_T48 grow (k : Int) = c:=⟨_,rfl⟩
          rw [hc] at hk0 hk1
          have HCF : Aside0 (Free a0_0 a0_1 l0_2 c):=⟨by rw [← hc];exact HGF.out _ (mem48 grow _ (by omega) (by omega))⟩
          have HDR : Aside0 (grow.drop k = c :: grow.drop (k + 1)):=⟨by
           have:=drop48 grow (k : Int) (by omega) (by omega)
           rw [hc,Int.toNat_natCast] at this
           exact this⟩
          clear hc hgC hgl2
          go_upto_region 35 with (first|((with_reducible refine gate_dst (N:=23) rfl ?_);refine zzc 23 #[.int .i64 0,.int .i64 0] 48 ?_;intro g23 hgg23 w23 hbox hb;have HF23:=Aside0.mk hbox;have HB23:=Aside0.mk hb;have HG23:=Aside0.mk hgg23;clear hbox hb hgg23;have hz0:=zz0 HF23;have hz1_:=zz1 HF23;have hzf0:=blk_frozen HF23.out 0;have hzf1:=blk_frozen HF23.out 1))
          rcases HCS.out with hcs|hcs
          ·have hpe:=hcs.1
           subst hpe
           have HCS1:=Aside0.mk hcs.2.1
           have HP7 : Aside0 (LV w ((w23.setCell ⟨g23,0,none⟩ (.int .i64 c.f0)).setCell ⟨g23,1,none⟩ (.int .i64 c.f1)) #[.int .i64 a0_0,.int .i64 a0_1,.slice A0_2 l0_2.length c0_2] g4 (.slice (some ⟨g13,0,none⟩) (e0 + 1) c13) gall (.slice none 0 0) [] (.slice A20 p'.length c20) p' ∧ ((w23.setCell ⟨g23,0,none⟩ (.int .i64 c.f0)).setCell ⟨g23,1,none⟩ (.int .i64 c.f1)).heap[g21]? = some (.cells #[.int .i64 d.f0,.int .i64 d.f1] 48 (0,0)) ∧ ((w23.setCell ⟨g23,0,none⟩ (.int .i64 c.f0)).setCell ⟨g23,1,none⟩ (.int .i64 c.f1)).heap[g23]? = some (.cells #[.int .i64 c.f0,.int .i64 c.f1] 48 (0,0))):=Aside0.mk ⟨HP6.out.below (below_set (j:=1) (v := .int .i64 c.f1) (below_set (j:=0) (v := .int .i64 c.f0) HB23.out (Nat.le_of_eq HG23.out.symm)) (Nat.le_of_eq HG23.out.symm)),blk_below hcs.2.2 (below_set (j:=1) (v := .int .i64 c.f1) (below_set (j:=0) (v := .int .i64 c.f0) HB23.out (Nat.le_of_eq HG23.out.symm)) (Nat.le_of_eq HG23.out.symm)),(blk_put (cs := #[.int .i64 c.f0,.int .i64 0]) (blk_put (cs := #[.int .i64 0,.int .i64 0]) HF23.out 0 _ rfl) 1 _ rfl)⟩
           clear HP6 hz0 hz1_ hzf0 hzf1 HF23 HB23 HG23 hgx hk0 hk1 hcs HCS
           generalize ((w23.setCell ⟨g23,0,none⟩ (.int .i64 c.f0)).setCell ⟨g23,1,none⟩ (.int .i64 c.f1)) = w23_ at HP7 ⊢
           have hbe : ((p'.length : Int) == z) = true:=beq_iff_eq.mpr (by rw [HZS.out,HPL.out])
           have f210 : w23_.cell? ⟨g21,0,none⟩ = some (.int .i64 d.f0):=(blk_cell HP7.out.2.1 0).trans rfl;have f211 : w23_.cell? ⟨g21,1,none⟩ = some (.int .i64 d.f1):=(blk_cell HP7.out.2.1 1).trans rfl;have f230 : w23_.cell? ⟨g23,0,none⟩ = some (.int .i64 c.f0):=(blk_cell HP7.out.2.2 0).trans rfl;have f231 : w23_.cell? ⟨g23,1,none⟩ = some (.int .i64 c.f1):=(blk_cell HP7.out.2.2 1).trans rfl
           have hkn:=near_spec d c (free_in HFL.out HDF.out) (free_in HFL.out HCF.out)
           obtain ⟨kcl,hkcl⟩:=Ev.rounds (spec_clear HO.out d c z (by have:=HSE.out;omega) (by have:=HE24.out;omega))
           have hfn:=HCS1.out
           rw [HDR.out] at hfn
           by_cases hN : Near d c
           ·rw [chk_pos hN] at hkn
            have HKN:=Aside0.mk hkn
            by_cases hH : HitAt os d c z
            ·rw [chk_pos hH] at hkcl
             have HKCL:=Aside0.mk hkcl
             rw [fnd_neg (by rw [← HPP.out,← HZS.out];exact fun m=>m.2 hH)] at hfn
             have HFN2:=Aside0.mk hfn
             clear hkn hN hkcl hH hfn
             go_wp2_with (first|(go_at_call 83;(with_reducible refine (spec_l16Near.calls d.f0 d.f1 c.f0 c.f1 true _ HKN.out).mono ?_);rintro e w168 ⟨rfl,hB⟩;have HP8 : Aside0 (LV w w168 #[.int .i64 a0_0,.int .i64 a0_1,.slice A0_2 l0_2.length c0_2] g4 (.slice (some ⟨g13,0,none⟩) (e0 + 1) c13) gall (.slice none 0 0) [] (.slice A20 p'.length c20) p' ∧ w168.heap[g21]? = some (.cells #[.int .i64 d.f0,.int .i64 d.f1] 48 (0,0)) ∧ w168.heap[g23]? = some (.cells #[.int .i64 c.f0,.int .i64 c.f1] 48 (0,0))):=Aside0.mk ⟨HP7.out.1.below hB,blk_below HP7.out.2.1 hB,blk_below HP7.out.2.2 hB⟩;clear HP7 hB f210 f211 f230 f231;have f210 : w168.cell? ⟨g21,0,none⟩ = some (.int .i64 d.f0):=(blk_cell HP8.out.2.1 0).trans rfl;have f211 : w168.cell? ⟨g21,1,none⟩ = some (.int .i64 d.f1):=(blk_cell HP8.out.2.1 1).trans rfl;have f230 : w168.cell? ⟨g23,0,none⟩ = some (.int .i64 c.f0):=(blk_cell HP8.out.2.2 0).trans rfl;have f231 : w168.cell? ⟨g23,1,none⟩ = some (.int .i64 c.f1):=(blk_cell HP8.out.2.2 1).trans rfl)|(go_at_call 91;(with_reducible refine (spec_l16Clear.calls kcl A1 c1 os d.f0 d.f1 c.f0 c.f1 z false _ (Kd.C_below HR1.out HP8.out.1.bl) HC1.out HKCL.out).mono ?_);rintro e w175 ⟨rfl,hB⟩;have HP9 : Aside0 (LV w w175 #[.int .i64 a0_0,.int .i64 a0_1,.slice A0_2 l0_2.length c0_2] g4 (.slice (some ⟨g13,0,none⟩) (e0 + 1) c13) gall (.slice none 0 0) [] (.slice A20 p'.length c20) p' ∧ w175.heap[g21]? = some (.cells #[.int .i64 d.f0,.int .i64 d.f1] 48 (0,0)) ∧ w175.heap[g23]? = some (.cells #[.int .i64 c.f0,.int .i64 c.f1] 48 (0,0))):=Aside0.mk ⟨HP8.out.1.below hB,blk_below HP8.out.2.1 hB,blk_below HP8.out.2.2 hB⟩;clear HP8 hB f210 f211 f230 f231;have f210 : w175.cell? ⟨g21,0,none⟩ = some (.int .i64 d.f0):=(blk_cell HP9.out.2.1 0).trans rfl;have f211 : w175.cell? ⟨g21,1,none⟩ = some (.int .i64 d.f1):=(blk_cell HP9.out.2.1 1).trans rfl;have f230 : w175.cell? ⟨g23,0,none⟩ = some (.int .i64 c.f0):=(blk_cell HP9.out.2.2 0).trans rfl;have f231 : w175.cell? ⟨g23,1,none⟩ = some (.int .i64 c.f1):=(blk_cell HP9.out.2.2 1).trans rfl))
             go_roundw
             case measure=>simp [intOf];omega
             case rel=>exact ⟨k + 1,p',by go_num,⟨by omega⟩,⟨HP9.out.1⟩,⟨.inl ⟨rfl,HFN2.out,HP9.out.2.1⟩⟩⟩
            ·rw [chk_neg hH] at hkcl
             have HKCL:=Aside0.mk hkcl
             rw [fnd_pos (by rw [← HPP.out,← HZS.out];exact ⟨hN,hH⟩)] at hfn
             obtain rfl:=Option.some.inj hfn
             clear hkn hN hkcl hH hfn
             go_wp2_with (first|(go_at_call 83;(with_reducible refine (spec_l16Near.calls d.f0 d.f1 c.f0 c.f1 true _ HKN.out).mono ?_);rintro e w168 ⟨rfl,hB⟩;have HP8 : Aside0 (LV w w168 #[.int .i64 a0_0,.int .i64 a0_1,.slice A0_2 l0_2.length c0_2] g4 (.slice (some ⟨g13,0,none⟩) (e0 + 1) c13) gall (.slice none 0 0) [] (.slice A20 p'.length c20) p' ∧ w168.heap[g21]? = some (.cells #[.int .i64 d.f0,.int .i64 d.f1] 48 (0,0)) ∧ w168.heap[g23]? = some (.cells #[.int .i64 c.f0,.int .i64 c.f1] 48 (0,0))):=Aside0.mk ⟨HP7.out.1.below hB,blk_below HP7.out.2.1 hB,blk_below HP7.out.2.2 hB⟩;clear HP7 hB f210 f211 f230 f231;have f210 : w168.cell? ⟨g21,0,none⟩ = some (.int .i64 d.f0):=(blk_cell HP8.out.2.1 0).trans rfl;have f211 : w168.cell? ⟨g21,1,none⟩ = some (.int .i64 d.f1):=(blk_cell HP8.out.2.1 1).trans rfl;have f230 : w168.cell? ⟨g23,0,none⟩ = some (.int .i64 c.f0):=(blk_cell HP8.out.2.2 0).trans rfl;have f231 : w168.cell? ⟨g23,1,none⟩ = some (.int .i64 c.f1):=(blk_cell HP8.out.2.2 1).trans rfl)|(go_at_call 91;(with_reducible refine (spec_l16Clear.calls kcl A1 c1 os d.f0 d.f1 c.f0 c.f1 z true _ (Kd.C_below HR1.out HP8.out.1.bl) HC1.out HKCL.out).mono ?_);rintro e w175 ⟨rfl,hB⟩;have HP9 : Aside0 (LV w w175 #[.int .i64 a0_0,.int .i64 a0_1,.slice A0_2 l0_2.length c0_2] g4 (.slice (some ⟨g13,0,none⟩) (e0 + 1) c13) gall (.slice none 0 0) [] (.slice A20 p'.length c20) p' ∧ w175.heap[g21]? = some (.cells #[.int .i64 d.f0,.int .i64 d.f1] 48 (0,0)) ∧ w175.heap[g23]? = some (.cells #[.int .i64 c.f0,.int .i64 c.f1] 48 (0,0))):=Aside0.mk ⟨HP8.out.1.below hB,blk_below HP8.out.2.1 hB,blk_below HP8.out.2.2 hB⟩;clear HP8 hB f210 f211 f230 f231;have f210 : w175.cell? ⟨g21,0,none⟩ = some (.int .i64 d.f0):=(blk_cell HP9.out.2.1 0).trans rfl;have f211 : w175.cell? ⟨g21,1,none⟩ = some (.int .i64 d.f1):=(blk_cell HP9.out.2.1 1).trans rfl;have f230 : w175.cell? ⟨g23,0,none⟩ = some (.int .i64 c.f0):=(blk_cell HP9.out.2.2 0).trans rfl;have f231 : w175.cell? ⟨g23,1,none⟩ = some (.int .i64 c.f1):=(blk_cell HP9.out.2.2 1).trans rfl)|(at_builtin;refine Kd.R_append k48 (W:=w175) w.heap.size rfl (.tmp 177) (.tmp 179) 27 48 _ 16 rfl Try.underlying27 info48 rfl (by decide) (by decide) (.slice A20 p'.length c20) p' c [.int .i64 c.f0,.int .i64 c.f1] (fun _=>True) (fun _=>False) rfl rfl (k48_mkM _ _ _ c) (fun _ hk=>hk.elim) (fun _ _=>trivial) HP9.out.1.nxt HP9.out.1.bl HP9.out.1.bl.size (by have:=HPL.out;have:=HSE.out;have:=HE24.out;omega) ?_;intro v180 w180 hQ hB hg hat;have HP10:=Aside0.mk (HP9.out.1.app hQ hB hg hat);clear hQ hB hg hat HP9))
             go_roundw
             case measure=>simp [intOf];omega
             case rel=>exact ⟨k + 1,p' ++ [c],by go_num,⟨by omega⟩,HP10,⟨.inr rfl⟩⟩
           ·rw [chk_neg hN] at hkn
            have HKN:=Aside0.mk hkn
            rw [fnd_neg (by rw [← HPP.out];exact fun m=>hN m.1)] at hfn
            have HFN2:=Aside0.mk hfn
            clear hkn hN hkcl hfn
            go_wp2_with (first|(go_at_call 83;(with_reducible refine (spec_l16Near.calls d.f0 d.f1 c.f0 c.f1 false _ HKN.out).mono ?_);rintro e w168 ⟨rfl,hB⟩;have HP8 : Aside0 (LV w w168 #[.int .i64 a0_0,.int .i64 a0_1,.slice A0_2 l0_2.length c0_2] g4 (.slice (some ⟨g13,0,none⟩) (e0 + 1) c13) gall (.slice none 0 0) [] (.slice A20 p'.length c20) p' ∧ w168.heap[g21]? = some (.cells #[.int .i64 d.f0,.int .i64 d.f1] 48 (0,0)) ∧ w168.heap[g23]? = some (.cells #[.int .i64 c.f0,.int .i64 c.f1] 48 (0,0))):=Aside0.mk ⟨HP7.out.1.below hB,blk_below HP7.out.2.1 hB,blk_below HP7.out.2.2 hB⟩;clear HP7 hB f210 f211 f230 f231;have f210 : w168.cell? ⟨g21,0,none⟩ = some (.int .i64 d.f0):=(blk_cell HP8.out.2.1 0).trans rfl;have f211 : w168.cell? ⟨g21,1,none⟩ = some (.int .i64 d.f1):=(blk_cell HP8.out.2.1 1).trans rfl;have f230 : w168.cell? ⟨g23,0,none⟩ = some (.int .i64 c.f0):=(blk_cell HP8.out.2.2 0).trans rfl;have f231 : w168.cell? ⟨g23,1,none⟩ = some (.int .i64 c.f1):=(blk_cell HP8.out.2.2 1).trans rfl))
            go_roundw
            case measure=>simp [intOf];omega
            case rel=>exact ⟨k + 1,p',by go_num,⟨by omega⟩,⟨HP8.out.1⟩,⟨.inl ⟨rfl,HFN2.out,HP8.out.2.1⟩⟩⟩
          ·have hbe : ((p'.length : Int) == z) = false:=beq_eq_false_iff_ne.mpr (by rw [HZS.out,hcs,List.length_append,List.length_singleton];have:=HPL.out;omega)
           have HP7 : Aside0 (LV w ((w23.setCell ⟨g23,0,none⟩ (.int .i64 c.f0)).setCell ⟨g23,1,none⟩ (.int .i64 c.f1)) #[.int .i64 a0_0,.int .i64 a0_1,.slice A0_2 l0_2.length c0_2] g4 (.slice (some ⟨g13,0,none⟩) (e0 + 1) c13) gall (.slice none 0 0) [] (.slice A20 p'.length c20) p'):=Aside0.mk (HP6.out.below (below_set (j:=1) (v := .int .i64 c.f1) (below_set (j:=0) (v := .int .i64 c.f0) HB23.out (Nat.le_of_eq HG23.out.symm)) (Nat.le_of_eq HG23.out.symm)))
           have HCS2:=Aside0.mk hcs
           clear HP6 hz0 hz1_ hzf0 hzf1 HF23 HB23 HG23 hgx hk0 hk1 hcs HCS
           generalize ((w23.setCell ⟨g23,0,none⟩ (.int .i64 c.f0)).setCell ⟨g23,1,none⟩ (.int .i64 c.f1)) = w23_ at HP7 ⊢
           go_wp2
           go_roundw
           case measure=>simp [intOf];omega
           case rel=>exact ⟨k + 1,p',by go_num,⟨by omega⟩,HP7,⟨.inr HCS2.out⟩⟩
         ·have ck : decide ((k : Int) < (grow.length : Int)) = false:=decide_eq_false (by omega)
          have ckn : decide (k < grow.length) = false:=decide_eq_false hk
          have hpe : p' = p ++ [cc]:=by
           rcases HCS.out with h|h
           ·have:=h.2.1
            rw [List.drop_eq_nil_of_le (by omega),fnd_nil] at this
            cases this
           ·exact h
          subst hpe
          clear hgC hgl2 HCS
          go_wp2
          go_roundw
          case measure=>simp [intOf];have:=HZQ.out;have:=HSE.out;have:=HE24.out;omega
          case rel=>exact ⟨s + 1,zq,p ++ [cc],(by rw [hwzq]),⟨by have:=HZQ.out;have:=HSE.out;omega⟩,HP2,HP6⟩
       ·have cz : decide (z ≤ (e0 : Int)) = false:=decide_eq_false hz
        have hse : s = e0:=by have:=HSE.out;omega
        have hpq : p = q:=by
         have h1:=HTR.out
         rw [hse,HQ.out] at h1
         exact (Option.some.inj h1).symm
        subst hpq
        clear hz hse
        go_wp2
        go_ret2
        exact ⟨_,rfl,HP.out.nxt,HP.out.bl⟩
end Go.Proofs.Ytbpccdbkaiigcaa.G

/- The contract of spec.l16Safe: the first shortest path beside others. -/
namespace Go.Proofs.Ytbpccdbkaiigcaa.G
open Go.RowKit Go.Proofs.YtbpccdbkaiigcaaW.PrintWords Go.Proofs.YtbpccdbkaiigcaaW.PrintLast
set_option linter.unusedVariables false
set_option linter.unusedSimpArgs false
/-- What l16Safe is asked for: a valid floor, free cells, paths that fit. -/
def SafeOk (w h : Int) (bl : List S48) (os : List (List S48)) (a b : S48) : Prop:=FloorOk w h bl ∧ (bl.length : Int) ≤ 1099511627776 ∧ Free w h bl a ∧ Free w h bl b ∧ Len os
noncomputable def spec_l16Safe.f (a0_0 : Int) (a0_1 : Int) (l0_2 : List S48) (l1 : List (List S48)) (a2_0 : Int) (a2_1 : Int) (a3_0 : Int) (a3_1 : Int) : Option (List S48 × Bool):=chk (SafeOk a0_0 a0_1 l0_2 l1 ⟨a2_0,a2_1⟩ ⟨a3_0,a3_1⟩) (some (safeR a0_0 a0_1 l0_2 l1 ⟨a2_0,a2_1⟩ ⟨a3_0,a3_1⟩)) none
theorem spec_l16Safe.calls (a0_0 : Int) (a0_1 : Int) (A0_2 : Option Addr) (c0_2 : Nat) (l0_2 : List S48) (A1 : Option Addr) (c1 : Nat) (l1 : List (List S48)) (a2_0 : Int) (a2_1 : Int) (a3_0 : Int) (a3_1 : Int) (r1 : List S48) (r2 : Bool) (w : World) (hr0_2 : Kd.C k48 w A0_2 l0_2.length l0_2) (hc0_2 : l0_2.length ≤ c0_2) (hr1 : Kd.C (Kd.slice 48 k48) w A1 l1.length l1) (hc1 : l1.length ≤ c1) (h : spec_l16Safe.f a0_0 a0_1 l0_2 l1 a2_0 a2_1 a3_0 a3_1 = some (r1,r2)) :
  Calls Try.prog 69 #[.agg #[.int .i64 a0_0,.int .i64 a0_1,.slice A0_2 l0_2.length c0_2],.slice A1 l1.length c1,.agg #[.int .i64 a2_0,.int .i64 a2_1],.agg #[.int .i64 a3_0,.int .i64 a3_1]] w fun e w' => ∃ v1 : Value,e = .returned (.tuple #[v1,.bool r2]) ∧ Kd.R k48 48 w' w.heap.size (fun _=>True) v1 r1 ∧ Below w.heap.size w w':=by
 unfold spec_l16Safe.f at h
 obtain ⟨a,ha⟩ : ∃ a : S48,a = ⟨a2_0,a2_1⟩:=⟨_,rfl⟩
 obtain ⟨b,hb⟩ : ∃ b : S48,b = ⟨a3_0,a3_1⟩:=⟨_,rfl⟩
 rw [← ha,← hb] at h
 obtain rfl : a.f0 = a2_0:=by rw [ha]
 obtain rfl : a.f1 = a2_1:=by rw [ha]
 obtain rfl : b.f0 = a3_0:=by rw [hb]
 obtain rfl : b.f1 = a3_1:=by rw [hb]
 clear ha hb
 by_cases hok : SafeOk a0_0 a0_1 l0_2 l1 a b
 ·rw [chk_pos hok] at h
  have h:=Option.some.inj h
  obtain ⟨hf,hbl,hfa,hfb,ho⟩:=hok
  obtain ⟨L,hL⟩ : ∃ L,levels a0_0 a0_1 l0_2 l1 a = L:=⟨_,rfl⟩
  by_cases hh : HitAt l1 a a 0
  ·rw [safeR_none (by unfold safeP;rw [chk_pos hh])] at h
   cases h
   exact spec_l16Safe.fails a0_0 a0_1 A0_2 c0_2 l0_2 A1 c1 l1 a b w hr0_2 hc0_2 hr1 hc1 hf hbl hfa hfb ho L hL (Or.inl (by rw [← hL];unfold levels;rw [chk_pos hh]))
  ·have hLe : L = (List.range 25).map (lev a0_0 a0_1 l0_2 l1 a):=by rw [← hL];unfold levels;rw [chk_neg hh]
   cases hn : firstN (EndS a0_0 a0_1 l0_2 l1 a b) 25 0 with
   | none =>
    rw [safeR_none (by unfold safeP;rw [chk_neg hh,hn];rfl)] at h
    cases h
    exact spec_l16Safe.fails a0_0 a0_1 A0_2 c0_2 l0_2 A1 c1 l1 a b w hr0_2 hc0_2 hr1 hc1 hf hbl hfa hfb ho L hL (Or.inr ⟨hLe,fun s hs=>firstN_none hn s (by omega) (by omega)⟩)
   | some e =>
    have he:=firstN_some hn
    have hl:=firstN_least hn
    obtain ⟨p,h1,h2,_⟩:=trace_both hfa hfb he.1.1 e (Nat.le_refl _)
    rw [safeR_some (p:=p) (by unfold safeP;rw [chk_neg hh,hn];exact h2)] at h
    cases h
    exact spec_l16Safe.good a0_0 a0_1 A0_2 c0_2 l0_2 A1 c1 l1 a b w hr0_2 hc0_2 hr1 hc1 hf hbl hfa hfb ho L hL hLe e (by omega) he.1 (fun s hs=>hl s (by omega) hs) _ h2
 ·rw [chk_neg hok] at h
  cases h
end Go.Proofs.Ytbpccdbkaiigcaa.G

/- Sets of cells that the program keeps as maps to bools; their ranges. -/
namespace Go.Proofs.Ytbpccdbkaiigcaa.G
open Go.RowKit Go.Maps Go.Proofs.YtbpccdbkaiigcaaW.PrintWords Go.Proofs.YtbpccdbkaiigcaaW.PrintLast
set_option linter.unusedVariables false
set_option linter.unusedSimpArgs false
theorem plainElem_bool_inv {P : Program} {e : TypeId} (he : P.underlying e = some .bool) {v : Value} {z : DataW Unit × List MemPlace} (h : plainElem P e v = some z) : ∃ x,v = .bool x ∧ z = (.lit (.bool x),[]):=by
 unfold plainElem at h
 rw [he] at h
 cases v <;> simp at h
 exact ⟨_,rfl,h.symm⟩
/-- Block b is a map that holds just the cells of S (with true). -/
def MapB (w : World) (b n : Nat) (S : S48 → Prop) : Prop := ∃ D : DataW Unit,w.ownsMap Try.prog 48 (plainElem Try.prog 4) b n D ∧ (∀ k,Maps.has D k = true → ∃ c,W64 c ∧ k = kl c) ∧ ∀ c,W64 c → (Maps.has D (kl c) = true ↔ S c) ∧ D.atKey (kl c) (.lit (.bool false)) = .lit (.bool (chk (S c) true false))
theorem MapB.lt {w : World} {b n : Nat} {S : S48 → Prop} (h : MapB w b n S) : b < w.heap.size:=by obtain ⟨D,h,_⟩:=h;exact h.lt
theorem MapB.step {w w1 : World} {b n : Nat} {S : S48 → Prop} (h : MapB w b n S) (hm : w1.heap[b]? = w.heap[b]?) : MapB w1 b n S:=by
 obtain ⟨D,⟨es,clock,hb,r⟩,h⟩:=h
 exact ⟨D,⟨es,clock,hm.trans hb,r⟩,h⟩
theorem MapB.below {w w1 : World} {b n : Nat} {S : S48 → Prop} (h : MapB w b n S) (hb : Below w.heap.size w w1) : MapB w1 b n S:=h.step (hb.block b h.lt)
theorem MapB.grown {w w1 : World} {b n : Nat} {S : S48 → Prop} {row : Option Nat} (h : MapB w b n S) (hg : w.grownBy w1 row) (hne : some b ≠ row) : MapB w1 b n S:=h.step (hg.block b h.lt hne)
theorem MapB.cells {w : World} {b n : Nat} {S : S48 → Prop} (h : MapB w b n S) {g : Nat} {cs : Array Value} {t : TypeId} {p : Nat × Nat} (hg : w.heap[g]? = some (.cells cs t p)) : b ≠ g:=by
 rintro rfl
 obtain ⟨D,⟨es,clock,hb,r⟩,h⟩:=h
 rw [hg] at hb
 cases hb
theorem MapB.congr {w : World} {b n : Nat} {S T : S48 → Prop} (h : MapB w b n S) (e : ∀ c,S c ↔ T c) : MapB w b n T:=by
 rw [show T = S from funext fun c=>propext (e c).symm]
 exact h
theorem mapB_made (w : World) : MapB (w.alloc (.map #[] 0)) w.heap.size 0 (fun _=>False):=⟨_,World.ownsMap_made w Try.prog 48 _,fun k hk=>by simp [Maps.has] at hk,fun c _=>⟨⟨fun h=>by simp [Maps.has] at h,fun h=>h.elim⟩,by rw [chk_neg (fun h=>h)];rfl⟩⟩
set_option maxRecDepth 20000 in
theorem mapB_update {w : World} {b n : Nat} {S : S48 → Prop} (h : MapB w b n S) (hn : n < maxLen) {c : S48} (hc : W64 c) : ∃ w',(Instr.mapUpdate 108 (.map (some b)) (cv c) (.bool true)).run Try.prog w = .ok () w' ∧ MapB w' b (n + 1) (fun d=>d = c ∨ S d) ∧ w.grownBy w' (some b):=by
 obtain ⟨D,ho,hk,h⟩:=h
 obtain ⟨w',hrun,h1,h2⟩:=ho.update keyed48 Try.underlying108 hn (key48 hc) (plainElem_bool Try.underlying4 true)
 have hD:=ho.isMap
 refine ⟨w',hrun,⟨_,h1,?_,?_⟩,h2⟩
 ·intro k hh
  by_cases e : k = kl c
  ·exact ⟨c,hc,e⟩
  ·rw [Maps.has_put_other e] at hh
   exact hk k hh
 ·intro d hd
  by_cases e : d = c
  ·subst e
   rw [chk_pos (show d = d ∨ S d from Or.inl rfl)]
   exact ⟨⟨fun _=>Or.inl rfl,fun _=>Maps.has_put_same hD (isKey_kl hc) _⟩,Maps.atKey_put_same hD (isKey_kl hc) _ _⟩
  ·have hne : kl d ≠ kl c:=fun h'=>e (kl_inj hd hc h')
   rw [Maps.has_put_other hne,Maps.atKey_put_other hne,(h d hd).2,(h d hd).1]
   refine ⟨⟨Or.inr,fun m=>m.elim (fun m=>absurd m e) id⟩,?_⟩
   by_cases hs : S d
   ·rw [chk_pos hs,chk_pos (Or.inr hs)]
   ·rw [chk_neg hs,chk_neg (fun m=>m.elim e hs)]
set_option maxRecDepth 20000 in
theorem mapB_run {w : World} {b n : Nat} {S : S48 → Prop} (h : MapB w b n S) {c : S48} (hc : W64 c) : (Instr.lookup 108 (.map (some b)) (cv c) false).run Try.prog w = .ok (.bool (chk (S c) true false)) w:=by
 obtain ⟨D,ho,_,h⟩:=h
 obtain ⟨v,ps,hrun,hv⟩:=ho.lookup keyed48 Try.underlying108 (zero4 w) (plainElem_bool Try.underlying4 false) (key48 hc)
 obtain ⟨x,rfl,hx⟩:=plainElem_bool_inv Try.underlying4 hv
 have hx:=congrArg Prod.fst hx
 rw [(h c hc).2] at hx
 injection hx with hx
 injection hx with hx
 rw [hx]
 exact hrun
/-- The range over block b by the iterator r is under way; Left: what is still to come. -/
def RangeB (w : World) (b r n : Nat) (Left : S48 → Prop) (cnt : Nat) : Prop := ∃ (D : DataW Unit) (left : Lit → Bool),w.ranges Try.prog 48 (plainElem Try.prog 4) b r n D left cnt ∧ (∀ k,left k = true → ∃ c,W64 c ∧ k = kl c) ∧ ∀ c,W64 c → (left (kl c) = true ↔ Left c)
theorem RangeB.kept {w w1 : World} {b r n cnt : Nat} {Left : S48 → Prop} {row : Option Nat} (h : RangeB w b r n Left cnt) (hg : w.grownBy w1 row) (hb : some b ≠ row) (hr : some r ≠ row) : RangeB w1 b r n Left cnt:=by
 obtain ⟨D,left,h1,h2⟩:=h
 exact ⟨D,left,h1.kept hg hb hr,h2⟩
theorem RangeB.below {w w1 : World} {b r n cnt : Nat} {Left : S48 → Prop} (h : RangeB w b r n Left cnt) (hb : Below w.heap.size w w1) : RangeB w1 b r n Left cnt:=h.kept (grown_of_below hb none) (by simp) (by simp)
theorem RangeB.lt {w : World} {b r n cnt : Nat} {Left : S48 → Prop} (h : RangeB w b r n Left cnt) : r < w.heap.size:=by obtain ⟨D,left,h,_⟩:=h;exact h.lt
theorem RangeB.left_eq {w : World} {b r n cnt : Nat} {Left : S48 → Prop} (h : RangeB w b r n Left cnt) : w.rangeLeft b r = cnt:=by obtain ⟨D,left,h,_⟩:=h;exact h.left_eq
theorem RangeB.iter {w : World} {b r n cnt : Nat} {Left : S48 → Prop} (h : RangeB w b r n Left cnt) {g : Nat} {cs : Array Value} {t : TypeId} {p : Nat × Nat} (hg : w.heap[g]? = some (.cells cs t p)) : r ≠ g:=by
 rintro rfl
 obtain ⟨D,left,⟨es,clock,since,seen,c0,_,_,_,_,hr,_⟩,_⟩:=h
 rw [hg] at hr
 cases hr
theorem RangeB.mapNe {w : World} {b r n cnt : Nat} {Left : S48 → Prop} (h : RangeB w b r n Left cnt) {b' n' : Nat} {S : S48 → Prop} (hm : MapB w b' n' S) : r ≠ b':=by
 rintro rfl
 obtain ⟨D,left,⟨es,clock,since,seen,c0,_,_,_,_,hr,_⟩,_⟩:=h
 obtain ⟨D',⟨es',clock',hb,_⟩,_⟩:=hm
 rw [hr] at hb
 cases hb
section
variable {ops : Array Oper} {rest : List Oper} {o : Oper} {a : Act} {Q : Exit → Act → World → Prop} {w : World} {b n : Nat} {S : S48 → Prop} {c : S48}
theorem wpB_insert (hg : o.guard = none) (mo x v : Operand) (hop : o.op = Op.insert 108 mo x v) (hm : a.eval mo = .map (some b)) (hx : a.eval x = cv c) (hv : a.eval v = .bool true) (h : MapB w b n S) (hn : n < maxLen) (hc : W64 c)
  (hK : ∀ w',MapB w' b (n + 1) (fun d=>d = c ∨ S d) → w.grownBy w' (some b) → wpList Try.prog ops Q rest (a.put o.dst undef) w') : wpList Try.prog ops Q (o :: rest) a w:=by
 refine wpList_plain hg fun K' hK'=>?_
 obtain ⟨w',hrun,r1,r2⟩:=mapB_update h hn hc
 unfold Oper.wp
 simp [execOp,hop,hm,hx,hv,hrun,Result.andThen]
 exact hK' _ _ (hK w' r1 r2)
theorem wpB_range (hg : o.guard = none) (m : Operand) (hop : o.op = Op.range 108 m) (hm : a.eval m = .map (some b)) (h : MapB w b n S)
  (hK : ∀ w' cnt,RangeB w' b w.heap.size n S cnt → cnt ≤ n → w.grownBy w' none → w'.heap.size = w.heap.size + 1 → wpList Try.prog ops Q rest (a.put o.dst (.pointer (some ⟨w.heap.size,0,none⟩))) w') : wpList Try.prog ops Q (o :: rest) a w:=by
 obtain ⟨D,ho,hk,h⟩:=h
 refine wpList_range_own w hg m 108 hop 48 4 keyed48 Try.underlying108 _ b n D hm ho fun w' h1 h2 h3=>?_
 exact hK w' _ ⟨D,_,h1,hk,fun c hc=>(h c hc).1⟩ ho.size_le h2 h3
theorem wpB_next (hg : o.guard = none) (it : Operand) (hop : o.op = Op.next it false) {r cnt : Nat} {Left : S48 → Prop} (hit : a.eval it = .pointer (some ⟨r,0,none⟩)) (h : RangeB w b r n Left cnt)
  (hDone : (∀ c,W64 c → ¬ Left c) → wpList Try.prog ops Q rest (a.put o.dst (.tuple #[.bool false])) w)
  (hMore : ∀ (c : S48) (v : Value) (w' : World) (cnt' : Nat),W64 c → Left c → RangeB w' b r n (fun d=>Left d ∧ d ≠ c) cnt' → cnt' < cnt → w.grownBy w' (some r) → w'.heap.size = w.heap.size → (Instr.entry (.pointer (some ⟨r,0,none⟩))).run Try.prog w' = .ok (.tuple #[cv c,v]) w' → wpList Try.prog ops Q rest (a.put o.dst (.tuple #[.bool true,cv c,v])) w') : wpList Try.prog ops Q (o :: rest) a w:=by
 obtain ⟨D,left,hr,hk,hl⟩:=h
 refine wpList_next_ranges w hg it hop 48 keyed48 (plainElem Try.prog 4) (fun v : Value=>v) (fun v : Value=>v) (fun key _ _=>⟨key,rfl⟩) (fun v _ _=>⟨v,rfl⟩) b r n D left cnt hit hr (fun _ hz=>hDone fun c hc hL=>?_) ?_
 ·have:=(hl c hc).2 hL
  rw [hz] at this
  cases this
 ·intro x v k y w' cnt' hkey hlk hv _ hrg hlt hgr hsz hen
  obtain ⟨c,hc,rfl⟩:=hk k hlk
  have hx : x = cv c:=Keyed.inj keyed48 hkey (key48 hc)
  subst hx
  refine hMore c v w' cnt' hc ((hl c hc).1 hlk) ⟨D,_,hrg,fun k' hk'=>hk k' (Bool.and_eq_true_iff.1 hk').1,fun d hd=>?_⟩ hlt hgr hsz hen
  rw [Bool.and_eq_true,hl d hd]
  refine and_congr_right fun _=>?_
  by_cases e : d = c
  ·subst e
   simp [WideAt.sameKey_self (isKey_kl hd)]
  ·simp only [Bool.not_eq_true']
   refine ⟨fun _=>e,fun _=>?_⟩
   apply Bool.eq_false_iff.2
   intro hs
   exact e (kl_inj hd hc (WideAt.sameKey_eq hs))
end
end Go.Proofs.Ytbpccdbkaiigcaa.G

/- The closures of isHit, safePath and SafePath; slices.ContainsFunc over paths with each of them; impl.isHit. -/
namespace Go.Proofs.Ytbpccdbkaiigcaa.G
open Go.RowKit Go.Proofs.YtbpccdbkaiigcaaW.PrintWords Go.Proofs.YtbpccdbkaiigcaaW.PrintLast Go.Proofs.YtbpccdbkaiigcaaW.PrintMore
set_option linter.unusedVariables false
set_option linter.unusedSimpArgs false
attribute [local go_sem high] eqA48
theorem eq_chk (a b : S48) : (a.f0 == b.f0 && (a.f1 == b.f1)) = chk (a = b) true false:=by
 by_cases h : a = b
 ·rw [chk_pos h];exact (eq_bool a b).2 h
 ·rw [chk_neg h];exact Bool.eq_false_iff.2 (fun m=>h ((eq_bool a b).1 m))
/-- The first place at which Q holds, from place i on over d places; -1 if there is none. -/
noncomputable def fstAt (Q : List S48 → Prop) (os : List (List S48)) : Nat → Nat → Int
 | 0,_ => -1
 | d + 1,i=>chk (Q (rd_L6 os (i : Int))) (i : Int) (fstAt Q os d (i + 1))
theorem ret_i6 {k : IntKind} {a b : Int} (h : a = b) : Ending.returned (.int k a) = .returned (.int k b):=by rw [h]
theorem fstAt_pos {Q : List S48 → Prop} {os : List (List S48)} {d i : Nat} (h : Q (rd_L6 os (i : Int))) : fstAt Q os (d + 1) i = (i : Int):=by rw [fstAt,chk_pos h]
theorem fstAt_neg {Q : List S48 → Prop} {os : List (List S48)} {d i : Nat} (h : ¬ Q (rd_L6 os (i : Int))) : fstAt Q os (d + 1) i = fstAt Q os d (i + 1):=by rw [fstAt,chk_neg h]
theorem fstAt_iff (Q : List S48 → Prop) (os : List (List S48)) : ∀ d i,fstAt Q os d i ≥ 0 ↔ ∃ j : Nat,i ≤ j ∧ j < i + d ∧ Q (rd_L6 os (j : Int)):=by
 intro d
 induction d with
 | zero=>intro i;rw [fstAt];exact ⟨fun h=>by omega,fun ⟨j,h1,h2,_⟩=>by omega⟩
 | succ d ih =>
  intro i
  by_cases h : Q (rd_L6 os (i : Int))
  ·rw [fstAt_pos h];exact ⟨fun _=>⟨i,Nat.le_refl _,by omega,h⟩,fun _=>by omega⟩
  ·rw [fstAt_neg h,ih (i + 1)]
   constructor
   ·rintro ⟨j,h1,h2,h3⟩;exact ⟨j,by omega,by omega,h3⟩
   ·rintro ⟨j,h1,h2,h3⟩
    refine ⟨j,?_,by omega,h3⟩
    by_cases e : j = i
    ·rw [e] at h3;exact absurd h3 h
    ·omega
theorem fstAt_chk (Q : List S48 → Prop) (os : List (List S48)) : decide (fstAt Q os os.length 0 ≥ 0) = chk (∃ p ∈ os,Q p) true false:=by
 have h:=fstAt_iff Q os os.length 0
 have e : (∃ p ∈ os,Q p) ↔ ∃ j : Nat,0 ≤ j ∧ j < 0 + os.length ∧ Q (rd_L6 os (j : Int)):=by
  constructor
  ·rintro ⟨p,hp,hq⟩
   obtain ⟨i,i0,i1,rfl⟩:=mem_rd6 hp
   exact ⟨i.toNat,by omega,by omega,by rw [Int.toNat_of_nonneg i0];exact hq⟩
  ·rintro ⟨j,_,h1,hq⟩
   exact ⟨_,rd6_mem (by omega) (by omega),hq⟩
 by_cases hh : ∃ p ∈ os,Q p
 ·rw [chk_pos hh];exact decide_eq_true (h.2 (e.1 hh))
 ·rw [chk_neg hh];exact decide_eq_false (fun m=>hh (e.2 (h.1 m)))
set_option maxHeartbeats 8000000 in
set_option maxRecDepth 100000 in
theorem hit99 (p : List S48) (A : Option Addr) (c : Nat) (w : World) (hp : 1 ≤ (p.length : Int) ∧ (p.length : Int) ≤ 25) (a b : S48) (t : Int) (ht : 0 ≤ t ∧ t ≤ 30) (Bt Bb Ba : Nat) (h1 : w.heap[Bt]? = some (.cells #[.int .i64 t] 3 (0,0))) (h2 : w.heap[Bb]? = some (.cells #[.int .i64 b.f0,.int .i64 b.f1] 48 (0,0))) (h3 : w.heap[Ba]? = some (.cells #[.int .i64 a.f0,.int .i64 a.f1] 48 (0,0))) (hr : Kd.C k48 w A p.length p) (hc : p.length ≤ c) :
  Calls Try.prog 99 #[.slice A p.length c,.pointer (some ⟨Bt,0,none⟩),.pointer (some ⟨Bb,0,none⟩),.pointer (some ⟨Ba,0,none⟩)] w fun e w'=>e = .returned (.bool (chk (Hit1 p a b t) true false)) ∧ Below w.heap.size w w':=by
 have hu48:=Try.underlying48
 obtain ⟨x,hx⟩ : ∃ x,cat p t = x:=⟨_,rfl⟩
 have HX : Aside0 (impl_cellAt.f p t = some (x.f0,x.f1)):=⟨by rw [← hx];exact impl_cat p hp.1 hp.2 t ht.1⟩
 obtain ⟨y,hy⟩ : ∃ y,cat p (t - 1) = y:=⟨_,rfl⟩
 have HHX:=Aside0.mk hx
 have HHY:=Aside0.mk hy
 obtain ⟨t1,ht1⟩ : ∃ t1 : Int,t - 1 = t1:=⟨_,rfl⟩
 have hwt : wrap64 (t - 1) = t1:=by rw [wrap64_id (by omega) (by omega)];exact ht1
 have HY : Aside0 (0 < t → impl_cellAt.f p t1 = some (y.f0,y.f1)):=⟨fun h0=>by rw [← hy,← ht1];exact impl_cat p hp.1 hp.2 (t - 1) (by omega)⟩
 have HP:=Aside0.mk hp
 have HTT:=Aside0.mk ht
 have HR:=Aside0.mk hr
 have HC:=Aside0.mk hc
 have HT:=Aside0.mk h1
 have HB:=Aside0.mk h2
 have HA:=Aside0.mk h3
 have ft0:=zz0 HT
 clear hx hy ht1 hp ht hr hc h1 h2 h3
 go_enter Try.func99,Try.ntmps99
 go_wp2_with (first|(go_at_call 62;(with_reducible refine (impl_cellAt.calls A c p t x.f0 x.f1 _ HR.out HC.out HX.out).mono ?_);rintro e w9 ⟨rfl,hB⟩;have HB9:=Aside0.mk hB;clear hB)|((with_reducible refine gate_dst (N:=6) rfl ?_);refine zzc 6 #[.int .i64 0,.int .i64 0] 48 ?_;intro g6 hgg6 w6 hbox hb;have HF6:=Aside0.mk hbox;have HB6:=Aside0.mk hb;have HG6:=Aside0.mk hgg6;clear hbox hb hgg6;have hz0:=zz0 HF6;have hz1_:=zz1 HF6;have hzf0:=blk_frozen HF6.out 0;have hzf1:=blk_frozen HF6.out 1))
 have HF6' : Aside0 (((w6.setCell ⟨g6,0,none⟩ (.int .i64 x.f0)).setCell ⟨g6,1,none⟩ (.int .i64 x.f1)).heap[g6]? = some (.cells #[.int .i64 x.f0,.int .i64 x.f1] 48 (0,0))):=Aside0.mk (blk_put (cs := #[.int .i64 x.f0,.int .i64 0]) (blk_put (cs := #[.int .i64 0,.int .i64 0]) HF6.out 0 _ rfl) 1 _ rfl)
 have HBW' : Aside0 (Below w.heap.size w ((w6.setCell ⟨g6,0,none⟩ (.int .i64 x.f0)).setCell ⟨g6,1,none⟩ (.int .i64 x.f1))):=Aside0.mk (below_step HB9.out (below_set (j:=1) (v := .int .i64 x.f1) (below_set (j:=0) (v := .int .i64 x.f0) HB6.out (Nat.le_of_eq HG6.out.symm)) (Nat.le_of_eq HG6.out.symm)))
 clear hz0 hz1_ hzf0 hzf1 HF6 HB6 HG6 ft0
 generalize ((w6.setCell ⟨g6,0,none⟩ (.int .i64 x.f0)).setCell ⟨g6,1,none⟩ (.int .i64 x.f1)) = w6 at HF6' HBW' ⊢
 have HF6:=HF6'
 have HBW:=HBW'
 have HT6:=Aside0.mk (blk_below HT.out HBW.out)
 have HB6:=Aside0.mk (blk_below HB.out HBW.out)
 have HA6:=Aside0.mk (blk_below HA.out HBW.out)
 clear HF6' HBW' HT HB HA
 by_cases e1 : x = b
 ·have hE1 : (x.f0 == b.f0 && (x.f1 == b.f1)) = true:=(eq_bool x b).2 e1
  have HF : Aside0 (Hit1 p a b t):=⟨Or.inl (by rw [HHX.out];exact e1)⟩
  clear e1
  refine start_ (n:=21) (S:=fun w'=>Below w6.heap.size w6 w') (ds:=[]) (bits 21 0) (by kernel_rfl) rfl rfl (below_drew1 (Below.refl _ _)) (fun hHeld=>?_)
  have HBd:=Aside0.mk hHeld
  generalize w6.drew = wd at HBd hHeld ⊢
  refine zzt 0 10 (zzb 21 1) hHeld ?_ (hy:=by intro w' s0;have fx0 : w'.cell? ⟨g6,0,none⟩ = some (.int .i64 x.f0):=(blk_cell (blk_below HF6.out s0) 0).trans rfl;have fx1 : w'.cell? ⟨g6,1,none⟩ = some (.int .i64 x.f1):=(blk_cell (blk_below HF6.out s0) 1).trans rfl;go_simp;with_reducible rfl)
  refine zzt 1 11 (zzb 21 3) hHeld ?_ (hy:=by intro w' s0;have fb0 : w'.cell? ⟨Bb,0,none⟩ = some (.int .i64 b.f0):=(blk_cell (blk_below HB6.out s0) 0).trans rfl;have fb1 : w'.cell? ⟨Bb,1,none⟩ = some (.int .i64 b.f1):=(blk_cell (blk_below HB6.out s0) 1).trans rfl;go_simp;with_reducible rfl);refine zzp 2 12 (zzb 21 7) ?_;refine zzp 3 13 (zzb 21 15) ?_;refine zzu 4 14 (zzb 21 31) ?_;refine zzu 5 15 (zzb 21 63) ?_;refine zzu 6 16 (zzb 21 127) ?_;refine zzu 7 17 (zzb 21 255) ?_;refine zzu 8 18 (zzb 21 511) ?_;refine zzu 9 19 (zzb 21 1023) ?_;refine zzu 10 20 (zzb 21 2047) ?_;refine zzu 11 21 (zzb 21 4095) ?_;refine zzu 12 22 (zzb 21 8191) ?_;refine zzu 13 23 (zzb 21 16383) ?_;refine zzu 14 24 (zzb 21 32767) ?_;refine zzu 15 25 (zzb 21 65535) ?_;refine zzu 16 26 (zzb 21 131071) ?_;refine zzu 17 27 (zzb 21 262143) ?_;refine zzu 18 28 (zzb 21 524287) ?_;refine zzp 19 29 (zzb 21 1048575) ?_
  refine zzp 20 5 (zzb 21 2097151) ?_
  refine done_ (by kernel_rfl) ?_
  go_wp2
  go_ret
  exact ⟨by rw [chk_pos HF.out];try rfl,below_step HBW.out HBd.out⟩
 ·have hE1 : (x.f0 == b.f0 && (x.f1 == b.f1)) = false:=Bool.eq_false_iff.2 (fun m=>e1 ((eq_bool x b).1 m))
  by_cases h0 : 0 < t
  ·have ct : decide (0 < t) = true:=decide_eq_true h0
   by_cases e2 : x = a
   ·have hE2 : (x.f0 == a.f0 && (x.f1 == a.f1)) = true:=(eq_bool x a).2 e2
    have HF : Aside0 ((y.f0 == b.f0 && (y.f1 == b.f1)) = chk (Hit1 p a b t) true false):=⟨by
     rw [eq_chk]
     refine chk_congr (p:=y = b) (q:=Hit1 p a b t) ⟨fun m=>Or.inr ⟨h0,by rw [HHX.out];exact e2,by rw [HHY.out];exact m⟩,fun m=>?_⟩ _ _
     rcases m with m|m
     ·rw [HHX.out] at m;exact absurd m e1
     ·rw [HHY.out] at m;exact m.2.2⟩
    have HY:=Aside0.mk (HY.out h0)
    clear e1 e2 h0
    refine start_ (n:=21) (S:=fun w'=>Below w6.heap.size w6 w') (ds:=[]) (bits 21 0) (by kernel_rfl) rfl rfl (below_drew1 (Below.refl _ _)) (fun hHeld=>?_)
    have HBd:=Aside0.mk hHeld
    generalize w6.drew = wd at HBd hHeld ⊢
    refine zzt 0 10 (zzb 21 1) hHeld ?_ (hy:=by intro w' s0;have fx0 : w'.cell? ⟨g6,0,none⟩ = some (.int .i64 x.f0):=(blk_cell (blk_below HF6.out s0) 0).trans rfl;have fx1 : w'.cell? ⟨g6,1,none⟩ = some (.int .i64 x.f1):=(blk_cell (blk_below HF6.out s0) 1).trans rfl;go_simp;with_reducible rfl)
    refine zzt 1 11 (zzb 21 3) hHeld ?_ (hy:=by intro w' s0;have fb0 : w'.cell? ⟨Bb,0,none⟩ = some (.int .i64 b.f0):=(blk_cell (blk_below HB6.out s0) 0).trans rfl;have fb1 : w'.cell? ⟨Bb,1,none⟩ = some (.int .i64 b.f1):=(blk_cell (blk_below HB6.out s0) 1).trans rfl;go_simp;with_reducible rfl);refine zzp 2 12 (zzb 21 7) ?_;refine zzp 3 13 (zzb 21 15) ?_
    refine zzt 4 14 (zzb 21 31) hHeld ?_ (hy:=by intro w' s0;have ft0 : w'.cell? ⟨Bt,0,none⟩ = some (.int .i64 t):=(blk_cell (blk_below HT6.out s0) 0).trans rfl;go_simp;with_reducible rfl);refine zzp 5 15 (zzb 21 63) ?_;refine zzp 6 16 (zzb 21 127) ?_
    refine zzt 7 17 (zzb 21 255) hHeld ?_ (hy:=by intro w' s0;have fx0 : w'.cell? ⟨g6,0,none⟩ = some (.int .i64 x.f0):=(blk_cell (blk_below HF6.out s0) 0).trans rfl;have fx1 : w'.cell? ⟨g6,1,none⟩ = some (.int .i64 x.f1):=(blk_cell (blk_below HF6.out s0) 1).trans rfl;go_simp;with_reducible rfl)
    refine zzt 8 18 (zzb 21 511) hHeld ?_ (hy:=by intro w' s0;have fa0 : w'.cell? ⟨Ba,0,none⟩ = some (.int .i64 a.f0):=(blk_cell (blk_below HA6.out s0) 0).trans rfl;have fa1 : w'.cell? ⟨Ba,1,none⟩ = some (.int .i64 a.f1):=(blk_cell (blk_below HA6.out s0) 1).trans rfl;go_simp;with_reducible rfl);refine zzp 9 19 (zzb 21 1023) ?_;refine zzp 10 20 (zzb 21 2047) ?_;refine zzp 11 21 (zzb 21 4095) ?_;refine zzp 12 22 (zzb 21 8191) ?_
    refine zzt 13 23 (zzb 21 16383) hHeld ?_ (hy:=by intro w' s0;have ft0 : w'.cell? ⟨Bt,0,none⟩ = some (.int .i64 t):=(blk_cell (blk_below HT6.out s0) 0).trans rfl;go_simp;with_reducible rfl);refine zzp 14 24 (zzb 21 32767) ?_
    refine zzt 16 26 (zzb 21 98303) hHeld ?_ (hy:=by intro w' s0;have fb0 : w'.cell? ⟨Bb,0,none⟩ = some (.int .i64 b.f0):=(blk_cell (blk_below HB6.out s0) 0).trans rfl;have fb1 : w'.cell? ⟨Bb,1,none⟩ = some (.int .i64 b.f1):=(blk_cell (blk_below HB6.out s0) 1).trans rfl;go_simp;with_reducible rfl)
    refine zzo 15 25 (zzb 21 131071) (fun K hK=>?_)
    refine goes_ Try.func62 (by kernel_rfl) rfl #[.slice A p.length c,.int .i64 t1] (by rfl) rfl rfl (by (try simp only [List.map_toArray,List.map_cons,List.map_nil]);first|rfl|(simp only [hwt];rfl)) ?_
    with_reducible refine (impl_cellAt.calls A c p t1 y.f0 y.f1 _ (Kd.C_below HR.out (below_step HBW.out HBd.out)) HC.out HY.out).mono ?_
    rintro e w25 ⟨rfl,hB⟩
    refine ⟨_,rfl,?_⟩
    have HBn : Aside0 (Below w6.heap.size w6 w25):=Aside0.mk (below_step HBd.out hB)
    clear hB HBd hHeld
    have HBd:=HBn
    clear HBn
    refine hK.out _ _ HBd.out (fun hHeld=>?_)
    clear hK K
    refine zzn 25 ?_;refine zzp 17 27 (zzb 21 262143) ?_;refine zzp 18 28 (zzb 21 524287) ?_;refine zzp 19 29 (zzb 21 1048575) ?_;refine zzp 20 5 (zzb 21 2097151) ?_
    refine done_ (by kernel_rfl) ?_
    go_wp2
    go_ret
    exact ⟨by rw [← HF.out];try rfl,below_step HBW.out HBd.out⟩
   ·have hE2 : (x.f0 == a.f0 && (x.f1 == a.f1)) = false:=Bool.eq_false_iff.2 (fun m=>e2 ((eq_bool x a).1 m))
    have HF : Aside0 (¬ Hit1 p a b t):=⟨fun m=>by
     rcases m with m|m
     ·rw [HHX.out] at m;exact e1 m
     ·rw [HHX.out] at m;exact e2 m.2.1⟩
    clear e1 e2 h0 HY
    refine start_ (n:=21) (S:=fun w'=>Below w6.heap.size w6 w') (ds:=[]) (bits 21 0) (by kernel_rfl) rfl rfl (below_drew1 (Below.refl _ _)) (fun hHeld=>?_)
    have HBd:=Aside0.mk hHeld
    generalize w6.drew = wd at HBd hHeld ⊢
    refine zzt 0 10 (zzb 21 1) hHeld ?_ (hy:=by intro w' s0;have fx0 : w'.cell? ⟨g6,0,none⟩ = some (.int .i64 x.f0):=(blk_cell (blk_below HF6.out s0) 0).trans rfl;have fx1 : w'.cell? ⟨g6,1,none⟩ = some (.int .i64 x.f1):=(blk_cell (blk_below HF6.out s0) 1).trans rfl;go_simp;with_reducible rfl)
    refine zzt 1 11 (zzb 21 3) hHeld ?_ (hy:=by intro w' s0;have fb0 : w'.cell? ⟨Bb,0,none⟩ = some (.int .i64 b.f0):=(blk_cell (blk_below HB6.out s0) 0).trans rfl;have fb1 : w'.cell? ⟨Bb,1,none⟩ = some (.int .i64 b.f1):=(blk_cell (blk_below HB6.out s0) 1).trans rfl;go_simp;with_reducible rfl);refine zzp 2 12 (zzb 21 7) ?_;refine zzp 3 13 (zzb 21 15) ?_
    refine zzt 4 14 (zzb 21 31) hHeld ?_ (hy:=by intro w' s0;have ft0 : w'.cell? ⟨Bt,0,none⟩ = some (.int .i64 t):=(blk_cell (blk_below HT6.out s0) 0).trans rfl;go_simp;with_reducible rfl);refine zzp 5 15 (zzb 21 63) ?_;refine zzp 6 16 (zzb 21 127) ?_
    refine zzt 7 17 (zzb 21 255) hHeld ?_ (hy:=by intro w' s0;have fx0 : w'.cell? ⟨g6,0,none⟩ = some (.int .i64 x.f0):=(blk_cell (blk_below HF6.out s0) 0).trans rfl;have fx1 : w'.cell? ⟨g6,1,none⟩ = some (.int .i64 x.f1):=(blk_cell (blk_below HF6.out s0) 1).trans rfl;go_simp;with_reducible rfl)
    refine zzt 8 18 (zzb 21 511) hHeld ?_ (hy:=by intro w' s0;have fa0 : w'.cell? ⟨Ba,0,none⟩ = some (.int .i64 a.f0):=(blk_cell (blk_below HA6.out s0) 0).trans rfl;have fa1 : w'.cell? ⟨Ba,1,none⟩ = some (.int .i64 a.f1):=(blk_cell (blk_below HA6.out s0) 1).trans rfl;go_simp;with_reducible rfl);refine zzp 9 19 (zzb 21 1023) ?_;refine zzp 10 20 (zzb 21 2047) ?_;refine zzp 11 21 (zzb 21 4095) ?_;refine zzu 12 22 (zzb 21 8191) ?_;refine zzu 13 23 (zzb 21 16383) ?_;refine zzu 14 24 (zzb 21 32767) ?_;refine zzu 15 25 (zzb 21 65535) ?_;refine zzu 16 26 (zzb 21 131071) ?_;refine zzu 17 27 (zzb 21 262143) ?_;refine zzp 18 28 (zzb 21 524287) ?_;refine zzp 19 29 (zzb 21 1048575) ?_;refine zzp 20 5 (zzb 21 2097151) ?_
    refine done_ (by kernel_rfl) ?_
    go_wp2
    go_ret
    exact ⟨by rw [chk_neg HF.out];try rfl,below_step HBW.out HBd.out⟩
  ·have ct : decide (0 < t) = false:=decide_eq_false h0
   have HF : Aside0 (¬ Hit1 p a b t):=⟨fun m=>by
    rcases m with m|m
    ·rw [HHX.out] at m;exact e1 m
    ·exact h0 m.1⟩
   clear e1 h0 HY
   refine start_ (n:=21) (S:=fun w'=>Below w6.heap.size w6 w') (ds:=[]) (bits 21 0) (by kernel_rfl) rfl rfl (below_drew1 (Below.refl _ _)) (fun hHeld=>?_)
   have HBd:=Aside0.mk hHeld
   generalize w6.drew = wd at HBd hHeld ⊢
   refine zzt 0 10 (zzb 21 1) hHeld ?_ (hy:=by intro w' s0;have fx0 : w'.cell? ⟨g6,0,none⟩ = some (.int .i64 x.f0):=(blk_cell (blk_below HF6.out s0) 0).trans rfl;have fx1 : w'.cell? ⟨g6,1,none⟩ = some (.int .i64 x.f1):=(blk_cell (blk_below HF6.out s0) 1).trans rfl;go_simp;with_reducible rfl)
   refine zzt 1 11 (zzb 21 3) hHeld ?_ (hy:=by intro w' s0;have fb0 : w'.cell? ⟨Bb,0,none⟩ = some (.int .i64 b.f0):=(blk_cell (blk_below HB6.out s0) 0).trans rfl;have fb1 : w'.cell? ⟨Bb,1,none⟩ = some (.int .i64 b.f1):=(blk_cell (blk_below HB6.out s0) 1).trans rfl;go_simp;with_reducible rfl);refine zzp 2 12 (zzb 21 7) ?_;refine zzp 3 13 (zzb 21 15) ?_
   refine zzt 4 14 (zzb 21 31) hHeld ?_ (hy:=by intro w' s0;have ft0 : w'.cell? ⟨Bt,0,none⟩ = some (.int .i64 t):=(blk_cell (blk_below HT6.out s0) 0).trans rfl;go_simp;with_reducible rfl);refine zzp 5 15 (zzb 21 63) ?_;refine zzp 6 16 (zzb 21 127) ?_;refine zzu 7 17 (zzb 21 255) ?_;refine zzu 8 18 (zzb 21 511) ?_;refine zzu 9 19 (zzb 21 1023) ?_;refine zzp 10 20 (zzb 21 2047) ?_;refine zzp 11 21 (zzb 21 4095) ?_;refine zzu 12 22 (zzb 21 8191) ?_;refine zzu 13 23 (zzb 21 16383) ?_;refine zzu 14 24 (zzb 21 32767) ?_;refine zzu 15 25 (zzb 21 65535) ?_;refine zzu 16 26 (zzb 21 131071) ?_;refine zzu 17 27 (zzb 21 262143) ?_;refine zzp 18 28 (zzb 21 524287) ?_;refine zzp 19 29 (zzb 21 1048575) ?_;refine zzp 20 5 (zzb 21 2097151) ?_
   refine done_ (by kernel_rfl) ?_
   go_wp2
   go_ret
   exact ⟨by rw [chk_neg HF.out];try rfl,below_step HBW.out HBd.out⟩
set_option maxHeartbeats 8000000 in
set_option maxRecDepth 100000 in
theorem hit94 (p : List S48) (A : Option Addr) (c : Nat) (w : World) (hp : 1 ≤ (p.length : Int) ∧ (p.length : Int) ≤ 25) (b : S48) (t : Int) (ht : 0 ≤ t ∧ t ≤ 30) (Bt Bb : Nat) (h1 : w.heap[Bt]? = some (.cells #[.int .i64 t] 3 (0,0))) (h2 : w.heap[Bb]? = some (.cells #[.int .i64 b.f0,.int .i64 b.f1] 48 (0,0))) (hr : Kd.C k48 w A p.length p) (hc : p.length ≤ c) :
  Calls Try.prog 94 #[.slice A p.length c,.pointer (some ⟨Bt,0,none⟩),.pointer (some ⟨Bb,0,none⟩)] w fun e w'=>e = .returned (.bool (chk (cat p t = b) true false)) ∧ Below w.heap.size w w':=by
 have hu48:=Try.underlying48
 obtain ⟨x,hx⟩ : ∃ x,cat p t = x:=⟨_,rfl⟩
 have HX : Aside0 (impl_cellAt.f p t = some (x.f0,x.f1)):=⟨by rw [← hx];exact impl_cat p hp.1 hp.2 t ht.1⟩
 have HF : Aside0 ((x.f0 == b.f0 && (x.f1 == b.f1)) = chk (cat p t = b) true false):=⟨by rw [hx];exact eq_chk x b⟩
 have HR:=Aside0.mk hr
 have HC:=Aside0.mk hc
 have HT:=Aside0.mk h1
 have HB:=Aside0.mk h2
 clear hx hp ht hr hc h1 h2
 go_enter Try.func94,Try.ntmps94
 go_wp2
 refine start_ (n:=6) (S:=fun w'=>Below w.heap.size w w') (ds:=[]) (bits 6 0) (by kernel_rfl) rfl rfl (below_drew1 (Below.refl _ _)) (fun hHeld=>?_)
 have HBd:=Aside0.mk hHeld
 generalize w.drew = wd at HBd hHeld ⊢
 refine zzp 0 5 (zzb 6 1) ?_
 refine zzt 1 6 (zzb 6 3) hHeld ?_ (hy:=by intro w' s0;have ft0 : w'.cell? ⟨Bt,0,none⟩ = some (.int .i64 t):=(blk_cell (blk_below HT.out s0) 0).trans rfl;go_simp;with_reducible rfl)
 refine zzt 3 8 (zzb 6 11) hHeld ?_ (hy:=by intro w' s0;have fb0 : w'.cell? ⟨Bb,0,none⟩ = some (.int .i64 b.f0):=(blk_cell (blk_below HB.out s0) 0).trans rfl;have fb1 : w'.cell? ⟨Bb,1,none⟩ = some (.int .i64 b.f1):=(blk_cell (blk_below HB.out s0) 1).trans rfl;go_simp;with_reducible rfl)
 refine zzo 2 7 (zzb 6 15) (fun K hK=>?_)
 refine zzf Try.func62 #[.slice A p.length c,.int .i64 t] ?_
 with_reducible refine (impl_cellAt.calls A c p t x.f0 x.f1 _ (Kd.C_below HR.out HBd.out) HC.out HX.out).mono ?_
 rintro e w7 ⟨rfl,hB⟩
 refine ⟨_,rfl,?_⟩
 have HBn : Aside0 (Below w.heap.size w w7):=Aside0.mk (below_step HBd.out hB)
 clear hB HBd hHeld
 have HBd:=HBn
 clear HBn
 refine hK.out _ _ HBd.out (fun hHeld=>?_)
 clear hK K
 refine zzn 7 ?_;refine zzp 4 9 (zzb 6 31) ?_;refine zzp 5 4 (zzb 6 63) ?_
 refine done_ (by kernel_rfl) ?_
 go_wp2
 go_ret
 exact ⟨by rw [← HF.out];try rfl,HBd.out⟩
set_option maxHeartbeats 8000000 in
set_option maxRecDepth 100000 in
theorem hit72 (p : List S48) (A : Option Addr) (c : Nat) (w : World) (a0_0 a0_1 : Int) (A0_2 : Option Addr) (c0_2 : Nat) (l0_2 : List S48) (hb : (l0_2.length : Int) ≤ 1099511627776) (Bf : Nat) (h1 : w.heap[Bf]? = some (.cells #[.int .i64 a0_0,.int .i64 a0_1,.slice A0_2 l0_2.length c0_2] 29 (0,0))) (hr0 : Kd.C k48 w A0_2 l0_2.length l0_2) (hc0 : l0_2.length ≤ c0_2) (hr : Kd.C k48 w A p.length p) (hc : p.length ≤ c) :
  Calls Try.prog 72 #[.slice A p.length c,.pointer (some ⟨Bf,0,none⟩)] w fun e w'=>e = .returned (.bool (chk (PathOk a0_0 a0_1 l0_2 p) false true)) ∧ Below w.heap.size w w':=by
 have hu29:=Try.underlying29
 obtain ⟨k,hk⟩:=Ev.rounds (impl_path a0_0 a0_1 l0_2 hb p)
 obtain ⟨r,hr_⟩ : ∃ r,chk (PathOk a0_0 a0_1 l0_2 p) true false = r:=⟨_,rfl⟩
 rw [hr_] at hk
 have HK:=Aside0.mk hk
 have HRR : Aside0 ((!r) = chk (PathOk a0_0 a0_1 l0_2 p) false true):=⟨by
  rw [← hr_]
  by_cases hp : PathOk a0_0 a0_1 l0_2 p
  ·rw [chk_pos hp,chk_pos hp];rfl
  ·rw [chk_neg hp,chk_neg hp];rfl⟩
 have HR:=Aside0.mk hr
 have HC:=Aside0.mk hc
 have HR0:=Aside0.mk hr0
 have HC0:=Aside0.mk hc0
 have f10 : w.cell? ⟨Bf,0,none⟩ = some (.int .i64 a0_0):=(blk_cell h1 0).trans rfl;have f11 : w.cell? ⟨Bf,1,none⟩ = some (.int .i64 a0_1):=(blk_cell h1 1).trans rfl;have f12 : w.cell? ⟨Bf,2,none⟩ = some (.slice A0_2 l0_2.length c0_2):=(blk_cell h1 2).trans rfl
 clear hr hc hr0 hc0 h1 hk hr_ hb
 go_enter Try.func72,Try.ntmps72
 go_wp2_with (go_at_call 21;(with_reducible refine (impl_IsValidPath.calls k a0_0 a0_1 A0_2 c0_2 l0_2 A c p r _ HR0.out HC0.out HR.out HC.out HK.out).mono ?_);rintro e w6 ⟨rfl,hB⟩;have HB6:=Aside0.mk hB;clear hB)
 go_ret
 exact ⟨by rw [HRR.out];try rfl,HB6.out⟩
set_option maxHeartbeats 8000000 in
set_option maxRecDepth 100000 in
theorem idx99 (a b : S48) (t : Int) (Bt Bb Ba : Nat) (A0 : Option Addr) (c0 : Nat) (os : List (List S48)) (w : World) (ht : 0 ≤ t ∧ t ≤ 30) (h1 : w.heap[Bt]? = some (.cells #[.int .i64 t] 3 (0,0))) (h2 : w.heap[Bb]? = some (.cells #[.int .i64 b.f0,.int .i64 b.f1] 48 (0,0))) (h3 : w.heap[Ba]? = some (.cells #[.int .i64 a.f0,.int .i64 a.f1] 48 (0,0))) (hr0 : Kd.C SL6 w A0 os.length os) (hc0 : os.length ≤ c0) (ho : Len os) :
  Calls Try.prog 92 #[.slice A0 os.length c0,.func (.func 99) #[] #[.pointer (some ⟨Bt,0,none⟩),.pointer (some ⟨Bb,0,none⟩),.pointer (some ⟨Ba,0,none⟩)]] w fun e w'=>e = .returned (.int .i64 (fstAt (fun p=>Hit1 p a b t) os os.length 0)) ∧ Below w.heap.size w w':=by
 have HR:=Aside0.mk hr0
 have HOL:=Aside0.mk ho
 have HTT:=Aside0.mk ht
 have H1:=Aside0.mk h1
 have H2:=Aside0.mk h2
 have H3:=Aside0.mk h3
 have HN : Aside0 (fstAt (fun p=>Hit1 p a b t) os os.length 0 = fstAt (fun p=>Hit1 p a b t) os (os.length - 0) 0):=Aside0.mk rfl
 have hol : os.length ≤ 1099511627776:=by have:=ho.1;omega
 clear hr0 ho ht h1 h2 h3
 go_enter Try.func92,Try.ntmps92
 go_wp2
 go_loopw [8] (fun v8 w' => ∃ k : Nat,v8 = .int .i64 (k : Int) ∧ Aside0 (k ≤ os.length) ∧ Aside0 (fstAt (fun p=>Hit1 p a b t) os os.length 0 = fstAt (fun p=>Hit1 p a b t) os (os.length - k) k) ∧ Aside0 (Below w.heap.size w w')) (fun v8 _=>os.length - (intOf v8).toNat)
 case atStart=>exact ⟨0,rfl,⟨Nat.zero_le _⟩,HN,⟨Below.refl _ _⟩⟩
 case round =>
  clear HN
  obtain ⟨k,rfl,HK,HN,HB⟩:=hrel
  by_cases hlt : k < os.length
  ·have ck : decide ((k : Int) < (os.length : Int)) = true:=decide_eq_true (by omega)
   have ckn : decide (k < os.length) = true:=decide_eq_true hlt
   obtain ⟨ad,Ar,cr,ea,hx,hl,hC⟩:=at_L6 (Kd.C_below HR.out HB.out) (k : Int) (by omega) (by omega)
   cases ea
   rw [Int.toNat_natCast] at hx
   have hp:=HOL.out.2 _ (rd6_mem (i:=(k : Int)) (by omega) (by omega))
   obtain ⟨p,hpp⟩ : ∃ p,rd_L6 os (k : Int) = p:=⟨_,rfl⟩
   have HPP:=Aside0.mk hpp
   rw [hpp] at hx hl hC hp
   have HRp:=Aside0.mk hC
   have HCp:=Aside0.mk hl
   have HPL:=Aside0.mk hp
   have q1 : (0 ≤ (k : Int)) = True:=eq_true (by omega)
   have q2 : ((k : Int) < (os.length : Int)) = True:=eq_true (by omega)
   by_cases hq : Hit1 p a b t
   ·have hs : Aside0 (fstAt (fun p=>Hit1 p a b t) os os.length 0 = (k : Int)):=Aside0.mk (by
     rw [HN.out,show os.length - k = (os.length - (k + 1)) + 1 from by omega]
     exact fstAt_pos (by rw [HPP.out];exact hq))
    have HV : Aside0 (chk (Hit1 p a b t) true false = true):=⟨chk_pos hq _ _⟩
    clear hq hp hl hC hpp
    go_wp2_with (go_at_call 99;(with_reducible refine (hit99 p Ar cr _ HPL.out a b t HTT.out Bt Bb Ba (blk_below H1.out HB.out) (blk_below H2.out HB.out) (blk_below H3.out HB.out) HRp.out HCp.out).mono ?_);rintro e w16 ⟨rfl,hB⟩;rw [HV.out];have HB16:=Aside0.mk (below_step HB.out hB);clear hB)
    go_ret
    exact ⟨ret_i6 hs.out.symm,HB16.out⟩
   ·have hs : Aside0 (fstAt (fun p=>Hit1 p a b t) os os.length 0 = fstAt (fun p=>Hit1 p a b t) os (os.length - (k + 1)) (k + 1)):=Aside0.mk (by
     rw [HN.out,show os.length - k = (os.length - (k + 1)) + 1 from by omega]
     exact fstAt_neg (by rw [HPP.out];exact hq))
    have HV : Aside0 (chk (Hit1 p a b t) true false = false):=⟨chk_neg hq _ _⟩
    clear hq hp hl hC hpp
    go_wp2_with (go_at_call 99;(with_reducible refine (hit99 p Ar cr _ HPL.out a b t HTT.out Bt Bb Ba (blk_below H1.out HB.out) (blk_below H2.out HB.out) (blk_below H3.out HB.out) HRp.out HCp.out).mono ?_);rintro e w16 ⟨rfl,hB⟩;rw [HV.out];have HB16:=Aside0.mk (below_step HB.out hB);clear hB)
    go_roundw
    case rel=>exact ⟨k + 1,by go_num,⟨by omega⟩,hs,HB16⟩
    case measure=>simp [intOf];omega
  ·have ck : decide ((k : Int) < (os.length : Int)) = false:=decide_eq_false (by omega)
   have ckn : decide (k < os.length) = false:=decide_eq_false hlt
   have hs : Aside0 (fstAt (fun p=>Hit1 p a b t) os os.length 0 = -1):=Aside0.mk (by
    rw [HN.out,show os.length - k = 0 from by have:=HK.out;omega];rfl)
   clear hlt
   go_wp2
   go_ret
   exact ⟨ret_i6 hs.out.symm,HB.out⟩
set_option maxHeartbeats 8000000 in
set_option maxRecDepth 100000 in
theorem cont99 (a b : S48) (t : Int) (Bt Bb Ba : Nat) (A0 : Option Addr) (c0 : Nat) (os : List (List S48)) (w : World) (ht : 0 ≤ t ∧ t ≤ 30) (h1 : w.heap[Bt]? = some (.cells #[.int .i64 t] 3 (0,0))) (h2 : w.heap[Bb]? = some (.cells #[.int .i64 b.f0,.int .i64 b.f1] 48 (0,0))) (h3 : w.heap[Ba]? = some (.cells #[.int .i64 a.f0,.int .i64 a.f1] 48 (0,0))) (hr0 : Kd.C SL6 w A0 os.length os) (hc0 : os.length ≤ c0) (ho : Len os) :
  Calls Try.prog 71 #[.slice A0 os.length c0,.func (.func 99) #[] #[.pointer (some ⟨Bt,0,none⟩),.pointer (some ⟨Bb,0,none⟩),.pointer (some ⟨Ba,0,none⟩)]] w fun e w'=>e = .returned (.bool (chk (∃ p ∈ os,Hit1 p a b t) true false)) ∧ Below w.heap.size w w':=by
 have HR:=Aside0.mk hr0
 have HC:=Aside0.mk hc0
 have HOL:=Aside0.mk ho
 have HTT:=Aside0.mk ht
 have H1:=Aside0.mk h1
 have H2:=Aside0.mk h2
 have H3:=Aside0.mk h3
 have HE : Aside0 (decide (0 ≤ fstAt (fun p=>Hit1 p a b t) os os.length 0) = chk (∃ p ∈ os,Hit1 p a b t) true false):=⟨fstAt_chk (fun p=>Hit1 p a b t) os⟩
 clear hr0 hc0 ho ht h1 h2 h3
 go_enter Try.func71,Try.ntmps71
 go_wp2_with (go_at_call 92;(with_reducible refine (idx99 a b t Bt Bb Ba A0 c0 os _ HTT.out H1.out H2.out H3.out HR.out HC.out HOL.out).mono ?_);rintro e w7 ⟨rfl,hd⟩;have HB7:=Aside0.mk hd;clear hd)
 go_ret
 exact ⟨by rw [← HE.out];try rfl,HB7.out⟩
set_option maxHeartbeats 8000000 in
set_option maxRecDepth 100000 in
theorem idx94 (b : S48) (t : Int) (Bt Bb : Nat) (A0 : Option Addr) (c0 : Nat) (os : List (List S48)) (w : World) (ht : 0 ≤ t ∧ t ≤ 30) (h1 : w.heap[Bt]? = some (.cells #[.int .i64 t] 3 (0,0))) (h2 : w.heap[Bb]? = some (.cells #[.int .i64 b.f0,.int .i64 b.f1] 48 (0,0))) (hr0 : Kd.C SL6 w A0 os.length os) (hc0 : os.length ≤ c0) (ho : Len os) :
  Calls Try.prog 92 #[.slice A0 os.length c0,.func (.func 94) #[] #[.pointer (some ⟨Bt,0,none⟩),.pointer (some ⟨Bb,0,none⟩)]] w fun e w'=>e = .returned (.int .i64 (fstAt (fun p=>cat p t = b) os os.length 0)) ∧ Below w.heap.size w w':=by
 have HR:=Aside0.mk hr0
 have HOL:=Aside0.mk ho
 have HTT:=Aside0.mk ht
 have H1:=Aside0.mk h1
 have H2:=Aside0.mk h2
 have HN : Aside0 (fstAt (fun p=>cat p t = b) os os.length 0 = fstAt (fun p=>cat p t = b) os (os.length - 0) 0):=Aside0.mk rfl
 have hol : os.length ≤ 1099511627776:=by have:=ho.1;omega
 clear hr0 ho ht h1 h2
 go_enter Try.func92,Try.ntmps92
 go_wp2
 go_loopw [8] (fun v8 w' => ∃ k : Nat,v8 = .int .i64 (k : Int) ∧ Aside0 (k ≤ os.length) ∧ Aside0 (fstAt (fun p=>cat p t = b) os os.length 0 = fstAt (fun p=>cat p t = b) os (os.length - k) k) ∧ Aside0 (Below w.heap.size w w')) (fun v8 _=>os.length - (intOf v8).toNat)
 case atStart=>exact ⟨0,rfl,⟨Nat.zero_le _⟩,HN,⟨Below.refl _ _⟩⟩
 case round =>
  clear HN
  obtain ⟨k,rfl,HK,HN,HB⟩:=hrel
  by_cases hlt : k < os.length
  ·have ck : decide ((k : Int) < (os.length : Int)) = true:=decide_eq_true (by omega)
   have ckn : decide (k < os.length) = true:=decide_eq_true hlt
   obtain ⟨ad,Ar,cr,ea,hx,hl,hC⟩:=at_L6 (Kd.C_below HR.out HB.out) (k : Int) (by omega) (by omega)
   cases ea
   rw [Int.toNat_natCast] at hx
   have hp:=HOL.out.2 _ (rd6_mem (i:=(k : Int)) (by omega) (by omega))
   obtain ⟨p,hpp⟩ : ∃ p,rd_L6 os (k : Int) = p:=⟨_,rfl⟩
   have HPP:=Aside0.mk hpp
   rw [hpp] at hx hl hC hp
   have HRp:=Aside0.mk hC
   have HCp:=Aside0.mk hl
   have HPL:=Aside0.mk hp
   have q1 : (0 ≤ (k : Int)) = True:=eq_true (by omega)
   have q2 : ((k : Int) < (os.length : Int)) = True:=eq_true (by omega)
   by_cases hq : cat p t = b
   ·have hs : Aside0 (fstAt (fun p=>cat p t = b) os os.length 0 = (k : Int)):=Aside0.mk (by
     rw [HN.out,show os.length - k = (os.length - (k + 1)) + 1 from by omega]
     exact fstAt_pos (by rw [HPP.out];exact hq))
    have HV : Aside0 (chk (cat p t = b) true false = true):=⟨chk_pos hq _ _⟩
    clear hq hp hl hC hpp
    go_wp2_with (go_at_call 94;(with_reducible refine (hit94 p Ar cr _ HPL.out b t HTT.out Bt Bb (blk_below H1.out HB.out) (blk_below H2.out HB.out) HRp.out HCp.out).mono ?_);rintro e w16 ⟨rfl,hB⟩;rw [HV.out];have HB16:=Aside0.mk (below_step HB.out hB);clear hB)
    go_ret
    exact ⟨ret_i6 hs.out.symm,HB16.out⟩
   ·have hs : Aside0 (fstAt (fun p=>cat p t = b) os os.length 0 = fstAt (fun p=>cat p t = b) os (os.length - (k + 1)) (k + 1)):=Aside0.mk (by
     rw [HN.out,show os.length - k = (os.length - (k + 1)) + 1 from by omega]
     exact fstAt_neg (by rw [HPP.out];exact hq))
    have HV : Aside0 (chk (cat p t = b) true false = false):=⟨chk_neg hq _ _⟩
    clear hq hp hl hC hpp
    go_wp2_with (go_at_call 94;(with_reducible refine (hit94 p Ar cr _ HPL.out b t HTT.out Bt Bb (blk_below H1.out HB.out) (blk_below H2.out HB.out) HRp.out HCp.out).mono ?_);rintro e w16 ⟨rfl,hB⟩;rw [HV.out];have HB16:=Aside0.mk (below_step HB.out hB);clear hB)
    go_roundw
    case rel=>exact ⟨k + 1,by go_num,⟨by omega⟩,hs,HB16⟩
    case measure=>simp [intOf];omega
  ·have ck : decide ((k : Int) < (os.length : Int)) = false:=decide_eq_false (by omega)
   have ckn : decide (k < os.length) = false:=decide_eq_false hlt
   have hs : Aside0 (fstAt (fun p=>cat p t = b) os os.length 0 = -1):=Aside0.mk (by
    rw [HN.out,show os.length - k = 0 from by have:=HK.out;omega];rfl)
   clear hlt
   go_wp2
   go_ret
   exact ⟨ret_i6 hs.out.symm,HB.out⟩
set_option maxHeartbeats 8000000 in
set_option maxRecDepth 100000 in
theorem cont94 (b : S48) (t : Int) (Bt Bb : Nat) (A0 : Option Addr) (c0 : Nat) (os : List (List S48)) (w : World) (ht : 0 ≤ t ∧ t ≤ 30) (h1 : w.heap[Bt]? = some (.cells #[.int .i64 t] 3 (0,0))) (h2 : w.heap[Bb]? = some (.cells #[.int .i64 b.f0,.int .i64 b.f1] 48 (0,0))) (hr0 : Kd.C SL6 w A0 os.length os) (hc0 : os.length ≤ c0) (ho : Len os) :
  Calls Try.prog 71 #[.slice A0 os.length c0,.func (.func 94) #[] #[.pointer (some ⟨Bt,0,none⟩),.pointer (some ⟨Bb,0,none⟩)]] w fun e w'=>e = .returned (.bool (chk (∃ p ∈ os,cat p t = b) true false)) ∧ Below w.heap.size w w':=by
 have HR:=Aside0.mk hr0
 have HC:=Aside0.mk hc0
 have HOL:=Aside0.mk ho
 have HTT:=Aside0.mk ht
 have H1:=Aside0.mk h1
 have H2:=Aside0.mk h2
 have HE : Aside0 (decide (0 ≤ fstAt (fun p=>cat p t = b) os os.length 0) = chk (∃ p ∈ os,cat p t = b) true false):=⟨fstAt_chk (fun p=>cat p t = b) os⟩
 clear hr0 hc0 ho ht h1 h2
 go_enter Try.func71,Try.ntmps71
 go_wp2_with (go_at_call 92;(with_reducible refine (idx94 b t Bt Bb A0 c0 os _ HTT.out H1.out H2.out HR.out HC.out HOL.out).mono ?_);rintro e w7 ⟨rfl,hd⟩;have HB7:=Aside0.mk hd;clear hd)
 go_ret
 exact ⟨by rw [← HE.out];try rfl,HB7.out⟩
set_option maxHeartbeats 8000000 in
set_option maxRecDepth 100000 in
theorem idx72 (a0_0 a0_1 : Int) (A0_2 : Option Addr) (c0_2 : Nat) (l0_2 : List S48) (Bf : Nat) (A0 : Option Addr) (c0 : Nat) (os : List (List S48)) (w : World) (hbl : (l0_2.length : Int) ≤ 1099511627776) (h1 : w.heap[Bf]? = some (.cells #[.int .i64 a0_0,.int .i64 a0_1,.slice A0_2 l0_2.length c0_2] 29 (0,0))) (hrf : Kd.C k48 w A0_2 l0_2.length l0_2) (hcf : l0_2.length ≤ c0_2) (hr0 : Kd.C SL6 w A0 os.length os) (hc0 : os.length ≤ c0) (ho : (os.length : Int) ≤ 1099511627776) :
  Calls Try.prog 92 #[.slice A0 os.length c0,.func (.func 72) #[] #[.pointer (some ⟨Bf,0,none⟩)]] w fun e w'=>e = .returned (.int .i64 (fstAt (fun p => ¬ PathOk a0_0 a0_1 l0_2 p) os os.length 0)) ∧ Below w.heap.size w w':=by
 have HR:=Aside0.mk hr0
 have HOL:=Aside0.mk ho
 have HBL:=Aside0.mk hbl
 have H1:=Aside0.mk h1
 have HRF:=Aside0.mk hrf
 have HCF:=Aside0.mk hcf
 have HN : Aside0 (fstAt (fun p => ¬ PathOk a0_0 a0_1 l0_2 p) os os.length 0 = fstAt (fun p => ¬ PathOk a0_0 a0_1 l0_2 p) os (os.length - 0) 0):=Aside0.mk rfl
 have hol : os.length ≤ 1099511627776:=by omega
 clear hr0 ho hbl h1 hrf hcf
 go_enter Try.func92,Try.ntmps92
 go_wp2
 go_loopw [8] (fun v8 w' => ∃ k : Nat,v8 = .int .i64 (k : Int) ∧ Aside0 (k ≤ os.length) ∧ Aside0 (fstAt (fun p => ¬ PathOk a0_0 a0_1 l0_2 p) os os.length 0 = fstAt (fun p => ¬ PathOk a0_0 a0_1 l0_2 p) os (os.length - k) k) ∧ Aside0 (Below w.heap.size w w')) (fun v8 _=>os.length - (intOf v8).toNat)
 case atStart=>exact ⟨0,rfl,⟨Nat.zero_le _⟩,HN,⟨Below.refl _ _⟩⟩
 case round =>
  clear HN
  obtain ⟨k,rfl,HK,HN,HB⟩:=hrel
  by_cases hlt : k < os.length
  ·have ck : decide ((k : Int) < (os.length : Int)) = true:=decide_eq_true (by omega)
   have ckn : decide (k < os.length) = true:=decide_eq_true hlt
   obtain ⟨ad,Ar,cr,ea,hx,hl,hC⟩:=at_L6 (Kd.C_below HR.out HB.out) (k : Int) (by omega) (by omega)
   cases ea
   rw [Int.toNat_natCast] at hx
   obtain ⟨p,hpp⟩ : ∃ p,rd_L6 os (k : Int) = p:=⟨_,rfl⟩
   have HPP:=Aside0.mk hpp
   rw [hpp] at hx hl hC
   have HRp:=Aside0.mk hC
   have HCp:=Aside0.mk hl
   have q1 : (0 ≤ (k : Int)) = True:=eq_true (by omega)
   have q2 : ((k : Int) < (os.length : Int)) = True:=eq_true (by omega)
   by_cases hq : ¬ PathOk a0_0 a0_1 l0_2 p
   ·have hs : Aside0 (fstAt (fun p => ¬ PathOk a0_0 a0_1 l0_2 p) os os.length 0 = (k : Int)):=Aside0.mk (by
     rw [HN.out,show os.length - k = (os.length - (k + 1)) + 1 from by omega]
     exact fstAt_pos (by rw [HPP.out];exact hq))
    have HV : Aside0 (chk (PathOk a0_0 a0_1 l0_2 p) false true = true):=⟨chk_neg hq _ _⟩
    clear hq hl hC hpp
    go_wp2_with (go_at_call 72;(with_reducible refine (hit72 p Ar cr _ a0_0 a0_1 A0_2 c0_2 l0_2 HBL.out Bf (blk_below H1.out HB.out) (Kd.C_below HRF.out HB.out) HCF.out HRp.out HCp.out).mono ?_);rintro e w16 ⟨rfl,hB⟩;rw [HV.out];have HB16:=Aside0.mk (below_step HB.out hB);clear hB)
    go_ret
    exact ⟨ret_i6 hs.out.symm,HB16.out⟩
   ·have hs : Aside0 (fstAt (fun p => ¬ PathOk a0_0 a0_1 l0_2 p) os os.length 0 = fstAt (fun p => ¬ PathOk a0_0 a0_1 l0_2 p) os (os.length - (k + 1)) (k + 1)):=Aside0.mk (by
     rw [HN.out,show os.length - k = (os.length - (k + 1)) + 1 from by omega]
     exact fstAt_neg (by rw [HPP.out];exact hq))
    have HV : Aside0 (chk (PathOk a0_0 a0_1 l0_2 p) false true = false):=⟨chk_pos (Classical.not_not.1 hq) _ _⟩
    clear hq hl hC hpp
    go_wp2_with (go_at_call 72;(with_reducible refine (hit72 p Ar cr _ a0_0 a0_1 A0_2 c0_2 l0_2 HBL.out Bf (blk_below H1.out HB.out) (Kd.C_below HRF.out HB.out) HCF.out HRp.out HCp.out).mono ?_);rintro e w16 ⟨rfl,hB⟩;rw [HV.out];have HB16:=Aside0.mk (below_step HB.out hB);clear hB)
    go_roundw
    case rel=>exact ⟨k + 1,by go_num,⟨by omega⟩,hs,HB16⟩
    case measure=>simp [intOf];omega
  ·have ck : decide ((k : Int) < (os.length : Int)) = false:=decide_eq_false (by omega)
   have ckn : decide (k < os.length) = false:=decide_eq_false hlt
   have hs : Aside0 (fstAt (fun p => ¬ PathOk a0_0 a0_1 l0_2 p) os os.length 0 = -1):=Aside0.mk (by
    rw [HN.out,show os.length - k = 0 from by have:=HK.out;omega];rfl)
   clear hlt
   go_wp2
   go_ret
   exact ⟨ret_i6 hs.out.symm,HB.out⟩
set_option maxHeartbeats 8000000 in
set_option maxRecDepth 100000 in
theorem cont72 (a0_0 a0_1 : Int) (A0_2 : Option Addr) (c0_2 : Nat) (l0_2 : List S48) (Bf : Nat) (A0 : Option Addr) (c0 : Nat) (os : List (List S48)) (w : World) (hbl : (l0_2.length : Int) ≤ 1099511627776) (h1 : w.heap[Bf]? = some (.cells #[.int .i64 a0_0,.int .i64 a0_1,.slice A0_2 l0_2.length c0_2] 29 (0,0))) (hrf : Kd.C k48 w A0_2 l0_2.length l0_2) (hcf : l0_2.length ≤ c0_2) (hr0 : Kd.C SL6 w A0 os.length os) (hc0 : os.length ≤ c0) (ho : (os.length : Int) ≤ 1099511627776) :
  Calls Try.prog 71 #[.slice A0 os.length c0,.func (.func 72) #[] #[.pointer (some ⟨Bf,0,none⟩)]] w fun e w'=>e = .returned (.bool (chk (∃ p ∈ os,¬ PathOk a0_0 a0_1 l0_2 p) true false)) ∧ Below w.heap.size w w':=by
 have HR:=Aside0.mk hr0
 have HC:=Aside0.mk hc0
 have HOL:=Aside0.mk ho
 have HBL:=Aside0.mk hbl
 have H1:=Aside0.mk h1
 have HRF:=Aside0.mk hrf
 have HCF:=Aside0.mk hcf
 have HE : Aside0 (decide (0 ≤ fstAt (fun p => ¬ PathOk a0_0 a0_1 l0_2 p) os os.length 0) = chk (∃ p ∈ os,¬ PathOk a0_0 a0_1 l0_2 p) true false):=⟨fstAt_chk (fun p => ¬ PathOk a0_0 a0_1 l0_2 p) os⟩
 clear hr0 hc0 ho hbl h1 hrf hcf
 go_enter Try.func71,Try.ntmps71
 go_wp2_with (go_at_call 92;(with_reducible refine (idx72 a0_0 a0_1 A0_2 c0_2 l0_2 Bf A0 c0 os _ HBL.out H1.out HRF.out HCF.out HR.out HC.out HOL.out).mono ?_);rintro e w7 ⟨rfl,hd⟩;have HB7:=Aside0.mk hd;clear hd)
 go_ret
 exact ⟨by rw [← HE.out];try rfl,HB7.out⟩
set_option maxHeartbeats 8000000 in
set_option maxRecDepth 100000 in
theorem impl_isHit.calls (A1 : Option Addr) (c1 : Nat) (os : List (List S48)) (a b : S48) (t : Int) (w : World) (hr1 : Kd.C SL6 w A1 os.length os) (hc1 : os.length ≤ c1) (ho : Len os) (ht : 0 ≤ t ∧ t ≤ 30) :
  Calls Try.prog 93 #[.slice A1 os.length c1,.agg #[.int .i64 a.f0,.int .i64 a.f1],.agg #[.int .i64 b.f0,.int .i64 b.f1],.int .i64 t] w fun e w'=>e = .returned (.bool (chk (HitAt os a b t) true false)) ∧ Below w.heap.size w w':=by
 have hu48:=Try.underlying48
 have HR:=Aside0.mk hr1
 have HC:=Aside0.mk hc1
 have HO:=Aside0.mk ho
 have HT:=Aside0.mk ht
 clear hr1 hc1 ho ht
 go_enter Try.func93,Try.ntmps93
 go_wp2_with (first|((with_reducible refine gate_dst (N:=5) rfl ?_);refine zzc 5 #[.int .i64 a.f0,.int .i64 a.f1] 48 ?_;intro g5 hgg5 w5 hbox hb;have HF5:=Aside0.mk hbox;have HB5:=Aside0.mk hb;clear hbox hb hgg5)|((with_reducible refine gate_dst (N:=6) rfl ?_);refine zzc 6 #[.int .i64 b.f0,.int .i64 b.f1] 48 ?_;intro g6 hgg6 w6 hbox hb;have HF6:=Aside0.mk hbox;have HF5':=Aside0.mk (blk_below HF5.out hb);have HB6:=Aside0.mk (below_step HB5.out hb);clear HF5 HB5 hbox hb hgg6)|((with_reducible refine gate_dst (N:=7) rfl ?_);refine zzc 7 #[.int .i64 t] 3 ?_;intro g7 hgg7 w7 hbox hb;have HF7:=Aside0.mk hbox;have HF5'':=Aside0.mk (blk_below HF5'.out hb);have HF6':=Aside0.mk (blk_below HF6.out hb);have HB7:=Aside0.mk (below_step HB6.out hb);clear HF5' HF6 HB6 hbox hb hgg7)|(go_at_call 71;(with_reducible refine (cont99 a b t g7 g6 g5 A1 c1 os _ HT.out HF7.out HF6'.out HF5''.out (Kd.C_below HR.out HB7.out) HC.out HO.out).mono ?_);rintro e w11 ⟨rfl,hd⟩;have HB11:=Aside0.mk (below_step HB7.out hd);clear hd))
 go_ret
 exact ⟨rfl,HB11.out⟩
end Go.Proofs.Ytbpccdbkaiigcaa.G

/- What the walk of impl.safePath holds of the world: a row of maps, filled from behind; a range under way; the path. -/
namespace Go.Proofs.Ytbpccdbkaiigcaa.G
open Go.RowKit Go.Maps Go.Proofs.YtbpccdbkaiigcaaW.PrintWords Go.Proofs.YtbpccdbkaiigcaaW.PrintLast Go.Proofs.YtbpccdbkaiigcaaW.PrintMore
set_option linter.unusedVariables false
set_option linter.unusedSimpArgs false
/-- A map's value: its block, or none. -/
abbrev kMp : Kd (Option Nat):=Kd.scalar (fun b : Option Nat=>Value.map b) (fun _=>rfl)
theorem info108 : (Try.prog.info? 108).map (fun i=>(i.zero,i.size,i.bytes)) = some (some (.map none),1,8):=by kernel_rfl
theorem at_mp {w : World} {A : Option Addr} {n : Nat} {xs : List (Option Nat)} (h : Kd.C kMp w A n xs) (i : Int) (h0 : 0 ≤ i) (h1 : i < n) {b : Option Nat} (hb : xs[i.toNat]? = some b) : ∃ ad,A = some ad ∧ w.cell? (ad.add i.toNat) = some (.map b):=by
 obtain ⟨ad,c,e,_,hK,hc0⟩:=Kd.C_get h none i h0 h1
 rw [List.getD_eq_getElem?_getD,hb] at hK
 obtain rfl : c = [Value.map b]:=hK
 refine ⟨ad,e,?_⟩
 have:=hc0 0 _ rfl
 rwa [show kMp.sz = 1 from rfl,Nat.mul_one,Nat.add_zero] at this
/-- The maps for the last j + 1 minutes stand in their places, in blocks below m. -/
def Maps (G : Nat → S48 → Prop) (w : World) (m e j : Nat) (bs : List (Option Nat)) : Prop := ∀ i,i ≤ j → ∃ b n,bs[e - i]? = some (some b) ∧ n ≤ 5 ^ i ∧ b < m ∧ MapB w b n (G i)
section
variable {G : Nat → S48 → Prop} {w w1 w2 : World} {m e j : Nat} {bs : List (Option Nat)} {v v2 : Value}
theorem Maps.below (h : Maps G w m e j bs) (hb : Below w.heap.size w w2) : Maps G w2 m e j bs:=fun i hi=>by
 obtain ⟨b,n,h1,h2,h3,h4⟩:=h i hi
 exact ⟨b,n,h1,h2,h3,h4.below hb⟩
theorem Maps.grown {row : Option Nat} (h : Maps G w m e j bs) (hg : w.grownBy w2 row) (hr : ∀ k,row = some k → m ≤ k ∨ ∃ cs t,w.heap[k]? = some (.cells cs t (0,0))) : Maps G w2 m e j bs:=fun i hi=>by
 obtain ⟨b,n,h1,h2,h3,h4⟩:=h i hi
 refine ⟨b,n,h1,h2,h3,h4.grown hg (fun e'=>?_)⟩
 rcases hr b e'.symm with h|⟨cs,t,h⟩
 ·omega
 ·exact h4.cells h rfl
theorem Maps.raise (h : Maps G w m e j bs) {m2 : Nat} (hm : ∀ b,b < w.heap.size → b < m2) : Maps G w m2 e j bs:=fun i hi=>by
 obtain ⟨b,n,h1,h2,h3,h4⟩:=h i hi
 exact ⟨b,n,h1,h2,hm b h4.lt,h4⟩
/-- The row of maps and the maps, held since world w1. -/
structure GB (G : Nat → S48 → Prop) (w1 w : World) (v : Value) (bs : List (Option Nat)) (e j : Nat) : Prop where
 r : Kd.R kMp 108 w w1.heap.size (fun _=>True) v bs
 len : bs.length = e + 1
 mp : Maps G w w.heap.size e j bs
 bl : Below w1.heap.size w1 w
theorem GB.below (h : GB G w1 w v bs e j) (hb : Below w.heap.size w w2) : GB G w1 w2 v bs e j:=⟨Kd.R_below h.r hb,h.len,(h.mp.below hb).raise (fun b hb'=>hb'),below_step h.bl hb⟩
theorem R_mp_grown {base : Nat} (h : Kd.R kMp 108 w base (fun _=>True) v bs) {k n : Nat} {S : S48 → Prop} (hm : MapB w k n S) (hg : w.grownBy w2 (some k)) : Kd.R kMp 108 w2 base (fun _=>True) v bs :=
 Kd.R_grown1 h rfl hg (fun e'=>by
  obtain ⟨cells,hc⟩:=Kd.R_typed h k e'.symm
  exact hm.cells hc rfl)
theorem R_flat_grown {base k n : Nat} {S : S48 → Prop} {l : List S48} {ok : Nat → Prop} (h : Kd.R k48 48 w base ok v l) (hm : MapB w k n S) (hg : w.grownBy w2 (some k)) : Kd.R k48 48 w2 base ok v l :=
 Kd.R_grown1 h rfl hg (fun e'=>by
  obtain ⟨cells,hc⟩:=Kd.R_typed h k e'.symm
  exact hm.cells hc rfl)
/-- While a minute's map is ranged over: the next map, in block bn (that is not below m), grows. -/
structure PB (G : Nat → S48 → Prop) (w1 w : World) (v : Value) (bs : List (Option Nat)) (e j m bn : Nat) (n : Nat) (T : S48 → Prop) : Prop where
 r : Kd.R kMp 108 w w1.heap.size (fun _=>True) v bs
 mp : Maps G w m e j bs
 tg : MapB w bn n T
 nb : m ≤ bn
 lw : w1.heap.size ≤ m
 bl : Below w1.heap.size w1 w
theorem PB.below {bn n : Nat} {T : S48 → Prop} (h : PB G w1 w v bs e j m bn n T) (hb : Below w.heap.size w w2) : PB G w1 w2 v bs e j m bn n T:=⟨Kd.R_below h.r hb,h.mp.below hb,h.tg.below hb,h.nb,h.lw,below_step h.bl hb⟩
theorem PB.put {bn n n2 : Nat} {T T2 : S48 → Prop} (h : PB G w1 w v bs e j m bn n T) (hm : MapB w2 bn n2 T2) (hg : w.grownBy w2 (some bn)) : PB G w1 w2 v bs e j m bn n2 T2 :=
 ⟨R_mp_grown h.r h.tg hg,h.mp.grown hg (fun k hk=>by cases hk;exact .inl h.nb),hm,h.nb,h.lw,h.bl.grown hg h.bl.size (fun k hk=>by cases hk;exact Nat.le_trans h.lw h.nb)⟩
theorem PB.iter {bn n r : Nat} {T : S48 → Prop} {bt nt cnt : Nat} {L : S48 → Prop} (h : PB G w1 w v bs e j m bn n T) (hr : RangeB w bt r nt L cnt) (hg : w.grownBy w2 (some r)) (hrm : m ≤ r) : PB G w1 w2 v bs e j m bn n T :=
 ⟨Kd.R_grown1 h.r rfl hg (fun e'=>by
  obtain ⟨cells,hc⟩:=Kd.R_typed h.r r e'.symm
  exact hr.iter hc rfl),h.mp.grown hg (fun k hk=>by cases hk;exact .inl hrm),h.tg.grown hg (fun e'=>hr.mapNe h.tg (Option.some.inj e').symm),h.nb,h.lw,h.bl.grown hg h.bl.size (fun k hk=>by cases hk;exact Nat.le_trans h.lw hrm)⟩
/-- While the path is made. -/
structure PC (G : Nat → S48 → Prop) (w1 w : World) (v : Value) (bs : List (Option Nat)) (e : Nat) (v2 : Value) (p : List S48) : Prop where
 g : GB G w1 w v bs e e
 out : Kd.R k48 48 w w1.heap.size (fun _=>True) v2 p
theorem PC.below {p : List S48} (h : PC G w1 w v bs e v2 p) (hb : Below w.heap.size w w2) : PC G w1 w2 v bs e v2 p:=⟨h.g.below hb,Kd.R_below h.out hb⟩
theorem PC.app {p p' : List S48} {v3 : Value} (h : PC G w1 w v bs e v2 p) (hq : Kd.R k48 48 w2 w1.heap.size (fun _=>True) v3 p') (hB : Below w1.heap.size w1 w2) (hg : w.grownBy w2 v2.ownBlock) : PC G w1 w2 v bs e v3 p' :=
 ⟨⟨Kd.R_over' h.g.r (Kd.R_typed h.out) (by decide) hg,h.g.len,(h.g.mp.grown hg (fun k hk => .inr (by
  obtain ⟨cells,hc⟩:=Kd.R_typed h.out k hk
  exact ⟨cells,48,hc⟩))).raise (fun b hb'=>hb'),hB⟩,hq⟩
theorem R_mp_put {base g n cap : Nat} (h : Kd.R kMp 108 w base (fun _=>True) (.slice (some ⟨g,0,none⟩) n cap) bs) (i : Int) (h0 : 0 ≤ i) (h1 : i < n) (b : Option Nat) :
  Kd.R kMp 108 (w.setCell ⟨g,i.toNat,none⟩ (.map b)) base (fun _=>True) (.slice (some ⟨g,0,none⟩) n cap) (bs.set i.toNat b) ∧ base ≤ g ∧ g < w.heap.size ∧ (∃ u,w.cell? ⟨g,i.toNat,none⟩ = some u) ∧ w.frozen? ⟨g,i.toNat,none⟩ = false ∧ ∃ cs,w.heap[g]? = some (.cells cs 108 (0,0)):=by
 obtain ⟨c,hcl,hM,hcc,hfz⟩:=Kd.R_elem h none i h0 h1
 obtain ⟨cs,hg⟩:=Kd.R_typed h g (by simp [Value.ownBlock])
 have hb:=Kd.R_base h g (by simp [Value.ownBlock])
 have r:=(Kd.R_seg (c:=c) (seg:=[Value.map b]) (j:=0) (x':=b) (okp:=fun _=>False) h i h0 h1 hcl hcc (Nat.le_refl 1) (by
  have e : c.drop (0 + [Value.map b].length) = []:=List.drop_eq_nil_of_le (by rw [hcl];exact Nat.le_refl 1)
  rw [e,List.take_zero]
  rfl) (fun _ h=>h.elim)).1
 rw [show i.toNat * kMp.sz + 0 = i.toNat from by rw [show kMp.sz = 1 from rfl];omega] at r
 refine ⟨r,hb,blk_lt hg,?_,?_,cs,hg⟩
 ·cases c with
  | nil=>exact absurd hcl (by decide)
  | cons u c' =>
   have:=hcc 0 u rfl
   rw [show i.toNat * kMp.sz + 0 = i.toNat from by rw [show kMp.sz = 1 from rfl];omega] at this
   exact ⟨u,this⟩
 ·have:=hfz 0
  rwa [show i.toNat * kMp.sz + 0 = i.toNat from by rw [show kMp.sz = 1 from rfl];omega] at this
/-- A new map is laid into the row: the next minute begins. -/
theorem GB.next {g cap : Nat} {zm : Int} (h : GB G w1 w (.slice (some ⟨g,0,none⟩) (e + 1) cap) bs e j) (h0 : 0 ≤ zm) (h1 : zm < ((e + 1 : Nat) : Int)) (hz : zm.toNat + j < e) :
  PB G w1 ((w.alloc (.map #[] 0)).setCell ⟨g,zm.toNat,none⟩ (.map (some w.heap.size))) (.slice (some ⟨g,0,none⟩) (e + 1) cap) (bs.set zm.toNat (some w.heap.size)) e j w.heap.size w.heap.size 0 (fun _=>False):=by
 have hal:=below_alloc (Below.refl w.heap.size w) (.map #[] 0)
 have hr:=Kd.R_below h.r hal
 obtain ⟨r,hb,hlt,_,_,cs,hg⟩:=R_mp_put hr zm h0 h1 (some w.heap.size)
 have hgw : g < w.heap.size:=by
  obtain ⟨cs,hg⟩:=Kd.R_typed h.r g (by simp [Value.ownBlock])
  exact blk_lt hg
 refine ⟨r,fun i hi=>?_,?_,Nat.le_refl _,h.bl.size,Below.setCell (below_step h.bl hal) hb _⟩
 ·obtain ⟨b,n,e1,e2,e3,e4⟩:=h.mp i hi
  refine ⟨b,n,?_,e2,e3,(e4.below hal).step (Below.heap_setCell _ ⟨g,zm.toNat,none⟩ _ b (fun e'=>?_))⟩
  ·rw [List.getElem?_set,if_neg (by omega)];exact e1
  ·exact (e4.below hal).cells hg e'
 ·exact (mapB_made w).step (Below.heap_setCell _ ⟨g,zm.toNat,none⟩ _ w.heap.size (fun e'=>Nat.ne_of_lt hgw e'.symm))
/-- The minute's set is whole: it counts as one of the maps. -/
theorem PB.whole {n bn : Nat} {zm : Int} {T : S48 → Prop} (h : PB G w1 w v bs e j m bn n T) (hz : zm.toNat = e - (j + 1)) (hje : j < e) (hbs : bs[e - (j + 1)]? = some (some bn)) (hl : bs.length = e + 1) (hn : n ≤ 5 ^ (j + 1)) (hT : ∀ c,T c ↔ G (j + 1) c) : GB G w1 w v bs e (j + 1) :=
 ⟨h.r,hl,fun i hi=>by
  by_cases e1 : i = j + 1
  ·subst e1
   exact ⟨bn,n,hbs,hn,h.tg.lt,h.tg.congr hT⟩
  ·obtain ⟨b,n,e2,e3,e4,e5⟩:=h.mp i (by omega)
   exact ⟨b,n,e2,e3,e5.lt,e5⟩,h.bl⟩
end
/-- What the program's safePath answers. -/
noncomputable def safeA (w h : Int) (bl : List S48) (os : List (List S48)) (a b : S48) : List S48 × Bool:=match safeI w h bl os a b with
 | some p=>(p,true)
 | none=>([],false)
theorem safeA_hit {w h : Int} {bl : List S48} {os : List (List S48)} {a b : S48} (hh : HitAt os a a 0) : safeA w h bl os a b = ([],false):=by
 unfold safeA safeI
 rw [chk_pos hh]
theorem safeA_none {w h : Int} {bl : List S48} {os : List (List S48)} {a b : S48} (hh : ¬ HitAt os a a 0) (hn : ∀ s,s < 25 → ¬ EndI w h bl os a b s) : safeA w h bl os a b = ([],false):=by
 unfold safeA safeI
 rw [chk_neg hh]
 cases hf : firstN (EndI w h bl os a b) 25 0 with
 | none=>rfl
 | some e =>
  have:=firstN_some hf
  exact absurd this.1 (hn e (by omega))
theorem safeA_some {w h : Int} {bl : List S48} {os : List (List S48)} {a b : S48} (hh : ¬ HitAt os a a 0) {e : Nat} (he : e < 25) (hn : ∀ s,s < e → ¬ EndI w h bl os a b s) (hE : EndI w h bl os a b e) {p : List S48} (hp : trace (nxI w h bl os b e) a e = some p) : safeA w h bl os a b = (p,true):=by
 unfold safeA safeI
 rw [chk_neg hh,firstN_of (e:=e) hE (fun s _ h1=>hn s h1) (Nat.zero_le _) (by omega)]
 show (match trace (nxI w h bl os b e) a e with
  | some p=>(p,true)
  | none=>([],false)) = (p,true)
 rw [hp]
/-- A range's step, what has come told in one place. -/
theorem wpB_next' {ops : Array Oper} {rest : List Oper} {o : Oper} {a : Act} {Q : Exit → Act → World → Prop} {w : World} {b n : Nat} (hg : o.guard = none) (it : Operand) (hop : o.op = Op.next it false) {r cnt : Nat} {Left : S48 → Prop} (hit : a.eval it = .pointer (some ⟨r,0,none⟩)) (h : RangeB w b r n Left cnt)
  (hDone : Aside0 (∀ c,W64 c → ¬ Left c) → wpList Try.prog ops Q rest (a.put o.dst (.tuple #[.bool false])) w)
  (hMore : ∀ (c : S48) (v : Value) (w' : World) (cnt' : Nat),Aside0 (Left c ∧ RangeB w' b r n (fun d=>Left d ∧ d ≠ c) cnt' ∧ cnt' < cnt ∧ w.grownBy w' (some r)) → (Instr.entry (.pointer (some ⟨r,0,none⟩))).run Try.prog w' = .ok (.tuple #[.agg #[.int .i64 c.f0,.int .i64 c.f1],v]) w' → wpList Try.prog ops Q rest (a.put o.dst (.tuple #[.bool true,.agg #[.int .i64 c.f0,.int .i64 c.f1],v])) w') : wpList Try.prog ops Q (o :: rest) a w :=
 wpB_next hg it hop hit h (fun hd=>hDone ⟨hd⟩) (fun c v w' cnt' _ h2 h3 h4 h5 _ h7=>hMore c v w' cnt' ⟨h2,h3,h4,h5⟩ h7)
theorem below_of_grown {w w' : World} (hg : w.grownBy w' none) : Below w.heap.size w w':=⟨hg.os,hg.tape,hg.output,hg.size,fun i hi=>hg.block i hi (by simp)⟩
theorem PB.congr {G : Nat → S48 → Prop} {w1 w : World} {v : Value} {bs : List (Option Nat)} {e j m bn n : Nat} {T T2 : S48 → Prop} (h : PB G w1 w v bs e j m bn n T) (hT : ∀ c,T c ↔ T2 c) : PB G w1 w v bs e j m bn n T2:=⟨h.r,h.mp,h.tg.congr hT,h.nb,h.lw,h.bl⟩
end Go.Proofs.Ytbpccdbkaiigcaa.G

/- The walk of impl.safePath. -/
namespace Go.Proofs.Ytbpccdbkaiigcaa.G
open Go.RowKit Go.Maps Go.Proofs.YtbpccdbkaiigcaaW.PrintWords Go.Proofs.YtbpccdbkaiigcaaW.PrintLast Go.Proofs.YtbpccdbkaiigcaaW.PrintMore
set_option linter.unusedVariables false
set_option linter.unusedSimpArgs false
/-- At no minute from e on does one of the others stand at b. -/
def Stays (os : List (List S48)) (b : S48) (e : Nat) (t : Nat) : Prop := ∀ s : Nat,e ≤ s → s < t → ¬ ∃ p ∈ os,cat p (s : Int) = b
theorem stays_succ {os : List (List S48)} {b : S48} {e t : Nat} (h : e ≤ t) : Stays os b e (t + 1) ↔ Stays os b e t ∧ ¬ ∃ p ∈ os,cat p (t : Int) = b:=by
 constructor
 ·intro m
  exact ⟨fun s h0 h1=>m s h0 (by omega),m t h (by omega)⟩
 ·rintro ⟨m1,m2⟩ s h0 h1
  by_cases e' : s = t
  ·rw [e'];exact m2
  ·exact m1 s h0 (by omega)
/-- The next minute's set, while it is filled: what comes of the cells behind, and of c's first i neighbours. -/
def T5 (os : List (List S48)) (NF : S48 → List S48) (G L : S48 → Prop) (c : S48) (z : Int) (i : Nat) (x : S48) : Prop:=(∃ d,(G d ∧ ¬ L d) ∧ x ∈ NF d ∧ ¬ HitAt os x d z) ∨ (x ∈ (NF c).take i ∧ ¬ HitAt os x c z)
section
variable {os : List (List S48)} {NF : S48 → List S48} {G L : S48 → Prop} {c x y : S48} {z : Int} {i : Nat}
theorem t5_zero : T5 os NF G L c z 0 y ↔ ∃ d,(G d ∧ ¬ L d) ∧ y ∈ NF d ∧ ¬ HitAt os y d z:=⟨fun h=>h.elim id (fun h=>by rw [List.take_zero] at h;exact absurd h.1 List.not_mem_nil),.inl⟩
theorem take_succ48 {l : List S48} (hi : i < l.length) (hx : rd_T48 l (i : Int) = x) : l.take (i + 1) = l.take i ++ [x]:=by
 rw [List.take_succ_eq_append_getElem hi]
 congr 2
 rw [← hx]
 unfold rd_T48
 rw [Int.toNat_natCast,List.getD_eq_getElem?_getD,List.getElem?_eq_getElem hi]
 rfl
theorem t5_hit (hi : i < (NF c).length) (hx : rd_T48 (NF c) (i : Int) = x) (hh : HitAt os x c z) : T5 os NF G L c z i y ↔ T5 os NF G L c z (i + 1) y:=by
 unfold T5
 rw [take_succ48 hi hx,List.mem_append,List.mem_singleton]
 constructor
 ·rintro (h|⟨h,h2⟩)
  ·exact .inl h
  ·exact .inr ⟨.inl h,h2⟩
 ·rintro (h|⟨h|h,h2⟩)
  ·exact .inl h
  ·exact .inr ⟨h,h2⟩
  ·subst h;exact absurd hh h2
theorem t5_miss (hi : i < (NF c).length) (hx : rd_T48 (NF c) (i : Int) = x) (hh : ¬ HitAt os x c z) : (y = x ∨ T5 os NF G L c z i y) ↔ T5 os NF G L c z (i + 1) y:=by
 unfold T5
 rw [take_succ48 hi hx,List.mem_append,List.mem_singleton]
 constructor
 ·rintro (h|h|⟨h,h2⟩)
  ·subst h;exact .inr ⟨.inr rfl,hh⟩
  ·exact .inl h
  ·exact .inr ⟨.inl h,h2⟩
 ·rintro (h|⟨h|h,h2⟩)
  ·exact .inr (.inl h)
  ·exact .inr (.inr ⟨h,h2⟩)
  ·exact .inl h
theorem t5_all (hc : G c) : T5 os NF G L c z (NF c).length y ↔ ∃ d,(G d ∧ ¬ (L d ∧ d ≠ c)) ∧ y ∈ NF d ∧ ¬ HitAt os y d z:=by
 unfold T5
 rw [List.take_length]
 constructor
 ·rintro (⟨d,⟨h1,h2⟩,h3⟩|h)
  ·exact ⟨d,⟨h1,fun m=>h2 m.1⟩,h3⟩
  ·exact ⟨c,⟨hc,fun m=>m.2 rfl⟩,h⟩
 ·rintro ⟨d,⟨h1,h2⟩,h3⟩
  by_cases e : d = c
  ·subst e;exact .inr h3
  ·exact .inl ⟨d,⟨h1,fun m=>h2 ⟨m,e⟩⟩,h3⟩
theorem t5_done {w h : Int} {bl : List S48} {b : S48} {e j : Nat} (hd : ∀ d,W64 d → ¬ L d) (hw : ∀ d,GI w h bl os b e j d → W64 d) (hz : z = ((e - j : Nat) : Int)) : (∃ d,(GI w h bl os b e j d ∧ ¬ L d) ∧ y ∈ nbOf w h bl d ∧ ¬ HitAt os y d z) ↔ GI w h bl os b e (j + 1) y:=by
 subst hz
 exact ⟨fun ⟨d,⟨h1,_⟩,h2,h3⟩=>⟨d,h1,h2,h3⟩,fun ⟨d,h1,h2,h3⟩=>⟨d,⟨h1,hd d (hw d h1)⟩,h2,h3⟩⟩
theorem t5_len {nt n' n2 cn i j e l : Nat} (h1 : n' + 5 * cn ≤ 5 * nt) (h2 : nt ≤ 5 ^ j) (h3 : j < e) (h4 : e ≤ 25) (h5 : n2 ≤ n' + i) (h6 : i ≤ l) (h7 : l ≤ 5) : n2 < maxLen:=by
 have:=Nat.pow_le_pow_right (n:=5) (by decide) (show j ≤ 24 by omega)
 have e24 : 5 ^ 24 = 59604644775390625:=by decide
 unfold maxLen
 omega
end
theorem trace_nextI {nx : Nat → S48 → Option S48} {a : S48} {t : Nat} {p p' : List S48} (h : trace nx a t = some p) (h' : trace nx a (t + 1) = some p') : ∃ c,nx (t + 1) (rd_T48 p (t : Int)) = some c ∧ p' = p ++ [c]:=by
 rw [trace,h] at h'
 dsimp only at h'
 cases hc : nx (t + 1) (rd_T48 p (t : Int)) with
 | none=>rw [hc] at h';cases h'
 | some c =>
  rw [hc] at h'
  exact ⟨c,rfl,(Option.some.inj h').symm⟩
theorem stays_all {os : List (List S48)} {b : S48} {e : Nat} : Stays os b e 26 ↔ ∀ s : Nat,e ≤ s → s ≤ 25 → ¬ ∃ p ∈ os,cat p (s : Int) = b:=⟨fun m s h0 h1=>m s h0 (by omega),fun m s h0 h1=>m s h0 (by omega)⟩
set_option maxHeartbeats 8000000 in
set_option maxRecDepth 100000 in
theorem impl_safePath.hit (a0_0 a0_1 : Int) (A0_2 : Option Addr) (c0_2 : Nat) (l0_2 : List S48) (A1 : Option Addr) (c1 : Nat) (os : List (List S48)) (c2 c3 : S48) (w : World) (hr0_2 : Kd.C k48 w A0_2 l0_2.length l0_2) (hc0_2 : l0_2.length ≤ c0_2) (hr1 : Kd.C SL6 w A1 os.length os) (hc1 : os.length ≤ c1) (hf : FloorOk a0_0 a0_1 l0_2) (hb : (l0_2.length : Int) ≤ 1099511627776) (ha : Free a0_0 a0_1 l0_2 c2) (hbt : Free a0_0 a0_1 l0_2 c3) (ho : Len os) (R : List S48 × Bool) (hR : R = ([],false)) (hh : HitAt os c2 c2 0) :
  Calls Try.prog 73 #[.agg #[.int .i64 a0_0,.int .i64 a0_1,.slice A0_2 l0_2.length c0_2],.slice A1 os.length c1,.agg #[.int .i64 c2.f0,.int .i64 c2.f1],.agg #[.int .i64 c3.f0,.int .i64 c3.f1]] w fun e_ w' => ∃ u : Value,e_ = .returned (.tuple #[u,.bool R.2]) ∧ Kd.R k48 48 w' w.heap.size (fun _=>True) u R.1 ∧ Below w.heap.size w w':=by
 have hu29:=Try.underlying29
 have hu48:=Try.underlying48
 have HR0:=Aside0.mk hr0_2
 have HC0:=Aside0.mk hc0_2
 have HR1:=Aside0.mk hr1
 have HC1:=Aside0.mk hc1
 have HFL:=Aside0.mk hf
 have HBL:=Aside0.mk hb
 have HA:=Aside0.mk ha
 have HT:=Aside0.mk hbt
 have HO:=Aside0.mk ho
 clear hr0_2 hc0_2 hr1 hc1 hf hb ha hbt ho
 have HH:=Aside0.mk hh
 subst hR
 clear hh
 go_enter Try.func73,Try.ntmps73
 go_wp2_with (first|((with_reducible refine gate_dst (N:=4) rfl ?_);refine zzc 4 #[.int .i64 a0_0,.int .i64 a0_1,.slice A0_2 l0_2.length c0_2] 29 ?_;intro g4 hgg4 w4 hbox hb;have HF4:=Aside0.mk hbox;have HB4:=Aside0.mk hb;clear hbox hb hgg4)|((with_reducible refine gate_dst (N:=6) rfl ?_);refine zzc 6 #[.int .i64 c2.f0,.int .i64 c2.f1] 48 ?_;intro g6 hgg6 w6 hbox hb;have HF6:=Aside0.mk hbox;have HF4':=Aside0.mk (blk_below HF4.out hb);have HB6:=Aside0.mk (below_step HB4.out hb);clear HF4 HB4 hbox hb hgg6;have f60:=zz0 HF6;have f61:=zz1 HF6)|((with_reducible refine gate_dst (N:=7) rfl ?_);refine zzc 7 #[.int .i64 c3.f0,.int .i64 c3.f1] 48 ?_;intro g7 hgg7 w7 hbox hb;have HF7:=Aside0.mk hbox;have HF4'':=Aside0.mk (blk_below HF4'.out hb);have HF6':=Aside0.mk (blk_below HF6.out hb);have HB7:=Aside0.mk (below_step HB6.out hb);clear HF4' HF6 HB6 hbox hb hgg7 f60 f61;have f60:=zz0 HF6';have f61:=zz1 HF6')|(go_at_call 93;(with_reducible refine (impl_isHit.calls A1 c1 os c2 c2 0 _ (Kd.C_below HR1.out HB7.out) HC1.out HO.out ⟨by omega,by omega⟩).mono ?_);rintro e_ w1 ⟨rfl,hB⟩;rw [chk_pos HH.out];have HF4:=Aside0.mk (blk_below HF4''.out hB);have HF6:=Aside0.mk (blk_below HF6'.out hB);have HF7_:=Aside0.mk (blk_below HF7.out hB);have HB1:=Aside0.mk (below_step HB7.out hB);clear f60 f61 HF4'' HF6' HF7 HB7 hB))
 go_ret2
 exact ⟨_,rfl,Kd.R_nil _ _ _ _ _,HB1.out⟩
set_option maxHeartbeats 8000000 in
set_option maxRecDepth 100000 in
theorem impl_safePath.main (a0_0 a0_1 : Int) (A0_2 : Option Addr) (c0_2 : Nat) (l0_2 : List S48) (A1 : Option Addr) (c1 : Nat) (os : List (List S48)) (c2 c3 : S48) (w : World) (hr0_2 : Kd.C k48 w A0_2 l0_2.length l0_2) (hc0_2 : l0_2.length ≤ c0_2) (hr1 : Kd.C SL6 w A1 os.length os) (hc1 : os.length ≤ c1) (hf : FloorOk a0_0 a0_1 l0_2) (hb : (l0_2.length : Int) ≤ 1099511627776) (ha : Free a0_0 a0_1 l0_2 c2) (hbt : Free a0_0 a0_1 l0_2 c3) (ho : Len os) (R : List S48 × Bool) (hh : ¬ HitAt os c2 c2 0) (hRn : (∀ s,s < 25 → ¬ EndI a0_0 a0_1 l0_2 os c2 c3 s) → R = ([],false)) (hRs : ∀ e,e < 25 → (∀ s,s < e → ¬ EndI a0_0 a0_1 l0_2 os c2 c3 s) → EndI a0_0 a0_1 l0_2 os c2 c3 e → ∀ p,trace (nxI a0_0 a0_1 l0_2 os c3 e) c2 e = some p → R = (p,true)) :
  Calls Try.prog 73 #[.agg #[.int .i64 a0_0,.int .i64 a0_1,.slice A0_2 l0_2.length c0_2],.slice A1 os.length c1,.agg #[.int .i64 c2.f0,.int .i64 c2.f1],.agg #[.int .i64 c3.f0,.int .i64 c3.f1]] w fun e_ w' => ∃ u : Value,e_ = .returned (.tuple #[u,.bool R.2]) ∧ Kd.R k48 48 w' w.heap.size (fun _=>True) u R.1 ∧ Below w.heap.size w w':=by
 have hu29:=Try.underlying29
 have hu48:=Try.underlying48
 have HR0:=Aside0.mk hr0_2
 have HC0:=Aside0.mk hc0_2
 have HR1:=Aside0.mk hr1
 have HC1:=Aside0.mk hc1
 have HFL:=Aside0.mk hf
 have HBL:=Aside0.mk hb
 have HA:=Aside0.mk ha
 have HT:=Aside0.mk hbt
 have HO:=Aside0.mk ho
 clear hr0_2 hc0_2 hr1 hc1 hf hb ha hbt ho
 have HNH:=Aside0.mk hh
 have HRN:=Aside0.mk hRn
 have HRS:=Aside0.mk hRs
 have hmm := @run_makeMap Try.prog
 clear hh hRn hRs
 go_enter Try.func73,Try.ntmps73
 go_wp2_with (first|((with_reducible refine gate_dst (N:=4) rfl ?_);refine zzc 4 #[.int .i64 a0_0,.int .i64 a0_1,.slice A0_2 l0_2.length c0_2] 29 ?_;intro g4 hgg4 w4 hbox hb;have HF4:=Aside0.mk hbox;have HB4:=Aside0.mk hb;clear hbox hb hgg4)|((with_reducible refine gate_dst (N:=6) rfl ?_);refine zzc 6 #[.int .i64 c2.f0,.int .i64 c2.f1] 48 ?_;intro g6 hgg6 w6 hbox hb;have HF6:=Aside0.mk hbox;have HF4':=Aside0.mk (blk_below HF4.out hb);have HB6:=Aside0.mk (below_step HB4.out hb);clear HF4 HB4 hbox hb hgg6;have f60:=zz0 HF6;have f61:=zz1 HF6)|((with_reducible refine gate_dst (N:=7) rfl ?_);refine zzc 7 #[.int .i64 c3.f0,.int .i64 c3.f1] 48 ?_;intro g7 hgg7 w7 hbox hb;have HF7:=Aside0.mk hbox;have HF4'':=Aside0.mk (blk_below HF4'.out hb);have HF6':=Aside0.mk (blk_below HF6.out hb);have HB7:=Aside0.mk (below_step HB6.out hb);clear HF4' HF6 HB6 hbox hb hgg7 f60 f61;have f60:=zz0 HF6';have f61:=zz1 HF6')|(go_at_call 93;(with_reducible refine (impl_isHit.calls A1 c1 os c2 c2 0 _ (Kd.C_below HR1.out HB7.out) HC1.out HO.out ⟨by omega,by omega⟩).mono ?_);rintro e_ w1 ⟨rfl,hB⟩;rw [chk_neg HNH.out];have HF4:=Aside0.mk (blk_below HF4''.out hB);have HF6:=Aside0.mk (blk_below HF6'.out hB);have HF7_:=Aside0.mk (blk_below HF7.out hB);have HB1:=Aside0.mk (below_step HB7.out hB);clear f60 f61 HF4'' HF6' HF7 HB7 hB))
 go_loopg [27] 30 (fun kq v27 w' => ∃ e : Nat,v27 = .int .i64 (e : Int) ∧ Aside0 (e + kq = 30 ∧ e ≤ 25) ∧ Aside0 (∀ s,s < e → ¬ EndI a0_0 a0_1 l0_2 os c2 c3 s) ∧ Aside0 (Below w1.heap.size w1 w'))
 case atStart=>exact ⟨0,rfl,⟨by omega⟩,⟨fun s h=>by omega⟩,⟨Below.refl _ _⟩⟩
 case round =>
  obtain ⟨e,rfl,HE,HN,HB⟩:=hrel
  cases gk with
  | zero=>exact absurd HE.out (by omega)
  | succ k1 =>
   by_cases he : e < 25
   ·have ce : decide ((e : Int) < 25) = true:=decide_eq_true (by omega)
    have he2 : e < 25:=he
    clear he
    go_wp2_with (first|((with_reducible refine gate_dst (N:=12) rfl ?_);refine zzc 12 #[.int .i64 0] 3 ?_;intro g12 hgg12 w12 hbox hb;have HF12:=Aside0.mk hbox;have HB12:=Aside0.mk hb;have HG12:=Aside0.mk hgg12;clear hbox hb hgg12;have hz0:=zz0 HF12;have hzf0:=blk_frozen HF12.out 0))
    have HG:=Aside0.mk (And.intro (show w1.heap.size ≤ g12 from Nat.le_trans HB.out.size (Nat.le_of_eq HG12.out.symm)) (blk_put (cs := #[.int .i64 0]) HF12.out 0 (.int .i64 (e : Int)) rfl : (w12.setCell ⟨g12,0,none⟩ (.int .i64 (e : Int))).heap[g12]? = some (.cells #[.int .i64 (e : Int)] 3 (0,0))))
    have HB2:=Aside0.mk (below_step HB.out (below_set (j:=0) (v := .int .i64 (e : Int)) HB12.out (Nat.le_of_eq HG12.out.symm)))
    clear HB hz0 hzf0 HF12 HB12 HG12
    generalize w12.setCell ⟨g12,0,none⟩ (.int .i64 (e : Int)) = w12_ at HG HB2 ⊢
    go_loopg [11,12] 30 (fun kq v11 v12 w' => ∃ (t : Nat) (st : Bool) (g : Nat),v11 = .bool st ∧ v12 = .pointer (some ⟨g,0,none⟩) ∧ Aside0 (t + kq = e + 30 ∧ e ≤ t ∧ t ≤ 26) ∧ Aside0 (st = true ↔ Stays os c3 e t) ∧ Aside0 (w1.heap.size ≤ g ∧ w'.heap[g]? = some (.cells #[.int .i64 (t : Int)] 3 (0,0))) ∧ Aside0 (Below w1.heap.size w1 w'))
    case atStart=>exact ⟨e,true,g12,rfl,rfl,⟨by omega⟩,⟨⟨fun _ s h0 h1=>by omega,fun _=>rfl⟩⟩,HG,HB2⟩
    case round =>
     clear HG HB2
     obtain ⟨t,st,g,rfl,rfl,HTT,HST,HG,HB⟩:=hrel
     have ft0 : wr.cell? ⟨g,0,none⟩ = some (.int .i64 (t : Int)):=(blk_cell HG.out.2 0).trans rfl
     cases gk with
     | zero=>exact absurd HTT.out (by omega)
     | succ k2 =>
      have ht100 : t < 100:=by have:=HTT.out;omega
      by_cases ht : t ≤ 25
      ·have ct : decide ((t : Int) ≤ 25) = true:=decide_eq_true (by omega)
       have HT25:=Aside0.mk ht
       have HSS:=Aside0.mk (stays_succ (os:=os) (b:=c3) HTT.out.2.1)
       clear ht
       cases st with
       | true =>
        by_cases hq : ∃ p ∈ os,cat p (t : Int) = c3
        ·have HQ:=Aside0.mk hq
         clear hq
         go_wp2_with (first|(go_at_call 71;(with_reducible refine (cont94 c3 (t : Int) g g7 A1 c1 os _ ⟨by omega,by have:=HTT.out;omega⟩ HG.out.2 (blk_below HF7_.out HB.out) (Kd.C_below HR1.out (below_step HB1.out HB.out)) HC1.out HO.out).mono ?_);rintro e_ w39 ⟨rfl,hB⟩;rw [chk_pos HQ.out];have HG2:=Aside0.mk (And.intro HG.out.1 (blk_below HG.out.2 hB));have HB2:=Aside0.mk (below_step HB.out hB);clear ft0 HG HB hB;have ft0 : w39.cell? ⟨g,0,none⟩ = some (.int .i64 (t : Int)):=(blk_cell HG2.out.2 0).trans rfl)|((with_reducible refine gate_dst (N:=12) rfl ?_);refine zzc 12 #[.int .i64 0] 3 ?_;intro g12 hgg12 w12 hbox hb;have HF12:=Aside0.mk hbox;have HB12:=Aside0.mk hb;have HG12:=Aside0.mk hgg12;clear hbox hb hgg12;have hz0:=zz0 HF12;have hzf0:=blk_frozen HF12.out 0))
         go_roundg k2
         case measure=>omega
         case rel=>exact ⟨t + 1,false,g12,rfl,rfl,⟨by have:=HTT.out;have:=HT25.out;omega⟩,⟨⟨fun h=>(by cases h),fun h=>absurd HQ.out (HSS.out.1 h).2⟩⟩,⟨Nat.le_trans HB2.out.size (Nat.le_of_eq HG12.out.symm),blk_put (cs := #[.int .i64 (t : Int)]) (blk_put (cs := #[.int .i64 0]) HF12.out 0 _ rfl) 0 _ rfl⟩,⟨below_step HB2.out (below_set (j:=0) (below_set (j:=0) HB12.out (Nat.le_of_eq HG12.out.symm)) (Nat.le_of_eq HG12.out.symm))⟩⟩
        ·have HQ:=Aside0.mk hq
         clear hq
         go_wp2_with (first|(go_at_call 71;(with_reducible refine (cont94 c3 (t : Int) g g7 A1 c1 os _ ⟨by omega,by have:=HTT.out;omega⟩ HG.out.2 (blk_below HF7_.out HB.out) (Kd.C_below HR1.out (below_step HB1.out HB.out)) HC1.out HO.out).mono ?_);rintro e_ w39 ⟨rfl,hB⟩;rw [chk_neg HQ.out];have HG2:=Aside0.mk (And.intro HG.out.1 (blk_below HG.out.2 hB));have HB2:=Aside0.mk (below_step HB.out hB);clear ft0 HG HB hB;have ft0 : w39.cell? ⟨g,0,none⟩ = some (.int .i64 (t : Int)):=(blk_cell HG2.out.2 0).trans rfl)|((with_reducible refine gate_dst (N:=12) rfl ?_);refine zzc 12 #[.int .i64 0] 3 ?_;intro g12 hgg12 w12 hbox hb;have HF12:=Aside0.mk hbox;have HB12:=Aside0.mk hb;have HG12:=Aside0.mk hgg12;clear hbox hb hgg12;have hz0:=zz0 HF12;have hzf0:=blk_frozen HF12.out 0))
         go_roundg k2
         case measure=>omega
         case rel=>exact ⟨t + 1,true,g12,rfl,rfl,⟨by have:=HTT.out;have:=HT25.out;omega⟩,⟨⟨fun _=>HSS.out.2 ⟨HST.out.1 (by first|rfl|trivial),HQ.out⟩,fun _=>rfl⟩⟩,⟨Nat.le_trans HB2.out.size (Nat.le_of_eq HG12.out.symm),blk_put (cs := #[.int .i64 (t : Int)]) (blk_put (cs := #[.int .i64 0]) HF12.out 0 _ rfl) 0 _ rfl⟩,⟨below_step HB2.out (below_set (j:=0) (below_set (j:=0) HB12.out (Nat.le_of_eq HG12.out.symm)) (Nat.le_of_eq HG12.out.symm))⟩⟩
       | false =>
        have HG2:=HG
        have HB2:=HB
        clear HG HB
        go_wp2_with (first|((with_reducible refine gate_dst (N:=12) rfl ?_);refine zzc 12 #[.int .i64 0] 3 ?_;intro g12 hgg12 w12 hbox hb;have HF12:=Aside0.mk hbox;have HB12:=Aside0.mk hb;have HG12:=Aside0.mk hgg12;clear hbox hb hgg12;have hz0:=zz0 HF12;have hzf0:=blk_frozen HF12.out 0))
        go_roundg k2
        case measure=>omega
        case rel=>exact ⟨t + 1,false,g12,rfl,rfl,⟨by have:=HTT.out;have:=HT25.out;omega⟩,⟨⟨fun h=>(by cases h),fun h=>(by have:=HST.out.2 (HSS.out.1 h).1;cases this)⟩⟩,⟨Nat.le_trans HB2.out.size (Nat.le_of_eq HG12.out.symm),blk_put (cs := #[.int .i64 (t : Int)]) (blk_put (cs := #[.int .i64 0]) HF12.out 0 _ rfl) 0 _ rfl⟩,⟨below_step HB2.out (below_set (j:=0) (below_set (j:=0) HB12.out (Nat.le_of_eq HG12.out.symm)) (Nat.le_of_eq HG12.out.symm))⟩⟩
      ·have ct : decide ((t : Int) ≤ 25) = false:=decide_eq_false (by omega)
       obtain rfl : t = 26:=by have:=HTT.out;omega
       cases st with
       | false =>
        have HNE : Aside0 (∀ s,s < e + 1 → ¬ EndI a0_0 a0_1 l0_2 os c2 c3 s):=⟨fun s hs hE=>by
         by_cases e' : s = e
         ·subst e'
          have:=HST.out.2 (stays_all.2 hE.1)
          cases this
         ·exact HN.out s (by omega) hE⟩
        go_wp2
        go_roundg k1
        case measure=>omega
        case rel=>exact ⟨e + 1,by go_num,⟨by have:=HE.out;omega⟩,HNE,HB⟩
       | true =>
        have HSTY : Aside0 (∀ s : Nat,e ≤ s → s ≤ 25 → ¬ ∃ p ∈ os,cat p (s : Int) = c3):=⟨stays_all.1 (HST.out.1 rfl)⟩
        clear HST HTT HG
        obtain ⟨wo,rfl⟩ : ∃ wo : World,wo = wr:=⟨_,rfl⟩
        obtain ⟨z0,hz0⟩ : ∃ z0 : Int,(e : Int) + 1 = z0:=⟨_,rfl⟩
        have HZ0 : Aside0 (z0 = (e : Int) + 1):=⟨hz0.symm⟩
        have hwz : wrap64 ((e : Int) + 1) = z0:=by rw [wrap64_id (by omega) (by omega)];exact hz0
        have p1 : (0 ≤ (e : Int)) = True:=eq_true (by omega)
        have p2 : ((e : Int) < ((e + 1 : Nat) : Int)) = True:=eq_true (by omega)
        have p3 : ((e : Int) < (e : Int) + 1) = True:=eq_true (by omega)
        have HW3 : Aside0 (W64 c3):=⟨(nbs_impl HFL.out HBL.out).wf c3 HT.out⟩
        have HBo:=HB
        have f70 : wo.cell? ⟨g7,0,none⟩ = some (.int .i64 c3.f0):=(blk_cell (blk_below HF7_.out HB.out) 0).trans rfl;have f71 : wo.cell? ⟨g7,1,none⟩ = some (.int .i64 c3.f1):=(blk_cell (blk_below HF7_.out HB.out) 1).trans rfl
        clear hz0 ce
        go_wp2_with (first|((with_reducible refine gate_dst (N:=46) rfl ?_);refine wp_add rfl (.tmp 45) (.const (.int .i64 1)) rfl rfl rfl hwz ?_)|((with_reducible refine gate_dst (N:=47) rfl ?_);refine Kd.R_make kMp _ 108 rfl (N:=47) rfl 107 _ _ rfl (z0 : Int) rfl rfl Try.underlying107 (.map none) 8 info108 rfl (by decide) (by omega) none (ok:=fun _=>True) (okp:=fun _=>True) rfl (fun _ hk=>hk) trivial (by have:=HZ0.out;omega) (by have:=HZ0.out;omega) (Below.refl _ _) (Nat.le_refl _) ?_;intro v47 w47 hS hb hg_ hnew_;clear hg_ hnew_;rw [show z0.toNat = e + 1 from by have:=HZ0.out;omega] at hS;obtain ⟨g13,c13,ev,_,_,_⟩:=Kd.R_form hS (by rw [List.length_replicate];omega);rw [List.length_replicate] at ev;subst ev;have HS47:=Aside0.mk hS;have HB47:=Aside0.mk hb;clear hS hb f70 f71;have f70 : (w47.alloc (.map #[] 0)).cell? ⟨g7,0,none⟩ = some (.int .i64 c3.f0):=(blk_cell (blk_below HF7_.out (below_step (below_step HB.out HB47.out) (below_alloc (Below.refl _ _) (.map #[] 0)))) 0).trans rfl;have f71 : (w47.alloc (.map #[] 0)).cell? ⟨g7,1,none⟩ = some (.int .i64 c3.f1):=(blk_cell (blk_below HF7_.out (below_step (below_step HB.out HB47.out) (below_alloc (Below.refl _ _) (.map #[] 0)))) 1).trans rfl)|(refine wpB_insert (c:=c3) (b:=w47.heap.size) (n:=0) (S:=fun _=>False) rfl (.tmp 50) (.tmp 51) (.const (.bool true)) rfl rfl rfl rfl (mapB_made w47) (by decide) HW3.out ?_;intro w51 hm hg;have hR51:=R_mp_grown (Kd.R_below HS47.out (below_alloc (Below.refl _ _) (.map #[] 0))) (mapB_made w47) hg;obtain ⟨hR9,hgo,_,⟨u51,hu⟩,hfz,cs51,hcs⟩:=R_mp_put hR51 (e : Int) (by omega) (by omega) (some w47.heap.size);rw [Int.toNat_natCast] at hu hfz hR9;have HM51:=Aside0.mk hm;have HR9:=Aside0.mk hR9;have HGO:=Aside0.mk hgo;have HCS:=Aside0.mk hcs;have hb51:=below_step HB47.out (below_alloc (Below.refl _ _) (.map #[] 0));have HB51:=Aside0.mk (hb51.grown hg hb51.size (fun k hk=>by cases hk;exact HB47.out.size));clear hm hg hR51 hR9 hgo hcs hb51 f70 f71 HS47))
        have HG0 : Aside0 (GB (GI a0_0 a0_1 l0_2 os c3 e) wo (w51.setCell ⟨g13,e,none⟩ (.map (some w47.heap.size))) (.slice (some ⟨g13,0,none⟩) (e + 1) c13) ((List.replicate (e + 1) none).set e (some w47.heap.size)) e 0):=⟨HR9.out,by rw [List.length_set,List.length_replicate],fun i hi=>by
         obtain rfl : i = 0:=by omega
         have hm9:=HM51.out.step (Below.heap_setCell w51 ⟨g13,e,none⟩ (.map (some w47.heap.size)) w47.heap.size (fun e'=>HM51.out.cells HCS.out e'))
         refine ⟨w47.heap.size,1,?_,by decide,hm9.lt,hm9.congr (fun d=>⟨fun h=>h.elim id (fun h=>h.elim),Or.inl⟩)⟩
         rw [Nat.sub_zero,List.getElem?_set,if_pos rfl,if_pos (by rw [List.length_replicate];omega)],Below.setCell HB51.out HGO.out _⟩
        clear HR9 HM51 HCS HGO HB51 HB47 hu hfz p1 p2 p3 hwz HB
        generalize w51.setCell ⟨g13,e,none⟩ (.map (some w47.heap.size)) = w53_ at HG0 ⊢
        go_loopg [14] 30 (fun kq v14 w' => ∃ (j : Nat) (z : Int) (bs : List (Option Nat)),v14 = .int .i64 z ∧ Aside0 (z = (e : Int) - j ∧ j ≤ e ∧ j + kq = 30) ∧ Aside0 (GB (GI a0_0 a0_1 l0_2 os c3 e) wo w' (.slice (some ⟨g13,0,none⟩) (e + 1) c13) bs e j))
        case atStart=>exact ⟨0,(e : Int),_,rfl,⟨by omega⟩,HG0⟩
        case round =>
         clear HG0
         obtain ⟨j,z,bs,rfl,HZJ,HG⟩:=hrel
         cases gk with
         | zero=>exact absurd HZJ.out (by omega)
         | succ k3 =>
          by_cases hz : 0 < z
          ·have cz : decide (0 < z) = true:=decide_eq_true hz
           have HZP : Aside0 (0 < z ∧ z ≤ 25):=⟨by have:=HZJ.out;omega⟩
           obtain ⟨zm,hzm⟩ : ∃ zm : Int,z - 1 = zm:=⟨_,rfl⟩
           have HZM : Aside0 (zm = z - 1):=⟨hzm.symm⟩
           have hwzm : wrap64 (z - 1) = zm:=by rw [wrap64_id (by omega) (by have:=HZJ.out;omega)];exact hzm
           have q1 : (0 ≤ zm) = True:=eq_true (by omega)
           have q2 : (zm < ((e + 1 : Nat) : Int)) = True:=eq_true (by have:=HZJ.out;omega)
           have q3 : (zm < (e : Int) + 1) = True:=eq_true (by have:=HZJ.out;omega)
           have q4 : (0 ≤ z) = True:=eq_true (by omega)
           have q5 : (z < ((e + 1 : Nat) : Int)) = True:=eq_true (by have:=HZJ.out;omega)
           have q6 : (z < (e : Int) + 1) = True:=eq_true (by have:=HZJ.out;omega)
           have HZT : Aside0 (zm.toNat = e - (j + 1) ∧ j < e ∧ z.toNat = e - j ∧ z = ((e - j : Nat) : Int)):=⟨by have:=HZJ.out;omega⟩
           have HBSL:=Aside0.mk HG.out.len
           have HN:=Aside0.mk (HG.out.next (zm:=zm) (by omega) (by have:=HZJ.out;omega) (by have:=HZT.out;omega))
           obtain ⟨_,_,_,⟨u,hu⟩,hfz,_⟩:=R_mp_put (Kd.R_below HG.out.r (below_alloc (Below.refl _ _) (.map #[] 0))) zm (by omega) (by have:=HZJ.out;omega) none
           clear hz hzm
           go_upto_region 20 with (fail)
           clear hu hfz HG
           generalize (wr.alloc (.map #[] 0)).setCell ⟨g13,zm.toNat,none⟩ (.map (some wr.heap.size)) = w63_ at HN ⊢
           generalize wr.heap.size = bn at HN ⊢
           obtain ⟨bs',hbs⟩ : ∃ b,bs.set zm.toNat (some bn) = b:=⟨_,rfl⟩
           have HBN : Aside0 (bs'[e - (j + 1)]? = some (some bn) ∧ bs'.length = e + 1):=⟨by
            rw [← hbs,List.length_set,List.getElem?_set,if_pos HZT.out.1,if_pos (by rw [HBSL.out];have:=HZT.out;omega)]
            exact ⟨rfl,HBSL.out⟩⟩
           rw [hbs] at HN
           obtain ⟨bt,nt,hb1,hn1,hlt1,hm1⟩:=HN.out.mp j (Nat.le_refl _)
           obtain ⟨ad13,ea,hgx⟩:=at_mp (Kd.R_reads' HN.out.r).2.2 z (by have:=HZP.out;omega) (by rw [HBN.out.2];have:=HZT.out;omega) (b:=some bt) (by rw [HZT.out.2.2.1];exact hb1)
           cases ea
           rw [add_plain] at hgx
           have HMT:=Aside0.mk hm1
           have HNT:=Aside0.mk hn1
           have HBT:=Aside0.mk hlt1
           clear hb1 hn1 hlt1 hm1 hbs HBSL
           obtain ⟨rr,hrr⟩ : ∃ r,w63_.heap.size = r:=⟨_,rfl⟩
           go_wp2_with (first|(at_range;refine wpB_range (b:=bt) rfl (.tmp 67) rfl rfl HMT.out ?_;intro w68 cnt hr hcn hg hsz;have HRG:=Aside0.mk hr;have HCN:=Aside0.mk hcn;have HPB0 : Aside0 (PB (GI a0_0 a0_1 l0_2 os c3 e) wo w68 (.slice (some ⟨g13,0,none⟩) (e + 1) c13) bs' e j bn bn 0 (fun x => ∃ d,(GI a0_0 a0_1 l0_2 os c3 e j d ∧ ¬ GI a0_0 a0_1 l0_2 os c3 e j d) ∧ x ∈ nbOf a0_0 a0_1 l0_2 d ∧ ¬ HitAt os x d z)):=Aside0.mk ((HN.out.below (below_of_grown hg)).congr (fun x=>⟨fun h=>h.elim,fun h=>by obtain ⟨d,⟨h1,h2⟩,_⟩:=h;exact absurd h1 h2⟩));have HRR : Aside0 (bn ≤ w63_.heap.size):=Aside0.mk (Nat.le_of_lt HN.out.tg.lt);clear hr hcn hg hsz HN HMT hgx))
           rw [hrr] at HRG HRR
           simp only [hrr]
           clear hrr
           go_simp
           go_loopg [15] (cnt + 1) (fun kq v15 w' => ∃ (Left : S48 → Prop) (cn n' : Nat),Aside0 (cn < kq) ∧ Aside0 (RangeB w' bt rr nt Left cn) ∧ Aside0 (∀ d,Left d → GI a0_0 a0_1 l0_2 os c3 e j d) ∧ Aside0 (n' + 5 * cn ≤ 5 * nt) ∧ Aside0 (PB (GI a0_0 a0_1 l0_2 os c3 e) wo w' (.slice (some ⟨g13,0,none⟩) (e + 1) c13) bs' e j bn bn n' (fun x => ∃ d,(GI a0_0 a0_1 l0_2 os c3 e j d ∧ ¬ Left d) ∧ x ∈ nbOf a0_0 a0_1 l0_2 d ∧ ¬ HitAt os x d z)))
           case atStart=>exact ⟨GI a0_0 a0_1 l0_2 os c3 e j,cnt,0,⟨by omega⟩,HRG,⟨fun _ h=>h⟩,⟨by have:=HCN.out;omega⟩,HPB0⟩
           case round =>
            clear HRG HPB0 HCN
            obtain ⟨Left,cn,n',HCK,HRG,HLG,HNC,HPB⟩:=hrel
            cases gk with
            | zero=>exact absurd HCK.out (by omega)
            | succ k4 =>
             go_wp2_with (first|(at_next;refine wpB_next' rfl (.tmp 68) rfl rfl HRG.out (fun HDN=>?_) (fun c v w69 cn' HPK hen=>?_))|((with_reducible refine gate_dst (N:=15) rfl ?_);refine zzc 15 #[.int .i64 0,.int .i64 0] 48 ?_;intro g15 hgg15 w15 hbox hb;have HF15:=Aside0.mk hbox;have HB15:=Aside0.mk hb;have HG15:=Aside0.mk hgg15;clear hbox hb hgg15;have hz0:=zz0 HF15;have hz1_:=zz1 HF15;have hzf0:=blk_frozen HF15.out 0;have hzf1:=blk_frozen HF15.out 1)|((with_reducible refine gate_dst (N:=73) rfl ?_);have HPB9 : Aside0 (PB (GI a0_0 a0_1 l0_2 os c3 e) wo ((w15.setCell ⟨g15,0,none⟩ (.int .i64 c.f0)).setCell ⟨g15,1,none⟩ (.int .i64 c.f1)) (.slice (some ⟨g13,0,none⟩) (e + 1) c13) bs' e j bn bn n' (fun x => ∃ d,(GI a0_0 a0_1 l0_2 os c3 e j d ∧ ¬ Left d) ∧ x ∈ nbOf a0_0 a0_1 l0_2 d ∧ ¬ HitAt os x d z)):=Aside0.mk ((HPB.out.iter HRG.out HPK.out.2.2.2 HRR.out).below (below_set (j:=1) (v := .int .i64 c.f1) (below_set (j:=0) (v := .int .i64 c.f0) HB15.out (Nat.le_of_eq HG15.out.symm)) (Nat.le_of_eq HG15.out.symm)));have HRG9 : Aside0 (RangeB ((w15.setCell ⟨g15,0,none⟩ (.int .i64 c.f0)).setCell ⟨g15,1,none⟩ (.int .i64 c.f1)) bt rr nt (fun d=>Left d ∧ d ≠ c) cn'):=Aside0.mk (HPK.out.2.1.below (below_set (j:=1) (v := .int .i64 c.f1) (below_set (j:=0) (v := .int .i64 c.f0) HB15.out (Nat.le_of_eq HG15.out.symm)) (Nat.le_of_eq HG15.out.symm)));have HC15 : Aside0 (((w15.setCell ⟨g15,0,none⟩ (.int .i64 c.f0)).setCell ⟨g15,1,none⟩ (.int .i64 c.f1)).heap[g15]? = some (.cells #[.int .i64 c.f0,.int .i64 c.f1] 48 (0,0))):=Aside0.mk (blk_put (cs := #[.int .i64 c.f0,.int .i64 0]) (blk_put (cs := #[.int .i64 0,.int .i64 0]) HF15.out 0 _ rfl) 1 _ rfl);obtain ⟨ka,hka⟩:=(nbs_impl HFL.out HBL.out).run c (gi_free HT.out (HLG.out c HPK.out.1));have HKA:=Aside0.mk hka;clear hka hz0 hz1_ hzf0 hzf1 HF15 HB15 HG15 HPB HRG hen;generalize ((w15.setCell ⟨g15,0,none⟩ (.int .i64 c.f0)).setCell ⟨g15,1,none⟩ (.int .i64 c.f1)) = w15_ at HPB9 HRG9 HC15 ⊢;have f40 : w15_.cell? ⟨g4,0,none⟩ = some (.int .i64 a0_0):=(blk_cell (blk_below HF4.out (below_step HBo.out HPB9.out.bl)) 0).trans rfl;have f41 : w15_.cell? ⟨g4,1,none⟩ = some (.int .i64 a0_1):=(blk_cell (blk_below HF4.out (below_step HBo.out HPB9.out.bl)) 1).trans rfl;have f42 : w15_.cell? ⟨g4,2,none⟩ = some (.slice A0_2 l0_2.length c0_2):=(blk_cell (blk_below HF4.out (below_step HBo.out HPB9.out.bl)) 2).trans rfl;have f150:=zz0 HC15;have f151:=zz1 HC15)|(go_at_call 70;(with_reducible refine (impl_around.calls ka a0_0 a0_1 A0_2 c0_2 l0_2 c.f0 c.f1 (nbOf a0_0 a0_1 l0_2 c) _ (Kd.C_below HR0.out (below_step HB1.out (below_step HBo.out HPB9.out.bl))) HC0.out HKA.out).mono ?_);rintro e_ w75 ⟨v75,rfl,hR,hB⟩;obtain ⟨A75,c75,rfl⟩:=Kd.R_slice hR;have HPB5:=Aside0.mk (HPB9.out.below hB);have HRG5:=Aside0.mk (HRG9.out.below hB);have HCR:=Aside0.mk (And.intro (blk_below HC15.out hB) (Kd.R_lower hR HPB9.out.bl.size));clear hR hB HPB9 HRG9 HC15 f40 f41 f42 f150 f151))
             ·have hnn : n' ≤ 5 ^ (j + 1):=by have:=HNC.out;have:=HNT.out;rw [Nat.pow_succ];omega
              go_roundg k3
              case measure=>omega
              case rel=>exact ⟨j + 1,zm,bs',(by first|rfl|rw [hwzm]),⟨by have:=HZJ.out;have:=HZM.out;have:=HZT.out;omega⟩,⟨HPB.out.whole HZT.out.1 HZT.out.2.1 HBN.out.1 HBN.out.2 hnn (fun y=>t5_done HDN.out (fun d hd=>(nbs_impl HFL.out HBL.out).wf d (gi_free HT.out hd)) HZT.out.2.2.2)⟩⟩
             ·have hnl : (nbOf a0_0 a0_1 l0_2 c).length ≤ 5:=nb_len _ _ _ _
              go_loopg [77] 30 (fun kq v77 w' => ∃ (i n2 : Nat),v77 = .int .i64 (i : Int) ∧ Aside0 (i + kq = 30 ∧ i ≤ (nbOf a0_0 a0_1 l0_2 c).length ∧ n2 ≤ n' + i) ∧ Aside0 (PB (GI a0_0 a0_1 l0_2 os c3 e) wo w' (.slice (some ⟨g13,0,none⟩) (e + 1) c13) bs' e j bn bn n2 (T5 os (nbOf a0_0 a0_1 l0_2) (GI a0_0 a0_1 l0_2 os c3 e j) Left c z i)) ∧ Aside0 (RangeB w' bt rr nt (fun d=>Left d ∧ d ≠ c) cn') ∧ Aside0 (w'.heap[g15]? = some (.cells #[.int .i64 c.f0,.int .i64 c.f1] 48 (0,0)) ∧ Kd.R k48 48 w' wo.heap.size (fun _=>True) (.slice A75 (nbOf a0_0 a0_1 l0_2 c).length c75) (nbOf a0_0 a0_1 l0_2 c)))
              case atStart=>exact ⟨0,n',rfl,⟨by omega⟩,⟨HPB5.out.congr (fun x=>t5_zero.symm)⟩,HRG5,HCR⟩
              case round =>
               clear HPB5 HRG5 HCR
               obtain ⟨i,n2,rfl,HI,HPB,HRG,HCR⟩:=hrel
               cases gk with
               | zero=>exact absurd HI.out (by omega)
               | succ k5 =>
                by_cases hi : i < (nbOf a0_0 a0_1 l0_2 c).length
                ·have ci : decide ((i : Int) < ((nbOf a0_0 a0_1 l0_2 c).length : Int)) = true:=decide_eq_true (by omega)
                 have cin : decide (i < (nbOf a0_0 a0_1 l0_2 c).length) = true:=decide_eq_true hi
                 have hi2 : i < 100:=by omega
                 have q7 : (0 ≤ (i : Int)) = True:=eq_true (by omega)
                 have q8 : ((i : Int) < ((nbOf a0_0 a0_1 l0_2 c).length : Int)) = True:=eq_true (by omega)
                 obtain ⟨ad75,ea75,hx0,hx1⟩:=at_T48 (Kd.R_reads' HCR.out.2).2.2 (i : Int) (by omega) (by omega)
                 cases ea75
                 obtain ⟨x,hx⟩ : ∃ x,rd_T48 (nbOf a0_0 a0_1 l0_2 c) (i : Int) = x:=⟨_,rfl⟩
                 rw [hx,Int.toNat_natCast] at hx0 hx1
                 have HX:=Aside0.mk hx
                 have HI2 : Aside0 (i < (nbOf a0_0 a0_1 l0_2 c).length):=⟨hi⟩
                 have HWX : Aside0 (W64 x):=⟨by rw [← hx];exact (nbs_impl HFL.out HBL.out).wf _ (nb_iff.1 (mem48 _ _ (by omega) (by omega))).1⟩
                 have HNB : Aside0 (n2 < maxLen):=⟨t5_len HNC.out HNT.out HZT.out.2.1 HE.out.2 HI.out.2.2 HI.out.2.1 hnl⟩
                 clear hx
                 by_cases hh : HitAt os x c z
                 ·have HH5:=Aside0.mk hh
                  clear hh
                  go_wp2_with (first|((with_reducible refine gate_dst (N:=17) rfl ?_);refine zzc 17 #[.int .i64 0,.int .i64 0] 48 ?_;intro g17 hgg17 w17 hbox hb;have HF17:=Aside0.mk hbox;have HB17:=Aside0.mk hb;have HG17:=Aside0.mk hgg17;clear hbox hb hgg17;have hz0:=zz0 HF17;have hz1_:=zz1 HF17;have hzf0:=blk_frozen HF17.out 0;have hzf1:=blk_frozen HF17.out 1)|((with_reducible refine gate_dst (N:=82) rfl ?_);have HPB9 : Aside0 (PB (GI a0_0 a0_1 l0_2 os c3 e) wo ((w17.setCell ⟨g17,0,none⟩ (.int .i64 x.f0)).setCell ⟨g17,1,none⟩ (.int .i64 x.f1)) (.slice (some ⟨g13,0,none⟩) (e + 1) c13) bs' e j bn bn n2 (T5 os (nbOf a0_0 a0_1 l0_2) (GI a0_0 a0_1 l0_2 os c3 e j) Left c z i)):=Aside0.mk (HPB.out.below (below_set (j:=1) (v := .int .i64 x.f1) (below_set (j:=0) (v := .int .i64 x.f0) HB17.out (Nat.le_of_eq HG17.out.symm)) (Nat.le_of_eq HG17.out.symm)));have HRG9 : Aside0 (RangeB ((w17.setCell ⟨g17,0,none⟩ (.int .i64 x.f0)).setCell ⟨g17,1,none⟩ (.int .i64 x.f1)) bt rr nt (fun d=>Left d ∧ d ≠ c) cn'):=Aside0.mk (HRG.out.below (below_set (j:=1) (v := .int .i64 x.f1) (below_set (j:=0) (v := .int .i64 x.f0) HB17.out (Nat.le_of_eq HG17.out.symm)) (Nat.le_of_eq HG17.out.symm)));have HCR9 : Aside0 (((w17.setCell ⟨g17,0,none⟩ (.int .i64 x.f0)).setCell ⟨g17,1,none⟩ (.int .i64 x.f1)).heap[g15]? = some (.cells #[.int .i64 c.f0,.int .i64 c.f1] 48 (0,0)) ∧ Kd.R k48 48 ((w17.setCell ⟨g17,0,none⟩ (.int .i64 x.f0)).setCell ⟨g17,1,none⟩ (.int .i64 x.f1)) wo.heap.size (fun _=>True) (.slice (some ad75) (nbOf a0_0 a0_1 l0_2 c).length c75) (nbOf a0_0 a0_1 l0_2 c) ∧ ((w17.setCell ⟨g17,0,none⟩ (.int .i64 x.f0)).setCell ⟨g17,1,none⟩ (.int .i64 x.f1)).heap[g17]? = some (.cells #[.int .i64 x.f0,.int .i64 x.f1] 48 (0,0))):=Aside0.mk ⟨blk_below HCR.out.1 (below_set (j:=1) (v := .int .i64 x.f1) (below_set (j:=0) (v := .int .i64 x.f0) HB17.out (Nat.le_of_eq HG17.out.symm)) (Nat.le_of_eq HG17.out.symm)),Kd.R_below HCR.out.2 (below_set (j:=1) (v := .int .i64 x.f1) (below_set (j:=0) (v := .int .i64 x.f0) HB17.out (Nat.le_of_eq HG17.out.symm)) (Nat.le_of_eq HG17.out.symm)),(blk_put (cs := #[.int .i64 x.f0,.int .i64 0]) (blk_put (cs := #[.int .i64 0,.int .i64 0]) HF17.out 0 _ rfl) 1 _ rfl)⟩;clear hz0 hz1_ hzf0 hzf1 HF17 HB17 HG17 HPB HRG HCR hx0 hx1;generalize ((w17.setCell ⟨g17,0,none⟩ (.int .i64 x.f0)).setCell ⟨g17,1,none⟩ (.int .i64 x.f1)) = w17_ at HPB9 HRG9 HCR9 ⊢;have f150 : w17_.cell? ⟨g15,0,none⟩ = some (.int .i64 c.f0):=(blk_cell HCR9.out.1 0).trans rfl;have f151 : w17_.cell? ⟨g15,1,none⟩ = some (.int .i64 c.f1):=(blk_cell HCR9.out.1 1).trans rfl;have f170 : w17_.cell? ⟨g17,0,none⟩ = some (.int .i64 x.f0):=(blk_cell HCR9.out.2.2 0).trans rfl;have f171 : w17_.cell? ⟨g17,1,none⟩ = some (.int .i64 x.f1):=(blk_cell HCR9.out.2.2 1).trans rfl)|(go_at_call 93;(with_reducible refine (impl_isHit.calls A1 c1 os x c z _ (Kd.C_below HR1.out (below_step HB1.out (below_step HBo.out HPB9.out.bl))) HC1.out HO.out ⟨by have:=HZP.out;omega,by have:=HZP.out;omega⟩).mono ?_);rintro e_ w85 ⟨rfl,hB⟩;rw [chk_pos HH5.out];have HPB7:=Aside0.mk (HPB9.out.below hB);have HRG7:=Aside0.mk (HRG9.out.below hB);have HCR7:=Aside0.mk (And.intro (blk_below HCR9.out.1 hB) (And.intro (Kd.R_below HCR9.out.2.1 hB) (blk_below HCR9.out.2.2 hB)));clear hB HPB9 HRG9 HCR9 f150 f151 f170 f171))
                  go_roundg k5
                  case measure=>omega
                  case rel=>exact ⟨i + 1,n2,by go_num,⟨by have:=HI.out;have:=HI2.out;omega⟩,⟨HPB7.out.congr (fun y=>t5_hit HI2.out HX.out HH5.out)⟩,HRG7,⟨HCR7.out.1,HCR7.out.2.1⟩⟩
                 ·have HH5:=Aside0.mk hh
                  clear hh
                  go_upto_region 27 with (first|((with_reducible refine gate_dst (N:=17) rfl ?_);refine zzc 17 #[.int .i64 0,.int .i64 0] 48 ?_;intro g17 hgg17 w17 hbox hb;have HF17:=Aside0.mk hbox;have HB17:=Aside0.mk hb;have HG17:=Aside0.mk hgg17;clear hbox hb hgg17;have hz0:=zz0 HF17;have hz1_:=zz1 HF17;have hzf0:=blk_frozen HF17.out 0;have hzf1:=blk_frozen HF17.out 1)|((with_reducible refine gate_dst (N:=82) rfl ?_);have HPB9 : Aside0 (PB (GI a0_0 a0_1 l0_2 os c3 e) wo ((w17.setCell ⟨g17,0,none⟩ (.int .i64 x.f0)).setCell ⟨g17,1,none⟩ (.int .i64 x.f1)) (.slice (some ⟨g13,0,none⟩) (e + 1) c13) bs' e j bn bn n2 (T5 os (nbOf a0_0 a0_1 l0_2) (GI a0_0 a0_1 l0_2 os c3 e j) Left c z i)):=Aside0.mk (HPB.out.below (below_set (j:=1) (v := .int .i64 x.f1) (below_set (j:=0) (v := .int .i64 x.f0) HB17.out (Nat.le_of_eq HG17.out.symm)) (Nat.le_of_eq HG17.out.symm)));have HRG9 : Aside0 (RangeB ((w17.setCell ⟨g17,0,none⟩ (.int .i64 x.f0)).setCell ⟨g17,1,none⟩ (.int .i64 x.f1)) bt rr nt (fun d=>Left d ∧ d ≠ c) cn'):=Aside0.mk (HRG.out.below (below_set (j:=1) (v := .int .i64 x.f1) (below_set (j:=0) (v := .int .i64 x.f0) HB17.out (Nat.le_of_eq HG17.out.symm)) (Nat.le_of_eq HG17.out.symm)));have HCR9 : Aside0 (((w17.setCell ⟨g17,0,none⟩ (.int .i64 x.f0)).setCell ⟨g17,1,none⟩ (.int .i64 x.f1)).heap[g15]? = some (.cells #[.int .i64 c.f0,.int .i64 c.f1] 48 (0,0)) ∧ Kd.R k48 48 ((w17.setCell ⟨g17,0,none⟩ (.int .i64 x.f0)).setCell ⟨g17,1,none⟩ (.int .i64 x.f1)) wo.heap.size (fun _=>True) (.slice (some ad75) (nbOf a0_0 a0_1 l0_2 c).length c75) (nbOf a0_0 a0_1 l0_2 c) ∧ ((w17.setCell ⟨g17,0,none⟩ (.int .i64 x.f0)).setCell ⟨g17,1,none⟩ (.int .i64 x.f1)).heap[g17]? = some (.cells #[.int .i64 x.f0,.int .i64 x.f1] 48 (0,0))):=Aside0.mk ⟨blk_below HCR.out.1 (below_set (j:=1) (v := .int .i64 x.f1) (below_set (j:=0) (v := .int .i64 x.f0) HB17.out (Nat.le_of_eq HG17.out.symm)) (Nat.le_of_eq HG17.out.symm)),Kd.R_below HCR.out.2 (below_set (j:=1) (v := .int .i64 x.f1) (below_set (j:=0) (v := .int .i64 x.f0) HB17.out (Nat.le_of_eq HG17.out.symm)) (Nat.le_of_eq HG17.out.symm)),(blk_put (cs := #[.int .i64 x.f0,.int .i64 0]) (blk_put (cs := #[.int .i64 0,.int .i64 0]) HF17.out 0 _ rfl) 1 _ rfl)⟩;clear hz0 hz1_ hzf0 hzf1 HF17 HB17 HG17 HPB HRG HCR hx0 hx1;generalize ((w17.setCell ⟨g17,0,none⟩ (.int .i64 x.f0)).setCell ⟨g17,1,none⟩ (.int .i64 x.f1)) = w17_ at HPB9 HRG9 HCR9 ⊢;have f150 : w17_.cell? ⟨g15,0,none⟩ = some (.int .i64 c.f0):=(blk_cell HCR9.out.1 0).trans rfl;have f151 : w17_.cell? ⟨g15,1,none⟩ = some (.int .i64 c.f1):=(blk_cell HCR9.out.1 1).trans rfl;have f170 : w17_.cell? ⟨g17,0,none⟩ = some (.int .i64 x.f0):=(blk_cell HCR9.out.2.2 0).trans rfl;have f171 : w17_.cell? ⟨g17,1,none⟩ = some (.int .i64 x.f1):=(blk_cell HCR9.out.2.2 1).trans rfl)|(go_at_call 93;(with_reducible refine (impl_isHit.calls A1 c1 os x c z _ (Kd.C_below HR1.out (below_step HB1.out (below_step HBo.out HPB9.out.bl))) HC1.out HO.out ⟨by have:=HZP.out;omega,by have:=HZP.out;omega⟩).mono ?_);rintro e_ w85 ⟨rfl,hB⟩;rw [chk_neg HH5.out];have HPB7:=Aside0.mk (HPB9.out.below hB);have HRG7:=Aside0.mk (HRG9.out.below hB);have HCR7:=Aside0.mk (And.intro (blk_below HCR9.out.1 hB) (And.intro (Kd.R_below HCR9.out.2.1 hB) (blk_below HCR9.out.2.2 hB)));clear hB HPB9 HRG9 HCR9 f150 f151 f170 f171))
                  obtain ⟨adm,eam,hgm⟩:=at_mp (Kd.R_reads' HPB7.out.r).2.2 zm (by have:=HZM.out;have:=HZP.out;omega) (by rw [HBN.out.2];have:=HZM.out;have:=HZT.out;omega) (b:=some bn) (by rw [HZT.out.1];exact HBN.out.1)
                  cases eam
                  rw [add_plain] at hgm
                  refine start_ (n:=7) (S:=fun w'=>Below w85.heap.size w85 w') (ds:=[6]) (bits 7 0) (by kernel_rfl) rfl rfl (below_drew1 (Below.refl _ _)) (fun hHeld=>?_)
                  have HBd:=Aside0.mk hHeld
                  have HPB8:=Aside0.mk (HPB7.out.below HBd.out)
                  have HRG8:=Aside0.mk (HRG7.out.below HBd.out)
                  generalize w85.drew = wd at HBd HPB8 HRG8 hHeld ⊢
                  refine zzp 0 87 (zzb 7 1) ?_;refine zzp 1 88 (zzb 7 3) ?_;refine zzp 2 89 (zzb 7 7) ?_;refine zzp 3 90 (zzb 7 15) ?_
                  refine zzt 4 91 (zzb 7 31) hHeld ?_ (hy:=by intro w' s0;have hx_:=pw_cell_below s0 hgm;go_simp;with_reducible rfl)
                  refine zzt 5 92 (zzb 7 63) hHeld ?_ (hy:=by intro w' s0;have f170 : w'.cell? ⟨g17,0,none⟩ = some (.int .i64 x.f0):=(blk_cell (blk_below HCR7.out.2.2 s0) 0).trans rfl;have f171 : w'.cell? ⟨g17,1,none⟩ = some (.int .i64 x.f1):=(blk_cell (blk_below HCR7.out.2.2 s0) 1).trans rfl;go_simp;with_reducible rfl)
                  refine last_ (i:=6) (N:=none) (bits 7 127) rfl rfl (by kernel_rfl) (by decide) (fun K hK=>?_)
                  obtain ⟨w10,hrun10,hm10,hg10⟩:=mapB_update HPB8.out.tg HNB.out HWX.out
                  have hrun11 : (Instr.mapUpdate 108 (.map (some bn)) (.agg #[.int .i64 x.f0,.int .i64 x.f1]) (.bool true)).run Try.prog wd = .ok () w10:=hrun10
                  refine skip_ (w1:=w10) (by rfl) rfl ?hr8 ?_
                  case hr8=>first|(go_simp;done)|(go_simp;rfl)
                  refine hK.out _ _ ?_
                  clear hK K
                  have HPB9:=Aside0.mk (HPB8.out.put hm10 hg10)
                  have HRG9:=Aside0.mk (HRG8.out.kept hg10 (fun e'=>by have:=HBT.out;have:=Option.some.inj e';omega) (fun e'=>HRG8.out.mapNe HPB8.out.tg (Option.some.inj e')))
                  have HCR9 : Aside0 (w10.heap[g15]? = some (.cells #[.int .i64 c.f0,.int .i64 c.f1] 48 (0,0)) ∧ Kd.R k48 48 w10 wo.heap.size (fun _=>True) (.slice (some ad75) (nbOf a0_0 a0_1 l0_2 c).length c75) (nbOf a0_0 a0_1 l0_2 c)):=Aside0.mk ⟨(hg10.block g15 (blk_lt (blk_below HCR7.out.1 HBd.out)) (fun e'=>HPB8.out.tg.cells (blk_below HCR7.out.1 HBd.out) (Option.some.inj e').symm)).trans (blk_below HCR7.out.1 HBd.out),R_flat_grown (Kd.R_below HCR7.out.2.1 HBd.out) HPB8.out.tg hg10⟩
                  clear hm10 hg10 hrun10 hrun11 hHeld HPB7 HRG7 HCR7 HPB8 HRG8 hgm
                  refine done_ (by kernel_rfl) ?_
                  go_wp2
                  go_roundg k5
                  case measure=>omega
                  case rel=>exact ⟨i + 1,n2 + 1,by go_num,⟨by have:=HI.out;have:=HI2.out;omega⟩,⟨HPB9.out.congr (fun y=>t5_miss HI2.out HX.out HH5.out)⟩,HRG9,HCR9⟩
                ·have ci : decide ((i : Int) < ((nbOf a0_0 a0_1 l0_2 c).length : Int)) = false:=decide_eq_false (by omega)
                 have cin : decide (i < (nbOf a0_0 a0_1 l0_2 c).length) = false:=decide_eq_false hi
                 obtain rfl : i = (nbOf a0_0 a0_1 l0_2 c).length:=by have:=HI.out;omega
                 go_wp2
                 go_roundg k4
                 case measure=>omega
                 case rel=>exact ⟨_,cn',n2,⟨by have:=HCK.out;have:=HPK.out.2.2.1;omega⟩,HRG,⟨fun d hd=>HLG.out d hd.1⟩,⟨by have:=HNC.out;have:=HI.out;have:=HPK.out.2.2.1;omega⟩,⟨HPB.out.congr (fun y=>t5_all (HLG.out c HPK.out.1))⟩⟩
          ·obtain rfl : e = j:=by have:=HZJ.out;omega
           obtain rfl : z = 0:=by have:=HZJ.out;omega
           have cz : decide (0 < (0 : Int)) = false:=rfl
           clear hz HZJ
           obtain ⟨b0,n0,hb0,_,_,hm0⟩:=HG.out.mp e (Nat.le_refl _)
           obtain ⟨adm,eam,hgm_⟩:=at_mp (Kd.R_reads' HG.out.r).2.2 0 (Int.le_refl 0) (by rw [HG.out.len];omega) (b:=some b0) (by rw [show (0 : Int).toNat = e - e from by omega];exact hb0)
           cases eam
           rw [add_plain] at hgm_
           have hgm : wr.cell? ⟨g13,0,none⟩ = some (.map (some b0)):=hgm_
           clear hgm_
           have HM0:=Aside0.mk hm0
           have HWA : Aside0 (W64 c2):=⟨(nbs_impl HFL.out HBL.out).wf c2 HA.out⟩
           have p4 : ((0 : Int) < ((e + 1 : Nat) : Int)) = True:=eq_true (by omega)
           have p5 : ((0 : Int) < (e : Int) + 1) = True:=eq_true (by omega)
           clear hb0 hm0
           by_cases hin : GI a0_0 a0_1 l0_2 os c3 e e c2
           ·have HIN:=Aside0.mk hin
            have HR_ : Aside0 (∀ p,trace (nxI a0_0 a0_1 l0_2 os c3 e) c2 e = some p → R = (p,true)):=⟨HRS.out e he2 HN.out ⟨HSTY.out,HIN.out⟩⟩
            have HEV : Aside0 (c3 ∈ lev a0_0 a0_1 l0_2 os c2 e):=⟨(end_iff HA.out HT.out e).2 HIN.out⟩
            clear hin HRS HRN
            go_upto_region 29 with (fail)
            refine start_ (n:=6) (S:=fun w'=>Below wr.heap.size wr w') (ds:=[]) (bits 6 0) (by kernel_rfl) rfl rfl (below_drew1 (Below.refl _ _)) (fun hHeld=>?_)
            have HBd:=Aside0.mk hHeld
            have HG9:=Aside0.mk (HG.out.below HBd.out)
            generalize wr.drew = wd at HBd HG9 hHeld ⊢
            refine zzp 0 94 (zzb 6 1) ?_;refine zzp 1 95 (zzb 6 3) ?_
            refine zzt 2 96 (zzb 6 7) hHeld ?_ (hy:=by intro w' s0;have hx_:=pw_cell_below s0 hgm;go_simp;with_reducible rfl)
            refine zzt 3 97 (zzb 6 15) hHeld ?_ (hy:=by intro w' s0;have f60 : w'.cell? ⟨g6,0,none⟩ = some (.int .i64 c2.f0):=(blk_cell (blk_below HF6.out (below_step HBo.out (below_step HG.out.bl s0))) 0).trans rfl;have f61 : w'.cell? ⟨g6,1,none⟩ = some (.int .i64 c2.f1):=(blk_cell (blk_below HF6.out (below_step HBo.out (below_step HG.out.bl s0))) 1).trans rfl;go_simp;with_reducible rfl)
            refine zzt 4 98 (zzb 6 31) hHeld ?_ (hy:=by intro w' s0;(have hl_ : (Instr.lookup 108 (.map (some b0)) (.agg #[.int .i64 c2.f0,.int .i64 c2.f1]) false).run Try.prog w' = .ok (.bool true) w':=(mapB_run (HM0.out.below s0) HWA.out).trans (by rw [chk_pos HIN.out]));go_simp;with_reducible rfl);refine zzp 5 99 (zzb 6 63) ?_
            refine done_ (by kernel_rfl) ?_
            clear HG HM0 hgm
            have f60 : wd.cell? ⟨g6,0,none⟩ = some (.int .i64 c2.f0):=(blk_cell (blk_below HF6.out (below_step HBo.out HG9.out.bl)) 0).trans rfl;have f61 : wd.cell? ⟨g6,1,none⟩ = some (.int .i64 c2.f1):=(blk_cell (blk_below HF6.out (below_step HBo.out HG9.out.bl)) 1).trans rfl
            go_wp2_with (first|((with_reducible refine gate_dst (N:=101) rfl ?_);refine Kd.R_lit k48 _ 48 ?hg (N:=101) ?hd (xs:=([c2] : List S48)) (inner:=[.int .i64 c2.f0,.int .i64 c2.f1]) (ok:=fun _=>True) (okp:=fun _=>True) ?hr ?hp (fun _ hk=>hk) trivial (Below.refl _ _) (Nat.le_refl _) (by simp) ?_;(case hd=>rfl);(case hg=>rfl);(case hr=>first|(go_simp;done)|(go_simp;rfl));(case hp=>exact (Reps.c2 (show Kd.M k48 _ _ _ c2 [.int .i64 c2.f0,.int .i64 c2.f1] from k48_mkM _ _ _ c2) (Reps.none _ _)));intro v101 w101 hR hB hg_ hnew_;clear hg_ hnew_;obtain ⟨A101,c101,e101⟩:=Kd.R_slice hR;rw [show ([c2] : List S48).length = 1 from rfl] at e101;subst e101;have HP4 : Aside0 (PC (GI a0_0 a0_1 l0_2 os c3 e) wo w101 (.slice (some ⟨g13,0,none⟩) (e + 1) c13) bs e (.slice A101 1 c101) [c2]):=Aside0.mk ⟨HG9.out.below hB,Kd.R_lower hR HG9.out.bl.size⟩;clear f60 f61 HG9;clear hR hB))
            go_loopg [18,19] 30 (fun kq v18 v19 w' => ∃ (s : Nat) (z : Int) (p : List S48),v19 = .int .i64 z ∧ Aside0 (z = (s : Int) + 1 ∧ s ≤ e ∧ s + kq = 30) ∧ Aside0 (trace (nxI a0_0 a0_1 l0_2 os c3 e) c2 s = some p) ∧ Aside0 (PC (GI a0_0 a0_1 l0_2 os c3 e) wo w' (.slice (some ⟨g13,0,none⟩) (e + 1) c13) bs e v18 p))
            case atStart=>exact ⟨0,1,[c2],rfl,⟨by omega⟩,⟨rfl⟩,HP4⟩
            case round =>
             clear HP4
             obtain ⟨s,z,p,rfl,HSE,HTR,HP⟩:=hrel
             have HPL:=Aside0.mk (trace_len HTR.out)
             obtain ⟨A18,c18,e18⟩:=Kd.R_slice HP.out.out
             subst e18
             cases gk with
             | zero=>exact absurd HSE.out (by omega)
             | succ k6 =>
              by_cases hz : z ≤ (e : Int)
              ·have cz6 : decide (z ≤ (e : Int)) = true:=decide_eq_true hz
               have hse : s < e:=by have:=HSE.out;omega
               have HSL:=Aside0.mk hse
               obtain ⟨p2,hp2,hp2b,hp2c⟩:=trace_both HA.out HT.out HEV.out (s + 1) hse
               obtain ⟨cc,hcc,hpp⟩:=trace_nextI HTR.out hp2
               have HP2 : Aside0 (trace (nxI a0_0 a0_1 l0_2 os c3 e) c2 (s + 1) = some (p ++ [cc])):=⟨by rw [← hpp];exact hp2⟩
               have hzs : z - 1 = (s : Int):=by have:=HSE.out;omega
               have hwzs : wrap64 (z - 1) = (s : Int):=by rw [wrap64_id (by omega) (by have:=HSE.out;omega)];exact hzs
               have hs30 : s < 30:=by omega
               obtain ⟨ad18,ea,hd0,hd1⟩:=at_T48 (Kd.R_reads' HP.out.out).2.2 (s : Int) (by omega) (by have:=HPL.out;omega)
               cases ea
               rw [Int.toNat_natCast] at hd0 hd1
               obtain ⟨d,hd⟩ : ∃ d,rd_T48 p (s : Int) = d:=⟨_,rfl⟩
               rw [hd] at hd0 hd1 hcc
               have p1 : (0 ≤ (s : Int)) = True:=eq_true (by omega)
               have p2_ : ((s : Int) < (p.length : Int)) = True:=eq_true (by have:=HPL.out;omega)
               have HFN : Aside0 (fnd (fun x=>GI a0_0 a0_1 l0_2 os c3 e (e - (s + 1)) x ∧ ¬ HitAt os d x ((s + 1 : Nat) : Int)) (nbOf a0_0 a0_1 l0_2 d) = some cc):=⟨hcc⟩
               have HZS : Aside0 (z = ((s + 1 : Nat) : Int)):=⟨by have:=HSE.out;omega⟩
               have HZ64 : Aside0 (0 ≤ z ∧ z ≤ 30):=⟨by have:=HSE.out;omega⟩
               have HDF : Aside0 (Free a0_0 a0_1 l0_2 d):=⟨by
                have h1:=(hp2c.on s (by omega)).1
                rw [hpp,rd_app_lt (by have:=HPL.out;omega),hd] at h1
                exact lev_free HA.out s d h1⟩
               have p3 : (0 ≤ z) = True:=eq_true (by have:=HSE.out;omega)
               have p6 : (z < ((e + 1 : Nat) : Int)) = True:=eq_true (by omega)
               have p7 : (z < (e : Int) + 1) = True:=eq_true (by omega)
               obtain ⟨zq,hzq⟩ : ∃ zq : Int,z + 1 = zq:=⟨_,rfl⟩
               have HZQ : Aside0 (zq = z + 1):=⟨hzq.symm⟩
               have hwzq : wrap64 (z + 1) = zq:=by rw [wrap64_id (by omega) (by omega)];exact hzq
               obtain ⟨ka,hka⟩:=(nbs_impl HFL.out HBL.out).run d HDF.out
               have HKA:=Aside0.mk hka
               clear hp2 hp2b hp2c hcc hpp hd hzq hzs hka
               go_wp2_with (first|((with_reducible refine gate_dst (N:=20) rfl ?_);refine zzc 20 #[.int .i64 0,.int .i64 0] 48 ?_;intro g20 hgg20 w20 hbox hb;have HF20:=Aside0.mk hbox;have HB20:=Aside0.mk hb;have HG20:=Aside0.mk hgg20;clear hbox hb hgg20;have hz0:=zz0 HF20;have hz1_:=zz1 HF20;have hzf0:=blk_frozen HF20.out 0;have hzf1:=blk_frozen HF20.out 1)|((with_reducible refine gate_dst (N:=112) rfl ?_);have HP5 : Aside0 (PC (GI a0_0 a0_1 l0_2 os c3 e) wo ((w20.setCell ⟨g20,0,none⟩ (.int .i64 d.f0)).setCell ⟨g20,1,none⟩ (.int .i64 d.f1)) (.slice (some ⟨g13,0,none⟩) (e + 1) c13) bs e (.slice (some ad18) p.length c18) p ∧ ((w20.setCell ⟨g20,0,none⟩ (.int .i64 d.f0)).setCell ⟨g20,1,none⟩ (.int .i64 d.f1)).heap[g20]? = some (.cells #[.int .i64 d.f0,.int .i64 d.f1] 48 (0,0))):=Aside0.mk ⟨HP.out.below (below_set (j:=1) (v := .int .i64 d.f1) (below_set (j:=0) (v := .int .i64 d.f0) HB20.out (Nat.le_of_eq HG20.out.symm)) (Nat.le_of_eq HG20.out.symm)),(blk_put (cs := #[.int .i64 d.f0,.int .i64 0]) (blk_put (cs := #[.int .i64 0,.int .i64 0]) HF20.out 0 _ rfl) 1 _ rfl)⟩;clear HP hz0 hz1_ hzf0 hzf1 HF20 HB20 HG20 hd0 hd1 hwzs;generalize ((w20.setCell ⟨g20,0,none⟩ (.int .i64 d.f0)).setCell ⟨g20,1,none⟩ (.int .i64 d.f1)) = w20_ at HP5 ⊢;have f40 : w20_.cell? ⟨g4,0,none⟩ = some (.int .i64 a0_0):=(blk_cell (blk_below HF4.out (below_step HBo.out HP5.out.1.g.bl)) 0).trans rfl;have f41 : w20_.cell? ⟨g4,1,none⟩ = some (.int .i64 a0_1):=(blk_cell (blk_below HF4.out (below_step HBo.out HP5.out.1.g.bl)) 1).trans rfl;have f42 : w20_.cell? ⟨g4,2,none⟩ = some (.slice A0_2 l0_2.length c0_2):=(blk_cell (blk_below HF4.out (below_step HBo.out HP5.out.1.g.bl)) 2).trans rfl;have f200 : w20_.cell? ⟨g20,0,none⟩ = some (.int .i64 d.f0):=(blk_cell HP5.out.2 0).trans rfl;have f201 : w20_.cell? ⟨g20,1,none⟩ = some (.int .i64 d.f1):=(blk_cell HP5.out.2 1).trans rfl)|(go_at_call 70;(with_reducible refine (impl_around.calls ka a0_0 a0_1 A0_2 c0_2 l0_2 d.f0 d.f1 (nbOf a0_0 a0_1 l0_2 d) _ (Kd.C_below HR0.out (below_step HB1.out (below_step HBo.out HP5.out.1.g.bl))) HC0.out HKA.out).mono ?_);rintro e_ w114 ⟨v114,rfl,hR,hB⟩;obtain ⟨A114,c114,rfl⟩:=Kd.R_slice hR;have HP6:=Aside0.mk (HP5.out.1.below hB);have HCR:=Aside0.mk (And.intro (blk_below HP5.out.2 hB) (Kd.R_lower hR HP5.out.1.g.bl.size));clear hR hB HP5 f40 f41 f42 f200 f201))
               have hnl : (nbOf a0_0 a0_1 l0_2 d).length ≤ 5:=nb_len _ _ _ _
               go_loopg [18,116] 30 (fun kq v18 v116 w' => ∃ (k : Nat),v18 = .slice (some ad18) p.length c18 ∧ v116 = .int .i64 (k : Int) ∧ Aside0 (k + kq = 30 ∧ k ≤ (nbOf a0_0 a0_1 l0_2 d).length) ∧ Aside0 (PC (GI a0_0 a0_1 l0_2 os c3 e) wo w' (.slice (some ⟨g13,0,none⟩) (e + 1) c13) bs e (.slice (some ad18) p.length c18) p) ∧ Aside0 (fnd (fun x=>GI a0_0 a0_1 l0_2 os c3 e (e - (s + 1)) x ∧ ¬ HitAt os d x ((s + 1 : Nat) : Int)) ((nbOf a0_0 a0_1 l0_2 d).drop k) = some cc) ∧ Aside0 (w'.heap[g20]? = some (.cells #[.int .i64 d.f0,.int .i64 d.f1] 48 (0,0)) ∧ Kd.R k48 48 w' wo.heap.size (fun _=>True) (.slice A114 (nbOf a0_0 a0_1 l0_2 d).length c114) (nbOf a0_0 a0_1 l0_2 d)))
               case atStart=>exact ⟨0,rfl,rfl,⟨by omega⟩,HP6,⟨HFN.out⟩,HCR⟩
               case round =>
                clear HP6 HFN HCR
                obtain ⟨k,rfl,rfl,HK,HP,HFN,HCR⟩:=hrel
                cases gk with
                | zero=>exact absurd HK.out (by omega)
                | succ k7 =>
                 by_cases hk : k < (nbOf a0_0 a0_1 l0_2 d).length
                 ·have ck : decide ((k : Int) < ((nbOf a0_0 a0_1 l0_2 d).length : Int)) = true:=decide_eq_true (by omega)
                  have ckn : decide (k < (nbOf a0_0 a0_1 l0_2 d).length) = true:=decide_eq_true hk
                  have hk2 : k < 100:=by omega
                  have q7 : (0 ≤ (k : Int)) = True:=eq_true (by omega)
                  have q8 : ((k : Int) < ((nbOf a0_0 a0_1 l0_2 d).length : Int)) = True:=eq_true (by omega)
                  obtain ⟨ad114,ea114,hx0,hx1⟩:=at_T48 (Kd.R_reads' HCR.out.2).2.2 (k : Int) (by omega) (by omega)
                  cases ea114
                  obtain ⟨c,hc⟩ : ∃ c,rd_T48 (nbOf a0_0 a0_1 l0_2 d) (k : Int) = c:=⟨_,rfl⟩
                  rw [hc,Int.toNat_natCast] at hx0 hx1
                  have HKL : Aside0 (k < (nbOf a0_0 a0_1 l0_2 d).length):=⟨hk⟩
                  have HWC : Aside0 (W64 c):=⟨by rw [← hc];exact (nbs_impl HFL.out HBL.out).wf _ (nb_iff.1 (mem48 _ _ (by omega) (by omega))).1⟩
                  have HDR : Aside0 ((nbOf a0_0 a0_1 l0_2 d).drop k = c :: (nbOf a0_0 a0_1 l0_2 d).drop (k + 1)):=⟨by
                   have:=drop48 (nbOf a0_0 a0_1 l0_2 d) (k : Int) (by omega) (by omega)
                   rw [hc,Int.toNat_natCast] at this
                   exact this⟩
                  have hfn:=HFN.out
                  rw [HDR.out] at hfn
                  clear hc
                  go_upto_region 38 with (first|((with_reducible refine gate_dst (N:=22) rfl ?_);refine zzc 22 #[.int .i64 0,.int .i64 0] 48 ?_;intro g22 hgg22 w22 hbox hb;have HF22:=Aside0.mk hbox;have HB22:=Aside0.mk hb;have HG22:=Aside0.mk hgg22;clear hbox hb hgg22;have hz0:=zz0 HF22;have hz1_:=zz1 HF22;have hzf0:=blk_frozen HF22.out 0;have hzf1:=blk_frozen HF22.out 1))
                  have HP7 : Aside0 (PC (GI a0_0 a0_1 l0_2 os c3 e) wo ((w22.setCell ⟨g22,0,none⟩ (.int .i64 c.f0)).setCell ⟨g22,1,none⟩ (.int .i64 c.f1)) (.slice (some ⟨g13,0,none⟩) (e + 1) c13) bs e (.slice (some ad18) p.length c18) p):=Aside0.mk (HP.out.below (below_set (j:=1) (v := .int .i64 c.f1) (below_set (j:=0) (v := .int .i64 c.f0) HB22.out (Nat.le_of_eq HG22.out.symm)) (Nat.le_of_eq HG22.out.symm)))
                  have HCR7 : Aside0 (((w22.setCell ⟨g22,0,none⟩ (.int .i64 c.f0)).setCell ⟨g22,1,none⟩ (.int .i64 c.f1)).heap[g20]? = some (.cells #[.int .i64 d.f0,.int .i64 d.f1] 48 (0,0)) ∧ Kd.R k48 48 ((w22.setCell ⟨g22,0,none⟩ (.int .i64 c.f0)).setCell ⟨g22,1,none⟩ (.int .i64 c.f1)) wo.heap.size (fun _=>True) (.slice (some ad114) (nbOf a0_0 a0_1 l0_2 d).length c114) (nbOf a0_0 a0_1 l0_2 d) ∧ ((w22.setCell ⟨g22,0,none⟩ (.int .i64 c.f0)).setCell ⟨g22,1,none⟩ (.int .i64 c.f1)).heap[g22]? = some (.cells #[.int .i64 c.f0,.int .i64 c.f1] 48 (0,0))):=Aside0.mk ⟨blk_below HCR.out.1 (below_set (j:=1) (v := .int .i64 c.f1) (below_set (j:=0) (v := .int .i64 c.f0) HB22.out (Nat.le_of_eq HG22.out.symm)) (Nat.le_of_eq HG22.out.symm)),Kd.R_below HCR.out.2 (below_set (j:=1) (v := .int .i64 c.f1) (below_set (j:=0) (v := .int .i64 c.f0) HB22.out (Nat.le_of_eq HG22.out.symm)) (Nat.le_of_eq HG22.out.symm)),(blk_put (cs := #[.int .i64 c.f0,.int .i64 0]) (blk_put (cs := #[.int .i64 0,.int .i64 0]) HF22.out 0 _ rfl) 1 _ rfl)⟩
                  clear HP HCR hz0 hz1_ hzf0 hzf1 HF22 HB22 HG22 hx0 hx1
                  generalize ((w22.setCell ⟨g22,0,none⟩ (.int .i64 c.f0)).setCell ⟨g22,1,none⟩ (.int .i64 c.f1)) = w22_ at HP7 HCR7 ⊢
                  obtain ⟨b2,n2,hb2,_,_,hm2⟩:=HP7.out.g.mp (e - (s + 1)) (by omega)
                  obtain ⟨adm,eam,hgm⟩:=at_mp (Kd.R_reads' HP7.out.g.r).2.2 z (by have:=HZ64.out;omega) (by rw [HP7.out.g.len];omega) (b:=some b2) (by rw [show z.toNat = e - (e - (s + 1)) from by have:=HSE.out;have:=HSL.out;omega];exact hb2)
                  cases eam
                  rw [add_plain] at hgm
                  have HM2:=Aside0.mk hm2
                  clear hb2 hm2
                  by_cases hin2 : GI a0_0 a0_1 l0_2 os c3 e (e - (s + 1)) c
                  ·have HIN2:=Aside0.mk hin2
                   by_cases hhc : HitAt os d c z
                   ·have HHC:=Aside0.mk hhc
                    rw [fnd_neg (by rw [← HZS.out];exact fun m=>m.2 hhc)] at hfn
                    have HFN2:=Aside0.mk hfn
                    clear hin2 hhc hfn
                    refine start_ (n:=14) (S:=fun w'=>Below w22_.heap.size w22_ w') (ds:=[]) (bits 14 0) (by kernel_rfl) rfl rfl (below_drew1 (Below.refl _ _)) (fun hHeld=>?_)
                    have HBd:=Aside0.mk hHeld
                    generalize w22_.drew = wd2 at HBd hHeld ⊢
                    refine zzp 0 120 (zzb 14 1) ?_;refine zzp 1 121 (zzb 14 3) ?_;refine zzp 2 122 (zzb 14 7) ?_
                    refine zzt 3 123 (zzb 14 15) hHeld ?_ (hy:=by intro w' s0;have hx_:=pw_cell_below s0 hgm;go_simp;with_reducible rfl)
                    refine zzt 4 124 (zzb 14 31) hHeld ?_ (hy:=by intro w' s0;have f220 : w'.cell? ⟨g22,0,none⟩ = some (.int .i64 c.f0):=(blk_cell (blk_below HCR7.out.2.2 s0) 0).trans rfl;have f221 : w'.cell? ⟨g22,1,none⟩ = some (.int .i64 c.f1):=(blk_cell (blk_below HCR7.out.2.2 s0) 1).trans rfl;go_simp;with_reducible rfl)
                    refine zzt 5 125 (zzb 14 63) hHeld ?_ (hy:=by intro w' s0;(have hl_ : (Instr.lookup 108 (.map (some b2)) (.agg #[.int .i64 c.f0,.int .i64 c.f1]) false).run Try.prog w' = .ok (.bool true) w':=(mapB_run (HM2.out.below s0) HWC.out).trans (by rw [chk_pos HIN2.out]));go_simp;with_reducible rfl);refine zzp 6 126 (zzb 14 127) ?_;refine zzp 7 127 (zzb 14 255) ?_
                    refine zzt 8 128 (zzb 14 511) hHeld ?_ (hy:=by intro w' s0;have f200 : w'.cell? ⟨g20,0,none⟩ = some (.int .i64 d.f0):=(blk_cell (blk_below HCR7.out.1 s0) 0).trans rfl;have f201 : w'.cell? ⟨g20,1,none⟩ = some (.int .i64 d.f1):=(blk_cell (blk_below HCR7.out.1 s0) 1).trans rfl;go_simp;with_reducible rfl)
                    refine zzt 9 129 (zzb 14 1023) hHeld ?_ (hy:=by intro w' s0;have f220 : w'.cell? ⟨g22,0,none⟩ = some (.int .i64 c.f0):=(blk_cell (blk_below HCR7.out.2.2 s0) 0).trans rfl;have f221 : w'.cell? ⟨g22,1,none⟩ = some (.int .i64 c.f1):=(blk_cell (blk_below HCR7.out.2.2 s0) 1).trans rfl;go_simp;with_reducible rfl);refine zzp 10 130 (zzb 14 2047) ?_
                    refine zzo 11 131 (zzb 14 4095) (fun K hK=>?_)
                    refine zzf Try.func93 #[.slice A1 os.length c1,.agg #[.int .i64 d.f0,.int .i64 d.f1],.agg #[.int .i64 c.f0,.int .i64 c.f1],.int .i64 z] ?_
                    with_reducible refine (impl_isHit.calls A1 c1 os d c z _ (Kd.C_below HR1.out (below_step HB1.out (below_step HBo.out (below_step HP7.out.g.bl HBd.out)))) HC1.out HO.out HZ64.out).mono ?_
                    rintro e w131 ⟨rfl,hB⟩
                    refine ⟨_,rfl,?_⟩
                    rw [chk_pos HHC.out]
                    have HBn : Aside0 (Below w22_.heap.size w22_ w131):=Aside0.mk (below_step HBd.out hB)
                    clear hB HBd hHeld
                    have HBd:=HBn
                    clear HBn
                    refine hK.out _ _ HBd.out (fun hHeld=>?_)
                    clear hK K
                    refine zzn 131 ?_;refine zzp 12 132 (zzb 14 8191) ?_;refine zzp 13 133 (zzb 14 16383) ?_
                    refine done_ (by kernel_rfl) ?_
                    have HP8:=Aside0.mk (HP7.out.below HBd.out)
                    have HCR8:=Aside0.mk (And.intro (blk_below HCR7.out.1 HBd.out) (And.intro (Kd.R_below HCR7.out.2.1 HBd.out) (blk_below HCR7.out.2.2 HBd.out)))
                    clear HP7 HCR7 HM2 hgm
                    go_wp2
                    go_roundg k7
                    case measure=>omega
                    case rel=>exact ⟨k + 1,rfl,by go_num,⟨by have:=HK.out;have:=HKL.out;omega⟩,HP8,HFN2,⟨HCR8.out.1,HCR8.out.2.1⟩⟩
                   ·have HHC:=Aside0.mk hhc
                    rw [fnd_pos (by rw [← HZS.out];exact ⟨hin2,hhc⟩)] at hfn
                    obtain rfl:=Option.some.inj hfn
                    clear hin2 hhc hfn
                    refine start_ (n:=14) (S:=fun w'=>Below w22_.heap.size w22_ w') (ds:=[]) (bits 14 0) (by kernel_rfl) rfl rfl (below_drew1 (Below.refl _ _)) (fun hHeld=>?_)
                    have HBd:=Aside0.mk hHeld
                    generalize w22_.drew = wd2 at HBd hHeld ⊢
                    refine zzp 0 120 (zzb 14 1) ?_;refine zzp 1 121 (zzb 14 3) ?_;refine zzp 2 122 (zzb 14 7) ?_
                    refine zzt 3 123 (zzb 14 15) hHeld ?_ (hy:=by intro w' s0;have hx_:=pw_cell_below s0 hgm;go_simp;with_reducible rfl)
                    refine zzt 4 124 (zzb 14 31) hHeld ?_ (hy:=by intro w' s0;have f220 : w'.cell? ⟨g22,0,none⟩ = some (.int .i64 c.f0):=(blk_cell (blk_below HCR7.out.2.2 s0) 0).trans rfl;have f221 : w'.cell? ⟨g22,1,none⟩ = some (.int .i64 c.f1):=(blk_cell (blk_below HCR7.out.2.2 s0) 1).trans rfl;go_simp;with_reducible rfl)
                    refine zzt 5 125 (zzb 14 63) hHeld ?_ (hy:=by intro w' s0;(have hl_ : (Instr.lookup 108 (.map (some b2)) (.agg #[.int .i64 c.f0,.int .i64 c.f1]) false).run Try.prog w' = .ok (.bool true) w':=(mapB_run (HM2.out.below s0) HWC.out).trans (by rw [chk_pos HIN2.out]));go_simp;with_reducible rfl);refine zzp 6 126 (zzb 14 127) ?_;refine zzp 7 127 (zzb 14 255) ?_
                    refine zzt 8 128 (zzb 14 511) hHeld ?_ (hy:=by intro w' s0;have f200 : w'.cell? ⟨g20,0,none⟩ = some (.int .i64 d.f0):=(blk_cell (blk_below HCR7.out.1 s0) 0).trans rfl;have f201 : w'.cell? ⟨g20,1,none⟩ = some (.int .i64 d.f1):=(blk_cell (blk_below HCR7.out.1 s0) 1).trans rfl;go_simp;with_reducible rfl)
                    refine zzt 9 129 (zzb 14 1023) hHeld ?_ (hy:=by intro w' s0;have f220 : w'.cell? ⟨g22,0,none⟩ = some (.int .i64 c.f0):=(blk_cell (blk_below HCR7.out.2.2 s0) 0).trans rfl;have f221 : w'.cell? ⟨g22,1,none⟩ = some (.int .i64 c.f1):=(blk_cell (blk_below HCR7.out.2.2 s0) 1).trans rfl;go_simp;with_reducible rfl);refine zzp 10 130 (zzb 14 2047) ?_
                    refine zzo 11 131 (zzb 14 4095) (fun K hK=>?_)
                    refine zzf Try.func93 #[.slice A1 os.length c1,.agg #[.int .i64 d.f0,.int .i64 d.f1],.agg #[.int .i64 c.f0,.int .i64 c.f1],.int .i64 z] ?_
                    with_reducible refine (impl_isHit.calls A1 c1 os d c z _ (Kd.C_below HR1.out (below_step HB1.out (below_step HBo.out (below_step HP7.out.g.bl HBd.out)))) HC1.out HO.out HZ64.out).mono ?_
                    rintro e w131 ⟨rfl,hB⟩
                    refine ⟨_,rfl,?_⟩
                    rw [chk_neg HHC.out]
                    have HBn : Aside0 (Below w22_.heap.size w22_ w131):=Aside0.mk (below_step HBd.out hB)
                    clear hB HBd hHeld
                    have HBd:=HBn
                    clear HBn
                    refine hK.out _ _ HBd.out (fun hHeld=>?_)
                    clear hK K
                    refine zzn 131 ?_;refine zzp 12 132 (zzb 14 8191) ?_;refine zzp 13 133 (zzb 14 16383) ?_
                    refine done_ (by kernel_rfl) ?_
                    have HP8:=Aside0.mk (HP7.out.below HBd.out)
                    have HCR8:=Aside0.mk (And.intro (blk_below HCR7.out.1 HBd.out) (And.intro (Kd.R_below HCR7.out.2.1 HBd.out) (blk_below HCR7.out.2.2 HBd.out)))
                    clear HP7 HCR7 HM2 hgm
                    have f220 : w131.cell? ⟨g22,0,none⟩ = some (.int .i64 c.f0):=(blk_cell HCR8.out.2.2 0).trans rfl
                    have f221 : w131.cell? ⟨g22,1,none⟩ = some (.int .i64 c.f1):=(blk_cell HCR8.out.2.2 1).trans rfl
                    go_wp2_with (first|(at_builtin;refine Kd.R_append k48 (W:=w131) wo.heap.size rfl (.tmp 134) (.tmp 136) 27 48 _ 16 rfl Try.underlying27 info48 rfl (by decide) (by decide) (.slice (some ad18) p.length c18) p c [.int .i64 c.f0,.int .i64 c.f1] (fun _=>True) (fun _=>False) rfl rfl (k48_mkM _ _ _ c) (fun _ hk=>hk.elim) (fun _ _=>trivial) HP8.out.out HP8.out.g.bl HP8.out.g.bl.size (by have:=HPL.out;have:=HSE.out;omega) ?_;intro v137 w137 hQ hB hg hat;have HP10:=Aside0.mk (HP8.out.app hQ hB hg);clear hQ hB hg hat HP8))
                    go_roundg k6
                    case measure=>omega
                    case rel=>exact ⟨s + 1,zq,p ++ [c],(by first|rfl|rw [hwzq]),⟨by have:=HZQ.out;have:=HSE.out;have:=HSL.out;omega⟩,HP2,HP10⟩
                  ·have HIN2:=Aside0.mk hin2
                   rw [fnd_neg (fun m=>hin2 m.1)] at hfn
                   have HFN2:=Aside0.mk hfn
                   clear hin2 hfn
                   refine start_ (n:=14) (S:=fun w'=>Below w22_.heap.size w22_ w') (ds:=[]) (bits 14 0) (by kernel_rfl) rfl rfl (below_drew1 (Below.refl _ _)) (fun hHeld=>?_)
                   have HBd:=Aside0.mk hHeld
                   generalize w22_.drew = wd2 at HBd hHeld ⊢
                   refine zzp 0 120 (zzb 14 1) ?_;refine zzp 1 121 (zzb 14 3) ?_;refine zzp 2 122 (zzb 14 7) ?_
                   refine zzt 3 123 (zzb 14 15) hHeld ?_ (hy:=by intro w' s0;have hx_:=pw_cell_below s0 hgm;go_simp;with_reducible rfl)
                   refine zzt 4 124 (zzb 14 31) hHeld ?_ (hy:=by intro w' s0;have f220 : w'.cell? ⟨g22,0,none⟩ = some (.int .i64 c.f0):=(blk_cell (blk_below HCR7.out.2.2 s0) 0).trans rfl;have f221 : w'.cell? ⟨g22,1,none⟩ = some (.int .i64 c.f1):=(blk_cell (blk_below HCR7.out.2.2 s0) 1).trans rfl;go_simp;with_reducible rfl)
                   refine zzt 5 125 (zzb 14 63) hHeld ?_ (hy:=by intro w' s0;(have hl_ : (Instr.lookup 108 (.map (some b2)) (.agg #[.int .i64 c.f0,.int .i64 c.f1]) false).run Try.prog w' = .ok (.bool false) w':=(mapB_run (HM2.out.below s0) HWC.out).trans (by rw [chk_neg HIN2.out]));go_simp;with_reducible rfl);refine zzp 6 126 (zzb 14 127) ?_;refine zzu 7 127 (zzb 14 255) ?_;refine zzu 8 128 (zzb 14 511) ?_;refine zzu 9 129 (zzb 14 1023) ?_;refine zzu 10 130 (zzb 14 2047) ?_;refine zzu 11 131 (zzb 14 4095) ?_;refine zzu 12 132 (zzb 14 8191) ?_;refine zzp 13 133 (zzb 14 16383) ?_
                   refine done_ (by kernel_rfl) ?_
                   have HP8:=Aside0.mk (HP7.out.below HBd.out)
                   have HCR8:=Aside0.mk (And.intro (blk_below HCR7.out.1 HBd.out) (And.intro (Kd.R_below HCR7.out.2.1 HBd.out) (blk_below HCR7.out.2.2 HBd.out)))
                   clear HP7 HCR7 HM2 hgm
                   go_wp2
                   go_roundg k7
                   case measure=>omega
                   case rel=>exact ⟨k + 1,rfl,by go_num,⟨by have:=HK.out;have:=HKL.out;omega⟩,HP8,HFN2,⟨HCR8.out.1,HCR8.out.2.1⟩⟩
                 ·have hfn:=HFN.out
                  rw [List.drop_eq_nil_of_le (by omega),fnd_nil] at hfn
                  cases hfn
              ·have cz6 : decide (z ≤ (e : Int)) = false:=decide_eq_false hz
               have hse : s = e:=by have:=HSE.out;omega
               have hR:=HR_.out p (by rw [← HTR.out,hse])
               subst hR
               clear hz hse
               go_wp2
               go_ret2
               exact ⟨_,rfl,Kd.R_lower HP.out.out (below_step HB1.out HBo.out).size,below_step HB1.out (below_step HBo.out HP.out.g.bl)⟩
           ·have HIN:=Aside0.mk hin
            have HNE : Aside0 (∀ s,s < e + 1 → ¬ EndI a0_0 a0_1 l0_2 os c2 c3 s):=⟨fun s hs hE=>by
             by_cases e' : s = e
             ·subst e'
              exact HIN.out hE.2
             ·exact HN.out s (by omega) hE⟩
            clear hin
            go_upto_region 29 with (fail)
            refine start_ (n:=6) (S:=fun w'=>Below wr.heap.size wr w') (ds:=[]) (bits 6 0) (by kernel_rfl) rfl rfl (below_drew1 (Below.refl _ _)) (fun hHeld=>?_)
            have HBd:=Aside0.mk hHeld
            have HG9:=Aside0.mk (HG.out.below HBd.out)
            generalize wr.drew = wd at HBd HG9 hHeld ⊢
            refine zzp 0 94 (zzb 6 1) ?_;refine zzp 1 95 (zzb 6 3) ?_
            refine zzt 2 96 (zzb 6 7) hHeld ?_ (hy:=by intro w' s0;have hx_:=pw_cell_below s0 hgm;go_simp;with_reducible rfl)
            refine zzt 3 97 (zzb 6 15) hHeld ?_ (hy:=by intro w' s0;have f60 : w'.cell? ⟨g6,0,none⟩ = some (.int .i64 c2.f0):=(blk_cell (blk_below HF6.out (below_step HBo.out (below_step HG.out.bl s0))) 0).trans rfl;have f61 : w'.cell? ⟨g6,1,none⟩ = some (.int .i64 c2.f1):=(blk_cell (blk_below HF6.out (below_step HBo.out (below_step HG.out.bl s0))) 1).trans rfl;go_simp;with_reducible rfl)
            refine zzt 4 98 (zzb 6 31) hHeld ?_ (hy:=by intro w' s0;(have hl_ : (Instr.lookup 108 (.map (some b0)) (.agg #[.int .i64 c2.f0,.int .i64 c2.f1]) false).run Try.prog w' = .ok (.bool false) w':=(mapB_run (HM0.out.below s0) HWA.out).trans (by rw [chk_neg HIN.out]));go_simp;with_reducible rfl);refine zzp 5 99 (zzb 6 63) ?_
            refine done_ (by kernel_rfl) ?_
            clear HG HM0 hgm
            go_wp2
            go_roundg k1
            case measure=>omega
            case rel=>exact ⟨e + 1,by go_num,⟨by have:=HE.out;omega⟩,HNE,⟨below_step HBo.out HG9.out.bl⟩⟩
   ·have ce : decide ((e : Int) < 25) = false:=decide_eq_false (by omega)
    have hR:=HRN.out (fun s hs=>HN.out s (by omega))
    subst hR
    go_wp2
    go_ret2
    exact ⟨_,rfl,Kd.R_nil _ _ _ _ _,below_step HB1.out HB.out⟩
end Go.Proofs.Ytbpccdbkaiigcaa.G
