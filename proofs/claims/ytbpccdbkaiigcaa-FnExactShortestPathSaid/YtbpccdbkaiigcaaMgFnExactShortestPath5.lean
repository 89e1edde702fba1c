/- Texts of the proof of FnExactShortestPath, joined in build order. -/
import Derived.Test.YtbpccdbkaiigcaaMgFnExactShortestPath3
import Derived.Test.YtbpccdbkaiigcaaMgFnExactShortestPath2
import Derived.Test.YtbpccdbkaiigcaaMgFnExactShortestPath1
import Derived.Test.YtbpccdbkaiigcaaMgFnExactShortestPath4
import Derived.Deep.Slices
import Derived.ChangeArms
import Derived.WideShapes
import Derived.ChangeShapes
/- The walks of impl.ShortestPath. -/
namespace Go.Proofs.Ytbpccdbkaiigcaa.G
open Go.RowKit Go.Proofs.YtbpccdbkaiigcaaW.PrintWords Go.Proofs.YtbpccdbkaiigcaaW.PrintLast Go.Proofs.YtbpccdbkaiigcaaW.PrintMore
set_option linter.unusedVariables false
set_option linter.unusedSimpArgs false
set_option maxHeartbeats 8000000 in
set_option maxRecDepth 100000 in
theorem impl_ShortestPath.good (a0_0 a0_1 : Int) (A0_2 : Option Addr) (c0_2 : Nat) (l0_2 : List S48) (c1 c2 : S48) (G : S48 → Prop) (nb : S48 → List S48) (K : Nat) (m : Mp) (kv kf kg : Nat) (v : Int) (w : World) (hr0_2 : Kd.C k48 w A0_2 l0_2.length l0_2) (hc0_2 : l0_2.length ≤ c0_2) (hv : impl_IsValidFloor.f kv a0_0 a0_1 l0_2 = some true) (hf : impl_isFree.f kf a0_0 a0_1 l0_2 c1.f0 c1.f1 = some true) (hg : impl_isFree.f kg a0_0 a0_1 l0_2 c2.f0 c2.f1 = some true) (hnb : Nbs a0_0 a0_1 l0_2 G nb) (hG1 : G c1) (hG2 : G c2) (hK : K ≤ 1000) (h : bfs nb K (upd (fun _=>none) c2 0) [c2] = some m) (hm1 : m c1 = some v) (hv0 : 0 ≤ v ∧ v ≤ 24) :
  Calls Try.prog 35 #[.agg #[.int .i64 a0_0,.int .i64 a0_1,.slice A0_2 l0_2.length c0_2],.agg #[.int .i64 c1.f0,.int .i64 c1.f1],.agg #[.int .i64 c2.f0,.int .i64 c2.f1]] w fun e w' => ∃ u : Value,e = .returned (.tuple #[u,.bool true]) ∧ Kd.R k48 48 w' w.heap.size (fun _=>True) u (leadOn nb m v.toNat [c1]) ∧ Below w.heap.size w w':=by
 have hu29:=Try.underlying29
 have hu48:=Try.underlying48
 have HR0:=Aside0.mk hr0_2
 have HC0:=Aside0.mk hc0_2
 have HN:=Aside0.mk hnb
 have HH:=Aside0.mk h
 have HGf:=Aside0.mk hG1
 have HGt:=Aside0.mk hG2
 have HV:=Aside0.mk hv
 have HF:=Aside0.mk hf
 have HG2:=Aside0.mk hg
 have HM1:=Aside0.mk hm1
 have HV0:=Aside0.mk hv0
 have cv : decide (24 < v) = false:=decide_eq_false (by omega)
 clear hr0_2 hc0_2 hnb h hv hf hg hG1 hG2 hm1 hv0
 go_enter Try.func35,Try.ntmps35
 go_wp2_with (first|((with_reducible refine gate_dst (N:=3) rfl ?_);refine box_event ?hg (N:=3) ?hd (cs := #[.int .i64 a0_0,.int .i64 a0_1,.slice A0_2 l0_2.length c0_2]) (t:=29) ?hr ?_;(case hd=>rfl);(case hg=>rfl);(case hr=>first|(go_simp;done)|(go_simp;rfl));intro g3 hgg3 w3 hbox hb;have Hg3:=Aside0.mk hbox;have HB:=Aside0.mk hb;have GG : Aside0 (w.heap.size ≤ g3):=Aside0.mk (Nat.le_of_eq hgg3.symm);clear hbox hb hgg3;have fg30_3 : w3.cell? ⟨g3,0,none⟩ = some (.int .i64 a0_0):=(blk_cell Hg3.out 0).trans rfl;have fg31_3 : w3.cell? ⟨g3,1,none⟩ = some (.int .i64 a0_1):=(blk_cell Hg3.out 1).trans rfl;have fg32_3 : w3.cell? ⟨g3,2,none⟩ = some (.slice A0_2 l0_2.length c0_2):=(blk_cell Hg3.out 2).trans rfl)|((with_reducible refine gate_dst (N:=4) rfl ?_);refine box_event ?hg (N:=4) ?hd (cs := #[.int .i64 c1.f0,.int .i64 c1.f1]) (t:=48) ?hr ?_;(case hd=>rfl);(case hg=>rfl);(case hr=>first|(go_simp;done)|(go_simp;rfl));intro g4 hgg4 w4 hbox hb;have Hg3':=Aside0.mk (blk_below Hg3.out hb);have HB':=Aside0.mk (below_step HB.out hb);clear HB Hg3;have Hg3:=Hg3';have HB:=HB';clear HB' Hg3';have Hg4:=Aside0.mk hbox;have fg30_4 : w4.cell? ⟨g3,0,none⟩ = some (.int .i64 a0_0):=(blk_cell Hg3.out 0).trans rfl;have fg31_4 : w4.cell? ⟨g3,1,none⟩ = some (.int .i64 a0_1):=(blk_cell Hg3.out 1).trans rfl;have fg32_4 : w4.cell? ⟨g3,2,none⟩ = some (.slice A0_2 l0_2.length c0_2):=(blk_cell Hg3.out 2).trans rfl;have fg40_4 : w4.cell? ⟨g4,0,none⟩ = some (.int .i64 c1.f0):=(blk_cell Hg4.out 0).trans rfl;have fg41_4 : w4.cell? ⟨g4,1,none⟩ = some (.int .i64 c1.f1):=(blk_cell Hg4.out 1).trans rfl;clear hbox hb hgg4)|((with_reducible refine gate_dst (N:=5) rfl ?_);refine box_event ?hg (N:=5) ?hd (cs := #[.int .i64 c2.f0,.int .i64 c2.f1]) (t:=48) ?hr ?_;(case hd=>rfl);(case hg=>rfl);(case hr=>first|(go_simp;done)|(go_simp;rfl));intro g5 hgg5 w5 hbox hb;have Hg3':=Aside0.mk (blk_below Hg3.out hb);have Hg4':=Aside0.mk (blk_below Hg4.out hb);have HB':=Aside0.mk (below_step HB.out hb);clear HB Hg3 Hg4;have Hg3:=Hg3';have Hg4:=Hg4';have HB:=HB';clear HB' Hg3' Hg4';have fg30_5 : w5.cell? ⟨g3,0,none⟩ = some (.int .i64 a0_0):=(blk_cell Hg3.out 0).trans rfl;have fg31_5 : w5.cell? ⟨g3,1,none⟩ = some (.int .i64 a0_1):=(blk_cell Hg3.out 1).trans rfl;have fg32_5 : w5.cell? ⟨g3,2,none⟩ = some (.slice A0_2 l0_2.length c0_2):=(blk_cell Hg3.out 2).trans rfl;have fg40_5 : w5.cell? ⟨g4,0,none⟩ = some (.int .i64 c1.f0):=(blk_cell Hg4.out 0).trans rfl;have fg41_5 : w5.cell? ⟨g4,1,none⟩ = some (.int .i64 c1.f1):=(blk_cell Hg4.out 1).trans rfl;have Hg5:=Aside0.mk hbox;have fg50_5 : w5.cell? ⟨g5,0,none⟩ = some (.int .i64 c2.f0):=(blk_cell Hg5.out 0).trans rfl;have fg51_5 : w5.cell? ⟨g5,1,none⟩ = some (.int .i64 c2.f1):=(blk_cell Hg5.out 1).trans rfl;clear hbox hb hgg5)|(go_at_call 16;(with_reducible refine (impl_IsValidFloor.calls kv a0_0 a0_1 A0_2 c0_2 l0_2 true _ (Kd.C_below HR0.out HB.out) HC0.out HV.out).mono ?_);rintro e w6 ⟨rfl,hB⟩;have Hg3':=Aside0.mk (blk_below Hg3.out hB);have Hg4':=Aside0.mk (blk_below Hg4.out hB);have Hg5':=Aside0.mk (blk_below Hg5.out hB);have HB':=Aside0.mk (below_step HB.out hB);clear HB Hg3 Hg4 Hg5;have Hg3:=Hg3';have Hg4:=Hg4';have Hg5:=Hg5';have HB:=HB';clear HB' Hg3' Hg4' Hg5';have fg30_6 : w6.cell? ⟨g3,0,none⟩ = some (.int .i64 a0_0):=(blk_cell Hg3.out 0).trans rfl;have fg31_6 : w6.cell? ⟨g3,1,none⟩ = some (.int .i64 a0_1):=(blk_cell Hg3.out 1).trans rfl;have fg32_6 : w6.cell? ⟨g3,2,none⟩ = some (.slice A0_2 l0_2.length c0_2):=(blk_cell Hg3.out 2).trans rfl;have fg40_6 : w6.cell? ⟨g4,0,none⟩ = some (.int .i64 c1.f0):=(blk_cell Hg4.out 0).trans rfl;have fg41_6 : w6.cell? ⟨g4,1,none⟩ = some (.int .i64 c1.f1):=(blk_cell Hg4.out 1).trans rfl;have fg50_6 : w6.cell? ⟨g5,0,none⟩ = some (.int .i64 c2.f0):=(blk_cell Hg5.out 0).trans rfl;have fg51_6 : w6.cell? ⟨g5,1,none⟩ = some (.int .i64 c2.f1):=(blk_cell Hg5.out 1).trans rfl;clear hB)|(go_at_call 58;(with_reducible refine (impl_isFree.calls kf a0_0 a0_1 A0_2 c0_2 l0_2 c1.f0 c1.f1 true _ (Kd.C_below HR0.out HB.out) HC0.out HF.out).mono ?_);rintro e w7 ⟨rfl,hB⟩;have Hg3':=Aside0.mk (blk_below Hg3.out hB);have Hg4':=Aside0.mk (blk_below Hg4.out hB);have Hg5':=Aside0.mk (blk_below Hg5.out hB);have HB':=Aside0.mk (below_step HB.out hB);clear HB Hg3 Hg4 Hg5;have Hg3:=Hg3';have Hg4:=Hg4';have Hg5:=Hg5';have HB:=HB';clear HB' Hg3' Hg4' Hg5';have fg30_7 : w7.cell? ⟨g3,0,none⟩ = some (.int .i64 a0_0):=(blk_cell Hg3.out 0).trans rfl;have fg31_7 : w7.cell? ⟨g3,1,none⟩ = some (.int .i64 a0_1):=(blk_cell Hg3.out 1).trans rfl;have fg32_7 : w7.cell? ⟨g3,2,none⟩ = some (.slice A0_2 l0_2.length c0_2):=(blk_cell Hg3.out 2).trans rfl;have fg40_7 : w7.cell? ⟨g4,0,none⟩ = some (.int .i64 c1.f0):=(blk_cell Hg4.out 0).trans rfl;have fg41_7 : w7.cell? ⟨g4,1,none⟩ = some (.int .i64 c1.f1):=(blk_cell Hg4.out 1).trans rfl;have fg50_7 : w7.cell? ⟨g5,0,none⟩ = some (.int .i64 c2.f0):=(blk_cell Hg5.out 0).trans rfl;have fg51_7 : w7.cell? ⟨g5,1,none⟩ = some (.int .i64 c2.f1):=(blk_cell Hg5.out 1).trans rfl;clear hB)|(go_at_call 58;(with_reducible refine (impl_isFree.calls kg a0_0 a0_1 A0_2 c0_2 l0_2 c2.f0 c2.f1 true _ (Kd.C_below HR0.out HB.out) HC0.out HG2.out).mono ?_);rintro e w8 ⟨rfl,hB⟩;have Hg3':=Aside0.mk (blk_below Hg3.out hB);have Hg4':=Aside0.mk (blk_below Hg4.out hB);have Hg5':=Aside0.mk (blk_below Hg5.out hB);have HB':=Aside0.mk (below_step HB.out hB);clear HB Hg3 Hg4 Hg5;have Hg3:=Hg3';have Hg4:=Hg4';have Hg5:=Hg5';have HB:=HB';clear HB' Hg3' Hg4' Hg5';have fg30_8 : w8.cell? ⟨g3,0,none⟩ = some (.int .i64 a0_0):=(blk_cell Hg3.out 0).trans rfl;have fg31_8 : w8.cell? ⟨g3,1,none⟩ = some (.int .i64 a0_1):=(blk_cell Hg3.out 1).trans rfl;have fg32_8 : w8.cell? ⟨g3,2,none⟩ = some (.slice A0_2 l0_2.length c0_2):=(blk_cell Hg3.out 2).trans rfl;have fg40_8 : w8.cell? ⟨g4,0,none⟩ = some (.int .i64 c1.f0):=(blk_cell Hg4.out 0).trans rfl;have fg41_8 : w8.cell? ⟨g4,1,none⟩ = some (.int .i64 c1.f1):=(blk_cell Hg4.out 1).trans rfl;have fg50_8 : w8.cell? ⟨g5,0,none⟩ = some (.int .i64 c2.f0):=(blk_cell Hg5.out 0).trans rfl;have fg51_8 : w8.cell? ⟨g5,1,none⟩ = some (.int .i64 c2.f1):=(blk_cell Hg5.out 1).trans rfl;clear hB)|(go_at_call 65;(with_reducible refine (impl_stepsFrom.calls a0_0 a0_1 A0_2 c0_2 l0_2 c2 G nb K m _ (Kd.C_below HR0.out HB.out) HC0.out HN.out HGt.out hK HH.out).mono ?_);rintro e w9 ⟨b,n,rfl,hbb,hn,hm,hB⟩;have HM:=Aside0.mk hm;have HBB : Aside0 (w.heap.size ≤ b):=Aside0.mk (Nat.le_trans HB.out.size hbb);have Hg3':=Aside0.mk (blk_below Hg3.out hB);have Hg4':=Aside0.mk (blk_below Hg4.out hB);have Hg5':=Aside0.mk (blk_below Hg5.out hB);have HB':=Aside0.mk (below_step HB.out hB);clear HB Hg3 Hg4 Hg5;have Hg3:=Hg3';have Hg4:=Hg4';have Hg5:=Hg5';have HB:=HB';clear HB' Hg3' Hg4' Hg5';have fg30_9 : w9.cell? ⟨g3,0,none⟩ = some (.int .i64 a0_0):=(blk_cell Hg3.out 0).trans rfl;have fg31_9 : w9.cell? ⟨g3,1,none⟩ = some (.int .i64 a0_1):=(blk_cell Hg3.out 1).trans rfl;have fg32_9 : w9.cell? ⟨g3,2,none⟩ = some (.slice A0_2 l0_2.length c0_2):=(blk_cell Hg3.out 2).trans rfl;have fg40_9 : w9.cell? ⟨g4,0,none⟩ = some (.int .i64 c1.f0):=(blk_cell Hg4.out 0).trans rfl;have fg41_9 : w9.cell? ⟨g4,1,none⟩ = some (.int .i64 c1.f1):=(blk_cell Hg4.out 1).trans rfl;have fg50_9 : w9.cell? ⟨g5,0,none⟩ = some (.int .i64 c2.f0):=(blk_cell Hg5.out 0).trans rfl;have fg51_9 : w9.cell? ⟨g5,1,none⟩ = some (.int .i64 c2.f1):=(blk_cell Hg5.out 1).trans rfl;clear hB hm hbb)|(at_lookup;refine wpI_lookup_ok' (c:=c1) rfl (.tmp 33) (.tmp 34) rfl rfl rfl HM.out (HN.out.wf c1 HGf.out) (v:=v) (i:=true) (by rw [HM1.out];rfl) (by rw [HM1.out];rfl) ?_)|((with_reducible refine gate_dst (N:=45) rfl ?_);refine Kd.R_lit k48 _ 48 ?hg (N:=45) ?hd (xs:=([c1] : List S48)) (inner:=[.int .i64 c1.f0,.int .i64 c1.f1]) (ok:=fun _=>True) (okp:=fun _=>True) ?hr ?hp (fun _ hk=>hk) trivial (Below.refl _ _) (Nat.le_refl _) (by simp) ?_;(case hd=>rfl);(case hg=>rfl);(case hr=>first|(go_simp;done)|(go_simp;rfl));(case hp=>exact (Reps.c2 (show Kd.M k48 _ _ _ c1 [.int .i64 c1.f0,.int .i64 c1.f1] from k48_mkM _ _ _ c1) (Reps.none _ _)));intro v45 w45 hR hB hg_ hnew_;clear hg_ hnew_;have HS : Aside0 (SR w w45 #[.int .i64 a0_0,.int .i64 a0_1,.slice A0_2 l0_2.length c0_2] g3 b n m v45 [c1] (.slice none 0 0) []):=Aside0.mk ⟨blk_below Hg3.out hB,HM.out.below hB,HBB.out,GG.out,Kd.R_lower (Kd.R_mono (Kd.R_bound hR) (fun k hk=>⟨fun e=>by have:=HM.out.lt;have:=hk.2.1;omega,fun e=>by have:=blk_lt Hg3.out;have:=hk.2.1;omega⟩)) HB.out.size,Kd.R_nil _ _ _ _ _,below_step HB.out hB⟩;clear hR hB))
 go_loopw [9,11] (fun v9 v11 w' => ∃ (k : Nat) (p : List S48) (y : Int),v9 = .int .i64 y ∧ Aside0 (y = (k : Int)) ∧ Aside0 (leadOn nb m k p = leadOn nb m v.toNat [c1]) ∧ Aside0 (0 < p.length ∧ p.length + k ≤ 30) ∧ Aside0 (∀ d ∈ p,G d) ∧ Aside0 (SR w w' #[.int .i64 a0_0,.int .i64 a0_1,.slice A0_2 l0_2.length c0_2] g3 b n m v11 p (.slice none 0 0) [])) (fun v9 _ _=>(intOf v9).toNat)
 case atStart=>exact ⟨v.toNat,[c1],v,rfl,⟨by have:=HV0.out;omega⟩,⟨rfl⟩,⟨by have:=HV0.out;simp;omega⟩,⟨fun d hd=>by rw [List.mem_singleton] at hd;subst hd;exact HGf.out⟩,HS⟩
 case round =>
  clear HS HM Hg3 Hg4 Hg5 HB HBB GG
  obtain ⟨k,p,y,rfl,HY,HL,HPL,HGp,HS⟩:=hrel
  cases k with
  | zero =>
   have ck : decide (0 < y) = false:=decide_eq_false (by have:=HY.out;omega)
   go_wp2
   go_ret2
   exact ⟨_,rfl,by have e:=HL.out;rw [← e];exact Kd.R_mono HS.out.ln (fun _ _=>trivial),HS.out.bl⟩
  | succ j =>
   obtain ⟨A11,c11,e11⟩:=Kd.R_slice HS.out.ln
   obtain ⟨N11,hN11⟩ : ∃ n,p.length = n:=⟨_,rfl⟩
   rw [hN11] at e11
   subst e11
   have HN11:=Aside0.mk hN11
   obtain ⟨z,hz⟩ : ∃ z : Int,(N11 : Int) - 1 = z:=⟨_,rfl⟩
   have hwz : wrap64 ((N11 : Int) - 1) = z:=by rw [wrap64_id (by omega) (by have:=HPL.out;omega)];exact hz
   obtain ⟨ad11,ea,hx0,hx1⟩:=at_T48 (Kd.R_reads' HS.out.ln).2.2 z (by have:=HPL.out;omega) (by omega)
   cases ea
   obtain ⟨c,hc⟩ : ∃ c,rd_T48 p z = c:=⟨_,rfl⟩
   rw [hc] at hx0 hx1
   have HGc : Aside0 (G c):=Aside0.mk (by rw [← hc];exact HGp.out _ (mem48 p z (by have:=HPL.out;omega) (by omega)))
   have z0 : (0 ≤ z) = True:=eq_true (by have:=HPL.out;omega)
   have z1 : (z < (N11 : Int)) = True:=eq_true (by omega)
   obtain ⟨y1,hy1⟩ : ∃ y1 : Int,(j : Int) = y1:=⟨_,rfl⟩
   have HY1:=Aside0.mk hy1
   have hl:=HL.out
   rw [leadOn,show (p.length : Int) - 1 = z from by rw [hN11];exact hz,hc] at hl
   rw [hy1] at hl
   have HL2:=Aside0.mk hl
   have hwk : wrap64 (y - 1) = y1:=by rw [wrap64_id (by have:=HY.out;omega) (by have:=HPL.out;have:=HY.out;omega)];have:=HY.out;omega
   have ck : decide (0 < y) = true:=decide_eq_true (by have:=HY.out;omega)
   have hf0 : wr.cell? ⟨g3,0,none⟩ = some (.int .i64 a0_0):=(blk_cell HS.out.fl 0).trans rfl
   have hf1 : wr.cell? ⟨g3,1,none⟩ = some (.int .i64 a0_1):=(blk_cell HS.out.fl 1).trans rfl
   have hf2 : wr.cell? ⟨g3,2,none⟩ = some (.slice A0_2 l0_2.length c0_2):=(blk_cell HS.out.fl 2).trans rfl
   obtain ⟨ka,hka⟩:=HN.out.run c HGc.out
   have HKA:=Aside0.mk hka
   clear hka hl HL hz hc hN11 hy1
   go_wp2
   refine start_ (n:=10) (S:=fun w'=>w'.cell? ⟨g3,0,none⟩ = some (.int .i64 a0_0) ∧ w'.cell? ⟨g3,1,none⟩ = some (.int .i64 a0_1) ∧ w'.cell? ⟨g3,2,none⟩ = some (.slice A0_2 l0_2.length c0_2) ∧ w'.cell? (ad11.add (z.toNat * 2)) = some (.int .i64 c.f0) ∧ w'.cell? ⟨(ad11.add (z.toNat * 2)).block,(ad11.add (z.toNat * 2)).off + 1,none⟩ = some (.int .i64 c.f1)) (ds:=[7]) #[false,false,false,false,false,false,false,false,false,false] (by kernel_rfl) rfl rfl ⟨hf0,hf1,hf2,hx0,hx1⟩ (fun hHeld=>?_)
   refine take_ (i:=0) (N:=(some 50)) (v:=?_) (a':=?_) #[true,false,false,false,false,false,false,false,false,false] rfl rfl (by kernel_rfl) (fun _ _ _ h=>h) (Or.inl ⟨by rfl,?_⟩) hHeld ?_ ?_
   rotate_left
   ·intro w' s0
    obtain ⟨s1,s2,s3,s4,s5⟩:=s0
    go_simp
    with_reducible rfl
   rotate_left
   ·simp only [Act.put,zT,zU,zV,i64_w,i32_w]
    rfl
   refine pure_ (i:=1) (N:=(some 51)) (v:=?_) (a':=?_) #[true,true,false,false,false,false,false,false,false,false] rfl rfl (by kernel_rfl) (fun _ _ _ h=>h) (Or.inl ⟨by rfl,?_⟩) ?_ ?_
   rotate_left
   ·intro w'
    go_simp
    with_reducible rfl
   rotate_left
   ·simp only [Act.put,zT,zU,zV,i64_w,i32_w]
    rfl
   refine pure_ (i:=2) (N:=(some 52)) (v:=?_) (a':=?_) #[true,true,true,false,false,false,false,false,false,false] rfl rfl (by kernel_rfl) (fun _ _ _ h=>h) (Or.inl ⟨by rfl,?_⟩) ?_ ?_
   rotate_left
   ·intro w'
    go_simp
    with_reducible rfl
   rotate_left
   ·simp only [Act.put,zT,zU,zV,i64_w,i32_w]
    rfl
   refine pure_ (i:=3) (N:=(some 53)) (v:=?_) (a':=?_) #[true,true,true,true,false,false,false,false,false,false] rfl rfl (by kernel_rfl) (fun _ _ _ h=>h) (Or.inl ⟨by rfl,?_⟩) ?_ ?_
   rotate_left
   ·intro w'
    go_simp
    with_reducible rfl
   rotate_left
   ·simp only [Act.put,zT,zU,zV,i64_w,i32_w]
    rfl
   refine pure_ (i:=4) (N:=(some 54)) (v:=?_) (a':=?_) #[true,true,true,true,true,false,false,false,false,false] rfl rfl (by kernel_rfl) (fun _ _ _ h=>h) (Or.inl ⟨by rfl,?_⟩) ?_ ?_
   rotate_left
   ·intro w'
    go_simp
    with_reducible rfl
   rotate_left
   ·simp only [Act.put,zT,zU,zV,i64_w,i32_w]
    rfl
   refine pure_ (i:=5) (N:=(some 55)) (v:=?_) (a':=?_) #[true,true,true,true,true,true,false,false,false,false] rfl rfl (by kernel_rfl) (fun _ _ _ h=>h) (Or.inl ⟨by rfl,?_⟩) ?_ ?_
   rotate_left
   ·intro w'
    go_simp
    with_reducible rfl
   rotate_left
   ·simp only [Act.put,zT,zU,zV,i64_w,i32_w]
    rfl
   refine take_ (i:=6) (N:=(some 56)) (v:=?_) (a':=?_) #[true,true,true,true,true,true,true,false,false,false] rfl rfl (by kernel_rfl) (fun _ _ _ h=>h) (Or.inl ⟨by rfl,?_⟩) hHeld ?_ ?_
   rotate_left
   ·intro w' s0
    obtain ⟨s1,s2,s3,s4,s5⟩:=s0
    go_simp
    with_reducible rfl
   rotate_left
   ·simp only [Act.put,zT,zU,zV,i64_w,i32_w]
    rfl
   refine pure_ (i:=9) (N:=(some 59)) (v:=?_) (a':=?_) #[true,true,true,true,true,true,true,false,false,true] rfl rfl (by kernel_rfl) (fun _ _ _ h=>h) (Or.inl ⟨by rfl,?_⟩) ?_ ?_
   rotate_left
   ·intro w'
    go_simp
    with_reducible rfl
   rotate_left
   ·simp only [Act.put,zT,zU,zV,i64_w,i32_w]
    rfl
   have HSd:=Aside0.mk (HS.out.below (below_drew1 (Below.refl _ _)))
   have HRd:=Aside0.mk (Kd.C_below HR0.out HSd.out.bl)
   generalize wr.drew = wd at HSd HRd hHeld ⊢
   refine last_ (i:=7) (N:=(some 57)) #[true,true,true,true,true,true,true,true,false,true] rfl rfl (by kernel_rfl) (by decide) (fun K hK=>?_)
   refine call_ 70 #[.agg #[.int .i64 a0_0,.int .i64 a0_1,.slice A0_2 l0_2.length c0_2],.agg #[.int .i64 c.f0,.int .i64 c.f1]] (by rfl) rfl ?hrun4 ?_
   case hrun4 =>
    unfold execOp
    simp [resolve,Deferred.ofValue,invoke,Act.eval,enters_ Try.func70 (by kernel_rfl) rfl]
   refine (impl_around.calls ka a0_0 a0_1 A0_2 c0_2 l0_2 c.f0 c.f1 (nb c) _ HRd.out HC0.out HKA.out).mono ?_
   rintro e w25 ⟨v25,rfl,hR,hB⟩
   refine ⟨_,rfl,?_⟩
   obtain ⟨A25,c25,rfl⟩:=Kd.R_slice hR
   have HS1:=Aside0.mk (HSd.out.near hB hR)
   clear hR hB hHeld HSd HRd HS hf0 hf1 hf2 hx0 hx1
   refine hK.out _ _ ?_
   clear hK K
   refine norm_ (a':=?_) ?_ ?_
   rotate_left
   ·show Act.put _ (some 57) _ = _
    simp only [Act.put,zT,zU,zV,i64_w,i32_w]
    rfl
   refine pure_ (i:=8) (N:=(some 58)) (v:=?_) (a':=?_) #[true,true,true,true,true,true,true,true,true,true] rfl rfl (by kernel_rfl) (fun _ _ _ h=>h) (Or.inl ⟨by rfl,?_⟩) ?_ ?_
   rotate_left
   ·intro w'
    go_simp
    with_reducible rfl
   rotate_left
   ·simp only [Act.put,zT,zU,zV,i64_w,i32_w]
    rfl
   refine done_ (by kernel_rfl) ?_
   clear hwz
   go_wp2
   go_loopw [11,59] (fun v11 v59 w' => ∃ x : Int,v11 = .slice (some ad11) N11 c11 ∧ v59 = .int .i64 x ∧ Aside0 (0 ≤ x ∧ x ≤ ((nb c).length : Int)) ∧ Aside0 (firstAt m y1 ((nb c).drop x.toNat) = firstAt m y1 (nb c)) ∧ Aside0 (SR w w' #[.int .i64 a0_0,.int .i64 a0_1,.slice A0_2 l0_2.length c0_2] g3 b n m (.slice (some ad11) N11 c11) p (.slice A25 (nb c).length c25) (nb c))) (fun _ v59 _=>(nb c).length - (intOf v59).toNat)
   case atStart=>exact ⟨0,rfl,rfl,⟨Int.le_refl _,by omega⟩,⟨rfl⟩,HS1⟩
   case round =>
    clear HS1
    obtain ⟨x,rfl,rfl,HX,HFS,HS⟩:=hrel
    have h5:=HN.out.len c HGc.out
    by_cases hlt : x < ((nb c).length : Int)
    ·obtain ⟨ad25,ea,hy0,hy1⟩:=at_T48 (Kd.R_reads' HS.out.nb).2.2 x HX.out.1 hlt
     cases ea
     obtain ⟨d,hd⟩ : ∃ d,rd_T48 (nb c) x = d:=⟨_,rfl⟩
     have hfs:=HFS.out
     rw [drop48 (nb c) x HX.out.1 hlt,hd,firstAt] at hfs
     have HGd : Aside0 (G d):=Aside0.mk (HN.out.cl c HGc.out d (by rw [← hd];exact mem48 _ x HX.out.1 hlt))
     rw [hd] at hy0 hy1
     have HX1 : Aside0 (0 ≤ x + 1 ∧ x + 1 ≤ ((nb c).length : Int)):=Aside0.mk (by have:=HX.out;omega)
     have hwx : wrap64 (x + 1) = x + 1:=wrap64_id (by have:=HX.out;omega) (by omega)
     have p0 : decide (x < ((nb c).length : Int)) = true:=decide_eq_true hlt
     have p1:=eq_true HX.out.1
     have p2:=eq_true hlt
     obtain ⟨x0,hx0⟩ : ∃ y,(m d).getD 0 = y:=⟨_,rfl⟩
     rw [hx0] at hfs
     have HX0:=Aside0.mk hx0
     clear hlt hd HFS hx0
     by_cases he : x0 = y1
     ·rw [if_pos he] at hfs
      have HFS:=Aside0.mk hfs.symm
      have hbe : (x0 == y1) = true:=beq_iff_eq.mpr he
      clear hfs he
      go_wp2_with (first|((with_reducible refine gate_dst (N:=13) rfl ?_);refine box_event ?hg (N:=13) ?hd (cs := #[.int .i64 0,.int .i64 0]) (t:=48) ?hr ?_;(case hd=>rfl);(case hg=>rfl);(case hr=>first|(go_simp;done)|(go_simp;rfl));intro g8 hgg8 w13 hbox hb;have HF8:=Aside0.mk hbox;have HB8:=Aside0.mk hb;have HG8:=Aside0.mk hgg8;clear hbox hb hgg8;have hz0 : w13.cell? ⟨g8,0,none⟩ = some (.int .i64 0):=(blk_cell HF8.out 0).trans rfl;have hz1 : w13.cell? ⟨g8,1,none⟩ = some (.int .i64 0):=(blk_cell HF8.out 1).trans rfl;have hzf0:=blk_frozen HF8.out 0;have hzf1:=blk_frozen HF8.out 1)|(at_lookup;have HB9:=Aside0.mk (below_set (j:=1) (v := .int .i64 d.f1) (below_set (j:=0) (v := .int .i64 d.f0) HB8.out (Nat.le_of_eq HG8.out.symm)) (Nat.le_of_eq HG8.out.symm));have HF9 : Aside0 (((w13.setCell ⟨g8,0,none⟩ (.int .i64 d.f0)).setCell ⟨g8,1,none⟩ (.int .i64 d.f1)).heap[g8]? = some (.cells #[.int .i64 d.f0,.int .i64 d.f1] 48 (0,0))):=Aside0.mk (blk_put (cs := #[.int .i64 d.f0,.int .i64 0]) (blk_put (cs := #[.int .i64 0,.int .i64 0]) HF8.out 0 _ rfl) 1 _ rfl);have HS9:=Aside0.mk (HS.out.below HB9.out);refine wpI_lookup (c:=d) rfl (.tmp 63) (.tmp 64) rfl rfl rfl HS9.out.mp (HN.out.wf d HGd.out) ?_;rw [HX0.out];clear HB9 hz0 hz1 hzf0 hzf1 HF8 HB8 HG8;generalize ((w13.setCell ⟨g8,0,none⟩ (.int .i64 d.f0)).setCell ⟨g8,1,none⟩ (.int .i64 d.f1)) = w9 at HF9 HS9 ⊢;have hc90 : w9.cell? ⟨g8,0,none⟩ = some (.int .i64 d.f0):=(blk_cell HF9.out 0).trans rfl;have hc91 : w9.cell? ⟨g8,1,none⟩ = some (.int .i64 d.f1):=(blk_cell HF9.out 1).trans rfl)|(at_builtin;refine Kd.R_append k48 (W:=w9) w.heap.size rfl (.tmp 69) (.tmp 71) 27 48 _ 16 rfl Try.underlying27 info48 rfl (by decide) (by decide) (.slice (some ad11) N11 c11) p d [.int .i64 d.f0,.int .i64 d.f1] (fun k=>k ≠ b ∧ k ≠ g3) (fun _=>False) rfl rfl (k48_mkM _ _ _ d) (fun _ hk=>hk.elim) (fun k hk=>⟨fun e=>by have:=HS9.out.mp.lt;omega,fun e=>by have:=blk_lt HS9.out.fl;omega⟩) HS9.out.ln HS9.out.bl HS9.out.bl.size (by have:=HPL.out;omega) ?_;intro v72 w72 hQ hB hg hat;have HS72:=Aside0.mk (HS9.out.app hQ hB hg hat);clear hQ hB hg hat HS9))
      go_roundw
      case measure=>simp [intOf];have:=HY.out;have:=HY1.out;omega
      case rel=>exact ⟨j,p ++ [d],y1,(by rw [hwk]),⟨HY1.out.symm⟩,⟨by have e:=HL2.out;rw [HFS.out] at e;exact e⟩,⟨by have:=HPL.out;rw [List.length_append,List.length_singleton];omega⟩,⟨fun e he=>by rcases List.mem_append.1 he with he|he;exact HGp.out e he;rw [List.mem_singleton] at he;subst he;exact HGd.out⟩,⟨HS72.out.open⟩⟩
     ·rw [if_neg he] at hfs
      have HFS:=Aside0.mk hfs
      have hbe : (x0 == y1) = false:=beq_eq_false_iff_ne.mpr he
      clear hfs he
      go_wp2_with (first|((with_reducible refine gate_dst (N:=13) rfl ?_);refine box_event ?hg (N:=13) ?hd (cs := #[.int .i64 0,.int .i64 0]) (t:=48) ?hr ?_;(case hd=>rfl);(case hg=>rfl);(case hr=>first|(go_simp;done)|(go_simp;rfl));intro g8 hgg8 w13 hbox hb;have HF8:=Aside0.mk hbox;have HB8:=Aside0.mk hb;have HG8:=Aside0.mk hgg8;clear hbox hb hgg8;have hz0 : w13.cell? ⟨g8,0,none⟩ = some (.int .i64 0):=(blk_cell HF8.out 0).trans rfl;have hz1 : w13.cell? ⟨g8,1,none⟩ = some (.int .i64 0):=(blk_cell HF8.out 1).trans rfl;have hzf0:=blk_frozen HF8.out 0;have hzf1:=blk_frozen HF8.out 1)|(at_lookup;have HB9:=Aside0.mk (below_set (j:=1) (v := .int .i64 d.f1) (below_set (j:=0) (v := .int .i64 d.f0) HB8.out (Nat.le_of_eq HG8.out.symm)) (Nat.le_of_eq HG8.out.symm));have HF9 : Aside0 (((w13.setCell ⟨g8,0,none⟩ (.int .i64 d.f0)).setCell ⟨g8,1,none⟩ (.int .i64 d.f1)).heap[g8]? = some (.cells #[.int .i64 d.f0,.int .i64 d.f1] 48 (0,0))):=Aside0.mk (blk_put (cs := #[.int .i64 d.f0,.int .i64 0]) (blk_put (cs := #[.int .i64 0,.int .i64 0]) HF8.out 0 _ rfl) 1 _ rfl);have HS9:=Aside0.mk (HS.out.below HB9.out);refine wpI_lookup (c:=d) rfl (.tmp 63) (.tmp 64) rfl rfl rfl HS9.out.mp (HN.out.wf d HGd.out) ?_;rw [HX0.out];clear HB9 hz0 hz1 hzf0 hzf1 HF8 HB8 HG8;generalize ((w13.setCell ⟨g8,0,none⟩ (.int .i64 d.f0)).setCell ⟨g8,1,none⟩ (.int .i64 d.f1)) = w9 at HF9 HS9 ⊢;have hc90 : w9.cell? ⟨g8,0,none⟩ = some (.int .i64 d.f0):=(blk_cell HF9.out 0).trans rfl;have hc91 : w9.cell? ⟨g8,1,none⟩ = some (.int .i64 d.f1):=(blk_cell HF9.out 1).trans rfl))
      go_roundw
      case measure=>simp [intOf];have:=HX1.out;have:=HX.out;omega
      case rel=>exact ⟨x + 1,rfl,(by rw [hwx]),HX1,HFS,HS9⟩
    ·have p0 : decide (x < ((nb c).length : Int)) = false:=decide_eq_false hlt
     have hfs:=HFS.out
     rw [List.drop_eq_nil_of_le (by have:=HX.out;omega),firstAt] at hfs
     have hl:=HL2.out
     rw [← hfs] at hl
     have HL3:=Aside0.mk hl
     clear hfs hl HFS hlt
     go_wp2
     go_roundw
     case measure=>simp [intOf];have:=HY.out;have:=HY1.out;omega
     case rel=>exact ⟨j,p,y1,(by rw [hwk]),⟨HY1.out.symm⟩,HL3,⟨by have:=HPL.out;omega⟩,HGp,⟨HS.out.open⟩⟩
set_option maxHeartbeats 8000000 in
set_option maxRecDepth 100000 in
theorem impl_ShortestPath.bad1 (a0_0 a0_1 : Int) (A0_2 : Option Addr) (c0_2 : Nat) (l0_2 : List S48) (c1 c2 : S48) (kv : Nat) (hv : impl_IsValidFloor.f kv a0_0 a0_1 l0_2 = some false) (w : World) (hr0_2 : Kd.C k48 w A0_2 l0_2.length l0_2) (hc0_2 : l0_2.length ≤ c0_2) :
  Calls Try.prog 35 #[.agg #[.int .i64 a0_0,.int .i64 a0_1,.slice A0_2 l0_2.length c0_2],.agg #[.int .i64 c1.f0,.int .i64 c1.f1],.agg #[.int .i64 c2.f0,.int .i64 c2.f1]] w fun e w' => ∃ u : Value,e = .returned (.tuple #[u,.bool false]) ∧ Kd.R k48 48 w' w.heap.size (fun _=>True) u [] ∧ Below w.heap.size w w':=by
 have hu29:=Try.underlying29
 have hu48:=Try.underlying48
 have HR0:=Aside0.mk hr0_2
 have HC0:=Aside0.mk hc0_2
 have HV:=Aside0.mk hv
 clear hr0_2 hc0_2 hv
 go_enter Try.func35,Try.ntmps35
 go_wp2_with (first|((with_reducible refine gate_dst (N:=3) rfl ?_);refine box_event ?hg (N:=3) ?hd (cs := #[.int .i64 a0_0,.int .i64 a0_1,.slice A0_2 l0_2.length c0_2]) (t:=29) ?hr ?_;(case hd=>rfl);(case hg=>rfl);(case hr=>first|(go_simp;done)|(go_simp;rfl));intro g3 hgg3 w3 hbox hb;have Hg3:=Aside0.mk hbox;have HB:=Aside0.mk hb;have GG : Aside0 (w.heap.size ≤ g3):=Aside0.mk (Nat.le_of_eq hgg3.symm);clear hbox hb hgg3;have fg30_3 : w3.cell? ⟨g3,0,none⟩ = some (.int .i64 a0_0):=(blk_cell Hg3.out 0).trans rfl;have fg31_3 : w3.cell? ⟨g3,1,none⟩ = some (.int .i64 a0_1):=(blk_cell Hg3.out 1).trans rfl;have fg32_3 : w3.cell? ⟨g3,2,none⟩ = some (.slice A0_2 l0_2.length c0_2):=(blk_cell Hg3.out 2).trans rfl)|((with_reducible refine gate_dst (N:=4) rfl ?_);refine box_event ?hg (N:=4) ?hd (cs := #[.int .i64 c1.f0,.int .i64 c1.f1]) (t:=48) ?hr ?_;(case hd=>rfl);(case hg=>rfl);(case hr=>first|(go_simp;done)|(go_simp;rfl));intro g4 hgg4 w4 hbox hb;have Hg3':=Aside0.mk (blk_below Hg3.out hb);have HB':=Aside0.mk (below_step HB.out hb);clear HB Hg3;have Hg3:=Hg3';have HB:=HB';clear HB' Hg3';have Hg4:=Aside0.mk hbox;have fg30_4 : w4.cell? ⟨g3,0,none⟩ = some (.int .i64 a0_0):=(blk_cell Hg3.out 0).trans rfl;have fg31_4 : w4.cell? ⟨g3,1,none⟩ = some (.int .i64 a0_1):=(blk_cell Hg3.out 1).trans rfl;have fg32_4 : w4.cell? ⟨g3,2,none⟩ = some (.slice A0_2 l0_2.length c0_2):=(blk_cell Hg3.out 2).trans rfl;have fg40_4 : w4.cell? ⟨g4,0,none⟩ = some (.int .i64 c1.f0):=(blk_cell Hg4.out 0).trans rfl;have fg41_4 : w4.cell? ⟨g4,1,none⟩ = some (.int .i64 c1.f1):=(blk_cell Hg4.out 1).trans rfl;clear hbox hb hgg4)|((with_reducible refine gate_dst (N:=5) rfl ?_);refine box_event ?hg (N:=5) ?hd (cs := #[.int .i64 c2.f0,.int .i64 c2.f1]) (t:=48) ?hr ?_;(case hd=>rfl);(case hg=>rfl);(case hr=>first|(go_simp;done)|(go_simp;rfl));intro g5 hgg5 w5 hbox hb;have Hg3':=Aside0.mk (blk_below Hg3.out hb);have Hg4':=Aside0.mk (blk_below Hg4.out hb);have HB':=Aside0.mk (below_step HB.out hb);clear HB Hg3 Hg4;have Hg3:=Hg3';have Hg4:=Hg4';have HB:=HB';clear HB' Hg3' Hg4';have fg30_5 : w5.cell? ⟨g3,0,none⟩ = some (.int .i64 a0_0):=(blk_cell Hg3.out 0).trans rfl;have fg31_5 : w5.cell? ⟨g3,1,none⟩ = some (.int .i64 a0_1):=(blk_cell Hg3.out 1).trans rfl;have fg32_5 : w5.cell? ⟨g3,2,none⟩ = some (.slice A0_2 l0_2.length c0_2):=(blk_cell Hg3.out 2).trans rfl;have fg40_5 : w5.cell? ⟨g4,0,none⟩ = some (.int .i64 c1.f0):=(blk_cell Hg4.out 0).trans rfl;have fg41_5 : w5.cell? ⟨g4,1,none⟩ = some (.int .i64 c1.f1):=(blk_cell Hg4.out 1).trans rfl;have Hg5:=Aside0.mk hbox;have fg50_5 : w5.cell? ⟨g5,0,none⟩ = some (.int .i64 c2.f0):=(blk_cell Hg5.out 0).trans rfl;have fg51_5 : w5.cell? ⟨g5,1,none⟩ = some (.int .i64 c2.f1):=(blk_cell Hg5.out 1).trans rfl;clear hbox hb hgg5)|(go_at_call 16;(with_reducible refine (impl_IsValidFloor.calls kv a0_0 a0_1 A0_2 c0_2 l0_2 false _ (Kd.C_below HR0.out HB.out) HC0.out HV.out).mono ?_);rintro e w6 ⟨rfl,hB⟩;have Hg3':=Aside0.mk (blk_below Hg3.out hB);have Hg4':=Aside0.mk (blk_below Hg4.out hB);have Hg5':=Aside0.mk (blk_below Hg5.out hB);have HB':=Aside0.mk (below_step HB.out hB);clear HB Hg3 Hg4 Hg5;have Hg3:=Hg3';have Hg4:=Hg4';have Hg5:=Hg5';have HB:=HB';clear HB' Hg3' Hg4' Hg5';have fg30_6 : w6.cell? ⟨g3,0,none⟩ = some (.int .i64 a0_0):=(blk_cell Hg3.out 0).trans rfl;have fg31_6 : w6.cell? ⟨g3,1,none⟩ = some (.int .i64 a0_1):=(blk_cell Hg3.out 1).trans rfl;have fg32_6 : w6.cell? ⟨g3,2,none⟩ = some (.slice A0_2 l0_2.length c0_2):=(blk_cell Hg3.out 2).trans rfl;have fg40_6 : w6.cell? ⟨g4,0,none⟩ = some (.int .i64 c1.f0):=(blk_cell Hg4.out 0).trans rfl;have fg41_6 : w6.cell? ⟨g4,1,none⟩ = some (.int .i64 c1.f1):=(blk_cell Hg4.out 1).trans rfl;have fg50_6 : w6.cell? ⟨g5,0,none⟩ = some (.int .i64 c2.f0):=(blk_cell Hg5.out 0).trans rfl;have fg51_6 : w6.cell? ⟨g5,1,none⟩ = some (.int .i64 c2.f1):=(blk_cell Hg5.out 1).trans rfl;clear hB))
 go_ret2
 exact ⟨_,rfl,Kd.R_nil _ _ _ _ _,HB.out⟩
set_option maxHeartbeats 8000000 in
set_option maxRecDepth 100000 in
theorem impl_ShortestPath.bad2 (a0_0 a0_1 : Int) (A0_2 : Option Addr) (c0_2 : Nat) (l0_2 : List S48) (c1 c2 : S48) (kv kf : Nat) (hv : impl_IsValidFloor.f kv a0_0 a0_1 l0_2 = some true) (hf : impl_isFree.f kf a0_0 a0_1 l0_2 c1.f0 c1.f1 = some false) (w : World) (hr0_2 : Kd.C k48 w A0_2 l0_2.length l0_2) (hc0_2 : l0_2.length ≤ c0_2) :
  Calls Try.prog 35 #[.agg #[.int .i64 a0_0,.int .i64 a0_1,.slice A0_2 l0_2.length c0_2],.agg #[.int .i64 c1.f0,.int .i64 c1.f1],.agg #[.int .i64 c2.f0,.int .i64 c2.f1]] w fun e w' => ∃ u : Value,e = .returned (.tuple #[u,.bool false]) ∧ Kd.R k48 48 w' w.heap.size (fun _=>True) u [] ∧ Below w.heap.size w w':=by
 have hu29:=Try.underlying29
 have hu48:=Try.underlying48
 have HR0:=Aside0.mk hr0_2
 have HC0:=Aside0.mk hc0_2
 have HV:=Aside0.mk hv
 have HF:=Aside0.mk hf
 clear hr0_2 hc0_2 hv hf
 go_enter Try.func35,Try.ntmps35
 go_wp2_with (first|((with_reducible refine gate_dst (N:=3) rfl ?_);refine box_event ?hg (N:=3) ?hd (cs := #[.int .i64 a0_0,.int .i64 a0_1,.slice A0_2 l0_2.length c0_2]) (t:=29) ?hr ?_;(case hd=>rfl);(case hg=>rfl);(case hr=>first|(go_simp;done)|(go_simp;rfl));intro g3 hgg3 w3 hbox hb;have Hg3:=Aside0.mk hbox;have HB:=Aside0.mk hb;have GG : Aside0 (w.heap.size ≤ g3):=Aside0.mk (Nat.le_of_eq hgg3.symm);clear hbox hb hgg3;have fg30_3 : w3.cell? ⟨g3,0,none⟩ = some (.int .i64 a0_0):=(blk_cell Hg3.out 0).trans rfl;have fg31_3 : w3.cell? ⟨g3,1,none⟩ = some (.int .i64 a0_1):=(blk_cell Hg3.out 1).trans rfl;have fg32_3 : w3.cell? ⟨g3,2,none⟩ = some (.slice A0_2 l0_2.length c0_2):=(blk_cell Hg3.out 2).trans rfl)|((with_reducible refine gate_dst (N:=4) rfl ?_);refine box_event ?hg (N:=4) ?hd (cs := #[.int .i64 c1.f0,.int .i64 c1.f1]) (t:=48) ?hr ?_;(case hd=>rfl);(case hg=>rfl);(case hr=>first|(go_simp;done)|(go_simp;rfl));intro g4 hgg4 w4 hbox hb;have Hg3':=Aside0.mk (blk_below Hg3.out hb);have HB':=Aside0.mk (below_step HB.out hb);clear HB Hg3;have Hg3:=Hg3';have HB:=HB';clear HB' Hg3';have Hg4:=Aside0.mk hbox;have fg30_4 : w4.cell? ⟨g3,0,none⟩ = some (.int .i64 a0_0):=(blk_cell Hg3.out 0).trans rfl;have fg31_4 : w4.cell? ⟨g3,1,none⟩ = some (.int .i64 a0_1):=(blk_cell Hg3.out 1).trans rfl;have fg32_4 : w4.cell? ⟨g3,2,none⟩ = some (.slice A0_2 l0_2.length c0_2):=(blk_cell Hg3.out 2).trans rfl;have fg40_4 : w4.cell? ⟨g4,0,none⟩ = some (.int .i64 c1.f0):=(blk_cell Hg4.out 0).trans rfl;have fg41_4 : w4.cell? ⟨g4,1,none⟩ = some (.int .i64 c1.f1):=(blk_cell Hg4.out 1).trans rfl;clear hbox hb hgg4)|((with_reducible refine gate_dst (N:=5) rfl ?_);refine box_event ?hg (N:=5) ?hd (cs := #[.int .i64 c2.f0,.int .i64 c2.f1]) (t:=48) ?hr ?_;(case hd=>rfl);(case hg=>rfl);(case hr=>first|(go_simp;done)|(go_simp;rfl));intro g5 hgg5 w5 hbox hb;have Hg3':=Aside0.mk (blk_below Hg3.out hb);have Hg4':=Aside0.mk (blk_below Hg4.out hb);have HB':=Aside0.mk (below_step HB.out hb);clear HB Hg3 Hg4;have Hg3:=Hg3';have Hg4:=Hg4';have HB:=HB';clear HB' Hg3' Hg4';have fg30_5 : w5.cell? ⟨g3,0,none⟩ = some (.int .i64 a0_0):=(blk_cell Hg3.out 0).trans rfl;have fg31_5 : w5.cell? ⟨g3,1,none⟩ = some (.int .i64 a0_1):=(blk_cell Hg3.out 1).trans rfl;have fg32_5 : w5.cell? ⟨g3,2,none⟩ = some (.slice A0_2 l0_2.length c0_2):=(blk_cell Hg3.out 2).trans rfl;have fg40_5 : w5.cell? ⟨g4,0,none⟩ = some (.int .i64 c1.f0):=(blk_cell Hg4.out 0).trans rfl;have fg41_5 : w5.cell? ⟨g4,1,none⟩ = some (.int .i64 c1.f1):=(blk_cell Hg4.out 1).trans rfl;have Hg5:=Aside0.mk hbox;have fg50_5 : w5.cell? ⟨g5,0,none⟩ = some (.int .i64 c2.f0):=(blk_cell Hg5.out 0).trans rfl;have fg51_5 : w5.cell? ⟨g5,1,none⟩ = some (.int .i64 c2.f1):=(blk_cell Hg5.out 1).trans rfl;clear hbox hb hgg5)|(go_at_call 16;(with_reducible refine (impl_IsValidFloor.calls kv a0_0 a0_1 A0_2 c0_2 l0_2 true _ (Kd.C_below HR0.out HB.out) HC0.out HV.out).mono ?_);rintro e w6 ⟨rfl,hB⟩;have Hg3':=Aside0.mk (blk_below Hg3.out hB);have Hg4':=Aside0.mk (blk_below Hg4.out hB);have Hg5':=Aside0.mk (blk_below Hg5.out hB);have HB':=Aside0.mk (below_step HB.out hB);clear HB Hg3 Hg4 Hg5;have Hg3:=Hg3';have Hg4:=Hg4';have Hg5:=Hg5';have HB:=HB';clear HB' Hg3' Hg4' Hg5';have fg30_6 : w6.cell? ⟨g3,0,none⟩ = some (.int .i64 a0_0):=(blk_cell Hg3.out 0).trans rfl;have fg31_6 : w6.cell? ⟨g3,1,none⟩ = some (.int .i64 a0_1):=(blk_cell Hg3.out 1).trans rfl;have fg32_6 : w6.cell? ⟨g3,2,none⟩ = some (.slice A0_2 l0_2.length c0_2):=(blk_cell Hg3.out 2).trans rfl;have fg40_6 : w6.cell? ⟨g4,0,none⟩ = some (.int .i64 c1.f0):=(blk_cell Hg4.out 0).trans rfl;have fg41_6 : w6.cell? ⟨g4,1,none⟩ = some (.int .i64 c1.f1):=(blk_cell Hg4.out 1).trans rfl;have fg50_6 : w6.cell? ⟨g5,0,none⟩ = some (.int .i64 c2.f0):=(blk_cell Hg5.out 0).trans rfl;have fg51_6 : w6.cell? ⟨g5,1,none⟩ = some (.int .i64 c2.f1):=(blk_cell Hg5.out 1).trans rfl;clear hB)|(go_at_call 58;(with_reducible refine (impl_isFree.calls kf a0_0 a0_1 A0_2 c0_2 l0_2 c1.f0 c1.f1 false _ (Kd.C_below HR0.out HB.out) HC0.out HF.out).mono ?_);rintro e w7 ⟨rfl,hB⟩;have Hg3':=Aside0.mk (blk_below Hg3.out hB);have Hg4':=Aside0.mk (blk_below Hg4.out hB);have Hg5':=Aside0.mk (blk_below Hg5.out hB);have HB':=Aside0.mk (below_step HB.out hB);clear HB Hg3 Hg4 Hg5;have Hg3:=Hg3';have Hg4:=Hg4';have Hg5:=Hg5';have HB:=HB';clear HB' Hg3' Hg4' Hg5';have fg30_7 : w7.cell? ⟨g3,0,none⟩ = some (.int .i64 a0_0):=(blk_cell Hg3.out 0).trans rfl;have fg31_7 : w7.cell? ⟨g3,1,none⟩ = some (.int .i64 a0_1):=(blk_cell Hg3.out 1).trans rfl;have fg32_7 : w7.cell? ⟨g3,2,none⟩ = some (.slice A0_2 l0_2.length c0_2):=(blk_cell Hg3.out 2).trans rfl;have fg40_7 : w7.cell? ⟨g4,0,none⟩ = some (.int .i64 c1.f0):=(blk_cell Hg4.out 0).trans rfl;have fg41_7 : w7.cell? ⟨g4,1,none⟩ = some (.int .i64 c1.f1):=(blk_cell Hg4.out 1).trans rfl;have fg50_7 : w7.cell? ⟨g5,0,none⟩ = some (.int .i64 c2.f0):=(blk_cell Hg5.out 0).trans rfl;have fg51_7 : w7.cell? ⟨g5,1,none⟩ = some (.int .i64 c2.f1):=(blk_cell Hg5.out 1).trans rfl;clear hB))
 go_ret2
 exact ⟨_,rfl,Kd.R_nil _ _ _ _ _,HB.out⟩
set_option maxHeartbeats 8000000 in
set_option maxRecDepth 100000 in
theorem impl_ShortestPath.bad3 (a0_0 a0_1 : Int) (A0_2 : Option Addr) (c0_2 : Nat) (l0_2 : List S48) (c1 c2 : S48) (kv kf kg : Nat) (hv : impl_IsValidFloor.f kv a0_0 a0_1 l0_2 = some true) (hf : impl_isFree.f kf a0_0 a0_1 l0_2 c1.f0 c1.f1 = some true) (hg : impl_isFree.f kg a0_0 a0_1 l0_2 c2.f0 c2.f1 = some false) (w : World) (hr0_2 : Kd.C k48 w A0_2 l0_2.length l0_2) (hc0_2 : l0_2.length ≤ c0_2) :
  Calls Try.prog 35 #[.agg #[.int .i64 a0_0,.int .i64 a0_1,.slice A0_2 l0_2.length c0_2],.agg #[.int .i64 c1.f0,.int .i64 c1.f1],.agg #[.int .i64 c2.f0,.int .i64 c2.f1]] w fun e w' => ∃ u : Value,e = .returned (.tuple #[u,.bool false]) ∧ Kd.R k48 48 w' w.heap.size (fun _=>True) u [] ∧ Below w.heap.size w w':=by
 have hu29:=Try.underlying29
 have hu48:=Try.underlying48
 have HR0:=Aside0.mk hr0_2
 have HC0:=Aside0.mk hc0_2
 have HV:=Aside0.mk hv
 have HF:=Aside0.mk hf
 have HG2:=Aside0.mk hg
 clear hr0_2 hc0_2 hv hf hg
 go_enter Try.func35,Try.ntmps35
 go_wp2_with (first|((with_reducible refine gate_dst (N:=3) rfl ?_);refine box_event ?hg (N:=3) ?hd (cs := #[.int .i64 a0_0,.int .i64 a0_1,.slice A0_2 l0_2.length c0_2]) (t:=29) ?hr ?_;(case hd=>rfl);(case hg=>rfl);(case hr=>first|(go_simp;done)|(go_simp;rfl));intro g3 hgg3 w3 hbox hb;have Hg3:=Aside0.mk hbox;have HB:=Aside0.mk hb;have GG : Aside0 (w.heap.size ≤ g3):=Aside0.mk (Nat.le_of_eq hgg3.symm);clear hbox hb hgg3;have fg30_3 : w3.cell? ⟨g3,0,none⟩ = some (.int .i64 a0_0):=(blk_cell Hg3.out 0).trans rfl;have fg31_3 : w3.cell? ⟨g3,1,none⟩ = some (.int .i64 a0_1):=(blk_cell Hg3.out 1).trans rfl;have fg32_3 : w3.cell? ⟨g3,2,none⟩ = some (.slice A0_2 l0_2.length c0_2):=(blk_cell Hg3.out 2).trans rfl)|((with_reducible refine gate_dst (N:=4) rfl ?_);refine box_event ?hg (N:=4) ?hd (cs := #[.int .i64 c1.f0,.int .i64 c1.f1]) (t:=48) ?hr ?_;(case hd=>rfl);(case hg=>rfl);(case hr=>first|(go_simp;done)|(go_simp;rfl));intro g4 hgg4 w4 hbox hb;have Hg3':=Aside0.mk (blk_below Hg3.out hb);have HB':=Aside0.mk (below_step HB.out hb);clear HB Hg3;have Hg3:=Hg3';have HB:=HB';clear HB' Hg3';have Hg4:=Aside0.mk hbox;have fg30_4 : w4.cell? ⟨g3,0,none⟩ = some (.int .i64 a0_0):=(blk_cell Hg3.out 0).trans rfl;have fg31_4 : w4.cell? ⟨g3,1,none⟩ = some (.int .i64 a0_1):=(blk_cell Hg3.out 1).trans rfl;have fg32_4 : w4.cell? ⟨g3,2,none⟩ = some (.slice A0_2 l0_2.length c0_2):=(blk_cell Hg3.out 2).trans rfl;have fg40_4 : w4.cell? ⟨g4,0,none⟩ = some (.int .i64 c1.f0):=(blk_cell Hg4.out 0).trans rfl;have fg41_4 : w4.cell? ⟨g4,1,none⟩ = some (.int .i64 c1.f1):=(blk_cell Hg4.out 1).trans rfl;clear hbox hb hgg4)|((with_reducible refine gate_dst (N:=5) rfl ?_);refine box_event ?hg (N:=5) ?hd (cs := #[.int .i64 c2.f0,.int .i64 c2.f1]) (t:=48) ?hr ?_;(case hd=>rfl);(case hg=>rfl);(case hr=>first|(go_simp;done)|(go_simp;rfl));intro g5 hgg5 w5 hbox hb;have Hg3':=Aside0.mk (blk_below Hg3.out hb);have Hg4':=Aside0.mk (blk_below Hg4.out hb);have HB':=Aside0.mk (below_step HB.out hb);clear HB Hg3 Hg4;have Hg3:=Hg3';have Hg4:=Hg4';have HB:=HB';clear HB' Hg3' Hg4';have fg30_5 : w5.cell? ⟨g3,0,none⟩ = some (.int .i64 a0_0):=(blk_cell Hg3.out 0).trans rfl;have fg31_5 : w5.cell? ⟨g3,1,none⟩ = some (.int .i64 a0_1):=(blk_cell Hg3.out 1).trans rfl;have fg32_5 : w5.cell? ⟨g3,2,none⟩ = some (.slice A0_2 l0_2.length c0_2):=(blk_cell Hg3.out 2).trans rfl;have fg40_5 : w5.cell? ⟨g4,0,none⟩ = some (.int .i64 c1.f0):=(blk_cell Hg4.out 0).trans rfl;have fg41_5 : w5.cell? ⟨g4,1,none⟩ = some (.int .i64 c1.f1):=(blk_cell Hg4.out 1).trans rfl;have Hg5:=Aside0.mk hbox;have fg50_5 : w5.cell? ⟨g5,0,none⟩ = some (.int .i64 c2.f0):=(blk_cell Hg5.out 0).trans rfl;have fg51_5 : w5.cell? ⟨g5,1,none⟩ = some (.int .i64 c2.f1):=(blk_cell Hg5.out 1).trans rfl;clear hbox hb hgg5)|(go_at_call 16;(with_reducible refine (impl_IsValidFloor.calls kv a0_0 a0_1 A0_2 c0_2 l0_2 true _ (Kd.C_below HR0.out HB.out) HC0.out HV.out).mono ?_);rintro e w6 ⟨rfl,hB⟩;have Hg3':=Aside0.mk (blk_below Hg3.out hB);have Hg4':=Aside0.mk (blk_below Hg4.out hB);have Hg5':=Aside0.mk (blk_below Hg5.out hB);have HB':=Aside0.mk (below_step HB.out hB);clear HB Hg3 Hg4 Hg5;have Hg3:=Hg3';have Hg4:=Hg4';have Hg5:=Hg5';have HB:=HB';clear HB' Hg3' Hg4' Hg5';have fg30_6 : w6.cell? ⟨g3,0,none⟩ = some (.int .i64 a0_0):=(blk_cell Hg3.out 0).trans rfl;have fg31_6 : w6.cell? ⟨g3,1,none⟩ = some (.int .i64 a0_1):=(blk_cell Hg3.out 1).trans rfl;have fg32_6 : w6.cell? ⟨g3,2,none⟩ = some (.slice A0_2 l0_2.length c0_2):=(blk_cell Hg3.out 2).trans rfl;have fg40_6 : w6.cell? ⟨g4,0,none⟩ = some (.int .i64 c1.f0):=(blk_cell Hg4.out 0).trans rfl;have fg41_6 : w6.cell? ⟨g4,1,none⟩ = some (.int .i64 c1.f1):=(blk_cell Hg4.out 1).trans rfl;have fg50_6 : w6.cell? ⟨g5,0,none⟩ = some (.int .i64 c2.f0):=(blk_cell Hg5.out 0).trans rfl;have fg51_6 : w6.cell? ⟨g5,1,none⟩ = some (.int .i64 c2.f1):=(blk_cell Hg5.out 1).trans rfl;clear hB)|(go_at_call 58;(with_reducible refine (impl_isFree.calls kf a0_0 a0_1 A0_2 c0_2 l0_2 c1.f0 c1.f1 true _ (Kd.C_below HR0.out HB.out) HC0.out HF.out).mono ?_);rintro e w7 ⟨rfl,hB⟩;have Hg3':=Aside0.mk (blk_below Hg3.out hB);have Hg4':=Aside0.mk (blk_below Hg4.out hB);have Hg5':=Aside0.mk (blk_below Hg5.out hB);have HB':=Aside0.mk (below_step HB.out hB);clear HB Hg3 Hg4 Hg5;have Hg3:=Hg3';have Hg4:=Hg4';have Hg5:=Hg5';have HB:=HB';clear HB' Hg3' Hg4' Hg5';have fg30_7 : w7.cell? ⟨g3,0,none⟩ = some (.int .i64 a0_0):=(blk_cell Hg3.out 0).trans rfl;have fg31_7 : w7.cell? ⟨g3,1,none⟩ = some (.int .i64 a0_1):=(blk_cell Hg3.out 1).trans rfl;have fg32_7 : w7.cell? ⟨g3,2,none⟩ = some (.slice A0_2 l0_2.length c0_2):=(blk_cell Hg3.out 2).trans rfl;have fg40_7 : w7.cell? ⟨g4,0,none⟩ = some (.int .i64 c1.f0):=(blk_cell Hg4.out 0).trans rfl;have fg41_7 : w7.cell? ⟨g4,1,none⟩ = some (.int .i64 c1.f1):=(blk_cell Hg4.out 1).trans rfl;have fg50_7 : w7.cell? ⟨g5,0,none⟩ = some (.int .i64 c2.f0):=(blk_cell Hg5.out 0).trans rfl;have fg51_7 : w7.cell? ⟨g5,1,none⟩ = some (.int .i64 c2.f1):=(blk_cell Hg5.out 1).trans rfl;clear hB)|(go_at_call 58;(with_reducible refine (impl_isFree.calls kg a0_0 a0_1 A0_2 c0_2 l0_2 c2.f0 c2.f1 false _ (Kd.C_below HR0.out HB.out) HC0.out HG2.out).mono ?_);rintro e w8 ⟨rfl,hB⟩;have Hg3':=Aside0.mk (blk_below Hg3.out hB);have Hg4':=Aside0.mk (blk_below Hg4.out hB);have Hg5':=Aside0.mk (blk_below Hg5.out hB);have HB':=Aside0.mk (below_step HB.out hB);clear HB Hg3 Hg4 Hg5;have Hg3:=Hg3';have Hg4:=Hg4';have Hg5:=Hg5';have HB:=HB';clear HB' Hg3' Hg4' Hg5';have fg30_8 : w8.cell? ⟨g3,0,none⟩ = some (.int .i64 a0_0):=(blk_cell Hg3.out 0).trans rfl;have fg31_8 : w8.cell? ⟨g3,1,none⟩ = some (.int .i64 a0_1):=(blk_cell Hg3.out 1).trans rfl;have fg32_8 : w8.cell? ⟨g3,2,none⟩ = some (.slice A0_2 l0_2.length c0_2):=(blk_cell Hg3.out 2).trans rfl;have fg40_8 : w8.cell? ⟨g4,0,none⟩ = some (.int .i64 c1.f0):=(blk_cell Hg4.out 0).trans rfl;have fg41_8 : w8.cell? ⟨g4,1,none⟩ = some (.int .i64 c1.f1):=(blk_cell Hg4.out 1).trans rfl;have fg50_8 : w8.cell? ⟨g5,0,none⟩ = some (.int .i64 c2.f0):=(blk_cell Hg5.out 0).trans rfl;have fg51_8 : w8.cell? ⟨g5,1,none⟩ = some (.int .i64 c2.f1):=(blk_cell Hg5.out 1).trans rfl;clear hB))
 go_ret2
 exact ⟨_,rfl,Kd.R_nil _ _ _ _ _,HB.out⟩
set_option maxHeartbeats 8000000 in
set_option maxRecDepth 100000 in
theorem impl_ShortestPath.bad4 (a0_0 a0_1 : Int) (A0_2 : Option Addr) (c0_2 : Nat) (l0_2 : List S48) (c1 c2 : S48) (G : S48 → Prop) (nb : S48 → List S48) (K : Nat) (m : Mp) (kv kf kg : Nat) (hv : impl_IsValidFloor.f kv a0_0 a0_1 l0_2 = some true) (hf : impl_isFree.f kf a0_0 a0_1 l0_2 c1.f0 c1.f1 = some true) (hg : impl_isFree.f kg a0_0 a0_1 l0_2 c2.f0 c2.f1 = some true) (hnb : Nbs a0_0 a0_1 l0_2 G nb) (hG1 : G c1) (hG2 : G c2) (hK : K ≤ 1000) (h : bfs nb K (upd (fun _=>none) c2 0) [c2] = some m) (hm1 : m c1 = none) (w : World) (hr0_2 : Kd.C k48 w A0_2 l0_2.length l0_2) (hc0_2 : l0_2.length ≤ c0_2) :
  Calls Try.prog 35 #[.agg #[.int .i64 a0_0,.int .i64 a0_1,.slice A0_2 l0_2.length c0_2],.agg #[.int .i64 c1.f0,.int .i64 c1.f1],.agg #[.int .i64 c2.f0,.int .i64 c2.f1]] w fun e w' => ∃ u : Value,e = .returned (.tuple #[u,.bool false]) ∧ Kd.R k48 48 w' w.heap.size (fun _=>True) u [] ∧ Below w.heap.size w w':=by
 have hu29:=Try.underlying29
 have hu48:=Try.underlying48
 have HR0:=Aside0.mk hr0_2
 have HC0:=Aside0.mk hc0_2
 have HV:=Aside0.mk hv
 have HF:=Aside0.mk hf
 have HG2:=Aside0.mk hg
 have HN:=Aside0.mk hnb
 have HGf:=Aside0.mk hG1
 have HGt:=Aside0.mk hG2
 have HH:=Aside0.mk h
 have HM1:=Aside0.mk hm1
 clear hr0_2 hc0_2 hv hf hg hnb hG1 hG2 h hm1
 go_enter Try.func35,Try.ntmps35
 go_wp2_with (first|((with_reducible refine gate_dst (N:=3) rfl ?_);refine box_event ?hg (N:=3) ?hd (cs := #[.int .i64 a0_0,.int .i64 a0_1,.slice A0_2 l0_2.length c0_2]) (t:=29) ?hr ?_;(case hd=>rfl);(case hg=>rfl);(case hr=>first|(go_simp;done)|(go_simp;rfl));intro g3 hgg3 w3 hbox hb;have Hg3:=Aside0.mk hbox;have HB:=Aside0.mk hb;have GG : Aside0 (w.heap.size ≤ g3):=Aside0.mk (Nat.le_of_eq hgg3.symm);clear hbox hb hgg3;have fg30_3 : w3.cell? ⟨g3,0,none⟩ = some (.int .i64 a0_0):=(blk_cell Hg3.out 0).trans rfl;have fg31_3 : w3.cell? ⟨g3,1,none⟩ = some (.int .i64 a0_1):=(blk_cell Hg3.out 1).trans rfl;have fg32_3 : w3.cell? ⟨g3,2,none⟩ = some (.slice A0_2 l0_2.length c0_2):=(blk_cell Hg3.out 2).trans rfl)|((with_reducible refine gate_dst (N:=4) rfl ?_);refine box_event ?hg (N:=4) ?hd (cs := #[.int .i64 c1.f0,.int .i64 c1.f1]) (t:=48) ?hr ?_;(case hd=>rfl);(case hg=>rfl);(case hr=>first|(go_simp;done)|(go_simp;rfl));intro g4 hgg4 w4 hbox hb;have Hg3':=Aside0.mk (blk_below Hg3.out hb);have HB':=Aside0.mk (below_step HB.out hb);clear HB Hg3;have Hg3:=Hg3';have HB:=HB';clear HB' Hg3';have Hg4:=Aside0.mk hbox;have fg30_4 : w4.cell? ⟨g3,0,none⟩ = some (.int .i64 a0_0):=(blk_cell Hg3.out 0).trans rfl;have fg31_4 : w4.cell? ⟨g3,1,none⟩ = some (.int .i64 a0_1):=(blk_cell Hg3.out 1).trans rfl;have fg32_4 : w4.cell? ⟨g3,2,none⟩ = some (.slice A0_2 l0_2.length c0_2):=(blk_cell Hg3.out 2).trans rfl;have fg40_4 : w4.cell? ⟨g4,0,none⟩ = some (.int .i64 c1.f0):=(blk_cell Hg4.out 0).trans rfl;have fg41_4 : w4.cell? ⟨g4,1,none⟩ = some (.int .i64 c1.f1):=(blk_cell Hg4.out 1).trans rfl;clear hbox hb hgg4)|((with_reducible refine gate_dst (N:=5) rfl ?_);refine box_event ?hg (N:=5) ?hd (cs := #[.int .i64 c2.f0,.int .i64 c2.f1]) (t:=48) ?hr ?_;(case hd=>rfl);(case hg=>rfl);(case hr=>first|(go_simp;done)|(go_simp;rfl));intro g5 hgg5 w5 hbox hb;have Hg3':=Aside0.mk (blk_below Hg3.out hb);have Hg4':=Aside0.mk (blk_below Hg4.out hb);have HB':=Aside0.mk (below_step HB.out hb);clear HB Hg3 Hg4;have Hg3:=Hg3';have Hg4:=Hg4';have HB:=HB';clear HB' Hg3' Hg4';have fg30_5 : w5.cell? ⟨g3,0,none⟩ = some (.int .i64 a0_0):=(blk_cell Hg3.out 0).trans rfl;have fg31_5 : w5.cell? ⟨g3,1,none⟩ = some (.int .i64 a0_1):=(blk_cell Hg3.out 1).trans rfl;have fg32_5 : w5.cell? ⟨g3,2,none⟩ = some (.slice A0_2 l0_2.length c0_2):=(blk_cell Hg3.out 2).trans rfl;have fg40_5 : w5.cell? ⟨g4,0,none⟩ = some (.int .i64 c1.f0):=(blk_cell Hg4.out 0).trans rfl;have fg41_5 : w5.cell? ⟨g4,1,none⟩ = some (.int .i64 c1.f1):=(blk_cell Hg4.out 1).trans rfl;have Hg5:=Aside0.mk hbox;have fg50_5 : w5.cell? ⟨g5,0,none⟩ = some (.int .i64 c2.f0):=(blk_cell Hg5.out 0).trans rfl;have fg51_5 : w5.cell? ⟨g5,1,none⟩ = some (.int .i64 c2.f1):=(blk_cell Hg5.out 1).trans rfl;clear hbox hb hgg5)|(go_at_call 16;(with_reducible refine (impl_IsValidFloor.calls kv a0_0 a0_1 A0_2 c0_2 l0_2 true _ (Kd.C_below HR0.out HB.out) HC0.out HV.out).mono ?_);rintro e w6 ⟨rfl,hB⟩;have Hg3':=Aside0.mk (blk_below Hg3.out hB);have Hg4':=Aside0.mk (blk_below Hg4.out hB);have Hg5':=Aside0.mk (blk_below Hg5.out hB);have HB':=Aside0.mk (below_step HB.out hB);clear HB Hg3 Hg4 Hg5;have Hg3:=Hg3';have Hg4:=Hg4';have Hg5:=Hg5';have HB:=HB';clear HB' Hg3' Hg4' Hg5';have fg30_6 : w6.cell? ⟨g3,0,none⟩ = some (.int .i64 a0_0):=(blk_cell Hg3.out 0).trans rfl;have fg31_6 : w6.cell? ⟨g3,1,none⟩ = some (.int .i64 a0_1):=(blk_cell Hg3.out 1).trans rfl;have fg32_6 : w6.cell? ⟨g3,2,none⟩ = some (.slice A0_2 l0_2.length c0_2):=(blk_cell Hg3.out 2).trans rfl;have fg40_6 : w6.cell? ⟨g4,0,none⟩ = some (.int .i64 c1.f0):=(blk_cell Hg4.out 0).trans rfl;have fg41_6 : w6.cell? ⟨g4,1,none⟩ = some (.int .i64 c1.f1):=(blk_cell Hg4.out 1).trans rfl;have fg50_6 : w6.cell? ⟨g5,0,none⟩ = some (.int .i64 c2.f0):=(blk_cell Hg5.out 0).trans rfl;have fg51_6 : w6.cell? ⟨g5,1,none⟩ = some (.int .i64 c2.f1):=(blk_cell Hg5.out 1).trans rfl;clear hB)|(go_at_call 58;(with_reducible refine (impl_isFree.calls kf a0_0 a0_1 A0_2 c0_2 l0_2 c1.f0 c1.f1 true _ (Kd.C_below HR0.out HB.out) HC0.out HF.out).mono ?_);rintro e w7 ⟨rfl,hB⟩;have Hg3':=Aside0.mk (blk_below Hg3.out hB);have Hg4':=Aside0.mk (blk_below Hg4.out hB);have Hg5':=Aside0.mk (blk_below Hg5.out hB);have HB':=Aside0.mk (below_step HB.out hB);clear HB Hg3 Hg4 Hg5;have Hg3:=Hg3';have Hg4:=Hg4';have Hg5:=Hg5';have HB:=HB';clear HB' Hg3' Hg4' Hg5';have fg30_7 : w7.cell? ⟨g3,0,none⟩ = some (.int .i64 a0_0):=(blk_cell Hg3.out 0).trans rfl;have fg31_7 : w7.cell? ⟨g3,1,none⟩ = some (.int .i64 a0_1):=(blk_cell Hg3.out 1).trans rfl;have fg32_7 : w7.cell? ⟨g3,2,none⟩ = some (.slice A0_2 l0_2.length c0_2):=(blk_cell Hg3.out 2).trans rfl;have fg40_7 : w7.cell? ⟨g4,0,none⟩ = some (.int .i64 c1.f0):=(blk_cell Hg4.out 0).trans rfl;have fg41_7 : w7.cell? ⟨g4,1,none⟩ = some (.int .i64 c1.f1):=(blk_cell Hg4.out 1).trans rfl;have fg50_7 : w7.cell? ⟨g5,0,none⟩ = some (.int .i64 c2.f0):=(blk_cell Hg5.out 0).trans rfl;have fg51_7 : w7.cell? ⟨g5,1,none⟩ = some (.int .i64 c2.f1):=(blk_cell Hg5.out 1).trans rfl;clear hB)|(go_at_call 58;(with_reducible refine (impl_isFree.calls kg a0_0 a0_1 A0_2 c0_2 l0_2 c2.f0 c2.f1 true _ (Kd.C_below HR0.out HB.out) HC0.out HG2.out).mono ?_);rintro e w8 ⟨rfl,hB⟩;have Hg3':=Aside0.mk (blk_below Hg3.out hB);have Hg4':=Aside0.mk (blk_below Hg4.out hB);have Hg5':=Aside0.mk (blk_below Hg5.out hB);have HB':=Aside0.mk (below_step HB.out hB);clear HB Hg3 Hg4 Hg5;have Hg3:=Hg3';have Hg4:=Hg4';have Hg5:=Hg5';have HB:=HB';clear HB' Hg3' Hg4' Hg5';have fg30_8 : w8.cell? ⟨g3,0,none⟩ = some (.int .i64 a0_0):=(blk_cell Hg3.out 0).trans rfl;have fg31_8 : w8.cell? ⟨g3,1,none⟩ = some (.int .i64 a0_1):=(blk_cell Hg3.out 1).trans rfl;have fg32_8 : w8.cell? ⟨g3,2,none⟩ = some (.slice A0_2 l0_2.length c0_2):=(blk_cell Hg3.out 2).trans rfl;have fg40_8 : w8.cell? ⟨g4,0,none⟩ = some (.int .i64 c1.f0):=(blk_cell Hg4.out 0).trans rfl;have fg41_8 : w8.cell? ⟨g4,1,none⟩ = some (.int .i64 c1.f1):=(blk_cell Hg4.out 1).trans rfl;have fg50_8 : w8.cell? ⟨g5,0,none⟩ = some (.int .i64 c2.f0):=(blk_cell Hg5.out 0).trans rfl;have fg51_8 : w8.cell? ⟨g5,1,none⟩ = some (.int .i64 c2.f1):=(blk_cell Hg5.out 1).trans rfl;clear hB)|(go_at_call 65;(with_reducible refine (impl_stepsFrom.calls a0_0 a0_1 A0_2 c0_2 l0_2 c2 G nb K m _ (Kd.C_below HR0.out HB.out) HC0.out HN.out HGt.out hK HH.out).mono ?_);rintro e w9 ⟨b,n,rfl,hbb,hn,hm,hB⟩;have HM:=Aside0.mk hm;have HBB : Aside0 (w.heap.size ≤ b):=Aside0.mk (Nat.le_trans HB.out.size hbb);have Hg3':=Aside0.mk (blk_below Hg3.out hB);have Hg4':=Aside0.mk (blk_below Hg4.out hB);have Hg5':=Aside0.mk (blk_below Hg5.out hB);have HB':=Aside0.mk (below_step HB.out hB);clear HB Hg3 Hg4 Hg5;have Hg3:=Hg3';have Hg4:=Hg4';have Hg5:=Hg5';have HB:=HB';clear HB' Hg3' Hg4' Hg5';have fg30_9 : w9.cell? ⟨g3,0,none⟩ = some (.int .i64 a0_0):=(blk_cell Hg3.out 0).trans rfl;have fg31_9 : w9.cell? ⟨g3,1,none⟩ = some (.int .i64 a0_1):=(blk_cell Hg3.out 1).trans rfl;have fg32_9 : w9.cell? ⟨g3,2,none⟩ = some (.slice A0_2 l0_2.length c0_2):=(blk_cell Hg3.out 2).trans rfl;have fg40_9 : w9.cell? ⟨g4,0,none⟩ = some (.int .i64 c1.f0):=(blk_cell Hg4.out 0).trans rfl;have fg41_9 : w9.cell? ⟨g4,1,none⟩ = some (.int .i64 c1.f1):=(blk_cell Hg4.out 1).trans rfl;have fg50_9 : w9.cell? ⟨g5,0,none⟩ = some (.int .i64 c2.f0):=(blk_cell Hg5.out 0).trans rfl;have fg51_9 : w9.cell? ⟨g5,1,none⟩ = some (.int .i64 c2.f1):=(blk_cell Hg5.out 1).trans rfl;clear hB hm hbb)|(at_lookup;refine wpI_lookup_ok' (c:=c1) rfl (.tmp 33) (.tmp 34) rfl rfl rfl HM.out (HN.out.wf c1 HGf.out) (v:=0) (i:=false) (by rw [HM1.out];rfl) (by rw [HM1.out];rfl) ?_))
 go_ret2
 exact ⟨_,rfl,Kd.R_nil _ _ _ _ _,HB.out⟩
set_option maxHeartbeats 8000000 in
set_option maxRecDepth 100000 in
theorem impl_ShortestPath.bad5 (a0_0 a0_1 : Int) (A0_2 : Option Addr) (c0_2 : Nat) (l0_2 : List S48) (c1 c2 : S48) (G : S48 → Prop) (nb : S48 → List S48) (K : Nat) (m : Mp) (kv kf kg : Nat) (hv : impl_IsValidFloor.f kv a0_0 a0_1 l0_2 = some true) (hf : impl_isFree.f kf a0_0 a0_1 l0_2 c1.f0 c1.f1 = some true) (hg : impl_isFree.f kg a0_0 a0_1 l0_2 c2.f0 c2.f1 = some true) (hnb : Nbs a0_0 a0_1 l0_2 G nb) (hG1 : G c1) (hG2 : G c2) (hK : K ≤ 1000) (h : bfs nb K (upd (fun _=>none) c2 0) [c2] = some m) (v : Int) (hm1 : m c1 = some v) (hv0 : 24 < v) (w : World) (hr0_2 : Kd.C k48 w A0_2 l0_2.length l0_2) (hc0_2 : l0_2.length ≤ c0_2) :
  Calls Try.prog 35 #[.agg #[.int .i64 a0_0,.int .i64 a0_1,.slice A0_2 l0_2.length c0_2],.agg #[.int .i64 c1.f0,.int .i64 c1.f1],.agg #[.int .i64 c2.f0,.int .i64 c2.f1]] w fun e w' => ∃ u : Value,e = .returned (.tuple #[u,.bool false]) ∧ Kd.R k48 48 w' w.heap.size (fun _=>True) u [] ∧ Below w.heap.size w w':=by
 have hu29:=Try.underlying29
 have hu48:=Try.underlying48
 have HR0:=Aside0.mk hr0_2
 have HC0:=Aside0.mk hc0_2
 have HV:=Aside0.mk hv
 have HF:=Aside0.mk hf
 have HG2:=Aside0.mk hg
 have HN:=Aside0.mk hnb
 have HGf:=Aside0.mk hG1
 have HGt:=Aside0.mk hG2
 have HH:=Aside0.mk h
 have HM1:=Aside0.mk hm1
 have HV0:=Aside0.mk hv0
 have cv : decide (24 < v) = true:=decide_eq_true hv0
 clear hr0_2 hc0_2 hv hf hg hnb hG1 hG2 h hm1 hv0
 go_enter Try.func35,Try.ntmps35
 go_wp2_with (first|((with_reducible refine gate_dst (N:=3) rfl ?_);refine box_event ?hg (N:=3) ?hd (cs := #[.int .i64 a0_0,.int .i64 a0_1,.slice A0_2 l0_2.length c0_2]) (t:=29) ?hr ?_;(case hd=>rfl);(case hg=>rfl);(case hr=>first|(go_simp;done)|(go_simp;rfl));intro g3 hgg3 w3 hbox hb;have Hg3:=Aside0.mk hbox;have HB:=Aside0.mk hb;have GG : Aside0 (w.heap.size ≤ g3):=Aside0.mk (Nat.le_of_eq hgg3.symm);clear hbox hb hgg3;have fg30_3 : w3.cell? ⟨g3,0,none⟩ = some (.int .i64 a0_0):=(blk_cell Hg3.out 0).trans rfl;have fg31_3 : w3.cell? ⟨g3,1,none⟩ = some (.int .i64 a0_1):=(blk_cell Hg3.out 1).trans rfl;have fg32_3 : w3.cell? ⟨g3,2,none⟩ = some (.slice A0_2 l0_2.length c0_2):=(blk_cell Hg3.out 2).trans rfl)|((with_reducible refine gate_dst (N:=4) rfl ?_);refine box_event ?hg (N:=4) ?hd (cs := #[.int .i64 c1.f0,.int .i64 c1.f1]) (t:=48) ?hr ?_;(case hd=>rfl);(case hg=>rfl);(case hr=>first|(go_simp;done)|(go_simp;rfl));intro g4 hgg4 w4 hbox hb;have Hg3':=Aside0.mk (blk_below Hg3.out hb);have HB':=Aside0.mk (below_step HB.out hb);clear HB Hg3;have Hg3:=Hg3';have HB:=HB';clear HB' Hg3';have Hg4:=Aside0.mk hbox;have fg30_4 : w4.cell? ⟨g3,0,none⟩ = some (.int .i64 a0_0):=(blk_cell Hg3.out 0).trans rfl;have fg31_4 : w4.cell? ⟨g3,1,none⟩ = some (.int .i64 a0_1):=(blk_cell Hg3.out 1).trans rfl;have fg32_4 : w4.cell? ⟨g3,2,none⟩ = some (.slice A0_2 l0_2.length c0_2):=(blk_cell Hg3.out 2).trans rfl;have fg40_4 : w4.cell? ⟨g4,0,none⟩ = some (.int .i64 c1.f0):=(blk_cell Hg4.out 0).trans rfl;have fg41_4 : w4.cell? ⟨g4,1,none⟩ = some (.int .i64 c1.f1):=(blk_cell Hg4.out 1).trans rfl;clear hbox hb hgg4)|((with_reducible refine gate_dst (N:=5) rfl ?_);refine box_event ?hg (N:=5) ?hd (cs := #[.int .i64 c2.f0,.int .i64 c2.f1]) (t:=48) ?hr ?_;(case hd=>rfl);(case hg=>rfl);(case hr=>first|(go_simp;done)|(go_simp;rfl));intro g5 hgg5 w5 hbox hb;have Hg3':=Aside0.mk (blk_below Hg3.out hb);have Hg4':=Aside0.mk (blk_below Hg4.out hb);have HB':=Aside0.mk (below_step HB.out hb);clear HB Hg3 Hg4;have Hg3:=Hg3';have Hg4:=Hg4';have HB:=HB';clear HB' Hg3' Hg4';have fg30_5 : w5.cell? ⟨g3,0,none⟩ = some (.int .i64 a0_0):=(blk_cell Hg3.out 0).trans rfl;have fg31_5 : w5.cell? ⟨g3,1,none⟩ = some (.int .i64 a0_1):=(blk_cell Hg3.out 1).trans rfl;have fg32_5 : w5.cell? ⟨g3,2,none⟩ = some (.slice A0_2 l0_2.length c0_2):=(blk_cell Hg3.out 2).trans rfl;have fg40_5 : w5.cell? ⟨g4,0,none⟩ = some (.int .i64 c1.f0):=(blk_cell Hg4.out 0).trans rfl;have fg41_5 : w5.cell? ⟨g4,1,none⟩ = some (.int .i64 c1.f1):=(blk_cell Hg4.out 1).trans rfl;have Hg5:=Aside0.mk hbox;have fg50_5 : w5.cell? ⟨g5,0,none⟩ = some (.int .i64 c2.f0):=(blk_cell Hg5.out 0).trans rfl;have fg51_5 : w5.cell? ⟨g5,1,none⟩ = some (.int .i64 c2.f1):=(blk_cell Hg5.out 1).trans rfl;clear hbox hb hgg5)|(go_at_call 16;(with_reducible refine (impl_IsValidFloor.calls kv a0_0 a0_1 A0_2 c0_2 l0_2 true _ (Kd.C_below HR0.out HB.out) HC0.out HV.out).mono ?_);rintro e w6 ⟨rfl,hB⟩;have Hg3':=Aside0.mk (blk_below Hg3.out hB);have Hg4':=Aside0.mk (blk_below Hg4.out hB);have Hg5':=Aside0.mk (blk_below Hg5.out hB);have HB':=Aside0.mk (below_step HB.out hB);clear HB Hg3 Hg4 Hg5;have Hg3:=Hg3';have Hg4:=Hg4';have Hg5:=Hg5';have HB:=HB';clear HB' Hg3' Hg4' Hg5';have fg30_6 : w6.cell? ⟨g3,0,none⟩ = some (.int .i64 a0_0):=(blk_cell Hg3.out 0).trans rfl;have fg31_6 : w6.cell? ⟨g3,1,none⟩ = some (.int .i64 a0_1):=(blk_cell Hg3.out 1).trans rfl;have fg32_6 : w6.cell? ⟨g3,2,none⟩ = some (.slice A0_2 l0_2.length c0_2):=(blk_cell Hg3.out 2).trans rfl;have fg40_6 : w6.cell? ⟨g4,0,none⟩ = some (.int .i64 c1.f0):=(blk_cell Hg4.out 0).trans rfl;have fg41_6 : w6.cell? ⟨g4,1,none⟩ = some (.int .i64 c1.f1):=(blk_cell Hg4.out 1).trans rfl;have fg50_6 : w6.cell? ⟨g5,0,none⟩ = some (.int .i64 c2.f0):=(blk_cell Hg5.out 0).trans rfl;have fg51_6 : w6.cell? ⟨g5,1,none⟩ = some (.int .i64 c2.f1):=(blk_cell Hg5.out 1).trans rfl;clear hB)|(go_at_call 58;(with_reducible refine (impl_isFree.calls kf a0_0 a0_1 A0_2 c0_2 l0_2 c1.f0 c1.f1 true _ (Kd.C_below HR0.out HB.out) HC0.out HF.out).mono ?_);rintro e w7 ⟨rfl,hB⟩;have Hg3':=Aside0.mk (blk_below Hg3.out hB);have Hg4':=Aside0.mk (blk_below Hg4.out hB);have Hg5':=Aside0.mk (blk_below Hg5.out hB);have HB':=Aside0.mk (below_step HB.out hB);clear HB Hg3 Hg4 Hg5;have Hg3:=Hg3';have Hg4:=Hg4';have Hg5:=Hg5';have HB:=HB';clear HB' Hg3' Hg4' Hg5';have fg30_7 : w7.cell? ⟨g3,0,none⟩ = some (.int .i64 a0_0):=(blk_cell Hg3.out 0).trans rfl;have fg31_7 : w7.cell? ⟨g3,1,none⟩ = some (.int .i64 a0_1):=(blk_cell Hg3.out 1).trans rfl;have fg32_7 : w7.cell? ⟨g3,2,none⟩ = some (.slice A0_2 l0_2.length c0_2):=(blk_cell Hg3.out 2).trans rfl;have fg40_7 : w7.cell? ⟨g4,0,none⟩ = some (.int .i64 c1.f0):=(blk_cell Hg4.out 0).trans rfl;have fg41_7 : w7.cell? ⟨g4,1,none⟩ = some (.int .i64 c1.f1):=(blk_cell Hg4.out 1).trans rfl;have fg50_7 : w7.cell? ⟨g5,0,none⟩ = some (.int .i64 c2.f0):=(blk_cell Hg5.out 0).trans rfl;have fg51_7 : w7.cell? ⟨g5,1,none⟩ = some (.int .i64 c2.f1):=(blk_cell Hg5.out 1).trans rfl;clear hB)|(go_at_call 58;(with_reducible refine (impl_isFree.calls kg a0_0 a0_1 A0_2 c0_2 l0_2 c2.f0 c2.f1 true _ (Kd.C_below HR0.out HB.out) HC0.out HG2.out).mono ?_);rintro e w8 ⟨rfl,hB⟩;have Hg3':=Aside0.mk (blk_below Hg3.out hB);have Hg4':=Aside0.mk (blk_below Hg4.out hB);have Hg5':=Aside0.mk (blk_below Hg5.out hB);have HB':=Aside0.mk (below_step HB.out hB);clear HB Hg3 Hg4 Hg5;have Hg3:=Hg3';have Hg4:=Hg4';have Hg5:=Hg5';have HB:=HB';clear HB' Hg3' Hg4' Hg5';have fg30_8 : w8.cell? ⟨g3,0,none⟩ = some (.int .i64 a0_0):=(blk_cell Hg3.out 0).trans rfl;have fg31_8 : w8.cell? ⟨g3,1,none⟩ = some (.int .i64 a0_1):=(blk_cell Hg3.out 1).trans rfl;have fg32_8 : w8.cell? ⟨g3,2,none⟩ = some (.slice A0_2 l0_2.length c0_2):=(blk_cell Hg3.out 2).trans rfl;have fg40_8 : w8.cell? ⟨g4,0,none⟩ = some (.int .i64 c1.f0):=(blk_cell Hg4.out 0).trans rfl;have fg41_8 : w8.cell? ⟨g4,1,none⟩ = some (.int .i64 c1.f1):=(blk_cell Hg4.out 1).trans rfl;have fg50_8 : w8.cell? ⟨g5,0,none⟩ = some (.int .i64 c2.f0):=(blk_cell Hg5.out 0).trans rfl;have fg51_8 : w8.cell? ⟨g5,1,none⟩ = some (.int .i64 c2.f1):=(blk_cell Hg5.out 1).trans rfl;clear hB)|(go_at_call 65;(with_reducible refine (impl_stepsFrom.calls a0_0 a0_1 A0_2 c0_2 l0_2 c2 G nb K m _ (Kd.C_below HR0.out HB.out) HC0.out HN.out HGt.out hK HH.out).mono ?_);rintro e w9 ⟨b,n,rfl,hbb,hn,hm,hB⟩;have HM:=Aside0.mk hm;have HBB : Aside0 (w.heap.size ≤ b):=Aside0.mk (Nat.le_trans HB.out.size hbb);have Hg3':=Aside0.mk (blk_below Hg3.out hB);have Hg4':=Aside0.mk (blk_below Hg4.out hB);have Hg5':=Aside0.mk (blk_below Hg5.out hB);have HB':=Aside0.mk (below_step HB.out hB);clear HB Hg3 Hg4 Hg5;have Hg3:=Hg3';have Hg4:=Hg4';have Hg5:=Hg5';have HB:=HB';clear HB' Hg3' Hg4' Hg5';have fg30_9 : w9.cell? ⟨g3,0,none⟩ = some (.int .i64 a0_0):=(blk_cell Hg3.out 0).trans rfl;have fg31_9 : w9.cell? ⟨g3,1,none⟩ = some (.int .i64 a0_1):=(blk_cell Hg3.out 1).trans rfl;have fg32_9 : w9.cell? ⟨g3,2,none⟩ = some (.slice A0_2 l0_2.length c0_2):=(blk_cell Hg3.out 2).trans rfl;have fg40_9 : w9.cell? ⟨g4,0,none⟩ = some (.int .i64 c1.f0):=(blk_cell Hg4.out 0).trans rfl;have fg41_9 : w9.cell? ⟨g4,1,none⟩ = some (.int .i64 c1.f1):=(blk_cell Hg4.out 1).trans rfl;have fg50_9 : w9.cell? ⟨g5,0,none⟩ = some (.int .i64 c2.f0):=(blk_cell Hg5.out 0).trans rfl;have fg51_9 : w9.cell? ⟨g5,1,none⟩ = some (.int .i64 c2.f1):=(blk_cell Hg5.out 1).trans rfl;clear hB hm hbb)|(at_lookup;refine wpI_lookup_ok' (c:=c1) rfl (.tmp 33) (.tmp 34) rfl rfl rfl HM.out (HN.out.wf c1 HGf.out) (v:=v) (i:=true) (by rw [HM1.out];rfl) (by rw [HM1.out];rfl) ?_))
 go_ret2
 exact ⟨_,rfl,Kd.R_nil _ _ _ _ _,HB.out⟩
end Go.Proofs.Ytbpccdbkaiigcaa.G

/- The contract of impl.ShortestPath: the first shortest path. -/
namespace Go.Proofs.Ytbpccdbkaiigcaa.G
open Go.RowKit Go.Proofs.YtbpccdbkaiigcaaW.PrintWords Go.Proofs.YtbpccdbkaiigcaaW.PrintLast
set_option linter.unusedVariables false
set_option linter.unusedSimpArgs false
noncomputable def impl_ShortestPath.f (a0_0 : Int) (a0_1 : Int) (l0_2 : List S48) (a1_0 : Int) (a1_1 : Int) (a2_0 : Int) (a2_1 : Int) : Option (List S48 × Bool):=chk ((l0_2.length : Int) ≤ 1099511627776) (some (shortR a0_0 a0_1 l0_2 ⟨a1_0,a1_1⟩ ⟨a2_0,a2_1⟩)) none
theorem impl_ShortestPath.calls (a0_0 : Int) (a0_1 : Int) (A0_2 : Option Addr) (c0_2 : Nat) (l0_2 : List S48) (a1_0 : Int) (a1_1 : Int) (a2_0 : Int) (a2_1 : Int) (r1 : List S48) (r2 : Bool) (w : World) (hr0_2 : Kd.C k48 w A0_2 l0_2.length l0_2) (hc0_2 : l0_2.length ≤ c0_2) (h : impl_ShortestPath.f a0_0 a0_1 l0_2 a1_0 a1_1 a2_0 a2_1 = some (r1,r2)) :
  Calls Try.prog 35 #[.agg #[.int .i64 a0_0,.int .i64 a0_1,.slice A0_2 l0_2.length c0_2],.agg #[.int .i64 a1_0,.int .i64 a1_1],.agg #[.int .i64 a2_0,.int .i64 a2_1]] w fun e w' => ∃ v1 : Value,e = .returned (.tuple #[v1,.bool r2]) ∧ Kd.R k48 48 w' w.heap.size (fun _=>True) v1 r1 ∧ Below w.heap.size w w':=by
 unfold impl_ShortestPath.f at h
 by_cases hb : (l0_2.length : Int) ≤ 1099511627776
 ·rw [chk_pos hb] at h
  have h:=Option.some.inj h
  obtain ⟨a,ha⟩ : ∃ a : S48,a = ⟨a1_0,a1_1⟩:=⟨_,rfl⟩
  obtain ⟨b,hb'⟩ : ∃ b : S48,b = ⟨a2_0,a2_1⟩:=⟨_,rfl⟩
  rw [← ha,← hb'] at h
  obtain rfl : a.f0 = a1_0:=by rw [ha]
  obtain rfl : a.f1 = a1_1:=by rw [ha]
  obtain rfl : b.f0 = a2_0:=by rw [hb']
  obtain rfl : b.f1 = a2_1:=by rw [hb']
  clear ha hb'
  obtain ⟨kv,hkv⟩:=Ev.rounds (impl_floor a0_0 a0_1 l0_2 hb)
  unfold shortR at h
  by_cases hf : FloorOk a0_0 a0_1 l0_2
  ·rw [chk_pos hf] at hkv
   obtain ⟨kf,hkf⟩:=Ev.rounds (impl_free a0_0 a0_1 l0_2 a hf.1 hf.2.1 hb)
   by_cases hfa : Free a0_0 a0_1 l0_2 a
   ·rw [chk_pos hfa] at hkf
    obtain ⟨kg,hkg⟩:=Ev.rounds (impl_free a0_0 a0_1 l0_2 b hf.1 hf.2.1 hb)
    by_cases hfb : Free a0_0 a0_1 l0_2 b
    ·rw [chk_pos hfb] at hkg
     rw [chk_pos ⟨hf,hfa,hfb⟩] at h
     obtain ⟨m,hm⟩:=bfs_floor hf hfb
     have hd:=bfs_dist hm
     cases hma : m a with
     | none =>
      rw [safeR_none (short_none hfa hfb hd (fun v hv=>by rw [hma] at hv;cases hv))] at h
      cases h
      exact impl_ShortestPath.bad4 _ _ _ _ _ a b _ _ 100 m kv kf kg hkv hkf hkg (nbs_impl hf hb) hfa hfb (by omega) hm hma w hr0_2 hc0_2
     | some v =>
      by_cases h24 : v ≤ 24
      ·rw [safeR_some (short_some hfa hfb hd hma h24)] at h
       cases h
       exact impl_ShortestPath.good _ _ _ _ _ a b _ _ 100 m kv kf kg v w hr0_2 hc0_2 hkv hkf hkg (nbs_impl hf hb) hfa hfb (by omega) hm hma ⟨(hd.snd a v hma).1,h24⟩
      ·rw [safeR_none (short_none hfa hfb hd (fun u hu=>by rw [hma] at hu;obtain rfl:=Option.some.inj hu;omega))] at h
       cases h
       exact impl_ShortestPath.bad5 _ _ _ _ _ a b _ _ 100 m kv kf kg hkv hkf hkg (nbs_impl hf hb) hfa hfb (by omega) hm v hma (by omega) w hr0_2 hc0_2
    ·rw [chk_neg hfb] at hkg
     rw [chk_neg (fun x=>hfb x.2.2)] at h
     cases h
     exact impl_ShortestPath.bad3 _ _ _ _ _ a b kv kf kg hkv hkf hkg w hr0_2 hc0_2
   ·rw [chk_neg hfa] at hkf
    rw [chk_neg (fun x=>hfa x.2.1)] at h
    cases h
    exact impl_ShortestPath.bad2 _ _ _ _ _ a b kv kf hkv hkf w hr0_2 hc0_2
  ·rw [chk_neg hf] at hkv
   rw [chk_neg (fun x=>hf x.1)] at h
   cases h
   exact impl_ShortestPath.bad1 _ _ _ _ _ a b kv hkv w hr0_2 hc0_2
 ·rw [chk_neg hb] at h
  cases h
end Go.Proofs.Ytbpccdbkaiigcaa.G

-- Written by wip/tools/gen.py out of the translation (the kit's printer, one namespace a seat). Lean checks it.
namespace Go.Proofs.Ytbpccdbkaiigcaa.G
open Go.RowKit Go.Proofs.YtbpccdbkaiigcaaW.PrintWords Go.Proofs.YtbpccdbkaiigcaaW.PrintLast Go.Proofs.YtbpccdbkaiigcaaW.PrintMore
attribute [local go_sem] max2_int min2_int max_two min_two max_three min_three max_four min_four   -- for this text's walks alone
set_option linter.unusedVariables false
set_option linter.unusedSimpArgs false

/-! ### laws_FnExactShortestPath: function 8 -/
mutual
noncomputable def laws_FnExactShortestPath.j0:Nat → List (S48) → Bool → List (S48) → Bool → Bool → Int → Int → List (S44) → Int → Int → Int → Int → Int → Int → List (S48) → Option (Bool)
 | 0,_,_,_,_,_,_,_,_,_,_,_,_,_,_,_=>none
 | k + 1,x8,x9,x11,x12,x52,x529000,x529001,x529002,x530000,x530001,x531000,x531001,x551000,x551001,x551002=>if x52 = true then (some false) else ((laws_toFloor.f k x529000 x529001 x529002).bind fun bt560=>((laws_eqFloor.f k x551000 x551001 x551002 bt560.1 bt560.2.1 bt560.2.2).bind fun t565=>(if t565 = true then ((laws_markFloor.f k x551000 x551001 x551002 1).bind fun bt566=>(if bt566.1 < 0 then (laws_FnExactShortestPath.j1 k x8 x9 x11 true x529000 x529001 x529002 x530000 x530001 x531000 x531001) else ((laws_eqCellS.f k x11 x8).bind fun t568=>(if t568 = true then (laws_FnExactShortestPath.j1 k x8 x9 x11 (x12 != x9) x529000 x529001 x529002 x530000 x530001 x531000 x531001) else (laws_FnExactShortestPath.j1 k x8 x9 x11 true x529000 x529001 x529002 x530000 x530001 x531000 x531001))))) else (some false))))
noncomputable def laws_FnExactShortestPath.j1:Nat → List (S48) → Bool → List (S48) → Bool → Int → Int → List (S44) → Int → Int → Int → Int → Option (Bool)
 | 0,_,_,_,_,_,_,_,_,_,_,_=>none
 | k + 1,x8,x9,x11,x73,x529000,x529001,x529002,x530000,x530001,x531000,x531001=>if x73 = true then (some false) else ((laws_markCellS.f k x11 1).bind fun bt569=>((laws_heldCellS.f k bt569.2 1).bind fun t571=>(if t571 < 0 then (some false) else (if t571 = bt569.1 then ((laws_toFloor.f k x529000 x529001 x529002).bind fun bt572=>((laws_toCell.f x530000 x530001).bind fun bt577=>((laws_toCell.f x531000 x531001).bind fun bt579=>((impl_ShortestPath.f bt572.1 bt572.2.1 bt572.2.2 bt577.1 bt577.2 bt579.1 bt579.2).bind fun bt581=>((laws_eqCellS.f k bt581.1 x8).bind fun t585=>(if t585 = true then (laws_FnExactShortestPath.j2 k bt569.2 bt569.1 (bt581.2 != x9)) else (laws_FnExactShortestPath.j2 k bt569.2 bt569.1 true))))))) else (some false)))))
noncomputable def laws_FnExactShortestPath.j2:Nat → List (S48) → Int → Bool → Option (Bool)
 | 0,_,_,_=>none
 | k + 1,x11,x14,x103=>if x103 = true then (some false) else ((laws_heldCellS.f k x11 1).bind fun t586=>(if t586 < 0 then (some false) else (if t586 = x14 then (some true) else (some false))))
end
noncomputable def laws_FnExactShortestPath.f (k:Nat) (a0_0:Int) (a0_1:Int) (l0_2:List (S44)) (a1_0:Int) (a1_1:Int) (a2_0:Int) (a2_1:Int):Option (Bool):=(laws_szFloor.f a0_0 a0_1 l0_2 1048576).bind fun t531=>(if t531 < 0 then (some true) else ((laws_toFloor.f k a0_0 a0_1 l0_2).bind fun bt532=>((laws_toCell.f a1_0 a1_1).bind fun bt537=>((laws_toCell.f a2_0 a2_1).bind fun bt539=>((spec_ShortestPath.f k bt532.1 bt532.2.1 bt532.2.2 bt537.1 bt537.2 bt539.1 bt539.2).bind fun bt541=>((laws_toFloor.f k a0_0 a0_1 l0_2).bind fun bt545=>((laws_toCell.f a1_0 a1_1).bind fun bt551=>((laws_toCell.f a2_0 a2_1).bind fun bt553=>((impl_ShortestPath.f bt545.1 bt545.2.1 bt545.2.2 bt551.1 bt551.2 bt553.1 bt553.2).bind fun bt555=>((laws_eqCellS.f k bt555.1 bt541.1).bind fun t559=>(if t559 = true then (laws_FnExactShortestPath.j0 k bt541.1 bt541.2 bt555.1 bt555.2 (bt555.2 != bt541.2) a0_0 a0_1 l0_2 a1_0 a1_1 a2_0 a2_1 bt545.1 bt545.2.1 bt545.2.2) else (laws_FnExactShortestPath.j0 k bt541.1 bt541.2 bt555.1 bt555.2 true a0_0 a0_1 l0_2 a1_0 a1_1 a2_0 a2_1 bt545.1 bt545.2.1 bt545.2.2))))))))))))
def laws_FnExactShortestPath.T5:Bool × List (List Nat × List Nat):=(true,[([],[]),([0],[0]),([],[]),([2,1],[2]),([],[]),([4,3],[4]),([1,3,5,5],[1,3,5]),([6],[6]),([7],[7]),([7],[7]),([8,6,0,1,2,3,4,5,6,7,8],[8]),([9,10,0,1,2,3,4,5,6,7,8,9,10],[9])])
def laws_FnExactShortestPath.B5:List Nat:=[0,1,0,7,0,31,63,127,255,255,511,2047]
theorem laws_FnExactShortestPath.tab5:rtab .any (opsOf Try.f8 5) = laws_FnExactShortestPath.T5:=by kernel_rfl
theorem laws_FnExactShortestPath.bits5:waitsOk laws_FnExactShortestPath.T5.2 laws_FnExactShortestPath.B5 = true:=by kernel_rfl
def laws_FnExactShortestPath.T7:Bool × List (List Nat × List Nat):=(true,[([],[]),([],[]),([1],[1]),([],[]),([3,2],[3]),([0,2,4,4],[0,2,4]),([5],[5]),([6],[6]),([6],[6]),([7,5,0,1,2,3,4,5,6,7],[7]),([8,9,0,1,2,3,4,5,6,7,8,9],[8])])
def laws_FnExactShortestPath.B7:List Nat:=[0,0,2,0,14,31,63,127,127,255,1023]
theorem laws_FnExactShortestPath.tab7:rtab .any (opsOf Try.f8 7) = laws_FnExactShortestPath.T7:=by kernel_rfl
theorem laws_FnExactShortestPath.bits7:waitsOk laws_FnExactShortestPath.T7.2 laws_FnExactShortestPath.B7 = true:=by kernel_rfl
def laws_FnExactShortestPath.T24:Bool × List (List Nat × List Nat):=(true,[([],[]),([0],[0]),([],[]),([2,1],[2]),([],[]),([4,3],[4]),([1,3,5,5],[1,3,5]),([6],[6]),([7],[7]),([7],[7]),([8,6,0,1,2,3,4,5,6,7,8],[8]),([9,10,0,1,2,3,4,5,6,7,8,9,10],[9])])
def laws_FnExactShortestPath.B24:List Nat:=[0,1,0,7,0,31,63,127,255,255,511,2047]
theorem laws_FnExactShortestPath.tab24:rtab .any (opsOf Try.f8 24) = laws_FnExactShortestPath.T24:=by kernel_rfl
theorem laws_FnExactShortestPath.bits24:waitsOk laws_FnExactShortestPath.T24.2 laws_FnExactShortestPath.B24 = true:=by kernel_rfl
set_option maxHeartbeats 8000000 in
set_option maxRecDepth 100000 in
theorem laws_FnExactShortestPath.calls (k:Nat) (a0_0:Int) (a0_1:Int) (A0_2:Option Addr) (c0_2:Nat) (l0_2:List (S44)) (a1_0:Int) (a1_1:Int) (a2_0:Int) (a2_1:Int) (r:Bool) (w:World) (hr0_2:Kd.C k44 w A0_2 l0_2.length l0_2) (hc0_2:l0_2.length ≤ c0_2) (h:laws_FnExactShortestPath.f k a0_0 a0_1 l0_2 a1_0 a1_1 a2_0 a2_1 = some r) :
  Calls Try.prog 8 #[.agg #[.int .i64 a0_0,.int .i64 a0_1,.slice A0_2 l0_2.length c0_2],.agg #[.int .i64 a1_0,.int .i64 a1_1],.agg #[.int .i64 a2_0,.int .i64 a2_1]] w fun e w'=>e = .returned (.bool r) ∧ Below w.heap.size w w':=by
 have hu24:=Try.underlying24;have hu44:=Try.underlying44;have hu29:=Try.underlying29;have HR0_2:=zM hr0_2;have HC0_2:=zM hc0_2;clear hr0_2 hc0_2;have HB:=zM (Below.refl w.heap.size w);have H:((laws_szFloor.f a0_0 a0_1 l0_2 1048576).bind fun t531=>(if t531 < 0 then (some true) else ((laws_toFloor.f k a0_0 a0_1 l0_2).bind fun bt532=>((laws_toCell.f a1_0 a1_1).bind fun bt537=>((laws_toCell.f a2_0 a2_1).bind fun bt539=>((spec_ShortestPath.f k bt532.1 bt532.2.1 bt532.2.2 bt537.1 bt537.2 bt539.1 bt539.2).bind fun bt541=>((laws_toFloor.f k a0_0 a0_1 l0_2).bind fun bt545=>((laws_toCell.f a1_0 a1_1).bind fun bt551=>((laws_toCell.f a2_0 a2_1).bind fun bt553=>((impl_ShortestPath.f bt545.1 bt545.2.1 bt545.2.2 bt551.1 bt551.2 bt553.1 bt553.2).bind fun bt555=>((laws_eqCellS.f k bt555.1 bt541.1).bind fun t559=>(if t559 = true then (laws_FnExactShortestPath.j0 k bt541.1 bt541.2 bt555.1 bt555.2 (bt555.2 != bt541.2) a0_0 a0_1 l0_2 a1_0 a1_1 a2_0 a2_1 bt545.1 bt545.2.1 bt545.2.2) else (laws_FnExactShortestPath.j0 k bt541.1 bt541.2 bt555.1 bt555.2 true a0_0 a0_1 l0_2 a1_0 a1_1 a2_0 a2_1 bt545.1 bt545.2.1 bt545.2.2))))))))))))) = some r:=h
 clear h;replace H:=Option.bind_eq_some_iff.mp H;obtain ⟨t531,A40,H⟩:=H;replace H:(if t531 < 0 then (some true) else ((laws_toFloor.f k a0_0 a0_1 l0_2).bind fun bt532=>((laws_toCell.f a1_0 a1_1).bind fun bt537=>((laws_toCell.f a2_0 a2_1).bind fun bt539=>((spec_ShortestPath.f k bt532.1 bt532.2.1 bt532.2.2 bt537.1 bt537.2 bt539.1 bt539.2).bind fun bt541=>((laws_toFloor.f k a0_0 a0_1 l0_2).bind fun bt545=>((laws_toCell.f a1_0 a1_1).bind fun bt551=>((laws_toCell.f a2_0 a2_1).bind fun bt553=>((impl_ShortestPath.f bt545.1 bt545.2.1 bt545.2.2 bt551.1 bt551.2 bt553.1 bt553.2).bind fun bt555=>((laws_eqCellS.f k bt555.1 bt541.1).bind fun t559=>(if t559 = true then (laws_FnExactShortestPath.j0 k bt541.1 bt541.2 bt555.1 bt555.2 (bt555.2 != bt541.2) a0_0 a0_1 l0_2 a1_0 a1_1 a2_0 a2_1 bt545.1 bt545.2.1 bt545.2.2) else (laws_FnExactShortestPath.j0 k bt541.1 bt541.2 bt555.1 bt555.2 true a0_0 a0_1 l0_2 a1_0 a1_1 a2_0 a2_1 bt545.1 bt545.2.1 bt545.2.2)))))))))))) = some r:=H
 have A4:=zM A40;clear A40;by_cases c5:t531 < 0
 ·rw [if_pos c5] at H
  have c5b0:decide (t531 < 0) = true:=decide_eq_true c5
  clear c5;obtain rfl:=Option.some.inj H;go_enter Try.func8,Try.ntmps8
  go_wp2_with (first|((with_reducible refine gate_dst (N:=3) rfl ?_);refine box_event ?hg (N:=3) ?hd (cs := #[.int .i64 a0_0,.int .i64 a0_1,.slice A0_2 l0_2.length c0_2]) (t:=24) ?hr ?_;(case hd=>rfl);(case hg=>rfl);(case hr=>first|(go_simp;done)|(go_simp;rfl));intro gb528 hg w6 hbox hb;have n0_:=zM (zQ (by repeat (first|(with_reducible first|exact HB.out|apply zD|apply zE|apply zF)|exact HB.out)) hb);have n1_:=zM (hbox);have n2_:=zM ((by rw [hg];exact (zR (by repeat (first|(with_reducible first|exact HB.out|apply zD|apply zE|apply zF)|exact HB.out))):w.heap.size ≤ gb528));have n3_:=zM ((by rw [hg];exact (zR (by repeat (first|(with_reducible first|exact HB.out|apply zD|apply zE|apply zF)|exact HB.out))):w.heap.size ≤ gb528));clear HB;have HB:=n0_;have BK528:=n1_;have GW528:=n2_;have GE528:=n3_;clear n0_ n1_ n2_ n3_;clear hb hbox hg)|((with_reducible refine gate_dst (N:=4) rfl ?_);refine box_event ?hg (N:=4) ?hd (cs := #[.int .i64 a1_0,.int .i64 a1_1]) (t:=44) ?hr ?_;(case hd=>rfl);(case hg=>rfl);(case hr=>first|(go_simp;done)|(go_simp;rfl));intro gb529 hg w7 hbox hb;have n0_:=zM (blk_below (g:=gb528) (o := .cells #[.int .i64 a0_0,.int .i64 a0_1,.slice A0_2 l0_2.length c0_2] 24 (0,0)) (by (with_reducible repeat (first|refine zJ ?_ _|refine zK ?_|refine zL ?_ _));exact BK528.out) hb);have n1_:=zM (zQ (by repeat (first|(with_reducible first|exact HB.out|apply zD|apply zE|apply zF|refine below_set ?_ GE528.out)|exact HB.out)) hb);have n2_:=zM (hbox);have n3_:=zM ((by rw [hg];exact (zR (by repeat (first|(with_reducible first|exact HB.out|apply zD|apply zE|apply zF|refine below_set ?_ GE528.out)|exact HB.out))):w.heap.size ≤ gb529));have n4_:=zM ((by rw [hg];exact (zR (by repeat (first|(with_reducible first|exact HB.out|apply zD|apply zE|apply zF|refine below_set ?_ GE528.out)|exact HB.out))):w.heap.size ≤ gb529));have n5_:=zM ((by rw [hg];exact Nat.ne_of_lt (blk_lt (g:=gb528) (o := .cells #[.int .i64 a0_0,.int .i64 a0_1,.slice A0_2 l0_2.length c0_2] 24 (0,0)) (by (with_reducible repeat (first|refine zJ ?_ _|refine zK ?_|refine zL ?_ _));exact BK528.out)):gb528 ≠ gb529));have n6_:=zM ((by rw [hg];exact Nat.ne_of_gt (blk_lt (g:=gb528) (o := .cells #[.int .i64 a0_0,.int .i64 a0_1,.slice A0_2 l0_2.length c0_2] 24 (0,0)) (by (with_reducible repeat (first|refine zJ ?_ _|refine zK ?_|refine zL ?_ _));exact BK528.out)):gb529 ≠ gb528));clear BK528;clear HB;have BK528:=n0_;have HB:=n1_;have BK529:=n2_;have GW529:=n3_;have GE529:=n4_;have NB528_529:=n5_;have NB529_528:=n6_;clear n0_ n1_ n2_ n3_ n4_ n5_ n6_;clear hb hbox hg)|((with_reducible refine gate_dst (N:=5) rfl ?_);refine box_event ?hg (N:=5) ?hd (cs := #[.int .i64 a2_0,.int .i64 a2_1]) (t:=44) ?hr ?_;(case hd=>rfl);(case hg=>rfl);(case hr=>first|(go_simp;done)|(go_simp;rfl));intro gb530 hg w8 hbox hb;have n0_:=zM (blk_below (g:=gb528) (o := .cells #[.int .i64 a0_0,.int .i64 a0_1,.slice A0_2 l0_2.length c0_2] 24 (0,0)) (by (with_reducible repeat (first|refine zJ ?_ _|refine zK ?_|refine zL ?_ _));exact BK528.out) hb);have n1_:=zM (blk_below (g:=gb529) (o := .cells #[.int .i64 a1_0,.int .i64 a1_1] 44 (0,0)) (by (with_reducible repeat (first|refine zJ ?_ _|refine zK ?_|refine zL ?_ _));exact BK529.out) hb);have n2_:=zM (zQ (by repeat (first|(with_reducible first|exact HB.out|apply zD|apply zE|apply zF|refine below_set ?_ GE528.out|refine below_set ?_ GE529.out)|exact HB.out)) hb);have n3_:=zM (hbox);have n4_:=zM ((by rw [hg];exact (zR (by repeat (first|(with_reducible first|exact HB.out|apply zD|apply zE|apply zF|refine below_set ?_ GE528.out|refine below_set ?_ GE529.out)|exact HB.out))):w.heap.size ≤ gb530));have n5_:=zM ((by rw [hg];exact (zR (by repeat (first|(with_reducible first|exact HB.out|apply zD|apply zE|apply zF|refine below_set ?_ GE528.out|refine below_set ?_ GE529.out)|exact HB.out))):w.heap.size ≤ gb530));have n6_:=zM ((by rw [hg];exact Nat.ne_of_lt (blk_lt (g:=gb528) (o := .cells #[.int .i64 a0_0,.int .i64 a0_1,.slice A0_2 l0_2.length c0_2] 24 (0,0)) (by (with_reducible repeat (first|refine zJ ?_ _|refine zK ?_|refine zL ?_ _));exact BK528.out)):gb528 ≠ gb530));have n7_:=zM ((by rw [hg];exact Nat.ne_of_gt (blk_lt (g:=gb528) (o := .cells #[.int .i64 a0_0,.int .i64 a0_1,.slice A0_2 l0_2.length c0_2] 24 (0,0)) (by (with_reducible repeat (first|refine zJ ?_ _|refine zK ?_|refine zL ?_ _));exact BK528.out)):gb530 ≠ gb528));have n8_:=zM ((by rw [hg];exact Nat.ne_of_lt (blk_lt (g:=gb529) (o := .cells #[.int .i64 a1_0,.int .i64 a1_1] 44 (0,0)) (by (with_reducible repeat (first|refine zJ ?_ _|refine zK ?_|refine zL ?_ _));exact BK529.out)):gb529 ≠ gb530));have n9_:=zM ((by rw [hg];exact Nat.ne_of_gt (blk_lt (g:=gb529) (o := .cells #[.int .i64 a1_0,.int .i64 a1_1] 44 (0,0)) (by (with_reducible repeat (first|refine zJ ?_ _|refine zK ?_|refine zL ?_ _));exact BK529.out)):gb530 ≠ gb529));clear BK528;clear BK529;clear HB;have BK528:=n0_;have BK529:=n1_;have HB:=n2_;have BK530:=n3_;have GW530:=n4_;have GE530:=n5_;have NB528_530:=n6_;have NB530_528:=n7_;have NB529_530:=n8_;have NB530_529:=n9_;clear n0_ n1_ n2_ n3_ n4_ n5_ n6_ n7_ n8_ n9_;clear hb hbox hg;have hnb9:=NB528_529.out;have hnc9:=NB529_528.out;have hnb10:=NB528_530.out;have hnc10:=NB530_528.out;have hcz11_0:w8.cell? ⟨gb528,0,none⟩ = some (.int .i64 a0_0):=(blk_cell BK528.out 0).trans rfl;have hcz11_1:w8.cell? ⟨gb528,1,none⟩ = some (.int .i64 a0_1):=(blk_cell BK528.out 1).trans rfl;have hcz11_2:w8.cell? ⟨gb528,2,none⟩ = some (.slice A0_2 l0_2.length c0_2):=(blk_cell BK528.out 2).trans rfl;have hfz11_0:=blk_frozen BK528.out 0;have hfz11_1:=blk_frozen BK528.out 1;have hfz11_2:=blk_frozen BK528.out 2)|((with_reducible refine gate_callee (f:=13) rfl ?_);refine goesL_ (some 20) rfl rfl Try.func13 (by kernel_rfl) rfl #[.agg #[.int .i64 a0_0,.int .i64 a0_1,.slice A0_2 l0_2.length c0_2],.int .i64 1048576] rfl (by (try simp only [List.map_toArray,List.map_cons,List.map_nil]);first|done|rfl|(simp only [List.length_drop,List.length_take];rfl)) ?_;(with_reducible refine (laws_szFloor.calls a0_0 a0_1 _ _ l0_2 1048576 t531 _ ?side1 ?side2 A4.out).mono ?_);(case side1=>repeat (first|exact (zO HR0_2.out HB.out)|(with_reducible first|refine zG ?_ _|refine zH ?_ _|refine zI ?_)));(case side2=>exact HC0_2.out);rintro e w12 ⟨rfl,hb⟩;refine ⟨_,rfl,?_⟩;have n0_:=zM (blk_below (g:=gb528) (o := .cells #[.int .i64 a0_0,.int .i64 a0_1,.slice A0_2 l0_2.length c0_2] 24 (0,0)) (by (with_reducible repeat (first|refine zJ ?_ _|refine zK ?_|refine zL ?_ _));exact BK528.out) hb);have n1_:=zM (blk_below (g:=gb529) (o := .cells #[.int .i64 a1_0,.int .i64 a1_1] 44 (0,0)) (by (with_reducible repeat (first|refine zJ ?_ _|refine zK ?_|refine zL ?_ _));exact BK529.out) hb);have n2_:=zM (blk_below (g:=gb530) (o := .cells #[.int .i64 a2_0,.int .i64 a2_1] 44 (0,0)) (by (with_reducible repeat (first|refine zJ ?_ _|refine zK ?_|refine zL ?_ _));exact BK530.out) hb);have n3_:=zM (zQ (by repeat (first|(with_reducible first|exact HB.out|apply zD|apply zE|apply zF|refine below_set ?_ GE528.out|refine below_set ?_ GE529.out|refine below_set ?_ GE530.out)|exact HB.out)) hb);clear BK528;clear BK529;clear BK530;clear HB;have BK528:=n0_;have BK529:=n1_;have BK530:=n2_;have HB:=n3_;clear n0_ n1_ n2_ n3_;(try clear hb);(try clear hb2);(try clear hk);(try clear hi)))
  go_ret
  exact ⟨by first|rfl|(simp [errW_none,errW_some] <;> rfl)|(simp [*,errW_none,errW_some] <;> rfl),by repeat (first|(with_reducible first|exact HB.out|apply zD|apply zE|apply zF|refine below_set ?_ GE528.out|refine below_set ?_ GE529.out|refine below_set ?_ GE530.out)|exact HB.out)⟩
 ·rw [if_neg c5] at H
  have c5b0:decide (t531 < 0) = false:=decide_eq_false c5
  clear c5;replace H:=Option.bind_eq_some_iff.mp H;obtain ⟨⟨t532,t533,t534⟩,A130,H⟩:=H;replace H:((laws_toCell.f a1_0 a1_1).bind fun bt537=>((laws_toCell.f a2_0 a2_1).bind fun bt539=>((spec_ShortestPath.f k t532 t533 t534 bt537.1 bt537.2 bt539.1 bt539.2).bind fun bt541=>((laws_toFloor.f k a0_0 a0_1 l0_2).bind fun bt545=>((laws_toCell.f a1_0 a1_1).bind fun bt551=>((laws_toCell.f a2_0 a2_1).bind fun bt553=>((impl_ShortestPath.f bt545.1 bt545.2.1 bt545.2.2 bt551.1 bt551.2 bt553.1 bt553.2).bind fun bt555=>((laws_eqCellS.f k bt555.1 bt541.1).bind fun t559=>(if t559 = true then (laws_FnExactShortestPath.j0 k bt541.1 bt541.2 bt555.1 bt555.2 (bt555.2 != bt541.2) a0_0 a0_1 l0_2 a1_0 a1_1 a2_0 a2_1 bt545.1 bt545.2.1 bt545.2.2) else (laws_FnExactShortestPath.j0 k bt541.1 bt541.2 bt555.1 bt555.2 true a0_0 a0_1 l0_2 a1_0 a1_1 a2_0 a2_1 bt545.1 bt545.2.1 bt545.2.2)))))))))) = some r:=H
  have A13:=zM A130;clear A130;replace H:=Option.bind_eq_some_iff.mp H;obtain ⟨⟨t537,t538⟩,A140,H⟩:=H;replace H:((laws_toCell.f a2_0 a2_1).bind fun bt539=>((spec_ShortestPath.f k t532 t533 t534 t537 t538 bt539.1 bt539.2).bind fun bt541=>((laws_toFloor.f k a0_0 a0_1 l0_2).bind fun bt545=>((laws_toCell.f a1_0 a1_1).bind fun bt551=>((laws_toCell.f a2_0 a2_1).bind fun bt553=>((impl_ShortestPath.f bt545.1 bt545.2.1 bt545.2.2 bt551.1 bt551.2 bt553.1 bt553.2).bind fun bt555=>((laws_eqCellS.f k bt555.1 bt541.1).bind fun t559=>(if t559 = true then (laws_FnExactShortestPath.j0 k bt541.1 bt541.2 bt555.1 bt555.2 (bt555.2 != bt541.2) a0_0 a0_1 l0_2 a1_0 a1_1 a2_0 a2_1 bt545.1 bt545.2.1 bt545.2.2) else (laws_FnExactShortestPath.j0 k bt541.1 bt541.2 bt555.1 bt555.2 true a0_0 a0_1 l0_2 a1_0 a1_1 a2_0 a2_1 bt545.1 bt545.2.1 bt545.2.2))))))))) = some r:=H
  have A14:=zM A140;clear A140;replace H:=Option.bind_eq_some_iff.mp H;obtain ⟨⟨t539,t540⟩,A150,H⟩:=H;replace H:((spec_ShortestPath.f k t532 t533 t534 t537 t538 t539 t540).bind fun bt541=>((laws_toFloor.f k a0_0 a0_1 l0_2).bind fun bt545=>((laws_toCell.f a1_0 a1_1).bind fun bt551=>((laws_toCell.f a2_0 a2_1).bind fun bt553=>((impl_ShortestPath.f bt545.1 bt545.2.1 bt545.2.2 bt551.1 bt551.2 bt553.1 bt553.2).bind fun bt555=>((laws_eqCellS.f k bt555.1 bt541.1).bind fun t559=>(if t559 = true then (laws_FnExactShortestPath.j0 k bt541.1 bt541.2 bt555.1 bt555.2 (bt555.2 != bt541.2) a0_0 a0_1 l0_2 a1_0 a1_1 a2_0 a2_1 bt545.1 bt545.2.1 bt545.2.2) else (laws_FnExactShortestPath.j0 k bt541.1 bt541.2 bt555.1 bt555.2 true a0_0 a0_1 l0_2 a1_0 a1_1 a2_0 a2_1 bt545.1 bt545.2.1 bt545.2.2)))))))) = some r:=H
  have A15:=zM A150;clear A150;replace H:=Option.bind_eq_some_iff.mp H;obtain ⟨⟨t541,t544⟩,A160,H⟩:=H;replace H:((laws_toFloor.f k a0_0 a0_1 l0_2).bind fun bt545=>((laws_toCell.f a1_0 a1_1).bind fun bt551=>((laws_toCell.f a2_0 a2_1).bind fun bt553=>((impl_ShortestPath.f bt545.1 bt545.2.1 bt545.2.2 bt551.1 bt551.2 bt553.1 bt553.2).bind fun bt555=>((laws_eqCellS.f k bt555.1 t541).bind fun t559=>(if t559 = true then (laws_FnExactShortestPath.j0 k t541 t544 bt555.1 bt555.2 (bt555.2 != t544) a0_0 a0_1 l0_2 a1_0 a1_1 a2_0 a2_1 bt545.1 bt545.2.1 bt545.2.2) else (laws_FnExactShortestPath.j0 k t541 t544 bt555.1 bt555.2 true a0_0 a0_1 l0_2 a1_0 a1_1 a2_0 a2_1 bt545.1 bt545.2.1 bt545.2.2))))))) = some r:=H
  have A16:=zM A160;clear A160;replace H:=Option.bind_eq_some_iff.mp H;obtain ⟨⟨t545,t546,t547⟩,A170,H⟩:=H;replace H:((laws_toCell.f a1_0 a1_1).bind fun bt551=>((laws_toCell.f a2_0 a2_1).bind fun bt553=>((impl_ShortestPath.f t545 t546 t547 bt551.1 bt551.2 bt553.1 bt553.2).bind fun bt555=>((laws_eqCellS.f k bt555.1 t541).bind fun t559=>(if t559 = true then (laws_FnExactShortestPath.j0 k t541 t544 bt555.1 bt555.2 (bt555.2 != t544) a0_0 a0_1 l0_2 a1_0 a1_1 a2_0 a2_1 t545 t546 t547) else (laws_FnExactShortestPath.j0 k t541 t544 bt555.1 bt555.2 true a0_0 a0_1 l0_2 a1_0 a1_1 a2_0 a2_1 t545 t546 t547)))))) = some r:=H
  have A17:=zM A170;clear A170;replace H:=Option.bind_eq_some_iff.mp H;obtain ⟨⟨t551,t552⟩,A180,H⟩:=H;replace H:((laws_toCell.f a2_0 a2_1).bind fun bt553=>((impl_ShortestPath.f t545 t546 t547 t551 t552 bt553.1 bt553.2).bind fun bt555=>((laws_eqCellS.f k bt555.1 t541).bind fun t559=>(if t559 = true then (laws_FnExactShortestPath.j0 k t541 t544 bt555.1 bt555.2 (bt555.2 != t544) a0_0 a0_1 l0_2 a1_0 a1_1 a2_0 a2_1 t545 t546 t547) else (laws_FnExactShortestPath.j0 k t541 t544 bt555.1 bt555.2 true a0_0 a0_1 l0_2 a1_0 a1_1 a2_0 a2_1 t545 t546 t547))))) = some r:=H
  have A18:=zM A180;clear A180;replace H:=Option.bind_eq_some_iff.mp H;obtain ⟨⟨t553,t554⟩,A190,H⟩:=H;replace H:((impl_ShortestPath.f t545 t546 t547 t551 t552 t553 t554).bind fun bt555=>((laws_eqCellS.f k bt555.1 t541).bind fun t559=>(if t559 = true then (laws_FnExactShortestPath.j0 k t541 t544 bt555.1 bt555.2 (bt555.2 != t544) a0_0 a0_1 l0_2 a1_0 a1_1 a2_0 a2_1 t545 t546 t547) else (laws_FnExactShortestPath.j0 k t541 t544 bt555.1 bt555.2 true a0_0 a0_1 l0_2 a1_0 a1_1 a2_0 a2_1 t545 t546 t547)))) = some r:=H
  have A19:=zM A190;clear A190;replace H:=Option.bind_eq_some_iff.mp H;obtain ⟨⟨t555,t558⟩,A200,H⟩:=H;replace H:((laws_eqCellS.f k t555 t541).bind fun t559=>(if t559 = true then (laws_FnExactShortestPath.j0 k t541 t544 t555 t558 (t558 != t544) a0_0 a0_1 l0_2 a1_0 a1_1 a2_0 a2_1 t545 t546 t547) else (laws_FnExactShortestPath.j0 k t541 t544 t555 t558 true a0_0 a0_1 l0_2 a1_0 a1_1 a2_0 a2_1 t545 t546 t547))) = some r:=H
  have A20:=zM A200;clear A200;have HC21:=zM H;clear H;go_enter Try.func8,Try.ntmps8
  try go_wp2_with (first|((with_reducible refine gate_dst (N:=3) rfl ?_);refine box_event ?hg (N:=3) ?hd (cs := #[.int .i64 a0_0,.int .i64 a0_1,.slice A0_2 l0_2.length c0_2]) (t:=24) ?hr ?_;(case hd=>rfl);(case hg=>rfl);(case hr=>first|(go_simp;done)|(go_simp;rfl));intro gb528 hg w22 hbox hb;have n0_:=zM (zQ (by repeat (first|(with_reducible first|exact HB.out|apply zD|apply zE|apply zF)|exact HB.out)) hb);have n1_:=zM (hbox);have n2_:=zM ((by rw [hg];exact (zR (by repeat (first|(with_reducible first|exact HB.out|apply zD|apply zE|apply zF)|exact HB.out))):w.heap.size ≤ gb528));have n3_:=zM ((by rw [hg];exact (zR (by repeat (first|(with_reducible first|exact HB.out|apply zD|apply zE|apply zF)|exact HB.out))):w.heap.size ≤ gb528));clear HB;have HB:=n0_;have BK528:=n1_;have GW528:=n2_;have GE528:=n3_;clear n0_ n1_ n2_ n3_;clear hb hbox hg)|((with_reducible refine gate_dst (N:=4) rfl ?_);refine box_event ?hg (N:=4) ?hd (cs := #[.int .i64 a1_0,.int .i64 a1_1]) (t:=44) ?hr ?_;(case hd=>rfl);(case hg=>rfl);(case hr=>first|(go_simp;done)|(go_simp;rfl));intro gb529 hg w23 hbox hb;have n0_:=zM (blk_below (g:=gb528) (o := .cells #[.int .i64 a0_0,.int .i64 a0_1,.slice A0_2 l0_2.length c0_2] 24 (0,0)) (by (with_reducible repeat (first|refine zJ ?_ _|refine zK ?_|refine zL ?_ _));exact BK528.out) hb);have n1_:=zM (zQ (by repeat (first|(with_reducible first|exact HB.out|apply zD|apply zE|apply zF|refine below_set ?_ GE528.out)|exact HB.out)) hb);have n2_:=zM (hbox);have n3_:=zM ((by rw [hg];exact (zR (by repeat (first|(with_reducible first|exact HB.out|apply zD|apply zE|apply zF|refine below_set ?_ GE528.out)|exact HB.out))):w.heap.size ≤ gb529));have n4_:=zM ((by rw [hg];exact (zR (by repeat (first|(with_reducible first|exact HB.out|apply zD|apply zE|apply zF|refine below_set ?_ GE528.out)|exact HB.out))):w.heap.size ≤ gb529));have n5_:=zM ((by rw [hg];exact Nat.ne_of_lt (blk_lt (g:=gb528) (o := .cells #[.int .i64 a0_0,.int .i64 a0_1,.slice A0_2 l0_2.length c0_2] 24 (0,0)) (by (with_reducible repeat (first|refine zJ ?_ _|refine zK ?_|refine zL ?_ _));exact BK528.out)):gb528 ≠ gb529));have n6_:=zM ((by rw [hg];exact Nat.ne_of_gt (blk_lt (g:=gb528) (o := .cells #[.int .i64 a0_0,.int .i64 a0_1,.slice A0_2 l0_2.length c0_2] 24 (0,0)) (by (with_reducible repeat (first|refine zJ ?_ _|refine zK ?_|refine zL ?_ _));exact BK528.out)):gb529 ≠ gb528));clear BK528;clear HB;have BK528:=n0_;have HB:=n1_;have BK529:=n2_;have GW529:=n3_;have GE529:=n4_;have NB528_529:=n5_;have NB529_528:=n6_;clear n0_ n1_ n2_ n3_ n4_ n5_ n6_;clear hb hbox hg)|((with_reducible refine gate_dst (N:=5) rfl ?_);refine box_event ?hg (N:=5) ?hd (cs := #[.int .i64 a2_0,.int .i64 a2_1]) (t:=44) ?hr ?_;(case hd=>rfl);(case hg=>rfl);(case hr=>first|(go_simp;done)|(go_simp;rfl));intro gb530 hg w24 hbox hb;have n0_:=zM (blk_below (g:=gb528) (o := .cells #[.int .i64 a0_0,.int .i64 a0_1,.slice A0_2 l0_2.length c0_2] 24 (0,0)) (by (with_reducible repeat (first|refine zJ ?_ _|refine zK ?_|refine zL ?_ _));exact BK528.out) hb);have n1_:=zM (blk_below (g:=gb529) (o := .cells #[.int .i64 a1_0,.int .i64 a1_1] 44 (0,0)) (by (with_reducible repeat (first|refine zJ ?_ _|refine zK ?_|refine zL ?_ _));exact BK529.out) hb);have n2_:=zM (zQ (by repeat (first|(with_reducible first|exact HB.out|apply zD|apply zE|apply zF|refine below_set ?_ GE528.out|refine below_set ?_ GE529.out)|exact HB.out)) hb);have n3_:=zM (hbox);have n4_:=zM ((by rw [hg];exact (zR (by repeat (first|(with_reducible first|exact HB.out|apply zD|apply zE|apply zF|refine below_set ?_ GE528.out|refine below_set ?_ GE529.out)|exact HB.out))):w.heap.size ≤ gb530));have n5_:=zM ((by rw [hg];exact (zR (by repeat (first|(with_reducible first|exact HB.out|apply zD|apply zE|apply zF|refine below_set ?_ GE528.out|refine below_set ?_ GE529.out)|exact HB.out))):w.heap.size ≤ gb530));have n6_:=zM ((by rw [hg];exact Nat.ne_of_lt (blk_lt (g:=gb528) (o := .cells #[.int .i64 a0_0,.int .i64 a0_1,.slice A0_2 l0_2.length c0_2] 24 (0,0)) (by (with_reducible repeat (first|refine zJ ?_ _|refine zK ?_|refine zL ?_ _));exact BK528.out)):gb528 ≠ gb530));have n7_:=zM ((by rw [hg];exact Nat.ne_of_gt (blk_lt (g:=gb528) (o := .cells #[.int .i64 a0_0,.int .i64 a0_1,.slice A0_2 l0_2.length c0_2] 24 (0,0)) (by (with_reducible repeat (first|refine zJ ?_ _|refine zK ?_|refine zL ?_ _));exact BK528.out)):gb530 ≠ gb528));have n8_:=zM ((by rw [hg];exact Nat.ne_of_lt (blk_lt (g:=gb529) (o := .cells #[.int .i64 a1_0,.int .i64 a1_1] 44 (0,0)) (by (with_reducible repeat (first|refine zJ ?_ _|refine zK ?_|refine zL ?_ _));exact BK529.out)):gb529 ≠ gb530));have n9_:=zM ((by rw [hg];exact Nat.ne_of_gt (blk_lt (g:=gb529) (o := .cells #[.int .i64 a1_0,.int .i64 a1_1] 44 (0,0)) (by (with_reducible repeat (first|refine zJ ?_ _|refine zK ?_|refine zL ?_ _));exact BK529.out)):gb530 ≠ gb529));clear BK528;clear BK529;clear HB;have BK528:=n0_;have BK529:=n1_;have HB:=n2_;have BK530:=n3_;have GW530:=n4_;have GE530:=n5_;have NB528_530:=n6_;have NB530_528:=n7_;have NB529_530:=n8_;have NB530_529:=n9_;clear n0_ n1_ n2_ n3_ n4_ n5_ n6_ n7_ n8_ n9_;clear hb hbox hg;have hnb25:=NB528_529.out;have hnc25:=NB529_528.out;have hnb26:=NB528_530.out;have hnc26:=NB530_528.out;have hcz27_0:w24.cell? ⟨gb528,0,none⟩ = some (.int .i64 a0_0):=(blk_cell BK528.out 0).trans rfl;have hcz27_1:w24.cell? ⟨gb528,1,none⟩ = some (.int .i64 a0_1):=(blk_cell BK528.out 1).trans rfl;have hcz27_2:w24.cell? ⟨gb528,2,none⟩ = some (.slice A0_2 l0_2.length c0_2):=(blk_cell BK528.out 2).trans rfl;have hfz27_0:=blk_frozen BK528.out 0;have hfz27_1:=blk_frozen BK528.out 1;have hfz27_2:=blk_frozen BK528.out 2)|((with_reducible refine gate_callee (f:=13) rfl ?_);refine goesL_ (some 20) rfl rfl Try.func13 (by kernel_rfl) rfl #[.agg #[.int .i64 a0_0,.int .i64 a0_1,.slice A0_2 l0_2.length c0_2],.int .i64 1048576] rfl (by (try simp only [List.map_toArray,List.map_cons,List.map_nil]);first|done|rfl|(simp only [List.length_drop,List.length_take];rfl)) ?_;(with_reducible refine (laws_szFloor.calls a0_0 a0_1 _ _ l0_2 1048576 t531 _ ?side1 ?side2 A4.out).mono ?_);(case side1=>repeat (first|exact (zO HR0_2.out HB.out)|(with_reducible first|refine zG ?_ _|refine zH ?_ _|refine zI ?_)));(case side2=>exact HC0_2.out);rintro e w28 ⟨rfl,hb⟩;refine ⟨_,rfl,?_⟩;have n0_:=zM (blk_below (g:=gb528) (o := .cells #[.int .i64 a0_0,.int .i64 a0_1,.slice A0_2 l0_2.length c0_2] 24 (0,0)) (by (with_reducible repeat (first|refine zJ ?_ _|refine zK ?_|refine zL ?_ _));exact BK528.out) hb);have n1_:=zM (blk_below (g:=gb529) (o := .cells #[.int .i64 a1_0,.int .i64 a1_1] 44 (0,0)) (by (with_reducible repeat (first|refine zJ ?_ _|refine zK ?_|refine zL ?_ _));exact BK529.out) hb);have n2_:=zM (blk_below (g:=gb530) (o := .cells #[.int .i64 a2_0,.int .i64 a2_1] 44 (0,0)) (by (with_reducible repeat (first|refine zJ ?_ _|refine zK ?_|refine zL ?_ _));exact BK530.out) hb);have n3_:=zM (zQ (by repeat (first|(with_reducible first|exact HB.out|apply zD|apply zE|apply zF|refine below_set ?_ GE528.out|refine below_set ?_ GE529.out|refine below_set ?_ GE530.out)|exact HB.out)) hb);clear BK528;clear BK529;clear BK530;clear HB;have BK528:=n0_;have BK529:=n1_;have BK530:=n2_;have HB:=n3_;clear n0_ n1_ n2_ n3_;(try clear hb);(try clear hb2);(try clear hk);(try clear hi)))
  have n0_:=zM (zK BK528.out);have n1_:=zM (zK BK529.out);have n2_:=zM (zK BK530.out);have n3_:=zM (zF HB.out);clear BK528;clear BK529;clear BK530;clear HB;have BK528:=n0_;have BK529:=n1_;have BK530:=n2_;have HB:=n3_;clear n0_ n1_ n2_ n3_;refine start_ (n:=12) (S:=fun w'=>w'.cell? ⟨gb528,0,none⟩ = some (.int .i64 a0_0) ∧ w'.cell? ⟨gb528,1,none⟩ = some (.int .i64 a0_1) ∧ w'.cell? ⟨gb528,2,none⟩ = some (.slice A0_2 l0_2.length c0_2) ∧ w'.cell? ⟨gb529,0,none⟩ = some (.int .i64 a1_0) ∧ w'.cell? ⟨gb529,1,none⟩ = some (.int .i64 a1_1) ∧ w'.cell? ⟨gb530,0,none⟩ = some (.int .i64 a2_0) ∧ w'.cell? ⟨gb530,1,none⟩ = some (.int .i64 a2_1)) (ds:=[]) #[false,false,false,false,false,false,false,false,false,false,false,false] (by kernel_rfl) rfl rfl ⟨(blk_cell BK528.out 0).trans rfl,(blk_cell BK528.out 1).trans rfl,(blk_cell BK528.out 2).trans rfl,(blk_cell BK529.out 0).trans rfl,(blk_cell BK529.out 1).trans rfl,(blk_cell BK530.out 0).trans rfl,(blk_cell BK530.out 1).trans rfl⟩ (fun hHeld=>?_);refine with_tabW laws_FnExactShortestPath.tab5 laws_FnExactShortestPath.bits5 (fun HT_ HW_=>?_)
  generalize w28.drew = w29 at BK528 BK529 BK530 HB hHeld ⊢
  refine take_ (i:=0) (N:=some 24) (v:=?_) (a':=?_) #[true,false,false,false,false,false,false,false,false,false,false,false] rfl rfl (take_ofW HT_.out HW_.out (by kernel_rfl)) (fun _ _ _ h=>h) (Or.inl ⟨by rfl,?_⟩) hHeld ?_ ?_
  rotate_left
  ·rintro w' ⟨s0,s1,s2,s3,s4,s5,s6⟩
   go_simp
   with_reducible rfl
  rotate_left
  ·simp only [Act.put,zT,zU,zV,i64_w,i32_w]
   rfl
  refine take_ (i:=2) (N:=some 26) (v:=?_) (a':=?_) #[true,false,true,false,false,false,false,false,false,false,false,false] rfl rfl (take_ofW HT_.out HW_.out (by kernel_rfl)) (fun _ _ _ h=>h) (Or.inl ⟨by rfl,?_⟩) hHeld ?_ ?_
  rotate_left
  ·rintro w' ⟨s0,s1,s2,s3,s4,s5,s6⟩
   go_simp
   with_reducible rfl
  rotate_left
  ·simp only [Act.put,zT,zU,zV,i64_w,i32_w]
   rfl
  refine take_ (i:=4) (N:=some 28) (v:=?_) (a':=?_) #[true,false,true,false,true,false,false,false,false,false,false,false] rfl rfl (take_ofW HT_.out HW_.out (by kernel_rfl)) (fun _ _ _ h=>h) (Or.inl ⟨by rfl,?_⟩) hHeld ?_ ?_
  rotate_left
  ·rintro w' ⟨s0,s1,s2,s3,s4,s5,s6⟩
   go_simp
   with_reducible rfl
  rotate_left
  ·simp only [Act.put,zT,zU,zV,i64_w,i32_w]
   rfl
  refine one_ (i:=1) (N:=some 25) #[true,true,true,false,true,false,false,false,false,false,false,false] rfl rfl (one_of HT_.out (by kernel_rfl)) (by decide) (fun K hK=>?_)
  refine goes_ Try.func15 (by kernel_rfl) rfl #[.agg #[.int .i64 a0_0,.int .i64 a0_1,.slice A0_2 l0_2.length c0_2]] (by rfl) rfl rfl (by (try simp only [List.map_toArray,List.map_cons,List.map_nil]);first|done|rfl|(simp only [List.length_drop,List.length_take];rfl)) ?_
  with_reducible refine (laws_toFloor.calls k a0_0 a0_1 _ _ l0_2 t532 t533 t534 _ ?side1 ?side2 A13.out).mono ?_
  (case side1=>repeat (first|exact (zO HR0_2.out HB.out)|(with_reducible first|refine zG ?_ _|refine zH ?_ _|refine zI ?_)))
  (case side2=>exact HC0_2.out)
  rintro e w30 ⟨v535,rfl,ho0,hb⟩
  refine ⟨_,rfl,?_⟩
  have n0_:=zM (Kd.R_lower ho0 (zR (by repeat (first|(with_reducible first|exact HB.out|apply zD|apply zE|apply zF|refine below_set ?_ GE528.out|refine below_set ?_ GE529.out|refine below_set ?_ GE530.out)|exact HB.out))))
  have n1_:=zM (blk_below (g:=gb528) (o := .cells #[.int .i64 a0_0,.int .i64 a0_1,.slice A0_2 l0_2.length c0_2] 24 (0,0)) (by (with_reducible repeat (first|refine zJ ?_ _|refine zK ?_|refine zL ?_ _));exact BK528.out) hb)
  have n2_:=zM (blk_below (g:=gb529) (o := .cells #[.int .i64 a1_0,.int .i64 a1_1] 44 (0,0)) (by (with_reducible repeat (first|refine zJ ?_ _|refine zK ?_|refine zL ?_ _));exact BK529.out) hb)
  have n3_:=zM (blk_below (g:=gb530) (o := .cells #[.int .i64 a2_0,.int .i64 a2_1] 44 (0,0)) (by (with_reducible repeat (first|refine zJ ?_ _|refine zK ?_|refine zL ?_ _));exact BK530.out) hb)
  have n4_:=zM (zQ (by repeat (first|(with_reducible first|exact HB.out|apply zD|apply zE|apply zF|refine below_set ?_ GE528.out|refine below_set ?_ GE529.out|refine below_set ?_ GE530.out)|exact HB.out)) hb)
  clear BK528;clear BK529;clear BK530;clear HB;have HO536:=n0_;have BK528:=n1_;have BK529:=n2_;have BK530:=n3_;have HB:=n4_;clear n0_ n1_ n2_ n3_ n4_;(try clear hb)
  (try clear hb2)
  (try clear hk)
  (try clear hi)
  (try clear ho0)
  refine hK.out _ _ ⟨(blk_cell BK528.out 0).trans rfl,(blk_cell BK528.out 1).trans rfl,(blk_cell BK528.out 2).trans rfl,(blk_cell BK529.out 0).trans rfl,(blk_cell BK529.out 1).trans rfl,(blk_cell BK530.out 0).trans rfl,(blk_cell BK530.out 1).trans rfl⟩ (fun hHeld=>?_)
  clear hK K;refine norm_ (a':=?_) ?_ ?_
  rotate_left
  ·show Act.put _ (some 25) _ = _
   simp only [Act.put,zT,zU,zV,i64_w,i32_w]
   rfl
  refine one_ (i:=3) (N:=some 27) #[true,true,true,true,true,false,false,false,false,false,false,false] rfl rfl (one_of HT_.out (by kernel_rfl)) (by decide) (fun K hK=>?_)
  refine goes_ Try.func28 (by kernel_rfl) rfl #[.agg #[.int .i64 a1_0,.int .i64 a1_1]] (by rfl) rfl rfl (by (try simp only [List.map_toArray,List.map_cons,List.map_nil]);first|done|rfl|(simp only [List.length_drop,List.length_take];rfl)) ?_
  with_reducible refine (laws_toCell.calls a1_0 a1_1 t537 t538 _ A14.out).mono ?_
  rintro e w31 ⟨rfl,hb⟩
  refine ⟨_,rfl,?_⟩
  have n0_:=zM (zP (by (with_reducible repeat (first|apply zA|apply zB|apply zC));exact HO536.out) hb)
  have n1_:=zM (blk_below (g:=gb528) (o := .cells #[.int .i64 a0_0,.int .i64 a0_1,.slice A0_2 l0_2.length c0_2] 24 (0,0)) (by (with_reducible repeat (first|refine zJ ?_ _|refine zK ?_|refine zL ?_ _));exact BK528.out) hb)
  have n2_:=zM (blk_below (g:=gb529) (o := .cells #[.int .i64 a1_0,.int .i64 a1_1] 44 (0,0)) (by (with_reducible repeat (first|refine zJ ?_ _|refine zK ?_|refine zL ?_ _));exact BK529.out) hb)
  have n3_:=zM (blk_below (g:=gb530) (o := .cells #[.int .i64 a2_0,.int .i64 a2_1] 44 (0,0)) (by (with_reducible repeat (first|refine zJ ?_ _|refine zK ?_|refine zL ?_ _));exact BK530.out) hb)
  have n4_:=zM (zQ (by repeat (first|(with_reducible first|exact HB.out|apply zD|apply zE|apply zF|refine below_set ?_ GE528.out|refine below_set ?_ GE529.out|refine below_set ?_ GE530.out)|exact HB.out)) hb)
  clear HO536;clear BK528;clear BK529;clear BK530;clear HB;have HO536:=n0_;have BK528:=n1_;have BK529:=n2_;have BK530:=n3_;have HB:=n4_;clear n0_ n1_ n2_ n3_ n4_;(try clear hb)
  (try clear hb2)
  (try clear hk)
  (try clear hi)
  refine hK.out _ _ ⟨(blk_cell BK528.out 0).trans rfl,(blk_cell BK528.out 1).trans rfl,(blk_cell BK528.out 2).trans rfl,(blk_cell BK529.out 0).trans rfl,(blk_cell BK529.out 1).trans rfl,(blk_cell BK530.out 0).trans rfl,(blk_cell BK530.out 1).trans rfl⟩ (fun hHeld=>?_)
  clear hK K;refine norm_ (a':=?_) ?_ ?_
  rotate_left
  ·show Act.put _ (some 27) _ = _
   simp only [Act.put,zT,zU,zV,i64_w,i32_w]
   rfl
  refine one_ (i:=5) (N:=some 29) #[true,true,true,true,true,true,false,false,false,false,false,false] rfl rfl (one_of HT_.out (by kernel_rfl)) (by decide) (fun K hK=>?_)
  refine goes_ Try.func28 (by kernel_rfl) rfl #[.agg #[.int .i64 a2_0,.int .i64 a2_1]] (by rfl) rfl rfl (by (try simp only [List.map_toArray,List.map_cons,List.map_nil]);first|done|rfl|(simp only [List.length_drop,List.length_take];rfl)) ?_
  with_reducible refine (laws_toCell.calls a2_0 a2_1 t539 t540 _ A15.out).mono ?_
  rintro e w32 ⟨rfl,hb⟩
  refine ⟨_,rfl,?_⟩
  have n0_:=zM (zP (by (with_reducible repeat (first|apply zA|apply zB|apply zC));exact HO536.out) hb)
  have n1_:=zM (blk_below (g:=gb528) (o := .cells #[.int .i64 a0_0,.int .i64 a0_1,.slice A0_2 l0_2.length c0_2] 24 (0,0)) (by (with_reducible repeat (first|refine zJ ?_ _|refine zK ?_|refine zL ?_ _));exact BK528.out) hb)
  have n2_:=zM (blk_below (g:=gb529) (o := .cells #[.int .i64 a1_0,.int .i64 a1_1] 44 (0,0)) (by (with_reducible repeat (first|refine zJ ?_ _|refine zK ?_|refine zL ?_ _));exact BK529.out) hb)
  have n3_:=zM (blk_below (g:=gb530) (o := .cells #[.int .i64 a2_0,.int .i64 a2_1] 44 (0,0)) (by (with_reducible repeat (first|refine zJ ?_ _|refine zK ?_|refine zL ?_ _));exact BK530.out) hb)
  have n4_:=zM (zQ (by repeat (first|(with_reducible first|exact HB.out|apply zD|apply zE|apply zF|refine below_set ?_ GE528.out|refine below_set ?_ GE529.out|refine below_set ?_ GE530.out)|exact HB.out)) hb)
  clear HO536;clear BK528;clear BK529;clear BK530;clear HB;have HO536:=n0_;have BK528:=n1_;have BK529:=n2_;have BK530:=n3_;have HB:=n4_;clear n0_ n1_ n2_ n3_ n4_;(try clear hb)
  (try clear hb2)
  (try clear hk)
  (try clear hi)
  obtain ⟨Ao33,co33,eo33⟩:=Kd.R_slice HO536.out;(first|subst eo33|(injection eo33 with f1_ f2_ f3_;have f4_:=f1_.symm;have f5_:=f3_.symm;clear f1_ f2_ f3_;subst f4_;subst f5_))
  refine hK.out _ _ ⟨(blk_cell BK528.out 0).trans rfl,(blk_cell BK528.out 1).trans rfl,(blk_cell BK528.out 2).trans rfl,(blk_cell BK529.out 0).trans rfl,(blk_cell BK529.out 1).trans rfl,(blk_cell BK530.out 0).trans rfl,(blk_cell BK530.out 1).trans rfl⟩ (fun hHeld=>?_)
  clear hK K;refine norm_ (a':=?_) ?_ ?_
  rotate_left
  ·show Act.put _ (some 29) _ = _
   simp only [Act.put,zT,zU,zV,i64_w,i32_w]
   rfl
  refine one_ (i:=6) (N:=some 30) #[true,true,true,true,true,true,true,false,false,false,false,false] rfl rfl (one_of HT_.out (by kernel_rfl)) (by decide) (fun K hK=>?_)
  refine goes_ Try.func34 (by kernel_rfl) rfl #[.agg #[.int .i64 t532,.int .i64 t533,.slice Ao33 t534.length co33],.agg #[.int .i64 t537,.int .i64 t538],.agg #[.int .i64 t539,.int .i64 t540]] (by rfl) rfl rfl (by (try simp only [List.map_toArray,List.map_cons,List.map_nil]);first|done|rfl|(simp only [List.length_drop,List.length_take];rfl)) ?_
  with_reducible refine (spec_ShortestPath.calls k t532 t533 _ _ t534 t537 t538 t539 t540 t541 t544 _ ?side1 ?side2 A16.out).mono ?_
  (case side1=>repeat (first|exact (zN HO536.out).2.2|(with_reducible first|refine zG ?_ _|refine zH ?_ _|refine zI ?_)))
  (case side2=>exact (zN HO536.out).2.1)
  rintro e w34 ⟨v542,rfl,ho0,hb⟩
  refine ⟨_,rfl,?_⟩
  have n0_:=zM (Kd.R_elder' (by (with_reducible repeat (first|apply zA|apply zB|apply zC));exact HO536.out) (Kd.R_base ho0) hb)
  have n1_:=zM (Kd.R_lower (Kd.R_new' ho0 (Kd.R_lt (by (with_reducible repeat (first|apply zA|apply zB|apply zC));exact HO536.out))) (zR (by repeat (first|(with_reducible first|exact HB.out|apply zD|apply zE|apply zF|refine below_set ?_ GE528.out|refine below_set ?_ GE529.out|refine below_set ?_ GE530.out)|exact HB.out))))
  have n2_:=zM (blk_below (g:=gb528) (o := .cells #[.int .i64 a0_0,.int .i64 a0_1,.slice A0_2 l0_2.length c0_2] 24 (0,0)) (by (with_reducible repeat (first|refine zJ ?_ _|refine zK ?_|refine zL ?_ _));exact BK528.out) hb)
  have n3_:=zM (blk_below (g:=gb529) (o := .cells #[.int .i64 a1_0,.int .i64 a1_1] 44 (0,0)) (by (with_reducible repeat (first|refine zJ ?_ _|refine zK ?_|refine zL ?_ _));exact BK529.out) hb)
  have n4_:=zM (blk_below (g:=gb530) (o := .cells #[.int .i64 a2_0,.int .i64 a2_1] 44 (0,0)) (by (with_reducible repeat (first|refine zJ ?_ _|refine zK ?_|refine zL ?_ _));exact BK530.out) hb)
  have n5_:=zM (zQ (by repeat (first|(with_reducible first|exact HB.out|apply zD|apply zE|apply zF|refine below_set ?_ GE528.out|refine below_set ?_ GE529.out|refine below_set ?_ GE530.out)|exact HB.out)) hb)
  clear HO536;clear BK528;clear BK529;clear BK530;clear HB;have HO536:=n0_;have HO543:=n1_;have BK528:=n2_;have BK529:=n3_;have BK530:=n4_;have HB:=n5_;clear n0_ n1_ n2_ n3_ n4_ n5_;(try clear hb)
  (try clear hb2)
  (try clear hk)
  (try clear hi)
  (try clear ho0)
  refine hK.out _ _ ⟨(blk_cell BK528.out 0).trans rfl,(blk_cell BK528.out 1).trans rfl,(blk_cell BK528.out 2).trans rfl,(blk_cell BK529.out 0).trans rfl,(blk_cell BK529.out 1).trans rfl,(blk_cell BK530.out 0).trans rfl,(blk_cell BK530.out 1).trans rfl⟩ (fun hHeld=>?_)
  clear hK K;refine norm_ (a':=?_) ?_ ?_
  rotate_left
  ·show Act.put _ (some 30) _ = _
   simp only [Act.put,zT,zU,zV,i64_w,i32_w]
   rfl
  refine pure_ (i:=7) (N:=some 23) (v:=?_) (a':=?_) #[true,true,true,true,true,true,true,true,false,false,false,false] rfl rfl (any_of HT_.out (by kernel_rfl)) (fun _ _ _ h=>h) (Or.inl ⟨by rfl,?_⟩) ?_ ?_
  rotate_left
  ·intro w'
   go_simp
   with_reducible rfl
  rotate_left
  ·simp only [Act.put,zT,zU,zV,i64_w,i32_w]
   rfl
  refine pure_ (i:=8) (N:=some 31) (v:=?_) (a':=?_) #[true,true,true,true,true,true,true,true,true,false,false,false] rfl rfl (any_of HT_.out (by kernel_rfl)) (fun _ _ _ h=>h) (Or.inl ⟨by rfl,?_⟩) ?_ ?_
  rotate_left
  ·intro w'
   go_simp
   with_reducible rfl
  rotate_left
  ·simp only [Act.put,zT,zU,zV,i64_w,i32_w]
   rfl
  refine pure_ (i:=9) (N:=some 32) (v:=?_) (a':=?_) #[true,true,true,true,true,true,true,true,true,true,false,false] rfl rfl (any_of HT_.out (by kernel_rfl)) (fun _ _ _ h=>h) (Or.inl ⟨by rfl,?_⟩) ?_ ?_
  rotate_left
  ·intro w'
   go_simp
   with_reducible rfl
  rotate_left
  ·simp only [Act.put,zT,zU,zV,i64_w,i32_w]
   rfl
  refine pure_ (i:=10) (N:=some 8) (v:=?_) (a':=?_) #[true,true,true,true,true,true,true,true,true,true,true,false] rfl rfl (any_of HT_.out (by kernel_rfl)) (fun _ _ _ h=>h) (Or.inl ⟨by rfl,?_⟩) ?_ ?_
  rotate_left
  ·intro w'
   go_simp
   with_reducible rfl
  rotate_left
  ·simp only [Act.put,zT,zU,zV,i64_w,i32_w]
   rfl
  refine pure_ (i:=11) (N:=some 9) (v:=?_) (a':=?_) #[true,true,true,true,true,true,true,true,true,true,true,true] rfl rfl (any_of HT_.out (by kernel_rfl)) (fun _ _ _ h=>h) (Or.inl ⟨by rfl,?_⟩) ?_ ?_
  rotate_left
  ·intro w'
   go_simp
   with_reducible rfl
  rotate_left
  ·simp only [Act.put,zT,zU,zV,i64_w,i32_w]
   rfl
  refine done_ (done_of HT_.out (by kernel_rfl)) ?_
  have hcz35_0:w34.cell? ⟨gb528,0,none⟩ = some (.int .i64 a0_0):=(blk_cell BK528.out 0).trans rfl
  have hcz35_1:w34.cell? ⟨gb528,1,none⟩ = some (.int .i64 a0_1):=(blk_cell BK528.out 1).trans rfl
  have hcz35_2:w34.cell? ⟨gb528,2,none⟩ = some (.slice A0_2 l0_2.length c0_2):=(blk_cell BK528.out 2).trans rfl
  have hfz35_0:=blk_frozen BK528.out 0;have hfz35_1:=blk_frozen BK528.out 1;have hfz35_2:=blk_frozen BK528.out 2;try go_wp2_with (first|((with_reducible refine gate_callee (f:=15) rfl ?_);refine goesL_ (some 34) rfl rfl Try.func15 (by kernel_rfl) rfl #[.agg #[.int .i64 a0_0,.int .i64 a0_1,.slice A0_2 l0_2.length c0_2]] rfl (by (try simp only [List.map_toArray,List.map_cons,List.map_nil]);first|done|rfl|(simp only [List.length_drop,List.length_take];rfl)) ?_;(with_reducible refine (laws_toFloor.calls k a0_0 a0_1 _ _ l0_2 t545 t546 t547 _ ?side1 ?side2 A17.out).mono ?_);(case side1=>repeat (first|exact (zO HR0_2.out HB.out)|(with_reducible first|refine zG ?_ _|refine zH ?_ _|refine zI ?_)));(case side2=>exact HC0_2.out);rintro e w36 ⟨v548,rfl,ho0,hb⟩;refine ⟨_,rfl,?_⟩;have n0_:=zM (Kd.R_elder' (by (with_reducible repeat (first|apply zA|apply zB|apply zC));exact HO536.out) (Kd.R_base ho0) hb);have n1_:=zM (Kd.R_elder' (by (with_reducible repeat (first|apply zA|apply zB|apply zC));exact HO543.out) (Kd.R_base ho0) hb);have n2_:=zM (Kd.R_lower (Kd.R_new' (Kd.R_new' ho0 (Kd.R_lt (by (with_reducible repeat (first|apply zA|apply zB|apply zC));exact HO536.out))) (Kd.R_lt (by (with_reducible repeat (first|apply zA|apply zB|apply zC));exact HO543.out))) (zR (by repeat (first|(with_reducible first|exact HB.out|apply zD|apply zE|apply zF|refine below_set ?_ GE528.out|refine below_set ?_ GE529.out|refine below_set ?_ GE530.out)|exact HB.out))));have n3_:=zM (blk_below (g:=gb528) (o := .cells #[.int .i64 a0_0,.int .i64 a0_1,.slice A0_2 l0_2.length c0_2] 24 (0,0)) (by (with_reducible repeat (first|refine zJ ?_ _|refine zK ?_|refine zL ?_ _));exact BK528.out) hb);have n4_:=zM (blk_below (g:=gb529) (o := .cells #[.int .i64 a1_0,.int .i64 a1_1] 44 (0,0)) (by (with_reducible repeat (first|refine zJ ?_ _|refine zK ?_|refine zL ?_ _));exact BK529.out) hb);have n5_:=zM (blk_below (g:=gb530) (o := .cells #[.int .i64 a2_0,.int .i64 a2_1] 44 (0,0)) (by (with_reducible repeat (first|refine zJ ?_ _|refine zK ?_|refine zL ?_ _));exact BK530.out) hb);have n6_:=zM (zQ (by repeat (first|(with_reducible first|exact HB.out|apply zD|apply zE|apply zF|refine below_set ?_ GE528.out|refine below_set ?_ GE529.out|refine below_set ?_ GE530.out)|exact HB.out)) hb);clear HO536;clear HO543;clear BK528;clear BK529;clear BK530;clear HB;have HO536:=n0_;have HO543:=n1_;have HO549:=n2_;have BK528:=n3_;have BK529:=n4_;have BK530:=n5_;have HB:=n6_;clear n0_ n1_ n2_ n3_ n4_ n5_ n6_;(try clear hb);(try clear hb2);(try clear hk);(try clear hi);(try clear ho0))|((with_reducible refine gate_dst (N:=10) rfl ?_);refine box_event ?hg (N:=10) ?hd (cs := #[.int .i64 0,.int .i64 0,.slice none 0 0]) (t:=29) ?hr ?_;(case hd=>rfl);(case hg=>rfl);(case hr=>first|(go_simp;done)|(go_simp;rfl));intro gb550 hg w37 hbox hb;have n0_:=zM (zP (by (with_reducible repeat (first|apply zA|apply zB|apply zC));exact HO536.out) hb);have n1_:=zM (zP (by (with_reducible repeat (first|apply zA|apply zB|apply zC));exact HO543.out) hb);have n2_:=zM (zP (by (with_reducible repeat (first|apply zA|apply zB|apply zC));exact HO549.out) hb);have n3_:=zM (blk_below (g:=gb528) (o := .cells #[.int .i64 a0_0,.int .i64 a0_1,.slice A0_2 l0_2.length c0_2] 24 (0,0)) (by (with_reducible repeat (first|refine zJ ?_ _|refine zK ?_|refine zL ?_ _));exact BK528.out) hb);have n4_:=zM (blk_below (g:=gb529) (o := .cells #[.int .i64 a1_0,.int .i64 a1_1] 44 (0,0)) (by (with_reducible repeat (first|refine zJ ?_ _|refine zK ?_|refine zL ?_ _));exact BK529.out) hb);have n5_:=zM (blk_below (g:=gb530) (o := .cells #[.int .i64 a2_0,.int .i64 a2_1] 44 (0,0)) (by (with_reducible repeat (first|refine zJ ?_ _|refine zK ?_|refine zL ?_ _));exact BK530.out) hb);have n6_:=zM (zQ (by repeat (first|(with_reducible first|exact HB.out|apply zD|apply zE|apply zF|refine below_set ?_ GE528.out|refine below_set ?_ GE529.out|refine below_set ?_ GE530.out)|exact HB.out)) hb);have n7_:=zM (hbox);have n8_:=zM ((by rw [hg];exact (zR (by repeat (first|(with_reducible first|exact HB.out|apply zD|apply zE|apply zF|refine below_set ?_ GE528.out|refine below_set ?_ GE529.out|refine below_set ?_ GE530.out)|exact HB.out))):w.heap.size ≤ gb550));have n9_:=zM ((by rw [hg];exact (zR (by repeat (first|(with_reducible first|exact HB.out|apply zD|apply zE|apply zF|refine below_set ?_ GE528.out|refine below_set ?_ GE529.out|refine below_set ?_ GE530.out)|exact HB.out))):w.heap.size ≤ gb550));have n10_:=zM ((by rw [hg];exact Nat.ne_of_lt (blk_lt (g:=gb528) (o := .cells #[.int .i64 a0_0,.int .i64 a0_1,.slice A0_2 l0_2.length c0_2] 24 (0,0)) (by (with_reducible repeat (first|refine zJ ?_ _|refine zK ?_|refine zL ?_ _));exact BK528.out)):gb528 ≠ gb550));have n11_:=zM ((by rw [hg];exact Nat.ne_of_gt (blk_lt (g:=gb528) (o := .cells #[.int .i64 a0_0,.int .i64 a0_1,.slice A0_2 l0_2.length c0_2] 24 (0,0)) (by (with_reducible repeat (first|refine zJ ?_ _|refine zK ?_|refine zL ?_ _));exact BK528.out)):gb550 ≠ gb528));have n12_:=zM ((by rw [hg];exact Nat.ne_of_lt (blk_lt (g:=gb529) (o := .cells #[.int .i64 a1_0,.int .i64 a1_1] 44 (0,0)) (by (with_reducible repeat (first|refine zJ ?_ _|refine zK ?_|refine zL ?_ _));exact BK529.out)):gb529 ≠ gb550));have n13_:=zM ((by rw [hg];exact Nat.ne_of_gt (blk_lt (g:=gb529) (o := .cells #[.int .i64 a1_0,.int .i64 a1_1] 44 (0,0)) (by (with_reducible repeat (first|refine zJ ?_ _|refine zK ?_|refine zL ?_ _));exact BK529.out)):gb550 ≠ gb529));have n14_:=zM ((by rw [hg];exact Nat.ne_of_lt (blk_lt (g:=gb530) (o := .cells #[.int .i64 a2_0,.int .i64 a2_1] 44 (0,0)) (by (with_reducible repeat (first|refine zJ ?_ _|refine zK ?_|refine zL ?_ _));exact BK530.out)):gb530 ≠ gb550));have n15_:=zM ((by rw [hg];exact Nat.ne_of_gt (blk_lt (g:=gb530) (o := .cells #[.int .i64 a2_0,.int .i64 a2_1] 44 (0,0)) (by (with_reducible repeat (first|refine zJ ?_ _|refine zK ?_|refine zL ?_ _));exact BK530.out)):gb550 ≠ gb530));clear HO536;clear HO543;clear HO549;clear BK528;clear BK529;clear BK530;clear HB;have HO536:=n0_;have HO543:=n1_;have HO549:=n2_;have BK528:=n3_;have BK529:=n4_;have BK530:=n5_;have HB:=n6_;have BK550:=n7_;have GW550:=n8_;have GE550:=n9_;have NB528_550:=n10_;have NB550_528:=n11_;have NB529_550:=n12_;have NB550_529:=n13_;have NB530_550:=n14_;have NB550_530:=n15_;clear n0_ n1_ n2_ n3_ n4_ n5_ n6_ n7_ n8_ n9_ n10_ n11_ n12_ n13_ n14_ n15_;clear hb hbox hg;have hnb38:=NB550_528.out;have hnc38:=NB528_550.out;have hnb39:=NB550_529.out;have hnc39:=NB529_550.out;have hnb40:=NB550_530.out;have hnc40:=NB530_550.out;have hcz41_0:w37.cell? ⟨gb550,0,none⟩ = some (.int .i64 0):=(blk_cell BK550.out 0).trans rfl;have hcz41_1:w37.cell? ⟨gb550,1,none⟩ = some (.int .i64 0):=(blk_cell BK550.out 1).trans rfl;have hcz41_2:w37.cell? ⟨gb550,2,none⟩ = some (.slice none 0 0):=(blk_cell BK550.out 2).trans rfl;have hfz41_0:=blk_frozen BK550.out 0;have hfz41_1:=blk_frozen BK550.out 1;have hfz41_2:=blk_frozen BK550.out 2;obtain ⟨Ao42,co42,eo42⟩:=Kd.R_slice HO549.out;subst eo42))
  have n0_:Aside0 (Kd.R k48 48 (((w37.setCell ⟨gb550,0,none⟩ (.int .i64 t545)).setCell ⟨gb550,1,none⟩ (.int .i64 t546)).setCell ⟨gb550,2,none⟩ (.slice Ao42 t547.length co42)) w.heap.size (fun k_=>some k_ ≠ (v542:Value).ownBlock ∧ some k_ ≠ (.slice Ao42 t547.length co42:Value).ownBlock) (.slice Ao33 t534.length co33) t534):=⟨by (with_reducible repeat (first|apply zA|apply zB|apply zC));exact Kd.R_mono (Kd.R_far (p:=⟨gb550,2,none⟩) (Kd.R_far (p:=⟨gb550,1,none⟩) (Kd.R_far (p:=⟨gb550,0,none⟩) (Kd.R_types HO536.out BK550.out (by decide)) (fun _ hk=>hk.2) (.int .i64 t545)) (fun _ hk=>hk.2) (.int .i64 t546)) (fun _ hk=>hk.2) (.slice Ao42 t547.length co42)) (fun _ hk=>⟨hk.1.1.2,hk.1.2⟩)⟩
  have n1_:Aside0 (Kd.R k48 48 (((w37.setCell ⟨gb550,0,none⟩ (.int .i64 t545)).setCell ⟨gb550,1,none⟩ (.int .i64 t546)).setCell ⟨gb550,2,none⟩ (.slice Ao42 t547.length co42)) w.heap.size (fun k_=>some k_ ≠ (.slice Ao33 t534.length co33:Value).ownBlock ∧ some k_ ≠ (.slice Ao42 t547.length co42:Value).ownBlock) v542 t541):=⟨by (with_reducible repeat (first|apply zA|apply zB|apply zC));exact Kd.R_mono (Kd.R_far (p:=⟨gb550,2,none⟩) (Kd.R_far (p:=⟨gb550,1,none⟩) (Kd.R_far (p:=⟨gb550,0,none⟩) (Kd.R_types HO543.out BK550.out (by decide)) (fun _ hk=>hk.2) (.int .i64 t545)) (fun _ hk=>hk.2) (.int .i64 t546)) (fun _ hk=>hk.2) (.slice Ao42 t547.length co42)) (fun _ hk=>⟨hk.1.1.2,hk.1.2⟩)⟩
  have n2_:Aside0 (Kd.R k48 48 (((w37.setCell ⟨gb550,0,none⟩ (.int .i64 t545)).setCell ⟨gb550,1,none⟩ (.int .i64 t546)).setCell ⟨gb550,2,none⟩ (.slice Ao42 t547.length co42)) w.heap.size (fun k_=>some k_ ≠ (.slice Ao33 t534.length co33:Value).ownBlock ∧ some k_ ≠ (v542:Value).ownBlock) (.slice Ao42 t547.length co42) t547):=⟨by (with_reducible repeat (first|apply zA|apply zB|apply zC));exact Kd.R_mono (Kd.R_far (p:=⟨gb550,2,none⟩) (Kd.R_far (p:=⟨gb550,1,none⟩) (Kd.R_far (p:=⟨gb550,0,none⟩) (Kd.R_types HO549.out BK550.out (by decide)) (fun _ hk=>hk.2) (.int .i64 t545)) (fun _ hk=>hk.2) (.int .i64 t546)) (fun _ hk=>hk.2) (.slice Ao42 t547.length co42)) (fun _ hk=>⟨hk.1.1.2,hk.1.2⟩)⟩
  have n3_:Aside0 ((((w37.setCell ⟨gb550,0,none⟩ (.int .i64 t545)).setCell ⟨gb550,1,none⟩ (.int .i64 t546)).setCell ⟨gb550,2,none⟩ (.slice Ao42 t547.length co42)).heap[gb528]? = some (.cells #[.int .i64 a0_0,.int .i64 a0_1,.slice A0_2 l0_2.length c0_2] 24 (0,0))):=⟨by (with_reducible repeat (first|refine zJ ?_ _|refine zK ?_|refine zL ?_ _));refine blk_far ?_ NB528_550.out _;(with_reducible repeat (first|refine zJ ?_ _|refine zK ?_|refine zL ?_ _));refine blk_far ?_ NB528_550.out _;(with_reducible repeat (first|refine zJ ?_ _|refine zK ?_|refine zL ?_ _));refine blk_far ?_ NB528_550.out _;(with_reducible repeat (first|refine zJ ?_ _|refine zK ?_|refine zL ?_ _));exact BK528.out⟩
  have n4_:Aside0 ((((w37.setCell ⟨gb550,0,none⟩ (.int .i64 t545)).setCell ⟨gb550,1,none⟩ (.int .i64 t546)).setCell ⟨gb550,2,none⟩ (.slice Ao42 t547.length co42)).heap[gb529]? = some (.cells #[.int .i64 a1_0,.int .i64 a1_1] 44 (0,0))):=⟨by (with_reducible repeat (first|refine zJ ?_ _|refine zK ?_|refine zL ?_ _));refine blk_far ?_ NB529_550.out _;(with_reducible repeat (first|refine zJ ?_ _|refine zK ?_|refine zL ?_ _));refine blk_far ?_ NB529_550.out _;(with_reducible repeat (first|refine zJ ?_ _|refine zK ?_|refine zL ?_ _));refine blk_far ?_ NB529_550.out _;(with_reducible repeat (first|refine zJ ?_ _|refine zK ?_|refine zL ?_ _));exact BK529.out⟩
  have n5_:Aside0 ((((w37.setCell ⟨gb550,0,none⟩ (.int .i64 t545)).setCell ⟨gb550,1,none⟩ (.int .i64 t546)).setCell ⟨gb550,2,none⟩ (.slice Ao42 t547.length co42)).heap[gb530]? = some (.cells #[.int .i64 a2_0,.int .i64 a2_1] 44 (0,0))):=⟨by (with_reducible repeat (first|refine zJ ?_ _|refine zK ?_|refine zL ?_ _));refine blk_far ?_ NB530_550.out _;(with_reducible repeat (first|refine zJ ?_ _|refine zK ?_|refine zL ?_ _));refine blk_far ?_ NB530_550.out _;(with_reducible repeat (first|refine zJ ?_ _|refine zK ?_|refine zL ?_ _));refine blk_far ?_ NB530_550.out _;(with_reducible repeat (first|refine zJ ?_ _|refine zK ?_|refine zL ?_ _));exact BK530.out⟩
  have n6_:Aside0 ((((w37.setCell ⟨gb550,0,none⟩ (.int .i64 t545)).setCell ⟨gb550,1,none⟩ (.int .i64 t546)).setCell ⟨gb550,2,none⟩ (.slice Ao42 t547.length co42)).heap[gb550]? = some (.cells #[.int .i64 t545,.int .i64 t546,.slice Ao42 t547.length co42] 29 (0,0))):=⟨by (with_reducible repeat (first|refine zJ ?_ _|refine zK ?_|refine zL ?_ _));refine blk_put (cs := #[.int .i64 t545,.int .i64 t546,.slice none 0 0]) ?_ 2 _ rfl;(with_reducible repeat (first|refine zJ ?_ _|refine zK ?_|refine zL ?_ _));refine blk_put (cs := #[.int .i64 t545,.int .i64 0,.slice none 0 0]) ?_ 1 _ rfl;(with_reducible repeat (first|refine zJ ?_ _|refine zK ?_|refine zL ?_ _));refine blk_put (cs := #[.int .i64 0,.int .i64 0,.slice none 0 0]) ?_ 0 _ rfl;(with_reducible repeat (first|refine zJ ?_ _|refine zK ?_|refine zL ?_ _));exact BK550.out⟩
  have n7_:Aside0 (Below w.heap.size w (((w37.setCell ⟨gb550,0,none⟩ (.int .i64 t545)).setCell ⟨gb550,1,none⟩ (.int .i64 t546)).setCell ⟨gb550,2,none⟩ (.slice Ao42 t547.length co42))):=⟨by repeat (first|(with_reducible first|exact HB.out|apply zD|apply zE|apply zF|refine below_set ?_ GE528.out|refine below_set ?_ GE529.out|refine below_set ?_ GE530.out|refine below_set ?_ GE550.out)|exact HB.out)⟩
  (try clear HO536)
  (try clear HO543)
  (try clear HO549)
  (try clear BK528)
  (try clear BK529)
  (try clear BK530)
  (try clear BK550)
  (try clear HB)
  generalize (((w37.setCell ⟨gb550,0,none⟩ (.int .i64 t545)).setCell ⟨gb550,1,none⟩ (.int .i64 t546)).setCell ⟨gb550,2,none⟩ (.slice Ao42 t547.length co42)) = w43 at n0_ n1_ n2_ n3_ n4_ n5_ n6_ n7_ ⊢
  have HO536:=n0_;have HO543:=n1_;have HO549:=n2_;have BK528:=n3_;have BK529:=n4_;have BK530:=n5_;have BK550:=n6_;have HB:=n7_;clear n0_ n1_ n2_ n3_ n4_ n5_ n6_ n7_;have n0_:=zM (zC HO536.out);have n1_:=zM (zC HO543.out);have n2_:=zM (zC HO549.out);have n3_:=zM (zK BK528.out);have n4_:=zM (zK BK529.out);have n5_:=zM (zK BK530.out);have n6_:=zM (zK BK550.out);have n7_:=zM (zF HB.out);clear HO536;clear HO543;clear HO549;clear BK528;clear BK529;clear BK530;clear BK550;clear HB;have HO536:=n0_;have HO543:=n1_;have HO549:=n2_;have BK528:=n3_;have BK529:=n4_;have BK530:=n5_;have BK550:=n6_;have HB:=n7_;clear n0_ n1_ n2_ n3_ n4_ n5_ n6_ n7_;refine start_ (n:=11) (S:=fun w'=>w'.cell? ⟨gb550,0,none⟩ = some (.int .i64 t545) ∧ w'.cell? ⟨gb550,1,none⟩ = some (.int .i64 t546) ∧ w'.cell? ⟨gb550,2,none⟩ = some (.slice Ao42 t547.length co42) ∧ w'.cell? ⟨gb529,0,none⟩ = some (.int .i64 a1_0) ∧ w'.cell? ⟨gb529,1,none⟩ = some (.int .i64 a1_1) ∧ w'.cell? ⟨gb530,0,none⟩ = some (.int .i64 a2_0) ∧ w'.cell? ⟨gb530,1,none⟩ = some (.int .i64 a2_1)) (ds:=[]) #[false,false,false,false,false,false,false,false,false,false,false] (by kernel_rfl) rfl rfl ⟨(blk_cell BK550.out 0).trans rfl,(blk_cell BK550.out 1).trans rfl,(blk_cell BK550.out 2).trans rfl,(blk_cell BK529.out 0).trans rfl,(blk_cell BK529.out 1).trans rfl,(blk_cell BK530.out 0).trans rfl,(blk_cell BK530.out 1).trans rfl⟩ (fun hHeld=>?_);refine with_tabW laws_FnExactShortestPath.tab7 laws_FnExactShortestPath.bits7 (fun HT_ HW_=>?_)
  generalize w43.drew = w44 at HO536 HO543 HO549 BK528 BK529 BK530 BK550 HB hHeld ⊢
  refine take_ (i:=0) (N:=some 36) (v:=?_) (a':=?_) #[true,false,false,false,false,false,false,false,false,false,false] rfl rfl (take_ofW HT_.out HW_.out (by kernel_rfl)) (fun _ _ _ h=>h) (Or.inl ⟨by rfl,?_⟩) hHeld ?_ ?_
  rotate_left
  ·rintro w' ⟨s0,s1,s2,s3,s4,s5,s6⟩
   go_simp
   with_reducible rfl
  rotate_left
  ·simp only [Act.put,zT,zU,zV,i64_w,i32_w]
   rfl
  refine take_ (i:=1) (N:=some 37) (v:=?_) (a':=?_) #[true,true,false,false,false,false,false,false,false,false,false] rfl rfl (take_ofW HT_.out HW_.out (by kernel_rfl)) (fun _ _ _ h=>h) (Or.inl ⟨by rfl,?_⟩) hHeld ?_ ?_
  rotate_left
  ·rintro w' ⟨s0,s1,s2,s3,s4,s5,s6⟩
   go_simp
   with_reducible rfl
  rotate_left
  ·simp only [Act.put,zT,zU,zV,i64_w,i32_w]
   rfl
  refine take_ (i:=3) (N:=some 39) (v:=?_) (a':=?_) #[true,true,false,true,false,false,false,false,false,false,false] rfl rfl (take_ofW HT_.out HW_.out (by kernel_rfl)) (fun _ _ _ h=>h) (Or.inl ⟨by rfl,?_⟩) hHeld ?_ ?_
  rotate_left
  ·rintro w' ⟨s0,s1,s2,s3,s4,s5,s6⟩
   go_simp
   with_reducible rfl
  rotate_left
  ·simp only [Act.put,zT,zU,zV,i64_w,i32_w]
   rfl
  refine one_ (i:=2) (N:=some 38) #[true,true,true,true,false,false,false,false,false,false,false] rfl rfl (one_of HT_.out (by kernel_rfl)) (by decide) (fun K hK=>?_)
  refine goes_ Try.func28 (by kernel_rfl) rfl #[.agg #[.int .i64 a1_0,.int .i64 a1_1]] (by rfl) rfl rfl (by (try simp only [List.map_toArray,List.map_cons,List.map_nil]);first|done|rfl|(simp only [List.length_drop,List.length_take];rfl)) ?_
  with_reducible refine (laws_toCell.calls a1_0 a1_1 t551 t552 _ A18.out).mono ?_
  rintro e w45 ⟨rfl,hb⟩
  refine ⟨_,rfl,?_⟩
  have n0_:=zM (zP (by (with_reducible repeat (first|apply zA|apply zB|apply zC));exact HO536.out) hb)
  have n1_:=zM (zP (by (with_reducible repeat (first|apply zA|apply zB|apply zC));exact HO543.out) hb)
  have n2_:=zM (zP (by (with_reducible repeat (first|apply zA|apply zB|apply zC));exact HO549.out) hb)
  have n3_:=zM (blk_below (g:=gb528) (o := .cells #[.int .i64 a0_0,.int .i64 a0_1,.slice A0_2 l0_2.length c0_2] 24 (0,0)) (by (with_reducible repeat (first|refine zJ ?_ _|refine zK ?_|refine zL ?_ _));exact BK528.out) hb)
  have n4_:=zM (blk_below (g:=gb529) (o := .cells #[.int .i64 a1_0,.int .i64 a1_1] 44 (0,0)) (by (with_reducible repeat (first|refine zJ ?_ _|refine zK ?_|refine zL ?_ _));exact BK529.out) hb)
  have n5_:=zM (blk_below (g:=gb530) (o := .cells #[.int .i64 a2_0,.int .i64 a2_1] 44 (0,0)) (by (with_reducible repeat (first|refine zJ ?_ _|refine zK ?_|refine zL ?_ _));exact BK530.out) hb)
  have n6_:=zM (blk_below (g:=gb550) (o := .cells #[.int .i64 t545,.int .i64 t546,.slice Ao42 t547.length co42] 29 (0,0)) (by (with_reducible repeat (first|refine zJ ?_ _|refine zK ?_|refine zL ?_ _));exact BK550.out) hb)
  have n7_:=zM (zQ (by repeat (first|(with_reducible first|exact HB.out|apply zD|apply zE|apply zF|refine below_set ?_ GE528.out|refine below_set ?_ GE529.out|refine below_set ?_ GE530.out|refine below_set ?_ GE550.out)|exact HB.out)) hb)
  clear HO536;clear HO543;clear HO549;clear BK528;clear BK529;clear BK530;clear BK550;clear HB;have HO536:=n0_;have HO543:=n1_;have HO549:=n2_;have BK528:=n3_;have BK529:=n4_;have BK530:=n5_;have BK550:=n6_;have HB:=n7_;clear n0_ n1_ n2_ n3_ n4_ n5_ n6_ n7_;(try clear hb)
  (try clear hb2)
  (try clear hk)
  (try clear hi)
  refine hK.out _ _ ⟨(blk_cell BK550.out 0).trans rfl,(blk_cell BK550.out 1).trans rfl,(blk_cell BK550.out 2).trans rfl,(blk_cell BK529.out 0).trans rfl,(blk_cell BK529.out 1).trans rfl,(blk_cell BK530.out 0).trans rfl,(blk_cell BK530.out 1).trans rfl⟩ (fun hHeld=>?_)
  clear hK K;refine norm_ (a':=?_) ?_ ?_
  rotate_left
  ·show Act.put _ (some 38) _ = _
   simp only [Act.put,zT,zU,zV,i64_w,i32_w]
   rfl
  refine one_ (i:=4) (N:=some 40) #[true,true,true,true,true,false,false,false,false,false,false] rfl rfl (one_of HT_.out (by kernel_rfl)) (by decide) (fun K hK=>?_)
  refine goes_ Try.func28 (by kernel_rfl) rfl #[.agg #[.int .i64 a2_0,.int .i64 a2_1]] (by rfl) rfl rfl (by (try simp only [List.map_toArray,List.map_cons,List.map_nil]);first|done|rfl|(simp only [List.length_drop,List.length_take];rfl)) ?_
  with_reducible refine (laws_toCell.calls a2_0 a2_1 t553 t554 _ A19.out).mono ?_
  rintro e w46 ⟨rfl,hb⟩
  refine ⟨_,rfl,?_⟩
  have n0_:=zM (zP (by (with_reducible repeat (first|apply zA|apply zB|apply zC));exact HO536.out) hb)
  have n1_:=zM (zP (by (with_reducible repeat (first|apply zA|apply zB|apply zC));exact HO543.out) hb)
  have n2_:=zM (zP (by (with_reducible repeat (first|apply zA|apply zB|apply zC));exact HO549.out) hb)
  have n3_:=zM (blk_below (g:=gb528) (o := .cells #[.int .i64 a0_0,.int .i64 a0_1,.slice A0_2 l0_2.length c0_2] 24 (0,0)) (by (with_reducible repeat (first|refine zJ ?_ _|refine zK ?_|refine zL ?_ _));exact BK528.out) hb)
  have n4_:=zM (blk_below (g:=gb529) (o := .cells #[.int .i64 a1_0,.int .i64 a1_1] 44 (0,0)) (by (with_reducible repeat (first|refine zJ ?_ _|refine zK ?_|refine zL ?_ _));exact BK529.out) hb)
  have n5_:=zM (blk_below (g:=gb530) (o := .cells #[.int .i64 a2_0,.int .i64 a2_1] 44 (0,0)) (by (with_reducible repeat (first|refine zJ ?_ _|refine zK ?_|refine zL ?_ _));exact BK530.out) hb)
  have n6_:=zM (blk_below (g:=gb550) (o := .cells #[.int .i64 t545,.int .i64 t546,.slice Ao42 t547.length co42] 29 (0,0)) (by (with_reducible repeat (first|refine zJ ?_ _|refine zK ?_|refine zL ?_ _));exact BK550.out) hb)
  have n7_:=zM (zQ (by repeat (first|(with_reducible first|exact HB.out|apply zD|apply zE|apply zF|refine below_set ?_ GE528.out|refine below_set ?_ GE529.out|refine below_set ?_ GE530.out|refine below_set ?_ GE550.out)|exact HB.out)) hb)
  clear HO536;clear HO543;clear HO549;clear BK528;clear BK529;clear BK530;clear BK550;clear HB;have HO536:=n0_;have HO543:=n1_;have HO549:=n2_;have BK528:=n3_;have BK529:=n4_;have BK530:=n5_;have BK550:=n6_;have HB:=n7_;clear n0_ n1_ n2_ n3_ n4_ n5_ n6_ n7_;(try clear hb)
  (try clear hb2)
  (try clear hk)
  (try clear hi)
  refine hK.out _ _ ⟨(blk_cell BK550.out 0).trans rfl,(blk_cell BK550.out 1).trans rfl,(blk_cell BK550.out 2).trans rfl,(blk_cell BK529.out 0).trans rfl,(blk_cell BK529.out 1).trans rfl,(blk_cell BK530.out 0).trans rfl,(blk_cell BK530.out 1).trans rfl⟩ (fun hHeld=>?_)
  clear hK K;refine norm_ (a':=?_) ?_ ?_
  rotate_left
  ·show Act.put _ (some 40) _ = _
   simp only [Act.put,zT,zU,zV,i64_w,i32_w]
   rfl
  refine one_ (i:=5) (N:=some 41) #[true,true,true,true,true,true,false,false,false,false,false] rfl rfl (one_of HT_.out (by kernel_rfl)) (by decide) (fun K hK=>?_)
  refine goes_ Try.func35 (by kernel_rfl) rfl #[.agg #[.int .i64 t545,.int .i64 t546,.slice Ao42 t547.length co42],.agg #[.int .i64 t551,.int .i64 t552],.agg #[.int .i64 t553,.int .i64 t554]] (by rfl) rfl rfl (by (try simp only [List.map_toArray,List.map_cons,List.map_nil]);first|done|rfl|(simp only [List.length_drop,List.length_take];rfl)) ?_
  with_reducible refine (impl_ShortestPath.calls t545 t546 _ _ t547 t551 t552 t553 t554 t555 t558 _ ?side1 ?side2 A20.out).mono ?_
  (case side1=>repeat (first|exact (zN HO549.out).2.2|(with_reducible first|refine zG ?_ _|refine zH ?_ _|refine zI ?_)))
  (case side2=>exact (zN HO549.out).2.1)
  rintro e w47 ⟨v556,rfl,ho0,hb⟩
  refine ⟨_,rfl,?_⟩
  have n0_:=zM (Kd.R_elder' (by (with_reducible repeat (first|apply zA|apply zB|apply zC));exact HO536.out) (Kd.R_base ho0) hb)
  have n1_:=zM (Kd.R_elder' (by (with_reducible repeat (first|apply zA|apply zB|apply zC));exact HO543.out) (Kd.R_base ho0) hb)
  have n2_:=zM (Kd.R_elder' (by (with_reducible repeat (first|apply zA|apply zB|apply zC));exact HO549.out) (Kd.R_base ho0) hb)
  have n3_:=zM (Kd.R_lower (Kd.R_new' (Kd.R_new' (Kd.R_new' ho0 (Kd.R_lt (by (with_reducible repeat (first|apply zA|apply zB|apply zC));exact HO536.out))) (Kd.R_lt (by (with_reducible repeat (first|apply zA|apply zB|apply zC));exact HO543.out))) (Kd.R_lt (by (with_reducible repeat (first|apply zA|apply zB|apply zC));exact HO549.out))) (zR (by repeat (first|(with_reducible first|exact HB.out|apply zD|apply zE|apply zF|refine below_set ?_ GE528.out|refine below_set ?_ GE529.out|refine below_set ?_ GE530.out|refine below_set ?_ GE550.out)|exact HB.out))))
  have n4_:=zM (blk_below (g:=gb528) (o := .cells #[.int .i64 a0_0,.int .i64 a0_1,.slice A0_2 l0_2.length c0_2] 24 (0,0)) (by (with_reducible repeat (first|refine zJ ?_ _|refine zK ?_|refine zL ?_ _));exact BK528.out) hb)
  have n5_:=zM (blk_below (g:=gb529) (o := .cells #[.int .i64 a1_0,.int .i64 a1_1] 44 (0,0)) (by (with_reducible repeat (first|refine zJ ?_ _|refine zK ?_|refine zL ?_ _));exact BK529.out) hb)
  have n6_:=zM (blk_below (g:=gb530) (o := .cells #[.int .i64 a2_0,.int .i64 a2_1] 44 (0,0)) (by (with_reducible repeat (first|refine zJ ?_ _|refine zK ?_|refine zL ?_ _));exact BK530.out) hb)
  have n7_:=zM (blk_below (g:=gb550) (o := .cells #[.int .i64 t545,.int .i64 t546,.slice Ao42 t547.length co42] 29 (0,0)) (by (with_reducible repeat (first|refine zJ ?_ _|refine zK ?_|refine zL ?_ _));exact BK550.out) hb)
  have n8_:=zM (zQ (by repeat (first|(with_reducible first|exact HB.out|apply zD|apply zE|apply zF|refine below_set ?_ GE528.out|refine below_set ?_ GE529.out|refine below_set ?_ GE530.out|refine below_set ?_ GE550.out)|exact HB.out)) hb)
  clear HO536;clear HO543;clear HO549;clear BK528;clear BK529;clear BK530;clear BK550;clear HB;have HO536:=n0_;have HO543:=n1_;have HO549:=n2_;have HO557:=n3_;have BK528:=n4_;have BK529:=n5_;have BK530:=n6_;have BK550:=n7_;have HB:=n8_;clear n0_ n1_ n2_ n3_ n4_ n5_ n6_ n7_ n8_;(try clear hb)
  (try clear hb2)
  (try clear hk)
  (try clear hi)
  (try clear ho0)
  refine hK.out _ _ ⟨(blk_cell BK550.out 0).trans rfl,(blk_cell BK550.out 1).trans rfl,(blk_cell BK550.out 2).trans rfl,(blk_cell BK529.out 0).trans rfl,(blk_cell BK529.out 1).trans rfl,(blk_cell BK530.out 0).trans rfl,(blk_cell BK530.out 1).trans rfl⟩ (fun hHeld=>?_)
  clear hK K;refine norm_ (a':=?_) ?_ ?_
  rotate_left
  ·show Act.put _ (some 41) _ = _
   simp only [Act.put,zT,zU,zV,i64_w,i32_w]
   rfl
  refine pure_ (i:=6) (N:=some 35) (v:=?_) (a':=?_) #[true,true,true,true,true,true,true,false,false,false,false] rfl rfl (any_of HT_.out (by kernel_rfl)) (fun _ _ _ h=>h) (Or.inl ⟨by rfl,?_⟩) ?_ ?_
  rotate_left
  ·intro w'
   go_simp
   with_reducible rfl
  rotate_left
  ·simp only [Act.put,zT,zU,zV,i64_w,i32_w]
   rfl
  refine pure_ (i:=7) (N:=some 42) (v:=?_) (a':=?_) #[true,true,true,true,true,true,true,true,false,false,false] rfl rfl (any_of HT_.out (by kernel_rfl)) (fun _ _ _ h=>h) (Or.inl ⟨by rfl,?_⟩) ?_ ?_
  rotate_left
  ·intro w'
   go_simp
   with_reducible rfl
  rotate_left
  ·simp only [Act.put,zT,zU,zV,i64_w,i32_w]
   rfl
  refine pure_ (i:=8) (N:=some 43) (v:=?_) (a':=?_) #[true,true,true,true,true,true,true,true,true,false,false] rfl rfl (any_of HT_.out (by kernel_rfl)) (fun _ _ _ h=>h) (Or.inl ⟨by rfl,?_⟩) ?_ ?_
  rotate_left
  ·intro w'
   go_simp
   with_reducible rfl
  rotate_left
  ·simp only [Act.put,zT,zU,zV,i64_w,i32_w]
   rfl
  refine pure_ (i:=9) (N:=some 11) (v:=?_) (a':=?_) #[true,true,true,true,true,true,true,true,true,true,false] rfl rfl (any_of HT_.out (by kernel_rfl)) (fun _ _ _ h=>h) (Or.inl ⟨by rfl,?_⟩) ?_ ?_
  rotate_left
  ·intro w'
   go_simp
   with_reducible rfl
  rotate_left
  ·simp only [Act.put,zT,zU,zV,i64_w,i32_w]
   rfl
  refine pure_ (i:=10) (N:=some 12) (v:=?_) (a':=?_) #[true,true,true,true,true,true,true,true,true,true,true] rfl rfl (any_of HT_.out (by kernel_rfl)) (fun _ _ _ h=>h) (Or.inl ⟨by rfl,?_⟩) ?_ ?_
  rotate_left
  ·intro w'
   go_simp
   with_reducible rfl
  rotate_left
  ·simp only [Act.put,zT,zU,zV,i64_w,i32_w]
   rfl
  refine done_ (done_of HT_.out (by kernel_rfl)) ?_
  go_upto_region 8 with (fail)
  go_cut [52] (fun v52 wc => ∃ (kq:Nat) (x52_20:Bool),v52 = .bool x52_20 ∧ Aside0 (laws_FnExactShortestPath.j0 kq t541 t544 t555 t558 x52_20 a0_0 a0_1 l0_2 a1_0 a1_1 a2_0 a2_1 t545 t546 t547 = some r) ∧ Aside0 (kq ≤ k) ∧ Aside0 (Kd.R k48 48 wc w.heap.size (fun k_=>some k_ ≠ (v556:Value).ownBlock ∧ some k_ ≠ ((.slice Ao42 t547.length co42):Value).ownBlock) v542 t541) ∧ Aside0 (Kd.R k48 48 wc w.heap.size (fun k_=>some k_ ≠ (v542:Value).ownBlock ∧ some k_ ≠ ((.slice Ao42 t547.length co42):Value).ownBlock) v556 t555) ∧ Aside0 (Kd.R k48 48 wc w.heap.size (fun k_=>some k_ ≠ (v542:Value).ownBlock ∧ some k_ ≠ (v556:Value).ownBlock) (.slice Ao42 t547.length co42) t547) ∧ Aside0 (wc.heap[gb528]? = some (.cells #[.int .i64 a0_0,.int .i64 a0_1,(.slice A0_2 l0_2.length c0_2)] 24 (0,0))) ∧ Aside0 (wc.heap[gb529]? = some (.cells #[.int .i64 a1_0,.int .i64 a1_1] 44 (0,0))) ∧ Aside0 (wc.heap[gb530]? = some (.cells #[.int .i64 a2_0,.int .i64 a2_1] 44 (0,0))) ∧ Aside0 (wc.heap[gb550]? = some (.cells #[.int .i64 t545,.int .i64 t546,(.slice Ao42 t547.length co42)] 29 (0,0))) ∧ Aside0 (Below w.heap.size w wc))
  case first =>
   have H:=HC21.out;clear HC21;replace H:=Option.bind_eq_some_iff.mp H;obtain ⟨t559,A480,H⟩:=H;replace H:(if t559 = true then (laws_FnExactShortestPath.j0 k t541 t544 t555 t558 (t558 != t544) a0_0 a0_1 l0_2 a1_0 a1_1 a2_0 a2_1 t545 t546 t547) else (laws_FnExactShortestPath.j0 k t541 t544 t555 t558 true a0_0 a0_1 l0_2 a1_0 a1_1 a2_0 a2_1 t545 t546 t547)) = some r:=H
   have A48:=zM A480;clear A480;by_cases c49:t559 = true
   ·subst c49
    have H1:(laws_FnExactShortestPath.j0 k t541 t544 t555 t558 (t558 != t544) a0_0 a0_1 l0_2 a1_0 a1_1 a2_0 a2_1 t545 t546 t547) = some r:=by rw [if_pos rfl] at H;exact H
    clear H;have H:=H1;clear H1;have H':=zM H;clear H;obtain ⟨Ao50,co50,eo50⟩:=Kd.R_slice HO557.out;subst eo50;obtain ⟨Ao51,co51,eo51⟩:=Kd.R_slice HO543.out;subst eo51;go_wp2_with (first|((with_reducible refine gate_callee (f:=22) rfl ?_);refine goesL_ (some 46) rfl rfl Try.func22 (by kernel_rfl) rfl #[.slice Ao50 t555.length co50,.slice Ao51 t541.length co51] rfl (by (try simp only [List.map_toArray,List.map_cons,List.map_nil]);first|done|rfl|(simp only [List.length_drop,List.length_take];rfl)) ?_;(with_reducible refine (laws_eqCellS.calls k _ _ t555 _ _ t541 true _ ?side1 ?side2 ?side3 ?side4 A48.out).mono ?_);(case side1=>repeat (first|exact (zN HO557.out).2.2|(with_reducible first|refine zG ?_ _|refine zH ?_ _|refine zI ?_)));(case side2=>exact (zN HO557.out).2.1);(case side3=>repeat (first|exact (zN HO543.out).2.2|(with_reducible first|refine zG ?_ _|refine zH ?_ _|refine zI ?_)));(case side4=>exact (zN HO543.out).2.1);rintro e w52 ⟨rfl,hb⟩;refine ⟨_,rfl,?_⟩;have n0_:=zM (zP (by (with_reducible repeat (first|apply zA|apply zB|apply zC));exact HO536.out) hb);have n1_:=zM (zP (by (with_reducible repeat (first|apply zA|apply zB|apply zC));exact HO543.out) hb);have n2_:=zM (zP (by (with_reducible repeat (first|apply zA|apply zB|apply zC));exact HO549.out) hb);have n3_:=zM (zP (by (with_reducible repeat (first|apply zA|apply zB|apply zC));exact HO557.out) hb);have n4_:=zM (blk_below (g:=gb528) (o := .cells #[.int .i64 a0_0,.int .i64 a0_1,.slice A0_2 l0_2.length c0_2] 24 (0,0)) (by (with_reducible repeat (first|refine zJ ?_ _|refine zK ?_|refine zL ?_ _));exact BK528.out) hb);have n5_:=zM (blk_below (g:=gb529) (o := .cells #[.int .i64 a1_0,.int .i64 a1_1] 44 (0,0)) (by (with_reducible repeat (first|refine zJ ?_ _|refine zK ?_|refine zL ?_ _));exact BK529.out) hb);have n6_:=zM (blk_below (g:=gb530) (o := .cells #[.int .i64 a2_0,.int .i64 a2_1] 44 (0,0)) (by (with_reducible repeat (first|refine zJ ?_ _|refine zK ?_|refine zL ?_ _));exact BK530.out) hb);have n7_:=zM (blk_below (g:=gb550) (o := .cells #[.int .i64 t545,.int .i64 t546,.slice Ao42 t547.length co42] 29 (0,0)) (by (with_reducible repeat (first|refine zJ ?_ _|refine zK ?_|refine zL ?_ _));exact BK550.out) hb);have n8_:=zM (zQ (by repeat (first|(with_reducible first|exact HB.out|apply zD|apply zE|apply zF|refine below_set ?_ GE528.out|refine below_set ?_ GE529.out|refine below_set ?_ GE530.out|refine below_set ?_ GE550.out)|exact HB.out)) hb);clear HO536;clear HO543;clear HO549;clear HO557;clear BK528;clear BK529;clear BK530;clear BK550;clear HB;have HO536:=n0_;have HO543:=n1_;have HO549:=n2_;have HO557:=n3_;have BK528:=n4_;have BK529:=n5_;have BK530:=n6_;have BK550:=n7_;have HB:=n8_;clear n0_ n1_ n2_ n3_ n4_ n5_ n6_ n7_ n8_;(try clear hb);(try clear hb2);(try clear hk);(try clear hi)))
    go_meet
    case rel=>exact ⟨_,((t558 != t544)),(by first|rfl|(simp;done)|(simp [*];done)),H',⟨by first|omega|exact Nat.le_refl _⟩,⟨by (with_reducible repeat (first|apply zA|apply zB|apply zC));exact Kd.R_mono HO543.out (fun _ hk=>⟨hk.2,hk.1.2⟩)⟩,⟨by (with_reducible repeat (first|apply zA|apply zB|apply zC));exact Kd.R_mono HO557.out (fun _ hk=>⟨hk.1.2,hk.2⟩)⟩,⟨by (with_reducible repeat (first|apply zA|apply zB|apply zC));exact Kd.R_mono HO549.out (fun _ hk=>⟨hk.1.2,hk.2⟩)⟩,⟨by (with_reducible repeat (first|refine zJ ?_ _|refine zK ?_|refine zL ?_ _));exact BK528.out⟩,⟨by (with_reducible repeat (first|refine zJ ?_ _|refine zK ?_|refine zL ?_ _));exact BK529.out⟩,⟨by (with_reducible repeat (first|refine zJ ?_ _|refine zK ?_|refine zL ?_ _));exact BK530.out⟩,⟨by (with_reducible repeat (first|refine zJ ?_ _|refine zK ?_|refine zL ?_ _));exact BK550.out⟩,⟨by repeat (first|(with_reducible first|exact HB.out|apply zD|apply zE|apply zF|refine below_set ?_ GE528.out|refine below_set ?_ GE529.out|refine below_set ?_ GE530.out|refine below_set ?_ GE550.out)|exact HB.out)⟩⟩
   ·replace c49:=Bool.eq_false_iff.mpr c49
    subst c49;have H1:(laws_FnExactShortestPath.j0 k t541 t544 t555 t558 true a0_0 a0_1 l0_2 a1_0 a1_1 a2_0 a2_1 t545 t546 t547) = some r:=by rw [if_neg (show ¬ (false = true) by decide)] at H;exact H
    clear H;have H:=H1;clear H1;have H':=zM H;clear H;obtain ⟨Ao53,co53,eo53⟩:=Kd.R_slice HO557.out;subst eo53;obtain ⟨Ao54,co54,eo54⟩:=Kd.R_slice HO543.out;subst eo54;go_wp2_with (first|((with_reducible refine gate_callee (f:=22) rfl ?_);refine goesL_ (some 46) rfl rfl Try.func22 (by kernel_rfl) rfl #[.slice Ao53 t555.length co53,.slice Ao54 t541.length co54] rfl (by (try simp only [List.map_toArray,List.map_cons,List.map_nil]);first|done|rfl|(simp only [List.length_drop,List.length_take];rfl)) ?_;(with_reducible refine (laws_eqCellS.calls k _ _ t555 _ _ t541 false _ ?side1 ?side2 ?side3 ?side4 A48.out).mono ?_);(case side1=>repeat (first|exact (zN HO557.out).2.2|(with_reducible first|refine zG ?_ _|refine zH ?_ _|refine zI ?_)));(case side2=>exact (zN HO557.out).2.1);(case side3=>repeat (first|exact (zN HO543.out).2.2|(with_reducible first|refine zG ?_ _|refine zH ?_ _|refine zI ?_)));(case side4=>exact (zN HO543.out).2.1);rintro e w55 ⟨rfl,hb⟩;refine ⟨_,rfl,?_⟩;have n0_:=zM (zP (by (with_reducible repeat (first|apply zA|apply zB|apply zC));exact HO536.out) hb);have n1_:=zM (zP (by (with_reducible repeat (first|apply zA|apply zB|apply zC));exact HO543.out) hb);have n2_:=zM (zP (by (with_reducible repeat (first|apply zA|apply zB|apply zC));exact HO549.out) hb);have n3_:=zM (zP (by (with_reducible repeat (first|apply zA|apply zB|apply zC));exact HO557.out) hb);have n4_:=zM (blk_below (g:=gb528) (o := .cells #[.int .i64 a0_0,.int .i64 a0_1,.slice A0_2 l0_2.length c0_2] 24 (0,0)) (by (with_reducible repeat (first|refine zJ ?_ _|refine zK ?_|refine zL ?_ _));exact BK528.out) hb);have n5_:=zM (blk_below (g:=gb529) (o := .cells #[.int .i64 a1_0,.int .i64 a1_1] 44 (0,0)) (by (with_reducible repeat (first|refine zJ ?_ _|refine zK ?_|refine zL ?_ _));exact BK529.out) hb);have n6_:=zM (blk_below (g:=gb530) (o := .cells #[.int .i64 a2_0,.int .i64 a2_1] 44 (0,0)) (by (with_reducible repeat (first|refine zJ ?_ _|refine zK ?_|refine zL ?_ _));exact BK530.out) hb);have n7_:=zM (blk_below (g:=gb550) (o := .cells #[.int .i64 t545,.int .i64 t546,.slice Ao42 t547.length co42] 29 (0,0)) (by (with_reducible repeat (first|refine zJ ?_ _|refine zK ?_|refine zL ?_ _));exact BK550.out) hb);have n8_:=zM (zQ (by repeat (first|(with_reducible first|exact HB.out|apply zD|apply zE|apply zF|refine below_set ?_ GE528.out|refine below_set ?_ GE529.out|refine below_set ?_ GE530.out|refine below_set ?_ GE550.out)|exact HB.out)) hb);clear HO536;clear HO543;clear HO549;clear HO557;clear BK528;clear BK529;clear BK530;clear BK550;clear HB;have HO536:=n0_;have HO543:=n1_;have HO549:=n2_;have HO557:=n3_;have BK528:=n4_;have BK529:=n5_;have BK530:=n6_;have BK550:=n7_;have HB:=n8_;clear n0_ n1_ n2_ n3_ n4_ n5_ n6_ n7_ n8_;(try clear hb);(try clear hb2);(try clear hk);(try clear hi)))
    go_meet
    case rel=>exact ⟨_,(true),(by first|rfl|(simp;done)|(simp [*];done)),H',⟨by first|omega|exact Nat.le_refl _⟩,⟨by (with_reducible repeat (first|apply zA|apply zB|apply zC));exact Kd.R_mono HO543.out (fun _ hk=>⟨hk.2,hk.1.2⟩)⟩,⟨by (with_reducible repeat (first|apply zA|apply zB|apply zC));exact Kd.R_mono HO557.out (fun _ hk=>⟨hk.1.2,hk.2⟩)⟩,⟨by (with_reducible repeat (first|apply zA|apply zB|apply zC));exact Kd.R_mono HO549.out (fun _ hk=>⟨hk.1.2,hk.2⟩)⟩,⟨by (with_reducible repeat (first|refine zJ ?_ _|refine zK ?_|refine zL ?_ _));exact BK528.out⟩,⟨by (with_reducible repeat (first|refine zJ ?_ _|refine zK ?_|refine zL ?_ _));exact BK529.out⟩,⟨by (with_reducible repeat (first|refine zJ ?_ _|refine zK ?_|refine zL ?_ _));exact BK530.out⟩,⟨by (with_reducible repeat (first|refine zJ ?_ _|refine zK ?_|refine zL ?_ _));exact BK550.out⟩,⟨by repeat (first|(with_reducible first|exact HB.out|apply zD|apply zE|apply zF|refine below_set ?_ GE528.out|refine below_set ?_ GE529.out|refine below_set ?_ GE530.out|refine below_set ?_ GE550.out)|exact HB.out)⟩⟩
  case rest =>
   clear HC21;(try clear c1);(try clear c2);(try clear p2);(try clear c3);(try clear c4);(try clear c5);(try clear c5b0);(try clear c8);(try clear c9);(try clear c10);(try clear c13);(try clear c15);(try clear c22);(try clear c25);(try clear c26);(try clear c28);(try clear c34);(try clear c35);(try clear c38);(try clear c39);(try clear c40);(try clear c49);(try clear hcz11_0);(try clear hcz11_1);(try clear hcz11_2);(try clear hcz27_0);(try clear hcz27_1);(try clear hcz27_2);(try clear hcz35_0);(try clear hcz35_1);(try clear hcz35_2);(try clear hcz41_0);(try clear hcz41_1);(try clear hcz41_2);(try clear hfz11_0);(try clear hfz11_1);(try clear hfz11_2);(try clear hfz27_0);(try clear hfz27_1);(try clear hfz27_2);(try clear hfz35_0);(try clear hfz35_1);(try clear hfz35_2);(try clear hfz41_0);(try clear hfz41_1);(try clear hfz41_2);obtain ⟨kq,x52_20,rfl,HA,HJ20,HO_8,HO_11,HO_551002,BK528,BK529,BK530,BK550,HB⟩:=hcut;cases kq with
   | zero=>exact absurd HA.out (by simp [laws_FnExactShortestPath.j0])
   | succ kj20 =>
    have H:=HA.out;clear HA;simp only [laws_FnExactShortestPath.j0] at H
    by_cases c56:x52_20 = true
    ·subst c56
     have H1:(some false) = some r:=by rw [if_pos rfl] at H;exact H
     clear H;have H:=H1;clear H1;obtain rfl:=Option.some.inj H;go_wp2
     go_ret
     exact ⟨by first|rfl|(simp [errW_none,errW_some] <;> rfl)|(simp [*,errW_none,errW_some] <;> rfl),by repeat (first|(with_reducible first|exact HB.out|apply zD|apply zE|apply zF|refine below_set ?_ GE528.out|refine below_set ?_ GE529.out|refine below_set ?_ GE530.out|refine below_set ?_ GE550.out)|exact HB.out)⟩
    ·replace c56:=Bool.eq_false_iff.mpr c56
     subst c56;have H1:((laws_toFloor.f kj20 a0_0 a0_1 l0_2).bind fun bt560=>((laws_eqFloor.f kj20 t545 t546 t547 bt560.1 bt560.2.1 bt560.2.2).bind fun t565=>(if t565 = true then ((laws_markFloor.f kj20 t545 t546 t547 1).bind fun bt566=>(if bt566.1 < 0 then (laws_FnExactShortestPath.j1 kj20 t541 t544 t555 true a0_0 a0_1 l0_2 a1_0 a1_1 a2_0 a2_1) else ((laws_eqCellS.f kj20 t555 t541).bind fun t568=>(if t568 = true then (laws_FnExactShortestPath.j1 kj20 t541 t544 t555 (t558 != t544) a0_0 a0_1 l0_2 a1_0 a1_1 a2_0 a2_1) else (laws_FnExactShortestPath.j1 kj20 t541 t544 t555 true a0_0 a0_1 l0_2 a1_0 a1_1 a2_0 a2_1))))) else (some false)))) = some r:=by rw [if_neg (show ¬ (false = true) by decide)] at H;exact H
     clear H;have H:=H1;clear H1;replace H:=Option.bind_eq_some_iff.mp H;obtain ⟨⟨t560,t561,t562⟩,A570,H⟩:=H;replace H:((laws_eqFloor.f kj20 t545 t546 t547 t560 t561 t562).bind fun t565=>(if t565 = true then ((laws_markFloor.f kj20 t545 t546 t547 1).bind fun bt566=>(if bt566.1 < 0 then (laws_FnExactShortestPath.j1 kj20 t541 t544 t555 true a0_0 a0_1 l0_2 a1_0 a1_1 a2_0 a2_1) else ((laws_eqCellS.f kj20 t555 t541).bind fun t568=>(if t568 = true then (laws_FnExactShortestPath.j1 kj20 t541 t544 t555 (t558 != t544) a0_0 a0_1 l0_2 a1_0 a1_1 a2_0 a2_1) else (laws_FnExactShortestPath.j1 kj20 t541 t544 t555 true a0_0 a0_1 l0_2 a1_0 a1_1 a2_0 a2_1))))) else (some false))) = some r:=H
     have A57:=zM A570;clear A570;replace H:=Option.bind_eq_some_iff.mp H;obtain ⟨t565,A580,H⟩:=H;replace H:(if t565 = true then ((laws_markFloor.f kj20 t545 t546 t547 1).bind fun bt566=>(if bt566.1 < 0 then (laws_FnExactShortestPath.j1 kj20 t541 t544 t555 true a0_0 a0_1 l0_2 a1_0 a1_1 a2_0 a2_1) else ((laws_eqCellS.f kj20 t555 t541).bind fun t568=>(if t568 = true then (laws_FnExactShortestPath.j1 kj20 t541 t544 t555 (t558 != t544) a0_0 a0_1 l0_2 a1_0 a1_1 a2_0 a2_1) else (laws_FnExactShortestPath.j1 kj20 t541 t544 t555 true a0_0 a0_1 l0_2 a1_0 a1_1 a2_0 a2_1))))) else (some false)) = some r:=H
     have A58:=zM A580;clear A580;by_cases c59:t565 = true
     ·subst c59
      have H1:((laws_markFloor.f kj20 t545 t546 t547 1).bind fun bt566=>(if bt566.1 < 0 then (laws_FnExactShortestPath.j1 kj20 t541 t544 t555 true a0_0 a0_1 l0_2 a1_0 a1_1 a2_0 a2_1) else ((laws_eqCellS.f kj20 t555 t541).bind fun t568=>(if t568 = true then (laws_FnExactShortestPath.j1 kj20 t541 t544 t555 (t558 != t544) a0_0 a0_1 l0_2 a1_0 a1_1 a2_0 a2_1) else (laws_FnExactShortestPath.j1 kj20 t541 t544 t555 true a0_0 a0_1 l0_2 a1_0 a1_1 a2_0 a2_1))))) = some r:=by rw [if_pos rfl] at H;exact H
      clear H;have H:=H1;clear H1;replace H:=Option.bind_eq_some_iff.mp H;obtain ⟨⟨t566,t567⟩,A600,H⟩:=H;replace H:(if t566 < 0 then (laws_FnExactShortestPath.j1 kj20 t541 t544 t555 true a0_0 a0_1 l0_2 a1_0 a1_1 a2_0 a2_1) else ((laws_eqCellS.f kj20 t555 t541).bind fun t568=>(if t568 = true then (laws_FnExactShortestPath.j1 kj20 t541 t544 t555 (t558 != t544) a0_0 a0_1 l0_2 a1_0 a1_1 a2_0 a2_1) else (laws_FnExactShortestPath.j1 kj20 t541 t544 t555 true a0_0 a0_1 l0_2 a1_0 a1_1 a2_0 a2_1)))) = some r:=H
      have A60:=zM A600;clear A600;have HC61:=zM H;clear H;try go_wp2
      have n0_:=zM (zC HO_8.out);have n1_:=zM (zC HO_11.out);have n2_:=zM (zC HO_551002.out);have n3_:=zM (zK BK528.out);have n4_:=zM (zK BK529.out);have n5_:=zM (zK BK530.out);have n6_:=zM (zK BK550.out);have n7_:=zM (zF HB.out);clear HO_8;clear HO_11;clear HO_551002;clear BK528;clear BK529;clear BK530;clear BK550;clear HB;have HO_8:=n0_;have HO_11:=n1_;have HO_551002:=n2_;have BK528:=n3_;have BK529:=n4_;have BK530:=n5_;have BK550:=n6_;have HB:=n7_;clear n0_ n1_ n2_ n3_ n4_ n5_ n6_ n7_;refine start_ (n:=5) (S:=fun w'=>w'.cell? ⟨gb550,0,none⟩ = some (.int .i64 t545) ∧ w'.cell? ⟨gb550,1,none⟩ = some (.int .i64 t546) ∧ w'.cell? ⟨gb550,2,none⟩ = some (.slice Ao42 t547.length co42) ∧ w'.cell? ⟨gb528,0,none⟩ = some (.int .i64 a0_0) ∧ w'.cell? ⟨gb528,1,none⟩ = some (.int .i64 a0_1) ∧ w'.cell? ⟨gb528,2,none⟩ = some (.slice A0_2 l0_2.length c0_2)) (ds:=[]) #[false,false,false,false,false] (by kernel_rfl) rfl rfl ⟨(blk_cell BK550.out 0).trans rfl,(blk_cell BK550.out 1).trans rfl,(blk_cell BK550.out 2).trans rfl,(blk_cell BK528.out 0).trans rfl,(blk_cell BK528.out 1).trans rfl,(blk_cell BK528.out 2).trans rfl⟩ (fun hHeld=>?_)
      generalize wc.drew = w62 at HO_8 HO_11 HO_551002 BK528 BK529 BK530 BK550 HB hHeld ⊢
      refine take_ (i:=0) (N:=some 53) (v:=?_) (a':=?_) #[true,false,false,false,false] rfl rfl (by kernel_rfl) (fun _ _ _ h=>h) (Or.inl ⟨by rfl,?_⟩) hHeld ?_ ?_
      rotate_left
      ·rintro w' ⟨s0,s1,s2,s3,s4,s5⟩
       go_simp
       with_reducible rfl
      rotate_left
      ·simp only [Act.put,zT,zU,zV,i64_w,i32_w]
       rfl
      refine take_ (i:=1) (N:=some 54) (v:=?_) (a':=?_) #[true,true,false,false,false] rfl rfl (by kernel_rfl) (fun _ _ _ h=>h) (Or.inl ⟨by rfl,?_⟩) hHeld ?_ ?_
      rotate_left
      ·rintro w' ⟨s0,s1,s2,s3,s4,s5⟩
       go_simp
       with_reducible rfl
      rotate_left
      ·simp only [Act.put,zT,zU,zV,i64_w,i32_w]
       rfl
      refine one_ (i:=2) (N:=some 55) #[true,true,true,false,false] rfl rfl (by kernel_rfl) (by decide) (fun K hK=>?_)
      refine goes_ Try.func15 (by kernel_rfl) rfl #[.agg #[.int .i64 a0_0,.int .i64 a0_1,.slice A0_2 l0_2.length c0_2]] (by rfl) rfl rfl (by (try simp only [List.map_toArray,List.map_cons,List.map_nil]);first|done|rfl|(simp only [List.length_drop,List.length_take];rfl)) ?_
      with_reducible refine (laws_toFloor.calls kj20 a0_0 a0_1 _ _ l0_2 t560 t561 t562 _ ?side1 ?side2 A57.out).mono ?_
      (case side1=>repeat (first|exact (zO HR0_2.out HB.out)|(with_reducible first|refine zG ?_ _|refine zH ?_ _|refine zI ?_)))
      (case side2=>exact HC0_2.out)
      rintro e w63 ⟨v563,rfl,ho0,hb⟩
      refine ⟨_,rfl,?_⟩
      have n0_:=zM (Kd.R_elder' (by (with_reducible repeat (first|apply zA|apply zB|apply zC));exact HO_8.out) (Kd.R_base ho0) hb)
      have n1_:=zM (Kd.R_elder' (by (with_reducible repeat (first|apply zA|apply zB|apply zC));exact HO_11.out) (Kd.R_base ho0) hb)
      have n2_:=zM (Kd.R_elder' (by (with_reducible repeat (first|apply zA|apply zB|apply zC));exact HO_551002.out) (Kd.R_base ho0) hb)
      have n3_:=zM (Kd.R_lower (Kd.R_new' (Kd.R_new' (Kd.R_new' ho0 (Kd.R_lt (by (with_reducible repeat (first|apply zA|apply zB|apply zC));exact HO_8.out))) (Kd.R_lt (by (with_reducible repeat (first|apply zA|apply zB|apply zC));exact HO_11.out))) (Kd.R_lt (by (with_reducible repeat (first|apply zA|apply zB|apply zC));exact HO_551002.out))) (zR (by repeat (first|(with_reducible first|exact HB.out|apply zD|apply zE|apply zF|refine below_set ?_ GE528.out|refine below_set ?_ GE529.out|refine below_set ?_ GE530.out|refine below_set ?_ GE550.out)|exact HB.out))))
      have n4_:=zM (blk_below (g:=gb528) (o := .cells #[.int .i64 a0_0,.int .i64 a0_1,.slice A0_2 l0_2.length c0_2] 24 (0,0)) (by (with_reducible repeat (first|refine zJ ?_ _|refine zK ?_|refine zL ?_ _));exact BK528.out) hb)
      have n5_:=zM (blk_below (g:=gb529) (o := .cells #[.int .i64 a1_0,.int .i64 a1_1] 44 (0,0)) (by (with_reducible repeat (first|refine zJ ?_ _|refine zK ?_|refine zL ?_ _));exact BK529.out) hb)
      have n6_:=zM (blk_below (g:=gb530) (o := .cells #[.int .i64 a2_0,.int .i64 a2_1] 44 (0,0)) (by (with_reducible repeat (first|refine zJ ?_ _|refine zK ?_|refine zL ?_ _));exact BK530.out) hb)
      have n7_:=zM (blk_below (g:=gb550) (o := .cells #[.int .i64 t545,.int .i64 t546,.slice Ao42 t547.length co42] 29 (0,0)) (by (with_reducible repeat (first|refine zJ ?_ _|refine zK ?_|refine zL ?_ _));exact BK550.out) hb)
      have n8_:=zM (zQ (by repeat (first|(with_reducible first|exact HB.out|apply zD|apply zE|apply zF|refine below_set ?_ GE528.out|refine below_set ?_ GE529.out|refine below_set ?_ GE530.out|refine below_set ?_ GE550.out)|exact HB.out)) hb)
      clear HO_8;clear HO_11;clear HO_551002;clear BK528;clear BK529;clear BK530;clear BK550;clear HB;have HO_8:=n0_;have HO_11:=n1_;have HO_551002:=n2_;have HO564:=n3_;have BK528:=n4_;have BK529:=n5_;have BK530:=n6_;have BK550:=n7_;have HB:=n8_;clear n0_ n1_ n2_ n3_ n4_ n5_ n6_ n7_ n8_;(try clear hb)
      (try clear hb2)
      (try clear hk)
      (try clear hi)
      (try clear ho0)
      obtain ⟨Ao64,co64,eo64⟩:=Kd.R_slice HO564.out;(first|subst eo64|(injection eo64 with f1_ f2_ f3_;have f4_:=f1_.symm;have f5_:=f3_.symm;clear f1_ f2_ f3_;subst f4_;subst f5_))
      refine hK.out _ _ ⟨(blk_cell BK550.out 0).trans rfl,(blk_cell BK550.out 1).trans rfl,(blk_cell BK550.out 2).trans rfl,(blk_cell BK528.out 0).trans rfl,(blk_cell BK528.out 1).trans rfl,(blk_cell BK528.out 2).trans rfl⟩ (fun hHeld=>?_)
      clear hK K;refine norm_ (a':=?_) ?_ ?_
      rotate_left
      ·show Act.put _ (some 55) _ = _
       simp only [Act.put,zT,zU,zV,i64_w,i32_w]
       rfl
      refine one_ (i:=3) (N:=some 56) #[true,true,true,true,false] rfl rfl (by kernel_rfl) (by decide) (fun K hK=>?_)
      refine goes_ Try.func17 (by kernel_rfl) rfl #[.agg #[.int .i64 t545,.int .i64 t546,.slice Ao42 t547.length co42],.agg #[.int .i64 t560,.int .i64 t561,.slice Ao64 t562.length co64]] (by rfl) rfl rfl (by (try simp only [List.map_toArray,List.map_cons,List.map_nil]);first|done|rfl|(simp only [List.length_drop,List.length_take];rfl)) ?_
      with_reducible refine (laws_eqFloor.calls kj20 t545 t546 _ _ t547 t560 t561 _ _ t562 true _ ?side1 ?side2 ?side3 ?side4 A58.out).mono ?_
      (case side1=>repeat (first|exact (zN HO_551002.out).2.2|(with_reducible first|refine zG ?_ _|refine zH ?_ _|refine zI ?_)))
      (case side2=>exact (zN HO_551002.out).2.1)
      (case side3=>repeat (first|exact (zN HO564.out).2.2|(with_reducible first|refine zG ?_ _|refine zH ?_ _|refine zI ?_)))
      (case side4=>exact (zN HO564.out).2.1)
      rintro e w65 ⟨rfl,hb⟩
      refine ⟨_,rfl,?_⟩
      have n0_:=zM (zP (by (with_reducible repeat (first|apply zA|apply zB|apply zC));exact HO_8.out) hb)
      have n1_:=zM (zP (by (with_reducible repeat (first|apply zA|apply zB|apply zC));exact HO_11.out) hb)
      have n2_:=zM (zP (by (with_reducible repeat (first|apply zA|apply zB|apply zC));exact HO_551002.out) hb)
      have n3_:=zM (zP (by (with_reducible repeat (first|apply zA|apply zB|apply zC));exact HO564.out) hb)
      have n4_:=zM (blk_below (g:=gb528) (o := .cells #[.int .i64 a0_0,.int .i64 a0_1,.slice A0_2 l0_2.length c0_2] 24 (0,0)) (by (with_reducible repeat (first|refine zJ ?_ _|refine zK ?_|refine zL ?_ _));exact BK528.out) hb)
      have n5_:=zM (blk_below (g:=gb529) (o := .cells #[.int .i64 a1_0,.int .i64 a1_1] 44 (0,0)) (by (with_reducible repeat (first|refine zJ ?_ _|refine zK ?_|refine zL ?_ _));exact BK529.out) hb)
      have n6_:=zM (blk_below (g:=gb530) (o := .cells #[.int .i64 a2_0,.int .i64 a2_1] 44 (0,0)) (by (with_reducible repeat (first|refine zJ ?_ _|refine zK ?_|refine zL ?_ _));exact BK530.out) hb)
      have n7_:=zM (blk_below (g:=gb550) (o := .cells #[.int .i64 t545,.int .i64 t546,.slice Ao42 t547.length co42] 29 (0,0)) (by (with_reducible repeat (first|refine zJ ?_ _|refine zK ?_|refine zL ?_ _));exact BK550.out) hb)
      have n8_:=zM (zQ (by repeat (first|(with_reducible first|exact HB.out|apply zD|apply zE|apply zF|refine below_set ?_ GE528.out|refine below_set ?_ GE529.out|refine below_set ?_ GE530.out|refine below_set ?_ GE550.out)|exact HB.out)) hb)
      clear HO_8;clear HO_11;clear HO_551002;clear HO564;clear BK528;clear BK529;clear BK530;clear BK550;clear HB;have HO_8:=n0_;have HO_11:=n1_;have HO_551002:=n2_;have HO564:=n3_;have BK528:=n4_;have BK529:=n5_;have BK530:=n6_;have BK550:=n7_;have HB:=n8_;clear n0_ n1_ n2_ n3_ n4_ n5_ n6_ n7_ n8_;(try clear hb)
      (try clear hb2)
      (try clear hk)
      (try clear hi)
      refine hK.out _ _ ⟨(blk_cell BK550.out 0).trans rfl,(blk_cell BK550.out 1).trans rfl,(blk_cell BK550.out 2).trans rfl,(blk_cell BK528.out 0).trans rfl,(blk_cell BK528.out 1).trans rfl,(blk_cell BK528.out 2).trans rfl⟩ (fun hHeld=>?_)
      clear hK K;refine norm_ (a':=?_) ?_ ?_
      rotate_left
      ·show Act.put _ (some 56) _ = _
       simp only [Act.put,zT,zU,zV,i64_w,i32_w]
       rfl
      refine pure_ (i:=4) (N:=some 57) (v:=?_) (a':=?_) #[true,true,true,true,true] rfl rfl (by kernel_rfl) (fun _ _ _ h=>h) (Or.inl ⟨by rfl,?_⟩) ?_ ?_
      rotate_left
      ·intro w'
       go_simp
       with_reducible rfl
      rotate_left
      ·simp only [Act.put,zT,zU,zV,i64_w,i32_w]
       rfl
      refine done_ (by kernel_rfl) ?_
      have hnb66:=NB550_528.out;have hnc66:=NB528_550.out;have hnb67:=NB550_529.out;have hnc67:=NB529_550.out;have hnb68:=NB550_530.out;have hnc68:=NB530_550.out;have hcz69_0:w65.cell? ⟨gb550,0,none⟩ = some (.int .i64 t545):=(blk_cell BK550.out 0).trans rfl
      have hcz69_1:w65.cell? ⟨gb550,1,none⟩ = some (.int .i64 t546):=(blk_cell BK550.out 1).trans rfl
      have hcz69_2:w65.cell? ⟨gb550,2,none⟩ = some (.slice Ao42 t547.length co42):=(blk_cell BK550.out 2).trans rfl
      have hfz69_0:=blk_frozen BK550.out 0;have hfz69_1:=blk_frozen BK550.out 1;have hfz69_2:=blk_frozen BK550.out 2;go_upto_region 14 with (first|((with_reducible refine gate_callee (f:=31) rfl ?_);refine goesL_ (some 60) rfl rfl Try.func31 (by kernel_rfl) rfl #[.agg #[.int .i64 t545,.int .i64 t546,.slice Ao42 t547.length co42],.int .i64 1] rfl (by (try simp only [List.map_toArray,List.map_cons,List.map_nil]);first|done|rfl|(simp only [List.length_drop,List.length_take];rfl)) ?_;(with_reducible refine (laws_markFloor.calls kj20 t545 t546 (fun k_=>some k_ = (.slice Ao42 t547.length co42:Value).ownBlock) (.slice Ao42 t547.length co42) t547 1 t566 t567 w _ ?side1 ?side2 A60.out).mono ?_);(case side1=>repeat (first|(with_reducible first|exact HB.out|apply zD|apply zE|apply zF|refine below_set ?_ GE528.out|refine below_set ?_ GE529.out|refine below_set ?_ GE530.out|refine below_set ?_ GE550.out)|exact HB.out));(case side2=>exact Kd.R_tight rfl HO_551002.out);rintro e w70 ⟨rfl,hy0,hb,hkp⟩;refine ⟨_,rfl,?_⟩;have n0_:=zM (Kd.R_mono (ok':=fun k_=>some k_ ≠ (v556:Value).ownBlock ∧ some k_ ≠ (.slice Ao42 t547.length co42:Value).ownBlock ∧ some k_ ≠ (.slice Ao64 t562.length co64:Value).ownBlock) (Kd.R_keptB (HO_8.out) hkp (fun k_ hk_ hs_=>(hk_.1.2) hs_)) (fun k_ hk_=>⟨hk_.1.1.1,hk_.1.1.2,hk_.1.2⟩));have n1_:=zM (Kd.R_mono (ok':=fun k_=>some k_ ≠ (v542:Value).ownBlock ∧ some k_ ≠ (.slice Ao42 t547.length co42:Value).ownBlock ∧ some k_ ≠ (.slice Ao64 t562.length co64:Value).ownBlock) (Kd.R_keptB (HO_11.out) hkp (fun k_ hk_ hs_=>(hk_.1.2) hs_)) (fun k_ hk_=>⟨hk_.1.1.1,hk_.1.1.2,hk_.1.2⟩));have n2_:=zM (Kd.R_reok rfl hy0 (fun k_ e_=>HO_551002.out.1 k_ e_));have n3_:=zM (blk_kept (by (with_reducible repeat (first|refine zJ ?_ _|refine zK ?_|refine zL ?_ _));exact BK528.out) hkp (fun hs_=>(fun e_=>(Kd.R_ne HO_551002.out BK528.out (by decide)) e_) hs_));have n4_:=zM (blk_kept (by (with_reducible repeat (first|refine zJ ?_ _|refine zK ?_|refine zL ?_ _));exact BK529.out) hkp (fun hs_=>(fun e_=>(Kd.R_ne HO_551002.out BK529.out (by decide)) e_) hs_));have n5_:=zM (blk_kept (by (with_reducible repeat (first|refine zJ ?_ _|refine zK ?_|refine zL ?_ _));exact BK530.out) hkp (fun hs_=>(fun e_=>(Kd.R_ne HO_551002.out BK530.out (by decide)) e_) hs_));have n6_:=zM (blk_kept (by (with_reducible repeat (first|refine zJ ?_ _|refine zK ?_|refine zL ?_ _));exact BK550.out) hkp (fun hs_=>(fun e_=>(Kd.R_ne HO_551002.out BK550.out (by decide)) e_) hs_));have n7_:=zM (Kd.R_mono (ok':=fun k_=>some k_ ≠ (v542:Value).ownBlock ∧ some k_ ≠ (v556:Value).ownBlock ∧ some k_ ≠ (.slice Ao42 t547.length co42:Value).ownBlock) (Kd.R_keptB (HO564.out) hkp (fun k_ hk_ hs_=>(hk_.2) hs_)) (fun k_ hk_=>⟨hk_.1.1.1.2,hk_.1.1.2,hk_.1.2⟩));have n8_:=zM (hb);clear HO_8;clear HO_11;clear HO_551002;clear BK528;clear BK529;clear BK530;clear BK550;clear HO564;clear HB;have HO_8:=n0_;have HO_11:=n1_;have HO_551002:=n2_;have BK528:=n3_;have BK529:=n4_;have BK530:=n5_;have BK550:=n6_;have HO564:=n7_;have HB:=n8_;clear n0_ n1_ n2_ n3_ n4_ n5_ n6_ n7_ n8_;(try clear hb);(try clear hkp);(try clear hy0)))
      (try simp only [Act.put,zT,zU,zV])
      go_cut [73] (fun v73 wc => ∃ (kq:Nat) (x73_60:Bool),v73 = .bool x73_60 ∧ Aside0 (laws_FnExactShortestPath.j1 kq t541 t544 t555 x73_60 a0_0 a0_1 l0_2 a1_0 a1_1 a2_0 a2_1 = some r) ∧ Aside0 (kq ≤ kj20) ∧ Aside0 (Kd.R k48 48 wc w.heap.size (fun k_=>some k_ ≠ (v556:Value).ownBlock ∧ some k_ ≠ ((.slice Ao42 t547.length co42):Value).ownBlock) v542 t541) ∧ Aside0 (Kd.R k48 48 wc w.heap.size (fun k_=>some k_ ≠ (v542:Value).ownBlock ∧ some k_ ≠ ((.slice Ao42 t547.length co42):Value).ownBlock) v556 t555) ∧ Aside0 (Kd.R k48 48 wc w.heap.size (fun k_=>some k_ ≠ (v542:Value).ownBlock ∧ some k_ ≠ (v556:Value).ownBlock) (.slice Ao42 t547.length co42) t567) ∧ Aside0 (wc.heap[gb528]? = some (.cells #[.int .i64 a0_0,.int .i64 a0_1,(.slice A0_2 l0_2.length c0_2)] 24 (0,0))) ∧ Aside0 (wc.heap[gb529]? = some (.cells #[.int .i64 a1_0,.int .i64 a1_1] 44 (0,0))) ∧ Aside0 (wc.heap[gb530]? = some (.cells #[.int .i64 a2_0,.int .i64 a2_1] 44 (0,0))) ∧ Aside0 (wc.heap[gb550]? = some (.cells #[.int .i64 t545,.int .i64 t546,(.slice Ao42 t547.length co42)] 29 (0,0))) ∧ Aside0 (Below w.heap.size w wc))
      case first =>
       have H:=HC61.out;clear HC61;by_cases c71:t566 < 0
       ·rw [if_pos c71] at H
        have c71b0:decide (t566 < 0) = true:=decide_eq_true c71
        clear c71;(first|rw [c71b0]|(simp only [i64_w,i32_w];rw [c71b0])|skip)
        have H':=zM H;clear H;go_wp2
        go_meet
        case rel=>exact ⟨_,(true),(by first|rfl|(simp;done)|(simp [*];done)),H',⟨by have:=HJ20.out;first|omega|exact Nat.le_refl _⟩,⟨by (with_reducible repeat (first|apply zA|apply zB|apply zC));exact Kd.R_mono HO_8.out (fun _ hk=>⟨hk.1,hk.2.1⟩)⟩,⟨by (with_reducible repeat (first|apply zA|apply zB|apply zC));exact Kd.R_mono HO_11.out (fun _ hk=>⟨hk.1,hk.2.1⟩)⟩,⟨by (with_reducible repeat (first|apply zA|apply zB|apply zC));exact Kd.R_mono HO_551002.out (fun _ hk=>⟨hk.1.1,hk.1.2⟩)⟩,⟨by (with_reducible repeat (first|refine zJ ?_ _|refine zK ?_|refine zL ?_ _));exact BK528.out⟩,⟨by (with_reducible repeat (first|refine zJ ?_ _|refine zK ?_|refine zL ?_ _));exact BK529.out⟩,⟨by (with_reducible repeat (first|refine zJ ?_ _|refine zK ?_|refine zL ?_ _));exact BK530.out⟩,⟨by (with_reducible repeat (first|refine zJ ?_ _|refine zK ?_|refine zL ?_ _));exact BK550.out⟩,⟨by repeat (first|(with_reducible first|exact HB.out|apply zD|apply zE|apply zF|refine below_set ?_ GE528.out|refine below_set ?_ GE529.out|refine below_set ?_ GE530.out|refine below_set ?_ GE550.out)|exact HB.out)⟩⟩
       ·rw [if_neg c71] at H
        have c71b0:decide (t566 < 0) = false:=decide_eq_false c71
        clear c71;(first|rw [c71b0]|(simp only [i64_w,i32_w];rw [c71b0])|skip)
        replace H:=Option.bind_eq_some_iff.mp H;obtain ⟨t568,A720,H⟩:=H;replace H:(if t568 = true then (laws_FnExactShortestPath.j1 kj20 t541 t544 t555 (t558 != t544) a0_0 a0_1 l0_2 a1_0 a1_1 a2_0 a2_1) else (laws_FnExactShortestPath.j1 kj20 t541 t544 t555 true a0_0 a0_1 l0_2 a1_0 a1_1 a2_0 a2_1)) = some r:=H
        have A72:=zM A720;clear A720;by_cases c73:t568 = true
        ·subst c73
         have H1:(laws_FnExactShortestPath.j1 kj20 t541 t544 t555 (t558 != t544) a0_0 a0_1 l0_2 a1_0 a1_1 a2_0 a2_1) = some r:=by rw [if_pos rfl] at H;exact H
         clear H;have H:=H1;clear H1;have H':=zM H;clear H;obtain ⟨Ao74,co74,eo74⟩:=Kd.R_slice HO_11.out;subst eo74;obtain ⟨Ao75,co75,eo75⟩:=Kd.R_slice HO_8.out;subst eo75;go_wp2_with (first|(go_at_call 22;(with_reducible refine (laws_eqCellS.calls kj20 _ _ t555 _ _ t541 true _ ?side1 ?side2 ?side3 ?side4 A72.out).mono ?_);(case side1=>repeat (first|exact (zN HO_11.out).2.2|(with_reducible first|refine zG ?_ _|refine zH ?_ _|refine zI ?_)));(case side2=>exact (zN HO_11.out).2.1);(case side3=>repeat (first|exact (zN HO_8.out).2.2|(with_reducible first|refine zG ?_ _|refine zH ?_ _|refine zI ?_)));(case side4=>exact (zN HO_8.out).2.1);rintro e w76 ⟨rfl,hb⟩;have n0_:=zM (zP (by (with_reducible repeat (first|apply zA|apply zB|apply zC));exact HO_8.out) hb);have n1_:=zM (zP (by (with_reducible repeat (first|apply zA|apply zB|apply zC));exact HO_11.out) hb);have n2_:=zM (zP (by (with_reducible repeat (first|apply zA|apply zB|apply zC));exact HO_551002.out) hb);have n3_:=zM (zP (by (with_reducible repeat (first|apply zA|apply zB|apply zC));exact HO564.out) hb);have n4_:=zM (blk_below (g:=gb528) (o := .cells #[.int .i64 a0_0,.int .i64 a0_1,.slice A0_2 l0_2.length c0_2] 24 (0,0)) (by (with_reducible repeat (first|refine zJ ?_ _|refine zK ?_|refine zL ?_ _));exact BK528.out) hb);have n5_:=zM (blk_below (g:=gb529) (o := .cells #[.int .i64 a1_0,.int .i64 a1_1] 44 (0,0)) (by (with_reducible repeat (first|refine zJ ?_ _|refine zK ?_|refine zL ?_ _));exact BK529.out) hb);have n6_:=zM (blk_below (g:=gb530) (o := .cells #[.int .i64 a2_0,.int .i64 a2_1] 44 (0,0)) (by (with_reducible repeat (first|refine zJ ?_ _|refine zK ?_|refine zL ?_ _));exact BK530.out) hb);have n7_:=zM (blk_below (g:=gb550) (o := .cells #[.int .i64 t545,.int .i64 t546,.slice Ao42 t547.length co42] 29 (0,0)) (by (with_reducible repeat (first|refine zJ ?_ _|refine zK ?_|refine zL ?_ _));exact BK550.out) hb);have n8_:=zM (zQ (by repeat (first|(with_reducible first|exact HB.out|apply zD|apply zE|apply zF|refine below_set ?_ GE528.out|refine below_set ?_ GE529.out|refine below_set ?_ GE530.out|refine below_set ?_ GE550.out)|exact HB.out)) hb);clear HO_8;clear HO_11;clear HO_551002;clear HO564;clear BK528;clear BK529;clear BK530;clear BK550;clear HB;have HO_8:=n0_;have HO_11:=n1_;have HO_551002:=n2_;have HO564:=n3_;have BK528:=n4_;have BK529:=n5_;have BK530:=n6_;have BK550:=n7_;have HB:=n8_;clear n0_ n1_ n2_ n3_ n4_ n5_ n6_ n7_ n8_;(try clear hb);(try clear hb2);(try clear hk);(try clear hi)))
         go_meet
         case rel=>exact ⟨_,((t558 != t544)),(by first|rfl|(simp;done)|(simp [*];done)),H',⟨by have:=HJ20.out;first|omega|exact Nat.le_refl _⟩,⟨by (with_reducible repeat (first|apply zA|apply zB|apply zC));exact Kd.R_mono HO_8.out (fun _ hk=>⟨hk.1,hk.2.1⟩)⟩,⟨by (with_reducible repeat (first|apply zA|apply zB|apply zC));exact Kd.R_mono HO_11.out (fun _ hk=>⟨hk.1,hk.2.1⟩)⟩,⟨by (with_reducible repeat (first|apply zA|apply zB|apply zC));exact Kd.R_mono HO_551002.out (fun _ hk=>⟨hk.1.1,hk.1.2⟩)⟩,⟨by (with_reducible repeat (first|refine zJ ?_ _|refine zK ?_|refine zL ?_ _));exact BK528.out⟩,⟨by (with_reducible repeat (first|refine zJ ?_ _|refine zK ?_|refine zL ?_ _));exact BK529.out⟩,⟨by (with_reducible repeat (first|refine zJ ?_ _|refine zK ?_|refine zL ?_ _));exact BK530.out⟩,⟨by (with_reducible repeat (first|refine zJ ?_ _|refine zK ?_|refine zL ?_ _));exact BK550.out⟩,⟨by repeat (first|(with_reducible first|exact HB.out|apply zD|apply zE|apply zF|refine below_set ?_ GE528.out|refine below_set ?_ GE529.out|refine below_set ?_ GE530.out|refine below_set ?_ GE550.out)|exact HB.out)⟩⟩
        ·replace c73:=Bool.eq_false_iff.mpr c73
         subst c73;have H1:(laws_FnExactShortestPath.j1 kj20 t541 t544 t555 true a0_0 a0_1 l0_2 a1_0 a1_1 a2_0 a2_1) = some r:=by rw [if_neg (show ¬ (false = true) by decide)] at H;exact H
         clear H;have H:=H1;clear H1;have H':=zM H;clear H;obtain ⟨Ao77,co77,eo77⟩:=Kd.R_slice HO_11.out;subst eo77;obtain ⟨Ao78,co78,eo78⟩:=Kd.R_slice HO_8.out;subst eo78;go_wp2_with (first|(go_at_call 22;(with_reducible refine (laws_eqCellS.calls kj20 _ _ t555 _ _ t541 false _ ?side1 ?side2 ?side3 ?side4 A72.out).mono ?_);(case side1=>repeat (first|exact (zN HO_11.out).2.2|(with_reducible first|refine zG ?_ _|refine zH ?_ _|refine zI ?_)));(case side2=>exact (zN HO_11.out).2.1);(case side3=>repeat (first|exact (zN HO_8.out).2.2|(with_reducible first|refine zG ?_ _|refine zH ?_ _|refine zI ?_)));(case side4=>exact (zN HO_8.out).2.1);rintro e w79 ⟨rfl,hb⟩;have n0_:=zM (zP (by (with_reducible repeat (first|apply zA|apply zB|apply zC));exact HO_8.out) hb);have n1_:=zM (zP (by (with_reducible repeat (first|apply zA|apply zB|apply zC));exact HO_11.out) hb);have n2_:=zM (zP (by (with_reducible repeat (first|apply zA|apply zB|apply zC));exact HO_551002.out) hb);have n3_:=zM (zP (by (with_reducible repeat (first|apply zA|apply zB|apply zC));exact HO564.out) hb);have n4_:=zM (blk_below (g:=gb528) (o := .cells #[.int .i64 a0_0,.int .i64 a0_1,.slice A0_2 l0_2.length c0_2] 24 (0,0)) (by (with_reducible repeat (first|refine zJ ?_ _|refine zK ?_|refine zL ?_ _));exact BK528.out) hb);have n5_:=zM (blk_below (g:=gb529) (o := .cells #[.int .i64 a1_0,.int .i64 a1_1] 44 (0,0)) (by (with_reducible repeat (first|refine zJ ?_ _|refine zK ?_|refine zL ?_ _));exact BK529.out) hb);have n6_:=zM (blk_below (g:=gb530) (o := .cells #[.int .i64 a2_0,.int .i64 a2_1] 44 (0,0)) (by (with_reducible repeat (first|refine zJ ?_ _|refine zK ?_|refine zL ?_ _));exact BK530.out) hb);have n7_:=zM (blk_below (g:=gb550) (o := .cells #[.int .i64 t545,.int .i64 t546,.slice Ao42 t547.length co42] 29 (0,0)) (by (with_reducible repeat (first|refine zJ ?_ _|refine zK ?_|refine zL ?_ _));exact BK550.out) hb);have n8_:=zM (zQ (by repeat (first|(with_reducible first|exact HB.out|apply zD|apply zE|apply zF|refine below_set ?_ GE528.out|refine below_set ?_ GE529.out|refine below_set ?_ GE530.out|refine below_set ?_ GE550.out)|exact HB.out)) hb);clear HO_8;clear HO_11;clear HO_551002;clear HO564;clear BK528;clear BK529;clear BK530;clear BK550;clear HB;have HO_8:=n0_;have HO_11:=n1_;have HO_551002:=n2_;have HO564:=n3_;have BK528:=n4_;have BK529:=n5_;have BK530:=n6_;have BK550:=n7_;have HB:=n8_;clear n0_ n1_ n2_ n3_ n4_ n5_ n6_ n7_ n8_;(try clear hb);(try clear hb2);(try clear hk);(try clear hi)))
         go_meet
         case rel=>exact ⟨_,(true),(by first|rfl|(simp;done)|(simp [*];done)),H',⟨by have:=HJ20.out;first|omega|exact Nat.le_refl _⟩,⟨by (with_reducible repeat (first|apply zA|apply zB|apply zC));exact Kd.R_mono HO_8.out (fun _ hk=>⟨hk.1,hk.2.1⟩)⟩,⟨by (with_reducible repeat (first|apply zA|apply zB|apply zC));exact Kd.R_mono HO_11.out (fun _ hk=>⟨hk.1,hk.2.1⟩)⟩,⟨by (with_reducible repeat (first|apply zA|apply zB|apply zC));exact Kd.R_mono HO_551002.out (fun _ hk=>⟨hk.1.1,hk.1.2⟩)⟩,⟨by (with_reducible repeat (first|refine zJ ?_ _|refine zK ?_|refine zL ?_ _));exact BK528.out⟩,⟨by (with_reducible repeat (first|refine zJ ?_ _|refine zK ?_|refine zL ?_ _));exact BK529.out⟩,⟨by (with_reducible repeat (first|refine zJ ?_ _|refine zK ?_|refine zL ?_ _));exact BK530.out⟩,⟨by (with_reducible repeat (first|refine zJ ?_ _|refine zK ?_|refine zL ?_ _));exact BK550.out⟩,⟨by repeat (first|(with_reducible first|exact HB.out|apply zD|apply zE|apply zF|refine below_set ?_ GE528.out|refine below_set ?_ GE529.out|refine below_set ?_ GE530.out|refine below_set ?_ GE550.out)|exact HB.out)⟩⟩
      case rest =>
       clear HC61;(try clear c1);(try clear c2);(try clear p2);(try clear c3);(try clear c4);(try clear c5);(try clear c5b0);(try clear c6);(try clear c7);(try clear c8);(try clear c9);(try clear c10);(try clear c13);(try clear c15);(try clear c17);(try clear c22);(try clear c25);(try clear c26);(try clear c28);(try clear c31);(try clear c34);(try clear c35);(try clear c38);(try clear c39);(try clear c40);(try clear c49);(try clear c56);(try clear c59);(try clear c66);(try clear c67);(try clear c68);(try clear c71);(try clear c71b0);(try clear c73);(try clear hcz11_0);(try clear hcz11_1);(try clear hcz11_2);(try clear hcz27_0);(try clear hcz27_1);(try clear hcz27_2);(try clear hcz35_0);(try clear hcz35_1);(try clear hcz35_2);(try clear hcz41_0);(try clear hcz41_1);(try clear hcz41_2);(try clear hcz69_0);(try clear hcz69_1);(try clear hcz69_2);(try clear hfz11_0);(try clear hfz11_1);(try clear hfz11_2);(try clear hfz27_0);(try clear hfz27_1);(try clear hfz27_2);(try clear hfz35_0);(try clear hfz35_1);(try clear hfz35_2);(try clear hfz41_0);(try clear hfz41_1);(try clear hfz41_2);(try clear hfz69_0);(try clear hfz69_1);(try clear hfz69_2);(try clear p2);obtain ⟨kq,x73_60,rfl,HA,HJ60,HO_8,HO_11,HO_551002,BK528,BK529,BK530,BK550,HB⟩:=hcut;have hl551002_60:=(zN HO_551002.out).1;rw [hl551002_60] at HO_551002;(try simp only [hl551002_60])
       (try simp only [hl551002_60] at BK528)
       (try simp only [hl551002_60] at BK529)
       (try simp only [hl551002_60] at BK530)
       (try simp only [hl551002_60] at BK550)
       (try simp only [hl551002_60] at HO_8)
       (try simp only [hl551002_60] at HO_11)
       cases kq with
       | zero=>exact absurd HA.out (by simp [laws_FnExactShortestPath.j1])
       | succ kj60 =>
        have H:=HA.out;clear HA;simp only [laws_FnExactShortestPath.j1] at H
        by_cases c80:x73_60 = true
        ·subst c80
         have H1:(some false) = some r:=by rw [if_pos rfl] at H;exact H
         clear H;have H:=H1;clear H1;obtain rfl:=Option.some.inj H;go_wp2
         go_ret
         exact ⟨by first|rfl|(simp [errW_none,errW_some] <;> rfl)|(simp [*,errW_none,errW_some] <;> rfl),by repeat (first|(with_reducible first|exact HB.out|apply zD|apply zE|apply zF|refine below_set ?_ GE528.out|refine below_set ?_ GE529.out|refine below_set ?_ GE530.out|refine below_set ?_ GE550.out)|exact HB.out)⟩
        ·replace c80:=Bool.eq_false_iff.mpr c80
         subst c80;have H1:((laws_markCellS.f kj60 t555 1).bind fun bt569=>((laws_heldCellS.f kj60 bt569.2 1).bind fun t571=>(if t571 < 0 then (some false) else (if t571 = bt569.1 then ((laws_toFloor.f kj60 a0_0 a0_1 l0_2).bind fun bt572=>((laws_toCell.f a1_0 a1_1).bind fun bt577=>((laws_toCell.f a2_0 a2_1).bind fun bt579=>((impl_ShortestPath.f bt572.1 bt572.2.1 bt572.2.2 bt577.1 bt577.2 bt579.1 bt579.2).bind fun bt581=>((laws_eqCellS.f kj60 bt581.1 t541).bind fun t585=>(if t585 = true then (laws_FnExactShortestPath.j2 kj60 bt569.2 bt569.1 (bt581.2 != t544)) else (laws_FnExactShortestPath.j2 kj60 bt569.2 bt569.1 true))))))) else (some false))))) = some r:=by rw [if_neg (show ¬ (false = true) by decide)] at H;exact H
         clear H;have H:=H1;clear H1;replace H:=Option.bind_eq_some_iff.mp H;obtain ⟨⟨t569,t570⟩,A810,H⟩:=H;replace H:((laws_heldCellS.f kj60 t570 1).bind fun t571=>(if t571 < 0 then (some false) else (if t571 = t569 then ((laws_toFloor.f kj60 a0_0 a0_1 l0_2).bind fun bt572=>((laws_toCell.f a1_0 a1_1).bind fun bt577=>((laws_toCell.f a2_0 a2_1).bind fun bt579=>((impl_ShortestPath.f bt572.1 bt572.2.1 bt572.2.2 bt577.1 bt577.2 bt579.1 bt579.2).bind fun bt581=>((laws_eqCellS.f kj60 bt581.1 t541).bind fun t585=>(if t585 = true then (laws_FnExactShortestPath.j2 kj60 t570 t569 (bt581.2 != t544)) else (laws_FnExactShortestPath.j2 kj60 t570 t569 true))))))) else (some false)))) = some r:=H
         have A81:=zM A810;clear A810;replace H:=Option.bind_eq_some_iff.mp H;obtain ⟨t571,A820,H⟩:=H;replace H:(if t571 < 0 then (some false) else (if t571 = t569 then ((laws_toFloor.f kj60 a0_0 a0_1 l0_2).bind fun bt572=>((laws_toCell.f a1_0 a1_1).bind fun bt577=>((laws_toCell.f a2_0 a2_1).bind fun bt579=>((impl_ShortestPath.f bt572.1 bt572.2.1 bt572.2.2 bt577.1 bt577.2 bt579.1 bt579.2).bind fun bt581=>((laws_eqCellS.f kj60 bt581.1 t541).bind fun t585=>(if t585 = true then (laws_FnExactShortestPath.j2 kj60 t570 t569 (bt581.2 != t544)) else (laws_FnExactShortestPath.j2 kj60 t570 t569 true))))))) else (some false))) = some r:=H
         have A82:=zM A820;clear A820;by_cases c83:t571 < 0
         ·rw [if_pos c83] at H
          have c83b0:decide (t571 < 0) = true:=decide_eq_true c83
          clear c83;obtain rfl:=Option.some.inj H;obtain ⟨Ao84,co84,eo84⟩:=Kd.R_slice HO_11.out;subst eo84;go_wp2_with (first|((with_reducible refine gate_callee (f:=36) rfl ?_);refine goesL_ (some 76) rfl rfl Try.func36 (by kernel_rfl) rfl #[.slice Ao84 t555.length co84,.int .i64 1] rfl (by (try simp only [List.map_toArray,List.map_cons,List.map_nil]);first|done|rfl|(simp only [List.length_drop,List.length_take];rfl)) ?_;(with_reducible refine (laws_markCellS.calls kj60 (fun k_=>some k_ = (.slice Ao84 t555.length co84:Value).ownBlock) (.slice Ao84 t555.length co84) t555 1 t569 t570 w _ ?side1 ?side2 A81.out).mono ?_);(case side1=>repeat (first|(with_reducible first|exact HB.out|apply zD|apply zE|apply zF|refine below_set ?_ GE528.out|refine below_set ?_ GE529.out|refine below_set ?_ GE530.out|refine below_set ?_ GE550.out)|exact HB.out));(case side2=>exact Kd.R_tight rfl HO_11.out);rintro e w85 ⟨rfl,hy0,hb,hkp⟩;refine ⟨_,rfl,?_⟩;have n0_:=zM (Kd.R_mono (ok':=fun k_=>some k_ ≠ (.slice Ao84 t555.length co84:Value).ownBlock ∧ some k_ ≠ (.slice Ao42 t567.length co42:Value).ownBlock) (Kd.R_keptB (HO_8.out) hkp (fun k_ hk_ hs_=>(hk_.1) hs_)) (fun k_ hk_=>⟨hk_.1.1,hk_.1.2⟩));have n1_:=zM (Kd.R_reok rfl hy0 (fun k_ e_=>HO_11.out.1 k_ e_));have n2_:=zM (Kd.R_mono (ok':=fun k_=>some k_ ≠ (v542:Value).ownBlock ∧ some k_ ≠ (.slice Ao84 t555.length co84:Value).ownBlock) (Kd.R_keptB (HO_551002.out) hkp (fun k_ hk_ hs_=>(hk_.2) hs_)) (fun k_ hk_=>⟨hk_.1.1,hk_.1.2⟩));have n3_:=zM (blk_kept (by (with_reducible repeat (first|refine zJ ?_ _|refine zK ?_|refine zL ?_ _));exact BK528.out) hkp (fun hs_=>(fun e_=>(Kd.R_ne HO_11.out BK528.out (by decide)) e_) hs_));have n4_:=zM (blk_kept (by (with_reducible repeat (first|refine zJ ?_ _|refine zK ?_|refine zL ?_ _));exact BK529.out) hkp (fun hs_=>(fun e_=>(Kd.R_ne HO_11.out BK529.out (by decide)) e_) hs_));have n5_:=zM (blk_kept (by (with_reducible repeat (first|refine zJ ?_ _|refine zK ?_|refine zL ?_ _));exact BK530.out) hkp (fun hs_=>(fun e_=>(Kd.R_ne HO_11.out BK530.out (by decide)) e_) hs_));have n6_:=zM (blk_kept (by (with_reducible repeat (first|refine zJ ?_ _|refine zK ?_|refine zL ?_ _));exact BK550.out) hkp (fun hs_=>(fun e_=>(Kd.R_ne HO_11.out BK550.out (by decide)) e_) hs_));have n7_:=zM (hb);clear HO_8;clear HO_11;clear HO_551002;clear BK528;clear BK529;clear BK530;clear BK550;clear HB;have HO_8:=n0_;have HO_11:=n1_;have HO_551002:=n2_;have BK528:=n3_;have BK529:=n4_;have BK530:=n5_;have BK550:=n6_;have HB:=n7_;clear n0_ n1_ n2_ n3_ n4_ n5_ n6_ n7_;(try clear hb);(try clear hkp);(try clear hy0))|((with_reducible refine gate_callee (f:=37) rfl ?_);refine goesL_ (some 79) rfl rfl Try.func37 (by kernel_rfl) rfl #[.slice Ao84 t570.length co84,.int .i64 1] rfl (by (try simp only [List.map_toArray,List.map_cons,List.map_nil]);first|done|(rw [show t570.length = t555.length from (zN HO_11.out).1.symm] <;> rfl)|rfl|(simp only [List.length_drop,List.length_take];rfl)) ?_;(with_reducible refine (laws_heldCellS.calls kj60 _ _ t570 1 t571 _ ?side1 ?side2 A82.out).mono ?_);(case side1=>repeat (first|exact (zN HO_11.out).2.2|(with_reducible first|refine zG ?_ _|refine zH ?_ _|refine zI ?_)));(case side2=>rw [show t570.length = t555.length from (zN HO_11.out).1.symm];exact (zN HO_11.out).2.1);rintro e w' ⟨rfl,⟨nd,rfl⟩⟩;refine ⟨_,rfl,?_⟩))
          go_ret
          exact ⟨by first|rfl|(simp [errW_none,errW_some] <;> rfl)|(simp [*,errW_none,errW_some] <;> rfl),by repeat (first|(with_reducible first|exact HB.out|apply zD|apply zE|apply zF|refine below_set ?_ GE528.out|refine below_set ?_ GE529.out|refine below_set ?_ GE530.out|refine below_set ?_ GE550.out)|exact HB.out)⟩
         ·rw [if_neg c83] at H
          have c83b0:decide (t571 < 0) = false:=decide_eq_false c83
          clear c83;by_cases c86:t571 = t569
          ·rw [if_pos c86] at H
           have c86b0:(t571 == t569) = true:=beq_iff_eq.mpr c86
           have c86b1:(t571 != t569) = false:=bne_eq_false_iff_eq.mpr c86
           clear c86;replace H:=Option.bind_eq_some_iff.mp H;obtain ⟨⟨t572,t573,t574⟩,A870,H⟩:=H;replace H:((laws_toCell.f a1_0 a1_1).bind fun bt577=>((laws_toCell.f a2_0 a2_1).bind fun bt579=>((impl_ShortestPath.f t572 t573 t574 bt577.1 bt577.2 bt579.1 bt579.2).bind fun bt581=>((laws_eqCellS.f kj60 bt581.1 t541).bind fun t585=>(if t585 = true then (laws_FnExactShortestPath.j2 kj60 t570 t569 (bt581.2 != t544)) else (laws_FnExactShortestPath.j2 kj60 t570 t569 true)))))) = some r:=H
           have A87:=zM A870;clear A870;replace H:=Option.bind_eq_some_iff.mp H;obtain ⟨⟨t577,t578⟩,A880,H⟩:=H;replace H:((laws_toCell.f a2_0 a2_1).bind fun bt579=>((impl_ShortestPath.f t572 t573 t574 t577 t578 bt579.1 bt579.2).bind fun bt581=>((laws_eqCellS.f kj60 bt581.1 t541).bind fun t585=>(if t585 = true then (laws_FnExactShortestPath.j2 kj60 t570 t569 (bt581.2 != t544)) else (laws_FnExactShortestPath.j2 kj60 t570 t569 true))))) = some r:=H
           have A88:=zM A880;clear A880;replace H:=Option.bind_eq_some_iff.mp H;obtain ⟨⟨t579,t580⟩,A890,H⟩:=H;replace H:((impl_ShortestPath.f t572 t573 t574 t577 t578 t579 t580).bind fun bt581=>((laws_eqCellS.f kj60 bt581.1 t541).bind fun t585=>(if t585 = true then (laws_FnExactShortestPath.j2 kj60 t570 t569 (bt581.2 != t544)) else (laws_FnExactShortestPath.j2 kj60 t570 t569 true)))) = some r:=H
           have A89:=zM A890;clear A890;replace H:=Option.bind_eq_some_iff.mp H;obtain ⟨⟨t581,t584⟩,A900,H⟩:=H;replace H:((laws_eqCellS.f kj60 t581 t541).bind fun t585=>(if t585 = true then (laws_FnExactShortestPath.j2 kj60 t570 t569 (t584 != t544)) else (laws_FnExactShortestPath.j2 kj60 t570 t569 true))) = some r:=H
           have A90:=zM A900;clear A900;have HC91:=zM H;clear H;obtain ⟨Ao92,co92,eo92⟩:=Kd.R_slice HO_11.out;subst eo92;try go_wp2_with (first|((with_reducible refine gate_callee (f:=36) rfl ?_);refine goesL_ (some 76) rfl rfl Try.func36 (by kernel_rfl) rfl #[.slice Ao92 t555.length co92,.int .i64 1] rfl (by (try simp only [List.map_toArray,List.map_cons,List.map_nil]);first|done|rfl|(simp only [List.length_drop,List.length_take];rfl)) ?_;(with_reducible refine (laws_markCellS.calls kj60 (fun k_=>some k_ = (.slice Ao92 t555.length co92:Value).ownBlock) (.slice Ao92 t555.length co92) t555 1 t569 t570 w _ ?side1 ?side2 A81.out).mono ?_);(case side1=>repeat (first|(with_reducible first|exact HB.out|apply zD|apply zE|apply zF|refine below_set ?_ GE528.out|refine below_set ?_ GE529.out|refine below_set ?_ GE530.out|refine below_set ?_ GE550.out)|exact HB.out));(case side2=>exact Kd.R_tight rfl HO_11.out);rintro e w93 ⟨rfl,hy0,hb,hkp⟩;refine ⟨_,rfl,?_⟩;have n0_:=zM (Kd.R_mono (ok':=fun k_=>some k_ ≠ (.slice Ao92 t555.length co92:Value).ownBlock ∧ some k_ ≠ (.slice Ao42 t567.length co42:Value).ownBlock) (Kd.R_keptB (HO_8.out) hkp (fun k_ hk_ hs_=>(hk_.1) hs_)) (fun k_ hk_=>⟨hk_.1.1,hk_.1.2⟩));have n1_:=zM (Kd.R_reok rfl hy0 (fun k_ e_=>HO_11.out.1 k_ e_));have n2_:=zM (Kd.R_mono (ok':=fun k_=>some k_ ≠ (v542:Value).ownBlock ∧ some k_ ≠ (.slice Ao92 t555.length co92:Value).ownBlock) (Kd.R_keptB (HO_551002.out) hkp (fun k_ hk_ hs_=>(hk_.2) hs_)) (fun k_ hk_=>⟨hk_.1.1,hk_.1.2⟩));have n3_:=zM (blk_kept (by (with_reducible repeat (first|refine zJ ?_ _|refine zK ?_|refine zL ?_ _));exact BK528.out) hkp (fun hs_=>(fun e_=>(Kd.R_ne HO_11.out BK528.out (by decide)) e_) hs_));have n4_:=zM (blk_kept (by (with_reducible repeat (first|refine zJ ?_ _|refine zK ?_|refine zL ?_ _));exact BK529.out) hkp (fun hs_=>(fun e_=>(Kd.R_ne HO_11.out BK529.out (by decide)) e_) hs_));have n5_:=zM (blk_kept (by (with_reducible repeat (first|refine zJ ?_ _|refine zK ?_|refine zL ?_ _));exact BK530.out) hkp (fun hs_=>(fun e_=>(Kd.R_ne HO_11.out BK530.out (by decide)) e_) hs_));have n6_:=zM (blk_kept (by (with_reducible repeat (first|refine zJ ?_ _|refine zK ?_|refine zL ?_ _));exact BK550.out) hkp (fun hs_=>(fun e_=>(Kd.R_ne HO_11.out BK550.out (by decide)) e_) hs_));have n7_:=zM (hb);clear HO_8;clear HO_11;clear HO_551002;clear BK528;clear BK529;clear BK530;clear BK550;clear HB;have HO_8:=n0_;have HO_11:=n1_;have HO_551002:=n2_;have BK528:=n3_;have BK529:=n4_;have BK530:=n5_;have BK550:=n6_;have HB:=n7_;clear n0_ n1_ n2_ n3_ n4_ n5_ n6_ n7_;(try clear hb);(try clear hkp);(try clear hy0))|((with_reducible refine gate_callee (f:=37) rfl ?_);refine goesL_ (some 79) rfl rfl Try.func37 (by kernel_rfl) rfl #[.slice Ao92 t570.length co92,.int .i64 1] rfl (by (try simp only [List.map_toArray,List.map_cons,List.map_nil]);first|done|(rw [show t570.length = t555.length from (zN HO_11.out).1.symm] <;> rfl)|rfl|(simp only [List.length_drop,List.length_take];rfl)) ?_;(with_reducible refine (laws_heldCellS.calls kj60 _ _ t570 1 t571 _ ?side1 ?side2 A82.out).mono ?_);(case side1=>repeat (first|exact (zN HO_11.out).2.2|(with_reducible first|refine zG ?_ _|refine zH ?_ _|refine zI ?_)));(case side2=>rw [show t570.length = t555.length from (zN HO_11.out).1.symm];exact (zN HO_11.out).2.1);rintro e w' ⟨rfl,⟨nd,rfl⟩⟩;refine ⟨_,rfl,?_⟩))
           (try (rw [drewN_self w93];generalize hq_:World.drewN w93 _ = w93;have n0_:Aside0 (Kd.R k48 48 w93 w.heap.size (fun k_=>some k_ ≠ (.slice Ao42 t567.length co42:Value).ownBlock ∧ some k_ ≠ (v542:Value).ownBlock) (.slice Ao92 t555.length co92) t570):=⟨by rw [← hq_];exact (by (with_reducible repeat (first|apply zA|apply zB|apply zC));exact Kd.R_mono HO_11.out (fun _ hk=>⟨hk.2,hk.1⟩))⟩;have n1_:Aside0 (Kd.R k48 48 w93 w.heap.size (fun k_=>some k_ ≠ (.slice Ao92 t555.length co92:Value).ownBlock ∧ some k_ ≠ (v542:Value).ownBlock) (.slice Ao42 t567.length co42) t567):=⟨by rw [← hq_];exact (by (with_reducible repeat (first|apply zA|apply zB|apply zC));exact Kd.R_mono HO_551002.out (fun _ hk=>⟨hk.2,hk.1⟩))⟩;have n2_:Aside0 (Kd.R k48 48 w93 w.heap.size (fun k_=>some k_ ≠ (.slice Ao92 t555.length co92:Value).ownBlock ∧ some k_ ≠ (.slice Ao42 t567.length co42:Value).ownBlock) v542 t541):=⟨by rw [← hq_];exact (by (with_reducible repeat (first|apply zA|apply zB|apply zC));exact HO_8.out)⟩;have n3_:Aside0 (w93.heap[gb528]? = some (.cells #[.int .i64 a0_0,.int .i64 a0_1,.slice A0_2 l0_2.length c0_2] 24 (0,0))):=⟨by rw [← hq_];exact (by (with_reducible repeat (first|refine zJ ?_ _|refine zK ?_|refine zL ?_ _));exact BK528.out)⟩;have n4_:Aside0 (w93.heap[gb529]? = some (.cells #[.int .i64 a1_0,.int .i64 a1_1] 44 (0,0))):=⟨by rw [← hq_];exact (by (with_reducible repeat (first|refine zJ ?_ _|refine zK ?_|refine zL ?_ _));exact BK529.out)⟩;have n5_:Aside0 (w93.heap[gb530]? = some (.cells #[.int .i64 a2_0,.int .i64 a2_1] 44 (0,0))):=⟨by rw [← hq_];exact (by (with_reducible repeat (first|refine zJ ?_ _|refine zK ?_|refine zL ?_ _));exact BK530.out)⟩;have n6_:Aside0 (w93.heap[gb550]? = some (.cells #[.int .i64 t545,.int .i64 t546,.slice Ao42 t567.length co42] 29 (0,0))):=⟨by rw [← hq_];exact (by (with_reducible repeat (first|refine zJ ?_ _|refine zK ?_|refine zL ?_ _));exact BK550.out)⟩;have n7_:Aside0 (Below w.heap.size w w93):=⟨by rw [← hq_];exact (by repeat (first|(with_reducible first|exact HB.out|apply zD|apply zE|apply zF|refine below_set ?_ GE528.out|refine below_set ?_ GE529.out|refine below_set ?_ GE530.out|refine below_set ?_ GE550.out)|exact HB.out))⟩;clear HO_11 HO_551002 HO_8 BK528 BK529 BK530 BK550 HB hq_;have HO_11:=n0_;have HO_551002:=n1_;have HO_8:=n2_;have BK528:=n3_;have BK529:=n4_;have BK530:=n5_;have BK550:=n6_;have HB:=n7_;clear n0_ n1_ n2_ n3_ n4_ n5_ n6_ n7_))
           have n0_:=zM (zC HO_8.out);have n1_:=zM (zC HO_11.out);have n2_:=zM (zC HO_551002.out);have n3_:=zM (zK BK528.out);have n4_:=zM (zK BK529.out);have n5_:=zM (zK BK530.out);have n6_:=zM (zK BK550.out);have n7_:=zM (zF HB.out);clear HO_8;clear HO_11;clear HO_551002;clear BK528;clear BK529;clear BK530;clear BK550;clear HB;have HO_8:=n0_;have HO_11:=n1_;have HO_551002:=n2_;have BK528:=n3_;have BK529:=n4_;have BK530:=n5_;have BK550:=n6_;have HB:=n7_;clear n0_ n1_ n2_ n3_ n4_ n5_ n6_ n7_;refine start_ (n:=12) (S:=fun w'=>w'.cell? ⟨gb528,0,none⟩ = some (.int .i64 a0_0) ∧ w'.cell? ⟨gb528,1,none⟩ = some (.int .i64 a0_1) ∧ w'.cell? ⟨gb528,2,none⟩ = some (.slice A0_2 l0_2.length c0_2) ∧ w'.cell? ⟨gb529,0,none⟩ = some (.int .i64 a1_0) ∧ w'.cell? ⟨gb529,1,none⟩ = some (.int .i64 a1_1) ∧ w'.cell? ⟨gb530,0,none⟩ = some (.int .i64 a2_0) ∧ w'.cell? ⟨gb530,1,none⟩ = some (.int .i64 a2_1)) (ds:=[]) #[false,false,false,false,false,false,false,false,false,false,false,false] (by kernel_rfl) rfl rfl ⟨(blk_cell BK528.out 0).trans rfl,(blk_cell BK528.out 1).trans rfl,(blk_cell BK528.out 2).trans rfl,(blk_cell BK529.out 0).trans rfl,(blk_cell BK529.out 1).trans rfl,(blk_cell BK530.out 0).trans rfl,(blk_cell BK530.out 1).trans rfl⟩ (fun hHeld=>?_);refine with_tabW laws_FnExactShortestPath.tab24 laws_FnExactShortestPath.bits24 (fun HT_ HW_=>?_)
           generalize w93.drew = w94 at HO_8 HO_11 HO_551002 BK528 BK529 BK530 BK550 HB hHeld ⊢
           refine take_ (i:=0) (N:=some 86) (v:=?_) (a':=?_) #[true,false,false,false,false,false,false,false,false,false,false,false] rfl rfl (take_ofW HT_.out HW_.out (by kernel_rfl)) (fun _ _ _ h=>h) (Or.inl ⟨by rfl,?_⟩) hHeld ?_ ?_
           rotate_left
           ·rintro w' ⟨s0,s1,s2,s3,s4,s5,s6⟩
            go_simp
            with_reducible rfl
           rotate_left
           ·simp only [Act.put,zT,zU,zV,i64_w,i32_w]
            rfl
           refine take_ (i:=2) (N:=some 88) (v:=?_) (a':=?_) #[true,false,true,false,false,false,false,false,false,false,false,false] rfl rfl (take_ofW HT_.out HW_.out (by kernel_rfl)) (fun _ _ _ h=>h) (Or.inl ⟨by rfl,?_⟩) hHeld ?_ ?_
           rotate_left
           ·rintro w' ⟨s0,s1,s2,s3,s4,s5,s6⟩
            go_simp
            with_reducible rfl
           rotate_left
           ·simp only [Act.put,zT,zU,zV,i64_w,i32_w]
            rfl
           refine take_ (i:=4) (N:=some 90) (v:=?_) (a':=?_) #[true,false,true,false,true,false,false,false,false,false,false,false] rfl rfl (take_ofW HT_.out HW_.out (by kernel_rfl)) (fun _ _ _ h=>h) (Or.inl ⟨by rfl,?_⟩) hHeld ?_ ?_
           rotate_left
           ·rintro w' ⟨s0,s1,s2,s3,s4,s5,s6⟩
            go_simp
            with_reducible rfl
           rotate_left
           ·simp only [Act.put,zT,zU,zV,i64_w,i32_w]
            rfl
           refine one_ (i:=1) (N:=some 87) #[true,true,true,false,true,false,false,false,false,false,false,false] rfl rfl (one_of HT_.out (by kernel_rfl)) (by decide) (fun K hK=>?_)
           refine goes_ Try.func15 (by kernel_rfl) rfl #[.agg #[.int .i64 a0_0,.int .i64 a0_1,.slice A0_2 l0_2.length c0_2]] (by rfl) rfl rfl (by (try simp only [List.map_toArray,List.map_cons,List.map_nil]);first|done|rfl|(simp only [List.length_drop,List.length_take];rfl)) ?_
           with_reducible refine (laws_toFloor.calls kj60 a0_0 a0_1 _ _ l0_2 t572 t573 t574 _ ?side1 ?side2 A87.out).mono ?_
           (case side1=>repeat (first|exact (zO HR0_2.out HB.out)|(with_reducible first|refine zG ?_ _|refine zH ?_ _|refine zI ?_)))
           (case side2=>exact HC0_2.out)
           rintro e w95 ⟨v575,rfl,ho0,hb⟩
           refine ⟨_,rfl,?_⟩
           have n0_:=zM (Kd.R_elder' (by (with_reducible repeat (first|apply zA|apply zB|apply zC));exact HO_8.out) (Kd.R_base ho0) hb)
           have n1_:=zM (Kd.R_elder' (by (with_reducible repeat (first|apply zA|apply zB|apply zC));exact HO_11.out) (Kd.R_base ho0) hb)
           have n2_:=zM (Kd.R_elder' (by (with_reducible repeat (first|apply zA|apply zB|apply zC));exact HO_551002.out) (Kd.R_base ho0) hb)
           have n3_:=zM (Kd.R_lower (Kd.R_new' (Kd.R_new' (Kd.R_new' ho0 (Kd.R_lt (by (with_reducible repeat (first|apply zA|apply zB|apply zC));exact HO_8.out))) (Kd.R_lt (by (with_reducible repeat (first|apply zA|apply zB|apply zC));exact HO_11.out))) (Kd.R_lt (by (with_reducible repeat (first|apply zA|apply zB|apply zC));exact HO_551002.out))) (zR (by repeat (first|(with_reducible first|exact HB.out|apply zD|apply zE|apply zF|refine below_set ?_ GE528.out|refine below_set ?_ GE529.out|refine below_set ?_ GE530.out|refine below_set ?_ GE550.out)|exact HB.out))))
           have n4_:=zM (blk_below (g:=gb528) (o := .cells #[.int .i64 a0_0,.int .i64 a0_1,.slice A0_2 l0_2.length c0_2] 24 (0,0)) (by (with_reducible repeat (first|refine zJ ?_ _|refine zK ?_|refine zL ?_ _));exact BK528.out) hb)
           have n5_:=zM (blk_below (g:=gb529) (o := .cells #[.int .i64 a1_0,.int .i64 a1_1] 44 (0,0)) (by (with_reducible repeat (first|refine zJ ?_ _|refine zK ?_|refine zL ?_ _));exact BK529.out) hb)
           have n6_:=zM (blk_below (g:=gb530) (o := .cells #[.int .i64 a2_0,.int .i64 a2_1] 44 (0,0)) (by (with_reducible repeat (first|refine zJ ?_ _|refine zK ?_|refine zL ?_ _));exact BK530.out) hb)
           have n7_:=zM (blk_below (g:=gb550) (o := .cells #[.int .i64 t545,.int .i64 t546,.slice Ao42 t567.length co42] 29 (0,0)) (by (with_reducible repeat (first|refine zJ ?_ _|refine zK ?_|refine zL ?_ _));exact BK550.out) hb)
           have n8_:=zM (zQ (by repeat (first|(with_reducible first|exact HB.out|apply zD|apply zE|apply zF|refine below_set ?_ GE528.out|refine below_set ?_ GE529.out|refine below_set ?_ GE530.out|refine below_set ?_ GE550.out)|exact HB.out)) hb)
           clear HO_8;clear HO_11;clear HO_551002;clear BK528;clear BK529;clear BK530;clear BK550;clear HB;have HO_8:=n0_;have HO_11:=n1_;have HO_551002:=n2_;have HO576:=n3_;have BK528:=n4_;have BK529:=n5_;have BK530:=n6_;have BK550:=n7_;have HB:=n8_;clear n0_ n1_ n2_ n3_ n4_ n5_ n6_ n7_ n8_;(try clear hb)
           (try clear hb2)
           (try clear hk)
           (try clear hi)
           (try clear ho0)
           refine hK.out _ _ ⟨(blk_cell BK528.out 0).trans rfl,(blk_cell BK528.out 1).trans rfl,(blk_cell BK528.out 2).trans rfl,(blk_cell BK529.out 0).trans rfl,(blk_cell BK529.out 1).trans rfl,(blk_cell BK530.out 0).trans rfl,(blk_cell BK530.out 1).trans rfl⟩ (fun hHeld=>?_)
           clear hK K;refine norm_ (a':=?_) ?_ ?_
           rotate_left
           ·show Act.put _ (some 87) _ = _
            simp only [Act.put,zT,zU,zV,i64_w,i32_w]
            rfl
           refine one_ (i:=3) (N:=some 89) #[true,true,true,true,true,false,false,false,false,false,false,false] rfl rfl (one_of HT_.out (by kernel_rfl)) (by decide) (fun K hK=>?_)
           refine goes_ Try.func28 (by kernel_rfl) rfl #[.agg #[.int .i64 a1_0,.int .i64 a1_1]] (by rfl) rfl rfl (by (try simp only [List.map_toArray,List.map_cons,List.map_nil]);first|done|rfl|(simp only [List.length_drop,List.length_take];rfl)) ?_
           with_reducible refine (laws_toCell.calls a1_0 a1_1 t577 t578 _ A88.out).mono ?_
           rintro e w96 ⟨rfl,hb⟩
           refine ⟨_,rfl,?_⟩
           have n0_:=zM (zP (by (with_reducible repeat (first|apply zA|apply zB|apply zC));exact HO_8.out) hb)
           have n1_:=zM (zP (by (with_reducible repeat (first|apply zA|apply zB|apply zC));exact HO_11.out) hb)
           have n2_:=zM (zP (by (with_reducible repeat (first|apply zA|apply zB|apply zC));exact HO_551002.out) hb)
           have n3_:=zM (zP (by (with_reducible repeat (first|apply zA|apply zB|apply zC));exact HO576.out) hb)
           have n4_:=zM (blk_below (g:=gb528) (o := .cells #[.int .i64 a0_0,.int .i64 a0_1,.slice A0_2 l0_2.length c0_2] 24 (0,0)) (by (with_reducible repeat (first|refine zJ ?_ _|refine zK ?_|refine zL ?_ _));exact BK528.out) hb)
           have n5_:=zM (blk_below (g:=gb529) (o := .cells #[.int .i64 a1_0,.int .i64 a1_1] 44 (0,0)) (by (with_reducible repeat (first|refine zJ ?_ _|refine zK ?_|refine zL ?_ _));exact BK529.out) hb)
           have n6_:=zM (blk_below (g:=gb530) (o := .cells #[.int .i64 a2_0,.int .i64 a2_1] 44 (0,0)) (by (with_reducible repeat (first|refine zJ ?_ _|refine zK ?_|refine zL ?_ _));exact BK530.out) hb)
           have n7_:=zM (blk_below (g:=gb550) (o := .cells #[.int .i64 t545,.int .i64 t546,.slice Ao42 t567.length co42] 29 (0,0)) (by (with_reducible repeat (first|refine zJ ?_ _|refine zK ?_|refine zL ?_ _));exact BK550.out) hb)
           have n8_:=zM (zQ (by repeat (first|(with_reducible first|exact HB.out|apply zD|apply zE|apply zF|refine below_set ?_ GE528.out|refine below_set ?_ GE529.out|refine below_set ?_ GE530.out|refine below_set ?_ GE550.out)|exact HB.out)) hb)
           clear HO_8;clear HO_11;clear HO_551002;clear HO576;clear BK528;clear BK529;clear BK530;clear BK550;clear HB;have HO_8:=n0_;have HO_11:=n1_;have HO_551002:=n2_;have HO576:=n3_;have BK528:=n4_;have BK529:=n5_;have BK530:=n6_;have BK550:=n7_;have HB:=n8_;clear n0_ n1_ n2_ n3_ n4_ n5_ n6_ n7_ n8_;(try clear hb)
           (try clear hb2)
           (try clear hk)
           (try clear hi)
           refine hK.out _ _ ⟨(blk_cell BK528.out 0).trans rfl,(blk_cell BK528.out 1).trans rfl,(blk_cell BK528.out 2).trans rfl,(blk_cell BK529.out 0).trans rfl,(blk_cell BK529.out 1).trans rfl,(blk_cell BK530.out 0).trans rfl,(blk_cell BK530.out 1).trans rfl⟩ (fun hHeld=>?_)
           clear hK K;refine norm_ (a':=?_) ?_ ?_
           rotate_left
           ·show Act.put _ (some 89) _ = _
            simp only [Act.put,zT,zU,zV,i64_w,i32_w]
            rfl
           refine one_ (i:=5) (N:=some 91) #[true,true,true,true,true,true,false,false,false,false,false,false] rfl rfl (one_of HT_.out (by kernel_rfl)) (by decide) (fun K hK=>?_)
           refine goes_ Try.func28 (by kernel_rfl) rfl #[.agg #[.int .i64 a2_0,.int .i64 a2_1]] (by rfl) rfl rfl (by (try simp only [List.map_toArray,List.map_cons,List.map_nil]);first|done|rfl|(simp only [List.length_drop,List.length_take];rfl)) ?_
           with_reducible refine (laws_toCell.calls a2_0 a2_1 t579 t580 _ A89.out).mono ?_
           rintro e w97 ⟨rfl,hb⟩
           refine ⟨_,rfl,?_⟩
           have n0_:=zM (zP (by (with_reducible repeat (first|apply zA|apply zB|apply zC));exact HO_8.out) hb)
           have n1_:=zM (zP (by (with_reducible repeat (first|apply zA|apply zB|apply zC));exact HO_11.out) hb)
           have n2_:=zM (zP (by (with_reducible repeat (first|apply zA|apply zB|apply zC));exact HO_551002.out) hb)
           have n3_:=zM (zP (by (with_reducible repeat (first|apply zA|apply zB|apply zC));exact HO576.out) hb)
           have n4_:=zM (blk_below (g:=gb528) (o := .cells #[.int .i64 a0_0,.int .i64 a0_1,.slice A0_2 l0_2.length c0_2] 24 (0,0)) (by (with_reducible repeat (first|refine zJ ?_ _|refine zK ?_|refine zL ?_ _));exact BK528.out) hb)
           have n5_:=zM (blk_below (g:=gb529) (o := .cells #[.int .i64 a1_0,.int .i64 a1_1] 44 (0,0)) (by (with_reducible repeat (first|refine zJ ?_ _|refine zK ?_|refine zL ?_ _));exact BK529.out) hb)
           have n6_:=zM (blk_below (g:=gb530) (o := .cells #[.int .i64 a2_0,.int .i64 a2_1] 44 (0,0)) (by (with_reducible repeat (first|refine zJ ?_ _|refine zK ?_|refine zL ?_ _));exact BK530.out) hb)
           have n7_:=zM (blk_below (g:=gb550) (o := .cells #[.int .i64 t545,.int .i64 t546,.slice Ao42 t567.length co42] 29 (0,0)) (by (with_reducible repeat (first|refine zJ ?_ _|refine zK ?_|refine zL ?_ _));exact BK550.out) hb)
           have n8_:=zM (zQ (by repeat (first|(with_reducible first|exact HB.out|apply zD|apply zE|apply zF|refine below_set ?_ GE528.out|refine below_set ?_ GE529.out|refine below_set ?_ GE530.out|refine below_set ?_ GE550.out)|exact HB.out)) hb)
           clear HO_8;clear HO_11;clear HO_551002;clear HO576;clear BK528;clear BK529;clear BK530;clear BK550;clear HB;have HO_8:=n0_;have HO_11:=n1_;have HO_551002:=n2_;have HO576:=n3_;have BK528:=n4_;have BK529:=n5_;have BK530:=n6_;have BK550:=n7_;have HB:=n8_;clear n0_ n1_ n2_ n3_ n4_ n5_ n6_ n7_ n8_;(try clear hb)
           (try clear hb2)
           (try clear hk)
           (try clear hi)
           obtain ⟨Ao98,co98,eo98⟩:=Kd.R_slice HO576.out;(first|subst eo98|(injection eo98 with f1_ f2_ f3_;have f4_:=f1_.symm;have f5_:=f3_.symm;clear f1_ f2_ f3_;subst f4_;subst f5_))
           refine hK.out _ _ ⟨(blk_cell BK528.out 0).trans rfl,(blk_cell BK528.out 1).trans rfl,(blk_cell BK528.out 2).trans rfl,(blk_cell BK529.out 0).trans rfl,(blk_cell BK529.out 1).trans rfl,(blk_cell BK530.out 0).trans rfl,(blk_cell BK530.out 1).trans rfl⟩ (fun hHeld=>?_)
           clear hK K;refine norm_ (a':=?_) ?_ ?_
           rotate_left
           ·show Act.put _ (some 91) _ = _
            simp only [Act.put,zT,zU,zV,i64_w,i32_w]
            rfl
           refine one_ (i:=6) (N:=some 92) #[true,true,true,true,true,true,true,false,false,false,false,false] rfl rfl (one_of HT_.out (by kernel_rfl)) (by decide) (fun K hK=>?_)
           refine goes_ Try.func35 (by kernel_rfl) rfl #[.agg #[.int .i64 t572,.int .i64 t573,.slice Ao98 t574.length co98],.agg #[.int .i64 t577,.int .i64 t578],.agg #[.int .i64 t579,.int .i64 t580]] (by rfl) rfl rfl (by (try simp only [List.map_toArray,List.map_cons,List.map_nil]);first|done|rfl|(simp only [List.length_drop,List.length_take];rfl)) ?_
           with_reducible refine (impl_ShortestPath.calls t572 t573 _ _ t574 t577 t578 t579 t580 t581 t584 _ ?side1 ?side2 A90.out).mono ?_
           (case side1=>repeat (first|exact (zN HO576.out).2.2|(with_reducible first|refine zG ?_ _|refine zH ?_ _|refine zI ?_)))
           (case side2=>exact (zN HO576.out).2.1)
           rintro e w99 ⟨v582,rfl,ho0,hb⟩
           refine ⟨_,rfl,?_⟩
           have n0_:=zM (Kd.R_elder' (by (with_reducible repeat (first|apply zA|apply zB|apply zC));exact HO_8.out) (Kd.R_base ho0) hb)
           have n1_:=zM (Kd.R_elder' (by (with_reducible repeat (first|apply zA|apply zB|apply zC));exact HO_11.out) (Kd.R_base ho0) hb)
           have n2_:=zM (Kd.R_elder' (by (with_reducible repeat (first|apply zA|apply zB|apply zC));exact HO_551002.out) (Kd.R_base ho0) hb)
           have n3_:=zM (Kd.R_elder' (by (with_reducible repeat (first|apply zA|apply zB|apply zC));exact HO576.out) (Kd.R_base ho0) hb)
           have n4_:=zM (Kd.R_lower (Kd.R_new' (Kd.R_new' (Kd.R_new' (Kd.R_new' ho0 (Kd.R_lt (by (with_reducible repeat (first|apply zA|apply zB|apply zC));exact HO_8.out))) (Kd.R_lt (by (with_reducible repeat (first|apply zA|apply zB|apply zC));exact HO_11.out))) (Kd.R_lt (by (with_reducible repeat (first|apply zA|apply zB|apply zC));exact HO_551002.out))) (Kd.R_lt (by (with_reducible repeat (first|apply zA|apply zB|apply zC));exact HO576.out))) (zR (by repeat (first|(with_reducible first|exact HB.out|apply zD|apply zE|apply zF|refine below_set ?_ GE528.out|refine below_set ?_ GE529.out|refine below_set ?_ GE530.out|refine below_set ?_ GE550.out)|exact HB.out))))
           have n5_:=zM (blk_below (g:=gb528) (o := .cells #[.int .i64 a0_0,.int .i64 a0_1,.slice A0_2 l0_2.length c0_2] 24 (0,0)) (by (with_reducible repeat (first|refine zJ ?_ _|refine zK ?_|refine zL ?_ _));exact BK528.out) hb)
           have n6_:=zM (blk_below (g:=gb529) (o := .cells #[.int .i64 a1_0,.int .i64 a1_1] 44 (0,0)) (by (with_reducible repeat (first|refine zJ ?_ _|refine zK ?_|refine zL ?_ _));exact BK529.out) hb)
           have n7_:=zM (blk_below (g:=gb530) (o := .cells #[.int .i64 a2_0,.int .i64 a2_1] 44 (0,0)) (by (with_reducible repeat (first|refine zJ ?_ _|refine zK ?_|refine zL ?_ _));exact BK530.out) hb)
           have n8_:=zM (blk_below (g:=gb550) (o := .cells #[.int .i64 t545,.int .i64 t546,.slice Ao42 t567.length co42] 29 (0,0)) (by (with_reducible repeat (first|refine zJ ?_ _|refine zK ?_|refine zL ?_ _));exact BK550.out) hb)
           have n9_:=zM (zQ (by repeat (first|(with_reducible first|exact HB.out|apply zD|apply zE|apply zF|refine below_set ?_ GE528.out|refine below_set ?_ GE529.out|refine below_set ?_ GE530.out|refine below_set ?_ GE550.out)|exact HB.out)) hb)
           clear HO_8;clear HO_11;clear HO_551002;clear HO576;clear BK528;clear BK529;clear BK530;clear BK550;clear HB;have HO_8:=n0_;have HO_11:=n1_;have HO_551002:=n2_;have HO576:=n3_;have HO583:=n4_;have BK528:=n5_;have BK529:=n6_;have BK530:=n7_;have BK550:=n8_;have HB:=n9_;clear n0_ n1_ n2_ n3_ n4_ n5_ n6_ n7_ n8_ n9_;(try clear hb)
           (try clear hb2)
           (try clear hk)
           (try clear hi)
           (try clear ho0)
           refine hK.out _ _ ⟨(blk_cell BK528.out 0).trans rfl,(blk_cell BK528.out 1).trans rfl,(blk_cell BK528.out 2).trans rfl,(blk_cell BK529.out 0).trans rfl,(blk_cell BK529.out 1).trans rfl,(blk_cell BK530.out 0).trans rfl,(blk_cell BK530.out 1).trans rfl⟩ (fun hHeld=>?_)
           clear hK K;refine norm_ (a':=?_) ?_ ?_
           rotate_left
           ·show Act.put _ (some 92) _ = _
            simp only [Act.put,zT,zU,zV,i64_w,i32_w]
            rfl
           refine pure_ (i:=7) (N:=some 85) (v:=?_) (a':=?_) #[true,true,true,true,true,true,true,true,false,false,false,false] rfl rfl (any_of HT_.out (by kernel_rfl)) (fun _ _ _ h=>h) (Or.inl ⟨by rfl,?_⟩) ?_ ?_
           rotate_left
           ·intro w'
            go_simp
            with_reducible rfl
           rotate_left
           ·simp only [Act.put,zT,zU,zV,i64_w,i32_w]
            rfl
           refine pure_ (i:=8) (N:=some 93) (v:=?_) (a':=?_) #[true,true,true,true,true,true,true,true,true,false,false,false] rfl rfl (any_of HT_.out (by kernel_rfl)) (fun _ _ _ h=>h) (Or.inl ⟨by rfl,?_⟩) ?_ ?_
           rotate_left
           ·intro w'
            go_simp
            with_reducible rfl
           rotate_left
           ·simp only [Act.put,zT,zU,zV,i64_w,i32_w]
            rfl
           refine pure_ (i:=9) (N:=some 94) (v:=?_) (a':=?_) #[true,true,true,true,true,true,true,true,true,true,false,false] rfl rfl (any_of HT_.out (by kernel_rfl)) (fun _ _ _ h=>h) (Or.inl ⟨by rfl,?_⟩) ?_ ?_
           rotate_left
           ·intro w'
            go_simp
            with_reducible rfl
           rotate_left
           ·simp only [Act.put,zT,zU,zV,i64_w,i32_w]
            rfl
           refine pure_ (i:=10) (N:=some 16) (v:=?_) (a':=?_) #[true,true,true,true,true,true,true,true,true,true,true,false] rfl rfl (any_of HT_.out (by kernel_rfl)) (fun _ _ _ h=>h) (Or.inl ⟨by rfl,?_⟩) ?_ ?_
           rotate_left
           ·intro w'
            go_simp
            with_reducible rfl
           rotate_left
           ·simp only [Act.put,zT,zU,zV,i64_w,i32_w]
            rfl
           refine pure_ (i:=11) (N:=some 17) (v:=?_) (a':=?_) #[true,true,true,true,true,true,true,true,true,true,true,true] rfl rfl (any_of HT_.out (by kernel_rfl)) (fun _ _ _ h=>h) (Or.inl ⟨by rfl,?_⟩) ?_ ?_
           rotate_left
           ·intro w'
            go_simp
            with_reducible rfl
           rotate_left
           ·simp only [Act.put,zT,zU,zV,i64_w,i32_w]
            rfl
           refine done_ (done_of HT_.out (by kernel_rfl)) ?_
           go_upto_region 25 with (fail)
           go_cut [103] (fun v103 wc => ∃ (kq:Nat) (x103_90:Bool),v103 = .bool x103_90 ∧ Aside0 (laws_FnExactShortestPath.j2 kq t570 t569 x103_90 = some r) ∧ Aside0 (kq ≤ kj60) ∧ Aside0 (Kd.R k48 48 wc w.heap.size (fun k_=>some k_ ≠ ((.slice Ao42 t567.length co42):Value).ownBlock) (.slice Ao92 t555.length co92) t570) ∧ Aside0 (Kd.R k48 48 wc w.heap.size (fun k_=>some k_ ≠ ((.slice Ao92 t555.length co92):Value).ownBlock) (.slice Ao42 t567.length co42) t567) ∧ Aside0 (wc.heap[gb528]? = some (.cells #[.int .i64 a0_0,.int .i64 a0_1,(.slice A0_2 l0_2.length c0_2)] 24 (0,0))) ∧ Aside0 (wc.heap[gb529]? = some (.cells #[.int .i64 a1_0,.int .i64 a1_1] 44 (0,0))) ∧ Aside0 (wc.heap[gb530]? = some (.cells #[.int .i64 a2_0,.int .i64 a2_1] 44 (0,0))) ∧ Aside0 (wc.heap[gb550]? = some (.cells #[.int .i64 t545,.int .i64 t546,(.slice Ao42 t567.length co42)] 29 (0,0))) ∧ Aside0 (Below w.heap.size w wc))
           case first =>
            have H:=HC91.out;clear HC91;replace H:=Option.bind_eq_some_iff.mp H;obtain ⟨t585,A1000,H⟩:=H;replace H:(if t585 = true then (laws_FnExactShortestPath.j2 kj60 t570 t569 (t584 != t544)) else (laws_FnExactShortestPath.j2 kj60 t570 t569 true)) = some r:=H
            have A100:=zM A1000;clear A1000;by_cases c101:t585 = true
            ·subst c101
             have H1:(laws_FnExactShortestPath.j2 kj60 t570 t569 (t584 != t544)) = some r:=by rw [if_pos rfl] at H;exact H
             clear H;have H:=H1;clear H1;have H':=zM H;clear H;obtain ⟨Ao102,co102,eo102⟩:=Kd.R_slice HO583.out;subst eo102;obtain ⟨Ao103,co103,eo103⟩:=Kd.R_slice HO_8.out;subst eo103;go_wp2_with (first|((with_reducible refine gate_callee (f:=22) rfl ?_);refine goesL_ (some 97) rfl rfl Try.func22 (by kernel_rfl) rfl #[.slice Ao102 t581.length co102,.slice Ao103 t541.length co103] rfl (by (try simp only [List.map_toArray,List.map_cons,List.map_nil]);first|done|rfl|(simp only [List.length_drop,List.length_take];rfl)) ?_;(with_reducible refine (laws_eqCellS.calls kj60 _ _ t581 _ _ t541 true _ ?side1 ?side2 ?side3 ?side4 A100.out).mono ?_);(case side1=>repeat (first|exact (zN HO583.out).2.2|(with_reducible first|refine zG ?_ _|refine zH ?_ _|refine zI ?_)));(case side2=>exact (zN HO583.out).2.1);(case side3=>repeat (first|exact (zN HO_8.out).2.2|(with_reducible first|refine zG ?_ _|refine zH ?_ _|refine zI ?_)));(case side4=>exact (zN HO_8.out).2.1);rintro e w104 ⟨rfl,hb⟩;refine ⟨_,rfl,?_⟩;have n0_:=zM (zP (by (with_reducible repeat (first|apply zA|apply zB|apply zC));exact HO_8.out) hb);have n1_:=zM (zP (by (with_reducible repeat (first|apply zA|apply zB|apply zC));exact HO_11.out) hb);have n2_:=zM (zP (by (with_reducible repeat (first|apply zA|apply zB|apply zC));exact HO_551002.out) hb);have n3_:=zM (zP (by (with_reducible repeat (first|apply zA|apply zB|apply zC));exact HO576.out) hb);have n4_:=zM (zP (by (with_reducible repeat (first|apply zA|apply zB|apply zC));exact HO583.out) hb);have n5_:=zM (blk_below (g:=gb528) (o := .cells #[.int .i64 a0_0,.int .i64 a0_1,.slice A0_2 l0_2.length c0_2] 24 (0,0)) (by (with_reducible repeat (first|refine zJ ?_ _|refine zK ?_|refine zL ?_ _));exact BK528.out) hb);have n6_:=zM (blk_below (g:=gb529) (o := .cells #[.int .i64 a1_0,.int .i64 a1_1] 44 (0,0)) (by (with_reducible repeat (first|refine zJ ?_ _|refine zK ?_|refine zL ?_ _));exact BK529.out) hb);have n7_:=zM (blk_below (g:=gb530) (o := .cells #[.int .i64 a2_0,.int .i64 a2_1] 44 (0,0)) (by (with_reducible repeat (first|refine zJ ?_ _|refine zK ?_|refine zL ?_ _));exact BK530.out) hb);have n8_:=zM (blk_below (g:=gb550) (o := .cells #[.int .i64 t545,.int .i64 t546,.slice Ao42 t567.length co42] 29 (0,0)) (by (with_reducible repeat (first|refine zJ ?_ _|refine zK ?_|refine zL ?_ _));exact BK550.out) hb);have n9_:=zM (zQ (by repeat (first|(with_reducible first|exact HB.out|apply zD|apply zE|apply zF|refine below_set ?_ GE528.out|refine below_set ?_ GE529.out|refine below_set ?_ GE530.out|refine below_set ?_ GE550.out)|exact HB.out)) hb);clear HO_8;clear HO_11;clear HO_551002;clear HO576;clear HO583;clear BK528;clear BK529;clear BK530;clear BK550;clear HB;have HO_8:=n0_;have HO_11:=n1_;have HO_551002:=n2_;have HO576:=n3_;have HO583:=n4_;have BK528:=n5_;have BK529:=n6_;have BK530:=n7_;have BK550:=n8_;have HB:=n9_;clear n0_ n1_ n2_ n3_ n4_ n5_ n6_ n7_ n8_ n9_;(try clear hb);(try clear hb2);(try clear hk);(try clear hi)))
             go_meet
             case rel=>exact ⟨_,((t584 != t544)),(by first|rfl|(simp;done)|(simp [*];done)),H',⟨by have:=HJ20.out;have:=HJ60.out;first|omega|exact Nat.le_refl _⟩,⟨by (try simp only [hl551002_60]);(with_reducible repeat (first|apply zA|apply zB|apply zC));exact Kd.R_mono HO_11.out (fun _ hk=>(by first|exact hk.1.1.2|exact hk.2|exact hk.1.2|exact hk.1.1.2|exact hk.1.1.1.2|exact hk.1.1.1.1.2|exact hk.1.1.1|exact hk.1.1|exact hk.1))⟩,⟨by (try simp only [hl551002_60]);(with_reducible repeat (first|apply zA|apply zB|apply zC));exact Kd.R_mono HO_551002.out (fun _ hk=>(by first|exact hk.1.1.2|exact hk.2|exact hk.1.2|exact hk.1.1.2|exact hk.1.1.1.2|exact hk.1.1.1.1.2|exact hk.1.1.1|exact hk.1.1|exact hk.1))⟩,⟨by (try simp only [hl551002_60]);(with_reducible repeat (first|refine zJ ?_ _|refine zK ?_|refine zL ?_ _));exact BK528.out⟩,⟨by (try simp only [hl551002_60]);(with_reducible repeat (first|refine zJ ?_ _|refine zK ?_|refine zL ?_ _));exact BK529.out⟩,⟨by (try simp only [hl551002_60]);(with_reducible repeat (first|refine zJ ?_ _|refine zK ?_|refine zL ?_ _));exact BK530.out⟩,⟨by (try simp only [hl551002_60]);(with_reducible repeat (first|refine zJ ?_ _|refine zK ?_|refine zL ?_ _));exact BK550.out⟩,⟨by repeat (first|(with_reducible first|exact HB.out|apply zD|apply zE|apply zF|refine below_set ?_ GE528.out|refine below_set ?_ GE529.out|refine below_set ?_ GE530.out|refine below_set ?_ GE550.out)|exact HB.out)⟩⟩
            ·replace c101:=Bool.eq_false_iff.mpr c101
             subst c101;have H1:(laws_FnExactShortestPath.j2 kj60 t570 t569 true) = some r:=by rw [if_neg (show ¬ (false = true) by decide)] at H;exact H
             clear H;have H:=H1;clear H1;have H':=zM H;clear H;obtain ⟨Ao105,co105,eo105⟩:=Kd.R_slice HO583.out;subst eo105;obtain ⟨Ao106,co106,eo106⟩:=Kd.R_slice HO_8.out;subst eo106;go_wp2_with (first|((with_reducible refine gate_callee (f:=22) rfl ?_);refine goesL_ (some 97) rfl rfl Try.func22 (by kernel_rfl) rfl #[.slice Ao105 t581.length co105,.slice Ao106 t541.length co106] rfl (by (try simp only [List.map_toArray,List.map_cons,List.map_nil]);first|done|rfl|(simp only [List.length_drop,List.length_take];rfl)) ?_;(with_reducible refine (laws_eqCellS.calls kj60 _ _ t581 _ _ t541 false _ ?side1 ?side2 ?side3 ?side4 A100.out).mono ?_);(case side1=>repeat (first|exact (zN HO583.out).2.2|(with_reducible first|refine zG ?_ _|refine zH ?_ _|refine zI ?_)));(case side2=>exact (zN HO583.out).2.1);(case side3=>repeat (first|exact (zN HO_8.out).2.2|(with_reducible first|refine zG ?_ _|refine zH ?_ _|refine zI ?_)));(case side4=>exact (zN HO_8.out).2.1);rintro e w107 ⟨rfl,hb⟩;refine ⟨_,rfl,?_⟩;have n0_:=zM (zP (by (with_reducible repeat (first|apply zA|apply zB|apply zC));exact HO_8.out) hb);have n1_:=zM (zP (by (with_reducible repeat (first|apply zA|apply zB|apply zC));exact HO_11.out) hb);have n2_:=zM (zP (by (with_reducible repeat (first|apply zA|apply zB|apply zC));exact HO_551002.out) hb);have n3_:=zM (zP (by (with_reducible repeat (first|apply zA|apply zB|apply zC));exact HO576.out) hb);have n4_:=zM (zP (by (with_reducible repeat (first|apply zA|apply zB|apply zC));exact HO583.out) hb);have n5_:=zM (blk_below (g:=gb528) (o := .cells #[.int .i64 a0_0,.int .i64 a0_1,.slice A0_2 l0_2.length c0_2] 24 (0,0)) (by (with_reducible repeat (first|refine zJ ?_ _|refine zK ?_|refine zL ?_ _));exact BK528.out) hb);have n6_:=zM (blk_below (g:=gb529) (o := .cells #[.int .i64 a1_0,.int .i64 a1_1] 44 (0,0)) (by (with_reducible repeat (first|refine zJ ?_ _|refine zK ?_|refine zL ?_ _));exact BK529.out) hb);have n7_:=zM (blk_below (g:=gb530) (o := .cells #[.int .i64 a2_0,.int .i64 a2_1] 44 (0,0)) (by (with_reducible repeat (first|refine zJ ?_ _|refine zK ?_|refine zL ?_ _));exact BK530.out) hb);have n8_:=zM (blk_below (g:=gb550) (o := .cells #[.int .i64 t545,.int .i64 t546,.slice Ao42 t567.length co42] 29 (0,0)) (by (with_reducible repeat (first|refine zJ ?_ _|refine zK ?_|refine zL ?_ _));exact BK550.out) hb);have n9_:=zM (zQ (by repeat (first|(with_reducible first|exact HB.out|apply zD|apply zE|apply zF|refine below_set ?_ GE528.out|refine below_set ?_ GE529.out|refine below_set ?_ GE530.out|refine below_set ?_ GE550.out)|exact HB.out)) hb);clear HO_8;clear HO_11;clear HO_551002;clear HO576;clear HO583;clear BK528;clear BK529;clear BK530;clear BK550;clear HB;have HO_8:=n0_;have HO_11:=n1_;have HO_551002:=n2_;have HO576:=n3_;have HO583:=n4_;have BK528:=n5_;have BK529:=n6_;have BK530:=n7_;have BK550:=n8_;have HB:=n9_;clear n0_ n1_ n2_ n3_ n4_ n5_ n6_ n7_ n8_ n9_;(try clear hb);(try clear hb2);(try clear hk);(try clear hi)))
             go_meet
             case rel=>exact ⟨_,(true),(by first|rfl|(simp;done)|(simp [*];done)),H',⟨by have:=HJ20.out;have:=HJ60.out;first|omega|exact Nat.le_refl _⟩,⟨by (try simp only [hl551002_60]);(with_reducible repeat (first|apply zA|apply zB|apply zC));exact Kd.R_mono HO_11.out (fun _ hk=>(by first|exact hk.1.1.2|exact hk.2|exact hk.1.2|exact hk.1.1.2|exact hk.1.1.1.2|exact hk.1.1.1.1.2|exact hk.1.1.1|exact hk.1.1|exact hk.1))⟩,⟨by (try simp only [hl551002_60]);(with_reducible repeat (first|apply zA|apply zB|apply zC));exact Kd.R_mono HO_551002.out (fun _ hk=>(by first|exact hk.1.1.2|exact hk.2|exact hk.1.2|exact hk.1.1.2|exact hk.1.1.1.2|exact hk.1.1.1.1.2|exact hk.1.1.1|exact hk.1.1|exact hk.1))⟩,⟨by (try simp only [hl551002_60]);(with_reducible repeat (first|refine zJ ?_ _|refine zK ?_|refine zL ?_ _));exact BK528.out⟩,⟨by (try simp only [hl551002_60]);(with_reducible repeat (first|refine zJ ?_ _|refine zK ?_|refine zL ?_ _));exact BK529.out⟩,⟨by (try simp only [hl551002_60]);(with_reducible repeat (first|refine zJ ?_ _|refine zK ?_|refine zL ?_ _));exact BK530.out⟩,⟨by (try simp only [hl551002_60]);(with_reducible repeat (first|refine zJ ?_ _|refine zK ?_|refine zL ?_ _));exact BK550.out⟩,⟨by repeat (first|(with_reducible first|exact HB.out|apply zD|apply zE|apply zF|refine below_set ?_ GE528.out|refine below_set ?_ GE529.out|refine below_set ?_ GE530.out|refine below_set ?_ GE550.out)|exact HB.out)⟩⟩
           case rest =>
            clear HC91;(try clear c1);(try clear c2);(try clear p2);(try clear c3);(try clear c4);(try clear c5);(try clear c5b0);(try clear c6);(try clear c7);(try clear c8);(try clear c9);(try clear c10);(try clear c13);(try clear c15);(try clear c17);(try clear c22);(try clear c25);(try clear c26);(try clear c28);(try clear c31);(try clear c34);(try clear c35);(try clear c36);(try clear c37);(try clear c38);(try clear c39);(try clear c40);(try clear c49);(try clear c56);(try clear c59);(try clear c66);(try clear c67);(try clear c68);(try clear c71);(try clear c71b0);(try clear c73);(try clear c80);(try clear c83);(try clear c83b0);(try clear c86);(try clear c86b0);(try clear c86b1);(try clear c101);(try clear hcz11_0);(try clear hcz11_1);(try clear hcz11_2);(try clear hcz27_0);(try clear hcz27_1);(try clear hcz27_2);(try clear hcz35_0);(try clear hcz35_1);(try clear hcz35_2);(try clear hcz41_0);(try clear hcz41_1);(try clear hcz41_2);(try clear hcz69_0);(try clear hcz69_1);(try clear hcz69_2);(try clear hfz11_0);(try clear hfz11_1);(try clear hfz11_2);(try clear hfz27_0);(try clear hfz27_1);(try clear hfz27_2);(try clear hfz35_0);(try clear hfz35_1);(try clear hfz35_2);(try clear hfz41_0);(try clear hfz41_1);(try clear hfz41_2);(try clear hfz69_0);(try clear hfz69_1);(try clear hfz69_2);(try clear p2);obtain ⟨kq,x103_90,rfl,HA,HJ90,HO_11,HO_551002,BK528,BK529,BK530,BK550,HB⟩:=hcut;have hl11_90:=(zN HO_11.out).1;rw [hl11_90] at HO_11;(try simp only [hl11_90])
            (try simp only [hl11_90] at BK528)
            (try simp only [hl11_90] at BK529)
            (try simp only [hl11_90] at BK530)
            (try simp only [hl11_90] at BK550)
            (try simp only [hl11_90] at HO_551002)
            cases kq with
            | zero=>exact absurd HA.out (by simp [laws_FnExactShortestPath.j2])
            | succ kj90 =>
             have H:=HA.out;clear HA;simp only [laws_FnExactShortestPath.j2] at H
             by_cases c108:x103_90 = true
             ·subst c108
              have H1:(some false) = some r:=by rw [if_pos rfl] at H;exact H
              clear H;have H:=H1;clear H1;obtain rfl:=Option.some.inj H;go_wp2
              go_ret
              exact ⟨by first|rfl|(simp [errW_none,errW_some] <;> rfl)|(simp [*,errW_none,errW_some] <;> rfl),by repeat (first|(with_reducible first|exact HB.out|apply zD|apply zE|apply zF|refine below_set ?_ GE528.out|refine below_set ?_ GE529.out|refine below_set ?_ GE530.out|refine below_set ?_ GE550.out)|exact HB.out)⟩
             ·replace c108:=Bool.eq_false_iff.mpr c108
              subst c108;have H1:((laws_heldCellS.f kj90 t570 1).bind fun t586=>(if t586 < 0 then (some false) else (if t586 = t569 then (some true) else (some false)))) = some r:=by rw [if_neg (show ¬ (false = true) by decide)] at H;exact H
              clear H;have H:=H1;clear H1;replace H:=Option.bind_eq_some_iff.mp H;obtain ⟨t586,A1090,H⟩:=H;replace H:(if t586 < 0 then (some false) else (if t586 = t569 then (some true) else (some false))) = some r:=H
              have A109:=zM A1090;clear A1090;by_cases c110:t586 < 0
              ·rw [if_pos c110] at H
               have c110b0:decide (t586 < 0) = true:=decide_eq_true c110
               clear c110;obtain rfl:=Option.some.inj H;go_wp2_with (first|((with_reducible refine gate_callee (f:=37) rfl ?_);refine goesL_ (some 106) rfl rfl Try.func37 (by kernel_rfl) rfl #[.slice Ao92 t570.length co92,.int .i64 1] rfl (by (try simp only [List.map_toArray,List.map_cons,List.map_nil]);first|done|rfl|(simp only [List.length_drop,List.length_take];rfl)) ?_;(with_reducible refine (laws_heldCellS.calls kj90 _ _ t570 1 t586 _ ?side1 ?side2 A109.out).mono ?_);(case side1=>repeat (first|exact (zN HO_11.out).2.2|(with_reducible first|refine zG ?_ _|refine zH ?_ _|refine zI ?_)));(case side2=>exact (zN HO_11.out).2.1);rintro e w' ⟨rfl,⟨nd,rfl⟩⟩;refine ⟨_,rfl,?_⟩))
               go_ret
               exact ⟨by first|rfl|(simp [errW_none,errW_some] <;> rfl)|(simp [*,errW_none,errW_some] <;> rfl),by repeat (first|(with_reducible first|exact HB.out|apply zD|apply zE|apply zF|refine below_set ?_ GE528.out|refine below_set ?_ GE529.out|refine below_set ?_ GE530.out|refine below_set ?_ GE550.out)|exact HB.out)⟩
              ·rw [if_neg c110] at H
               have c110b0:decide (t586 < 0) = false:=decide_eq_false c110
               clear c110;by_cases c111:t586 = t569
               ·rw [if_pos c111] at H
                have c111b0:(t586 == t569) = true:=beq_iff_eq.mpr c111
                have c111b1:(t586 != t569) = false:=bne_eq_false_iff_eq.mpr c111
                clear c111;obtain rfl:=Option.some.inj H;go_wp2_with (first|((with_reducible refine gate_callee (f:=37) rfl ?_);refine goesL_ (some 106) rfl rfl Try.func37 (by kernel_rfl) rfl #[.slice Ao92 t570.length co92,.int .i64 1] rfl (by (try simp only [List.map_toArray,List.map_cons,List.map_nil]);first|done|rfl|(simp only [List.length_drop,List.length_take];rfl)) ?_;(with_reducible refine (laws_heldCellS.calls kj90 _ _ t570 1 t586 _ ?side1 ?side2 A109.out).mono ?_);(case side1=>repeat (first|exact (zN HO_11.out).2.2|(with_reducible first|refine zG ?_ _|refine zH ?_ _|refine zI ?_)));(case side2=>exact (zN HO_11.out).2.1);rintro e w' ⟨rfl,⟨nd,rfl⟩⟩;refine ⟨_,rfl,?_⟩))
                go_ret
                exact ⟨by first|rfl|(simp [errW_none,errW_some] <;> rfl)|(simp [*,errW_none,errW_some] <;> rfl),by repeat (first|(with_reducible first|exact HB.out|apply zD|apply zE|apply zF|refine below_set ?_ GE528.out|refine below_set ?_ GE529.out|refine below_set ?_ GE530.out|refine below_set ?_ GE550.out)|exact HB.out)⟩
               ·rw [if_neg c111] at H
                have c111b0:(t586 == t569) = false:=beq_eq_false_iff_ne.mpr c111
                have c111b1:(t586 != t569) = true:=bne_iff_ne.mpr c111
                obtain rfl:=Option.some.inj H;go_wp2_with (first|((with_reducible refine gate_callee (f:=37) rfl ?_);refine goesL_ (some 106) rfl rfl Try.func37 (by kernel_rfl) rfl #[.slice Ao92 t570.length co92,.int .i64 1] rfl (by (try simp only [List.map_toArray,List.map_cons,List.map_nil]);first|done|rfl|(simp only [List.length_drop,List.length_take];rfl)) ?_;(with_reducible refine (laws_heldCellS.calls kj90 _ _ t570 1 t586 _ ?side1 ?side2 A109.out).mono ?_);(case side1=>repeat (first|exact (zN HO_11.out).2.2|(with_reducible first|refine zG ?_ _|refine zH ?_ _|refine zI ?_)));(case side2=>exact (zN HO_11.out).2.1);rintro e w' ⟨rfl,⟨nd,rfl⟩⟩;refine ⟨_,rfl,?_⟩))
                go_ret
                exact ⟨by first|rfl|(simp [errW_none,errW_some] <;> rfl)|(simp [*,errW_none,errW_some] <;> rfl),by repeat (first|(with_reducible first|exact HB.out|apply zD|apply zE|apply zF|refine below_set ?_ GE528.out|refine below_set ?_ GE529.out|refine below_set ?_ GE530.out|refine below_set ?_ GE550.out)|exact HB.out)⟩
          ·rw [if_neg c86] at H
           have c86b0:(t571 == t569) = false:=beq_eq_false_iff_ne.mpr c86
           have c86b1:(t571 != t569) = true:=bne_iff_ne.mpr c86
           obtain rfl:=Option.some.inj H;obtain ⟨Ao112,co112,eo112⟩:=Kd.R_slice HO_11.out;subst eo112;go_wp2_with (first|((with_reducible refine gate_callee (f:=36) rfl ?_);refine goesL_ (some 76) rfl rfl Try.func36 (by kernel_rfl) rfl #[.slice Ao112 t555.length co112,.int .i64 1] rfl (by (try simp only [List.map_toArray,List.map_cons,List.map_nil]);first|done|rfl|(simp only [List.length_drop,List.length_take];rfl)) ?_;(with_reducible refine (laws_markCellS.calls kj60 (fun k_=>some k_ = (.slice Ao112 t555.length co112:Value).ownBlock) (.slice Ao112 t555.length co112) t555 1 t569 t570 w _ ?side1 ?side2 A81.out).mono ?_);(case side1=>repeat (first|(with_reducible first|exact HB.out|apply zD|apply zE|apply zF|refine below_set ?_ GE528.out|refine below_set ?_ GE529.out|refine below_set ?_ GE530.out|refine below_set ?_ GE550.out)|exact HB.out));(case side2=>exact Kd.R_tight rfl HO_11.out);rintro e w113 ⟨rfl,hy0,hb,hkp⟩;refine ⟨_,rfl,?_⟩;have n0_:=zM (Kd.R_mono (ok':=fun k_=>some k_ ≠ (.slice Ao112 t555.length co112:Value).ownBlock ∧ some k_ ≠ (.slice Ao42 t567.length co42:Value).ownBlock) (Kd.R_keptB (HO_8.out) hkp (fun k_ hk_ hs_=>(hk_.1) hs_)) (fun k_ hk_=>⟨hk_.1.1,hk_.1.2⟩));have n1_:=zM (Kd.R_reok rfl hy0 (fun k_ e_=>HO_11.out.1 k_ e_));have n2_:=zM (Kd.R_mono (ok':=fun k_=>some k_ ≠ (v542:Value).ownBlock ∧ some k_ ≠ (.slice Ao112 t555.length co112:Value).ownBlock) (Kd.R_keptB (HO_551002.out) hkp (fun k_ hk_ hs_=>(hk_.2) hs_)) (fun k_ hk_=>⟨hk_.1.1,hk_.1.2⟩));have n3_:=zM (blk_kept (by (with_reducible repeat (first|refine zJ ?_ _|refine zK ?_|refine zL ?_ _));exact BK528.out) hkp (fun hs_=>(fun e_=>(Kd.R_ne HO_11.out BK528.out (by decide)) e_) hs_));have n4_:=zM (blk_kept (by (with_reducible repeat (first|refine zJ ?_ _|refine zK ?_|refine zL ?_ _));exact BK529.out) hkp (fun hs_=>(fun e_=>(Kd.R_ne HO_11.out BK529.out (by decide)) e_) hs_));have n5_:=zM (blk_kept (by (with_reducible repeat (first|refine zJ ?_ _|refine zK ?_|refine zL ?_ _));exact BK530.out) hkp (fun hs_=>(fun e_=>(Kd.R_ne HO_11.out BK530.out (by decide)) e_) hs_));have n6_:=zM (blk_kept (by (with_reducible repeat (first|refine zJ ?_ _|refine zK ?_|refine zL ?_ _));exact BK550.out) hkp (fun hs_=>(fun e_=>(Kd.R_ne HO_11.out BK550.out (by decide)) e_) hs_));have n7_:=zM (hb);clear HO_8;clear HO_11;clear HO_551002;clear BK528;clear BK529;clear BK530;clear BK550;clear HB;have HO_8:=n0_;have HO_11:=n1_;have HO_551002:=n2_;have BK528:=n3_;have BK529:=n4_;have BK530:=n5_;have BK550:=n6_;have HB:=n7_;clear n0_ n1_ n2_ n3_ n4_ n5_ n6_ n7_;(try clear hb);(try clear hkp);(try clear hy0))|((with_reducible refine gate_callee (f:=37) rfl ?_);refine goesL_ (some 79) rfl rfl Try.func37 (by kernel_rfl) rfl #[.slice Ao112 t570.length co112,.int .i64 1] rfl (by (try simp only [List.map_toArray,List.map_cons,List.map_nil]);first|done|(rw [show t570.length = t555.length from (zN HO_11.out).1.symm] <;> rfl)|rfl|(simp only [List.length_drop,List.length_take];rfl)) ?_;(with_reducible refine (laws_heldCellS.calls kj60 _ _ t570 1 t571 _ ?side1 ?side2 A82.out).mono ?_);(case side1=>repeat (first|exact (zN HO_11.out).2.2|(with_reducible first|refine zG ?_ _|refine zH ?_ _|refine zI ?_)));(case side2=>rw [show t570.length = t555.length from (zN HO_11.out).1.symm];exact (zN HO_11.out).2.1);rintro e w' ⟨rfl,⟨nd,rfl⟩⟩;refine ⟨_,rfl,?_⟩))
           go_ret
           exact ⟨by first|rfl|(simp [errW_none,errW_some] <;> rfl)|(simp [*,errW_none,errW_some] <;> rfl),by repeat (first|(with_reducible first|exact HB.out|apply zD|apply zE|apply zF|refine below_set ?_ GE528.out|refine below_set ?_ GE529.out|refine below_set ?_ GE530.out|refine below_set ?_ GE550.out)|exact HB.out)⟩
     ·replace c59:=Bool.eq_false_iff.mpr c59
      subst c59;have H1:(some false) = some r:=by rw [if_neg (show ¬ (false = true) by decide)] at H;exact H
      clear H;have H:=H1;clear H1;obtain rfl:=Option.some.inj H;try go_wp2
      have n0_:=zM (zC HO_8.out);have n1_:=zM (zC HO_11.out);have n2_:=zM (zC HO_551002.out);have n3_:=zM (zK BK528.out);have n4_:=zM (zK BK529.out);have n5_:=zM (zK BK530.out);have n6_:=zM (zK BK550.out);have n7_:=zM (zF HB.out);clear HO_8;clear HO_11;clear HO_551002;clear BK528;clear BK529;clear BK530;clear BK550;clear HB;have HO_8:=n0_;have HO_11:=n1_;have HO_551002:=n2_;have BK528:=n3_;have BK529:=n4_;have BK530:=n5_;have BK550:=n6_;have HB:=n7_;clear n0_ n1_ n2_ n3_ n4_ n5_ n6_ n7_;refine start_ (n:=5) (S:=fun w'=>w'.cell? ⟨gb550,0,none⟩ = some (.int .i64 t545) ∧ w'.cell? ⟨gb550,1,none⟩ = some (.int .i64 t546) ∧ w'.cell? ⟨gb550,2,none⟩ = some (.slice Ao42 t547.length co42) ∧ w'.cell? ⟨gb528,0,none⟩ = some (.int .i64 a0_0) ∧ w'.cell? ⟨gb528,1,none⟩ = some (.int .i64 a0_1) ∧ w'.cell? ⟨gb528,2,none⟩ = some (.slice A0_2 l0_2.length c0_2)) (ds:=[]) #[false,false,false,false,false] (by kernel_rfl) rfl rfl ⟨(blk_cell BK550.out 0).trans rfl,(blk_cell BK550.out 1).trans rfl,(blk_cell BK550.out 2).trans rfl,(blk_cell BK528.out 0).trans rfl,(blk_cell BK528.out 1).trans rfl,(blk_cell BK528.out 2).trans rfl⟩ (fun hHeld=>?_)
      generalize wc.drew = w114 at HO_8 HO_11 HO_551002 BK528 BK529 BK530 BK550 HB hHeld ⊢
      refine take_ (i:=0) (N:=some 53) (v:=?_) (a':=?_) #[true,false,false,false,false] rfl rfl (by kernel_rfl) (fun _ _ _ h=>h) (Or.inl ⟨by rfl,?_⟩) hHeld ?_ ?_
      rotate_left
      ·rintro w' ⟨s0,s1,s2,s3,s4,s5⟩
       go_simp
       with_reducible rfl
      rotate_left
      ·simp only [Act.put,zT,zU,zV,i64_w,i32_w]
       rfl
      refine take_ (i:=1) (N:=some 54) (v:=?_) (a':=?_) #[true,true,false,false,false] rfl rfl (by kernel_rfl) (fun _ _ _ h=>h) (Or.inl ⟨by rfl,?_⟩) hHeld ?_ ?_
      rotate_left
      ·rintro w' ⟨s0,s1,s2,s3,s4,s5⟩
       go_simp
       with_reducible rfl
      rotate_left
      ·simp only [Act.put,zT,zU,zV,i64_w,i32_w]
       rfl
      refine one_ (i:=2) (N:=some 55) #[true,true,true,false,false] rfl rfl (by kernel_rfl) (by decide) (fun K hK=>?_)
      refine goes_ Try.func15 (by kernel_rfl) rfl #[.agg #[.int .i64 a0_0,.int .i64 a0_1,.slice A0_2 l0_2.length c0_2]] (by rfl) rfl rfl (by (try simp only [List.map_toArray,List.map_cons,List.map_nil]);first|done|rfl|(simp only [List.length_drop,List.length_take];rfl)) ?_
      with_reducible refine (laws_toFloor.calls kj20 a0_0 a0_1 _ _ l0_2 t560 t561 t562 _ ?side1 ?side2 A57.out).mono ?_
      (case side1=>repeat (first|exact (zO HR0_2.out HB.out)|(with_reducible first|refine zG ?_ _|refine zH ?_ _|refine zI ?_)))
      (case side2=>exact HC0_2.out)
      rintro e w115 ⟨v563,rfl,ho0,hb⟩
      refine ⟨_,rfl,?_⟩
      have n0_:=zM (Kd.R_elder' (by (with_reducible repeat (first|apply zA|apply zB|apply zC));exact HO_8.out) (Kd.R_base ho0) hb)
      have n1_:=zM (Kd.R_elder' (by (with_reducible repeat (first|apply zA|apply zB|apply zC));exact HO_11.out) (Kd.R_base ho0) hb)
      have n2_:=zM (Kd.R_elder' (by (with_reducible repeat (first|apply zA|apply zB|apply zC));exact HO_551002.out) (Kd.R_base ho0) hb)
      have n3_:=zM (Kd.R_lower (Kd.R_new' (Kd.R_new' (Kd.R_new' ho0 (Kd.R_lt (by (with_reducible repeat (first|apply zA|apply zB|apply zC));exact HO_8.out))) (Kd.R_lt (by (with_reducible repeat (first|apply zA|apply zB|apply zC));exact HO_11.out))) (Kd.R_lt (by (with_reducible repeat (first|apply zA|apply zB|apply zC));exact HO_551002.out))) (zR (by repeat (first|(with_reducible first|exact HB.out|apply zD|apply zE|apply zF|refine below_set ?_ GE528.out|refine below_set ?_ GE529.out|refine below_set ?_ GE530.out|refine below_set ?_ GE550.out)|exact HB.out))))
      have n4_:=zM (blk_below (g:=gb528) (o := .cells #[.int .i64 a0_0,.int .i64 a0_1,.slice A0_2 l0_2.length c0_2] 24 (0,0)) (by (with_reducible repeat (first|refine zJ ?_ _|refine zK ?_|refine zL ?_ _));exact BK528.out) hb)
      have n5_:=zM (blk_below (g:=gb529) (o := .cells #[.int .i64 a1_0,.int .i64 a1_1] 44 (0,0)) (by (with_reducible repeat (first|refine zJ ?_ _|refine zK ?_|refine zL ?_ _));exact BK529.out) hb)
      have n6_:=zM (blk_below (g:=gb530) (o := .cells #[.int .i64 a2_0,.int .i64 a2_1] 44 (0,0)) (by (with_reducible repeat (first|refine zJ ?_ _|refine zK ?_|refine zL ?_ _));exact BK530.out) hb)
      have n7_:=zM (blk_below (g:=gb550) (o := .cells #[.int .i64 t545,.int .i64 t546,.slice Ao42 t547.length co42] 29 (0,0)) (by (with_reducible repeat (first|refine zJ ?_ _|refine zK ?_|refine zL ?_ _));exact BK550.out) hb)
      have n8_:=zM (zQ (by repeat (first|(with_reducible first|exact HB.out|apply zD|apply zE|apply zF|refine below_set ?_ GE528.out|refine below_set ?_ GE529.out|refine below_set ?_ GE530.out|refine below_set ?_ GE550.out)|exact HB.out)) hb)
      clear HO_8;clear HO_11;clear HO_551002;clear BK528;clear BK529;clear BK530;clear BK550;clear HB;have HO_8:=n0_;have HO_11:=n1_;have HO_551002:=n2_;have HO564:=n3_;have BK528:=n4_;have BK529:=n5_;have BK530:=n6_;have BK550:=n7_;have HB:=n8_;clear n0_ n1_ n2_ n3_ n4_ n5_ n6_ n7_ n8_;(try clear hb)
      (try clear hb2)
      (try clear hk)
      (try clear hi)
      (try clear ho0)
      obtain ⟨Ao116,co116,eo116⟩:=Kd.R_slice HO564.out;(first|subst eo116|(injection eo116 with f1_ f2_ f3_;have f4_:=f1_.symm;have f5_:=f3_.symm;clear f1_ f2_ f3_;subst f4_;subst f5_))
      refine hK.out _ _ ⟨(blk_cell BK550.out 0).trans rfl,(blk_cell BK550.out 1).trans rfl,(blk_cell BK550.out 2).trans rfl,(blk_cell BK528.out 0).trans rfl,(blk_cell BK528.out 1).trans rfl,(blk_cell BK528.out 2).trans rfl⟩ (fun hHeld=>?_)
      clear hK K;refine norm_ (a':=?_) ?_ ?_
      rotate_left
      ·show Act.put _ (some 55) _ = _
       simp only [Act.put,zT,zU,zV,i64_w,i32_w]
       rfl
      refine one_ (i:=3) (N:=some 56) #[true,true,true,true,false] rfl rfl (by kernel_rfl) (by decide) (fun K hK=>?_)
      refine goes_ Try.func17 (by kernel_rfl) rfl #[.agg #[.int .i64 t545,.int .i64 t546,.slice Ao42 t547.length co42],.agg #[.int .i64 t560,.int .i64 t561,.slice Ao116 t562.length co116]] (by rfl) rfl rfl (by (try simp only [List.map_toArray,List.map_cons,List.map_nil]);first|done|rfl|(simp only [List.length_drop,List.length_take];rfl)) ?_
      with_reducible refine (laws_eqFloor.calls kj20 t545 t546 _ _ t547 t560 t561 _ _ t562 false _ ?side1 ?side2 ?side3 ?side4 A58.out).mono ?_
      (case side1=>repeat (first|exact (zN HO_551002.out).2.2|(with_reducible first|refine zG ?_ _|refine zH ?_ _|refine zI ?_)))
      (case side2=>exact (zN HO_551002.out).2.1)
      (case side3=>repeat (first|exact (zN HO564.out).2.2|(with_reducible first|refine zG ?_ _|refine zH ?_ _|refine zI ?_)))
      (case side4=>exact (zN HO564.out).2.1)
      rintro e w117 ⟨rfl,hb⟩
      refine ⟨_,rfl,?_⟩
      have n0_:=zM (zP (by (with_reducible repeat (first|apply zA|apply zB|apply zC));exact HO_8.out) hb)
      have n1_:=zM (zP (by (with_reducible repeat (first|apply zA|apply zB|apply zC));exact HO_11.out) hb)
      have n2_:=zM (zP (by (with_reducible repeat (first|apply zA|apply zB|apply zC));exact HO_551002.out) hb)
      have n3_:=zM (zP (by (with_reducible repeat (first|apply zA|apply zB|apply zC));exact HO564.out) hb)
      have n4_:=zM (blk_below (g:=gb528) (o := .cells #[.int .i64 a0_0,.int .i64 a0_1,.slice A0_2 l0_2.length c0_2] 24 (0,0)) (by (with_reducible repeat (first|refine zJ ?_ _|refine zK ?_|refine zL ?_ _));exact BK528.out) hb)
      have n5_:=zM (blk_below (g:=gb529) (o := .cells #[.int .i64 a1_0,.int .i64 a1_1] 44 (0,0)) (by (with_reducible repeat (first|refine zJ ?_ _|refine zK ?_|refine zL ?_ _));exact BK529.out) hb)
      have n6_:=zM (blk_below (g:=gb530) (o := .cells #[.int .i64 a2_0,.int .i64 a2_1] 44 (0,0)) (by (with_reducible repeat (first|refine zJ ?_ _|refine zK ?_|refine zL ?_ _));exact BK530.out) hb)
      have n7_:=zM (blk_below (g:=gb550) (o := .cells #[.int .i64 t545,.int .i64 t546,.slice Ao42 t547.length co42] 29 (0,0)) (by (with_reducible repeat (first|refine zJ ?_ _|refine zK ?_|refine zL ?_ _));exact BK550.out) hb)
      have n8_:=zM (zQ (by repeat (first|(with_reducible first|exact HB.out|apply zD|apply zE|apply zF|refine below_set ?_ GE528.out|refine below_set ?_ GE529.out|refine below_set ?_ GE530.out|refine below_set ?_ GE550.out)|exact HB.out)) hb)
      clear HO_8;clear HO_11;clear HO_551002;clear HO564;clear BK528;clear BK529;clear BK530;clear BK550;clear HB;have HO_8:=n0_;have HO_11:=n1_;have HO_551002:=n2_;have HO564:=n3_;have BK528:=n4_;have BK529:=n5_;have BK530:=n6_;have BK550:=n7_;have HB:=n8_;clear n0_ n1_ n2_ n3_ n4_ n5_ n6_ n7_ n8_;(try clear hb)
      (try clear hb2)
      (try clear hk)
      (try clear hi)
      refine hK.out _ _ ⟨(blk_cell BK550.out 0).trans rfl,(blk_cell BK550.out 1).trans rfl,(blk_cell BK550.out 2).trans rfl,(blk_cell BK528.out 0).trans rfl,(blk_cell BK528.out 1).trans rfl,(blk_cell BK528.out 2).trans rfl⟩ (fun hHeld=>?_)
      clear hK K;refine norm_ (a':=?_) ?_ ?_
      rotate_left
      ·show Act.put _ (some 56) _ = _
       simp only [Act.put,zT,zU,zV,i64_w,i32_w]
       rfl
      refine pure_ (i:=4) (N:=some 57) (v:=?_) (a':=?_) #[true,true,true,true,true] rfl rfl (by kernel_rfl) (fun _ _ _ h=>h) (Or.inl ⟨by rfl,?_⟩) ?_ ?_
      rotate_left
      ·intro w'
       go_simp
       with_reducible rfl
      rotate_left
      ·simp only [Act.put,zT,zU,zV,i64_w,i32_w]
       rfl
      refine done_ (by kernel_rfl) ?_
      try go_wp2
      go_ret
      exact ⟨by first|rfl|(simp [errW_none,errW_some] <;> rfl)|(simp [*,errW_none,errW_some] <;> rfl),by repeat (first|(with_reducible first|exact HB.out|apply zD|apply zE|apply zF|refine below_set ?_ GE528.out|refine below_set ?_ GE529.out|refine below_set ?_ GE530.out|refine below_set ?_ GE550.out)|exact HB.out)⟩

/-- THE ONE PURE STATEMENT of laws_FnExactShortestPath. -/
def laws_FnExactShortestPath.Pure:Prop := ∀ (a0_0:Int) (a0_1:Int) (l0_2:List (S44)) (a1_0:Int) (a1_1:Int) (a2_0:Int) (a2_1:Int),(Lit.int .i64 a0_0).wf = true → (Lit.int .i64 a0_1).wf = true → (l0_2.length ≤ maxLen ∧ ∀ y ∈ l0_2,W44 y) → (Lit.int .i64 a1_0).wf = true → (Lit.int .i64 a1_1).wf = true → (Lit.int .i64 a2_0).wf = true → (Lit.int .i64 a2_1).wf = true → ∃ k,laws_FnExactShortestPath.f k a0_0 a0_1 l0_2 a1_0 a1_1 a2_0 a2_1 = some true
theorem laws_FnExactShortestPath.walk (P:laws_FnExactShortestPath.Pure) (a0_0:Int) (a0_1:Int) (A0_2:Option Addr) (c0_2:Nat) (l0_2:List (S44)) (a1_0:Int) (a1_1:Int) (a2_0:Int) (a2_1:Int) (w:World) (hr0_2:Kd.C k44 w A0_2 l0_2.length l0_2) (hc0_2:l0_2.length ≤ c0_2) (hw0:(Lit.int .i64 a0_0).wf = true) (hw1:(Lit.int .i64 a0_1).wf = true) (hw2:(l0_2.length ≤ maxLen ∧ ∀ y ∈ l0_2,W44 y)) (hw3:(Lit.int .i64 a1_0).wf = true) (hw4:(Lit.int .i64 a1_1).wf = true) (hw5:(Lit.int .i64 a2_0).wf = true) (hw6:(Lit.int .i64 a2_1).wf = true) :
  Calls Try.prog 8 #[.agg #[.int .i64 a0_0,.int .i64 a0_1,.slice A0_2 l0_2.length c0_2],.agg #[.int .i64 a1_0,.int .i64 a1_1],.agg #[.int .i64 a2_0,.int .i64 a2_1]] w fun e w'=>e = .returned (.bool true) ∧ Below w.heap.size w w':=by
 obtain ⟨k,h⟩:=P a0_0 a0_1 l0_2 a1_0 a1_1 a2_0 a2_1 hw0 hw1 hw2 hw3 hw4 hw5 hw6;refine (laws_FnExactShortestPath.calls k a0_0 a0_1 _ _ l0_2 a1_0 a1_1 a2_0 a2_1 true w hr0_2 hc0_2 h).mono ?_
 rintro e w' ⟨rfl,hd⟩
 exact ⟨rfl,hd⟩

end Go.Proofs.Ytbpccdbkaiigcaa.G

namespace Go.Proofs.Ytbpccdbkaiigcaa.G
open Go.RowKit Go.Proofs.YtbpccdbkaiigcaaW.PrintWords Go.Proofs.YtbpccdbkaiigcaaW.PrintLast
set_option linter.unusedVariables false
set_option linter.unusedSimpArgs false
def cv_C (x : S44) : S48:=⟨x.f0,x.f1⟩
theorem to_C (xs : List S44) (h : (xs.length : Int) ≤ 1048576) : Ev (fun k=>laws_toCellS.f k xs) (xs.map cv_C):=by
 unfold laws_toCellS.f
 simp (disch:=omega) only [if_pos]
 simp only [Int.toNat_natCast]
 refine Ev.fill (fun k out i=>laws_toCellS.l0 k xs out i) xs cv_C z44 z48 ?_ ?_
 ·intro out
  refine Ev.step (fun k=>by rw [laws_toCellS.l0]) ?_
  simp only [Int.lt_irrefl,if_false]
  exact Ev.now _
 ·intro out i hl h0 hlt r hr
  refine Ev.step (fun k=>by rw [laws_toCellS.l0]) ?_
  simp (disch:=omega) only [wrap64_id,if_pos,laws_toCell.f,Option.bind_some,hl]
  exact hr
theorem eq_C (xs : List S48) (h : (xs.length : Int) ≤ 1048576) : Ev (fun k=>laws_eqCellS.f k xs xs) true:=by
 unfold laws_eqCellS.f
 simp only [if_true]
 refine Ev.upc (fun k i=>laws_eqCellS.l0 k xs xs i) true (xs.length : Int) 0 ?_ ?_ 0 (by omega) (by omega)
 ·refine Ev.step (fun k=>by rw [laws_eqCellS.l0]) ?_
  simp only [Int.lt_irrefl,if_false]
  exact Ev.now _
 ·intro i h0 hlt hr
  refine Ev.step (fun k=>by rw [laws_eqCellS.l0]) ?_
  simp (disch:=omega) only [wrap64_id,if_pos,laws_eqCell.f,Option.bind_some,if_true]
  exact hr

theorem szc (xs : List S44) (h : xs.length ≤ maxLen) (a : Int) (a0 : 0 ≤ a) (a1 : a ≤ 1048576) : laws_szCellS.f xs a = some (if a - (xs.length : Int) < 0 then -1 else a - (xs.length : Int)):=by
 unfold maxLen at h
 unfold laws_szCellS.f
 rw [wrap64_id (by omega) (by omega)]
 split <;> rfl
theorem szf (w h : Int) (xs : List S44) (hl : xs.length ≤ maxLen) (a : Int) (a0 : 0 ≤ a) (a1 : a ≤ 1048576) : laws_szFloor.f w h xs a = some (if a - (xs.length : Int) < 0 then -1 else a - (xs.length : Int)):=by
 unfold laws_szFloor.f
 rw [szc xs hl a a0 a1]
 simp only [Option.bind_some]
 by_cases h1 : a - (xs.length : Int) < 0
 ·rw [if_pos h1,if_pos (by decide)]
 ·rw [if_neg h1,if_neg h1]
theorem to_F (w h : Int) (xs : List S44) (hl : (xs.length : Int) ≤ 1048576) : Ev (fun k=>laws_toFloor.f k w h xs) (w,h,xs.map cv_C):=by
 unfold laws_toFloor.f
 exact Ev.bind (to_C xs hl) (Ev.now _)
theorem eq_F (w h : Int) (xs : List S48) (hl : (xs.length : Int) ≤ 1048576) : Ev (fun k=>laws_eqFloor.f k w h xs w h xs) true:=by
 unfold laws_eqFloor.f
 simp only [if_true]
 refine Ev.bind (eq_C xs hl) ?_
 simp only [if_true]
 exact Ev.now _

theorem mark_C (xs : List S48) (h : (xs.length : Int) ≤ 1048576) : ∃ ys,Ev (fun k=>laws_markCellS.f k xs 1) (1 + 2 * (xs.length : Int),ys) ∧ Ev (fun k=>laws_heldCellS.f k ys 1) (1 + 2 * (xs.length : Int)):=by
 obtain ⟨ys,h1,h2,h3⟩:=Ev.mark (fun k xs c i=>laws_markCellS.l0 k xs c i) (xs.length : Int) 2 (fun i=>(⟨1 + 2 * i,1 + 2 * i + 1⟩ : S48)) z48 (by
   intro ys c hl
   refine Ev.step (fun k=>by rw [laws_markCellS.l0]) ?_
   simp only [hl,Int.lt_irrefl,if_false]
   exact Ev.now _) (by
   intro ys c i hl h0 hlt hc r hr
   refine Ev.step (fun k=>by rw [laws_markCellS.l0]) ?_
   have e1 : wrap64 (c + 1) = c + 1:=wrap64_id (by omega) (by omega)
   have e2 : wrap64 (c + 1 + 1) = c + 2:=by rw [wrap64_id (by omega) (by omega)];omega
   have e3 : wrap64 (i + 1) = i + 1:=wrap64_id (by omega) (by omega)
   simp only [hl,if_pos hlt,if_pos h0,Option.bind_some,e1,e2,e3,rd_T48,getD_set _ _ _ _ _ (show i.toNat < ys.length by omega),if_true,List.set_set]
   rw [hc] at hr ⊢
   exact hr) xs rfl
 refine ⟨ys,h1,?_⟩
 refine Ev.up (fun k (c : Int) i=>laws_heldCellS.l0 k ys c i) (fun _ _=>1 + 2 * (xs.length : Int)) (fun c i=>0 ≤ i ∧ c = 1 + 2 * i) (xs.length : Int) ?_ ?_ 1 0 ⟨by omega,by omega⟩ (by omega)
 ·rintro c ⟨_,rfl⟩
  refine Ev.step (fun k=>by rw [laws_heldCellS.l0]) ?_
  simp only [h2,Int.lt_irrefl,if_false]
  exact Ev.now _
 ·rintro c i ⟨h0,hc⟩ hlt ih
  refine Ev.step (fun k=>by rw [laws_heldCellS.l0]) ?_
  have e1 : wrap64 (c + 1) = c + 1:=wrap64_id (by omega) (by omega)
  have e2 : wrap64 (c + 1 + 1) = c + 2:=by rw [wrap64_id (by omega) (by omega)];omega
  have e3 : wrap64 (i + 1) = i + 1:=wrap64_id (by omega) (by omega)
  simp only [h2,if_pos hlt,if_pos h0,e1,e2,e3,rd_T48,h3 i h0 hlt,← hc,if_true]
  exact ih _ ⟨by omega,by omega⟩
theorem mark_F (w h : Int) (xs : List S48) (hl : (xs.length : Int) ≤ 1048576) : ∃ ys,Ev (fun k=>laws_markFloor.f k w h xs 1) (1 + 2 * (xs.length : Int),ys):=by
 obtain ⟨ys,h1,_⟩:=mark_C xs hl
 refine ⟨ys,?_⟩
 unfold laws_markFloor.f
 exact Ev.bind h1 (Ev.now _)
end Go.Proofs.Ytbpccdbkaiigcaa.G

/- What spec.ShortestPath answers. -/
namespace Go.Proofs.Ytbpccdbkaiigcaa.G
open Go.RowKit Go.Proofs.YtbpccdbkaiigcaaW.PrintWords Go.Proofs.YtbpccdbkaiigcaaW.PrintLast
set_option linter.unusedVariables false
set_option linter.unusedSimpArgs false
theorem safeP_len {w h : Int} {bl : List S48} {os : List (List S48)} {a b : S48} {p : List S48} (hp : safeP w h bl os a b = some p) : 1 ≤ p.length ∧ p.length ≤ 25:=by
 unfold safeP at hp
 by_cases hh : HitAt os a a 0
 ·rw [chk_pos hh] at hp;cases hp
 ·rw [chk_neg hh] at hp
  cases hf : firstN (EndS w h bl os a b) 25 0 with
  | none=>rw [hf] at hp;cases hp
  | some e =>
   rw [hf] at hp
   have h1 : trace (nxS w h bl os a b e) a e = some p:=hp
   have:=trace_len h1
   have:=(firstN_some hf).2.2
   omega
theorem safeR_len (w h : Int) (bl : List S48) (os : List (List S48)) (a b : S48) : (safeR w h bl os a b).1.length ≤ 25:=by
 cases hp : safeP w h bl os a b with
 | none=>rw [safeR_none hp];exact Nat.zero_le _
 | some p=>rw [safeR_some hp];exact (safeP_len hp).2
theorem shortR_len (w h : Int) (bl : List S48) (a b : S48) : (shortR w h bl a b).1.length ≤ 25:=by
 unfold shortR
 by_cases hc : FloorOk w h bl ∧ Free w h bl a ∧ Free w h bl b
 ·rw [chk_pos hc];exact safeR_len _ _ _ _ _ _
 ·rw [chk_neg hc];exact Nat.zero_le _
theorem len_nil : Len []:=⟨by simp,fun p hp=>by cases hp⟩
theorem spec_short (w h : Int) (bl : List S48) (hb : (bl.length : Int) ≤ 1099511627776) (a0 a1 b0 b1 : Int) : Ev (fun k=>spec_ShortestPath.f k w h bl a0 a1 b0 b1) (shortR w h bl ⟨a0,a1⟩ ⟨b0,b1⟩):=by
 unfold spec_ShortestPath.f
 refine Ev.bind (spec_asked w h bl hb ⟨a0,a1⟩ ⟨b0,b1⟩) ?_
 unfold shortR
 by_cases hc : FloorOk w h bl ∧ Free w h bl ⟨a0,a1⟩ ∧ Free w h bl ⟨b0,b1⟩
 ·rw [chk_pos hc,chk_pos hc]
  simp only [if_true]
  unfold spec_l16Safe.f
  rw [chk_pos ⟨hc.1,hb,hc.2.1,hc.2.2,len_nil⟩]
  simp only [Option.bind_some]
  exact Ev.now _
 ·rw [chk_neg hc,chk_neg hc]
  simp only [Bool.false_eq_true,if_false]
  exact Ev.now _
theorem impl_short (w h : Int) (bl : List S48) (hb : (bl.length : Int) ≤ 1099511627776) (a0 a1 b0 b1 : Int) : impl_ShortestPath.f w h bl a0 a1 b0 b1 = some (shortR w h bl ⟨a0,a1⟩ ⟨b0,b1⟩):=by
 unfold impl_ShortestPath.f
 rw [chk_pos hb]
theorem to_c (x y : Int) : laws_toCell.f x y = some (x,y):=rfl
end Go.Proofs.Ytbpccdbkaiigcaa.G

/- FnExactShortestPath: the program's ShortestPath returns what the reference's returns, for all arguments whose lists have at most 2^20 elements together (else the statement is true at once). -/
namespace Go.Proofs.Ytbpccdbkaiigcaa.Pure
open Go.RowKit Go.Proofs.Ytbpccdbkaiigcaa.G Go.Proofs.YtbpccdbkaiigcaaW.PrintWords Go.Proofs.YtbpccdbkaiigcaaW.PrintLast
set_option linter.unusedVariables false
set_option linter.unusedSimpArgs false
theorem FnExactShortestPath : laws_FnExactShortestPath.Pure:=by
 intro w h l0 a0 a1 b0 b1 w0 w1 h0 _ _ _ _
 refine Ev.rounds (g:=fun k=>laws_FnExactShortestPath.f k w h l0 a0 a1 b0 b1) (r:=true) ?_
 unfold laws_FnExactShortestPath.f
 rw [szf w h l0 h0.1 1048576 (by omega) (by omega)]
 simp only [Option.bind_some]
 refine Ev.ite (fun _=>Ev.now _) (fun g1=>?_)
 have n1 : (l0.length : Int) ≤ 1048576:=by split at g1 <;> omega
 have m1 : ((l0.map cv_C).length : Int) ≤ 1048576:=by simpa using n1
 obtain ⟨R,hR⟩ : ∃ R,shortR w h (l0.map cv_C) ⟨a0,a1⟩ ⟨b0,b1⟩ = R:=⟨_,rfl⟩
 have hl : (R.1.length : Int) ≤ 1048576:=by
  have:=shortR_len w h (l0.map cv_C) ⟨a0,a1⟩ ⟨b0,b1⟩
  rw [hR] at this
  omega
 have hs:=spec_short w h (l0.map cv_C) (by omega) a0 a1 b0 b1
 have hi:=impl_short w h (l0.map cv_C) (by omega) a0 a1 b0 b1
 rw [hR] at hs hi
 obtain ⟨ys,hm,hh⟩:=mark_C R.1 hl
 obtain ⟨yf,hmf⟩:=mark_F w h (l0.map cv_C) m1
 have c1 : ¬ (1 + 2 * (R.1.length : Int) < 0):=by omega
 have c2 : ¬ (1 + 2 * ((l0.map cv_C).length : Int) < 0):=by omega
 repeat' (first
  | with_reducible exact Ev.now _
  | (with_reducible refine Ev.bind (to_F w h l0 n1) ?_)
  | (with_reducible refine Ev.bind (eq_F w h (l0.map cv_C) m1) ?_)
  | (with_reducible refine Ev.bind hs ?_)
  | (with_reducible refine Ev.bind (eq_C R.1 hl) ?_)
  | (with_reducible refine Ev.bind hm ?_)
  | (with_reducible refine Ev.bind hh ?_)
  | (with_reducible refine Ev.bind hmf ?_)
  | simp only [to_c,hi,if_true,bne_self_eq_false,Bool.false_eq_true,if_false,Option.bind_some,if_neg c1,if_neg c2]
  | refine Ev.step (fun k=>by rw [laws_FnExactShortestPath.j0]) ?_
  | refine Ev.step (fun k=>by rw [laws_FnExactShortestPath.j1]) ?_
  | refine Ev.step (fun k=>by rw [laws_FnExactShortestPath.j2]) ?_)
end Go.Proofs.Ytbpccdbkaiigcaa.Pure

-- Written by wip/tools/gen.py out of the translation (the kit's printer, one namespace a seat). Lean checks it.
namespace Go.Proofs.Ytbpccdbkaiigcaa.G
open Go.RowKit Go.ChangeShapes Go.WideShapes Go.Deep Go.Proofs.YtbpccdbkaiigcaaW.PrintWords Go.Proofs.YtbpccdbkaiigcaaW.PrintLast
set_option linter.unusedVariables false
/-! Opening the arguments of a law: whatever reads as data of type t reads as a value of kind d, within what its type allows. -/
def Opens {α : Type} (P : Program) (t : TypeId) (d : Kd α) (Wf : α → Prop) : Prop :=
 ∀ {H : Type} {enc : TypeId × Value → H} {W : World} {spare : Nat → Bool} {held : Bool} {fuel : Nat} {cs : List Value} {x : DataW H × List MemPlace},
  DataW.trod enc P W 0 spare held fuel t cs = some x → ∃ a,d.K W a cs ∧ Wf a
theorem opens_int {P : Program} {t : TypeId} {k : IntKind} (ht : P.underlying t = some (.int k)) : Opens P t (Kd.int k) (fun x=>(Lit.int k x).wf = true):=by
 intro H enc W spare held fuel cs x h
 obtain ⟨n,rfl,_,hw⟩:=DataW.trod_int ht h
 exact ⟨n,rfl,hw⟩
theorem opens_row {α : Type} {d : Kd α} {Wf : α → Prop} {W : World} (Q : Nat → List Value → Prop) (hq : ∀ i cs,Q i cs → ∃ a,d.K W a cs ∧ Wf a) (n : Nat) (h : ∀ i,i < n → ∃ cs,Q i cs) :
  ∃ xs : List α,xs.length = n ∧ (∀ y ∈ xs,Wf y) ∧ ∀ j p,xs[j]? = some p → ∃ cs,Q j cs ∧ d.K W p cs:=by
 induction n with
 | zero=>exact ⟨[],rfl,fun y hy=>by simp at hy,fun j p hp=>by simp at hp⟩
 | succ n ih =>
  obtain ⟨xs,hl,hw,hx⟩:=ih (fun i hi=>h i (by omega))
  obtain ⟨cs,hcs⟩:=h n (by omega)
  obtain ⟨a,ha,hwa⟩:=hq n cs hcs
  refine ⟨xs ++ [a],by simp [hl],fun y hy=>?_,fun j p hp=>?_⟩
  ·rcases List.mem_append.1 hy with hy|hy
   ·exact hw y hy
   ·rw [List.mem_singleton.1 hy];exact hwa
  ·rcases Nat.lt_or_ge j xs.length with hj|hj
   ·rw [List.getElem?_append_left hj] at hp
    exact hx j p hp
   ·rw [List.getElem?_append_right hj] at hp
    have h0 : j - xs.length = 0:=by
     rcases Nat.eq_zero_or_pos (j - xs.length) with h0|h0
     ·exact h0
     ·rw [List.getElem?_eq_none (by simp;omega)] at hp;cases hp
    rw [h0] at hp
    simp at hp
    subst hp
    have : j = n:=by omega
    subst this
    exact ⟨cs,hcs,ha⟩
theorem opens_slice {α : Type} {P : Program} {t e : TypeId} {d : Kd α} {Wf : α → Prop} (ht : P.underlying t = some (.slice e)) (hC : P.cellsOf e = d.sz) (ho : Opens P e d Wf) :
  Opens P t (Kd.slice e d) (fun xs=>xs.length ≤ maxLen ∧ ∀ y ∈ xs,Wf y):=by
 intro H enc W spare held fuel cs x h
 rcases open_slice ht h with ⟨rfl,_⟩|⟨a,len,cap,m,n,D,Pl,rfl,_,hl,hm,hmm,_,hi⟩
 ·exact ⟨[],⟨none,0,rfl,Nat.le_refl _,rfl,by simp,fun h=>by simp at h⟩,by simp [maxLen],fun y hy=>by simp at hy⟩
 ·have hml : len ≤ m:=by rw [hmm];split <;> omega
  obtain ⟨xs,hxl,hw,hx⟩:=opens_row (W:=W) (d:=d) (Wf:=Wf) (fun i cs'=>W.cells? 0 (a.add (i * P.cellsOf e)) (P.cellsOf e) = some cs' ∧ DataW.trod enc P W 0 spare held n e cs' = some (D i,Pl i))
   (fun i cs' hq=>ho hq.2) len (fun i hi'=>hi i (by omega))
  refine ⟨xs,⟨some a,cap,by rw [hxl],by omega,rfl,?_,fun _=>⟨a,rfl,fun j p hj=>?_⟩⟩,by omega,hw⟩
  ·simp only [maxLen] at hm
   omega
  ·obtain ⟨cs',⟨hc,_⟩,hK⟩:=hx j p hj
   obtain ⟨_,hcl,hat⟩:=World.cells?_some hc
   refine ⟨cs',d.K_len hK,hK,fun i u hu=>?_⟩
   have hil : i < cs'.length:=(List.getElem?_eq_some_iff.1 hu).1
   have h1:=hat i (by omega)
   rw [hC] at h1
   rw [← Go.Deep.add_add,h1,hu]
theorem opens_iso {α β : Type} {P : Program} {t : TypeId} {d : Kd α} {Wf : α → Prop} {Wf' : β → Prop} {f : β → α} (ho : Opens P t d Wf) (g : α → β) (hg : ∀ a,f (g a) = a) (hw : ∀ a,Wf a → Wf' (g a)) : Opens P t (Kd.iso d f) Wf':=by
 intro H enc W spare held fuel cs x h
 obtain ⟨a,hK,hwa⟩:=ho h
 refine ⟨g a,?_,hw a hwa⟩
 show d.K W (f (g a)) cs
 rw [hg]
 exact hK
section
variable {α β γ δ : Type} {P : Program} {t : TypeId} {f0 f1 f2 f3 : Field} {d0 : Kd α} {d1 : Kd β} {d2 : Kd γ} {d3 : Kd δ} {W0 : α → Prop} {W1 : β → Prop} {W2 : γ → Prop} {W3 : δ → Prop}
theorem opens_struct2 (ht : P.underlying t = some (.struct #[f0,f1])) (hT : P.cellsOf t = d0.sz + d1.sz) (s0 : f0.offset = 0) (c0 : P.cellsOf f0.type = d0.sz) (s1 : f1.offset = d0.sz) (c1 : P.cellsOf f1.type = d1.sz)
  (o0 : Opens P f0.type d0 W0) (o1 : Opens P f1.type d1 W1) : Opens P t (Kd.pair d0 d1) (fun x=>W0 x.1 ∧ W1 x.2):=by
 intro H enc W spare held fuel cs x h
 obtain ⟨xs,n,_,_,hlen,hxl,hf⟩:=DataW.trod_struct ht h
 have h0:=hf 0 f0 rfl
 have h1:=hf 1 f1 rfl
 rw [List.getElem?_eq_getElem (show 0 < xs.length by rw [hxl];simp),s0,c0,List.drop_zero] at h0
 rw [List.getElem?_eq_getElem (show 1 < xs.length by rw [hxl];simp),s1,c1,List.take_of_length_le (by simp;omega)] at h1
 obtain ⟨a,ka,wa⟩:=o0 h0
 obtain ⟨b,kb,wb⟩:=o1 h1
 exact ⟨(a,b),⟨_,_,(List.take_append_drop d0.sz cs).symm,ka,kb⟩,wa,wb⟩
theorem opens_struct3 (ht : P.underlying t = some (.struct #[f0,f1,f2])) (hT : P.cellsOf t = d0.sz + (d1.sz + d2.sz)) (s0 : f0.offset = 0) (c0 : P.cellsOf f0.type = d0.sz) (s1 : f1.offset = d0.sz) (c1 : P.cellsOf f1.type = d1.sz)
  (s2 : f2.offset = d0.sz + d1.sz) (c2 : P.cellsOf f2.type = d2.sz) (o0 : Opens P f0.type d0 W0) (o1 : Opens P f1.type d1 W1) (o2 : Opens P f2.type d2 W2) : Opens P t (Kd.pair d0 (Kd.pair d1 d2)) (fun x=>W0 x.1 ∧ W1 x.2.1 ∧ W2 x.2.2):=by
 intro H enc W spare held fuel cs x h
 obtain ⟨xs,n,_,_,hlen,hxl,hf⟩:=DataW.trod_struct ht h
 have h0:=hf 0 f0 rfl
 have h1:=hf 1 f1 rfl
 have h2:=hf 2 f2 rfl
 rw [List.getElem?_eq_getElem (show 0 < xs.length by rw [hxl];simp),s0,c0,List.drop_zero] at h0
 rw [List.getElem?_eq_getElem (show 1 < xs.length by rw [hxl];simp),s1,c1] at h1
 rw [List.getElem?_eq_getElem (show 2 < xs.length by rw [hxl];simp),s2,c2,List.take_of_length_le (by simp;omega)] at h2
 obtain ⟨a,ka,wa⟩:=o0 h0
 obtain ⟨b,kb,wb⟩:=o1 h1
 obtain ⟨c,kc,wc⟩:=o2 h2
 refine ⟨(a,b,c),⟨_,_,(List.take_append_drop d0.sz cs).symm,ka,⟨_,_,(List.take_append_drop d1.sz (cs.drop d0.sz)).symm,kb,?_⟩⟩,wa,wb,wc⟩
 rw [List.drop_drop]
 exact kc
end
theorem opens_agg {α : Type} {P : Program} {t : TypeId} {fs : Array Field} {d : Kd α} {Wf : α → Prop} (ht : P.underlying t = some (.struct fs)) (hT : P.cellsOf t = d.sz) (ho : Opens P t d Wf) {H : Type} {enc : TypeId × Value → H} {W : World} {r : Reach} {b0 : Nat} {spare : Nat → Bool} {held : Bool} {v : Value} {dd : DataW H} {p : List MemPlace}
  (hv : Value.okWide P W r b0 t v) (h : DataW.Trod enc P W 0 spare held t v dd p) : ∃ x : α,(∀ cs : List Value,v.cells.toList = cs → v = .agg cs.toArray) ∧ d.K W x v.cells.toList ∧ Wf x:=by
 obtain ⟨cs,rfl,_⟩:=okWide_struct ht hv
 obtain ⟨fuel,hf⟩:=h
 obtain ⟨x,hK,hw⟩:=ho hf
 refine ⟨x,fun l hl=>?_,hK,hw⟩
 rw [← hl]
 simp [Value.cells]

set_option maxRecDepth 100000 in
theorem opens_T44 : Opens Try.prog 44 k44 W44 :=
 opens_iso (opens_struct2 Try.underlying44 (by kernel_rfl) rfl (by kernel_rfl) rfl (by kernel_rfl) (opens_int Try.underlying3) (opens_int Try.underlying3)) (fun p=>⟨p.1,p.2⟩) (fun _=>rfl) (fun _ h=>h)
set_option maxRecDepth 100000 in
theorem opens_T24 : Opens Try.prog 24 k24 W24 :=
 opens_iso (opens_struct3 Try.underlying24 (by kernel_rfl) rfl (by kernel_rfl) rfl (by kernel_rfl) rfl (by kernel_rfl) (opens_int Try.underlying3) (opens_int Try.underlying3) (opens_slice Try.underlying22 (by kernel_rfl) (opens_T44))) (fun p=>⟨p.1,p.2.1,p.2.2⟩) (fun _=>rfl) (fun _ h=>h)
end Go.Proofs.Ytbpccdbkaiigcaa.G
