/- Texts of the proof of FnExactSafePath, joined in build order. -/
import Derived.Test.YtbpccdbkaiigcaaMgFnExactSafePath4
import Derived.Test.YtbpccdbkaiigcaaMgFnExactSafePath1
import Derived.Deep.Slices
import Derived.ChangeArms
import Derived.WideShapes
import Derived.ChangeShapes
/- The walk of FnExactSafePath: on every argument the law answers true. -/
namespace Go.Proofs.Ytbpccdbkaiigcaa.G
open Go.RowKit Go.Proofs.YtbpccdbkaiigcaaW.PrintWords Go.Proofs.YtbpccdbkaiigcaaW.PrintLast Go.Proofs.YtbpccdbkaiigcaaW.PrintMore
set_option linter.unusedVariables false
set_option linter.unusedSimpArgs false
theorem heldCl_at (k : Nat) (A : Option Addr) (c : Nat) (l : List S48) (n : Nat) (a r : Int) (w : World) (hn : l.length = n) (hC : Kd.C k48 w A l.length l) (hc : n ≤ c) (h : laws_heldCellS.f k l a = some r) :
  Calls Try.prog 37 #[.slice A n c,.int .i64 a] w fun e w'=>e = .returned (.int .i64 r) ∧ Drawn0 w w':=by
 subst hn
 exact laws_heldCellS.calls k A c l a r w hC hc h
set_option maxHeartbeats 8000000 in
set_option maxRecDepth 100000 in
theorem laws_FnExactSafePath.walk (a0_0 : Int) (a0_1 : Int) (A0_2 : Option Addr) (c0_2 : Nat) (l0_2 : List S44) (A1 : Option Addr) (c1 : Nat) (l1 : List (List S44)) (a2_0 : Int) (a2_1 : Int) (a3_0 : Int) (a3_1 : Int) (w : World) (hr0_2 : Kd.C k44 w A0_2 l0_2.length l0_2) (hc0_2 : l0_2.length ≤ c0_2) (hr1 : Kd.C (Kd.slice 44 k44) w A1 l1.length l1) (hc1 : l1.length ≤ c1) (hw0 : (Lit.int .i64 a0_0).wf = true) (hw1 : (Lit.int .i64 a0_1).wf = true) (hw2 : (l0_2.length ≤ maxLen ∧ ∀ y ∈ l0_2,W44 y)) (hw3 : (l1.length ≤ maxLen ∧ ∀ y ∈ l1,(y.length ≤ maxLen ∧ ∀ z ∈ y,W44 z))) (hw4 : (Lit.int .i64 a2_0).wf = true) (hw5 : (Lit.int .i64 a2_1).wf = true) (hw6 : (Lit.int .i64 a3_0).wf = true) (hw7 : (Lit.int .i64 a3_1).wf = true) :
  Calls Try.prog 9 #[.agg #[.int .i64 a0_0,.int .i64 a0_1,.slice A0_2 l0_2.length c0_2],.slice A1 l1.length c1,.agg #[.int .i64 a2_0,.int .i64 a2_1],.agg #[.int .i64 a3_0,.int .i64 a3_1]] w fun e w'=>e = .returned (.bool true) ∧ Below w.heap.size w w':=by
 have hu24:=Try.underlying24
 have hu29:=Try.underlying29
 have hu44:=Try.underlying44
 have hu48:=Try.underlying48
 have CC_0:=Aside0.mk hr0_2
 have C1_0:=Aside0.mk hr1
 have HB_0:=Aside0.mk (Below.refl w.heap.size w)
 have hs:=szf a0_0 a0_1 l0_2 hw2.1 1048576 (by omega) (by omega)
 obtain ⟨sz,hsz⟩ : ∃ z,(if 1048576 - (l0_2.length : Int) < 0 then -1 else 1048576 - (l0_2.length : Int)) = z:=⟨_,rfl⟩
 rw [hsz] at hs
 have KS:=Aside0.mk hs
 have hwr : ∀ y ∈ l1,y.length ≤ maxLen:=fun y hy=>(hw3.2 y hy).1
 have hwl:=hw3.1
 clear hs hr0_2 hr1 hw0 hw1 hw2 hw3 hw4 hw5 hw6 hw7
 by_cases h0 : sz < 0
 ·have e1 : decide (sz < 0) = true:=decide_eq_true h0
  clear hsz h0 hwr hwl
  go_enter Try.func9,Try.ntmps9
  go_wp2_with (first|((with_reducible refine gate_dst (N:=4) rfl ?_);refine zzc 4 #[.int .i64 a0_0,.int .i64 a0_1,.slice A0_2 l0_2.length c0_2] 24 ?_;intro g4 hgg4 w1 hbox hb;have HB_1:=Aside0.mk (below_step HB_0.out hb);have CC_1:=Aside0.mk (Kd.C_below CC_0.out hb);have C1_1:=Aside0.mk (Kd.C_below C1_0.out hb);have Hg4_1:=Aside0.mk hbox;have Gg4 : Aside0 (g4 = _):=Aside0.mk hgg4;have fg40_1:=zz0 Hg4_1;have fg41_1:=zz1 Hg4_1;have fg42_1:=zz2 Hg4_1;clear hbox hb hgg4)|((with_reducible refine gate_dst (N:=6) rfl ?_);refine zzc 6 #[.int .i64 a2_0,.int .i64 a2_1] 44 ?_;intro g6 hgg6 w2 hbox hb;have HB_2:=Aside0.mk (below_step HB_1.out hb);have CC_2:=Aside0.mk (Kd.C_below CC_1.out hb);have C1_2:=Aside0.mk (Kd.C_below C1_1.out hb);have Hg4_2:=Aside0.mk (blk_below Hg4_1.out hb);have Hg6_2:=Aside0.mk hbox;have Gg6 : Aside0 (g6 = _):=Aside0.mk hgg6;have fg40_2:=zz0 Hg4_2;have fg41_2:=zz1 Hg4_2;have fg42_2:=zz2 Hg4_2;have fg60_2:=zz0 Hg6_2;have fg61_2:=zz1 Hg6_2;clear hbox hb hgg6)|((with_reducible refine gate_dst (N:=7) rfl ?_);refine zzc 7 #[.int .i64 a3_0,.int .i64 a3_1] 44 ?_;intro g7 hgg7 w3 hbox hb;have HB_3:=Aside0.mk (below_step HB_2.out hb);have CC_3:=Aside0.mk (Kd.C_below CC_2.out hb);have C1_3:=Aside0.mk (Kd.C_below C1_2.out hb);have Hg4_3:=Aside0.mk (blk_below Hg4_2.out hb);have Hg6_3:=Aside0.mk (blk_below Hg6_2.out hb);have Hg7_3:=Aside0.mk hbox;have Gg7 : Aside0 (g7 = _):=Aside0.mk hgg7;have fg40_3:=zz0 Hg4_3;have fg41_3:=zz1 Hg4_3;have fg42_3:=zz2 Hg4_3;have fg60_3:=zz0 Hg6_3;have fg61_3:=zz1 Hg6_3;have fg70_3:=zz0 Hg7_3;have fg71_3:=zz1 Hg7_3;clear hbox hb hgg7)|(go_at_call 13;(with_reducible refine (laws_szFloor.calls a0_0 a0_1 A0_2 c0_2 l0_2 1048576 sz _ CC_3.out hc0_2 KS.out).mono ?_);rintro e w4 ⟨rfl,hB⟩;have HB_4:=Aside0.mk (below_step HB_3.out hB);have CC_4:=Aside0.mk (Kd.C_below CC_3.out hB);have C1_4:=Aside0.mk (Kd.C_below C1_3.out hB);have Hg4_4:=Aside0.mk (blk_below Hg4_3.out hB);have Hg6_4:=Aside0.mk (blk_below Hg6_3.out hB);have Hg7_4:=Aside0.mk (blk_below Hg7_3.out hB);have fg40_4:=zz0 Hg4_4;have fg41_4:=zz1 Hg4_4;have fg42_4:=zz2 Hg4_4;have fg60_4:=zz0 Hg6_4;have fg61_4:=zz1 Hg6_4;have fg70_4:=zz0 Hg7_4;have fg71_4:=zz1 Hg7_4;clear hB))
  go_ret
  exact ⟨rfl,HB_4.out⟩
 ·have e1 : decide (sz < 0) = false:=decide_eq_false h0
  have n1 : (l0_2.length : Int) ≤ 1048576:=by split at hsz <;> omega
  obtain ⟨sy,hsy,hsm⟩:=sz_CSS l1 hwl hwr sz (by omega) (by split at hsz <;> omega)
  obtain ⟨kz,hkz⟩:=Ev.rounds hsy
  have KZ:=Aside0.mk hkz
  clear hsy hkz hwr hwl hsz h0
  by_cases h1 : sy < 0
  ·have e2 : decide (sy < 0) = true:=decide_eq_true h1
   clear h1 hsm n1
   go_enter Try.func9,Try.ntmps9
   go_wp2_with (first|((with_reducible refine gate_dst (N:=4) rfl ?_);refine zzc 4 #[.int .i64 a0_0,.int .i64 a0_1,.slice A0_2 l0_2.length c0_2] 24 ?_;intro g4 hgg4 w1 hbox hb;have HB_1:=Aside0.mk (below_step HB_0.out hb);have CC_1:=Aside0.mk (Kd.C_below CC_0.out hb);have C1_1:=Aside0.mk (Kd.C_below C1_0.out hb);have Hg4_1:=Aside0.mk hbox;have Gg4 : Aside0 (g4 = _):=Aside0.mk hgg4;have fg40_1:=zz0 Hg4_1;have fg41_1:=zz1 Hg4_1;have fg42_1:=zz2 Hg4_1;clear hbox hb hgg4)|((with_reducible refine gate_dst (N:=6) rfl ?_);refine zzc 6 #[.int .i64 a2_0,.int .i64 a2_1] 44 ?_;intro g6 hgg6 w2 hbox hb;have HB_2:=Aside0.mk (below_step HB_1.out hb);have CC_2:=Aside0.mk (Kd.C_below CC_1.out hb);have C1_2:=Aside0.mk (Kd.C_below C1_1.out hb);have Hg4_2:=Aside0.mk (blk_below Hg4_1.out hb);have Hg6_2:=Aside0.mk hbox;have Gg6 : Aside0 (g6 = _):=Aside0.mk hgg6;have fg40_2:=zz0 Hg4_2;have fg41_2:=zz1 Hg4_2;have fg42_2:=zz2 Hg4_2;have fg60_2:=zz0 Hg6_2;have fg61_2:=zz1 Hg6_2;clear hbox hb hgg6)|((with_reducible refine gate_dst (N:=7) rfl ?_);refine zzc 7 #[.int .i64 a3_0,.int .i64 a3_1] 44 ?_;intro g7 hgg7 w3 hbox hb;have HB_3:=Aside0.mk (below_step HB_2.out hb);have CC_3:=Aside0.mk (Kd.C_below CC_2.out hb);have C1_3:=Aside0.mk (Kd.C_below C1_2.out hb);have Hg4_3:=Aside0.mk (blk_below Hg4_2.out hb);have Hg6_3:=Aside0.mk (blk_below Hg6_2.out hb);have Hg7_3:=Aside0.mk hbox;have Gg7 : Aside0 (g7 = _):=Aside0.mk hgg7;have fg40_3:=zz0 Hg4_3;have fg41_3:=zz1 Hg4_3;have fg42_3:=zz2 Hg4_3;have fg60_3:=zz0 Hg6_3;have fg61_3:=zz1 Hg6_3;have fg70_3:=zz0 Hg7_3;have fg71_3:=zz1 Hg7_3;clear hbox hb hgg7)|(go_at_call 13;(with_reducible refine (laws_szFloor.calls a0_0 a0_1 A0_2 c0_2 l0_2 1048576 sz _ CC_3.out hc0_2 KS.out).mono ?_);rintro e w4 ⟨rfl,hB⟩;have HB_4:=Aside0.mk (below_step HB_3.out hB);have CC_4:=Aside0.mk (Kd.C_below CC_3.out hB);have C1_4:=Aside0.mk (Kd.C_below C1_3.out hB);have Hg4_4:=Aside0.mk (blk_below Hg4_3.out hB);have Hg6_4:=Aside0.mk (blk_below Hg6_3.out hB);have Hg7_4:=Aside0.mk (blk_below Hg7_3.out hB);have fg40_4:=zz0 Hg4_4;have fg41_4:=zz1 Hg4_4;have fg42_4:=zz2 Hg4_4;have fg60_4:=zz0 Hg6_4;have fg61_4:=zz1 Hg6_4;have fg70_4:=zz0 Hg7_4;have fg71_4:=zz1 Hg7_4;clear hB)|(go_at_call 38;(with_reducible refine (laws_szCellSS.calls kz A1 c1 l1 sz sy _ C1_4.out hc1 KZ.out).mono ?_);rintro e w5 ⟨rfl,hd⟩;have hB:=hd.below;clear hd;have HB_5:=Aside0.mk (below_step HB_4.out hB);have CC_5:=Aside0.mk (Kd.C_below CC_4.out hB);have C1_5:=Aside0.mk (Kd.C_below C1_4.out hB);have Hg4_5:=Aside0.mk (blk_below Hg4_4.out hB);have Hg6_5:=Aside0.mk (blk_below Hg6_4.out hB);have Hg7_5:=Aside0.mk (blk_below Hg7_4.out hB);have fg40_5:=zz0 Hg4_5;have fg41_5:=zz1 Hg4_5;have fg42_5:=zz2 Hg4_5;have fg60_5:=zz0 Hg6_5;have fg61_5:=zz1 Hg6_5;have fg70_5:=zz0 Hg7_5;have fg71_5:=zz1 Hg7_5;clear hB))
   go_ret
   exact ⟨rfl,HB_5.out⟩
  ·have e2 : decide (sy < 0) = false:=decide_eq_false h1
   have hsr:=(hsm (by omega)).1
   obtain ⟨bl,hbl⟩ : ∃ bl,l0_2.map cv_C = bl:=⟨_,rfl⟩
   have nb1 : (bl.length : Int) ≤ 1048576:=by rw [← hbl];simpa using n1
   obtain ⟨os,hos⟩ : ∃ os,l1.map (fun r=>r.map cv_C) = os:=⟨_,rfl⟩
   have hsc : SmallC os:=by rw [← hos];exact hsr.map
   obtain ⟨R,hR⟩ : ∃ R,askR a0_0 a0_1 bl os ⟨a2_0,a2_1⟩ ⟨a3_0,a3_1⟩ = R:=⟨_,rfl⟩
   have hRl : (R.1.length : Int) ≤ 25:=by rw [← hR];have:=askR_len a0_0 a0_1 bl os ⟨a2_0,a2_1⟩ ⟨a3_0,a3_1⟩;omega
   have htf:=to_F a0_0 a0_1 l0_2 n1
   rw [hbl] at htf
   have htq:=to_CSS l1 hsr
   rw [hos] at htq
   have hsp:=spec_safe a0_0 a0_1 bl os (by omega) (all_rows (fun i h0 h1=>by have h : ((rd_L6 os i).length : Int) ≤ 1048576:=hsc.2 i h0 h1;omega)) a2_0 a2_1 a3_0 a3_1
   have him:=impl_safe a0_0 a0_1 bl os (by omega) a2_0 a2_1 a3_0 a3_1
   rw [hR] at hsp him
   obtain ⟨kt,hkt⟩:=Ev.rounds htf
   obtain ⟨kq,hkq⟩:=Ev.rounds htq
   obtain ⟨ks,hks⟩:=Ev.rounds hsp
   obtain ⟨ke,hke⟩:=Ev.rounds (eq_F a0_0 a0_1 bl nb1)
   obtain ⟨kw,hkw⟩:=Ev.rounds (eq_CSS os hsc)
   obtain ⟨kr,hkr⟩:=Ev.rounds (eq_C R.1 (by omega))
   obtain ⟨xs,hmx⟩:=mark_F a0_0 a0_1 bl nb1
   obtain ⟨km,hkm⟩:=Ev.rounds hmx
   have htr:=tot2_cap (fun i hi=>hsc.2 (i : Int) (by omega) (by omega)) os.length (Nat.le_refl _)
   have hsl:=hsc.1
   obtain ⟨ys,hyl,⟨kn,hkn⟩,_⟩:=markC_rows (1 + 2 * (bl.length : Int)) (by omega) os (fun i hi=>hsc.2 (i : Int) (by omega) (by omega)) (by omega)
   have ht1:=tot2_mono os os.length
   obtain ⟨gs,hg1,hg2,hgl⟩:=mark_CK R.1 (by omega) 1 (by omega) (by omega)
   obtain ⟨kg,hkg⟩:=Ev.rounds hg1
   obtain ⟨kh,hkh⟩:=Ev.rounds hg2
   have KT:=Aside0.mk hkt
   have KQ:=Aside0.mk hkq
   have KP:=Aside0.mk hks
   have KI:=Aside0.mk him
   have KE:=Aside0.mk hke
   have KW:=Aside0.mk hkw
   have KR:=Aside0.mk hkr
   have KM:=Aside0.mk hkm
   have KN:=Aside0.mk hkn
   have KG:=Aside0.mk hkg
   have KH:=Aside0.mk hkh
   have HYL:=Aside0.mk hyl
   have HGL : Aside0 (gs.length = R.1.length):=⟨by omega⟩
   have hm1 : decide (1 + 2 * (bl.length : Int) + tot2 os os.length < 0) = false:=decide_eq_false (by omega)
   have hm2 : decide (1 + 2 * (R.1.length : Int) < 0) = false:=decide_eq_false (by omega)
   have hok : (R.2 != R.2) = false:=bne_self_eq_false R.2
   clear hsl h1 hsm hsr hsc hbl hos hR hRl htf htq hsp him hkt hkq hks hke hkw hkr hmx hkm htr hyl hkn ht1 hg1 hg2 hgl hkg hkh n1 nb1
   go_enter Try.func9,Try.ntmps9
   go_wp2_with (first|((with_reducible refine gate_dst (N:=4) rfl ?_);refine zzc 4 #[.int .i64 a0_0,.int .i64 a0_1,.slice A0_2 l0_2.length c0_2] 24 ?_;intro g4 hgg4 w1 hbox hb;have HB_1:=Aside0.mk (below_step HB_0.out hb);have CC_1:=Aside0.mk (Kd.C_below CC_0.out hb);have C1_1:=Aside0.mk (Kd.C_below C1_0.out hb);have Hg4_1:=Aside0.mk hbox;have Gg4 : Aside0 (g4 = _):=Aside0.mk hgg4;have fg40_1:=zz0 Hg4_1;have fg41_1:=zz1 Hg4_1;have fg42_1:=zz2 Hg4_1;clear hbox hb hgg4)|((with_reducible refine gate_dst (N:=6) rfl ?_);refine zzc 6 #[.int .i64 a2_0,.int .i64 a2_1] 44 ?_;intro g6 hgg6 w2 hbox hb;have HB_2:=Aside0.mk (below_step HB_1.out hb);have CC_2:=Aside0.mk (Kd.C_below CC_1.out hb);have C1_2:=Aside0.mk (Kd.C_below C1_1.out hb);have Hg4_2:=Aside0.mk (blk_below Hg4_1.out hb);have Hg6_2:=Aside0.mk hbox;have Gg6 : Aside0 (g6 = _):=Aside0.mk hgg6;have fg40_2:=zz0 Hg4_2;have fg41_2:=zz1 Hg4_2;have fg42_2:=zz2 Hg4_2;have fg60_2:=zz0 Hg6_2;have fg61_2:=zz1 Hg6_2;clear hbox hb hgg6)|((with_reducible refine gate_dst (N:=7) rfl ?_);refine zzc 7 #[.int .i64 a3_0,.int .i64 a3_1] 44 ?_;intro g7 hgg7 w3 hbox hb;have HB_3:=Aside0.mk (below_step HB_2.out hb);have CC_3:=Aside0.mk (Kd.C_below CC_2.out hb);have C1_3:=Aside0.mk (Kd.C_below C1_2.out hb);have Hg4_3:=Aside0.mk (blk_below Hg4_2.out hb);have Hg6_3:=Aside0.mk (blk_below Hg6_2.out hb);have Hg7_3:=Aside0.mk hbox;have Gg7 : Aside0 (g7 = _):=Aside0.mk hgg7;have fg40_3:=zz0 Hg4_3;have fg41_3:=zz1 Hg4_3;have fg42_3:=zz2 Hg4_3;have fg60_3:=zz0 Hg6_3;have fg61_3:=zz1 Hg6_3;have fg70_3:=zz0 Hg7_3;have fg71_3:=zz1 Hg7_3;clear hbox hb hgg7)|(go_at_call 13;(with_reducible refine (laws_szFloor.calls a0_0 a0_1 A0_2 c0_2 l0_2 1048576 sz _ CC_3.out hc0_2 KS.out).mono ?_);rintro e w4 ⟨rfl,hB⟩;have HB_4:=Aside0.mk (below_step HB_3.out hB);have CC_4:=Aside0.mk (Kd.C_below CC_3.out hB);have C1_4:=Aside0.mk (Kd.C_below C1_3.out hB);have Hg4_4:=Aside0.mk (blk_below Hg4_3.out hB);have Hg6_4:=Aside0.mk (blk_below Hg6_3.out hB);have Hg7_4:=Aside0.mk (blk_below Hg7_3.out hB);have fg40_4:=zz0 Hg4_4;have fg41_4:=zz1 Hg4_4;have fg42_4:=zz2 Hg4_4;have fg60_4:=zz0 Hg6_4;have fg61_4:=zz1 Hg6_4;have fg70_4:=zz0 Hg7_4;have fg71_4:=zz1 Hg7_4;clear hB)|(go_at_call 38;(with_reducible refine (laws_szCellSS.calls kz A1 c1 l1 sz sy _ C1_4.out hc1 KZ.out).mono ?_);rintro e w5 ⟨rfl,hd⟩;have hB:=hd.below;clear hd;have HB_5:=Aside0.mk (below_step HB_4.out hB);have CC_5:=Aside0.mk (Kd.C_below CC_4.out hB);have C1_5:=Aside0.mk (Kd.C_below C1_4.out hB);have Hg4_5:=Aside0.mk (blk_below Hg4_4.out hB);have Hg6_5:=Aside0.mk (blk_below Hg6_4.out hB);have Hg7_5:=Aside0.mk (blk_below Hg7_4.out hB);have fg40_5:=zz0 Hg4_5;have fg41_5:=zz1 Hg4_5;have fg42_5:=zz2 Hg4_5;have fg60_5:=zz0 Hg6_5;have fg61_5:=zz1 Hg6_5;have fg70_5:=zz0 Hg7_5;have fg71_5:=zz1 Hg7_5;clear hB))
   have HB_6:=Aside0.mk (below_step HB_5.out (below_drew1 (Below.refl _ _)))
   have CC_6:=Aside0.mk (Kd.C_below CC_5.out (below_drew1 (Below.refl _ _)))
   have C1_6:=Aside0.mk (Kd.C_below C1_5.out (below_drew1 (Below.refl _ _)))
   have Hg4_6:=Aside0.mk (blk_below Hg4_5.out (below_drew1 (Below.refl _ _)))
   have Hg6_6:=Aside0.mk (blk_below Hg6_5.out (below_drew1 (Below.refl _ _)))
   have Hg7_6:=Aside0.mk (blk_below Hg7_5.out (below_drew1 (Below.refl _ _)))
   have fg40_6 : w5.drew.cell? ⟨g4,0,none⟩ = some (.int .i64 a0_0):=zz0 Hg4_6
   have fg41_6 : w5.drew.cell? ⟨g4,1,none⟩ = some (.int .i64 a0_1):=zz1 Hg4_6
   have fg42_6 : w5.drew.cell? ⟨g4,2,none⟩ = some (.slice A0_2 l0_2.length c0_2):=zz2 Hg4_6
   have fg60_6 : w5.drew.cell? ⟨g6,0,none⟩ = some (.int .i64 a2_0):=zz0 Hg6_6
   have fg61_6 : w5.drew.cell? ⟨g6,1,none⟩ = some (.int .i64 a2_1):=zz1 Hg6_6
   have fg70_6 : w5.drew.cell? ⟨g7,0,none⟩ = some (.int .i64 a3_0):=zz0 Hg7_6
   have fg71_6 : w5.drew.cell? ⟨g7,1,none⟩ = some (.int .i64 a3_1):=zz1 Hg7_6
   refine start_ (n:=14) (S:=fun w'=>w'.cell? ⟨g4,0,none⟩ = some (.int .i64 a0_0) ∧ w'.cell? ⟨g4,1,none⟩ = some (.int .i64 a0_1) ∧ w'.cell? ⟨g4,2,none⟩ = some (.slice A0_2 l0_2.length c0_2) ∧ w'.cell? ⟨g6,0,none⟩ = some (.int .i64 a2_0) ∧ w'.cell? ⟨g6,1,none⟩ = some (.int .i64 a2_1) ∧ w'.cell? ⟨g7,0,none⟩ = some (.int .i64 a3_0) ∧ w'.cell? ⟨g7,1,none⟩ = some (.int .i64 a3_1)) (ds:=[7,8]) #[false,false,false,false,false,false,false,false,false,false,false,false,false,false] (by kernel_rfl) rfl rfl ⟨fg40_6,fg41_6,fg42_6,fg60_6,fg61_6,fg70_6,fg71_6⟩ (fun hHeld=>?_)
   generalize w5.drew = w6 at HB_6 CC_6 C1_6 Hg4_6 Hg6_6 Hg7_6 fg40_6 fg41_6 fg42_6 fg60_6 fg61_6 fg70_6 fg71_6 hHeld ⊢
   refine zzt 0 32 (zzb 14 1) hHeld ?_ (hy:=by intro w' s0;obtain ⟨q0,q1,q2,q3,q4,q5,q6⟩:=s0;go_simp;with_reducible rfl);refine zzp 2 34 (zzb 14 5) ?_
   refine zzt 4 36 (zzb 14 21) hHeld ?_ (hy:=by intro w' s0;obtain ⟨q0,q1,q2,q3,q4,q5,q6⟩:=s0;go_simp;with_reducible rfl)
   refine zzt 6 38 (zzb 14 85) hHeld ?_ (hy:=by intro w' s0;obtain ⟨q0,q1,q2,q3,q4,q5,q6⟩:=s0;go_simp;with_reducible rfl)
   refine zzo 1 33 (zzb 14 87) (fun K hK=>?_)
   refine call_ 15 #[.agg #[.int .i64 a0_0,.int .i64 a0_1,.slice A0_2 l0_2.length c0_2]] (by rfl) rfl ?hr33_1 ?_
   case hr33_1 =>
    unfold execOp
    simp [resolve,Deferred.ofValue,invoke,Act.eval,enters_ Try.func15 (by kernel_rfl) rfl]
   refine (laws_toFloor.calls kt a0_0 a0_1 A0_2 c0_2 l0_2 a0_0 a0_1 bl _ CC_6.out hc0_2 KT.out).mono ?_
   rintro e w7 ⟨v8,rfl,hR,hB⟩
   refine ⟨_,rfl,?_⟩
   have HB_7:=Aside0.mk (below_step HB_6.out hB)
   have CC_7:=Aside0.mk (Kd.C_below CC_6.out hB)
   have C1_7:=Aside0.mk (Kd.C_below C1_6.out hB)
   have Hg4_7:=Aside0.mk (blk_below Hg4_6.out hB)
   have Hg6_7:=Aside0.mk (blk_below Hg6_6.out hB)
   have Hg7_7:=Aside0.mk (blk_below Hg7_6.out hB)
   obtain ⟨A8,c8,rfl⟩:=Kd.R_slice hR
   have CX8_7:=Aside0.mk (Kd.R_reads' hR).2.2
   have LX8:=Aside0.mk (Kd.R_reads' hR).2.1
   clear hR
   have fg40_7:=zz0 Hg4_7
   have fg41_7:=zz1 Hg4_7
   have fg42_7:=zz2 Hg4_7
   have fg60_7:=zz0 Hg6_7
   have fg61_7:=zz1 Hg6_7
   have fg70_7:=zz0 Hg7_7
   have fg71_7:=zz1 Hg7_7
   clear hB
   refine hK.out _ _ ⟨fg40_7,fg41_7,fg42_7,fg60_7,fg61_7,fg70_7,fg71_7⟩ (fun hHeld=>?_)
   clear hK K
   refine zzn 33 ?_
   refine zzo 3 35 (zzb 14 95) (fun K hK=>?_)
   refine call_ 40 #[.slice A1 l1.length c1] (by rfl) rfl ?hr35_3 ?_
   case hr35_3 =>
    unfold execOp
    simp [resolve,Deferred.ofValue,invoke,Act.eval,enters_ Try.func40 (by kernel_rfl) rfl]
   refine (laws_toCellSS.calls kq A1 c1 l1 os _ C1_7.out hc1 KQ.out).mono ?_
   rintro e w8 ⟨v9,rfl,hS,hB⟩
   refine ⟨_,rfl,?_⟩
   have HB_8:=Aside0.mk (below_step HB_7.out hB)
   have CC_8:=Aside0.mk (Kd.C_below CC_7.out hB)
   have C1_8:=Aside0.mk (Kd.C_below C1_7.out hB)
   have Hg4_8:=Aside0.mk (blk_below Hg4_7.out hB)
   have Hg6_8:=Aside0.mk (blk_below Hg6_7.out hB)
   have Hg7_8:=Aside0.mk (blk_below Hg7_7.out hB)
   have CX8_8:=Aside0.mk (Kd.C_below CX8_7.out hB)
   obtain ⟨A9,c9,rfl⟩:=Kd.S_slice hS
   have CX9_8:=Aside0.mk (Kd.S_reads' hS).2.2
   have LX9:=Aside0.mk (Kd.S_reads' hS).2.1
   clear hS
   have fg40_8:=zz0 Hg4_8
   have fg41_8:=zz1 Hg4_8
   have fg42_8:=zz2 Hg4_8
   have fg60_8:=zz0 Hg6_8
   have fg61_8:=zz1 Hg6_8
   have fg70_8:=zz0 Hg7_8
   have fg71_8:=zz1 Hg7_8
   clear hB
   refine hK.out _ _ ⟨fg40_8,fg41_8,fg42_8,fg60_8,fg61_8,fg70_8,fg71_8⟩ (fun hHeld=>?_)
   clear hK K
   refine zzn 35 ?_
   refine zzo 5 37 (zzb 14 127) (fun K hK=>?_)
   refine call_ 28 #[.agg #[.int .i64 a2_0,.int .i64 a2_1]] (by rfl) rfl ?hr37_5 ?_
   case hr37_5 =>
    unfold execOp
    simp [resolve,Deferred.ofValue,invoke,Act.eval,enters_ Try.func28 (by kernel_rfl) rfl]
   refine (laws_toCell.calls a2_0 a2_1 a2_0 a2_1 _ rfl).mono ?_
   rintro e w9 ⟨rfl,hB⟩
   refine ⟨_,rfl,?_⟩
   have HB_9:=Aside0.mk (below_step HB_8.out hB)
   have CC_9:=Aside0.mk (Kd.C_below CC_8.out hB)
   have C1_9:=Aside0.mk (Kd.C_below C1_8.out hB)
   have Hg4_9:=Aside0.mk (blk_below Hg4_8.out hB)
   have Hg6_9:=Aside0.mk (blk_below Hg6_8.out hB)
   have Hg7_9:=Aside0.mk (blk_below Hg7_8.out hB)
   have CX8_9:=Aside0.mk (Kd.C_below CX8_8.out hB)
   have CX9_9:=Aside0.mk (Kd.C_below CX9_8.out hB)
   have fg40_9:=zz0 Hg4_9
   have fg41_9:=zz1 Hg4_9
   have fg42_9:=zz2 Hg4_9
   have fg60_9:=zz0 Hg6_9
   have fg61_9:=zz1 Hg6_9
   have fg70_9:=zz0 Hg7_9
   have fg71_9:=zz1 Hg7_9
   clear hB
   refine hK.out _ _ ⟨fg40_9,fg41_9,fg42_9,fg60_9,fg61_9,fg70_9,fg71_9⟩ (fun hHeld=>?_)
   clear hK K
   refine zzn 37 ?_
   refine last_ (i:=7) (N:=(some 39)) #[true,true,true,true,true,true,true,true,false,false,false,false,false,false] rfl rfl (by kernel_rfl) (by decide) (fun K hK=>?_)
   refine call_ 28 #[.agg #[.int .i64 a3_0,.int .i64 a3_1]] (by rfl) rfl ?hr39_7 ?_
   case hr39_7 =>
    unfold execOp
    simp [resolve,Deferred.ofValue,invoke,Act.eval,enters_ Try.func28 (by kernel_rfl) rfl]
   refine (laws_toCell.calls a3_0 a3_1 a3_0 a3_1 _ rfl).mono ?_
   rintro e w10 ⟨rfl,hB⟩
   refine ⟨_,rfl,?_⟩
   have HB_10:=Aside0.mk (below_step HB_9.out hB)
   have CC_10:=Aside0.mk (Kd.C_below CC_9.out hB)
   have C1_10:=Aside0.mk (Kd.C_below C1_9.out hB)
   have Hg4_10:=Aside0.mk (blk_below Hg4_9.out hB)
   have Hg6_10:=Aside0.mk (blk_below Hg6_9.out hB)
   have Hg7_10:=Aside0.mk (blk_below Hg7_9.out hB)
   have CX8_10:=Aside0.mk (Kd.C_below CX8_9.out hB)
   have CX9_10:=Aside0.mk (Kd.C_below CX9_9.out hB)
   have fg40_10:=zz0 Hg4_10
   have fg41_10:=zz1 Hg4_10
   have fg42_10:=zz2 Hg4_10
   have fg60_10:=zz0 Hg6_10
   have fg61_10:=zz1 Hg6_10
   have fg70_10:=zz0 Hg7_10
   have fg71_10:=zz1 Hg7_10
   clear hB
   refine hK.out _ _ ?_
   clear hK K
   refine zzn 39 ?_
   refine last_ (i:=8) (N:=(some 40)) #[true,true,true,true,true,true,true,true,true,false,false,false,false,false] rfl rfl (by kernel_rfl) (by decide) (fun K hK=>?_)
   refine call_ 39 #[.agg #[.int .i64 a0_0,.int .i64 a0_1,.slice A8 bl.length c8],.slice A9 os.length c9,.agg #[.int .i64 a2_0,.int .i64 a2_1],.agg #[.int .i64 a3_0,.int .i64 a3_1]] (by rfl) rfl ?hr40_8 ?_
   case hr40_8 =>
    unfold execOp
    simp [resolve,Deferred.ofValue,invoke,Act.eval,enters_ Try.func39 (by kernel_rfl) rfl]
   refine (spec_SafePath.calls ks a0_0 a0_1 A8 c8 bl A9 c9 os a2_0 a2_1 a3_0 a3_1 R.1 R.2 _ CX8_10.out LX8.out CX9_10.out LX9.out KP.out).mono ?_
   rintro e w11 ⟨v10,rfl,hR,hB⟩
   refine ⟨_,rfl,?_⟩
   have HB_11:=Aside0.mk (below_step HB_10.out hB)
   have CC_11:=Aside0.mk (Kd.C_below CC_10.out hB)
   have C1_11:=Aside0.mk (Kd.C_below C1_10.out hB)
   have Hg4_11:=Aside0.mk (blk_below Hg4_10.out hB)
   have Hg6_11:=Aside0.mk (blk_below Hg6_10.out hB)
   have Hg7_11:=Aside0.mk (blk_below Hg7_10.out hB)
   have CX8_11:=Aside0.mk (Kd.C_below CX8_10.out hB)
   have CX9_11:=Aside0.mk (Kd.C_below CX9_10.out hB)
   obtain ⟨A10,c10,rfl⟩:=Kd.R_slice hR
   have RW_11:=Aside0.mk (Kd.R_mono (Kd.R_bound hR) (fun k hk=>(hk.2.2.1 : k < w11.heap.size)))
   clear hR
   have Lg4 : Aside0 (g4 < w11.heap.size):=Aside0.mk (blk_lt Hg4_11.out)
   have Lg6 : Aside0 (g6 < w11.heap.size):=Aside0.mk (blk_lt Hg6_11.out)
   have Lg7 : Aside0 (g7 < w11.heap.size):=Aside0.mk (blk_lt Hg7_11.out)
   have fg40_11:=zz0 Hg4_11
   have fg41_11:=zz1 Hg4_11
   have fg42_11:=zz2 Hg4_11
   have fg60_11:=zz0 Hg6_11
   have fg61_11:=zz1 Hg6_11
   have fg70_11:=zz0 Hg7_11
   have fg71_11:=zz1 Hg7_11
   clear hB
   refine hK.out _ _ ?_
   clear hK K
   refine zzn 40 ?_;refine zzp 9 31 (zzb 14 1023) ?_;refine zzp 10 41 (zzb 14 2047) ?_;refine zzp 11 42 (zzb 14 4095) ?_;refine zzp 12 10 (zzb 14 8191) ?_;refine zzp 13 11 (zzb 14 16383) ?_
   refine done_ (by kernel_rfl) ?_
   go_wp2_with (first|(go_at_call 15;(with_reducible refine (laws_toFloor.calls kt a0_0 a0_1 A0_2 c0_2 l0_2 a0_0 a0_1 bl _ CC_11.out hc0_2 KT.out).mono ?_);rintro e w12 ⟨v11,rfl,hR,hB⟩;have HB_12:=Aside0.mk (below_step HB_11.out hB);have CC_12:=Aside0.mk (Kd.C_below CC_11.out hB);have C1_12:=Aside0.mk (Kd.C_below C1_11.out hB);have Hg4_12:=Aside0.mk (blk_below Hg4_11.out hB);have Hg6_12:=Aside0.mk (blk_below Hg6_11.out hB);have Hg7_12:=Aside0.mk (blk_below Hg7_11.out hB);have RW_12:=Aside0.mk (Kd.R_below RW_11.out hB);obtain ⟨A11,c11,rfl⟩:=Kd.R_slice hR;have RX_12:=Aside0.mk (Kd.R_mono (Kd.R_bound hR) (fun k hk=>(⟨hk.2.1,hk.2.2.1⟩ : w11.heap.size ≤ k ∧ k < w12.heap.size)));have Z1011 : Aside0 (w11.heap.size ≤ w12.heap.size):=Aside0.mk hB.size;clear hR;have fg40_12:=zz0 Hg4_12;have fg41_12:=zz1 Hg4_12;have fg42_12:=zz2 Hg4_12;have fg60_12:=zz0 Hg6_12;have fg61_12:=zz1 Hg6_12;have fg70_12:=zz0 Hg7_12;have fg71_12:=zz1 Hg7_12;clear hB)|((with_reducible refine gate_dst (N:=12) rfl ?_);refine zzc 12 #[.int .i64 0,.int .i64 0,.slice none 0 0] 29 ?_;intro g12 hgg12 w13 hbox hb;have HB_13:=Aside0.mk (below_step HB_12.out hb);have CC_13:=Aside0.mk (Kd.C_below CC_12.out hb);have C1_13:=Aside0.mk (Kd.C_below C1_12.out hb);have Hg4_13:=Aside0.mk (blk_below Hg4_12.out hb);have Hg6_13:=Aside0.mk (blk_below Hg6_12.out hb);have Hg7_13:=Aside0.mk (blk_below Hg7_12.out hb);have RW_13:=Aside0.mk (Kd.R_below RW_12.out hb);have RX_13:=Aside0.mk (Kd.R_below RX_12.out hb);have Hg12_13:=Aside0.mk hbox;have Gg12 : Aside0 (g12 = _):=Aside0.mk hgg12;have hz80:=zz0 Hg12_13;have hy80:=blk_frozen Hg12_13.out 0;have hz81:=zz1 Hg12_13;have hy81:=blk_frozen Hg12_13.out 1;have hz82:=zz2 Hg12_13;have hy82:=blk_frozen Hg12_13.out 2;have B12:=Aside0.mk (below_set (j:=2) (v := .slice A11 bl.length c11) (below_set (j:=1) (v := .int .i64 a0_1) (below_set (j:=0) (v := .int .i64 a0_0) hb (Nat.le_of_eq Gg12.out.symm)) (Nat.le_of_eq Gg12.out.symm)) (Nat.le_of_eq Gg12.out.symm));clear hbox hb hgg12))
   have HB_14:=Aside0.mk (below_step HB_12.out B12.out)
   have CC_14:=Aside0.mk (Kd.C_below CC_12.out B12.out)
   have C1_14:=Aside0.mk (Kd.C_below C1_12.out B12.out)
   have Hg4_14:=Aside0.mk (blk_below Hg4_12.out B12.out)
   have Hg6_14:=Aside0.mk (blk_below Hg6_12.out B12.out)
   have Hg7_14:=Aside0.mk (blk_below Hg7_12.out B12.out)
   have RW_14:=Aside0.mk (Kd.R_below RW_12.out B12.out)
   have RX_14:=Aside0.mk (Kd.R_below RX_12.out B12.out)
   have Hg12_14 : Aside0 ((((w13.setCell ⟨g12,0,none⟩ (.int .i64 a0_0)).setCell ⟨g12,1,none⟩ (.int .i64 a0_1)).setCell ⟨g12,2,none⟩ (.slice A11 bl.length c11)).heap[g12]? = some (.cells #[.int .i64 a0_0,.int .i64 a0_1,.slice A11 bl.length c11] 29 (0,0))):=Aside0.mk (blk_put (cs := #[.int .i64 a0_0,.int .i64 a0_1,.slice none 0 0]) (blk_put (cs := #[.int .i64 a0_0,.int .i64 0,.slice none 0 0]) (blk_put (cs := #[.int .i64 0,.int .i64 0,.slice none 0 0]) Hg12_13.out 0 _ rfl) 1 _ rfl) 2 _ rfl)
   have Z1112 : Aside0 (w12.heap.size ≤ (((w13.setCell ⟨g12,0,none⟩ (.int .i64 a0_0)).setCell ⟨g12,1,none⟩ (.int .i64 a0_1)).setCell ⟨g12,2,none⟩ (.slice A11 bl.length c11)).heap.size):=Aside0.mk B12.out.size
   clear B12
   generalize (((w13.setCell ⟨g12,0,none⟩ (.int .i64 a0_0)).setCell ⟨g12,1,none⟩ (.int .i64 a0_1)).setCell ⟨g12,2,none⟩ (.slice A11 bl.length c11)) = w14 at Z1112 HB_14 CC_14 C1_14 Hg4_14 Hg6_14 Hg7_14 RW_14 RX_14 Hg12_14 ⊢
   have fg40_14:=zz0 Hg4_14
   have fg41_14:=zz1 Hg4_14
   have fg42_14:=zz2 Hg4_14
   have fg60_14:=zz0 Hg6_14
   have fg61_14:=zz1 Hg6_14
   have fg70_14:=zz0 Hg7_14
   have fg71_14:=zz1 Hg7_14
   have fg120_14:=zz0 Hg12_14
   have fg121_14:=zz1 Hg12_14
   have fg122_14:=zz2 Hg12_14
   go_wp2_with (first|(go_at_call 40;(with_reducible refine (laws_toCellSS.calls kq A1 c1 l1 os _ C1_14.out hc1 KQ.out).mono ?_);rintro e w15 ⟨v13,rfl,hS,hB⟩;have HB_15:=Aside0.mk (below_step HB_14.out hB);have CC_15:=Aside0.mk (Kd.C_below CC_14.out hB);have C1_15:=Aside0.mk (Kd.C_below C1_14.out hB);have Hg4_15:=Aside0.mk (blk_below Hg4_14.out hB);have Hg6_15:=Aside0.mk (blk_below Hg6_14.out hB);have Hg7_15:=Aside0.mk (blk_below Hg7_14.out hB);have RW_15:=Aside0.mk (Kd.R_below RW_14.out hB);have RX_15:=Aside0.mk (Kd.R_below RX_14.out hB);have Hg12_15:=Aside0.mk (blk_below Hg12_14.out hB);obtain ⟨A13,c13,rfl⟩:=Kd.S_slice hS;have SX_15:=Aside0.mk (Kd.S_mono (Kd.S_bound hS) (fun k hk=>(⟨hk.2.1,hk.2.2.1⟩ : w14.heap.size ≤ k ∧ k < w15.heap.size)));have Z13 : Aside0 (w14.heap.size ≤ w15.heap.size):=Aside0.mk hB.size;have LG12 : Aside0 (g12 < w14.heap.size):=Aside0.mk (blk_lt Hg12_14.out);clear hS;have fg40_15:=zz0 Hg4_15;have fg41_15:=zz1 Hg4_15;have fg42_15:=zz2 Hg4_15;have fg60_15:=zz0 Hg6_15;have fg61_15:=zz1 Hg6_15;have fg70_15:=zz0 Hg7_15;have fg71_15:=zz1 Hg7_15;have fg120_15:=zz0 Hg12_15;have fg121_15:=zz1 Hg12_15;have fg122_15:=zz2 Hg12_15;clear hB))
   have HB_16:=Aside0.mk (below_step HB_15.out (below_drew1 (Below.refl _ _)))
   have CC_16:=Aside0.mk (Kd.C_below CC_15.out (below_drew1 (Below.refl _ _)))
   have C1_16:=Aside0.mk (Kd.C_below C1_15.out (below_drew1 (Below.refl _ _)))
   have Hg4_16:=Aside0.mk (blk_below Hg4_15.out (below_drew1 (Below.refl _ _)))
   have Hg6_16:=Aside0.mk (blk_below Hg6_15.out (below_drew1 (Below.refl _ _)))
   have Hg7_16:=Aside0.mk (blk_below Hg7_15.out (below_drew1 (Below.refl _ _)))
   have RW_16:=Aside0.mk (Kd.R_below RW_15.out (below_drew1 (Below.refl _ _)))
   have RX_16:=Aside0.mk (Kd.R_below RX_15.out (below_drew1 (Below.refl _ _)))
   have Hg12_16:=Aside0.mk (blk_below Hg12_15.out (below_drew1 (Below.refl _ _)))
   have SX_16:=Aside0.mk (Kd.S_below SX_15.out (below_drew1 (Below.refl _ _)))
   have fg40_16 : w15.drew.cell? ⟨g4,0,none⟩ = some (.int .i64 a0_0):=zz0 Hg4_16
   have fg41_16 : w15.drew.cell? ⟨g4,1,none⟩ = some (.int .i64 a0_1):=zz1 Hg4_16
   have fg42_16 : w15.drew.cell? ⟨g4,2,none⟩ = some (.slice A0_2 l0_2.length c0_2):=zz2 Hg4_16
   have fg60_16 : w15.drew.cell? ⟨g6,0,none⟩ = some (.int .i64 a2_0):=zz0 Hg6_16
   have fg61_16 : w15.drew.cell? ⟨g6,1,none⟩ = some (.int .i64 a2_1):=zz1 Hg6_16
   have fg70_16 : w15.drew.cell? ⟨g7,0,none⟩ = some (.int .i64 a3_0):=zz0 Hg7_16
   have fg71_16 : w15.drew.cell? ⟨g7,1,none⟩ = some (.int .i64 a3_1):=zz1 Hg7_16
   have fg120_16 : w15.drew.cell? ⟨g12,0,none⟩ = some (.int .i64 a0_0):=zz0 Hg12_16
   have fg121_16 : w15.drew.cell? ⟨g12,1,none⟩ = some (.int .i64 a0_1):=zz1 Hg12_16
   have fg122_16 : w15.drew.cell? ⟨g12,2,none⟩ = some (.slice A11 bl.length c11):=zz2 Hg12_16
   have Z13b : Aside0 (w15.heap.size ≤ w15.drew.heap.size):=Aside0.mk (Nat.le_refl _)
   refine start_ (n:=12) (S:=fun w'=>w'.cell? ⟨g12,0,none⟩ = some (.int .i64 a0_0) ∧ w'.cell? ⟨g12,1,none⟩ = some (.int .i64 a0_1) ∧ w'.cell? ⟨g12,2,none⟩ = some (.slice A11 bl.length c11) ∧ w'.cell? ⟨g6,0,none⟩ = some (.int .i64 a2_0) ∧ w'.cell? ⟨g6,1,none⟩ = some (.int .i64 a2_1) ∧ w'.cell? ⟨g7,0,none⟩ = some (.int .i64 a3_0) ∧ w'.cell? ⟨g7,1,none⟩ = some (.int .i64 a3_1)) (ds:=[6]) #[false,false,false,false,false,false,false,false,false,false,false,false] (by kernel_rfl) rfl rfl ⟨fg120_16,fg121_16,fg122_16,fg60_16,fg61_16,fg70_16,fg71_16⟩ (fun hHeld=>?_)
   generalize w15.drew = w16 at HB_16 CC_16 C1_16 Hg4_16 Hg6_16 Hg7_16 RW_16 RX_16 Hg12_16 SX_16 fg40_16 fg41_16 fg42_16 fg60_16 fg61_16 fg70_16 fg71_16 fg120_16 fg121_16 fg122_16 Z13b hHeld ⊢
   refine zzt 0 48 (zzb 12 1) hHeld ?_ (hy:=by intro w' s0;obtain ⟨q0,q1,q2,q3,q4,q5,q6⟩:=s0;go_simp;with_reducible rfl);refine zzp 1 49 (zzb 12 3) ?_
   refine zzt 2 50 (zzb 12 7) hHeld ?_ (hy:=by intro w' s0;obtain ⟨q0,q1,q2,q3,q4,q5,q6⟩:=s0;go_simp;with_reducible rfl)
   refine zzt 4 52 (zzb 12 23) hHeld ?_ (hy:=by intro w' s0;obtain ⟨q0,q1,q2,q3,q4,q5,q6⟩:=s0;go_simp;with_reducible rfl)
   refine zzo 3 51 (zzb 12 31) (fun K hK=>?_)
   refine call_ 28 #[.agg #[.int .i64 a2_0,.int .i64 a2_1]] (by rfl) rfl ?hr51_3 ?_
   case hr51_3 =>
    unfold execOp
    simp [resolve,Deferred.ofValue,invoke,Act.eval,enters_ Try.func28 (by kernel_rfl) rfl]
   refine (laws_toCell.calls a2_0 a2_1 a2_0 a2_1 _ rfl).mono ?_
   rintro e w17 ⟨rfl,hB⟩
   refine ⟨_,rfl,?_⟩
   have HB_17:=Aside0.mk (below_step HB_16.out hB)
   have CC_17:=Aside0.mk (Kd.C_below CC_16.out hB)
   have C1_17:=Aside0.mk (Kd.C_below C1_16.out hB)
   have Hg4_17:=Aside0.mk (blk_below Hg4_16.out hB)
   have Hg6_17:=Aside0.mk (blk_below Hg6_16.out hB)
   have Hg7_17:=Aside0.mk (blk_below Hg7_16.out hB)
   have RW_17:=Aside0.mk (Kd.R_below RW_16.out hB)
   have RX_17:=Aside0.mk (Kd.R_below RX_16.out hB)
   have Hg12_17:=Aside0.mk (blk_below Hg12_16.out hB)
   have SX_17:=Aside0.mk (Kd.S_below SX_16.out hB)
   have Z51 : Aside0 (w15.heap.size ≤ w17.heap.size):=Aside0.mk (Nat.le_trans Z13b.out hB.size)
   have fg40_17:=zz0 Hg4_17
   have fg41_17:=zz1 Hg4_17
   have fg42_17:=zz2 Hg4_17
   have fg60_17:=zz0 Hg6_17
   have fg61_17:=zz1 Hg6_17
   have fg70_17:=zz0 Hg7_17
   have fg71_17:=zz1 Hg7_17
   have fg120_17:=zz0 Hg12_17
   have fg121_17:=zz1 Hg12_17
   have fg122_17:=zz2 Hg12_17
   clear hB
   refine hK.out _ _ ⟨fg120_17,fg121_17,fg122_17,fg60_17,fg61_17,fg70_17,fg71_17⟩ (fun hHeld=>?_)
   clear hK K
   refine zzn 51 ?_
   refine zzo 5 53 (zzb 12 63) (fun K hK=>?_)
   refine call_ 28 #[.agg #[.int .i64 a3_0,.int .i64 a3_1]] (by rfl) rfl ?hr53_5 ?_
   case hr53_5 =>
    unfold execOp
    simp [resolve,Deferred.ofValue,invoke,Act.eval,enters_ Try.func28 (by kernel_rfl) rfl]
   refine (laws_toCell.calls a3_0 a3_1 a3_0 a3_1 _ rfl).mono ?_
   rintro e w18 ⟨rfl,hB⟩
   refine ⟨_,rfl,?_⟩
   have HB_18:=Aside0.mk (below_step HB_17.out hB)
   have CC_18:=Aside0.mk (Kd.C_below CC_17.out hB)
   have C1_18:=Aside0.mk (Kd.C_below C1_17.out hB)
   have Hg4_18:=Aside0.mk (blk_below Hg4_17.out hB)
   have Hg6_18:=Aside0.mk (blk_below Hg6_17.out hB)
   have Hg7_18:=Aside0.mk (blk_below Hg7_17.out hB)
   have RW_18:=Aside0.mk (Kd.R_below RW_17.out hB)
   have RX_18:=Aside0.mk (Kd.R_below RX_17.out hB)
   have Hg12_18:=Aside0.mk (blk_below Hg12_17.out hB)
   have SX_18:=Aside0.mk (Kd.S_below SX_17.out hB)
   have Z53 : Aside0 (w15.heap.size ≤ w18.heap.size):=Aside0.mk (Nat.le_trans Z51.out hB.size)
   have fg40_18:=zz0 Hg4_18
   have fg41_18:=zz1 Hg4_18
   have fg42_18:=zz2 Hg4_18
   have fg60_18:=zz0 Hg6_18
   have fg61_18:=zz1 Hg6_18
   have fg70_18:=zz0 Hg7_18
   have fg71_18:=zz1 Hg7_18
   have fg120_18:=zz0 Hg12_18
   have fg121_18:=zz1 Hg12_18
   have fg122_18:=zz2 Hg12_18
   clear hB
   refine hK.out _ _ ⟨fg120_18,fg121_18,fg122_18,fg60_18,fg61_18,fg70_18,fg71_18⟩ (fun hHeld=>?_)
   clear hK K
   refine zzn 53 ?_
   refine last_ (i:=6) (N:=(some 54)) #[true,true,true,true,true,true,true,false,false,false,false,false] rfl rfl (by kernel_rfl) (by decide) (fun K hK=>?_)
   refine call_ 41 #[.agg #[.int .i64 a0_0,.int .i64 a0_1,.slice A11 bl.length c11],.slice A13 os.length c13,.agg #[.int .i64 a2_0,.int .i64 a2_1],.agg #[.int .i64 a3_0,.int .i64 a3_1]] (by rfl) rfl ?hr54_6 ?_
   case hr54_6 =>
    unfold execOp
    simp [resolve,Deferred.ofValue,invoke,Act.eval,enters_ Try.func41 (by kernel_rfl) rfl]
   refine (impl_SafePath.calls a0_0 a0_1 A11 c11 bl A13 c13 os a2_0 a2_1 a3_0 a3_1 R.1 R.2 _ (Kd.R_reads' RX_18.out).2.2 (Kd.R_reads' RX_18.out).2.1 (Kd.S_reads' SX_18.out).2.2 (Kd.S_reads' SX_18.out).2.1 KI.out).mono ?_
   rintro e w19 ⟨v14,rfl,hR,hB⟩
   refine ⟨_,rfl,?_⟩
   have HB_19:=Aside0.mk (below_step HB_18.out hB)
   have CC_19:=Aside0.mk (Kd.C_below CC_18.out hB)
   have C1_19:=Aside0.mk (Kd.C_below C1_18.out hB)
   have Hg4_19:=Aside0.mk (blk_below Hg4_18.out hB)
   have Hg6_19:=Aside0.mk (blk_below Hg6_18.out hB)
   have Hg7_19:=Aside0.mk (blk_below Hg7_18.out hB)
   have RW_19:=Aside0.mk (Kd.R_below RW_18.out hB)
   have RX_19:=Aside0.mk (Kd.R_below RX_18.out hB)
   have Hg12_19:=Aside0.mk (blk_below Hg12_18.out hB)
   have SX_19:=Aside0.mk (Kd.S_below SX_18.out hB)
   obtain ⟨A14,c14,rfl⟩:=Kd.R_slice hR
   have RG_19:=Aside0.mk (Kd.R_mono (Kd.R_bound hR) (fun k hk=>(hk.2.1 : w18.heap.size ≤ k)))
   clear hR
   have fg40_19:=zz0 Hg4_19
   have fg41_19:=zz1 Hg4_19
   have fg42_19:=zz2 Hg4_19
   have fg60_19:=zz0 Hg6_19
   have fg61_19:=zz1 Hg6_19
   have fg70_19:=zz0 Hg7_19
   have fg71_19:=zz1 Hg7_19
   have fg120_19:=zz0 Hg12_19
   have fg121_19:=zz1 Hg12_19
   have fg122_19:=zz2 Hg12_19
   clear hB
   refine hK.out _ _ ?_
   clear hK K
   refine zzn 54 ?_;refine zzp 7 47 (zzb 12 255) ?_;refine zzp 8 55 (zzb 12 511) ?_;refine zzp 9 56 (zzb 12 1023) ?_;refine zzp 10 14 (zzb 12 2047) ?_;refine zzp 11 15 (zzb 12 4095) ?_
   refine done_ (by kernel_rfl) ?_
   go_wp2_with (first|(go_at_call 22;(with_reducible refine (laws_eqCellS.calls kr A14 c14 R.1 A10 c10 R.1 true _ (Kd.R_reads' RG_19.out).2.2 (Kd.R_reads' RG_19.out).2.1 (Kd.R_reads' RW_19.out).2.2 (Kd.R_reads' RW_19.out).2.1 KR.out).mono ?_);rintro e w20 ⟨rfl,hB⟩;have HB_20:=Aside0.mk (below_step HB_19.out hB);have CC_20:=Aside0.mk (Kd.C_below CC_19.out hB);have C1_20:=Aside0.mk (Kd.C_below C1_19.out hB);have Hg4_20:=Aside0.mk (blk_below Hg4_19.out hB);have Hg6_20:=Aside0.mk (blk_below Hg6_19.out hB);have Hg7_20:=Aside0.mk (blk_below Hg7_19.out hB);have RW_20:=Aside0.mk (Kd.R_below RW_19.out hB);have RX_20:=Aside0.mk (Kd.R_below RX_19.out hB);have Hg12_20:=Aside0.mk (blk_below Hg12_19.out hB);have SX_20:=Aside0.mk (Kd.S_below SX_19.out hB);have RG_20:=Aside0.mk (Kd.R_below RG_19.out hB);have fg40_20:=zz0 Hg4_20;have fg41_20:=zz1 Hg4_20;have fg42_20:=zz2 Hg4_20;have fg60_20:=zz0 Hg6_20;have fg61_20:=zz1 Hg6_20;have fg70_20:=zz0 Hg7_20;have fg71_20:=zz1 Hg7_20;have fg120_20:=zz0 Hg12_20;have fg121_20:=zz1 Hg12_20;have fg122_20:=zz2 Hg12_20;clear hB))
   have HB_21:=Aside0.mk (below_step HB_20.out (below_drew1 (Below.refl _ _)))
   have CC_21:=Aside0.mk (Kd.C_below CC_20.out (below_drew1 (Below.refl _ _)))
   have C1_21:=Aside0.mk (Kd.C_below C1_20.out (below_drew1 (Below.refl _ _)))
   have Hg4_21:=Aside0.mk (blk_below Hg4_20.out (below_drew1 (Below.refl _ _)))
   have Hg6_21:=Aside0.mk (blk_below Hg6_20.out (below_drew1 (Below.refl _ _)))
   have Hg7_21:=Aside0.mk (blk_below Hg7_20.out (below_drew1 (Below.refl _ _)))
   have RW_21:=Aside0.mk (Kd.R_below RW_20.out (below_drew1 (Below.refl _ _)))
   have RX_21:=Aside0.mk (Kd.R_below RX_20.out (below_drew1 (Below.refl _ _)))
   have Hg12_21:=Aside0.mk (blk_below Hg12_20.out (below_drew1 (Below.refl _ _)))
   have SX_21:=Aside0.mk (Kd.S_below SX_20.out (below_drew1 (Below.refl _ _)))
   have RG_21:=Aside0.mk (Kd.R_below RG_20.out (below_drew1 (Below.refl _ _)))
   have fg40_21 : w20.drew.cell? ⟨g4,0,none⟩ = some (.int .i64 a0_0):=zz0 Hg4_21
   have fg41_21 : w20.drew.cell? ⟨g4,1,none⟩ = some (.int .i64 a0_1):=zz1 Hg4_21
   have fg42_21 : w20.drew.cell? ⟨g4,2,none⟩ = some (.slice A0_2 l0_2.length c0_2):=zz2 Hg4_21
   have fg60_21 : w20.drew.cell? ⟨g6,0,none⟩ = some (.int .i64 a2_0):=zz0 Hg6_21
   have fg61_21 : w20.drew.cell? ⟨g6,1,none⟩ = some (.int .i64 a2_1):=zz1 Hg6_21
   have fg70_21 : w20.drew.cell? ⟨g7,0,none⟩ = some (.int .i64 a3_0):=zz0 Hg7_21
   have fg71_21 : w20.drew.cell? ⟨g7,1,none⟩ = some (.int .i64 a3_1):=zz1 Hg7_21
   have fg120_21 : w20.drew.cell? ⟨g12,0,none⟩ = some (.int .i64 a0_0):=zz0 Hg12_21
   have fg121_21 : w20.drew.cell? ⟨g12,1,none⟩ = some (.int .i64 a0_1):=zz1 Hg12_21
   have fg122_21 : w20.drew.cell? ⟨g12,2,none⟩ = some (.slice A11 bl.length c11):=zz2 Hg12_21
   refine start_ (n:=5) (S:=fun w'=>w'.cell? ⟨g12,0,none⟩ = some (.int .i64 a0_0) ∧ w'.cell? ⟨g12,1,none⟩ = some (.int .i64 a0_1) ∧ w'.cell? ⟨g12,2,none⟩ = some (.slice A11 bl.length c11) ∧ w'.cell? ⟨g4,0,none⟩ = some (.int .i64 a0_0) ∧ w'.cell? ⟨g4,1,none⟩ = some (.int .i64 a0_1) ∧ w'.cell? ⟨g4,2,none⟩ = some (.slice A0_2 l0_2.length c0_2)) (ds:=[3]) #[false,false,false,false,false] (by kernel_rfl) rfl rfl ⟨fg120_21,fg121_21,fg122_21,fg40_21,fg41_21,fg42_21⟩ (fun hHeld=>?_)
   generalize w20.drew = w21 at HB_21 CC_21 C1_21 Hg4_21 Hg6_21 Hg7_21 RW_21 RX_21 Hg12_21 SX_21 RG_21 fg40_21 fg41_21 fg42_21 fg60_21 fg61_21 fg70_21 fg71_21 fg120_21 fg121_21 fg122_21 hHeld ⊢
   refine zzt 0 66 (zzb 5 1) hHeld ?_ (hy:=by intro w' s0;obtain ⟨q0,q1,q2,q3,q4,q5⟩:=s0;go_simp;with_reducible rfl)
   refine zzt 1 67 (zzb 5 3) hHeld ?_ (hy:=by intro w' s0;obtain ⟨q0,q1,q2,q3,q4,q5⟩:=s0;go_simp;with_reducible rfl)
   refine zzo 2 68 (zzb 5 7) (fun K hK=>?_)
   refine call_ 15 #[.agg #[.int .i64 a0_0,.int .i64 a0_1,.slice A0_2 l0_2.length c0_2]] (by rfl) rfl ?hr68_2 ?_
   case hr68_2 =>
    unfold execOp
    simp [resolve,Deferred.ofValue,invoke,Act.eval,enters_ Try.func15 (by kernel_rfl) rfl]
   refine (laws_toFloor.calls kt a0_0 a0_1 A0_2 c0_2 l0_2 a0_0 a0_1 bl _ CC_21.out hc0_2 KT.out).mono ?_
   rintro e w22 ⟨v17,rfl,hR,hB⟩
   refine ⟨_,rfl,?_⟩
   have HB_22:=Aside0.mk (below_step HB_21.out hB)
   have CC_22:=Aside0.mk (Kd.C_below CC_21.out hB)
   have C1_22:=Aside0.mk (Kd.C_below C1_21.out hB)
   have Hg4_22:=Aside0.mk (blk_below Hg4_21.out hB)
   have Hg6_22:=Aside0.mk (blk_below Hg6_21.out hB)
   have Hg7_22:=Aside0.mk (blk_below Hg7_21.out hB)
   have RW_22:=Aside0.mk (Kd.R_below RW_21.out hB)
   have RX_22:=Aside0.mk (Kd.R_below RX_21.out hB)
   have Hg12_22:=Aside0.mk (blk_below Hg12_21.out hB)
   have SX_22:=Aside0.mk (Kd.S_below SX_21.out hB)
   have RG_22:=Aside0.mk (Kd.R_below RG_21.out hB)
   obtain ⟨A17,c17,rfl⟩:=Kd.R_slice hR
   have CX17_22:=Aside0.mk (Kd.R_reads' hR).2.2
   have LX17:=Aside0.mk (Kd.R_reads' hR).2.1
   clear hR
   have fg40_22:=zz0 Hg4_22
   have fg41_22:=zz1 Hg4_22
   have fg42_22:=zz2 Hg4_22
   have fg60_22:=zz0 Hg6_22
   have fg61_22:=zz1 Hg6_22
   have fg70_22:=zz0 Hg7_22
   have fg71_22:=zz1 Hg7_22
   have fg120_22:=zz0 Hg12_22
   have fg121_22:=zz1 Hg12_22
   have fg122_22:=zz2 Hg12_22
   clear hB
   refine hK.out _ _ ⟨fg120_22,fg121_22,fg122_22,fg40_22,fg41_22,fg42_22⟩ (fun hHeld=>?_)
   clear hK K
   refine zzn 68 ?_
   refine last_ (i:=3) (N:=(some 69)) #[true,true,true,true,false] rfl rfl (by kernel_rfl) (by decide) (fun K hK=>?_)
   refine call_ 17 #[.agg #[.int .i64 a0_0,.int .i64 a0_1,.slice A11 bl.length c11],.agg #[.int .i64 a0_0,.int .i64 a0_1,.slice A17 bl.length c17]] (by rfl) rfl ?hr69_3 ?_
   case hr69_3 =>
    unfold execOp
    simp [resolve,Deferred.ofValue,invoke,Act.eval,enters_ Try.func17 (by kernel_rfl) rfl]
   refine (laws_eqFloor.calls ke a0_0 a0_1 A11 c11 bl a0_0 a0_1 A17 c17 bl true _ (Kd.R_reads' RX_22.out).2.2 (Kd.R_reads' RX_22.out).2.1 CX17_22.out LX17.out KE.out).mono ?_
   rintro e w23 ⟨rfl,hB⟩
   refine ⟨_,rfl,?_⟩
   have HB_23:=Aside0.mk (below_step HB_22.out hB)
   have CC_23:=Aside0.mk (Kd.C_below CC_22.out hB)
   have C1_23:=Aside0.mk (Kd.C_below C1_22.out hB)
   have Hg4_23:=Aside0.mk (blk_below Hg4_22.out hB)
   have Hg6_23:=Aside0.mk (blk_below Hg6_22.out hB)
   have Hg7_23:=Aside0.mk (blk_below Hg7_22.out hB)
   have RW_23:=Aside0.mk (Kd.R_below RW_22.out hB)
   have RX_23:=Aside0.mk (Kd.R_below RX_22.out hB)
   have Hg12_23:=Aside0.mk (blk_below Hg12_22.out hB)
   have SX_23:=Aside0.mk (Kd.S_below SX_22.out hB)
   have RG_23:=Aside0.mk (Kd.R_below RG_22.out hB)
   have CX17_23:=Aside0.mk (Kd.C_below CX17_22.out hB)
   have fg40_23:=zz0 Hg4_23
   have fg41_23:=zz1 Hg4_23
   have fg42_23:=zz2 Hg4_23
   have fg60_23:=zz0 Hg6_23
   have fg61_23:=zz1 Hg6_23
   have fg70_23:=zz0 Hg7_23
   have fg71_23:=zz1 Hg7_23
   have fg120_23:=zz0 Hg12_23
   have fg121_23:=zz1 Hg12_23
   have fg122_23:=zz2 Hg12_23
   clear hB
   refine hK.out _ _ ?_
   clear hK K
   refine zzn 69 ?_;refine zzp 4 70 (zzb 5 31) ?_
   refine done_ (by kernel_rfl) ?_
   go_wp2_with (first|(go_at_call 40;(with_reducible refine (laws_toCellSS.calls kq A1 c1 l1 os _ C1_23.out hc1 KQ.out).mono ?_);rintro e w24 ⟨v18,rfl,hS,hB⟩;have HB_24:=Aside0.mk (below_step HB_23.out hB);have CC_24:=Aside0.mk (Kd.C_below CC_23.out hB);have C1_24:=Aside0.mk (Kd.C_below C1_23.out hB);have Hg4_24:=Aside0.mk (blk_below Hg4_23.out hB);have Hg6_24:=Aside0.mk (blk_below Hg6_23.out hB);have Hg7_24:=Aside0.mk (blk_below Hg7_23.out hB);have RW_24:=Aside0.mk (Kd.R_below RW_23.out hB);have RX_24:=Aside0.mk (Kd.R_below RX_23.out hB);have Hg12_24:=Aside0.mk (blk_below Hg12_23.out hB);have SX_24:=Aside0.mk (Kd.S_below SX_23.out hB);have RG_24:=Aside0.mk (Kd.R_below RG_23.out hB);obtain ⟨A18,c18,rfl⟩:=Kd.S_slice hS;have CX18_24:=Aside0.mk (Kd.S_reads' hS).2.2;have LX18:=Aside0.mk (Kd.S_reads' hS).2.1;clear hS;have fg40_24:=zz0 Hg4_24;have fg41_24:=zz1 Hg4_24;have fg42_24:=zz2 Hg4_24;have fg60_24:=zz0 Hg6_24;have fg61_24:=zz1 Hg6_24;have fg70_24:=zz0 Hg7_24;have fg71_24:=zz1 Hg7_24;have fg120_24:=zz0 Hg12_24;have fg121_24:=zz1 Hg12_24;have fg122_24:=zz2 Hg12_24;clear hB)|(go_at_call 42;(with_reducible refine (laws_eqCellSS.calls kw A13 c13 os A18 c18 os true _ (Kd.S_reads' SX_24.out).2.2 (Kd.S_reads' SX_24.out).2.1 CX18_24.out LX18.out KW.out).mono ?_);rintro e w25 ⟨rfl,hB⟩;have HB_25:=Aside0.mk (below_step HB_24.out hB);have CC_25:=Aside0.mk (Kd.C_below CC_24.out hB);have C1_25:=Aside0.mk (Kd.C_below C1_24.out hB);have Hg4_25:=Aside0.mk (blk_below Hg4_24.out hB);have Hg6_25:=Aside0.mk (blk_below Hg6_24.out hB);have Hg7_25:=Aside0.mk (blk_below Hg7_24.out hB);have RW_25:=Aside0.mk (Kd.R_below RW_24.out hB);have RX_25:=Aside0.mk (Kd.R_below RX_24.out hB);have Hg12_25:=Aside0.mk (blk_below Hg12_24.out hB);have SX_25:=Aside0.mk (Kd.S_below SX_24.out hB);have RG_25:=Aside0.mk (Kd.R_below RG_24.out hB);have CX18_25:=Aside0.mk (Kd.C_below CX18_24.out hB);have fg40_25:=zz0 Hg4_25;have fg41_25:=zz1 Hg4_25;have fg42_25:=zz2 Hg4_25;have fg60_25:=zz0 Hg6_25;have fg61_25:=zz1 Hg6_25;have fg70_25:=zz0 Hg7_25;have fg71_25:=zz1 Hg7_25;have fg120_25:=zz0 Hg12_25;have fg121_25:=zz1 Hg12_25;have fg122_25:=zz2 Hg12_25;clear hB)|(go_at_call 31;(with_reducible refine (laws_markFloor.calls km a0_0 a0_1 (fun k=>w11.heap.size ≤ k ∧ k < w12.heap.size) (.slice A11 bl.length c11) bl 1 (1 + 2 * (bl.length : Int)) xs w _ HB_25.out (Kd.R_lower RX_25.out HB_11.out.size) KM.out).mono ?_);rintro e w26 ⟨rfl,hS,hB,hk⟩;have HB_26:=Aside0.mk hB;have CC_26:=Aside0.mk (Kd.C_below CC_0.out hB);have C1_26:=Aside0.mk (Kd.C_below C1_0.out hB);have Hg4_26:=Aside0.mk ((hk.2 g4 (blk_lt Hg4_25.out) (fun p=>by have:=Lg4.out;have z6:=p.1;omega)).trans Hg4_25.out);have Hg6_26:=Aside0.mk ((hk.2 g6 (blk_lt Hg6_25.out) (fun p=>by have:=Lg6.out;have z6:=p.1;omega)).trans Hg6_25.out);have Hg7_26:=Aside0.mk ((hk.2 g7 (blk_lt Hg7_25.out) (fun p=>by have:=Lg7.out;have z6:=p.1;omega)).trans Hg7_25.out);have RW_26:=Aside0.mk (Kd.R_kept RW_25.out hk (fun k hk p=>by have z6:=p.1;omega));have RX_26:=Aside0.mk hS;have Hg12_26:=Aside0.mk ((hk.2 g12 (blk_lt Hg12_25.out) (fun p=>by have:=Gg12.out;have z7:=p.2;omega)).trans Hg12_25.out);have SX_26:=Aside0.mk (Kd.S_kept SX_25.out hk (fun k hk p=>by have z:=Z1112.out;have z7:=p.2;have z8:=hk.1;omega));have RG_26:=Aside0.mk (Kd.R_kept RG_25.out hk (fun k hk p=>by have z:=Z1112.out;have z7:=p.2;have z8:=Z53.out;have z9:=Z13.out;omega));have fg40_26:=zz0 Hg4_26;have fg41_26:=zz1 Hg4_26;have fg42_26:=zz2 Hg4_26;have fg60_26:=zz0 Hg6_26;have fg61_26:=zz1 Hg6_26;have fg70_26:=zz0 Hg7_26;have fg71_26:=zz1 Hg7_26;have fg120_26:=zz0 Hg12_26;have fg121_26:=zz1 Hg12_26;have fg122_26:=zz2 Hg12_26;clear hS hB hk)|(go_at_call 43;(with_reducible refine (markCSS_rows kn A13 c13 os ys (1 + 2 * (bl.length : Int)) w _ HB_26.out (Kd.S_lower SX_26.out HB_14.out.size) HYL.out KN.out).mono ?_);rintro e w27 ⟨rfl,hS,hB,hk⟩;have HB_27:=Aside0.mk hB;have CC_27:=Aside0.mk (Kd.C_below CC_0.out hB);have C1_27:=Aside0.mk (Kd.C_below C1_0.out hB);have Hg4_27:=Aside0.mk ((hk.2 g4 (blk_lt Hg4_26.out) (fun p=>by have:=Lg4.out;have z6:=p.1;have z:=Z1112.out;have z1:=Z1011.out;omega)).trans Hg4_26.out);have Hg6_27:=Aside0.mk ((hk.2 g6 (blk_lt Hg6_26.out) (fun p=>by have:=Lg6.out;have z6:=p.1;have z:=Z1112.out;have z1:=Z1011.out;omega)).trans Hg6_26.out);have Hg7_27:=Aside0.mk ((hk.2 g7 (blk_lt Hg7_26.out) (fun p=>by have:=Lg7.out;have z6:=p.1;have z:=Z1112.out;have z1:=Z1011.out;omega)).trans Hg7_26.out);have RW_27:=Aside0.mk (Kd.R_kept RW_26.out hk (fun k hk p=>by have z6:=p.1;have z:=Z1112.out;have z1:=Z1011.out;omega));have Hg12_27:=Aside0.mk ((hk.2 g12 (blk_lt Hg12_26.out) (fun p=>by have:=LG12.out;have z6:=p.1;omega)).trans Hg12_26.out);have SX_27:=Aside0.mk hS;have RG_27:=Aside0.mk (Kd.R_kept RG_26.out hk (fun k hk p=>by have z7:=p.2;have z8:=Z53.out;omega));have fg40_27:=zz0 Hg4_27;have fg41_27:=zz1 Hg4_27;have fg42_27:=zz2 Hg4_27;have fg60_27:=zz0 Hg6_27;have fg61_27:=zz1 Hg6_27;have fg70_27:=zz0 Hg7_27;have fg71_27:=zz1 Hg7_27;have fg120_27:=zz0 Hg12_27;have fg121_27:=zz1 Hg12_27;have fg122_27:=zz2 Hg12_27;clear hS hB hk)|(go_at_call 22;(with_reducible refine (laws_eqCellS.calls kr A14 c14 R.1 A10 c10 R.1 true _ (Kd.R_reads' RG_27.out).2.2 (Kd.R_reads' RG_27.out).2.1 (Kd.R_reads' RW_27.out).2.2 (Kd.R_reads' RW_27.out).2.1 KR.out).mono ?_);rintro e w28 ⟨rfl,hB⟩;have HB_28:=Aside0.mk (below_step HB_27.out hB);have CC_28:=Aside0.mk (Kd.C_below CC_27.out hB);have C1_28:=Aside0.mk (Kd.C_below C1_27.out hB);have Hg4_28:=Aside0.mk (blk_below Hg4_27.out hB);have Hg6_28:=Aside0.mk (blk_below Hg6_27.out hB);have Hg7_28:=Aside0.mk (blk_below Hg7_27.out hB);have RW_28:=Aside0.mk (Kd.R_below RW_27.out hB);have Hg12_28:=Aside0.mk (blk_below Hg12_27.out hB);have RG_28:=Aside0.mk (Kd.R_below RG_27.out hB);have fg40_28:=zz0 Hg4_28;have fg41_28:=zz1 Hg4_28;have fg42_28:=zz2 Hg4_28;have fg60_28:=zz0 Hg6_28;have fg61_28:=zz1 Hg6_28;have fg70_28:=zz0 Hg7_28;have fg71_28:=zz1 Hg7_28;have fg120_28:=zz0 Hg12_28;have fg121_28:=zz1 Hg12_28;have fg122_28:=zz2 Hg12_28;clear hB)|(go_at_call 36;(with_reducible refine (laws_markCellS.calls kg (fun k=>w18.heap.size ≤ k) (.slice A14 R.1.length c14) R.1 1 (1 + 2 * (R.1.length : Int)) gs w _ HB_28.out (Kd.R_lower RG_28.out HB_18.out.size) KG.out).mono ?_);rintro e w29 ⟨rfl,hS,hB,hk⟩;have HB_29:=Aside0.mk hB;have CC_29:=Aside0.mk (Kd.C_below CC_0.out hB);have C1_29:=Aside0.mk (Kd.C_below C1_0.out hB);have Hg4_29:=Aside0.mk ((hk.2 g4 (blk_lt Hg4_28.out) (fun p=>by have:=Lg4.out;have z:=Z1112.out;have z1:=Z1011.out;have z8:=Z53.out;have z9:=Z13.out;omega)).trans Hg4_28.out);have Hg6_29:=Aside0.mk ((hk.2 g6 (blk_lt Hg6_28.out) (fun p=>by have:=Lg6.out;have z:=Z1112.out;have z1:=Z1011.out;have z8:=Z53.out;have z9:=Z13.out;omega)).trans Hg6_28.out);have Hg7_29:=Aside0.mk ((hk.2 g7 (blk_lt Hg7_28.out) (fun p=>by have:=Lg7.out;have z:=Z1112.out;have z1:=Z1011.out;have z8:=Z53.out;have z9:=Z13.out;omega)).trans Hg7_28.out);have RW_29:=Aside0.mk (Kd.R_kept RW_28.out hk (fun k hk p=>by have z:=Z1112.out;have z1:=Z1011.out;have z8:=Z53.out;have z9:=Z13.out;omega));have Hg12_29:=Aside0.mk ((hk.2 g12 (blk_lt Hg12_28.out) (fun p=>by have:=LG12.out;have z8:=Z53.out;have z9:=Z13.out;omega)).trans Hg12_28.out);have RG_29:=Aside0.mk hS;have fg40_29:=zz0 Hg4_29;have fg41_29:=zz1 Hg4_29;have fg42_29:=zz2 Hg4_29;have fg60_29:=zz0 Hg6_29;have fg61_29:=zz1 Hg6_29;have fg70_29:=zz0 Hg7_29;have fg71_29:=zz1 Hg7_29;have fg120_29:=zz0 Hg12_29;have fg121_29:=zz1 Hg12_29;have fg122_29:=zz2 Hg12_29;clear hS hB hk)|(go_at_call 37;(with_reducible refine (heldCl_at kh A14 c14 gs R.1.length 1 _ _ HGL.out (Kd.R_reads' RG_29.out).2.2 (Kd.R_reads' RG_29.out).2.1 KH.out).mono ?_);rintro e w30 ⟨rfl,hd⟩;have hB:=hd.below;clear hd;have HB_30:=Aside0.mk (below_step HB_29.out hB);have CC_30:=Aside0.mk (Kd.C_below CC_29.out hB);have C1_30:=Aside0.mk (Kd.C_below C1_29.out hB);have Hg4_30:=Aside0.mk (blk_below Hg4_29.out hB);have Hg6_30:=Aside0.mk (blk_below Hg6_29.out hB);have Hg7_30:=Aside0.mk (blk_below Hg7_29.out hB);have RW_30:=Aside0.mk (Kd.R_below RW_29.out hB);have Hg12_30:=Aside0.mk (blk_below Hg12_29.out hB);have RG_30:=Aside0.mk (Kd.R_below RG_29.out hB);have fg40_30:=zz0 Hg4_30;have fg41_30:=zz1 Hg4_30;have fg42_30:=zz2 Hg4_30;have fg60_30:=zz0 Hg6_30;have fg61_30:=zz1 Hg6_30;have fg70_30:=zz0 Hg7_30;have fg71_30:=zz1 Hg7_30;have fg120_30:=zz0 Hg12_30;have fg121_30:=zz1 Hg12_30;have fg122_30:=zz2 Hg12_30;clear hB))
   have HB_31:=Aside0.mk (below_step HB_30.out (below_drew1 (Below.refl _ _)))
   have CC_31:=Aside0.mk (Kd.C_below CC_30.out (below_drew1 (Below.refl _ _)))
   have C1_31:=Aside0.mk (Kd.C_below C1_30.out (below_drew1 (Below.refl _ _)))
   have Hg4_31:=Aside0.mk (blk_below Hg4_30.out (below_drew1 (Below.refl _ _)))
   have Hg6_31:=Aside0.mk (blk_below Hg6_30.out (below_drew1 (Below.refl _ _)))
   have Hg7_31:=Aside0.mk (blk_below Hg7_30.out (below_drew1 (Below.refl _ _)))
   have RW_31:=Aside0.mk (Kd.R_below RW_30.out (below_drew1 (Below.refl _ _)))
   have Hg12_31:=Aside0.mk (blk_below Hg12_30.out (below_drew1 (Below.refl _ _)))
   have RG_31:=Aside0.mk (Kd.R_below RG_30.out (below_drew1 (Below.refl _ _)))
   have fg40_31 : w30.drew.cell? ⟨g4,0,none⟩ = some (.int .i64 a0_0):=zz0 Hg4_31
   have fg41_31 : w30.drew.cell? ⟨g4,1,none⟩ = some (.int .i64 a0_1):=zz1 Hg4_31
   have fg42_31 : w30.drew.cell? ⟨g4,2,none⟩ = some (.slice A0_2 l0_2.length c0_2):=zz2 Hg4_31
   have fg60_31 : w30.drew.cell? ⟨g6,0,none⟩ = some (.int .i64 a2_0):=zz0 Hg6_31
   have fg61_31 : w30.drew.cell? ⟨g6,1,none⟩ = some (.int .i64 a2_1):=zz1 Hg6_31
   have fg70_31 : w30.drew.cell? ⟨g7,0,none⟩ = some (.int .i64 a3_0):=zz0 Hg7_31
   have fg71_31 : w30.drew.cell? ⟨g7,1,none⟩ = some (.int .i64 a3_1):=zz1 Hg7_31
   have fg120_31 : w30.drew.cell? ⟨g12,0,none⟩ = some (.int .i64 a0_0):=zz0 Hg12_31
   have fg121_31 : w30.drew.cell? ⟨g12,1,none⟩ = some (.int .i64 a0_1):=zz1 Hg12_31
   have fg122_31 : w30.drew.cell? ⟨g12,2,none⟩ = some (.slice A11 bl.length c11):=zz2 Hg12_31
   refine start_ (n:=14) (S:=fun w'=>w'.cell? ⟨g4,0,none⟩ = some (.int .i64 a0_0) ∧ w'.cell? ⟨g4,1,none⟩ = some (.int .i64 a0_1) ∧ w'.cell? ⟨g4,2,none⟩ = some (.slice A0_2 l0_2.length c0_2) ∧ w'.cell? ⟨g6,0,none⟩ = some (.int .i64 a2_0) ∧ w'.cell? ⟨g6,1,none⟩ = some (.int .i64 a2_1) ∧ w'.cell? ⟨g7,0,none⟩ = some (.int .i64 a3_0) ∧ w'.cell? ⟨g7,1,none⟩ = some (.int .i64 a3_1)) (ds:=[7,8]) #[false,false,false,false,false,false,false,false,false,false,false,false,false,false] (by kernel_rfl) rfl rfl ⟨fg40_31,fg41_31,fg42_31,fg60_31,fg61_31,fg70_31,fg71_31⟩ (fun hHeld=>?_)
   generalize w30.drew = w31 at HB_31 CC_31 C1_31 Hg4_31 Hg6_31 Hg7_31 RW_31 Hg12_31 RG_31 fg40_31 fg41_31 fg42_31 fg60_31 fg61_31 fg70_31 fg71_31 fg120_31 fg121_31 fg122_31 hHeld ⊢
   refine zzt 0 107 (zzb 14 1) hHeld ?_ (hy:=by intro w' s0;obtain ⟨q0,q1,q2,q3,q4,q5,q6⟩:=s0;go_simp;with_reducible rfl);refine zzp 2 109 (zzb 14 5) ?_
   refine zzt 4 111 (zzb 14 21) hHeld ?_ (hy:=by intro w' s0;obtain ⟨q0,q1,q2,q3,q4,q5,q6⟩:=s0;go_simp;with_reducible rfl)
   refine zzt 6 113 (zzb 14 85) hHeld ?_ (hy:=by intro w' s0;obtain ⟨q0,q1,q2,q3,q4,q5,q6⟩:=s0;go_simp;with_reducible rfl)
   refine zzo 1 108 (zzb 14 87) (fun K hK=>?_)
   refine call_ 15 #[.agg #[.int .i64 a0_0,.int .i64 a0_1,.slice A0_2 l0_2.length c0_2]] (by rfl) rfl ?hr108_1 ?_
   case hr108_1 =>
    unfold execOp
    simp [resolve,Deferred.ofValue,invoke,Act.eval,enters_ Try.func15 (by kernel_rfl) rfl]
   refine (laws_toFloor.calls kt a0_0 a0_1 A0_2 c0_2 l0_2 a0_0 a0_1 bl _ CC_31.out hc0_2 KT.out).mono ?_
   rintro e w32 ⟨v21,rfl,hR,hB⟩
   refine ⟨_,rfl,?_⟩
   have HB_32:=Aside0.mk (below_step HB_31.out hB)
   have CC_32:=Aside0.mk (Kd.C_below CC_31.out hB)
   have C1_32:=Aside0.mk (Kd.C_below C1_31.out hB)
   have Hg4_32:=Aside0.mk (blk_below Hg4_31.out hB)
   have Hg6_32:=Aside0.mk (blk_below Hg6_31.out hB)
   have Hg7_32:=Aside0.mk (blk_below Hg7_31.out hB)
   have RW_32:=Aside0.mk (Kd.R_below RW_31.out hB)
   have Hg12_32:=Aside0.mk (blk_below Hg12_31.out hB)
   have RG_32:=Aside0.mk (Kd.R_below RG_31.out hB)
   obtain ⟨A21,c21,rfl⟩:=Kd.R_slice hR
   have CX21_32:=Aside0.mk (Kd.R_reads' hR).2.2
   have LX21:=Aside0.mk (Kd.R_reads' hR).2.1
   clear hR
   have fg40_32:=zz0 Hg4_32
   have fg41_32:=zz1 Hg4_32
   have fg42_32:=zz2 Hg4_32
   have fg60_32:=zz0 Hg6_32
   have fg61_32:=zz1 Hg6_32
   have fg70_32:=zz0 Hg7_32
   have fg71_32:=zz1 Hg7_32
   have fg120_32:=zz0 Hg12_32
   have fg121_32:=zz1 Hg12_32
   have fg122_32:=zz2 Hg12_32
   clear hB
   refine hK.out _ _ ⟨fg40_32,fg41_32,fg42_32,fg60_32,fg61_32,fg70_32,fg71_32⟩ (fun hHeld=>?_)
   clear hK K
   refine zzn 108 ?_
   refine zzo 3 110 (zzb 14 95) (fun K hK=>?_)
   refine call_ 40 #[.slice A1 l1.length c1] (by rfl) rfl ?hr110_3 ?_
   case hr110_3 =>
    unfold execOp
    simp [resolve,Deferred.ofValue,invoke,Act.eval,enters_ Try.func40 (by kernel_rfl) rfl]
   refine (laws_toCellSS.calls kq A1 c1 l1 os _ C1_32.out hc1 KQ.out).mono ?_
   rintro e w33 ⟨v22,rfl,hS,hB⟩
   refine ⟨_,rfl,?_⟩
   have HB_33:=Aside0.mk (below_step HB_32.out hB)
   have CC_33:=Aside0.mk (Kd.C_below CC_32.out hB)
   have C1_33:=Aside0.mk (Kd.C_below C1_32.out hB)
   have Hg4_33:=Aside0.mk (blk_below Hg4_32.out hB)
   have Hg6_33:=Aside0.mk (blk_below Hg6_32.out hB)
   have Hg7_33:=Aside0.mk (blk_below Hg7_32.out hB)
   have RW_33:=Aside0.mk (Kd.R_below RW_32.out hB)
   have Hg12_33:=Aside0.mk (blk_below Hg12_32.out hB)
   have RG_33:=Aside0.mk (Kd.R_below RG_32.out hB)
   have CX21_33:=Aside0.mk (Kd.C_below CX21_32.out hB)
   obtain ⟨A22,c22,rfl⟩:=Kd.S_slice hS
   have CX22_33:=Aside0.mk (Kd.S_reads' hS).2.2
   have LX22:=Aside0.mk (Kd.S_reads' hS).2.1
   clear hS
   have fg40_33:=zz0 Hg4_33
   have fg41_33:=zz1 Hg4_33
   have fg42_33:=zz2 Hg4_33
   have fg60_33:=zz0 Hg6_33
   have fg61_33:=zz1 Hg6_33
   have fg70_33:=zz0 Hg7_33
   have fg71_33:=zz1 Hg7_33
   have fg120_33:=zz0 Hg12_33
   have fg121_33:=zz1 Hg12_33
   have fg122_33:=zz2 Hg12_33
   clear hB
   refine hK.out _ _ ⟨fg40_33,fg41_33,fg42_33,fg60_33,fg61_33,fg70_33,fg71_33⟩ (fun hHeld=>?_)
   clear hK K
   refine zzn 110 ?_
   refine zzo 5 112 (zzb 14 127) (fun K hK=>?_)
   refine call_ 28 #[.agg #[.int .i64 a2_0,.int .i64 a2_1]] (by rfl) rfl ?hr112_5 ?_
   case hr112_5 =>
    unfold execOp
    simp [resolve,Deferred.ofValue,invoke,Act.eval,enters_ Try.func28 (by kernel_rfl) rfl]
   refine (laws_toCell.calls a2_0 a2_1 a2_0 a2_1 _ rfl).mono ?_
   rintro e w34 ⟨rfl,hB⟩
   refine ⟨_,rfl,?_⟩
   have HB_34:=Aside0.mk (below_step HB_33.out hB)
   have CC_34:=Aside0.mk (Kd.C_below CC_33.out hB)
   have C1_34:=Aside0.mk (Kd.C_below C1_33.out hB)
   have Hg4_34:=Aside0.mk (blk_below Hg4_33.out hB)
   have Hg6_34:=Aside0.mk (blk_below Hg6_33.out hB)
   have Hg7_34:=Aside0.mk (blk_below Hg7_33.out hB)
   have RW_34:=Aside0.mk (Kd.R_below RW_33.out hB)
   have Hg12_34:=Aside0.mk (blk_below Hg12_33.out hB)
   have RG_34:=Aside0.mk (Kd.R_below RG_33.out hB)
   have CX21_34:=Aside0.mk (Kd.C_below CX21_33.out hB)
   have CX22_34:=Aside0.mk (Kd.C_below CX22_33.out hB)
   have fg40_34:=zz0 Hg4_34
   have fg41_34:=zz1 Hg4_34
   have fg42_34:=zz2 Hg4_34
   have fg60_34:=zz0 Hg6_34
   have fg61_34:=zz1 Hg6_34
   have fg70_34:=zz0 Hg7_34
   have fg71_34:=zz1 Hg7_34
   have fg120_34:=zz0 Hg12_34
   have fg121_34:=zz1 Hg12_34
   have fg122_34:=zz2 Hg12_34
   clear hB
   refine hK.out _ _ ⟨fg40_34,fg41_34,fg42_34,fg60_34,fg61_34,fg70_34,fg71_34⟩ (fun hHeld=>?_)
   clear hK K
   refine zzn 112 ?_
   refine last_ (i:=7) (N:=(some 114)) #[true,true,true,true,true,true,true,true,false,false,false,false,false,false] rfl rfl (by kernel_rfl) (by decide) (fun K hK=>?_)
   refine call_ 28 #[.agg #[.int .i64 a3_0,.int .i64 a3_1]] (by rfl) rfl ?hr114_7 ?_
   case hr114_7 =>
    unfold execOp
    simp [resolve,Deferred.ofValue,invoke,Act.eval,enters_ Try.func28 (by kernel_rfl) rfl]
   refine (laws_toCell.calls a3_0 a3_1 a3_0 a3_1 _ rfl).mono ?_
   rintro e w35 ⟨rfl,hB⟩
   refine ⟨_,rfl,?_⟩
   have HB_35:=Aside0.mk (below_step HB_34.out hB)
   have CC_35:=Aside0.mk (Kd.C_below CC_34.out hB)
   have C1_35:=Aside0.mk (Kd.C_below C1_34.out hB)
   have Hg4_35:=Aside0.mk (blk_below Hg4_34.out hB)
   have Hg6_35:=Aside0.mk (blk_below Hg6_34.out hB)
   have Hg7_35:=Aside0.mk (blk_below Hg7_34.out hB)
   have RW_35:=Aside0.mk (Kd.R_below RW_34.out hB)
   have Hg12_35:=Aside0.mk (blk_below Hg12_34.out hB)
   have RG_35:=Aside0.mk (Kd.R_below RG_34.out hB)
   have CX21_35:=Aside0.mk (Kd.C_below CX21_34.out hB)
   have CX22_35:=Aside0.mk (Kd.C_below CX22_34.out hB)
   have fg40_35:=zz0 Hg4_35
   have fg41_35:=zz1 Hg4_35
   have fg42_35:=zz2 Hg4_35
   have fg60_35:=zz0 Hg6_35
   have fg61_35:=zz1 Hg6_35
   have fg70_35:=zz0 Hg7_35
   have fg71_35:=zz1 Hg7_35
   have fg120_35:=zz0 Hg12_35
   have fg121_35:=zz1 Hg12_35
   have fg122_35:=zz2 Hg12_35
   clear hB
   refine hK.out _ _ ?_
   clear hK K
   refine zzn 114 ?_
   refine last_ (i:=8) (N:=(some 115)) #[true,true,true,true,true,true,true,true,true,false,false,false,false,false] rfl rfl (by kernel_rfl) (by decide) (fun K hK=>?_)
   refine call_ 41 #[.agg #[.int .i64 a0_0,.int .i64 a0_1,.slice A21 bl.length c21],.slice A22 os.length c22,.agg #[.int .i64 a2_0,.int .i64 a2_1],.agg #[.int .i64 a3_0,.int .i64 a3_1]] (by rfl) rfl ?hr115_8 ?_
   case hr115_8 =>
    unfold execOp
    simp [resolve,Deferred.ofValue,invoke,Act.eval,enters_ Try.func41 (by kernel_rfl) rfl]
   refine (impl_SafePath.calls a0_0 a0_1 A21 c21 bl A22 c22 os a2_0 a2_1 a3_0 a3_1 R.1 R.2 _ CX21_35.out LX21.out CX22_35.out LX22.out KI.out).mono ?_
   rintro e w36 ⟨v23,rfl,hR,hB⟩
   refine ⟨_,rfl,?_⟩
   have HB_36:=Aside0.mk (below_step HB_35.out hB)
   have CC_36:=Aside0.mk (Kd.C_below CC_35.out hB)
   have C1_36:=Aside0.mk (Kd.C_below C1_35.out hB)
   have Hg4_36:=Aside0.mk (blk_below Hg4_35.out hB)
   have Hg6_36:=Aside0.mk (blk_below Hg6_35.out hB)
   have Hg7_36:=Aside0.mk (blk_below Hg7_35.out hB)
   have RW_36:=Aside0.mk (Kd.R_below RW_35.out hB)
   have Hg12_36:=Aside0.mk (blk_below Hg12_35.out hB)
   have RG_36:=Aside0.mk (Kd.R_below RG_35.out hB)
   have CX21_36:=Aside0.mk (Kd.C_below CX21_35.out hB)
   have CX22_36:=Aside0.mk (Kd.C_below CX22_35.out hB)
   obtain ⟨A23,c23,rfl⟩:=Kd.R_slice hR
   have RH_36:=Aside0.mk hR
   clear hR
   have fg40_36:=zz0 Hg4_36
   have fg41_36:=zz1 Hg4_36
   have fg42_36:=zz2 Hg4_36
   have fg60_36:=zz0 Hg6_36
   have fg61_36:=zz1 Hg6_36
   have fg70_36:=zz0 Hg7_36
   have fg71_36:=zz1 Hg7_36
   have fg120_36:=zz0 Hg12_36
   have fg121_36:=zz1 Hg12_36
   have fg122_36:=zz2 Hg12_36
   clear hB
   refine hK.out _ _ ?_
   clear hK K
   refine zzn 115 ?_;refine zzp 9 106 (zzb 14 1023) ?_;refine zzp 10 116 (zzb 14 2047) ?_;refine zzp 11 117 (zzb 14 4095) ?_;refine zzp 12 19 (zzb 14 8191) ?_;refine zzp 13 20 (zzb 14 16383) ?_
   refine done_ (by kernel_rfl) ?_
   go_wp2_with (first|(go_at_call 22;(with_reducible refine (laws_eqCellS.calls kr A23 c23 R.1 A10 c10 R.1 true _ (Kd.R_reads' RH_36.out).2.2 (Kd.R_reads' RH_36.out).2.1 (Kd.R_reads' RW_36.out).2.2 (Kd.R_reads' RW_36.out).2.1 KR.out).mono ?_);rintro e w37 ⟨rfl,hB⟩;have HB_37:=Aside0.mk (below_step HB_36.out hB);have CC_37:=Aside0.mk (Kd.C_below CC_36.out hB);have C1_37:=Aside0.mk (Kd.C_below C1_36.out hB);have Hg4_37:=Aside0.mk (blk_below Hg4_36.out hB);have Hg6_37:=Aside0.mk (blk_below Hg6_36.out hB);have Hg7_37:=Aside0.mk (blk_below Hg7_36.out hB);have RW_37:=Aside0.mk (Kd.R_below RW_36.out hB);have Hg12_37:=Aside0.mk (blk_below Hg12_36.out hB);have RG_37:=Aside0.mk (Kd.R_below RG_36.out hB);have RH_37:=Aside0.mk (Kd.R_below RH_36.out hB);have fg40_37:=zz0 Hg4_37;have fg41_37:=zz1 Hg4_37;have fg42_37:=zz2 Hg4_37;have fg60_37:=zz0 Hg6_37;have fg61_37:=zz1 Hg6_37;have fg70_37:=zz0 Hg7_37;have fg71_37:=zz1 Hg7_37;have fg120_37:=zz0 Hg12_37;have fg121_37:=zz1 Hg12_37;have fg122_37:=zz2 Hg12_37;clear hB)|(go_at_call 37;(with_reducible refine (heldCl_at kh A14 c14 gs R.1.length 1 _ _ HGL.out (Kd.R_reads' RG_37.out).2.2 (Kd.R_reads' RG_37.out).2.1 KH.out).mono ?_);rintro e w38 ⟨rfl,hd⟩;have hB:=hd.below;clear hd;have HB_38:=Aside0.mk (below_step HB_37.out hB);have CC_38:=Aside0.mk (Kd.C_below CC_37.out hB);have C1_38:=Aside0.mk (Kd.C_below C1_37.out hB);have Hg4_38:=Aside0.mk (blk_below Hg4_37.out hB);have Hg6_38:=Aside0.mk (blk_below Hg6_37.out hB);have Hg7_38:=Aside0.mk (blk_below Hg7_37.out hB);have RW_38:=Aside0.mk (Kd.R_below RW_37.out hB);have Hg12_38:=Aside0.mk (blk_below Hg12_37.out hB);have RG_38:=Aside0.mk (Kd.R_below RG_37.out hB);have RH_38:=Aside0.mk (Kd.R_below RH_37.out hB);have fg40_38:=zz0 Hg4_38;have fg41_38:=zz1 Hg4_38;have fg42_38:=zz2 Hg4_38;have fg60_38:=zz0 Hg6_38;have fg61_38:=zz1 Hg6_38;have fg70_38:=zz0 Hg7_38;have fg71_38:=zz1 Hg7_38;have fg120_38:=zz0 Hg12_38;have fg121_38:=zz1 Hg12_38;have fg122_38:=zz2 Hg12_38;clear hB))
   go_ret
   exact ⟨rfl,HB_38.out⟩
end Go.Proofs.Ytbpccdbkaiigcaa.G

-- Written by wip/tools/gen.py out of the translation (the kit's printer, one namespace a seat). Lean checks it.
namespace Go.Proofs.Ytbpccdbkaiigcaa.G
open Go.RowKit Go.ChangeShapes Go.WideShapes Go.Deep Go.Proofs.YtbpccdbkaiigcaaW.PrintWords Go.Proofs.YtbpccdbkaiigcaaW.PrintLast
set_option linter.unusedVariables false
/-! Opening the arguments of a law: whatever reads as data of type t reads as a value of kind d, within what its type allows. -/
def Opens {α : Type} (P : Program) (t : TypeId) (d : Kd α) (Wf : α → Prop) : Prop :=
 ∀ {H : Type} {enc : TypeId × Value → H} {W : World} {spare : Nat → Bool} {held : Bool} {fuel : Nat} {cs : List Value} {x : DataW H × List MemPlace},
  DataW.trod enc P W 0 spare held fuel t cs = some x → ∃ a,d.K W a cs ∧ Wf a
theorem opens_int {P : Program} {t : TypeId} {k : IntKind} (ht : P.underlying t = some (.int k)) : Opens P t (Kd.int k) (fun x=>(Lit.int k x).wf = true):=by
 intro H enc W spare held fuel cs x h
 obtain ⟨n,rfl,_,hw⟩:=DataW.trod_int ht h
 exact ⟨n,rfl,hw⟩
theorem opens_row {α : Type} {d : Kd α} {Wf : α → Prop} {W : World} (Q : Nat → List Value → Prop) (hq : ∀ i cs,Q i cs → ∃ a,d.K W a cs ∧ Wf a) (n : Nat) (h : ∀ i,i < n → ∃ cs,Q i cs) :
  ∃ xs : List α,xs.length = n ∧ (∀ y ∈ xs,Wf y) ∧ ∀ j p,xs[j]? = some p → ∃ cs,Q j cs ∧ d.K W p cs:=by
 induction n with
 | zero=>exact ⟨[],rfl,fun y hy=>by simp at hy,fun j p hp=>by simp at hp⟩
 | succ n ih =>
  obtain ⟨xs,hl,hw,hx⟩:=ih (fun i hi=>h i (by omega))
  obtain ⟨cs,hcs⟩:=h n (by omega)
  obtain ⟨a,ha,hwa⟩:=hq n cs hcs
  refine ⟨xs ++ [a],by simp [hl],fun y hy=>?_,fun j p hp=>?_⟩
  ·rcases List.mem_append.1 hy with hy|hy
   ·exact hw y hy
   ·rw [List.mem_singleton.1 hy];exact hwa
  ·rcases Nat.lt_or_ge j xs.length with hj|hj
   ·rw [List.getElem?_append_left hj] at hp
    exact hx j p hp
   ·rw [List.getElem?_append_right hj] at hp
    have h0 : j - xs.length = 0:=by
     rcases Nat.eq_zero_or_pos (j - xs.length) with h0|h0
     ·exact h0
     ·rw [List.getElem?_eq_none (by simp;omega)] at hp;cases hp
    rw [h0] at hp
    simp at hp
    subst hp
    have : j = n:=by omega
    subst this
    exact ⟨cs,hcs,ha⟩
theorem opens_slice {α : Type} {P : Program} {t e : TypeId} {d : Kd α} {Wf : α → Prop} (ht : P.underlying t = some (.slice e)) (hC : P.cellsOf e = d.sz) (ho : Opens P e d Wf) :
  Opens P t (Kd.slice e d) (fun xs=>xs.length ≤ maxLen ∧ ∀ y ∈ xs,Wf y):=by
 intro H enc W spare held fuel cs x h
 rcases open_slice ht h with ⟨rfl,_⟩|⟨a,len,cap,m,n,D,Pl,rfl,_,hl,hm,hmm,_,hi⟩
 ·exact ⟨[],⟨none,0,rfl,Nat.le_refl _,rfl,by simp,fun h=>by simp at h⟩,by simp [maxLen],fun y hy=>by simp at hy⟩
 ·have hml : len ≤ m:=by rw [hmm];split <;> omega
  obtain ⟨xs,hxl,hw,hx⟩:=opens_row (W:=W) (d:=d) (Wf:=Wf) (fun i cs'=>W.cells? 0 (a.add (i * P.cellsOf e)) (P.cellsOf e) = some cs' ∧ DataW.trod enc P W 0 spare held n e cs' = some (D i,Pl i))
   (fun i cs' hq=>ho hq.2) len (fun i hi'=>hi i (by omega))
  refine ⟨xs,⟨some a,cap,by rw [hxl],by omega,rfl,?_,fun _=>⟨a,rfl,fun j p hj=>?_⟩⟩,by omega,hw⟩
  ·simp only [maxLen] at hm
   omega
  ·obtain ⟨cs',⟨hc,_⟩,hK⟩:=hx j p hj
   obtain ⟨_,hcl,hat⟩:=World.cells?_some hc
   refine ⟨cs',d.K_len hK,hK,fun i u hu=>?_⟩
   have hil : i < cs'.length:=(List.getElem?_eq_some_iff.1 hu).1
   have h1:=hat i (by omega)
   rw [hC] at h1
   rw [← Go.Deep.add_add,h1,hu]
theorem opens_iso {α β : Type} {P : Program} {t : TypeId} {d : Kd α} {Wf : α → Prop} {Wf' : β → Prop} {f : β → α} (ho : Opens P t d Wf) (g : α → β) (hg : ∀ a,f (g a) = a) (hw : ∀ a,Wf a → Wf' (g a)) : Opens P t (Kd.iso d f) Wf':=by
 intro H enc W spare held fuel cs x h
 obtain ⟨a,hK,hwa⟩:=ho h
 refine ⟨g a,?_,hw a hwa⟩
 show d.K W (f (g a)) cs
 rw [hg]
 exact hK
section
variable {α β γ δ : Type} {P : Program} {t : TypeId} {f0 f1 f2 f3 : Field} {d0 : Kd α} {d1 : Kd β} {d2 : Kd γ} {d3 : Kd δ} {W0 : α → Prop} {W1 : β → Prop} {W2 : γ → Prop} {W3 : δ → Prop}
theorem opens_struct2 (ht : P.underlying t = some (.struct #[f0,f1])) (hT : P.cellsOf t = d0.sz + d1.sz) (s0 : f0.offset = 0) (c0 : P.cellsOf f0.type = d0.sz) (s1 : f1.offset = d0.sz) (c1 : P.cellsOf f1.type = d1.sz)
  (o0 : Opens P f0.type d0 W0) (o1 : Opens P f1.type d1 W1) : Opens P t (Kd.pair d0 d1) (fun x=>W0 x.1 ∧ W1 x.2):=by
 intro H enc W spare held fuel cs x h
 obtain ⟨xs,n,_,_,hlen,hxl,hf⟩:=DataW.trod_struct ht h
 have h0:=hf 0 f0 rfl
 have h1:=hf 1 f1 rfl
 rw [List.getElem?_eq_getElem (show 0 < xs.length by rw [hxl];simp),s0,c0,List.drop_zero] at h0
 rw [List.getElem?_eq_getElem (show 1 < xs.length by rw [hxl];simp),s1,c1,List.take_of_length_le (by simp;omega)] at h1
 obtain ⟨a,ka,wa⟩:=o0 h0
 obtain ⟨b,kb,wb⟩:=o1 h1
 exact ⟨(a,b),⟨_,_,(List.take_append_drop d0.sz cs).symm,ka,kb⟩,wa,wb⟩
theorem opens_struct3 (ht : P.underlying t = some (.struct #[f0,f1,f2])) (hT : P.cellsOf t = d0.sz + (d1.sz + d2.sz)) (s0 : f0.offset = 0) (c0 : P.cellsOf f0.type = d0.sz) (s1 : f1.offset = d0.sz) (c1 : P.cellsOf f1.type = d1.sz)
  (s2 : f2.offset = d0.sz + d1.sz) (c2 : P.cellsOf f2.type = d2.sz) (o0 : Opens P f0.type d0 W0) (o1 : Opens P f1.type d1 W1) (o2 : Opens P f2.type d2 W2) : Opens P t (Kd.pair d0 (Kd.pair d1 d2)) (fun x=>W0 x.1 ∧ W1 x.2.1 ∧ W2 x.2.2):=by
 intro H enc W spare held fuel cs x h
 obtain ⟨xs,n,_,_,hlen,hxl,hf⟩:=DataW.trod_struct ht h
 have h0:=hf 0 f0 rfl
 have h1:=hf 1 f1 rfl
 have h2:=hf 2 f2 rfl
 rw [List.getElem?_eq_getElem (show 0 < xs.length by rw [hxl];simp),s0,c0,List.drop_zero] at h0
 rw [List.getElem?_eq_getElem (show 1 < xs.length by rw [hxl];simp),s1,c1] at h1
 rw [List.getElem?_eq_getElem (show 2 < xs.length by rw [hxl];simp),s2,c2,List.take_of_length_le (by simp;omega)] at h2
 obtain ⟨a,ka,wa⟩:=o0 h0
 obtain ⟨b,kb,wb⟩:=o1 h1
 obtain ⟨c,kc,wc⟩:=o2 h2
 refine ⟨(a,b,c),⟨_,_,(List.take_append_drop d0.sz cs).symm,ka,⟨_,_,(List.take_append_drop d1.sz (cs.drop d0.sz)).symm,kb,?_⟩⟩,wa,wb,wc⟩
 rw [List.drop_drop]
 exact kc
end
theorem opens_arg {α : Type} {P : Program} {t e : TypeId} {d : Kd α} {Wf : List α → Prop} (ho : Opens P t (Kd.slice e d) Wf) {H : Type} {enc : TypeId × Value → H} {W : World} {spare : Nat → Bool} {held : Bool} {a : Option Addr} {len cap : Nat} {dd : DataW H} {p : List MemPlace}
  (h : DataW.Trod enc P W 0 spare held t (.slice a len cap) dd p) : ∃ l : List α,len = l.length ∧ l.length ≤ cap ∧ Kd.C d W a l.length l ∧ Wf l:=by
 obtain ⟨fuel,hf⟩:=h
 obtain ⟨l,⟨A,c,he,hl,hC⟩,hw⟩:=ho hf
 simp [Value.cells] at he
 obtain ⟨rfl,rfl,rfl⟩:=he
 exact ⟨l,rfl,hl,hC,hw⟩
theorem opens_agg {α : Type} {P : Program} {t : TypeId} {fs : Array Field} {d : Kd α} {Wf : α → Prop} (ht : P.underlying t = some (.struct fs)) (hT : P.cellsOf t = d.sz) (ho : Opens P t d Wf) {H : Type} {enc : TypeId × Value → H} {W : World} {r : Reach} {b0 : Nat} {spare : Nat → Bool} {held : Bool} {v : Value} {dd : DataW H} {p : List MemPlace}
  (hv : Value.okWide P W r b0 t v) (h : DataW.Trod enc P W 0 spare held t v dd p) : ∃ x : α,(∀ cs : List Value,v.cells.toList = cs → v = .agg cs.toArray) ∧ d.K W x v.cells.toList ∧ Wf x:=by
 obtain ⟨cs,rfl,_⟩:=okWide_struct ht hv
 obtain ⟨fuel,hf⟩:=h
 obtain ⟨x,hK,hw⟩:=ho hf
 refine ⟨x,fun l hl=>?_,hK,hw⟩
 rw [← hl]
 simp [Value.cells]

set_option maxRecDepth 100000 in
theorem opens_T44 : Opens Try.prog 44 k44 W44 :=
 opens_iso (opens_struct2 Try.underlying44 (by kernel_rfl) rfl (by kernel_rfl) rfl (by kernel_rfl) (opens_int Try.underlying3) (opens_int Try.underlying3)) (fun p=>⟨p.1,p.2⟩) (fun _=>rfl) (fun _ h=>h)
set_option maxRecDepth 100000 in
theorem opens_T24 : Opens Try.prog 24 k24 W24 :=
 opens_iso (opens_struct3 Try.underlying24 (by kernel_rfl) rfl (by kernel_rfl) rfl (by kernel_rfl) rfl (by kernel_rfl) (opens_int Try.underlying3) (opens_int Try.underlying3) (opens_slice Try.underlying22 (by kernel_rfl) (opens_T44))) (fun p=>⟨p.1,p.2.1,p.2.2⟩) (fun _=>rfl) (fun _ h=>h)
end Go.Proofs.Ytbpccdbkaiigcaa.G
