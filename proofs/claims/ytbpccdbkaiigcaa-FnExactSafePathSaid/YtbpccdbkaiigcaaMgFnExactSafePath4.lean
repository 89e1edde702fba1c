/- Texts of the proof of FnExactSafePath, joined in build order. -/
import Derived.Test.YtbpccdbkaiigcaaMgFnExactSafePath2
import Derived.Test.YtbpccdbkaiigcaaMgFnExactSafePath3
import Derived.Test.YtbpccdbkaiigcaaMgFnExactSafePath1
/- The contracts of impl.safePath and impl.SafePath. -/
namespace Go.Proofs.Ytbpccdbkaiigcaa.G
open Go.RowKit Go.Proofs.YtbpccdbkaiigcaaW.PrintWords Go.Proofs.YtbpccdbkaiigcaaW.PrintLast
set_option linter.unusedVariables false
set_option linter.unusedSimpArgs false
theorem safeA_eq {w h : Int} {bl : List S48} {os : List (List S48)} {a b : S48} (ha : Free w h bl a) (hb : Free w h bl b) (ho : Len os) : safeA w h bl os a b = safeR w h bl os a b:=by
 unfold safeA safeR
 rw [safe_eq ha hb ho.2]
 cases safeP w h bl os a b <;> rfl
theorem impl_safePath.calls (a0_0 a0_1 : Int) (A0_2 : Option Addr) (c0_2 : Nat) (l0_2 : List S48) (A1 : Option Addr) (c1 : Nat) (os : List (List S48)) (c2 c3 : S48) (w : World) (hr0_2 : Kd.C k48 w A0_2 l0_2.length l0_2) (hc0_2 : l0_2.length ≤ c0_2) (hr1 : Kd.C SL6 w A1 os.length os) (hc1 : os.length ≤ c1) (hf : FloorOk a0_0 a0_1 l0_2) (hb : (l0_2.length : Int) ≤ 1099511627776) (ha : Free a0_0 a0_1 l0_2 c2) (hbt : Free a0_0 a0_1 l0_2 c3) (ho : Len os) :
  Calls Try.prog 73 #[.agg #[.int .i64 a0_0,.int .i64 a0_1,.slice A0_2 l0_2.length c0_2],.slice A1 os.length c1,.agg #[.int .i64 c2.f0,.int .i64 c2.f1],.agg #[.int .i64 c3.f0,.int .i64 c3.f1]] w fun e w' => ∃ u : Value,e = .returned (.tuple #[u,.bool (safeR a0_0 a0_1 l0_2 os c2 c3).2]) ∧ Kd.R k48 48 w' w.heap.size (fun _=>True) u (safeR a0_0 a0_1 l0_2 os c2 c3).1 ∧ Below w.heap.size w w':=by
 have e:=safeA_eq ha hbt ho
 by_cases hh : HitAt os c2 c2 0
 ·exact impl_safePath.hit a0_0 a0_1 A0_2 c0_2 l0_2 A1 c1 os c2 c3 w hr0_2 hc0_2 hr1 hc1 hf hb ha hbt ho _ (by rw [← e,safeA_hit hh]) hh
 ·exact impl_safePath.main a0_0 a0_1 A0_2 c0_2 l0_2 A1 c1 os c2 c3 w hr0_2 hc0_2 hr1 hc1 hf hb ha hbt ho _ hh (fun hn=>by rw [← e,safeA_none hh hn]) (fun e' he hn hE p hp=>by rw [← e,safeA_some hh he hn hE hp])
set_option maxHeartbeats 8000000 in
set_option maxRecDepth 100000 in
theorem impl_SafePath.bad1 (a0_0 a0_1 : Int) (A0_2 : Option Addr) (c0_2 : Nat) (l0_2 : List S48) (A1 : Option Addr) (c1 : Nat) (os : List (List S48)) (c2 c3 : S48) (w : World) (hr0_2 : Kd.C k48 w A0_2 l0_2.length l0_2) (hc0_2 : l0_2.length ≤ c0_2) (hr1 : Kd.C SL6 w A1 os.length os) (hc1 : os.length ≤ c1) (hbl : (l0_2.length : Int) ≤ 1099511627776) (kv : Nat) (hv : impl_IsValidFloor.f kv a0_0 a0_1 l0_2 = some false) :
  Calls Try.prog 41 #[.agg #[.int .i64 a0_0,.int .i64 a0_1,.slice A0_2 l0_2.length c0_2],.slice A1 os.length c1,.agg #[.int .i64 c2.f0,.int .i64 c2.f1],.agg #[.int .i64 c3.f0,.int .i64 c3.f1]] w fun e w' => ∃ u : Value,e = .returned (.tuple #[u,.bool false]) ∧ Kd.R k48 48 w' w.heap.size (fun _=>True) u [] ∧ Below w.heap.size w w':=by
 have hu29:=Try.underlying29
 have hu48:=Try.underlying48
 have HR0:=Aside0.mk hr0_2
 have HC0:=Aside0.mk hc0_2
 have HR1:=Aside0.mk hr1
 have HC1:=Aside0.mk hc1
 have HBL:=Aside0.mk hbl
 have HV:=Aside0.mk hv
 clear hr0_2 hc0_2 hr1 hc1 hbl hv
 go_enter Try.func41,Try.ntmps41
 go_wp2_with (first|((with_reducible refine gate_dst (N:=4) rfl ?_);refine zzc 4 #[.int .i64 a0_0,.int .i64 a0_1,.slice A0_2 l0_2.length c0_2] 29 ?_;intro g4 hgg4 w4 hbox hb;have Hg4:=Aside0.mk hbox;have HB:=Aside0.mk hb;clear hbox hb hgg4;have fg40_4:=zz0 Hg4;have fg41_4:=zz1 Hg4;have fg42_4:=zz2 Hg4)|((with_reducible refine gate_dst (N:=6) rfl ?_);refine zzc 6 #[.int .i64 c2.f0,.int .i64 c2.f1] 48 ?_;intro g6 hgg6 w6 hbox hb;have Hg4':=Aside0.mk (blk_below Hg4.out hb);have HB':=Aside0.mk (below_step HB.out hb);clear HB Hg4;have Hg4:=Hg4';have HB:=HB';clear HB' Hg4';have fg40_6:=zz0 Hg4;have fg41_6:=zz1 Hg4;have fg42_6:=zz2 Hg4;have Hg6:=Aside0.mk hbox;have fg60_6:=zz0 Hg6;have fg61_6:=zz1 Hg6;clear hbox hb hgg6)|((with_reducible refine gate_dst (N:=7) rfl ?_);refine zzc 7 #[.int .i64 c3.f0,.int .i64 c3.f1] 48 ?_;intro g7 hgg7 w7 hbox hb;have Hg4':=Aside0.mk (blk_below Hg4.out hb);have Hg6':=Aside0.mk (blk_below Hg6.out hb);have HB':=Aside0.mk (below_step HB.out hb);clear HB Hg4 Hg6;have Hg4:=Hg4';have Hg6:=Hg6';have HB:=HB';clear HB' Hg4' Hg6';have fg40_7:=zz0 Hg4;have fg41_7:=zz1 Hg4;have fg42_7:=zz2 Hg4;have fg60_7:=zz0 Hg6;have fg61_7:=zz1 Hg6;have Hg7:=Aside0.mk hbox;have fg70_7:=zz0 Hg7;have fg71_7:=zz1 Hg7;clear hbox hb hgg7)|(go_at_call 16;(with_reducible refine (impl_IsValidFloor.calls kv a0_0 a0_1 A0_2 c0_2 l0_2 false _ (Kd.C_below HR0.out HB.out) HC0.out HV.out).mono ?_);rintro e w8 ⟨rfl,hB⟩;have Hg4':=Aside0.mk (blk_below Hg4.out hB);have Hg6':=Aside0.mk (blk_below Hg6.out hB);have Hg7':=Aside0.mk (blk_below Hg7.out hB);have HB':=Aside0.mk (below_step HB.out hB);clear HB Hg4 Hg6 Hg7;have Hg4:=Hg4';have Hg6:=Hg6';have Hg7:=Hg7';have HB:=HB';clear HB' Hg4' Hg6' Hg7';have fg40_8:=zz0 Hg4;have fg41_8:=zz1 Hg4;have fg42_8:=zz2 Hg4;have fg60_8:=zz0 Hg6;have fg61_8:=zz1 Hg6;have fg70_8:=zz0 Hg7;have fg71_8:=zz1 Hg7;clear hB))
 go_ret2
 exact ⟨_,rfl,Kd.R_nil _ _ _ _ _,HB.out⟩
set_option maxHeartbeats 8000000 in
set_option maxRecDepth 100000 in
theorem impl_SafePath.bad2 (a0_0 a0_1 : Int) (A0_2 : Option Addr) (c0_2 : Nat) (l0_2 : List S48) (A1 : Option Addr) (c1 : Nat) (os : List (List S48)) (c2 c3 : S48) (w : World) (hr0_2 : Kd.C k48 w A0_2 l0_2.length l0_2) (hc0_2 : l0_2.length ≤ c0_2) (hr1 : Kd.C SL6 w A1 os.length os) (hc1 : os.length ≤ c1) (hbl : (l0_2.length : Int) ≤ 1099511627776) (kv : Nat) (hv : impl_IsValidFloor.f kv a0_0 a0_1 l0_2 = some true) (hol : 3 < (os.length : Int)) :
  Calls Try.prog 41 #[.agg #[.int .i64 a0_0,.int .i64 a0_1,.slice A0_2 l0_2.length c0_2],.slice A1 os.length c1,.agg #[.int .i64 c2.f0,.int .i64 c2.f1],.agg #[.int .i64 c3.f0,.int .i64 c3.f1]] w fun e w' => ∃ u : Value,e = .returned (.tuple #[u,.bool false]) ∧ Kd.R k48 48 w' w.heap.size (fun _=>True) u [] ∧ Below w.heap.size w w':=by
 have hu29:=Try.underlying29
 have hu48:=Try.underlying48
 have HR0:=Aside0.mk hr0_2
 have HC0:=Aside0.mk hc0_2
 have HR1:=Aside0.mk hr1
 have HC1:=Aside0.mk hc1
 have HBL:=Aside0.mk hbl
 have HV:=Aside0.mk hv
 have HOL:=Aside0.mk hol
 have cl : decide (3 < (os.length : Int)) = true:=decide_eq_true (by have:=HOL.out;omega)
 clear hr0_2 hc0_2 hr1 hc1 hbl hv hol
 go_enter Try.func41,Try.ntmps41
 go_wp2_with (first|((with_reducible refine gate_dst (N:=4) rfl ?_);refine zzc 4 #[.int .i64 a0_0,.int .i64 a0_1,.slice A0_2 l0_2.length c0_2] 29 ?_;intro g4 hgg4 w4 hbox hb;have Hg4:=Aside0.mk hbox;have HB:=Aside0.mk hb;clear hbox hb hgg4;have fg40_4:=zz0 Hg4;have fg41_4:=zz1 Hg4;have fg42_4:=zz2 Hg4)|((with_reducible refine gate_dst (N:=6) rfl ?_);refine zzc 6 #[.int .i64 c2.f0,.int .i64 c2.f1] 48 ?_;intro g6 hgg6 w6 hbox hb;have Hg4':=Aside0.mk (blk_below Hg4.out hb);have HB':=Aside0.mk (below_step HB.out hb);clear HB Hg4;have Hg4:=Hg4';have HB:=HB';clear HB' Hg4';have fg40_6:=zz0 Hg4;have fg41_6:=zz1 Hg4;have fg42_6:=zz2 Hg4;have Hg6:=Aside0.mk hbox;have fg60_6:=zz0 Hg6;have fg61_6:=zz1 Hg6;clear hbox hb hgg6)|((with_reducible refine gate_dst (N:=7) rfl ?_);refine zzc 7 #[.int .i64 c3.f0,.int .i64 c3.f1] 48 ?_;intro g7 hgg7 w7 hbox hb;have Hg4':=Aside0.mk (blk_below Hg4.out hb);have Hg6':=Aside0.mk (blk_below Hg6.out hb);have HB':=Aside0.mk (below_step HB.out hb);clear HB Hg4 Hg6;have Hg4:=Hg4';have Hg6:=Hg6';have HB:=HB';clear HB' Hg4' Hg6';have fg40_7:=zz0 Hg4;have fg41_7:=zz1 Hg4;have fg42_7:=zz2 Hg4;have fg60_7:=zz0 Hg6;have fg61_7:=zz1 Hg6;have Hg7:=Aside0.mk hbox;have fg70_7:=zz0 Hg7;have fg71_7:=zz1 Hg7;clear hbox hb hgg7)|(go_at_call 16;(with_reducible refine (impl_IsValidFloor.calls kv a0_0 a0_1 A0_2 c0_2 l0_2 true _ (Kd.C_below HR0.out HB.out) HC0.out HV.out).mono ?_);rintro e w8 ⟨rfl,hB⟩;have Hg4':=Aside0.mk (blk_below Hg4.out hB);have Hg6':=Aside0.mk (blk_below Hg6.out hB);have Hg7':=Aside0.mk (blk_below Hg7.out hB);have HB':=Aside0.mk (below_step HB.out hB);clear HB Hg4 Hg6 Hg7;have Hg4:=Hg4';have Hg6:=Hg6';have Hg7:=Hg7';have HB:=HB';clear HB' Hg4' Hg6' Hg7';have fg40_8:=zz0 Hg4;have fg41_8:=zz1 Hg4;have fg42_8:=zz2 Hg4;have fg60_8:=zz0 Hg6;have fg61_8:=zz1 Hg6;have fg70_8:=zz0 Hg7;have fg71_8:=zz1 Hg7;clear hB))
 go_ret2
 exact ⟨_,rfl,Kd.R_nil _ _ _ _ _,HB.out⟩
set_option maxHeartbeats 8000000 in
set_option maxRecDepth 100000 in
theorem impl_SafePath.bad3 (a0_0 a0_1 : Int) (A0_2 : Option Addr) (c0_2 : Nat) (l0_2 : List S48) (A1 : Option Addr) (c1 : Nat) (os : List (List S48)) (c2 c3 : S48) (w : World) (hr0_2 : Kd.C k48 w A0_2 l0_2.length l0_2) (hc0_2 : l0_2.length ≤ c0_2) (hr1 : Kd.C SL6 w A1 os.length os) (hc1 : os.length ≤ c1) (hbl : (l0_2.length : Int) ≤ 1099511627776) (kv : Nat) (kf : Nat) (hv : impl_IsValidFloor.f kv a0_0 a0_1 l0_2 = some true) (hol : (os.length : Int) ≤ 3) (hf : impl_isFree.f kf a0_0 a0_1 l0_2 c2.f0 c2.f1 = some false) :
  Calls Try.prog 41 #[.agg #[.int .i64 a0_0,.int .i64 a0_1,.slice A0_2 l0_2.length c0_2],.slice A1 os.length c1,.agg #[.int .i64 c2.f0,.int .i64 c2.f1],.agg #[.int .i64 c3.f0,.int .i64 c3.f1]] w fun e w' => ∃ u : Value,e = .returned (.tuple #[u,.bool false]) ∧ Kd.R k48 48 w' w.heap.size (fun _=>True) u [] ∧ Below w.heap.size w w':=by
 have hu29:=Try.underlying29
 have hu48:=Try.underlying48
 have HR0:=Aside0.mk hr0_2
 have HC0:=Aside0.mk hc0_2
 have HR1:=Aside0.mk hr1
 have HC1:=Aside0.mk hc1
 have HBL:=Aside0.mk hbl
 have HV:=Aside0.mk hv
 have HOL:=Aside0.mk hol
 have HF:=Aside0.mk hf
 have cl : decide (3 < (os.length : Int)) = false:=decide_eq_false (by have:=HOL.out;omega)
 clear hr0_2 hc0_2 hr1 hc1 hbl hv hol hf
 go_enter Try.func41,Try.ntmps41
 go_wp2_with (first|((with_reducible refine gate_dst (N:=4) rfl ?_);refine zzc 4 #[.int .i64 a0_0,.int .i64 a0_1,.slice A0_2 l0_2.length c0_2] 29 ?_;intro g4 hgg4 w4 hbox hb;have Hg4:=Aside0.mk hbox;have HB:=Aside0.mk hb;clear hbox hb hgg4;have fg40_4:=zz0 Hg4;have fg41_4:=zz1 Hg4;have fg42_4:=zz2 Hg4)|((with_reducible refine gate_dst (N:=6) rfl ?_);refine zzc 6 #[.int .i64 c2.f0,.int .i64 c2.f1] 48 ?_;intro g6 hgg6 w6 hbox hb;have Hg4':=Aside0.mk (blk_below Hg4.out hb);have HB':=Aside0.mk (below_step HB.out hb);clear HB Hg4;have Hg4:=Hg4';have HB:=HB';clear HB' Hg4';have fg40_6:=zz0 Hg4;have fg41_6:=zz1 Hg4;have fg42_6:=zz2 Hg4;have Hg6:=Aside0.mk hbox;have fg60_6:=zz0 Hg6;have fg61_6:=zz1 Hg6;clear hbox hb hgg6)|((with_reducible refine gate_dst (N:=7) rfl ?_);refine zzc 7 #[.int .i64 c3.f0,.int .i64 c3.f1] 48 ?_;intro g7 hgg7 w7 hbox hb;have Hg4':=Aside0.mk (blk_below Hg4.out hb);have Hg6':=Aside0.mk (blk_below Hg6.out hb);have HB':=Aside0.mk (below_step HB.out hb);clear HB Hg4 Hg6;have Hg4:=Hg4';have Hg6:=Hg6';have HB:=HB';clear HB' Hg4' Hg6';have fg40_7:=zz0 Hg4;have fg41_7:=zz1 Hg4;have fg42_7:=zz2 Hg4;have fg60_7:=zz0 Hg6;have fg61_7:=zz1 Hg6;have Hg7:=Aside0.mk hbox;have fg70_7:=zz0 Hg7;have fg71_7:=zz1 Hg7;clear hbox hb hgg7)|(go_at_call 16;(with_reducible refine (impl_IsValidFloor.calls kv a0_0 a0_1 A0_2 c0_2 l0_2 true _ (Kd.C_below HR0.out HB.out) HC0.out HV.out).mono ?_);rintro e w8 ⟨rfl,hB⟩;have Hg4':=Aside0.mk (blk_below Hg4.out hB);have Hg6':=Aside0.mk (blk_below Hg6.out hB);have Hg7':=Aside0.mk (blk_below Hg7.out hB);have HB':=Aside0.mk (below_step HB.out hB);clear HB Hg4 Hg6 Hg7;have Hg4:=Hg4';have Hg6:=Hg6';have Hg7:=Hg7';have HB:=HB';clear HB' Hg4' Hg6' Hg7';have fg40_8:=zz0 Hg4;have fg41_8:=zz1 Hg4;have fg42_8:=zz2 Hg4;have fg60_8:=zz0 Hg6;have fg61_8:=zz1 Hg6;have fg70_8:=zz0 Hg7;have fg71_8:=zz1 Hg7;clear hB)|(go_at_call 58;(with_reducible refine (impl_isFree.calls kf a0_0 a0_1 A0_2 c0_2 l0_2 c2.f0 c2.f1 false _ (Kd.C_below HR0.out HB.out) HC0.out HF.out).mono ?_);rintro e w9 ⟨rfl,hB⟩;have Hg4':=Aside0.mk (blk_below Hg4.out hB);have Hg6':=Aside0.mk (blk_below Hg6.out hB);have Hg7':=Aside0.mk (blk_below Hg7.out hB);have HB':=Aside0.mk (below_step HB.out hB);clear HB Hg4 Hg6 Hg7;have Hg4:=Hg4';have Hg6:=Hg6';have Hg7:=Hg7';have HB:=HB';clear HB' Hg4' Hg6' Hg7';have fg40_9:=zz0 Hg4;have fg41_9:=zz1 Hg4;have fg42_9:=zz2 Hg4;have fg60_9:=zz0 Hg6;have fg61_9:=zz1 Hg6;have fg70_9:=zz0 Hg7;have fg71_9:=zz1 Hg7;clear hB))
 go_ret2
 exact ⟨_,rfl,Kd.R_nil _ _ _ _ _,HB.out⟩
set_option maxHeartbeats 8000000 in
set_option maxRecDepth 100000 in
theorem impl_SafePath.bad4 (a0_0 a0_1 : Int) (A0_2 : Option Addr) (c0_2 : Nat) (l0_2 : List S48) (A1 : Option Addr) (c1 : Nat) (os : List (List S48)) (c2 c3 : S48) (w : World) (hr0_2 : Kd.C k48 w A0_2 l0_2.length l0_2) (hc0_2 : l0_2.length ≤ c0_2) (hr1 : Kd.C SL6 w A1 os.length os) (hc1 : os.length ≤ c1) (hbl : (l0_2.length : Int) ≤ 1099511627776) (kv : Nat) (kf : Nat) (kg : Nat) (hv : impl_IsValidFloor.f kv a0_0 a0_1 l0_2 = some true) (hol : (os.length : Int) ≤ 3) (hf : impl_isFree.f kf a0_0 a0_1 l0_2 c2.f0 c2.f1 = some true) (hg : impl_isFree.f kg a0_0 a0_1 l0_2 c3.f0 c3.f1 = some false) :
  Calls Try.prog 41 #[.agg #[.int .i64 a0_0,.int .i64 a0_1,.slice A0_2 l0_2.length c0_2],.slice A1 os.length c1,.agg #[.int .i64 c2.f0,.int .i64 c2.f1],.agg #[.int .i64 c3.f0,.int .i64 c3.f1]] w fun e w' => ∃ u : Value,e = .returned (.tuple #[u,.bool false]) ∧ Kd.R k48 48 w' w.heap.size (fun _=>True) u [] ∧ Below w.heap.size w w':=by
 have hu29:=Try.underlying29
 have hu48:=Try.underlying48
 have HR0:=Aside0.mk hr0_2
 have HC0:=Aside0.mk hc0_2
 have HR1:=Aside0.mk hr1
 have HC1:=Aside0.mk hc1
 have HBL:=Aside0.mk hbl
 have HV:=Aside0.mk hv
 have HOL:=Aside0.mk hol
 have HF:=Aside0.mk hf
 have HG2:=Aside0.mk hg
 have cl : decide (3 < (os.length : Int)) = false:=decide_eq_false (by have:=HOL.out;omega)
 clear hr0_2 hc0_2 hr1 hc1 hbl hv hol hf hg
 go_enter Try.func41,Try.ntmps41
 go_wp2_with (first|((with_reducible refine gate_dst (N:=4) rfl ?_);refine zzc 4 #[.int .i64 a0_0,.int .i64 a0_1,.slice A0_2 l0_2.length c0_2] 29 ?_;intro g4 hgg4 w4 hbox hb;have Hg4:=Aside0.mk hbox;have HB:=Aside0.mk hb;clear hbox hb hgg4;have fg40_4:=zz0 Hg4;have fg41_4:=zz1 Hg4;have fg42_4:=zz2 Hg4)|((with_reducible refine gate_dst (N:=6) rfl ?_);refine zzc 6 #[.int .i64 c2.f0,.int .i64 c2.f1] 48 ?_;intro g6 hgg6 w6 hbox hb;have Hg4':=Aside0.mk (blk_below Hg4.out hb);have HB':=Aside0.mk (below_step HB.out hb);clear HB Hg4;have Hg4:=Hg4';have HB:=HB';clear HB' Hg4';have fg40_6:=zz0 Hg4;have fg41_6:=zz1 Hg4;have fg42_6:=zz2 Hg4;have Hg6:=Aside0.mk hbox;have fg60_6:=zz0 Hg6;have fg61_6:=zz1 Hg6;clear hbox hb hgg6)|((with_reducible refine gate_dst (N:=7) rfl ?_);refine zzc 7 #[.int .i64 c3.f0,.int .i64 c3.f1] 48 ?_;intro g7 hgg7 w7 hbox hb;have Hg4':=Aside0.mk (blk_below Hg4.out hb);have Hg6':=Aside0.mk (blk_below Hg6.out hb);have HB':=Aside0.mk (below_step HB.out hb);clear HB Hg4 Hg6;have Hg4:=Hg4';have Hg6:=Hg6';have HB:=HB';clear HB' Hg4' Hg6';have fg40_7:=zz0 Hg4;have fg41_7:=zz1 Hg4;have fg42_7:=zz2 Hg4;have fg60_7:=zz0 Hg6;have fg61_7:=zz1 Hg6;have Hg7:=Aside0.mk hbox;have fg70_7:=zz0 Hg7;have fg71_7:=zz1 Hg7;clear hbox hb hgg7)|(go_at_call 16;(with_reducible refine (impl_IsValidFloor.calls kv a0_0 a0_1 A0_2 c0_2 l0_2 true _ (Kd.C_below HR0.out HB.out) HC0.out HV.out).mono ?_);rintro e w8 ⟨rfl,hB⟩;have Hg4':=Aside0.mk (blk_below Hg4.out hB);have Hg6':=Aside0.mk (blk_below Hg6.out hB);have Hg7':=Aside0.mk (blk_below Hg7.out hB);have HB':=Aside0.mk (below_step HB.out hB);clear HB Hg4 Hg6 Hg7;have Hg4:=Hg4';have Hg6:=Hg6';have Hg7:=Hg7';have HB:=HB';clear HB' Hg4' Hg6' Hg7';have fg40_8:=zz0 Hg4;have fg41_8:=zz1 Hg4;have fg42_8:=zz2 Hg4;have fg60_8:=zz0 Hg6;have fg61_8:=zz1 Hg6;have fg70_8:=zz0 Hg7;have fg71_8:=zz1 Hg7;clear hB)|(go_at_call 58;(with_reducible refine (impl_isFree.calls kf a0_0 a0_1 A0_2 c0_2 l0_2 c2.f0 c2.f1 true _ (Kd.C_below HR0.out HB.out) HC0.out HF.out).mono ?_);rintro e w9 ⟨rfl,hB⟩;have Hg4':=Aside0.mk (blk_below Hg4.out hB);have Hg6':=Aside0.mk (blk_below Hg6.out hB);have Hg7':=Aside0.mk (blk_below Hg7.out hB);have HB':=Aside0.mk (below_step HB.out hB);clear HB Hg4 Hg6 Hg7;have Hg4:=Hg4';have Hg6:=Hg6';have Hg7:=Hg7';have HB:=HB';clear HB' Hg4' Hg6' Hg7';have fg40_9:=zz0 Hg4;have fg41_9:=zz1 Hg4;have fg42_9:=zz2 Hg4;have fg60_9:=zz0 Hg6;have fg61_9:=zz1 Hg6;have fg70_9:=zz0 Hg7;have fg71_9:=zz1 Hg7;clear hB)|(go_at_call 58;(with_reducible refine (impl_isFree.calls kg a0_0 a0_1 A0_2 c0_2 l0_2 c3.f0 c3.f1 false _ (Kd.C_below HR0.out HB.out) HC0.out HG2.out).mono ?_);rintro e w10 ⟨rfl,hB⟩;have Hg4':=Aside0.mk (blk_below Hg4.out hB);have Hg6':=Aside0.mk (blk_below Hg6.out hB);have Hg7':=Aside0.mk (blk_below Hg7.out hB);have HB':=Aside0.mk (below_step HB.out hB);clear HB Hg4 Hg6 Hg7;have Hg4:=Hg4';have Hg6:=Hg6';have Hg7:=Hg7';have HB:=HB';clear HB' Hg4' Hg6' Hg7';have fg40_10:=zz0 Hg4;have fg41_10:=zz1 Hg4;have fg42_10:=zz2 Hg4;have fg60_10:=zz0 Hg6;have fg61_10:=zz1 Hg6;have fg70_10:=zz0 Hg7;have fg71_10:=zz1 Hg7;clear hB))
 go_ret2
 exact ⟨_,rfl,Kd.R_nil _ _ _ _ _,HB.out⟩
set_option maxHeartbeats 8000000 in
set_option maxRecDepth 100000 in
theorem impl_SafePath.bad5 (a0_0 a0_1 : Int) (A0_2 : Option Addr) (c0_2 : Nat) (l0_2 : List S48) (A1 : Option Addr) (c1 : Nat) (os : List (List S48)) (c2 c3 : S48) (w : World) (hr0_2 : Kd.C k48 w A0_2 l0_2.length l0_2) (hc0_2 : l0_2.length ≤ c0_2) (hr1 : Kd.C SL6 w A1 os.length os) (hc1 : os.length ≤ c1) (hbl : (l0_2.length : Int) ≤ 1099511627776) (kv : Nat) (kf : Nat) (kg : Nat) (hv : impl_IsValidFloor.f kv a0_0 a0_1 l0_2 = some true) (hol : (os.length : Int) ≤ 3) (hf : impl_isFree.f kf a0_0 a0_1 l0_2 c2.f0 c2.f1 = some true) (hg : impl_isFree.f kg a0_0 a0_1 l0_2 c3.f0 c3.f1 = some true) (hp : ∃ p ∈ os,¬ PathOk a0_0 a0_1 l0_2 p) :
  Calls Try.prog 41 #[.agg #[.int .i64 a0_0,.int .i64 a0_1,.slice A0_2 l0_2.length c0_2],.slice A1 os.length c1,.agg #[.int .i64 c2.f0,.int .i64 c2.f1],.agg #[.int .i64 c3.f0,.int .i64 c3.f1]] w fun e w' => ∃ u : Value,e = .returned (.tuple #[u,.bool false]) ∧ Kd.R k48 48 w' w.heap.size (fun _=>True) u [] ∧ Below w.heap.size w w':=by
 have hu29:=Try.underlying29
 have hu48:=Try.underlying48
 have HR0:=Aside0.mk hr0_2
 have HC0:=Aside0.mk hc0_2
 have HR1:=Aside0.mk hr1
 have HC1:=Aside0.mk hc1
 have HBL:=Aside0.mk hbl
 have HV:=Aside0.mk hv
 have HOL:=Aside0.mk hol
 have HF:=Aside0.mk hf
 have HG2:=Aside0.mk hg
 have HP:=Aside0.mk hp
 have cl : decide (3 < (os.length : Int)) = false:=decide_eq_false (by have:=HOL.out;omega)
 clear hr0_2 hc0_2 hr1 hc1 hbl hv hol hf hg hp
 go_enter Try.func41,Try.ntmps41
 go_wp2_with (first|((with_reducible refine gate_dst (N:=4) rfl ?_);refine zzc 4 #[.int .i64 a0_0,.int .i64 a0_1,.slice A0_2 l0_2.length c0_2] 29 ?_;intro g4 hgg4 w4 hbox hb;have Hg4:=Aside0.mk hbox;have HB:=Aside0.mk hb;clear hbox hb hgg4;have fg40_4:=zz0 Hg4;have fg41_4:=zz1 Hg4;have fg42_4:=zz2 Hg4)|((with_reducible refine gate_dst (N:=6) rfl ?_);refine zzc 6 #[.int .i64 c2.f0,.int .i64 c2.f1] 48 ?_;intro g6 hgg6 w6 hbox hb;have Hg4':=Aside0.mk (blk_below Hg4.out hb);have HB':=Aside0.mk (below_step HB.out hb);clear HB Hg4;have Hg4:=Hg4';have HB:=HB';clear HB' Hg4';have fg40_6:=zz0 Hg4;have fg41_6:=zz1 Hg4;have fg42_6:=zz2 Hg4;have Hg6:=Aside0.mk hbox;have fg60_6:=zz0 Hg6;have fg61_6:=zz1 Hg6;clear hbox hb hgg6)|((with_reducible refine gate_dst (N:=7) rfl ?_);refine zzc 7 #[.int .i64 c3.f0,.int .i64 c3.f1] 48 ?_;intro g7 hgg7 w7 hbox hb;have Hg4':=Aside0.mk (blk_below Hg4.out hb);have Hg6':=Aside0.mk (blk_below Hg6.out hb);have HB':=Aside0.mk (below_step HB.out hb);clear HB Hg4 Hg6;have Hg4:=Hg4';have Hg6:=Hg6';have HB:=HB';clear HB' Hg4' Hg6';have fg40_7:=zz0 Hg4;have fg41_7:=zz1 Hg4;have fg42_7:=zz2 Hg4;have fg60_7:=zz0 Hg6;have fg61_7:=zz1 Hg6;have Hg7:=Aside0.mk hbox;have fg70_7:=zz0 Hg7;have fg71_7:=zz1 Hg7;clear hbox hb hgg7)|(go_at_call 16;(with_reducible refine (impl_IsValidFloor.calls kv a0_0 a0_1 A0_2 c0_2 l0_2 true _ (Kd.C_below HR0.out HB.out) HC0.out HV.out).mono ?_);rintro e w8 ⟨rfl,hB⟩;have Hg4':=Aside0.mk (blk_below Hg4.out hB);have Hg6':=Aside0.mk (blk_below Hg6.out hB);have Hg7':=Aside0.mk (blk_below Hg7.out hB);have HB':=Aside0.mk (below_step HB.out hB);clear HB Hg4 Hg6 Hg7;have Hg4:=Hg4';have Hg6:=Hg6';have Hg7:=Hg7';have HB:=HB';clear HB' Hg4' Hg6' Hg7';have fg40_8:=zz0 Hg4;have fg41_8:=zz1 Hg4;have fg42_8:=zz2 Hg4;have fg60_8:=zz0 Hg6;have fg61_8:=zz1 Hg6;have fg70_8:=zz0 Hg7;have fg71_8:=zz1 Hg7;clear hB)|(go_at_call 58;(with_reducible refine (impl_isFree.calls kf a0_0 a0_1 A0_2 c0_2 l0_2 c2.f0 c2.f1 true _ (Kd.C_below HR0.out HB.out) HC0.out HF.out).mono ?_);rintro e w9 ⟨rfl,hB⟩;have Hg4':=Aside0.mk (blk_below Hg4.out hB);have Hg6':=Aside0.mk (blk_below Hg6.out hB);have Hg7':=Aside0.mk (blk_below Hg7.out hB);have HB':=Aside0.mk (below_step HB.out hB);clear HB Hg4 Hg6 Hg7;have Hg4:=Hg4';have Hg6:=Hg6';have Hg7:=Hg7';have HB:=HB';clear HB' Hg4' Hg6' Hg7';have fg40_9:=zz0 Hg4;have fg41_9:=zz1 Hg4;have fg42_9:=zz2 Hg4;have fg60_9:=zz0 Hg6;have fg61_9:=zz1 Hg6;have fg70_9:=zz0 Hg7;have fg71_9:=zz1 Hg7;clear hB)|(go_at_call 58;(with_reducible refine (impl_isFree.calls kg a0_0 a0_1 A0_2 c0_2 l0_2 c3.f0 c3.f1 true _ (Kd.C_below HR0.out HB.out) HC0.out HG2.out).mono ?_);rintro e w10 ⟨rfl,hB⟩;have Hg4':=Aside0.mk (blk_below Hg4.out hB);have Hg6':=Aside0.mk (blk_below Hg6.out hB);have Hg7':=Aside0.mk (blk_below Hg7.out hB);have HB':=Aside0.mk (below_step HB.out hB);clear HB Hg4 Hg6 Hg7;have Hg4:=Hg4';have Hg6:=Hg6';have Hg7:=Hg7';have HB:=HB';clear HB' Hg4' Hg6' Hg7';have fg40_10:=zz0 Hg4;have fg41_10:=zz1 Hg4;have fg42_10:=zz2 Hg4;have fg60_10:=zz0 Hg6;have fg61_10:=zz1 Hg6;have fg70_10:=zz0 Hg7;have fg71_10:=zz1 Hg7;clear hB)|(go_at_call 71;(with_reducible refine (cont72 a0_0 a0_1 A0_2 c0_2 l0_2 g4 A1 c1 os _ HBL.out Hg4.out (Kd.C_below HR0.out HB.out) HC0.out (Kd.C_below HR1.out HB.out) HC1.out (by have:=HOL.out;omega)).mono ?_);rintro e w11 ⟨rfl,hB⟩;rw [chk_pos HP.out];have Hg4':=Aside0.mk (blk_below Hg4.out hB);have Hg6':=Aside0.mk (blk_below Hg6.out hB);have Hg7':=Aside0.mk (blk_below Hg7.out hB);have HB':=Aside0.mk (below_step HB.out hB);clear HB Hg4 Hg6 Hg7;have Hg4:=Hg4';have Hg6:=Hg6';have Hg7:=Hg7';have HB:=HB';clear HB' Hg4' Hg6' Hg7';have fg40_11:=zz0 Hg4;have fg41_11:=zz1 Hg4;have fg42_11:=zz2 Hg4;have fg60_11:=zz0 Hg6;have fg61_11:=zz1 Hg6;have fg70_11:=zz0 Hg7;have fg71_11:=zz1 Hg7;clear hB))
 go_ret2
 exact ⟨_,rfl,Kd.R_nil _ _ _ _ _,HB.out⟩
set_option maxHeartbeats 8000000 in
set_option maxRecDepth 100000 in
theorem impl_SafePath.good (a0_0 a0_1 : Int) (A0_2 : Option Addr) (c0_2 : Nat) (l0_2 : List S48) (A1 : Option Addr) (c1 : Nat) (os : List (List S48)) (c2 c3 : S48) (w : World) (hr0_2 : Kd.C k48 w A0_2 l0_2.length l0_2) (hc0_2 : l0_2.length ≤ c0_2) (hr1 : Kd.C SL6 w A1 os.length os) (hc1 : os.length ≤ c1) (hbl : (l0_2.length : Int) ≤ 1099511627776) (kv : Nat) (kf : Nat) (kg : Nat) (hv : impl_IsValidFloor.f kv a0_0 a0_1 l0_2 = some true) (hol : (os.length : Int) ≤ 3) (hf : impl_isFree.f kf a0_0 a0_1 l0_2 c2.f0 c2.f1 = some true) (hg : impl_isFree.f kg a0_0 a0_1 l0_2 c3.f0 c3.f1 = some true) (hp : ¬ ∃ p ∈ os,¬ PathOk a0_0 a0_1 l0_2 p) (hfl : FloorOk a0_0 a0_1 l0_2) (ha : Free a0_0 a0_1 l0_2 c2) (hbt : Free a0_0 a0_1 l0_2 c3) (ho : Len os) :
  Calls Try.prog 41 #[.agg #[.int .i64 a0_0,.int .i64 a0_1,.slice A0_2 l0_2.length c0_2],.slice A1 os.length c1,.agg #[.int .i64 c2.f0,.int .i64 c2.f1],.agg #[.int .i64 c3.f0,.int .i64 c3.f1]] w fun e w' => ∃ u : Value,e = .returned (.tuple #[u,.bool (safeR a0_0 a0_1 l0_2 os c2 c3).2]) ∧ Kd.R k48 48 w' w.heap.size (fun _=>True) u (safeR a0_0 a0_1 l0_2 os c2 c3).1 ∧ Below w.heap.size w w':=by
 have hu29:=Try.underlying29
 have hu48:=Try.underlying48
 have HR0:=Aside0.mk hr0_2
 have HC0:=Aside0.mk hc0_2
 have HR1:=Aside0.mk hr1
 have HC1:=Aside0.mk hc1
 have HBL:=Aside0.mk hbl
 have HV:=Aside0.mk hv
 have HOL:=Aside0.mk hol
 have HF:=Aside0.mk hf
 have HG2:=Aside0.mk hg
 have HP:=Aside0.mk hp
 have HFL:=Aside0.mk hfl
 have HA:=Aside0.mk ha
 have HT:=Aside0.mk hbt
 have HO:=Aside0.mk ho
 have cl : decide (3 < (os.length : Int)) = false:=decide_eq_false (by have:=HOL.out;omega)
 clear hr0_2 hc0_2 hr1 hc1 hbl hv hol hf hg hp hfl ha hbt ho
 go_enter Try.func41,Try.ntmps41
 go_wp2_with (first|((with_reducible refine gate_dst (N:=4) rfl ?_);refine zzc 4 #[.int .i64 a0_0,.int .i64 a0_1,.slice A0_2 l0_2.length c0_2] 29 ?_;intro g4 hgg4 w4 hbox hb;have Hg4:=Aside0.mk hbox;have HB:=Aside0.mk hb;clear hbox hb hgg4;have fg40_4:=zz0 Hg4;have fg41_4:=zz1 Hg4;have fg42_4:=zz2 Hg4)|((with_reducible refine gate_dst (N:=6) rfl ?_);refine zzc 6 #[.int .i64 c2.f0,.int .i64 c2.f1] 48 ?_;intro g6 hgg6 w6 hbox hb;have Hg4':=Aside0.mk (blk_below Hg4.out hb);have HB':=Aside0.mk (below_step HB.out hb);clear HB Hg4;have Hg4:=Hg4';have HB:=HB';clear HB' Hg4';have fg40_6:=zz0 Hg4;have fg41_6:=zz1 Hg4;have fg42_6:=zz2 Hg4;have Hg6:=Aside0.mk hbox;have fg60_6:=zz0 Hg6;have fg61_6:=zz1 Hg6;clear hbox hb hgg6)|((with_reducible refine gate_dst (N:=7) rfl ?_);refine zzc 7 #[.int .i64 c3.f0,.int .i64 c3.f1] 48 ?_;intro g7 hgg7 w7 hbox hb;have Hg4':=Aside0.mk (blk_below Hg4.out hb);have Hg6':=Aside0.mk (blk_below Hg6.out hb);have HB':=Aside0.mk (below_step HB.out hb);clear HB Hg4 Hg6;have Hg4:=Hg4';have Hg6:=Hg6';have HB:=HB';clear HB' Hg4' Hg6';have fg40_7:=zz0 Hg4;have fg41_7:=zz1 Hg4;have fg42_7:=zz2 Hg4;have fg60_7:=zz0 Hg6;have fg61_7:=zz1 Hg6;have Hg7:=Aside0.mk hbox;have fg70_7:=zz0 Hg7;have fg71_7:=zz1 Hg7;clear hbox hb hgg7)|(go_at_call 16;(with_reducible refine (impl_IsValidFloor.calls kv a0_0 a0_1 A0_2 c0_2 l0_2 true _ (Kd.C_below HR0.out HB.out) HC0.out HV.out).mono ?_);rintro e w8 ⟨rfl,hB⟩;have Hg4':=Aside0.mk (blk_below Hg4.out hB);have Hg6':=Aside0.mk (blk_below Hg6.out hB);have Hg7':=Aside0.mk (blk_below Hg7.out hB);have HB':=Aside0.mk (below_step HB.out hB);clear HB Hg4 Hg6 Hg7;have Hg4:=Hg4';have Hg6:=Hg6';have Hg7:=Hg7';have HB:=HB';clear HB' Hg4' Hg6' Hg7';have fg40_8:=zz0 Hg4;have fg41_8:=zz1 Hg4;have fg42_8:=zz2 Hg4;have fg60_8:=zz0 Hg6;have fg61_8:=zz1 Hg6;have fg70_8:=zz0 Hg7;have fg71_8:=zz1 Hg7;clear hB)|(go_at_call 58;(with_reducible refine (impl_isFree.calls kf a0_0 a0_1 A0_2 c0_2 l0_2 c2.f0 c2.f1 true _ (Kd.C_below HR0.out HB.out) HC0.out HF.out).mono ?_);rintro e w9 ⟨rfl,hB⟩;have Hg4':=Aside0.mk (blk_below Hg4.out hB);have Hg6':=Aside0.mk (blk_below Hg6.out hB);have Hg7':=Aside0.mk (blk_below Hg7.out hB);have HB':=Aside0.mk (below_step HB.out hB);clear HB Hg4 Hg6 Hg7;have Hg4:=Hg4';have Hg6:=Hg6';have Hg7:=Hg7';have HB:=HB';clear HB' Hg4' Hg6' Hg7';have fg40_9:=zz0 Hg4;have fg41_9:=zz1 Hg4;have fg42_9:=zz2 Hg4;have fg60_9:=zz0 Hg6;have fg61_9:=zz1 Hg6;have fg70_9:=zz0 Hg7;have fg71_9:=zz1 Hg7;clear hB)|(go_at_call 58;(with_reducible refine (impl_isFree.calls kg a0_0 a0_1 A0_2 c0_2 l0_2 c3.f0 c3.f1 true _ (Kd.C_below HR0.out HB.out) HC0.out HG2.out).mono ?_);rintro e w10 ⟨rfl,hB⟩;have Hg4':=Aside0.mk (blk_below Hg4.out hB);have Hg6':=Aside0.mk (blk_below Hg6.out hB);have Hg7':=Aside0.mk (blk_below Hg7.out hB);have HB':=Aside0.mk (below_step HB.out hB);clear HB Hg4 Hg6 Hg7;have Hg4:=Hg4';have Hg6:=Hg6';have Hg7:=Hg7';have HB:=HB';clear HB' Hg4' Hg6' Hg7';have fg40_10:=zz0 Hg4;have fg41_10:=zz1 Hg4;have fg42_10:=zz2 Hg4;have fg60_10:=zz0 Hg6;have fg61_10:=zz1 Hg6;have fg70_10:=zz0 Hg7;have fg71_10:=zz1 Hg7;clear hB)|(go_at_call 71;(with_reducible refine (cont72 a0_0 a0_1 A0_2 c0_2 l0_2 g4 A1 c1 os _ HBL.out Hg4.out (Kd.C_below HR0.out HB.out) HC0.out (Kd.C_below HR1.out HB.out) HC1.out (by have:=HOL.out;omega)).mono ?_);rintro e w11 ⟨rfl,hB⟩;rw [chk_neg HP.out];have Hg4':=Aside0.mk (blk_below Hg4.out hB);have Hg6':=Aside0.mk (blk_below Hg6.out hB);have Hg7':=Aside0.mk (blk_below Hg7.out hB);have HB':=Aside0.mk (below_step HB.out hB);clear HB Hg4 Hg6 Hg7;have Hg4:=Hg4';have Hg6:=Hg6';have Hg7:=Hg7';have HB:=HB';clear HB' Hg4' Hg6' Hg7';have fg40_11:=zz0 Hg4;have fg41_11:=zz1 Hg4;have fg42_11:=zz2 Hg4;have fg60_11:=zz0 Hg6;have fg61_11:=zz1 Hg6;have fg70_11:=zz0 Hg7;have fg71_11:=zz1 Hg7;clear hB)|(go_at_call 73;(with_reducible refine (impl_safePath.calls a0_0 a0_1 A0_2 c0_2 l0_2 A1 c1 os c2 c3 _ (Kd.C_below HR0.out HB.out) HC0.out (Kd.C_below HR1.out HB.out) HC1.out HFL.out HBL.out HA.out HT.out HO.out).mono ?_);rintro e w12 ⟨u12,rfl,hR,hB⟩;have HR12:=Aside0.mk hR;have HB12:=Aside0.mk hB;clear hR hB))
 go_ret2
 exact ⟨_,rfl,Kd.R_lower HR12.out HB.out.size,below_step HB.out HB12.out⟩
/-- What SafePath has to be asked for to search at all. -/
def AskOk (w h : Int) (bl : List S48) (os : List (List S48)) (a b : S48) : Prop:=FloorOk w h bl ∧ (os.length : Int) ≤ 3 ∧ Free w h bl a ∧ Free w h bl b ∧ ∀ p ∈ os,PathOk w h bl p
theorem AskOk.len {w h : Int} {bl : List S48} {os : List (List S48)} {a b : S48} (x : AskOk w h bl os a b) : Len os:=⟨by have:=x.2.1;omega,fun p hp=>(x.2.2.2.2 p hp).2.1⟩
noncomputable def impl_SafePath.f (a0_0 : Int) (a0_1 : Int) (l0_2 : List S48) (l1 : List (List S48)) (a2_0 : Int) (a2_1 : Int) (a3_0 : Int) (a3_1 : Int) : Option (List S48 × Bool):=chk ((l0_2.length : Int) ≤ 1099511627776) (some (chk (AskOk a0_0 a0_1 l0_2 l1 ⟨a2_0,a2_1⟩ ⟨a3_0,a3_1⟩) (safeR a0_0 a0_1 l0_2 l1 ⟨a2_0,a2_1⟩ ⟨a3_0,a3_1⟩) ([],false))) none
theorem impl_SafePath.calls (a0_0 : Int) (a0_1 : Int) (A0_2 : Option Addr) (c0_2 : Nat) (l0_2 : List S48) (A1 : Option Addr) (c1 : Nat) (l1 : List (List S48)) (a2_0 : Int) (a2_1 : Int) (a3_0 : Int) (a3_1 : Int) (r1 : List S48) (r2 : Bool) (w : World) (hr0_2 : Kd.C k48 w A0_2 l0_2.length l0_2) (hc0_2 : l0_2.length ≤ c0_2) (hr1 : Kd.C (Kd.slice 48 k48) w A1 l1.length l1) (hc1 : l1.length ≤ c1) (h : impl_SafePath.f a0_0 a0_1 l0_2 l1 a2_0 a2_1 a3_0 a3_1 = some (r1,r2)) :
  Calls Try.prog 41 #[.agg #[.int .i64 a0_0,.int .i64 a0_1,.slice A0_2 l0_2.length c0_2],.slice A1 l1.length c1,.agg #[.int .i64 a2_0,.int .i64 a2_1],.agg #[.int .i64 a3_0,.int .i64 a3_1]] w fun e w' => ∃ v1 : Value,e = .returned (.tuple #[v1,.bool r2]) ∧ Kd.R k48 48 w' w.heap.size (fun _=>True) v1 r1 ∧ Below w.heap.size w w':=by
 unfold impl_SafePath.f at h
 by_cases hb : (l0_2.length : Int) ≤ 1099511627776
 ·rw [chk_pos hb] at h
  replace h:=Option.some.inj h
  obtain ⟨a,ha⟩ : ∃ a : S48,a = ⟨a2_0,a2_1⟩:=⟨_,rfl⟩
  obtain ⟨b,hb'⟩ : ∃ b : S48,b = ⟨a3_0,a3_1⟩:=⟨_,rfl⟩
  rw [← ha,← hb'] at h
  obtain rfl : a.f0 = a2_0:=by rw [ha]
  obtain rfl : a.f1 = a2_1:=by rw [ha]
  obtain rfl : b.f0 = a3_0:=by rw [hb']
  obtain rfl : b.f1 = a3_1:=by rw [hb']
  clear ha hb'
  obtain ⟨kv,hkv⟩:=Ev.rounds (impl_floor a0_0 a0_1 l0_2 hb)
  by_cases hf : FloorOk a0_0 a0_1 l0_2
  ·rw [chk_pos hf] at hkv
   by_cases ho : (l1.length : Int) ≤ 3
   ·obtain ⟨kf,hkf⟩:=Ev.rounds (impl_free a0_0 a0_1 l0_2 a hf.1 hf.2.1 hb)
    by_cases hfa : Free a0_0 a0_1 l0_2 a
    ·rw [chk_pos hfa] at hkf
     obtain ⟨kg,hkg⟩:=Ev.rounds (impl_free a0_0 a0_1 l0_2 b hf.1 hf.2.1 hb)
     by_cases hfb : Free a0_0 a0_1 l0_2 b
     ·rw [chk_pos hfb] at hkg
      by_cases hp : ∃ p ∈ l1,¬ PathOk a0_0 a0_1 l0_2 p
      ·rw [chk_neg (fun x=>by obtain ⟨p,h1,h2⟩:=hp;exact h2 (x.2.2.2.2 p h1))] at h
       cases h
       exact impl_SafePath.bad5 _ _ _ _ _ _ _ _ a b w hr0_2 hc0_2 hr1 hc1 hb kv kf kg hkv ho hkf hkg hp
      ·have hok : AskOk a0_0 a0_1 l0_2 l1 a b:=⟨hf,ho,hfa,hfb,fun p h1=>Classical.byContradiction fun h2=>hp ⟨p,h1,h2⟩⟩
       rw [chk_pos hok] at h
       have e1 : (safeR a0_0 a0_1 l0_2 l1 a b).1 = r1:=by rw [h]
       have e2 : (safeR a0_0 a0_1 l0_2 l1 a b).2 = r2:=by rw [h]
       rw [← e1,← e2]
       exact impl_SafePath.good _ _ _ _ _ _ _ _ a b w hr0_2 hc0_2 hr1 hc1 hb kv kf kg hkv ho hkf hkg hp hf hfa hfb hok.len
     ·rw [chk_neg hfb] at hkg
      rw [chk_neg (fun x=>hfb x.2.2.2.1)] at h
      cases h
      exact impl_SafePath.bad4 _ _ _ _ _ _ _ _ a b w hr0_2 hc0_2 hr1 hc1 hb kv kf kg hkv ho hkf hkg
    ·rw [chk_neg hfa] at hkf
     rw [chk_neg (fun x=>hfa x.2.2.1)] at h
     cases h
     exact impl_SafePath.bad3 _ _ _ _ _ _ _ _ a b w hr0_2 hc0_2 hr1 hc1 hb kv kf hkv ho hkf
   ·rw [chk_neg (fun x=>ho x.2.1)] at h
    cases h
    exact impl_SafePath.bad2 _ _ _ _ _ _ _ _ a b w hr0_2 hc0_2 hr1 hc1 hb kv hkv (by omega)
  ·rw [chk_neg hf] at hkv
   rw [chk_neg (fun x=>hf x.1)] at h
   cases h
   exact impl_SafePath.bad1 _ _ _ _ _ _ _ _ a b w hr0_2 hc0_2 hr1 hc1 hb kv hkv
 ·rw [chk_neg hb] at h
  cases h
end Go.Proofs.Ytbpccdbkaiigcaa.G

/- The walks of impl.ShortestPath. -/
namespace Go.Proofs.Ytbpccdbkaiigcaa.G
open Go.RowKit Go.Proofs.YtbpccdbkaiigcaaW.PrintWords Go.Proofs.YtbpccdbkaiigcaaW.PrintLast Go.Proofs.YtbpccdbkaiigcaaW.PrintMore
set_option linter.unusedVariables false
set_option linter.unusedSimpArgs false
end Go.Proofs.Ytbpccdbkaiigcaa.G

/- The contract of impl.ShortestPath: the first shortest path. -/
namespace Go.Proofs.Ytbpccdbkaiigcaa.G
open Go.RowKit Go.Proofs.YtbpccdbkaiigcaaW.PrintWords Go.Proofs.YtbpccdbkaiigcaaW.PrintLast
set_option linter.unusedVariables false
set_option linter.unusedSimpArgs false
noncomputable def impl_ShortestPath.f (a0_0 : Int) (a0_1 : Int) (l0_2 : List S48) (a1_0 : Int) (a1_1 : Int) (a2_0 : Int) (a2_1 : Int) : Option (List S48 × Bool):=chk ((l0_2.length : Int) ≤ 1099511627776) (some (shortR a0_0 a0_1 l0_2 ⟨a1_0,a1_1⟩ ⟨a2_0,a2_1⟩)) none
end Go.Proofs.Ytbpccdbkaiigcaa.G

-- Written by wip/tools/gen.py out of the translation (the kit's printer, one namespace a seat). Lean checks it.
namespace Go.Proofs.Ytbpccdbkaiigcaa.G
open Go.RowKit Go.Proofs.YtbpccdbkaiigcaaW.PrintWords Go.Proofs.YtbpccdbkaiigcaaW.PrintLast Go.Proofs.YtbpccdbkaiigcaaW.PrintMore
attribute [local go_sem] max2_int min2_int max_two min_two max_three min_three max_four min_four   -- for this text's walks alone
set_option linter.unusedVariables false
set_option linter.unusedSimpArgs false

/-! ### spec_ShortestPath: function 34 -/
noncomputable def spec_ShortestPath.f (k:Nat) (a0_0:Int) (a0_1:Int) (l0_2:List (S48)) (a1_0:Int) (a1_1:Int) (a2_0:Int) (a2_1:Int):Option ((List (S48)) × Bool):=(spec_l16Asked.f k a0_0 a0_1 l0_2 a1_0 a1_1 a2_0 a2_1).bind fun t515=>(if t515 = true then ((spec_l16Safe.f a0_0 a0_1 l0_2 (([]:List (List (S48)))) a1_0 a1_1 a2_0 a2_1).bind fun bt519=>(some (bt519.1,bt519.2))) else (some ((([]:List (S48))),false)))


/-! ### laws_toCell: function 28 -/
def laws_toCell.f (a0_0:Int) (a0_1:Int):Option (Int × Int):=some (a0_0,a0_1)
set_option maxHeartbeats 8000000 in
set_option maxRecDepth 100000 in
theorem laws_toCell.calls (a0_0:Int) (a0_1:Int) (r1:Int) (r2:Int) (w:World) (h:laws_toCell.f a0_0 a0_1 = some (r1,r2)) :
  Calls Try.prog 28 #[.agg #[.int .i64 a0_0,.int .i64 a0_1]] w fun e w'=>e = .returned (.agg #[.int .i64 r1,.int .i64 r2]) ∧ Below w.heap.size w w':=by
 have hu44:=Try.underlying44;have hu48:=Try.underlying48;have HB:=zM (Below.refl w.heap.size w);have H:(some (a0_0,a0_1)) = some (r1,r2):=h
 clear h;simp only [Option.some.injEq,Prod.mk.injEq] at H
 obtain ⟨rfl,rfl⟩:=H;go_enter Try.func28,Try.ntmps28
 go_wp2_with (first|((with_reducible refine gate_dst (N:=1) rfl ?_);refine zzc 1 #[.int .i64 a0_0,.int .i64 a0_1] 44 ?_;intro gb118 hg w2 hbox hb;have n0_:=zM (zQ zzh hb);have n1_:=zM (hbox);have n2_:=zM ((by rw [hg];exact (zR zzh):w.heap.size ≤ gb118));have n3_:=zM ((by rw [hg];exact (zR zzh):w.heap.size ≤ gb118));clear HB;have HB:=n0_;have BK118:=n1_;have GW118:=n2_;have GE118:=n3_;clear n0_ n1_ n2_ n3_;clear hb hbox hg)|((with_reducible refine gate_dst (N:=2) rfl ?_);refine zzc 2 #[.int .i64 0,.int .i64 0] 48 ?_;intro gb119 hg w3 hbox hb;have n0_:=zM (blk_below (g:=gb118) (o := .cells #[.int .i64 a0_0,.int .i64 a0_1] 44 (0,0)) (zzi BK118) hb);have n1_:=zM (zQ zzh hb);have n2_:=zM (hbox);have n3_:=zM ((by rw [hg];exact (zR zzh):w.heap.size ≤ gb119));have n4_:=zM ((by rw [hg];exact (zR zzh):w.heap.size ≤ gb119));have n5_:=zM ((by rw [hg];exact Nat.ne_of_lt (blk_lt (g:=gb118) (o := .cells #[.int .i64 a0_0,.int .i64 a0_1] 44 (0,0)) (zzi BK118)):gb118 ≠ gb119));have n6_:=zM ((by rw [hg];exact Nat.ne_of_gt (blk_lt (g:=gb118) (o := .cells #[.int .i64 a0_0,.int .i64 a0_1] 44 (0,0)) (zzi BK118)):gb119 ≠ gb118));clear BK118;clear HB;have BK118:=n0_;have HB:=n1_;have BK119:=n2_;have GW119:=n3_;have GE119:=n4_;have NB118_119:=n5_;have NB119_118:=n6_;clear n0_ n1_ n2_ n3_ n4_ n5_ n6_;clear hb hbox hg)|((with_reducible refine gate_dst (N:=3) rfl ?_);refine zzc 3 #[.int .i64 0,.int .i64 0] 48 ?_;intro gb120 hg w4 hbox hb;have n0_:=zM (blk_below (g:=gb118) (o := .cells #[.int .i64 a0_0,.int .i64 a0_1] 44 (0,0)) (zzi BK118) hb);have n1_:=zM (blk_below (g:=gb119) (o := .cells #[.int .i64 0,.int .i64 0] 48 (0,0)) (zzi BK119) hb);have n2_:=zM (zQ zzh hb);have n3_:=zM (hbox);have n4_:=zM ((by rw [hg];exact (zR zzh):w.heap.size ≤ gb120));have n5_:=zM ((by rw [hg];exact (zR zzh):w.heap.size ≤ gb120));have n6_:=zM ((by rw [hg];exact Nat.ne_of_lt (blk_lt (g:=gb118) (o := .cells #[.int .i64 a0_0,.int .i64 a0_1] 44 (0,0)) (zzi BK118)):gb118 ≠ gb120));have n7_:=zM ((by rw [hg];exact Nat.ne_of_gt (blk_lt (g:=gb118) (o := .cells #[.int .i64 a0_0,.int .i64 a0_1] 44 (0,0)) (zzi BK118)):gb120 ≠ gb118));have n8_:=zM ((by rw [hg];exact Nat.ne_of_lt (blk_lt (g:=gb119) (o := .cells #[.int .i64 0,.int .i64 0] 48 (0,0)) (zzi BK119)):gb119 ≠ gb120));have n9_:=zM ((by rw [hg];exact Nat.ne_of_gt (blk_lt (g:=gb119) (o := .cells #[.int .i64 0,.int .i64 0] 48 (0,0)) (zzi BK119)):gb120 ≠ gb119));clear BK118;clear BK119;clear HB;have BK118:=n0_;have BK119:=n1_;have HB:=n2_;have BK120:=n3_;have GW120:=n4_;have GE120:=n5_;have NB118_120:=n6_;have NB120_118:=n7_;have NB119_120:=n8_;have NB120_119:=n9_;clear n0_ n1_ n2_ n3_ n4_ n5_ n6_ n7_ n8_ n9_;clear hb hbox hg;have hnb5:=NB118_119.out;have hnc5:=NB119_118.out;have hnb6:=NB118_120.out;have hnc6:=NB120_118.out;have hcz7_0:=zz0 BK118;have hcz7_1:=zz1 BK118;have hfz7_0:=blk_frozen BK118.out 0;have hfz7_1:=blk_frozen BK118.out 1;have hnb8:=NB120_119.out;have hnc8:=NB119_120.out;have hcz9_0:=zz0 BK120;have hcz9_1:=zz1 BK120;have hfz9_0:=blk_frozen BK120.out 0;have hfz9_1:=blk_frozen BK120.out 1;have hcz10_0:=zz0 BK119;have hcz10_1:=zz1 BK119;have hfz10_0:=blk_frozen BK119.out 0;have hfz10_1:=blk_frozen BK119.out 1))
 refine bodyPost_ret (results_cell_row rfl _ _ gb119 48 #[.int .i64 a0_0,.int .i64 a0_1] (0,0) _ rfl (by (with_reducible repeat (first|refine zJ ?_ _|refine zK ?_|refine zL ?_ _));refine blk_put (cs := #[.int .i64 a0_0,.int .i64 0]) ?_ 1 _ rfl;(with_reducible repeat (first|refine zJ ?_ _|refine zK ?_|refine zL ?_ _));refine blk_put (cs := #[.int .i64 0,.int .i64 0]) ?_ 0 _ rfl;(with_reducible repeat (first|refine zJ ?_ _|refine zK ?_|refine zL ?_ _));refine blk_far ?_ NB119_120.out _;(with_reducible repeat (first|refine zJ ?_ _|refine zK ?_|refine zL ?_ _));refine blk_far ?_ NB119_120.out _;(with_reducible repeat (first|refine zJ ?_ _|refine zK ?_|refine zL ?_ _));exact BK119.out) Try.underlying48 rfl (by kernel_rfl)) rfl ?_
 exact ⟨by first|rfl|(simp [errW_none,errW_some] <;> rfl)|(simp [*,errW_none,errW_some] <;> rfl),zzh⟩

end Go.Proofs.Ytbpccdbkaiigcaa.G

/- What spec.ShortestPath answers. -/
namespace Go.Proofs.Ytbpccdbkaiigcaa.G
open Go.RowKit Go.Proofs.YtbpccdbkaiigcaaW.PrintWords Go.Proofs.YtbpccdbkaiigcaaW.PrintLast
set_option linter.unusedVariables false
set_option linter.unusedSimpArgs false
theorem safeP_len {w h : Int} {bl : List S48} {os : List (List S48)} {a b : S48} {p : List S48} (hp : safeP w h bl os a b = some p) : 1 ≤ p.length ∧ p.length ≤ 25:=by
 unfold safeP at hp
 by_cases hh : HitAt os a a 0
 ·rw [chk_pos hh] at hp;cases hp
 ·rw [chk_neg hh] at hp
  cases hf : firstN (EndS w h bl os a b) 25 0 with
  | none=>rw [hf] at hp;cases hp
  | some e =>
   rw [hf] at hp
   have h1 : trace (nxS w h bl os a b e) a e = some p:=hp
   have:=trace_len h1
   have:=(firstN_some hf).2.2
   omega
theorem safeR_len (w h : Int) (bl : List S48) (os : List (List S48)) (a b : S48) : (safeR w h bl os a b).1.length ≤ 25:=by
 cases hp : safeP w h bl os a b with
 | none=>rw [safeR_none hp];exact Nat.zero_le _
 | some p=>rw [safeR_some hp];exact (safeP_len hp).2
end Go.Proofs.Ytbpccdbkaiigcaa.G

-- Written by wip/tools/gen.py out of the translation (the kit's printer, one namespace a seat). Lean checks it.
namespace Go.Proofs.Ytbpccdbkaiigcaa.G
open Go.RowKit Go.Proofs.YtbpccdbkaiigcaaW.PrintWords Go.Proofs.YtbpccdbkaiigcaaW.PrintLast Go.Proofs.YtbpccdbkaiigcaaW.PrintMore
attribute [local go_sem] max2_int min2_int max_two min_two max_three min_three max_four min_four   -- for this text's walks alone
set_option linter.unusedVariables false
set_option linter.unusedSimpArgs false

/-! ### spec_SafePath: function 39 -/
mutual
noncomputable def spec_SafePath.j0:Nat → List (List (S48)) → Bool → Int → Int → List (S48) → Int → Int → Int → Int → Option ((List (S48)) × Bool)
 | 0,_,_,_,_,_,_,_,_,_=>none
 | k + 1,x1,x20,x590000,x590001,x590002,x591000,x591001,x592000,x592001=>if x20 = true then (some ((([]:List (S48))),false)) else (spec_SafePath.l0 k x1 0 x590000 x590001 x590002 x591000 x591001 x592000 x592001)
noncomputable def spec_SafePath.l0:Nat → List (List (S48)) → Int → Int → Int → List (S48) → Int → Int → Int → Int → Option ((List (S48)) × Bool)
 | 0,_,_,_,_,_,_,_,_,_=>none
 | k + 1,x1,x10,x590000,x590001,x590002,x591000,x591001,x592000,x592001=>if x10 < (x1.length:Int) then (if 0 ≤ x10 then ((spec_l16Path.f k x590000 x590001 x590002 (rd_L6 x1 x10)).bind fun t597=>(if t597 = true then (spec_SafePath.l0 k x1 (wrap64 (x10 + 1)) x590000 x590001 x590002 x591000 x591001 x592000 x592001) else (some ((([]:List (S48))),false)))) else (none)) else ((spec_l16Safe.f x590000 x590001 x590002 x1 x591000 x591001 x592000 x592001).bind fun bt601=>(some (bt601.1,bt601.2)))
end
noncomputable def spec_SafePath.f (k:Nat) (a0_0:Int) (a0_1:Int) (l0_2:List (S48)) (l1:List (List (S48))) (a2_0:Int) (a2_1:Int) (a3_0:Int) (a3_1:Int):Option ((List (S48)) × Bool):=(spec_l16Asked.f k a0_0 a0_1 l0_2 a2_0 a2_1 a3_0 a3_1).bind fun t592=>(if t592 = true then (spec_SafePath.j0 k l1 (decide ((l1.length:Int) > 3)) a0_0 a0_1 l0_2 a2_0 a2_1 a3_0 a3_1) else (spec_SafePath.j0 k l1 true a0_0 a0_1 l0_2 a2_0 a2_1 a3_0 a3_1))
set_option maxHeartbeats 8000000 in
set_option maxRecDepth 100000 in
theorem spec_SafePath.calls (k:Nat) (a0_0:Int) (a0_1:Int) (A0_2:Option Addr) (c0_2:Nat) (l0_2:List (S48)) (A1:Option Addr) (c1:Nat) (l1:List (List (S48))) (a2_0:Int) (a2_1:Int) (a3_0:Int) (a3_1:Int) (r1:List (S48)) (r2:Bool) (w:World) (hr0_2:Kd.C k48 w A0_2 l0_2.length l0_2) (hc0_2:l0_2.length ≤ c0_2) (hr1:Kd.C (Kd.slice 48 k48) w A1 l1.length l1) (hc1:l1.length ≤ c1) (h:spec_SafePath.f k a0_0 a0_1 l0_2 l1 a2_0 a2_1 a3_0 a3_1 = some (r1,r2)) :
  Calls Try.prog 39 #[.agg #[.int .i64 a0_0,.int .i64 a0_1,.slice A0_2 l0_2.length c0_2],.slice A1 l1.length c1,.agg #[.int .i64 a2_0,.int .i64 a2_1],.agg #[.int .i64 a3_0,.int .i64 a3_1]] w fun e w' => ∃ v0_:Value,e = .returned (.tuple #[v0_,.bool r2]) ∧ Kd.R k48 48 w' w.heap.size (fun _=>True) v0_ r1 ∧ Below w.heap.size w w':=by
 have hu29:=Try.underlying29;have hu48:=Try.underlying48;have HR0_2:=zM hr0_2;have HC0_2:=zM hc0_2;clear hr0_2 hc0_2;have HR1:=zM hr1;have HC1:=zM hc1;clear hr1 hc1;have HB:=zM (Below.refl w.heap.size w);have H:((spec_l16Asked.f k a0_0 a0_1 l0_2 a2_0 a2_1 a3_0 a3_1).bind fun t592=>(if t592 = true then (spec_SafePath.j0 k l1 (decide ((l1.length:Int) > 3)) a0_0 a0_1 l0_2 a2_0 a2_1 a3_0 a3_1) else (spec_SafePath.j0 k l1 true a0_0 a0_1 l0_2 a2_0 a2_1 a3_0 a3_1))) = some (r1,r2):=h
 clear h;have HC5:=zM H;clear H;go_enter Try.func39,Try.ntmps39
 go_upto_region 1 with (first|((with_reducible refine gate_dst (N:=4) rfl ?_);(try (refine gate_guard (by rfl) ?_;dsimp only));refine zzc 4 #[.int .i64 a0_0,.int .i64 a0_1,.slice A0_2 l0_2.length c0_2] 29 ?_;intro gb589 hg w6 hbox hb;have n0_:=zM (zQ zzh hb);have n1_:=zM (hbox);have n2_:=zM ((by rw [hg];exact (zR zzh):w.heap.size ≤ gb589));have n3_:=zM ((by rw [hg];exact (zR zzh):w.heap.size ≤ gb589));clear HB;have HB:=n0_;have BK589:=n1_;have GW589:=n2_;have GE589:=n3_;clear n0_ n1_ n2_ n3_;clear hb hbox hg)|((with_reducible refine gate_dst (N:=6) rfl ?_);(try (refine gate_guard (by rfl) ?_;dsimp only));refine zzc 6 #[.int .i64 a2_0,.int .i64 a2_1] 48 ?_;intro gb590 hg w7 hbox hb;have n0_:=zM (blk_below (g:=gb589) (o := .cells #[.int .i64 a0_0,.int .i64 a0_1,.slice A0_2 l0_2.length c0_2] 29 (0,0)) (zzi BK589) hb);have n1_:=zM (zQ zzh hb);have n2_:=zM (hbox);have n3_:=zM ((by rw [hg];exact (zR zzh):w.heap.size ≤ gb590));have n4_:=zM ((by rw [hg];exact (zR zzh):w.heap.size ≤ gb590));have n5_:=zM ((by rw [hg];exact Nat.ne_of_lt (blk_lt (g:=gb589) (o := .cells #[.int .i64 a0_0,.int .i64 a0_1,.slice A0_2 l0_2.length c0_2] 29 (0,0)) (zzi BK589)):gb589 ≠ gb590));have n6_:=zM ((by rw [hg];exact Nat.ne_of_gt (blk_lt (g:=gb589) (o := .cells #[.int .i64 a0_0,.int .i64 a0_1,.slice A0_2 l0_2.length c0_2] 29 (0,0)) (zzi BK589)):gb590 ≠ gb589));clear BK589;clear HB;have BK589:=n0_;have HB:=n1_;have BK590:=n2_;have GW590:=n3_;have GE590:=n4_;have NB589_590:=n5_;have NB590_589:=n6_;clear n0_ n1_ n2_ n3_ n4_ n5_ n6_;clear hb hbox hg)|((with_reducible refine gate_dst (N:=7) rfl ?_);(try (refine gate_guard (by rfl) ?_;dsimp only));refine zzc 7 #[.int .i64 a3_0,.int .i64 a3_1] 48 ?_;intro gb591 hg w8 hbox hb;have n0_:=zM (blk_below (g:=gb589) (o := .cells #[.int .i64 a0_0,.int .i64 a0_1,.slice A0_2 l0_2.length c0_2] 29 (0,0)) (zzi BK589) hb);have n1_:=zM (blk_below (g:=gb590) (o := .cells #[.int .i64 a2_0,.int .i64 a2_1] 48 (0,0)) (zzi BK590) hb);have n2_:=zM (zQ zzh hb);have n3_:=zM (hbox);have n4_:=zM ((by rw [hg];exact (zR zzh):w.heap.size ≤ gb591));have n5_:=zM ((by rw [hg];exact (zR zzh):w.heap.size ≤ gb591));have n6_:=zM ((by rw [hg];exact Nat.ne_of_lt (blk_lt (g:=gb589) (o := .cells #[.int .i64 a0_0,.int .i64 a0_1,.slice A0_2 l0_2.length c0_2] 29 (0,0)) (zzi BK589)):gb589 ≠ gb591));have n7_:=zM ((by rw [hg];exact Nat.ne_of_gt (blk_lt (g:=gb589) (o := .cells #[.int .i64 a0_0,.int .i64 a0_1,.slice A0_2 l0_2.length c0_2] 29 (0,0)) (zzi BK589)):gb591 ≠ gb589));have n8_:=zM ((by rw [hg];exact Nat.ne_of_lt (blk_lt (g:=gb590) (o := .cells #[.int .i64 a2_0,.int .i64 a2_1] 48 (0,0)) (zzi BK590)):gb590 ≠ gb591));have n9_:=zM ((by rw [hg];exact Nat.ne_of_gt (blk_lt (g:=gb590) (o := .cells #[.int .i64 a2_0,.int .i64 a2_1] 48 (0,0)) (zzi BK590)):gb591 ≠ gb590));clear BK589;clear BK590;clear HB;have BK589:=n0_;have BK590:=n1_;have HB:=n2_;have BK591:=n3_;have GW591:=n4_;have GE591:=n5_;have NB589_591:=n6_;have NB591_589:=n7_;have NB590_591:=n8_;have NB591_590:=n9_;clear n0_ n1_ n2_ n3_ n4_ n5_ n6_ n7_ n8_ n9_;clear hb hbox hg))
 (try simp only [Act.put,zT,zU,zV])
 go_cut [20] (fun v20 wc => ∃ (kq:Nat) (x20_4:Bool),v20 = .bool x20_4 ∧ Aside0 (spec_SafePath.j0 kq l1 x20_4 a0_0 a0_1 l0_2 a2_0 a2_1 a3_0 a3_1 = some (r1,r2)) ∧ Aside0 (kq ≤ k) ∧ Aside0 (wc.heap[gb589]? = some (.cells #[.int .i64 a0_0,.int .i64 a0_1,(.slice A0_2 l0_2.length c0_2)] 29 (0,0))) ∧ Aside0 (wc.heap[gb590]? = some (.cells #[.int .i64 a2_0,.int .i64 a2_1] 48 (0,0))) ∧ Aside0 (wc.heap[gb591]? = some (.cells #[.int .i64 a3_0,.int .i64 a3_1] 48 (0,0))) ∧ Aside0 (Below w.heap.size w wc))
 case first =>
  have H:=HC5.out;clear HC5;replace H:=Option.bind_eq_some_iff.mp H;obtain ⟨t592,A90,H⟩:=H;replace H:(if t592 = true then (spec_SafePath.j0 k l1 (decide ((l1.length:Int) > 3)) a0_0 a0_1 l0_2 a2_0 a2_1 a3_0 a3_1) else (spec_SafePath.j0 k l1 true a0_0 a0_1 l0_2 a2_0 a2_1 a3_0 a3_1)) = some (r1,r2):=H
  have A9:=zM A90;clear A90;by_cases c10:t592 = true
  ·subst c10
   have H1:(spec_SafePath.j0 k l1 (decide ((l1.length:Int) > 3)) a0_0 a0_1 l0_2 a2_0 a2_1 a3_0 a3_1) = some (r1,r2):=by rw [if_pos rfl] at H;exact H
   clear H;have H:=H1;clear H1;have H':=zM H;clear H;have hnb11:=NB589_590.out;have hnc11:=NB590_589.out;have hnb12:=NB589_591.out;have hnc12:=NB591_589.out;have hcz13_0:=zz0 BK589
   have hcz13_1:=zz1 BK589
   have hcz13_2:=zz2 BK589
   have hfz13_0:=blk_frozen BK589.out 0;have hfz13_1:=blk_frozen BK589.out 1;have hfz13_2:=blk_frozen BK589.out 2;have hnb14:=NB590_591.out;have hnc14:=NB591_590.out;have hcz15_0:=zz0 BK590
   have hcz15_1:=zz1 BK590
   have hfz15_0:=blk_frozen BK590.out 0;have hfz15_1:=blk_frozen BK590.out 1;have hcz16_0:=zz0 BK591
   have hcz16_1:=zz1 BK591
   have hfz16_0:=blk_frozen BK591.out 0;have hfz16_1:=blk_frozen BK591.out 1;go_wp2_with (first|((with_reducible refine gate_callee (f:=63) rfl ?_);refine goesL_ (some 14) rfl rfl Try.func63 (by kernel_rfl) rfl #[.agg #[.int .i64 a0_0,.int .i64 a0_1,.slice A0_2 l0_2.length c0_2],.agg #[.int .i64 a2_0,.int .i64 a2_1],.agg #[.int .i64 a3_0,.int .i64 a3_1]] rfl (by (try simp only [List.map_toArray,List.map_cons,List.map_nil]);first|done|rfl|(simp only [List.length_drop,List.length_take];rfl)) ?_;(with_reducible refine (spec_l16Asked.calls k a0_0 a0_1 _ _ l0_2 a2_0 a2_1 a3_0 a3_1 true _ ?side1 ?side2 A9.out).mono ?_);(case side1=>repeat (first|exact (zO HR0_2.out HB.out)|(with_reducible first|refine zG ?_ _|refine zH ?_ _|refine zI ?_)));(case side2=>exact HC0_2.out);rintro e w17 ⟨rfl,hb⟩;refine ⟨_,rfl,?_⟩;have n0_:=zM (blk_below (g:=gb589) (o := .cells #[.int .i64 a0_0,.int .i64 a0_1,.slice A0_2 l0_2.length c0_2] 29 (0,0)) (zzi BK589) hb);have n1_:=zM (blk_below (g:=gb590) (o := .cells #[.int .i64 a2_0,.int .i64 a2_1] 48 (0,0)) (zzi BK590) hb);have n2_:=zM (blk_below (g:=gb591) (o := .cells #[.int .i64 a3_0,.int .i64 a3_1] 48 (0,0)) (zzi BK591) hb);have n3_:=zM (zQ zzh hb);clear BK589;clear BK590;clear BK591;clear HB;have BK589:=n0_;have BK590:=n1_;have BK591:=n2_;have HB:=n3_;clear n0_ n1_ n2_ n3_;(try clear hb);(try clear hb2);(try clear hk);(try clear hi)))
   go_meet
   case rel=>exact ⟨_,(decide ((l1.length:Int) > 3)),(by first|rfl|(simp;done)|(simp [*];done)),H',⟨by first|omega|exact Nat.le_refl _⟩,⟨zzi BK589⟩,⟨zzi BK590⟩,⟨zzi BK591⟩,⟨zzh⟩⟩
  ·replace c10:=Bool.eq_false_iff.mpr c10
   subst c10;have H1:(spec_SafePath.j0 k l1 true a0_0 a0_1 l0_2 a2_0 a2_1 a3_0 a3_1) = some (r1,r2):=by rw [if_neg (show ¬ (false = true) by decide)] at H;exact H
   clear H;have H:=H1;clear H1;have H':=zM H;clear H;have hnb18:=NB589_590.out;have hnc18:=NB590_589.out;have hnb19:=NB589_591.out;have hnc19:=NB591_589.out;have hcz20_0:=zz0 BK589
   have hcz20_1:=zz1 BK589
   have hcz20_2:=zz2 BK589
   have hfz20_0:=blk_frozen BK589.out 0;have hfz20_1:=blk_frozen BK589.out 1;have hfz20_2:=blk_frozen BK589.out 2;have hnb21:=NB590_591.out;have hnc21:=NB591_590.out;have hcz22_0:=zz0 BK590
   have hcz22_1:=zz1 BK590
   have hfz22_0:=blk_frozen BK590.out 0;have hfz22_1:=blk_frozen BK590.out 1;have hcz23_0:=zz0 BK591
   have hcz23_1:=zz1 BK591
   have hfz23_0:=blk_frozen BK591.out 0;have hfz23_1:=blk_frozen BK591.out 1;go_wp2_with (first|((with_reducible refine gate_callee (f:=63) rfl ?_);refine goesL_ (some 14) rfl rfl Try.func63 (by kernel_rfl) rfl #[.agg #[.int .i64 a0_0,.int .i64 a0_1,.slice A0_2 l0_2.length c0_2],.agg #[.int .i64 a2_0,.int .i64 a2_1],.agg #[.int .i64 a3_0,.int .i64 a3_1]] rfl (by (try simp only [List.map_toArray,List.map_cons,List.map_nil]);first|done|rfl|(simp only [List.length_drop,List.length_take];rfl)) ?_;(with_reducible refine (spec_l16Asked.calls k a0_0 a0_1 _ _ l0_2 a2_0 a2_1 a3_0 a3_1 false _ ?side1 ?side2 A9.out).mono ?_);(case side1=>repeat (first|exact (zO HR0_2.out HB.out)|(with_reducible first|refine zG ?_ _|refine zH ?_ _|refine zI ?_)));(case side2=>exact HC0_2.out);rintro e w24 ⟨rfl,hb⟩;refine ⟨_,rfl,?_⟩;have n0_:=zM (blk_below (g:=gb589) (o := .cells #[.int .i64 a0_0,.int .i64 a0_1,.slice A0_2 l0_2.length c0_2] 29 (0,0)) (zzi BK589) hb);have n1_:=zM (blk_below (g:=gb590) (o := .cells #[.int .i64 a2_0,.int .i64 a2_1] 48 (0,0)) (zzi BK590) hb);have n2_:=zM (blk_below (g:=gb591) (o := .cells #[.int .i64 a3_0,.int .i64 a3_1] 48 (0,0)) (zzi BK591) hb);have n3_:=zM (zQ zzh hb);clear BK589;clear BK590;clear BK591;clear HB;have BK589:=n0_;have BK590:=n1_;have BK591:=n2_;have HB:=n3_;clear n0_ n1_ n2_ n3_;(try clear hb);(try clear hb2);(try clear hk);(try clear hi)))
   go_meet
   case rel=>exact ⟨_,(true),(by first|rfl|(simp;done)|(simp [*];done)),H',⟨by first|omega|exact Nat.le_refl _⟩,⟨zzi BK589⟩,⟨zzi BK590⟩,⟨zzi BK591⟩,⟨zzh⟩⟩
 case rest =>
  clear HC5;(try clear c1);(try clear c2);(try clear p2);(try clear c3);(try clear c6);(try clear c10);(try clear c11);(try clear c12);(try clear c14);(try clear c18);(try clear c19);(try clear c21);(try clear hcz13_0);(try clear hcz13_1);(try clear hcz13_2);(try clear hcz15_0);(try clear hcz15_1);(try clear hcz16_0);(try clear hcz16_1);(try clear hcz20_0);(try clear hcz20_1);(try clear hcz20_2);(try clear hcz22_0);(try clear hcz22_1);(try clear hcz23_0);(try clear hcz23_1);(try clear hfz13_0);(try clear hfz13_1);(try clear hfz13_2);(try clear hfz15_0);(try clear hfz15_1);(try clear hfz16_0);(try clear hfz16_1);(try clear hfz20_0);(try clear hfz20_1);(try clear hfz20_2);(try clear hfz22_0);(try clear hfz22_1);(try clear hfz23_0);(try clear hfz23_1);obtain ⟨kq,x20_4,rfl,HA,HJ4,BK589,BK590,BK591,HB⟩:=hcut;cases kq with
  | zero=>exact absurd HA.out (by simp [spec_SafePath.j0])
  | succ kj4 =>
   have H:=HA.out;clear HA;simp only [spec_SafePath.j0] at H
   by_cases c25:x20_4 = true
   ·subst c25
    have H1:(some ((([]:List (S48))),false)) = some (r1,r2):=by rw [if_pos rfl] at H;exact H
    clear H;have H:=H1;clear H1;obtain ⟨y593,hy593⟩ : ∃ y_:List (S48),y_ = (([]:List (S48))):=⟨_,rfl⟩
    replace H:(some (y593,false)) = some (r1,r2):=by first|(rw [hy593];with_reducible exact H)|(have H2_:=(Option.bind_some _ _).symm.trans H;rw [hy593];with_reducible exact H2_)|(have H2_:=(Option.bind_some _ _).symm.trans H;with_reducible exact H2_)|with_reducible exact H|(rw [hy593];exact H)|exact H
    have Ny593:=zM hy593;clear hy593;simp only [Option.some.injEq,Prod.mk.injEq] at H
    obtain ⟨rfl,rfl⟩:=H;go_wp2_with (first|((with_reducible refine gate_dst (N:=21) rfl ?_);(try (refine gate_guard (by rfl) ?_;dsimp only));refine Kd.R_lit k48 _ 48 ?hg (N:=21) ?hd (xs:=([]:List (S48))) (inner:=[]) (ok:=fun _=>True) (okp:=fun _=>True) ?hr ?hp (fun _ hk=>hk) trivial (Below.refl _ _) (Nat.le_refl _) (by simp) ?_;(case hd=>rfl);(case hg=>rfl);(case hr=>first|(go_simp;done)|(go_simp;rfl));(case hp=>exact (Reps.none _ _));intro v594 w26 ho27 hb hg_ hnew_;clear hg_ hnew_;(first|rw [← Ny593.out] at ho27|(simp only [Int.reduceToNat] at ho27;rw [← Ny593.out] at ho27));have n0_:=zM (Kd.R_lower (Kd.R_newB (Kd.R_newB ho27 (g:=gb590) (o := .cells #[.int .i64 a2_0,.int .i64 a2_1] 48 (0,0)) (zzi BK590)) (g:=gb591) (o := .cells #[.int .i64 a3_0,.int .i64 a3_1] 48 (0,0)) (zzi BK591)) (zR zzh));have n1_:=zM (blk_below (g:=gb589) (o := .cells #[.int .i64 a0_0,.int .i64 a0_1,.slice A0_2 l0_2.length c0_2] 29 (0,0)) (zzi BK589) hb);have n2_:=zM (blk_below (g:=gb590) (o := .cells #[.int .i64 a2_0,.int .i64 a2_1] 48 (0,0)) (zzi BK590) hb);have n3_:=zM (blk_below (g:=gb591) (o := .cells #[.int .i64 a3_0,.int .i64 a3_1] 48 (0,0)) (zzi BK591) hb);have n4_:=zM (zQ zzh hb);clear BK589;clear BK590;clear BK591;clear HB;have HO595:=n0_;have BK589:=n1_;have BK590:=n2_;have BK591:=n3_;have HB:=n4_;clear n0_ n1_ n2_ n3_ n4_;clear hb ho27))
    go_ret2
    exact ⟨_,by first|rfl|(simp [errW_none,errW_some] <;> rfl)|(simp [*,errW_none,errW_some] <;> rfl),by (with_reducible repeat (first|apply zA|apply zB|apply zC));exact Kd.R_mono HO595.out (fun _ hk=>trivial),zzh⟩
   ·replace c25:=Bool.eq_false_iff.mpr c25
    subst c25;have H1:(spec_SafePath.l0 kj4 l1 0 a0_0 a0_1 l0_2 a2_0 a2_1 a3_0 a3_1) = some (r1,r2):=by rw [if_neg (show ¬ (false = true) by decide)] at H;exact H
    clear H;have H:=H1;clear H1;have H':=zM H;clear H;go_wp2
    go_loopg [10] kj4 (fun kq v10 w' => ∃ (x10_2:Int),v10 = .int .i64 x10_2 ∧ Aside0 (spec_SafePath.l0 kq l1 x10_2 a0_0 a0_1 l0_2 a2_0 a2_1 a3_0 a3_1 = some (r1,r2)) ∧ Aside0 (kq ≤ kj4) ∧ Aside0 (w'.heap[gb589]? = some (.cells #[.int .i64 a0_0,.int .i64 a0_1,(.slice A0_2 l0_2.length c0_2)] 29 (0,0))) ∧ Aside0 (w'.heap[gb590]? = some (.cells #[.int .i64 a2_0,.int .i64 a2_1] 48 (0,0))) ∧ Aside0 (w'.heap[gb591]? = some (.cells #[.int .i64 a3_0,.int .i64 a3_1] 48 (0,0))) ∧ Aside0 (Below w.heap.size w w'))
    case atStart=>exact ⟨(0),(by first|rfl|(simp;done)|(simp [*];done)),H',⟨Nat.le_refl _⟩,⟨zzi BK589⟩,⟨zzi BK590⟩,⟨zzi BK591⟩,⟨zzh⟩⟩
    case round =>
     clear H';(try clear c1);(try clear c2);(try clear p2);(try clear c3);(try clear c6);(try clear c10);(try clear c11);(try clear c12);(try clear c14);(try clear c18);(try clear c19);(try clear c21);(try clear c25);(try clear hcz13_0);(try clear hcz13_1);(try clear hcz13_2);(try clear hcz15_0);(try clear hcz15_1);(try clear hcz16_0);(try clear hcz16_1);(try clear hcz20_0);(try clear hcz20_1);(try clear hcz20_2);(try clear hcz22_0);(try clear hcz22_1);(try clear hcz23_0);(try clear hcz23_1);(try clear hfz13_0);(try clear hfz13_1);(try clear hfz13_2);(try clear hfz15_0);(try clear hfz15_1);(try clear hfz16_0);(try clear hfz16_1);(try clear hfz20_0);(try clear hfz20_1);(try clear hfz20_2);(try clear hfz22_0);(try clear hfz22_1);(try clear hfz23_0);(try clear hfz23_1);(try clear p2);obtain ⟨x10_2,rfl,HA,HK2,BK589,BK590,BK591,HB⟩:=hrel;cases gk with
     | zero=>exact absurd HA.out (by simp [spec_SafePath.l0])
     | succ k2 =>
      have H:=HA.out;clear HA;simp only [spec_SafePath.l0] at H
      by_cases c28:x10_2 < (l1.length:Int)
      ·rw [if_pos c28] at H
       have c28b0:decide (x10_2 < (l1.length:Int)) = true:=decide_eq_true c28
       clear c28;by_cases c29:0 ≤ x10_2
       ·rw [if_pos c29] at H
        have c29b0:decide (0 ≤ x10_2) = true:=decide_eq_true c29
        clear c29;replace H:=Option.bind_eq_some_iff.mp H;obtain ⟨t597,A300,H⟩:=H;replace H:(if t597 = true then (spec_SafePath.l0 k2 l1 (wrap64 (x10_2 + 1)) a0_0 a0_1 l0_2 a2_0 a2_1 a3_0 a3_1) else (some ((([]:List (S48))),false))) = some (r1,r2):=H
        have A30:=zM A300;clear A300;by_cases c31:t597 = true
        ·subst c31
         have H1:(spec_SafePath.l0 k2 l1 (wrap64 (x10_2 + 1)) a0_0 a0_1 l0_2 a2_0 a2_1 a3_0 a3_1) = some (r1,r2):=by rw [if_pos rfl] at H;exact H
         clear H;have H:=H1;clear H1;have H':=zM H;clear H;try go_wp2
         have n0_:=zM (zK BK589.out);have n1_:=zM (zK BK590.out);have n2_:=zM (zK BK591.out);have n3_:=zM (zF HB.out);clear BK589;clear BK590;clear BK591;clear HB;have BK589:=n0_;have BK590:=n1_;have BK591:=n2_;have HB:=n3_;clear n0_ n1_ n2_ n3_;have p596:0 ≤ (x10_2:Int):=zzd
         have q596:x10_2 < (l1.length:Int):=zzd
         obtain ⟨ad596,A596_0,c596_0,e596,hx596_0,hl596_0,hi596_0⟩:=at_L6 HR1.out x10_2 p596 q596;have hw596_0:=hx596_0;cases e596
         replace hx596_0:=zS HB.out hx596_0;have HR596_0:=zM hi596_0;have HC596_0:=zM hl596_0;clear hi596_0 hl596_0;replace p596:=eq_true p596;replace q596:=eq_true q596;refine start_ (n:=7) (S:=fun w'=>w'.cell? ⟨gb589,0,none⟩ = some (.int .i64 a0_0) ∧ w'.cell? ⟨gb589,1,none⟩ = some (.int .i64 a0_1) ∧ w'.cell? ⟨gb589,2,none⟩ = some (.slice A0_2 l0_2.length c0_2) ∧ w'.cell? (ad596.add (x10_2).toNat) = some (.slice A596_0 (rd_L6 l1 x10_2).length c596_0)) (ds:=[]) #[false,false,false,false,false,false,false] (by kernel_rfl) rfl rfl ⟨zz0 BK589,zz1 BK589,zz2 BK589,(zS HB.out hw596_0 :)⟩ (fun hHeld=>?_)
         generalize wr.drew = w32 at BK589 BK590 BK591 HB HR596_0 hx596_0 hHeld ⊢
         refine zzp 1 29 (zzb 7 2) ?_;refine zzp 2 30 (zzb 7 6) ?_;refine zzp 3 31 (zzb 7 14) ?_
         refine zzt 0 28 (zzb 7 15) hHeld ?_ (hy:=by rintro w' ⟨s0,s1,s2,s3⟩;go_simp;with_reducible rfl)
         refine zzt 4 32 (zzb 7 31) hHeld ?_ (hy:=by rintro w' ⟨s0,s1,s2,s3⟩;go_simp;with_reducible rfl)
         refine zzo 5 33 (zzb 7 63) (fun K hK=>?_)
         refine zzf Try.func57 #[.agg #[.int .i64 a0_0,.int .i64 a0_1,.slice A0_2 l0_2.length c0_2],.slice A596_0 (rd_L6 l1 x10_2).length c596_0] ?_
         with_reducible refine (spec_l16Path.calls k2 a0_0 a0_1 _ _ l0_2 _ _ (rd_L6 l1 x10_2) true _ ?side1 ?side2 ?side3 ?side4 A30.out).mono ?_
         (case side1=>repeat (first|exact (zO HR0_2.out HB.out)|(with_reducible first|refine zG ?_ _|refine zH ?_ _|refine zI ?_)))
         (case side2=>exact HC0_2.out)
         (case side3=>repeat (first|exact (zO HR596_0.out HB.out)|(with_reducible first|refine zG ?_ _|refine zH ?_ _|refine zI ?_)))
         (case side4=>exact HC596_0.out)
         rintro e w33 ⟨rfl,hb⟩
         refine ⟨_,rfl,?_⟩
         have n0_:=zM (blk_below (g:=gb589) (o := .cells #[.int .i64 a0_0,.int .i64 a0_1,.slice A0_2 l0_2.length c0_2] 29 (0,0)) (zzi BK589) hb)
         have n1_:=zM (blk_below (g:=gb590) (o := .cells #[.int .i64 a2_0,.int .i64 a2_1] 48 (0,0)) (zzi BK590) hb)
         have n2_:=zM (blk_below (g:=gb591) (o := .cells #[.int .i64 a3_0,.int .i64 a3_1] 48 (0,0)) (zzi BK591) hb)
         have n3_:=zM (zQ zzh hb)
         clear BK589;clear BK590;clear BK591;clear HB;have BK589:=n0_;have BK590:=n1_;have BK591:=n2_;have HB:=n3_;clear n0_ n1_ n2_ n3_;(try clear hb)
         (try clear hb2)
         (try clear hk)
         (try clear hi)
         refine hK.out _ _ ⟨zz0 BK589,zz1 BK589,zz2 BK589,(zS HB.out hw596_0 :)⟩ (fun hHeld=>?_)
         clear hK K;refine zzn 33 ?_;refine zzp 6 34 (zzb 7 127) ?_
         refine done_ (by kernel_rfl) ?_
         try go_wp2
         go_roundg k2
         case measure=>have:=HJ4.out;have:=HK2.out;omega
         case rel=>exact ⟨(wrap64 (x10_2 + 1)),(by first|rfl|(simp;done)|(simp [*];done)),H',⟨by have:=HJ4.out;have:=HK2.out;omega⟩,⟨zzi BK589⟩,⟨zzi BK590⟩,⟨zzi BK591⟩,⟨zzh⟩⟩
        ·replace c31:=Bool.eq_false_iff.mpr c31
         subst c31;have H1:(some ((([]:List (S48))),false)) = some (r1,r2):=by rw [if_neg (show ¬ (false = true) by decide)] at H;exact H
         clear H;have H:=H1;clear H1;obtain ⟨y598,hy598⟩ : ∃ y_:List (S48),y_ = (([]:List (S48))):=⟨_,rfl⟩
         replace H:(some (y598,false)) = some (r1,r2):=by first|(rw [hy598];with_reducible exact H)|(have H2_:=(Option.bind_some _ _).symm.trans H;rw [hy598];with_reducible exact H2_)|(have H2_:=(Option.bind_some _ _).symm.trans H;with_reducible exact H2_)|with_reducible exact H|(rw [hy598];exact H)|exact H
         have Ny598:=zM hy598;clear hy598;simp only [Option.some.injEq,Prod.mk.injEq] at H
         obtain ⟨rfl,rfl⟩:=H;try go_wp2
         have n0_:=zM (zK BK589.out);have n1_:=zM (zK BK590.out);have n2_:=zM (zK BK591.out);have n3_:=zM (zF HB.out);clear BK589;clear BK590;clear BK591;clear HB;have BK589:=n0_;have BK590:=n1_;have BK591:=n2_;have HB:=n3_;clear n0_ n1_ n2_ n3_;have p596:0 ≤ (x10_2:Int):=zzd
         have q596:x10_2 < (l1.length:Int):=zzd
         obtain ⟨ad596,A596_0,c596_0,e596,hx596_0,hl596_0,hi596_0⟩:=at_L6 HR1.out x10_2 p596 q596;have hw596_0:=hx596_0;cases e596
         replace hx596_0:=zS HB.out hx596_0;have HR596_0:=zM hi596_0;have HC596_0:=zM hl596_0;clear hi596_0 hl596_0;replace p596:=eq_true p596;replace q596:=eq_true q596;refine start_ (n:=7) (S:=fun w'=>w'.cell? ⟨gb589,0,none⟩ = some (.int .i64 a0_0) ∧ w'.cell? ⟨gb589,1,none⟩ = some (.int .i64 a0_1) ∧ w'.cell? ⟨gb589,2,none⟩ = some (.slice A0_2 l0_2.length c0_2) ∧ w'.cell? (ad596.add (x10_2).toNat) = some (.slice A596_0 (rd_L6 l1 x10_2).length c596_0)) (ds:=[]) #[false,false,false,false,false,false,false] (by kernel_rfl) rfl rfl ⟨zz0 BK589,zz1 BK589,zz2 BK589,(zS HB.out hw596_0 :)⟩ (fun hHeld=>?_)
         generalize wr.drew = w34 at BK589 BK590 BK591 HB HR596_0 hx596_0 hHeld ⊢
         refine zzp 1 29 (zzb 7 2) ?_;refine zzp 2 30 (zzb 7 6) ?_;refine zzp 3 31 (zzb 7 14) ?_
         refine zzt 0 28 (zzb 7 15) hHeld ?_ (hy:=by rintro w' ⟨s0,s1,s2,s3⟩;go_simp;with_reducible rfl)
         refine zzt 4 32 (zzb 7 31) hHeld ?_ (hy:=by rintro w' ⟨s0,s1,s2,s3⟩;go_simp;with_reducible rfl)
         refine zzo 5 33 (zzb 7 63) (fun K hK=>?_)
         refine zzf Try.func57 #[.agg #[.int .i64 a0_0,.int .i64 a0_1,.slice A0_2 l0_2.length c0_2],.slice A596_0 (rd_L6 l1 x10_2).length c596_0] ?_
         with_reducible refine (spec_l16Path.calls k2 a0_0 a0_1 _ _ l0_2 _ _ (rd_L6 l1 x10_2) false _ ?side1 ?side2 ?side3 ?side4 A30.out).mono ?_
         (case side1=>repeat (first|exact (zO HR0_2.out HB.out)|(with_reducible first|refine zG ?_ _|refine zH ?_ _|refine zI ?_)))
         (case side2=>exact HC0_2.out)
         (case side3=>repeat (first|exact (zO HR596_0.out HB.out)|(with_reducible first|refine zG ?_ _|refine zH ?_ _|refine zI ?_)))
         (case side4=>exact HC596_0.out)
         rintro e w35 ⟨rfl,hb⟩
         refine ⟨_,rfl,?_⟩
         have n0_:=zM (blk_below (g:=gb589) (o := .cells #[.int .i64 a0_0,.int .i64 a0_1,.slice A0_2 l0_2.length c0_2] 29 (0,0)) (zzi BK589) hb)
         have n1_:=zM (blk_below (g:=gb590) (o := .cells #[.int .i64 a2_0,.int .i64 a2_1] 48 (0,0)) (zzi BK590) hb)
         have n2_:=zM (blk_below (g:=gb591) (o := .cells #[.int .i64 a3_0,.int .i64 a3_1] 48 (0,0)) (zzi BK591) hb)
         have n3_:=zM (zQ zzh hb)
         clear BK589;clear BK590;clear BK591;clear HB;have BK589:=n0_;have BK590:=n1_;have BK591:=n2_;have HB:=n3_;clear n0_ n1_ n2_ n3_;(try clear hb)
         (try clear hb2)
         (try clear hk)
         (try clear hi)
         refine hK.out _ _ ⟨zz0 BK589,zz1 BK589,zz2 BK589,(zS HB.out hw596_0 :)⟩ (fun hHeld=>?_)
         clear hK K;refine zzn 33 ?_;refine zzp 6 34 (zzb 7 127) ?_
         refine done_ (by kernel_rfl) ?_
         try go_wp2_with (first|((with_reducible refine gate_dst (N:=35) rfl ?_);(try (refine gate_guard (by rfl) ?_;dsimp only));refine Kd.R_lit k48 _ 48 ?hg (N:=35) ?hd (xs:=([]:List (S48))) (inner:=[]) (ok:=fun _=>True) (okp:=fun _=>True) ?hr ?hp (fun _ hk=>hk) trivial (Below.refl _ _) (Nat.le_refl _) (by simp) ?_;(case hd=>rfl);(case hg=>rfl);(case hr=>first|(go_simp;done)|(go_simp;rfl));(case hp=>exact (Reps.none _ _));intro v599 w36 ho37 hb hg_ hnew_;clear hg_ hnew_;(first|rw [← Ny598.out] at ho37|(simp only [Int.reduceToNat] at ho37;rw [← Ny598.out] at ho37));have n0_:=zM (Kd.R_lower (Kd.R_newB (Kd.R_newB ho37 (g:=gb590) (o := .cells #[.int .i64 a2_0,.int .i64 a2_1] 48 (0,0)) (zzi BK590)) (g:=gb591) (o := .cells #[.int .i64 a3_0,.int .i64 a3_1] 48 (0,0)) (zzi BK591)) (zR zzh));have n1_:=zM (blk_below (g:=gb589) (o := .cells #[.int .i64 a0_0,.int .i64 a0_1,.slice A0_2 l0_2.length c0_2] 29 (0,0)) (zzi BK589) hb);have n2_:=zM (blk_below (g:=gb590) (o := .cells #[.int .i64 a2_0,.int .i64 a2_1] 48 (0,0)) (zzi BK590) hb);have n3_:=zM (blk_below (g:=gb591) (o := .cells #[.int .i64 a3_0,.int .i64 a3_1] 48 (0,0)) (zzi BK591) hb);have n4_:=zM (zQ zzh hb);clear BK589;clear BK590;clear BK591;clear HB;have HO600:=n0_;have BK589:=n1_;have BK590:=n2_;have BK591:=n3_;have HB:=n4_;clear n0_ n1_ n2_ n3_ n4_;clear hb ho37))
         go_ret2
         exact ⟨_,by first|rfl|(simp [errW_none,errW_some] <;> rfl)|(simp [*,errW_none,errW_some] <;> rfl),by (with_reducible repeat (first|apply zA|apply zB|apply zC));exact Kd.R_mono HO600.out (fun _ hk=>trivial),zzh⟩
       ·rw [if_neg c29] at H
        exact absurd H (by simp)
      ·rw [if_neg c28] at H
       have c28b0:decide (x10_2 < (l1.length:Int)) = false:=decide_eq_false c28
       clear c28;replace H:=Option.bind_eq_some_iff.mp H;obtain ⟨⟨t601,t604⟩,A380,H⟩:=H;replace H:(some (t601,t604)) = some (r1,r2):=H
       have A38:=zM A380;clear A380;simp only [Option.some.injEq,Prod.mk.injEq] at H
       obtain ⟨rfl,rfl⟩:=H;have hnb39:=NB589_590.out;have hnc39:=NB590_589.out;have hnb40:=NB589_591.out;have hnc40:=NB591_589.out;have hcz41_0:=zz0 BK589
       have hcz41_1:=zz1 BK589
       have hcz41_2:=zz2 BK589
       have hfz41_0:=blk_frozen BK589.out 0;have hfz41_1:=blk_frozen BK589.out 1;have hfz41_2:=blk_frozen BK589.out 2;have hnb42:=NB590_591.out;have hnc42:=NB591_590.out;have hcz43_0:=zz0 BK590
       have hcz43_1:=zz1 BK590
       have hfz43_0:=blk_frozen BK590.out 0;have hfz43_1:=blk_frozen BK590.out 1;have hcz44_0:=zz0 BK591
       have hcz44_1:=zz1 BK591
       have hfz44_0:=blk_frozen BK591.out 0;have hfz44_1:=blk_frozen BK591.out 1;go_wp2_with (first|((with_reducible refine gate_callee (f:=69) rfl ?_);refine goesL_ (some 40) rfl rfl Try.func69 (by kernel_rfl) rfl #[.agg #[.int .i64 a0_0,.int .i64 a0_1,.slice A0_2 l0_2.length c0_2],.slice A1 l1.length c1,.agg #[.int .i64 a2_0,.int .i64 a2_1],.agg #[.int .i64 a3_0,.int .i64 a3_1]] rfl (by (try simp only [List.map_toArray,List.map_cons,List.map_nil]);first|done|rfl|(simp only [List.length_drop,List.length_take];rfl)) ?_;(with_reducible refine (spec_l16Safe.calls a0_0 a0_1 _ _ l0_2 _ _ l1 a2_0 a2_1 a3_0 a3_1 t601 t604 _ ?side1 ?side2 ?side3 ?side4 A38.out).mono ?_);(case side1=>repeat (first|exact (zO HR0_2.out HB.out)|(with_reducible first|refine zG ?_ _|refine zH ?_ _|refine zI ?_)));(case side2=>exact HC0_2.out);(case side3=>repeat (first|exact (zO HR1.out HB.out)|(with_reducible first|refine zG ?_ _|refine zH ?_ _|refine zI ?_)));(case side4=>exact HC1.out);rintro e w45 ⟨v602,rfl,ho0,hb⟩;refine ⟨_,rfl,?_⟩;have n0_:=zM (Kd.R_lower (Kd.R_newB (Kd.R_newB ho0 (g:=gb590) (o := .cells #[.int .i64 a2_0,.int .i64 a2_1] 48 (0,0)) (zzi BK590)) (g:=gb591) (o := .cells #[.int .i64 a3_0,.int .i64 a3_1] 48 (0,0)) (zzi BK591)) (zR zzh));have n1_:=zM (blk_below (g:=gb589) (o := .cells #[.int .i64 a0_0,.int .i64 a0_1,.slice A0_2 l0_2.length c0_2] 29 (0,0)) (zzi BK589) hb);have n2_:=zM (blk_below (g:=gb590) (o := .cells #[.int .i64 a2_0,.int .i64 a2_1] 48 (0,0)) (zzi BK590) hb);have n3_:=zM (blk_below (g:=gb591) (o := .cells #[.int .i64 a3_0,.int .i64 a3_1] 48 (0,0)) (zzi BK591) hb);have n4_:=zM (zQ zzh hb);clear BK589;clear BK590;clear BK591;clear HB;have HO603:=n0_;have BK589:=n1_;have BK590:=n2_;have BK591:=n3_;have HB:=n4_;clear n0_ n1_ n2_ n3_ n4_;(try clear hb);(try clear hb2);(try clear hk);(try clear hi);(try clear ho0)))
       go_ret2
       exact ⟨_,by first|rfl|(simp [errW_none,errW_some] <;> rfl)|(simp [*,errW_none,errW_some] <;> rfl),by (with_reducible repeat (first|apply zA|apply zB|apply zC));exact Kd.R_mono HO603.out (fun _ hk=>trivial),zzh⟩

end Go.Proofs.Ytbpccdbkaiigcaa.G

/- What spec.SafePath and impl.SafePath answer: the same. -/
namespace Go.Proofs.Ytbpccdbkaiigcaa.G
open Go.RowKit Go.Proofs.YtbpccdbkaiigcaaW.PrintWords Go.Proofs.YtbpccdbkaiigcaaW.PrintLast
set_option linter.unusedVariables false
set_option linter.unusedSimpArgs false
/-- What SafePath answers. -/
noncomputable def askR (w h : Int) (bl : List S48) (os : List (List S48)) (a b : S48) : List S48 × Bool:=chk (AskOk w h bl os a b) (safeR w h bl os a b) ([],false)
theorem askR_len (w h : Int) (bl : List S48) (os : List (List S48)) (a b : S48) : (askR w h bl os a b).1.length ≤ 25:=by
 unfold askR
 by_cases hc : AskOk w h bl os a b
 ·rw [chk_pos hc];exact safeR_len _ _ _ _ _ _
 ·rw [chk_neg hc];exact Nat.zero_le _
theorem impl_safe (w h : Int) (bl : List S48) (os : List (List S48)) (hb : (bl.length : Int) ≤ 1099511627776) (a0 a1 b0 b1 : Int) : impl_SafePath.f w h bl os a0 a1 b0 b1 = some (askR w h bl os ⟨a0,a1⟩ ⟨b0,b1⟩):=by
 unfold impl_SafePath.f askR
 rw [chk_pos hb]
theorem rd6_in (os : List (List S48)) (i : Int) (h0 : 0 ≤ i) (h1 : i < (os.length : Int)) : rd_L6 os i ∈ os:=by
 unfold rd_L6
 rw [List.getD_eq_getElem?_getD,List.getElem?_eq_getElem (by omega)]
 exact List.getElem_mem _
theorem all_rows {P : List S48 → Prop} {os : List (List S48)} (h : ∀ i : Int,0 ≤ i → i < (os.length : Int) → P (rd_L6 os i)) : ∀ p ∈ os,P p:=by
 intro p hp
 obtain ⟨i,hi,e⟩:=List.mem_iff_getElem.1 hp
 have:=h (i : Int) (by omega) (by omega)
 unfold rd_L6 at this
 rw [Int.toNat_natCast,List.getD_eq_getElem?_getD,List.getElem?_eq_getElem hi] at this
 rw [← e]
 exact this
theorem spec_safe (w h : Int) (bl : List S48) (os : List (List S48)) (hb : (bl.length : Int) ≤ 1099511627776) (hos : ∀ p ∈ os,(p.length : Int) ≤ 1099511627776) (a0 a1 b0 b1 : Int) : Ev (fun k=>spec_SafePath.f k w h bl os a0 a1 b0 b1) (askR w h bl os ⟨a0,a1⟩ ⟨b0,b1⟩):=by
 obtain ⟨a,ha⟩ : ∃ a : S48,a = ⟨a0,a1⟩:=⟨_,rfl⟩
 obtain ⟨b,hb'⟩ : ∃ b : S48,b = ⟨b0,b1⟩:=⟨_,rfl⟩
 rw [← ha,← hb']
 obtain rfl : a.f0 = a0:=by rw [ha]
 obtain rfl : a.f1 = a1:=by rw [ha]
 obtain rfl : b.f0 = b0:=by rw [hb']
 obtain rfl : b.f1 = b1:=by rw [hb']
 clear ha hb'
 unfold spec_SafePath.f
 refine Ev.bind (spec_asked w h bl hb a b) ?_
 by_cases hc : FloorOk w h bl ∧ Free w h bl a ∧ Free w h bl b
 ·rw [chk_pos hc]
  simp only [if_true]
  refine Ev.step (fun k=>by rw [spec_SafePath.j0]) ?_
  by_cases hl : (os.length : Int) > 3
  ·rw [decide_eq_true hl]
   simp only [if_true]
   unfold askR
   rw [chk_neg (fun x=>by have:=x.2.1;omega)]
   exact Ev.now _
  ·rw [decide_eq_false hl]
   simp only [Bool.false_eq_true,if_false]
   refine Ev.up (fun k (_ : Unit) i=>spec_SafePath.l0 k os i w h bl a.f0 a.f1 b.f0 b.f1) (fun _ _=>askR w h bl os a b) (fun _ i=>0 ≤ i ∧ ∀ j : Int,0 ≤ j → j < i → PathOk w h bl (rd_L6 os j)) (os.length : Int) ?_ ?_ () 0 ⟨Int.le_refl _,fun j h0 h1=>by omega⟩ (by omega)
   ·rintro _ ⟨_,hp⟩
    refine Ev.step (fun k=>by rw [spec_SafePath.l0]) ?_
    have hok : AskOk w h bl os a b:=⟨hc.1,by omega,hc.2.1,hc.2.2,all_rows hp⟩
    simp only [Int.lt_irrefl,if_false]
    unfold spec_l16Safe.f
    rw [chk_pos (show SafeOk w h bl os ⟨a.f0,a.f1⟩ ⟨b.f0,b.f1⟩ from ⟨hc.1,hb,hc.2.1,hc.2.2,hok.len⟩)]
    simp only [Option.bind_some]
    unfold askR
    rw [chk_pos hok]
    exact Ev.now _
   ·rintro _ i ⟨h0,hp⟩ hlt ih
    refine Ev.step (fun k=>by rw [spec_SafePath.l0]) ?_
    have e9 : wrap64 (i + 1) = i + 1:=wrap64_id (by omega) (by omega)
    simp only [if_pos hlt,if_pos h0,e9]
    refine Ev.bind (spec_path hc.1 hb _ (hos _ (rd6_in os i h0 hlt))) ?_
    by_cases hpi : PathOk w h bl (rd_L6 os i)
    ·rw [chk_pos hpi]
     simp only [if_true]
     exact ih () ⟨by omega,fun j j0 j1=>by
      by_cases e : j = i
      ·rw [e];exact hpi
      ·exact hp j j0 (by omega)⟩
    ·rw [chk_neg hpi]
     simp only [Bool.false_eq_true,if_false]
     unfold askR
     rw [chk_neg (fun x=>hpi (x.2.2.2.2 _ (rd6_in os i h0 hlt)))]
     exact Ev.now _
 ·rw [chk_neg hc]
  simp only [Bool.false_eq_true,if_false]
  refine Ev.step (fun k=>by rw [spec_SafePath.j0]) ?_
  simp only [if_true]
  unfold askR
  rw [chk_neg (fun x=>hc ⟨x.1,x.2.2.1,x.2.2.2.1⟩)]
  exact Ev.now _
end Go.Proofs.Ytbpccdbkaiigcaa.G

-- Written by wip/tools/gen.py out of the translation (the kit's printer, one namespace a seat). Lean checks it.
namespace Go.Proofs.Ytbpccdbkaiigcaa.G
open Go.RowKit Go.Proofs.YtbpccdbkaiigcaaW.PrintWords Go.Proofs.YtbpccdbkaiigcaaW.PrintLast Go.Proofs.YtbpccdbkaiigcaaW.PrintMore
attribute [local go_sem] max2_int min2_int max_two min_two max_three min_three max_four min_four   -- for this text's walks alone
set_option linter.unusedVariables false
set_option linter.unusedSimpArgs false

/-! ### laws_szCellS: function 18 -/
def laws_szCellS.f (l0:List (S44)) (a1:Int):Option (Int):=if (wrap64 (a1 - (l0.length:Int))) < 0 then (some (-1)) else (some (wrap64 (a1 - (l0.length:Int))))
set_option maxHeartbeats 8000000 in
set_option maxRecDepth 100000 in
theorem laws_szCellS.calls (A0:Option Addr) (c0:Nat) (l0:List (S44)) (a1:Int) (r:Int) (w:World) (hr0:Kd.C k44 w A0 l0.length l0) (hc0:l0.length ≤ c0) (h:laws_szCellS.f l0 a1 = some r) :
  Calls Try.prog 18 #[.slice A0 l0.length c0,.int .i64 a1] w fun e w'=>e = .returned (.int .i64 r) ∧ Drawn0 w w':=by
 have HR0:=zM hr0;have HC0:=zM hc0;clear hr0 hc0;have H:(if (wrap64 (a1 - (l0.length:Int))) < 0 then (some (-1)) else (some (wrap64 (a1 - (l0.length:Int))))) = some r:=h
 clear h;by_cases c3:(wrap64 (a1 - (l0.length:Int))) < 0
 ·rw [if_pos c3] at H
  have c3b0:decide ((wrap64 (a1 - (l0.length:Int))) < 0) = true:=decide_eq_true c3
  clear c3;obtain rfl:=Option.some.inj H;go_enter Try.func18,Try.ntmps18
  go_wp2
  go_ret
  exact ⟨by first|rfl|(simp;done)|(simp [*];done),by repeat (first|exact Drawn0.refl _|apply Drawn0.step)⟩
 ·rw [if_neg c3] at H
  have c3b0:decide ((wrap64 (a1 - (l0.length:Int))) < 0) = false:=decide_eq_false c3
  clear c3;obtain rfl:=Option.some.inj H;go_enter Try.func18,Try.ntmps18
  go_wp2
  go_ret
  exact ⟨by first|rfl|(simp;done)|(simp [*];done),by repeat (first|exact Drawn0.refl _|apply Drawn0.step)⟩



/-! ### laws_toCellS: function 20 -/
def laws_toCellS.l0:Nat → List (S44) → List (S48) → Int → Option ((List (S48)))
 | 0,_,_,_=>none
 | k + 1,x0,x3,x4=>if x4 < (x0.length:Int) then (if 0 ≤ x4 then ((laws_toCell.f ((rd_T44 x0 x4).f0) ((rd_T44 x0 x4).f1)).bind fun bt125=>(if x4 < (x3.length:Int) then (laws_toCellS.l0 k x0 (x3.set (x4:Int).toNat (⟨bt125.1,bt125.2⟩ : S48)) (wrap64 (x4 + 1))) else (none))) else (none)) else (some x3)
def laws_toCellS.f (k:Nat) (l0:List (S44)):Option ((List (S48))):=if 0 ≤ (l0.length:Int) then (if ((l0.length:Int):Int).toNat ≤ 17592186044416 then (laws_toCellS.l0 k l0 (List.replicate ((l0.length:Int):Int).toNat z48) 0) else (none)) else (none)
set_option maxHeartbeats 8000000 in
set_option maxRecDepth 100000 in
theorem laws_toCellS.calls (k:Nat) (A0:Option Addr) (c0:Nat) (l0:List (S44)) (r:List (S48)) (w:World) (hr0:Kd.C k44 w A0 l0.length l0) (hc0:l0.length ≤ c0) (h:laws_toCellS.f k l0 = some r) :
  Calls Try.prog 20 #[.slice A0 l0.length c0] w fun e w' => ∃ v0_:Value,e = .returned (v0_) ∧ Kd.R k48 48 w' w.heap.size (fun _=>True) v0_ r ∧ Below w.heap.size w w':=by
 have hu44:=Try.underlying44;have hu48:=Try.underlying48;have HR0:=zM hr0;have HC0:=zM hc0;clear hr0 hc0;have HB:=zM (Below.refl w.heap.size w);have H:(if 0 ≤ (l0.length:Int) then (if ((l0.length:Int):Int).toNat ≤ 17592186044416 then (laws_toCellS.l0 k l0 (List.replicate ((l0.length:Int):Int).toNat z48) 0) else (none)) else (none)) = some r:=h
 clear h;by_cases c2:0 ≤ (l0.length:Int)
 ·rw [if_pos c2] at H
  have c2b0:=eq_true c2;have c2b1:decide (0 ≤ (l0.length:Int)) = true:=decide_eq_true c2
  clear c2;by_cases c3:((l0.length:Int):Int).toNat ≤ 17592186044416
  ·rw [if_pos c3] at H
   have c3b0:=eq_true c3;have c3b1:decide (((l0.length:Int):Int).toNat ≤ 17592186044416) = true:=decide_eq_true c3
   clear c3;obtain ⟨y121,hy121⟩ : ∃ y_:List (S48),y_ = (List.replicate ((l0.length:Int):Int).toNat z48):=⟨_,rfl⟩
   replace H:(laws_toCellS.l0 k l0 y121 0) = some r:=by first|(rw [hy121];with_reducible exact H)|(have H2_:=(Option.bind_some _ _).symm.trans H;rw [hy121];with_reducible exact H2_)|(have H2_:=(Option.bind_some _ _).symm.trans H;with_reducible exact H2_)|with_reducible exact H|(rw [hy121];exact H)|exact H
   have Ny121:=zM hy121;clear hy121;have H':=zM H;clear H;go_enter Try.func20,Try.ntmps20
   go_wp2_with (first|((with_reducible refine gate_dst (N:=7) rfl ?_);refine Kd.R_make k48 _ 48 rfl (N:=7) rfl 27 _ _ rfl (l0.length:Int) rfl rfl Try.underlying27 (.agg #[(.int .i64 0),(.int .i64 0)]) 16 info48 rfl (by decide) (by omega) z48 (ok:=fun _=>True) (okp:=fun _=>True) (k48_mkM _ _ _ z48 ) (fun _ hk=>hk) trivial (zzd) (Nat.le_trans (Nat.mul_le_mul_right _ (zzd:(l0.length:Int).toNat ≤ 17592186044416)) (by omega)) (Below.refl _ _) (Nat.le_refl _) ?_;intro v122 w4 ho5 hb hg_ hnew_;clear hg_ hnew_;(first|rw [← Ny121.out] at ho5|(simp only [Int.reduceToNat] at ho5;rw [← Ny121.out] at ho5));have n0_:=zM (Kd.R_lower ho5 (zR zzh));have n1_:=zM (zQ zzh hb);clear HB;have HO123:=n0_;have HB:=n1_;clear n0_ n1_;clear hb ho5))
   go_loopg [4] k (fun kq v4 w' => ∃ (x3_1:List (S48)) (x4_1:Int),v4 = .int .i64 x4_1 ∧ Aside0 (laws_toCellS.l0 kq l0 x3_1 x4_1 = some r) ∧ Aside0 (kq ≤ k) ∧ Aside0 (Kd.R k48 48 w' w.heap.size (fun _=>True) v122 x3_1) ∧ Aside0 (Below w.heap.size w w'))
   case atStart=>exact ⟨(y121),(0),(by first|rfl|(simp;done)|(simp [*];done)),H',⟨Nat.le_refl _⟩,⟨zzl HO123⟩,⟨zzh⟩⟩
   case round =>
    clear H';(try clear c2);(try clear c2b0);(try clear c2b1);(try clear p2);(try clear c3);(try clear c3b0);(try clear c3b1);obtain ⟨x3_1,x4_1,rfl,HA,HK1,HO_3,HB⟩:=hrel;cases gk with
    | zero=>exact absurd HA.out (by simp [laws_toCellS.l0])
    | succ k1 =>
     have H:=HA.out;clear HA;simp only [laws_toCellS.l0] at H
     by_cases c6:x4_1 < (l0.length:Int)
     ·rw [if_pos c6] at H
      have c6b0:decide (x4_1 < (l0.length:Int)) = true:=decide_eq_true c6
      clear c6;by_cases c7:0 ≤ x4_1
      ·rw [if_pos c7] at H
       have c7b0:decide (0 ≤ x4_1) = true:=decide_eq_true c7
       clear c7;replace H:=Option.bind_eq_some_iff.mp H;obtain ⟨⟨t125,t126⟩,A80,H⟩:=H;replace H:(if x4_1 < (x3_1.length:Int) then (laws_toCellS.l0 k1 l0 (x3_1.set (x4_1:Int).toNat (⟨t125,t126⟩ : S48)) (wrap64 (x4_1 + 1))) else (none)) = some r:=H
       have A8:=zM A80;clear A80;by_cases c9:x4_1 < (x3_1.length:Int)
       ·rw [if_pos c9] at H
        have c9b0:decide (x4_1 < (x3_1.length:Int)) = true:=decide_eq_true c9
        clear c9;obtain ⟨y127,hy127⟩ : ∃ y_:List (S48),y_ = (x3_1.set (x4_1:Int).toNat (⟨t125,t126⟩ : S48)):=⟨_,rfl⟩
        replace H:(laws_toCellS.l0 k1 l0 y127 (wrap64 (x4_1 + 1))) = some r:=by first|(rw [hy127];with_reducible exact H)|(have H2_:=(Option.bind_some _ _).symm.trans H;rw [hy127];with_reducible exact H2_)|(have H2_:=(Option.bind_some _ _).symm.trans H;with_reducible exact H2_)|with_reducible exact H|(rw [hy127];exact H)|exact H
        have Ny127:=zM hy127;clear hy127;have H':=zM H;clear H;have p124:0 ≤ (x4_1:Int):=zzd
        have q124:x4_1 < (l0.length:Int):=zzd
        obtain ⟨ad124,e124,hx124_0,hx124_1⟩:=at_T44 HR0.out x4_1 p124 q124;cases e124
        replace hx124_0:=zS HB.out hx124_0;replace hx124_1:=zS HB.out hx124_1;replace p124:=eq_true p124;replace q124:=eq_true q124;go_wp2_with (first|((with_reducible refine gate_callee (f:=28) rfl ?_);refine goesL_ (some 20) rfl rfl Try.func28 (by kernel_rfl) rfl #[.agg #[.int .i64 ((rd_T44 l0 x4_1).f0),.int .i64 ((rd_T44 l0 x4_1).f1)]] rfl (by (try simp only [List.map_toArray,List.map_cons,List.map_nil]);first|done|rfl|(simp only [List.length_drop,List.length_take];rfl)) ?_;(with_reducible refine (laws_toCell.calls ((rd_T44 l0 x4_1).f0) ((rd_T44 l0 x4_1).f1) t125 t126 _ A8.out).mono ?_);rintro e w11 ⟨rfl,hb⟩;refine ⟨_,rfl,?_⟩;have n0_:=zM (zP (zzl HO_3) hb);have n1_:=zM (zQ zzh hb);clear HO_3;clear HB;have HO_3:=n0_;have HB:=n1_;clear n0_ n1_;(try clear hb);(try clear hb2);(try clear hk);(try clear hi);have p10:0 ≤ (x4_1:Int):=zzd;have q10:(x4_1:Int) < ((x3_1.length:Int):Int):=zzd;obtain ⟨go10,co10,eo10,gb10,gl10,cl10,HG10⟩:=Kd.R_form HO_3.out (by omega);(first|cases eo10|(injection eo10 with ea_ en_ ec_;(first|subst ea_|(injection ea_ with ea_;subst ea_));subst ec_;clear en_));have GB10:=zM gb10;have GG10:=zM HG10;clear gb10 gl10 HG10;obtain ⟨ce10,hcl10,hM10,hcc10,hfr10⟩:=Kd.R_elem HO_3.out z48 (x4_1:Int) p10 q10;obtain rfl:=k48_openM hM10;have hx10_0:w11.cell? ⟨go10,(x4_1:Int).toNat * 2,none⟩ = some (.int .i64 ((rd_T48 x3_1 x4_1).f0)):=hcc10 0 _ rfl;have hx10_1:w11.cell? ⟨go10,(x4_1:Int).toNat * 2 + 1,none⟩ = some (.int .i64 ((rd_T48 x3_1 x4_1).f1)):=hcc10 1 _ rfl;have hf10_0:w11.frozen? ⟨go10,(x4_1:Int).toNat * 2,none⟩ = false:=hfr10 0;have hf10_1:w11.frozen? ⟨go10,(x4_1:Int).toNat * 2 + 1,none⟩ = false:=hfr10 1;clear hcl10 hcc10 hfr10;(try clear hM10);replace p10:=eq_true p10;replace q10:=eq_true q10;have HX12:=zM (show Kd.R k48 48 w11 w.heap.size (fun _=>True) (.slice (some ⟨go10,0,none⟩) x3_1.length co10) x3_1 from (zzl HO_3));obtain ⟨ce12,hcl12,hM12,hcc12,hfr12⟩:=Kd.R_elem HX12.out z48 (x4_1:Int) (zzd) (by have h_:(x4_1:Int) < ((x3_1.length:Int):Int):=zzd;first|exact h_|(have e_:=(zN HO_3.out).1;omega)|simpa using h_);obtain rfl:=k48_openM hM12;have HP12:=Kd.R_seg HX12.out (x4_1:Int) (zzd) (by have h_:(x4_1:Int) < ((x3_1.length:Int):Int):=zzd;first|exact h_|(have e_:=(zN HO_3.out).1;omega)|simpa using h_) (seg:=[.int .i64 t125,.int .i64 t126]) (j:=0) hcl12 hcc12 (show 2 ≤ 2 from by decide) (x':=(⟨t125,t126⟩ : S48)) (k48_mkM _ _ _ (⟨t125,t126⟩ : S48) ) (fun _ hk=>hk);have hx12_0:=hcc12 0 _ rfl;(try simp only [show (k48).sz = 2 from rfl,Nat.mul_one,Nat.add_zero] at hx12_0);have hf12_0:=hfr12 0;(try simp only [show (k48).sz = 2 from rfl,Nat.mul_one,Nat.add_zero] at hf12_0);have hx12_1:=hcc12 1 _ rfl;(try simp only [show (k48).sz = 2 from rfl,Nat.mul_one,Nat.add_zero] at hx12_1);have hf12_1:=hfr12 1;(try simp only [show (k48).sz = 2 from rfl,Nat.mul_one,Nat.add_zero] at hf12_1);clear hcl12 hcc12 hfr12;(try clear hM12))|((with_reducible refine gate_store (t:=48) (p:=21) rfl ?_);refine store_event (t:=48) (p:=21) (v:=?vo_w13) (w1:=((w11.setCell ⟨go10,(x4_1:Int).toNat * 2,none⟩ (.int .i64 t125)).setCell ⟨go10,(x4_1:Int).toNat * 2 + 1,none⟩ (.int .i64 t126))) ?hg ?ho ?hn ?hr ?_;(case ho=>rfl);(case hg=>rfl);(case hn=>rfl);(case hr=>first|(go_simp;done)|(go_simp;rfl));intro w13 hw;have hg:w11.grownBy w13 (some go10):=(by rw [hw];exact HP12.2);have hp_:Kd.R k48 48 w13 w.heap.size (fun _=>True) (.slice (some ⟨go10,0,none⟩) x3_1.length co10) y127:=(by rw [hw,Ny127.out];exact HP12.1);clear HP12;have n0_:=zM (hp_);have n1_:=zM ((by rw [hw];exact below_set (below_set (HB.out) GB10.out) GB10.out:Below w.heap.size w w13));clear HO_3;clear HB;have HO_3:=n0_;have HB:=n1_;clear n0_ n1_;clear hg hw hp_))
        go_roundg k1
        case measure=>have:=HK1.out;omega
        case rel=>exact ⟨(y127),(wrap64 (x4_1 + 1)),(by first|rfl|(simp;done)|(simp [*];done)),H',⟨by have:=HK1.out;omega⟩,⟨zzl HO_3⟩,⟨zzh⟩⟩
       ·rw [if_neg c9] at H
        exact absurd H (by simp)
      ·rw [if_neg c7] at H
       exact absurd H (by simp)
     ·rw [if_neg c6] at H
      have c6b0:decide (x4_1 < (l0.length:Int)) = false:=decide_eq_false c6
      clear c6;obtain rfl:=Option.some.inj H;go_wp2
      go_ret
      exact ⟨_,by first|rfl|(simp [errW_none,errW_some] <;> rfl)|(simp [*,errW_none,errW_some] <;> rfl),zzl HO_3,zzh⟩
  ·rw [if_neg c3] at H
   exact absurd H (by simp)
 ·rw [if_neg c2] at H
  exact absurd H (by simp)



/-! ### laws_eqCell: function 60 -/
def laws_eqCell.f (a0_0:Int) (a0_1:Int) (a1_0:Int) (a1_1:Int):Option (Bool):=if a0_0 = a1_0 then (if a0_1 = a1_1 then (some true) else (some false)) else (some false)
set_option maxHeartbeats 8000000 in
set_option maxRecDepth 100000 in
theorem laws_eqCell.calls (a0_0:Int) (a0_1:Int) (a1_0:Int) (a1_1:Int) (r:Bool) (w:World) (h:laws_eqCell.f a0_0 a0_1 a1_0 a1_1 = some r) :
  Calls Try.prog 60 #[.agg #[.int .i64 a0_0,.int .i64 a0_1],.agg #[.int .i64 a1_0,.int .i64 a1_1]] w fun e w'=>e = .returned (.bool r) ∧ Below w.heap.size w w':=by
 have hu48:=Try.underlying48;have HB:=zM (Below.refl w.heap.size w);have H:(if a0_0 = a1_0 then (if a0_1 = a1_1 then (some true) else (some false)) else (some false)) = some r:=h
 clear h;by_cases c3:a0_0 = a1_0
 ·rw [if_pos c3] at H
  have c3b0:(a0_0 == a1_0) = true:=beq_iff_eq.mpr c3
  have c3b1:(a0_0 != a1_0) = false:=bne_eq_false_iff_eq.mpr c3
  clear c3;by_cases c4:a0_1 = a1_1
  ·rw [if_pos c4] at H
   have c4b0:(a0_1 == a1_1) = true:=beq_iff_eq.mpr c4
   have c4b1:(a0_1 != a1_1) = false:=bne_eq_false_iff_eq.mpr c4
   clear c4;obtain rfl:=Option.some.inj H;go_enter Try.func60,Try.ntmps60
   go_wp2_with (first|((with_reducible refine gate_dst (N:=2) rfl ?_);refine zzc 2 #[.int .i64 a0_0,.int .i64 a0_1] 48 ?_;intro gb148 hg w5 hbox hb;have n0_:=zM (zQ zzh hb);have n1_:=zM (hbox);have n2_:=zM ((by rw [hg];exact (zR zzh):w.heap.size ≤ gb148));have n3_:=zM ((by rw [hg];exact (zR zzh):w.heap.size ≤ gb148));clear HB;have HB:=n0_;have BK148:=n1_;have GW148:=n2_;have GE148:=n3_;clear n0_ n1_ n2_ n3_;clear hb hbox hg)|((with_reducible refine gate_dst (N:=3) rfl ?_);refine zzc 3 #[.int .i64 a1_0,.int .i64 a1_1] 48 ?_;intro gb149 hg w6 hbox hb;have n0_:=zM (blk_below (g:=gb148) (o := .cells #[.int .i64 a0_0,.int .i64 a0_1] 48 (0,0)) (zzi BK148) hb);have n1_:=zM (zQ zzh hb);have n2_:=zM (hbox);have n3_:=zM ((by rw [hg];exact (zR zzh):w.heap.size ≤ gb149));have n4_:=zM ((by rw [hg];exact (zR zzh):w.heap.size ≤ gb149));have n5_:=zM ((by rw [hg];exact Nat.ne_of_lt (blk_lt (g:=gb148) (o := .cells #[.int .i64 a0_0,.int .i64 a0_1] 48 (0,0)) (zzi BK148)):gb148 ≠ gb149));have n6_:=zM ((by rw [hg];exact Nat.ne_of_gt (blk_lt (g:=gb148) (o := .cells #[.int .i64 a0_0,.int .i64 a0_1] 48 (0,0)) (zzi BK148)):gb149 ≠ gb148));clear BK148;clear HB;have BK148:=n0_;have HB:=n1_;have BK149:=n2_;have GW149:=n3_;have GE149:=n4_;have NB148_149:=n5_;have NB149_148:=n6_;clear n0_ n1_ n2_ n3_ n4_ n5_ n6_;clear hb hbox hg;have hnb7:=NB148_149.out;have hnc7:=NB149_148.out;have hcz8_0:=zz0 BK148;have hcz8_1:=zz1 BK148;have hfz8_0:=blk_frozen BK148.out 0;have hfz8_1:=blk_frozen BK148.out 1;have hcz9_0:=zz0 BK149;have hcz9_1:=zz1 BK149;have hfz9_0:=blk_frozen BK149.out 0;have hfz9_1:=blk_frozen BK149.out 1))
   go_ret
   exact ⟨by first|rfl|(simp [errW_none,errW_some] <;> rfl)|(simp [*,errW_none,errW_some] <;> rfl),zzh⟩
  ·rw [if_neg c4] at H
   have c4b0:(a0_1 == a1_1) = false:=beq_eq_false_iff_ne.mpr c4
   have c4b1:(a0_1 != a1_1) = true:=bne_iff_ne.mpr c4
   obtain rfl:=Option.some.inj H;go_enter Try.func60,Try.ntmps60
   go_wp2_with (first|((with_reducible refine gate_dst (N:=2) rfl ?_);refine zzc 2 #[.int .i64 a0_0,.int .i64 a0_1] 48 ?_;intro gb148 hg w10 hbox hb;have n0_:=zM (zQ zzh hb);have n1_:=zM (hbox);have n2_:=zM ((by rw [hg];exact (zR zzh):w.heap.size ≤ gb148));have n3_:=zM ((by rw [hg];exact (zR zzh):w.heap.size ≤ gb148));clear HB;have HB:=n0_;have BK148:=n1_;have GW148:=n2_;have GE148:=n3_;clear n0_ n1_ n2_ n3_;clear hb hbox hg)|((with_reducible refine gate_dst (N:=3) rfl ?_);refine zzc 3 #[.int .i64 a1_0,.int .i64 a1_1] 48 ?_;intro gb149 hg w11 hbox hb;have n0_:=zM (blk_below (g:=gb148) (o := .cells #[.int .i64 a0_0,.int .i64 a0_1] 48 (0,0)) (zzi BK148) hb);have n1_:=zM (zQ zzh hb);have n2_:=zM (hbox);have n3_:=zM ((by rw [hg];exact (zR zzh):w.heap.size ≤ gb149));have n4_:=zM ((by rw [hg];exact (zR zzh):w.heap.size ≤ gb149));have n5_:=zM ((by rw [hg];exact Nat.ne_of_lt (blk_lt (g:=gb148) (o := .cells #[.int .i64 a0_0,.int .i64 a0_1] 48 (0,0)) (zzi BK148)):gb148 ≠ gb149));have n6_:=zM ((by rw [hg];exact Nat.ne_of_gt (blk_lt (g:=gb148) (o := .cells #[.int .i64 a0_0,.int .i64 a0_1] 48 (0,0)) (zzi BK148)):gb149 ≠ gb148));clear BK148;clear HB;have BK148:=n0_;have HB:=n1_;have BK149:=n2_;have GW149:=n3_;have GE149:=n4_;have NB148_149:=n5_;have NB149_148:=n6_;clear n0_ n1_ n2_ n3_ n4_ n5_ n6_;clear hb hbox hg;have hnb12:=NB148_149.out;have hnc12:=NB149_148.out;have hcz13_0:=zz0 BK148;have hcz13_1:=zz1 BK148;have hfz13_0:=blk_frozen BK148.out 0;have hfz13_1:=blk_frozen BK148.out 1;have hcz14_0:=zz0 BK149;have hcz14_1:=zz1 BK149;have hfz14_0:=blk_frozen BK149.out 0;have hfz14_1:=blk_frozen BK149.out 1))
   go_ret
   exact ⟨by first|rfl|(simp [errW_none,errW_some] <;> rfl)|(simp [*,errW_none,errW_some] <;> rfl),zzh⟩
 ·rw [if_neg c3] at H
  have c3b0:(a0_0 == a1_0) = false:=beq_eq_false_iff_ne.mpr c3
  have c3b1:(a0_0 != a1_0) = true:=bne_iff_ne.mpr c3
  obtain rfl:=Option.some.inj H;go_enter Try.func60,Try.ntmps60
  go_wp2_with (first|((with_reducible refine gate_dst (N:=2) rfl ?_);refine zzc 2 #[.int .i64 a0_0,.int .i64 a0_1] 48 ?_;intro gb148 hg w15 hbox hb;have n0_:=zM (zQ zzh hb);have n1_:=zM (hbox);have n2_:=zM ((by rw [hg];exact (zR zzh):w.heap.size ≤ gb148));have n3_:=zM ((by rw [hg];exact (zR zzh):w.heap.size ≤ gb148));clear HB;have HB:=n0_;have BK148:=n1_;have GW148:=n2_;have GE148:=n3_;clear n0_ n1_ n2_ n3_;clear hb hbox hg)|((with_reducible refine gate_dst (N:=3) rfl ?_);refine zzc 3 #[.int .i64 a1_0,.int .i64 a1_1] 48 ?_;intro gb149 hg w16 hbox hb;have n0_:=zM (blk_below (g:=gb148) (o := .cells #[.int .i64 a0_0,.int .i64 a0_1] 48 (0,0)) (zzi BK148) hb);have n1_:=zM (zQ zzh hb);have n2_:=zM (hbox);have n3_:=zM ((by rw [hg];exact (zR zzh):w.heap.size ≤ gb149));have n4_:=zM ((by rw [hg];exact (zR zzh):w.heap.size ≤ gb149));have n5_:=zM ((by rw [hg];exact Nat.ne_of_lt (blk_lt (g:=gb148) (o := .cells #[.int .i64 a0_0,.int .i64 a0_1] 48 (0,0)) (zzi BK148)):gb148 ≠ gb149));have n6_:=zM ((by rw [hg];exact Nat.ne_of_gt (blk_lt (g:=gb148) (o := .cells #[.int .i64 a0_0,.int .i64 a0_1] 48 (0,0)) (zzi BK148)):gb149 ≠ gb148));clear BK148;clear HB;have BK148:=n0_;have HB:=n1_;have BK149:=n2_;have GW149:=n3_;have GE149:=n4_;have NB148_149:=n5_;have NB149_148:=n6_;clear n0_ n1_ n2_ n3_ n4_ n5_ n6_;clear hb hbox hg;have hnb17:=NB148_149.out;have hnc17:=NB149_148.out;have hcz18_0:=zz0 BK148;have hcz18_1:=zz1 BK148;have hfz18_0:=blk_frozen BK148.out 0;have hfz18_1:=blk_frozen BK148.out 1;have hcz19_0:=zz0 BK149;have hcz19_1:=zz1 BK149;have hfz19_0:=blk_frozen BK149.out 0;have hfz19_1:=blk_frozen BK149.out 1))
  go_ret
  exact ⟨by first|rfl|(simp [errW_none,errW_some] <;> rfl)|(simp [*,errW_none,errW_some] <;> rfl),zzh⟩



/-! ### laws_eqCellS: function 22 -/
def laws_eqCellS.l0:Nat → List (S48) → List (S48) → Int → Option (Bool)
 | 0,_,_,_=>none
 | k + 1,x0,x1,x5=>if x5 < (x0.length:Int) then (if 0 ≤ x5 then (if x5 < (x1.length:Int) then ((laws_eqCell.f ((rd_T48 x0 x5).f0) ((rd_T48 x0 x5).f1) ((rd_T48 x1 x5).f0) ((rd_T48 x1 x5).f1)).bind fun t152=>(if t152 = true then (laws_eqCellS.l0 k x0 x1 (wrap64 (x5 + 1))) else (some false))) else (none)) else (none)) else (some true)
def laws_eqCellS.f (k:Nat) (l0:List (S48)) (l1:List (S48)):Option (Bool):=if (l0.length:Int) = (l1.length:Int) then (laws_eqCellS.l0 k l0 l1 0) else (some false)
def laws_eqCellS.T6:Bool × List (List Nat × List Nat):=(true,[([],[]),([],[]),([0,1],[0,1]),([2],[2]),([],[]),([],[]),([4,5],[4,5]),([6],[6]),([3,7],[3,7]),([8],[8])])
def laws_eqCellS.B6:List Nat:=[0,0,3,7,0,0,48,112,255,511]
theorem laws_eqCellS.tab6:rtab .any (opsOf Try.f22 6) = laws_eqCellS.T6:=by kernel_rfl
theorem laws_eqCellS.bits6:waitsOk laws_eqCellS.T6.2 laws_eqCellS.B6 = true:=by kernel_rfl
set_option maxHeartbeats 8000000 in
set_option maxRecDepth 100000 in
theorem laws_eqCellS.calls (k:Nat) (A0:Option Addr) (c0:Nat) (l0:List (S48)) (A1:Option Addr) (c1:Nat) (l1:List (S48)) (r:Bool) (w:World) (hr0:Kd.C k48 w A0 l0.length l0) (hc0:l0.length ≤ c0) (hr1:Kd.C k48 w A1 l1.length l1) (hc1:l1.length ≤ c1) (h:laws_eqCellS.f k l0 l1 = some r) :
  Calls Try.prog 22 #[.slice A0 l0.length c0,.slice A1 l1.length c1] w fun e w'=>e = .returned (.bool r) ∧ Below w.heap.size w w':=by
 have hu48:=Try.underlying48;have HR0:=zM hr0;have HC0:=zM hc0;clear hr0 hc0;have HR1:=zM hr1;have HC1:=zM hc1;clear hr1 hc1;have HB:=zM (Below.refl w.heap.size w);have H:(if (l0.length:Int) = (l1.length:Int) then (laws_eqCellS.l0 k l0 l1 0) else (some false)) = some r:=h
 clear h;by_cases c3:(l0.length:Int) = (l1.length:Int)
 ·rw [if_pos c3] at H
  have c3b0:((l0.length:Int) == (l1.length:Int)) = true:=beq_iff_eq.mpr c3
  have c3b1:((l0.length:Int) != (l1.length:Int)) = false:=bne_eq_false_iff_eq.mpr c3
  have c3b2:(l0.length == l1.length) = true:=by first|simpa using c3|(simp at c3 ⊢;omega)
  clear c3;have H':=zM H;clear H;go_enter Try.func22,Try.ntmps22
  go_wp2
  go_loopg [5] k (fun kq v5 w' => ∃ (x5_1:Int),v5 = .int .i64 x5_1 ∧ Aside0 (laws_eqCellS.l0 kq l0 l1 x5_1 = some r) ∧ Aside0 (kq ≤ k) ∧ Aside0 (Below w.heap.size w w'))
  case atStart=>exact ⟨(0),(by first|rfl|(simp;done)|(simp [*];done)),H',⟨Nat.le_refl _⟩,⟨zzh⟩⟩
  case round =>
   clear H';(try clear c1);(try clear c2);(try clear p2);(try clear c3);(try clear c3b0);(try clear c3b1);(try clear c3b2);obtain ⟨x5_1,rfl,HA,HK1,HB⟩:=hrel;cases gk with
   | zero=>exact absurd HA.out (by simp [laws_eqCellS.l0])
   | succ k1 =>
    have H:=HA.out;clear HA;simp only [laws_eqCellS.l0] at H
    by_cases c4:x5_1 < (l0.length:Int)
    ·rw [if_pos c4] at H
     have c4b0:decide (x5_1 < (l0.length:Int)) = true:=decide_eq_true c4
     clear c4;by_cases c5:0 ≤ x5_1
     ·rw [if_pos c5] at H
      have c5b0:decide (0 ≤ x5_1) = true:=decide_eq_true c5
      clear c5;by_cases c6:x5_1 < (l1.length:Int)
      ·rw [if_pos c6] at H
       have c6b0:decide (x5_1 < (l1.length:Int)) = true:=decide_eq_true c6
       clear c6;replace H:=Option.bind_eq_some_iff.mp H;obtain ⟨t152,A70,H⟩:=H;replace H:(if t152 = true then (laws_eqCellS.l0 k1 l0 l1 (wrap64 (x5_1 + 1))) else (some false)) = some r:=H
       have A7:=zM A70;clear A70;by_cases c8:t152 = true
       ·subst c8
        have H1:(laws_eqCellS.l0 k1 l0 l1 (wrap64 (x5_1 + 1))) = some r:=by rw [if_pos rfl] at H;exact H
        clear H;have H:=H1;clear H1;have H':=zM H;clear H;try go_wp2
        have n0_:=zM (zF HB.out);clear HB;have HB:=n0_;clear n0_;have p150:0 ≤ (x5_1:Int):=zzd
        have q150:x5_1 < (l0.length:Int):=zzd
        obtain ⟨ad150,e150,hx150_0,hx150_1⟩:=at_T48 HR0.out x5_1 p150 q150;have hw150_1:=hx150_1;have hw150_0:=hx150_0;cases e150
        replace hx150_0:=zS HB.out hx150_0;replace hx150_1:=zS HB.out hx150_1;replace p150:=eq_true p150;replace q150:=eq_true q150;have p151:0 ≤ (x5_1:Int):=zzd
        have q151:x5_1 < (l1.length:Int):=zzd
        obtain ⟨ad151,e151,hx151_0,hx151_1⟩:=at_T48 HR1.out x5_1 p151 q151;have hw151_1:=hx151_1;have hw151_0:=hx151_0;cases e151
        replace hx151_0:=zS HB.out hx151_0;replace hx151_1:=zS HB.out hx151_1;replace p151:=eq_true p151;replace q151:=eq_true q151;refine start_ (n:=10) (S:=fun w'=>w'.cell? (ad150.add ((x5_1).toNat * 2)) = some (.int .i64 ((rd_T48 l0 x5_1).f0)) ∧ w'.cell? ⟨(ad150.add ((x5_1).toNat * 2)).block,(ad150.add ((x5_1).toNat * 2)).off + 1,none⟩ = some (.int .i64 ((rd_T48 l0 x5_1).f1)) ∧ w'.cell? (ad151.add ((x5_1).toNat * 2)) = some (.int .i64 ((rd_T48 l1 x5_1).f0)) ∧ w'.cell? ⟨(ad151.add ((x5_1).toNat * 2)).block,(ad151.add ((x5_1).toNat * 2)).off + 1,none⟩ = some (.int .i64 ((rd_T48 l1 x5_1).f1))) (ds:=[]) #[false,false,false,false,false,false,false,false,false,false] (by kernel_rfl) rfl rfl ⟨(zS HB.out hw150_0 :),(zS HB.out hw150_1 :),(zS HB.out hw151_0 :),(zS HB.out hw151_1 :)⟩ (fun hHeld=>?_);refine with_tabW laws_eqCellS.tab6 laws_eqCellS.bits6 (fun HT_ HW_=>?_)
        generalize wr.drew = w9 at HB hx150_0 hx150_1 hx151_0 hx151_1 hHeld ⊢
        refine zzp 0 17 (zzb 10 1) ?_ (hc:=zzx HT_);refine zzp 1 18 (zzb 10 3) ?_ (hc:=zzx HT_);refine zzp 2 19 (zzb 10 7) ?_ (hc:=zzx HT_);refine zzp 4 21 (zzb 10 23) ?_ (hc:=zzx HT_);refine zzp 5 22 (zzb 10 55) ?_ (hc:=zzx HT_);refine zzp 6 23 (zzb 10 119) ?_ (hc:=zzx HT_)
        refine zzt 3 20 (zzb 10 127) hHeld ?_ (hc:=zzy HT_ HW_) (hy:=by rintro w' ⟨s0,s1,s2,s3⟩;go_simp;with_reducible rfl)
        refine zzt 7 24 (zzb 10 255) hHeld ?_ (hc:=zzy HT_ HW_) (hy:=by rintro w' ⟨s0,s1,s2,s3⟩;go_simp;with_reducible rfl)
        refine zzo 8 25 (zzb 10 511) (hc:=zzw HT_) (fun K hK=>?_)
        refine zzf Try.func60 #[.agg #[.int .i64 ((rd_T48 l0 x5_1).f0),.int .i64 ((rd_T48 l0 x5_1).f1)],.agg #[.int .i64 ((rd_T48 l1 x5_1).f0),.int .i64 ((rd_T48 l1 x5_1).f1)]] ?_
        with_reducible refine (laws_eqCell.calls ((rd_T48 l0 x5_1).f0) ((rd_T48 l0 x5_1).f1) ((rd_T48 l1 x5_1).f0) ((rd_T48 l1 x5_1).f1) true _ A7.out).mono ?_
        rintro e w10 ⟨rfl,hb⟩
        refine ⟨_,rfl,?_⟩
        have n0_:=zM (zQ zzh hb)
        clear HB;have HB:=n0_;clear n0_;(try clear hb)
        (try clear hb2)
        (try clear hk)
        (try clear hi)
        refine hK.out _ _ ⟨(zS HB.out hw150_0 :),(zS HB.out hw150_1 :),(zS HB.out hw151_0 :),(zS HB.out hw151_1 :)⟩ (fun hHeld=>?_)
        clear hK K;refine zzn 25 ?_;refine zzp 9 26 (zzb 10 1023) ?_ (hc:=zzx HT_)
        refine done_ (done_of HT_.out (by kernel_rfl)) ?_
        try go_wp2
        go_roundg k1
        case measure=>have:=HK1.out;omega
        case rel=>exact ⟨(wrap64 (x5_1 + 1)),(by first|rfl|(simp;done)|(simp [*];done)),H',⟨by have:=HK1.out;omega⟩,⟨zzh⟩⟩
       ·replace c8:=Bool.eq_false_iff.mpr c8
        subst c8;have H1:(some false) = some r:=by rw [if_neg (show ¬ (false = true) by decide)] at H;exact H
        clear H;have H:=H1;clear H1;obtain rfl:=Option.some.inj H;try go_wp2
        have n0_:=zM (zF HB.out);clear HB;have HB:=n0_;clear n0_;have p150:0 ≤ (x5_1:Int):=zzd
        have q150:x5_1 < (l0.length:Int):=zzd
        obtain ⟨ad150,e150,hx150_0,hx150_1⟩:=at_T48 HR0.out x5_1 p150 q150;have hw150_1:=hx150_1;have hw150_0:=hx150_0;cases e150
        replace hx150_0:=zS HB.out hx150_0;replace hx150_1:=zS HB.out hx150_1;replace p150:=eq_true p150;replace q150:=eq_true q150;have p151:0 ≤ (x5_1:Int):=zzd
        have q151:x5_1 < (l1.length:Int):=zzd
        obtain ⟨ad151,e151,hx151_0,hx151_1⟩:=at_T48 HR1.out x5_1 p151 q151;have hw151_1:=hx151_1;have hw151_0:=hx151_0;cases e151
        replace hx151_0:=zS HB.out hx151_0;replace hx151_1:=zS HB.out hx151_1;replace p151:=eq_true p151;replace q151:=eq_true q151;refine start_ (n:=10) (S:=fun w'=>w'.cell? (ad150.add ((x5_1).toNat * 2)) = some (.int .i64 ((rd_T48 l0 x5_1).f0)) ∧ w'.cell? ⟨(ad150.add ((x5_1).toNat * 2)).block,(ad150.add ((x5_1).toNat * 2)).off + 1,none⟩ = some (.int .i64 ((rd_T48 l0 x5_1).f1)) ∧ w'.cell? (ad151.add ((x5_1).toNat * 2)) = some (.int .i64 ((rd_T48 l1 x5_1).f0)) ∧ w'.cell? ⟨(ad151.add ((x5_1).toNat * 2)).block,(ad151.add ((x5_1).toNat * 2)).off + 1,none⟩ = some (.int .i64 ((rd_T48 l1 x5_1).f1))) (ds:=[]) #[false,false,false,false,false,false,false,false,false,false] (by kernel_rfl) rfl rfl ⟨(zS HB.out hw150_0 :),(zS HB.out hw150_1 :),(zS HB.out hw151_0 :),(zS HB.out hw151_1 :)⟩ (fun hHeld=>?_);refine with_tabW laws_eqCellS.tab6 laws_eqCellS.bits6 (fun HT_ HW_=>?_)
        generalize wr.drew = w11 at HB hx150_0 hx150_1 hx151_0 hx151_1 hHeld ⊢
        refine zzp 0 17 (zzb 10 1) ?_ (hc:=zzx HT_);refine zzp 1 18 (zzb 10 3) ?_ (hc:=zzx HT_);refine zzp 2 19 (zzb 10 7) ?_ (hc:=zzx HT_);refine zzp 4 21 (zzb 10 23) ?_ (hc:=zzx HT_);refine zzp 5 22 (zzb 10 55) ?_ (hc:=zzx HT_);refine zzp 6 23 (zzb 10 119) ?_ (hc:=zzx HT_)
        refine zzt 3 20 (zzb 10 127) hHeld ?_ (hc:=zzy HT_ HW_) (hy:=by rintro w' ⟨s0,s1,s2,s3⟩;go_simp;with_reducible rfl)
        refine zzt 7 24 (zzb 10 255) hHeld ?_ (hc:=zzy HT_ HW_) (hy:=by rintro w' ⟨s0,s1,s2,s3⟩;go_simp;with_reducible rfl)
        refine zzo 8 25 (zzb 10 511) (hc:=zzw HT_) (fun K hK=>?_)
        refine zzf Try.func60 #[.agg #[.int .i64 ((rd_T48 l0 x5_1).f0),.int .i64 ((rd_T48 l0 x5_1).f1)],.agg #[.int .i64 ((rd_T48 l1 x5_1).f0),.int .i64 ((rd_T48 l1 x5_1).f1)]] ?_
        with_reducible refine (laws_eqCell.calls ((rd_T48 l0 x5_1).f0) ((rd_T48 l0 x5_1).f1) ((rd_T48 l1 x5_1).f0) ((rd_T48 l1 x5_1).f1) false _ A7.out).mono ?_
        rintro e w12 ⟨rfl,hb⟩
        refine ⟨_,rfl,?_⟩
        have n0_:=zM (zQ zzh hb)
        clear HB;have HB:=n0_;clear n0_;(try clear hb)
        (try clear hb2)
        (try clear hk)
        (try clear hi)
        refine hK.out _ _ ⟨(zS HB.out hw150_0 :),(zS HB.out hw150_1 :),(zS HB.out hw151_0 :),(zS HB.out hw151_1 :)⟩ (fun hHeld=>?_)
        clear hK K;refine zzn 25 ?_;refine zzp 9 26 (zzb 10 1023) ?_ (hc:=zzx HT_)
        refine done_ (done_of HT_.out (by kernel_rfl)) ?_
        try go_wp2
        go_ret
        exact ⟨by first|rfl|(simp [errW_none,errW_some] <;> rfl)|(simp [*,errW_none,errW_some] <;> rfl),zzh⟩
      ·rw [if_neg c6] at H
       exact absurd H (by simp)
     ·rw [if_neg c5] at H
      exact absurd H (by simp)
    ·rw [if_neg c4] at H
     have c4b0:decide (x5_1 < (l0.length:Int)) = false:=decide_eq_false c4
     clear c4;obtain rfl:=Option.some.inj H;go_wp2
     go_ret
     exact ⟨by first|rfl|(simp [errW_none,errW_some] <;> rfl)|(simp [*,errW_none,errW_some] <;> rfl),zzh⟩
 ·rw [if_neg c3] at H
  have c3b0:((l0.length:Int) == (l1.length:Int)) = false:=beq_eq_false_iff_ne.mpr c3
  have c3b1:((l0.length:Int) != (l1.length:Int)) = true:=bne_iff_ne.mpr c3
  have c3b2:(l0.length == l1.length) = false:=by first|simpa using c3|(simp at c3 ⊢;omega)
  obtain rfl:=Option.some.inj H;go_enter Try.func22,Try.ntmps22
  go_wp2
  go_ret
  exact ⟨by first|rfl|(simp [errW_none,errW_some] <;> rfl)|(simp [*,errW_none,errW_some] <;> rfl),zzh⟩



/-! ### laws_toFloor: function 15 -/
def laws_toFloor.f (k:Nat) (a0_0:Int) (a0_1:Int) (l0_2:List (S44)):Option (Int × Int × (List (S48))):=(laws_toCellS.f k l0_2).bind fun t131=>(some (a0_0,a0_1,t131))
set_option maxHeartbeats 8000000 in
set_option maxRecDepth 100000 in
theorem laws_toFloor.calls (k:Nat) (a0_0:Int) (a0_1:Int) (A0_2:Option Addr) (c0_2:Nat) (l0_2:List (S44)) (r1:Int) (r2:Int) (r3:List (S48)) (w:World) (hr0_2:Kd.C k44 w A0_2 l0_2.length l0_2) (hc0_2:l0_2.length ≤ c0_2) (h:laws_toFloor.f k a0_0 a0_1 l0_2 = some (r1,r2,r3)) :
  Calls Try.prog 15 #[.agg #[.int .i64 a0_0,.int .i64 a0_1,.slice A0_2 l0_2.length c0_2]] w fun e w' => ∃ v2_:Value,e = .returned (.agg #[.int .i64 r1,.int .i64 r2,v2_]) ∧ Kd.R k48 48 w' w.heap.size (fun _=>True) v2_ r3 ∧ Below w.heap.size w w':=by
 have hu24:=Try.underlying24;have hu29:=Try.underlying29;have HR0_2:=zM hr0_2;have HC0_2:=zM hc0_2;clear hr0_2 hc0_2;have HB:=zM (Below.refl w.heap.size w);have H:((laws_toCellS.f k l0_2).bind fun t131=>(some (a0_0,a0_1,t131))) = some (r1,r2,r3):=h
 clear h;replace H:=Option.bind_eq_some_iff.mp H;obtain ⟨t131,A20,H⟩:=H;replace H:(some (a0_0,a0_1,t131)) = some (r1,r2,r3):=H
 have A2:=zM A20;clear A20;simp only [Option.some.injEq,Prod.mk.injEq] at H
 obtain ⟨rfl,rfl,rfl⟩:=H;go_enter Try.func15,Try.ntmps15
 go_wp2_with (first|((with_reducible refine gate_dst (N:=1) rfl ?_);refine zzc 1 #[.int .i64 a0_0,.int .i64 a0_1,.slice A0_2 l0_2.length c0_2] 24 ?_;intro gb128 hg w3 hbox hb;have n0_:=zM (zQ zzh hb);have n1_:=zM (hbox);have n2_:=zM ((by rw [hg];exact (zR zzh):w.heap.size ≤ gb128));have n3_:=zM ((by rw [hg];exact (zR zzh):w.heap.size ≤ gb128));clear HB;have HB:=n0_;have BK128:=n1_;have GW128:=n2_;have GE128:=n3_;clear n0_ n1_ n2_ n3_;clear hb hbox hg)|((with_reducible refine gate_dst (N:=2) rfl ?_);refine zzc 2 #[.int .i64 0,.int .i64 0,.slice none 0 0] 29 ?_;intro gb129 hg w4 hbox hb;have n0_:=zM (blk_below (g:=gb128) (o := .cells #[.int .i64 a0_0,.int .i64 a0_1,.slice A0_2 l0_2.length c0_2] 24 (0,0)) (zzi BK128) hb);have n1_:=zM (zQ zzh hb);have n2_:=zM (hbox);have n3_:=zM ((by rw [hg];exact (zR zzh):w.heap.size ≤ gb129));have n4_:=zM ((by rw [hg];exact (zR zzh):w.heap.size ≤ gb129));have n5_:=zM ((by rw [hg];exact Nat.ne_of_lt (blk_lt (g:=gb128) (o := .cells #[.int .i64 a0_0,.int .i64 a0_1,.slice A0_2 l0_2.length c0_2] 24 (0,0)) (zzi BK128)):gb128 ≠ gb129));have n6_:=zM ((by rw [hg];exact Nat.ne_of_gt (blk_lt (g:=gb128) (o := .cells #[.int .i64 a0_0,.int .i64 a0_1,.slice A0_2 l0_2.length c0_2] 24 (0,0)) (zzi BK128)):gb129 ≠ gb128));clear BK128;clear HB;have BK128:=n0_;have HB:=n1_;have BK129:=n2_;have GW129:=n3_;have GE129:=n4_;have NB128_129:=n5_;have NB129_128:=n6_;clear n0_ n1_ n2_ n3_ n4_ n5_ n6_;clear hb hbox hg)|((with_reducible refine gate_dst (N:=3) rfl ?_);refine zzc 3 #[.int .i64 0,.int .i64 0,.slice none 0 0] 29 ?_;intro gb130 hg w5 hbox hb;have n0_:=zM (blk_below (g:=gb128) (o := .cells #[.int .i64 a0_0,.int .i64 a0_1,.slice A0_2 l0_2.length c0_2] 24 (0,0)) (zzi BK128) hb);have n1_:=zM (blk_below (g:=gb129) (o := .cells #[.int .i64 0,.int .i64 0,.slice none 0 0] 29 (0,0)) (zzi BK129) hb);have n2_:=zM (zQ zzh hb);have n3_:=zM (hbox);have n4_:=zM ((by rw [hg];exact (zR zzh):w.heap.size ≤ gb130));have n5_:=zM ((by rw [hg];exact (zR zzh):w.heap.size ≤ gb130));have n6_:=zM ((by rw [hg];exact Nat.ne_of_lt (blk_lt (g:=gb128) (o := .cells #[.int .i64 a0_0,.int .i64 a0_1,.slice A0_2 l0_2.length c0_2] 24 (0,0)) (zzi BK128)):gb128 ≠ gb130));have n7_:=zM ((by rw [hg];exact Nat.ne_of_gt (blk_lt (g:=gb128) (o := .cells #[.int .i64 a0_0,.int .i64 a0_1,.slice A0_2 l0_2.length c0_2] 24 (0,0)) (zzi BK128)):gb130 ≠ gb128));have n8_:=zM ((by rw [hg];exact Nat.ne_of_lt (blk_lt (g:=gb129) (o := .cells #[.int .i64 0,.int .i64 0,.slice none 0 0] 29 (0,0)) (zzi BK129)):gb129 ≠ gb130));have n9_:=zM ((by rw [hg];exact Nat.ne_of_gt (blk_lt (g:=gb129) (o := .cells #[.int .i64 0,.int .i64 0,.slice none 0 0] 29 (0,0)) (zzi BK129)):gb130 ≠ gb129));clear BK128;clear BK129;clear HB;have BK128:=n0_;have BK129:=n1_;have HB:=n2_;have BK130:=n3_;have GW130:=n4_;have GE130:=n5_;have NB128_130:=n6_;have NB130_128:=n7_;have NB129_130:=n8_;have NB130_129:=n9_;clear n0_ n1_ n2_ n3_ n4_ n5_ n6_ n7_ n8_ n9_;clear hb hbox hg;have hnb6:=NB128_129.out;have hnc6:=NB129_128.out;have hnb7:=NB128_130.out;have hnc7:=NB130_128.out;have hcz8_0:=zz0 BK128;have hcz8_1:=zz1 BK128;have hcz8_2:=zz2 BK128;have hfz8_0:=blk_frozen BK128.out 0;have hfz8_1:=blk_frozen BK128.out 1;have hfz8_2:=blk_frozen BK128.out 2;have hnb9:=NB130_129.out;have hnc9:=NB129_130.out;have hcz10_0:=zz0 BK130;have hcz10_1:=zz1 BK130;have hcz10_2:=zz2 BK130;have hfz10_0:=blk_frozen BK130.out 0;have hfz10_1:=blk_frozen BK130.out 1;have hfz10_2:=blk_frozen BK130.out 2)|((with_reducible refine gate_callee (f:=20) rfl ?_);refine goesL_ (some 12) rfl rfl Try.func20 (by kernel_rfl) rfl #[.slice A0_2 l0_2.length c0_2] rfl (by (try simp only [List.map_toArray,List.map_cons,List.map_nil]);first|done|rfl|(simp only [List.length_drop,List.length_take];rfl)) ?_;(with_reducible refine (laws_toCellS.calls k _ _ l0_2 t131 _ ?side1 ?side2 A2.out).mono ?_);(case side1=>exact zO HR0_2.out zzh);(case side2=>exact HC0_2.out);rintro e w11 ⟨v132,rfl,ho0,hb⟩;refine ⟨_,rfl,?_⟩;have n0_:=zM (Kd.R_lower ho0 (zR zzh));have n1_:=zM (blk_below (g:=gb128) (o := .cells #[.int .i64 a0_0,.int .i64 a0_1,.slice A0_2 l0_2.length c0_2] 24 (0,0)) (by (with_reducible repeat (first|refine zJ ?_ _|refine zK ?_|refine zL ?_ _));refine blk_far ?_ NB128_130.out _;(with_reducible repeat (first|refine zJ ?_ _|refine zK ?_|refine zL ?_ _));refine blk_far ?_ NB128_130.out _;(with_reducible repeat (first|refine zJ ?_ _|refine zK ?_|refine zL ?_ _));exact BK128.out) hb);have n2_:=zM (blk_below (g:=gb129) (o := .cells #[.int .i64 0,.int .i64 0,.slice none 0 0] 29 (0,0)) (by (with_reducible repeat (first|refine zJ ?_ _|refine zK ?_|refine zL ?_ _));refine blk_far ?_ NB129_130.out _;(with_reducible repeat (first|refine zJ ?_ _|refine zK ?_|refine zL ?_ _));refine blk_far ?_ NB129_130.out _;(with_reducible repeat (first|refine zJ ?_ _|refine zK ?_|refine zL ?_ _));exact BK129.out) hb);have n3_:=zM (blk_below (g:=gb130) (o := .cells #[.int .i64 a0_0,.int .i64 a0_1,.slice none 0 0] 29 (0,0)) (by (with_reducible repeat (first|refine zJ ?_ _|refine zK ?_|refine zL ?_ _));refine blk_put (cs := #[.int .i64 a0_0,.int .i64 0,.slice none 0 0]) ?_ 1 _ rfl;(with_reducible repeat (first|refine zJ ?_ _|refine zK ?_|refine zL ?_ _));refine blk_put (cs := #[.int .i64 0,.int .i64 0,.slice none 0 0]) ?_ 0 _ rfl;(with_reducible repeat (first|refine zJ ?_ _|refine zK ?_|refine zL ?_ _));exact BK130.out) hb);have n4_:=zM (zQ zzh hb);clear BK128;clear BK129;clear BK130;clear HB;have HO133:=n0_;have BK128:=n1_;have BK129:=n2_;have BK130:=n3_;have HB:=n4_;clear n0_ n1_ n2_ n3_ n4_;(try clear hb);(try clear hb2);(try clear hk);(try clear hi);(try clear ho0);obtain ⟨Ao12,co12,eo12⟩:=Kd.R_slice HO133.out;subst eo12;have hcz13_0:=zz0 BK130;have hcz13_1:=zz1 BK130;have hcz13_2:=zz2 BK130;have hfz13_0:=blk_frozen BK130.out 0;have hfz13_1:=blk_frozen BK130.out 1;have hfz13_2:=blk_frozen BK130.out 2;have hcz14_0:=zz0 BK129;have hcz14_1:=zz1 BK129;have hcz14_2:=zz2 BK129;have hfz14_0:=blk_frozen BK129.out 0;have hfz14_1:=blk_frozen BK129.out 1;have hfz14_2:=blk_frozen BK129.out 2))
 refine bodyPost_ret (results_cell_row rfl _ _ gb129 29 #[.int .i64 a0_0,.int .i64 a0_1,.slice Ao12 t131.length co12] (0,0) _ rfl (by (with_reducible repeat (first|refine zJ ?_ _|refine zK ?_|refine zL ?_ _));refine blk_put (cs := #[.int .i64 a0_0,.int .i64 a0_1,.slice none 0 0]) ?_ 2 _ rfl;(with_reducible repeat (first|refine zJ ?_ _|refine zK ?_|refine zL ?_ _));refine blk_put (cs := #[.int .i64 a0_0,.int .i64 0,.slice none 0 0]) ?_ 1 _ rfl;(with_reducible repeat (first|refine zJ ?_ _|refine zK ?_|refine zL ?_ _));refine blk_put (cs := #[.int .i64 0,.int .i64 0,.slice none 0 0]) ?_ 0 _ rfl;(with_reducible repeat (first|refine zJ ?_ _|refine zK ?_|refine zL ?_ _));refine blk_far ?_ NB129_130.out _;(with_reducible repeat (first|refine zJ ?_ _|refine zK ?_|refine zL ?_ _));exact BK129.out) Try.underlying29 rfl (by kernel_rfl)) rfl ?_
 exact ⟨_,by first|rfl|(simp [errW_none,errW_some] <;> rfl)|(simp [*,errW_none,errW_some] <;> rfl),by (with_reducible repeat (first|apply zA|apply zB|apply zC));exact Kd.R_mono (Kd.R_far (p:=⟨gb129,2,none⟩) (Kd.R_far (p:=⟨gb129,1,none⟩) (Kd.R_far (p:=⟨gb129,0,none⟩) (Kd.R_far (p:=⟨gb130,2,none⟩) (Kd.R_types (Kd.R_types HO133.out BK130.out (by decide)) BK129.out (by decide)) (fun _ hk=>hk.1.2) (.slice Ao12 t131.length co12)) (fun _ hk=>hk.2) (.int .i64 a0_0)) (fun _ hk=>hk.2) (.int .i64 a0_1)) (fun _ hk=>hk.2) (.slice Ao12 t131.length co12)) (fun _ hk=>trivial),zzh⟩



/-! ### laws_eqFloor: function 17 -/
def laws_eqFloor.f (k:Nat) (a0_0:Int) (a0_1:Int) (l0_2:List (S48)) (a1_0:Int) (a1_1:Int) (l1_2:List (S48)):Option (Bool):=if a0_0 = a1_0 then (if a0_1 = a1_1 then ((laws_eqCellS.f k l0_2 l1_2).bind fun t155=>(if t155 = true then (some true) else (some false))) else (some false)) else (some false)
set_option maxHeartbeats 8000000 in
set_option maxRecDepth 100000 in
theorem laws_eqFloor.calls (k:Nat) (a0_0:Int) (a0_1:Int) (A0_2:Option Addr) (c0_2:Nat) (l0_2:List (S48)) (a1_0:Int) (a1_1:Int) (A1_2:Option Addr) (c1_2:Nat) (l1_2:List (S48)) (r:Bool) (w:World) (hr0_2:Kd.C k48 w A0_2 l0_2.length l0_2) (hc0_2:l0_2.length ≤ c0_2) (hr1_2:Kd.C k48 w A1_2 l1_2.length l1_2) (hc1_2:l1_2.length ≤ c1_2) (h:laws_eqFloor.f k a0_0 a0_1 l0_2 a1_0 a1_1 l1_2 = some r) :
  Calls Try.prog 17 #[.agg #[.int .i64 a0_0,.int .i64 a0_1,.slice A0_2 l0_2.length c0_2],.agg #[.int .i64 a1_0,.int .i64 a1_1,.slice A1_2 l1_2.length c1_2]] w fun e w'=>e = .returned (.bool r) ∧ Below w.heap.size w w':=by
 have hu29:=Try.underlying29;have HR0_2:=zM hr0_2;have HC0_2:=zM hc0_2;clear hr0_2 hc0_2;have HR1_2:=zM hr1_2;have HC1_2:=zM hc1_2;clear hr1_2 hc1_2;have HB:=zM (Below.refl w.heap.size w);have H:(if a0_0 = a1_0 then (if a0_1 = a1_1 then ((laws_eqCellS.f k l0_2 l1_2).bind fun t155=>(if t155 = true then (some true) else (some false))) else (some false)) else (some false)) = some r:=h
 clear h;by_cases c3:a0_0 = a1_0
 ·rw [if_pos c3] at H
  have c3b0:(a0_0 == a1_0) = true:=beq_iff_eq.mpr c3
  have c3b1:(a0_0 != a1_0) = false:=bne_eq_false_iff_eq.mpr c3
  clear c3;by_cases c4:a0_1 = a1_1
  ·rw [if_pos c4] at H
   have c4b0:(a0_1 == a1_1) = true:=beq_iff_eq.mpr c4
   have c4b1:(a0_1 != a1_1) = false:=bne_eq_false_iff_eq.mpr c4
   clear c4;replace H:=Option.bind_eq_some_iff.mp H;obtain ⟨t155,A50,H⟩:=H;replace H:(if t155 = true then (some true) else (some false)) = some r:=H
   have A5:=zM A50;clear A50;by_cases c6:t155 = true
   ·subst c6
    have H1:(some true) = some r:=by rw [if_pos rfl] at H;exact H
    clear H;have H:=H1;clear H1;obtain rfl:=Option.some.inj H;go_enter Try.func17,Try.ntmps17
    go_wp2_with (first|((with_reducible refine gate_dst (N:=2) rfl ?_);refine zzc 2 #[.int .i64 a0_0,.int .i64 a0_1,.slice A0_2 l0_2.length c0_2] 29 ?_;intro gb153 hg w7 hbox hb;have n0_:=zM (zQ zzh hb);have n1_:=zM (hbox);have n2_:=zM ((by rw [hg];exact (zR zzh):w.heap.size ≤ gb153));have n3_:=zM ((by rw [hg];exact (zR zzh):w.heap.size ≤ gb153));clear HB;have HB:=n0_;have BK153:=n1_;have GW153:=n2_;have GE153:=n3_;clear n0_ n1_ n2_ n3_;clear hb hbox hg)|((with_reducible refine gate_dst (N:=3) rfl ?_);refine zzc 3 #[.int .i64 a1_0,.int .i64 a1_1,.slice A1_2 l1_2.length c1_2] 29 ?_;intro gb154 hg w8 hbox hb;have n0_:=zM (blk_below (g:=gb153) (o := .cells #[.int .i64 a0_0,.int .i64 a0_1,.slice A0_2 l0_2.length c0_2] 29 (0,0)) (zzi BK153) hb);have n1_:=zM (zQ zzh hb);have n2_:=zM (hbox);have n3_:=zM ((by rw [hg];exact (zR zzh):w.heap.size ≤ gb154));have n4_:=zM ((by rw [hg];exact (zR zzh):w.heap.size ≤ gb154));have n5_:=zM ((by rw [hg];exact Nat.ne_of_lt (blk_lt (g:=gb153) (o := .cells #[.int .i64 a0_0,.int .i64 a0_1,.slice A0_2 l0_2.length c0_2] 29 (0,0)) (zzi BK153)):gb153 ≠ gb154));have n6_:=zM ((by rw [hg];exact Nat.ne_of_gt (blk_lt (g:=gb153) (o := .cells #[.int .i64 a0_0,.int .i64 a0_1,.slice A0_2 l0_2.length c0_2] 29 (0,0)) (zzi BK153)):gb154 ≠ gb153));clear BK153;clear HB;have BK153:=n0_;have HB:=n1_;have BK154:=n2_;have GW154:=n3_;have GE154:=n4_;have NB153_154:=n5_;have NB154_153:=n6_;clear n0_ n1_ n2_ n3_ n4_ n5_ n6_;clear hb hbox hg;have hnb9:=NB153_154.out;have hnc9:=NB154_153.out;have hcz10_0:=zz0 BK153;have hcz10_1:=zz1 BK153;have hcz10_2:=zz2 BK153;have hfz10_0:=blk_frozen BK153.out 0;have hfz10_1:=blk_frozen BK153.out 1;have hfz10_2:=blk_frozen BK153.out 2;have hcz11_0:=zz0 BK154;have hcz11_1:=zz1 BK154;have hcz11_2:=zz2 BK154;have hfz11_0:=blk_frozen BK154.out 0;have hfz11_1:=blk_frozen BK154.out 1;have hfz11_2:=blk_frozen BK154.out 2)|((with_reducible refine gate_callee (f:=22) rfl ?_);refine goesL_ (some 19) rfl rfl Try.func22 (by kernel_rfl) rfl #[.slice A0_2 l0_2.length c0_2,.slice A1_2 l1_2.length c1_2] rfl (by (try simp only [List.map_toArray,List.map_cons,List.map_nil]);first|done|rfl|(simp only [List.length_drop,List.length_take];rfl)) ?_;(with_reducible refine (laws_eqCellS.calls k _ _ l0_2 _ _ l1_2 true _ ?side1 ?side2 ?side3 ?side4 A5.out).mono ?_);(case side1=>repeat (first|exact (zO HR0_2.out HB.out)|(with_reducible first|refine zG ?_ _|refine zH ?_ _|refine zI ?_)));(case side2=>exact HC0_2.out);(case side3=>repeat (first|exact (zO HR1_2.out HB.out)|(with_reducible first|refine zG ?_ _|refine zH ?_ _|refine zI ?_)));(case side4=>exact HC1_2.out);rintro e w12 ⟨rfl,hb⟩;refine ⟨_,rfl,?_⟩;have n0_:=zM (blk_below (g:=gb153) (o := .cells #[.int .i64 a0_0,.int .i64 a0_1,.slice A0_2 l0_2.length c0_2] 29 (0,0)) (zzi BK153) hb);have n1_:=zM (blk_below (g:=gb154) (o := .cells #[.int .i64 a1_0,.int .i64 a1_1,.slice A1_2 l1_2.length c1_2] 29 (0,0)) (zzi BK154) hb);have n2_:=zM (zQ zzh hb);clear BK153;clear BK154;clear HB;have BK153:=n0_;have BK154:=n1_;have HB:=n2_;clear n0_ n1_ n2_;(try clear hb);(try clear hb2);(try clear hk);(try clear hi)))
    go_ret
    exact ⟨by first|rfl|(simp [errW_none,errW_some] <;> rfl)|(simp [*,errW_none,errW_some] <;> rfl),zzh⟩
   ·replace c6:=Bool.eq_false_iff.mpr c6
    subst c6;have H1:(some false) = some r:=by rw [if_neg (show ¬ (false = true) by decide)] at H;exact H
    clear H;have H:=H1;clear H1;obtain rfl:=Option.some.inj H;go_enter Try.func17,Try.ntmps17
    go_wp2_with (first|((with_reducible refine gate_dst (N:=2) rfl ?_);refine zzc 2 #[.int .i64 a0_0,.int .i64 a0_1,.slice A0_2 l0_2.length c0_2] 29 ?_;intro gb153 hg w13 hbox hb;have n0_:=zM (zQ zzh hb);have n1_:=zM (hbox);have n2_:=zM ((by rw [hg];exact (zR zzh):w.heap.size ≤ gb153));have n3_:=zM ((by rw [hg];exact (zR zzh):w.heap.size ≤ gb153));clear HB;have HB:=n0_;have BK153:=n1_;have GW153:=n2_;have GE153:=n3_;clear n0_ n1_ n2_ n3_;clear hb hbox hg)|((with_reducible refine gate_dst (N:=3) rfl ?_);refine zzc 3 #[.int .i64 a1_0,.int .i64 a1_1,.slice A1_2 l1_2.length c1_2] 29 ?_;intro gb154 hg w14 hbox hb;have n0_:=zM (blk_below (g:=gb153) (o := .cells #[.int .i64 a0_0,.int .i64 a0_1,.slice A0_2 l0_2.length c0_2] 29 (0,0)) (zzi BK153) hb);have n1_:=zM (zQ zzh hb);have n2_:=zM (hbox);have n3_:=zM ((by rw [hg];exact (zR zzh):w.heap.size ≤ gb154));have n4_:=zM ((by rw [hg];exact (zR zzh):w.heap.size ≤ gb154));have n5_:=zM ((by rw [hg];exact Nat.ne_of_lt (blk_lt (g:=gb153) (o := .cells #[.int .i64 a0_0,.int .i64 a0_1,.slice A0_2 l0_2.length c0_2] 29 (0,0)) (zzi BK153)):gb153 ≠ gb154));have n6_:=zM ((by rw [hg];exact Nat.ne_of_gt (blk_lt (g:=gb153) (o := .cells #[.int .i64 a0_0,.int .i64 a0_1,.slice A0_2 l0_2.length c0_2] 29 (0,0)) (zzi BK153)):gb154 ≠ gb153));clear BK153;clear HB;have BK153:=n0_;have HB:=n1_;have BK154:=n2_;have GW154:=n3_;have GE154:=n4_;have NB153_154:=n5_;have NB154_153:=n6_;clear n0_ n1_ n2_ n3_ n4_ n5_ n6_;clear hb hbox hg;have hnb15:=NB153_154.out;have hnc15:=NB154_153.out;have hcz16_0:=zz0 BK153;have hcz16_1:=zz1 BK153;have hcz16_2:=zz2 BK153;have hfz16_0:=blk_frozen BK153.out 0;have hfz16_1:=blk_frozen BK153.out 1;have hfz16_2:=blk_frozen BK153.out 2;have hcz17_0:=zz0 BK154;have hcz17_1:=zz1 BK154;have hcz17_2:=zz2 BK154;have hfz17_0:=blk_frozen BK154.out 0;have hfz17_1:=blk_frozen BK154.out 1;have hfz17_2:=blk_frozen BK154.out 2)|((with_reducible refine gate_callee (f:=22) rfl ?_);refine goesL_ (some 19) rfl rfl Try.func22 (by kernel_rfl) rfl #[.slice A0_2 l0_2.length c0_2,.slice A1_2 l1_2.length c1_2] rfl (by (try simp only [List.map_toArray,List.map_cons,List.map_nil]);first|done|rfl|(simp only [List.length_drop,List.length_take];rfl)) ?_;(with_reducible refine (laws_eqCellS.calls k _ _ l0_2 _ _ l1_2 false _ ?side1 ?side2 ?side3 ?side4 A5.out).mono ?_);(case side1=>repeat (first|exact (zO HR0_2.out HB.out)|(with_reducible first|refine zG ?_ _|refine zH ?_ _|refine zI ?_)));(case side2=>exact HC0_2.out);(case side3=>repeat (first|exact (zO HR1_2.out HB.out)|(with_reducible first|refine zG ?_ _|refine zH ?_ _|refine zI ?_)));(case side4=>exact HC1_2.out);rintro e w18 ⟨rfl,hb⟩;refine ⟨_,rfl,?_⟩;have n0_:=zM (blk_below (g:=gb153) (o := .cells #[.int .i64 a0_0,.int .i64 a0_1,.slice A0_2 l0_2.length c0_2] 29 (0,0)) (zzi BK153) hb);have n1_:=zM (blk_below (g:=gb154) (o := .cells #[.int .i64 a1_0,.int .i64 a1_1,.slice A1_2 l1_2.length c1_2] 29 (0,0)) (zzi BK154) hb);have n2_:=zM (zQ zzh hb);clear BK153;clear BK154;clear HB;have BK153:=n0_;have BK154:=n1_;have HB:=n2_;clear n0_ n1_ n2_;(try clear hb);(try clear hb2);(try clear hk);(try clear hi)))
    go_ret
    exact ⟨by first|rfl|(simp [errW_none,errW_some] <;> rfl)|(simp [*,errW_none,errW_some] <;> rfl),zzh⟩
  ·rw [if_neg c4] at H
   have c4b0:(a0_1 == a1_1) = false:=beq_eq_false_iff_ne.mpr c4
   have c4b1:(a0_1 != a1_1) = true:=bne_iff_ne.mpr c4
   obtain rfl:=Option.some.inj H;go_enter Try.func17,Try.ntmps17
   go_wp2_with (first|((with_reducible refine gate_dst (N:=2) rfl ?_);refine zzc 2 #[.int .i64 a0_0,.int .i64 a0_1,.slice A0_2 l0_2.length c0_2] 29 ?_;intro gb153 hg w19 hbox hb;have n0_:=zM (zQ zzh hb);have n1_:=zM (hbox);have n2_:=zM ((by rw [hg];exact (zR zzh):w.heap.size ≤ gb153));have n3_:=zM ((by rw [hg];exact (zR zzh):w.heap.size ≤ gb153));clear HB;have HB:=n0_;have BK153:=n1_;have GW153:=n2_;have GE153:=n3_;clear n0_ n1_ n2_ n3_;clear hb hbox hg)|((with_reducible refine gate_dst (N:=3) rfl ?_);refine zzc 3 #[.int .i64 a1_0,.int .i64 a1_1,.slice A1_2 l1_2.length c1_2] 29 ?_;intro gb154 hg w20 hbox hb;have n0_:=zM (blk_below (g:=gb153) (o := .cells #[.int .i64 a0_0,.int .i64 a0_1,.slice A0_2 l0_2.length c0_2] 29 (0,0)) (zzi BK153) hb);have n1_:=zM (zQ zzh hb);have n2_:=zM (hbox);have n3_:=zM ((by rw [hg];exact (zR zzh):w.heap.size ≤ gb154));have n4_:=zM ((by rw [hg];exact (zR zzh):w.heap.size ≤ gb154));have n5_:=zM ((by rw [hg];exact Nat.ne_of_lt (blk_lt (g:=gb153) (o := .cells #[.int .i64 a0_0,.int .i64 a0_1,.slice A0_2 l0_2.length c0_2] 29 (0,0)) (zzi BK153)):gb153 ≠ gb154));have n6_:=zM ((by rw [hg];exact Nat.ne_of_gt (blk_lt (g:=gb153) (o := .cells #[.int .i64 a0_0,.int .i64 a0_1,.slice A0_2 l0_2.length c0_2] 29 (0,0)) (zzi BK153)):gb154 ≠ gb153));clear BK153;clear HB;have BK153:=n0_;have HB:=n1_;have BK154:=n2_;have GW154:=n3_;have GE154:=n4_;have NB153_154:=n5_;have NB154_153:=n6_;clear n0_ n1_ n2_ n3_ n4_ n5_ n6_;clear hb hbox hg;have hnb21:=NB153_154.out;have hnc21:=NB154_153.out;have hcz22_0:=zz0 BK153;have hcz22_1:=zz1 BK153;have hcz22_2:=zz2 BK153;have hfz22_0:=blk_frozen BK153.out 0;have hfz22_1:=blk_frozen BK153.out 1;have hfz22_2:=blk_frozen BK153.out 2;have hcz23_0:=zz0 BK154;have hcz23_1:=zz1 BK154;have hcz23_2:=zz2 BK154;have hfz23_0:=blk_frozen BK154.out 0;have hfz23_1:=blk_frozen BK154.out 1;have hfz23_2:=blk_frozen BK154.out 2))
   go_ret
   exact ⟨by first|rfl|(simp [errW_none,errW_some] <;> rfl)|(simp [*,errW_none,errW_some] <;> rfl),zzh⟩
 ·rw [if_neg c3] at H
  have c3b0:(a0_0 == a1_0) = false:=beq_eq_false_iff_ne.mpr c3
  have c3b1:(a0_0 != a1_0) = true:=bne_iff_ne.mpr c3
  obtain rfl:=Option.some.inj H;go_enter Try.func17,Try.ntmps17
  go_wp2_with (first|((with_reducible refine gate_dst (N:=2) rfl ?_);refine zzc 2 #[.int .i64 a0_0,.int .i64 a0_1,.slice A0_2 l0_2.length c0_2] 29 ?_;intro gb153 hg w24 hbox hb;have n0_:=zM (zQ zzh hb);have n1_:=zM (hbox);have n2_:=zM ((by rw [hg];exact (zR zzh):w.heap.size ≤ gb153));have n3_:=zM ((by rw [hg];exact (zR zzh):w.heap.size ≤ gb153));clear HB;have HB:=n0_;have BK153:=n1_;have GW153:=n2_;have GE153:=n3_;clear n0_ n1_ n2_ n3_;clear hb hbox hg)|((with_reducible refine gate_dst (N:=3) rfl ?_);refine zzc 3 #[.int .i64 a1_0,.int .i64 a1_1,.slice A1_2 l1_2.length c1_2] 29 ?_;intro gb154 hg w25 hbox hb;have n0_:=zM (blk_below (g:=gb153) (o := .cells #[.int .i64 a0_0,.int .i64 a0_1,.slice A0_2 l0_2.length c0_2] 29 (0,0)) (zzi BK153) hb);have n1_:=zM (zQ zzh hb);have n2_:=zM (hbox);have n3_:=zM ((by rw [hg];exact (zR zzh):w.heap.size ≤ gb154));have n4_:=zM ((by rw [hg];exact (zR zzh):w.heap.size ≤ gb154));have n5_:=zM ((by rw [hg];exact Nat.ne_of_lt (blk_lt (g:=gb153) (o := .cells #[.int .i64 a0_0,.int .i64 a0_1,.slice A0_2 l0_2.length c0_2] 29 (0,0)) (zzi BK153)):gb153 ≠ gb154));have n6_:=zM ((by rw [hg];exact Nat.ne_of_gt (blk_lt (g:=gb153) (o := .cells #[.int .i64 a0_0,.int .i64 a0_1,.slice A0_2 l0_2.length c0_2] 29 (0,0)) (zzi BK153)):gb154 ≠ gb153));clear BK153;clear HB;have BK153:=n0_;have HB:=n1_;have BK154:=n2_;have GW154:=n3_;have GE154:=n4_;have NB153_154:=n5_;have NB154_153:=n6_;clear n0_ n1_ n2_ n3_ n4_ n5_ n6_;clear hb hbox hg;have hnb26:=NB153_154.out;have hnc26:=NB154_153.out;have hcz27_0:=zz0 BK153;have hcz27_1:=zz1 BK153;have hcz27_2:=zz2 BK153;have hfz27_0:=blk_frozen BK153.out 0;have hfz27_1:=blk_frozen BK153.out 1;have hfz27_2:=blk_frozen BK153.out 2;have hcz28_0:=zz0 BK154;have hcz28_1:=zz1 BK154;have hcz28_2:=zz2 BK154;have hfz28_0:=blk_frozen BK154.out 0;have hfz28_1:=blk_frozen BK154.out 1;have hfz28_2:=blk_frozen BK154.out 2))
  go_ret
  exact ⟨by first|rfl|(simp [errW_none,errW_some] <;> rfl)|(simp [*,errW_none,errW_some] <;> rfl),zzh⟩



/-! ### laws_szFloor: function 13 -/
def laws_szFloor.f (a0_0:Int) (a0_1:Int) (l0_2:List (S44)) (a1:Int):Option (Int):=(laws_szCellS.f l0_2 a1).bind fun t102=>(if t102 < 0 then (some (-1)) else (some t102))
set_option maxHeartbeats 8000000 in
set_option maxRecDepth 100000 in
theorem laws_szFloor.calls (a0_0:Int) (a0_1:Int) (A0_2:Option Addr) (c0_2:Nat) (l0_2:List (S44)) (a1:Int) (r:Int) (w:World) (hr0_2:Kd.C k44 w A0_2 l0_2.length l0_2) (hc0_2:l0_2.length ≤ c0_2) (h:laws_szFloor.f a0_0 a0_1 l0_2 a1 = some r) :
  Calls Try.prog 13 #[.agg #[.int .i64 a0_0,.int .i64 a0_1,.slice A0_2 l0_2.length c0_2],.int .i64 a1] w fun e w'=>e = .returned (.int .i64 r) ∧ Below w.heap.size w w':=by
 have hu24:=Try.underlying24;have HR0_2:=zM hr0_2;have HC0_2:=zM hc0_2;clear hr0_2 hc0_2;have HB:=zM (Below.refl w.heap.size w);have H:((laws_szCellS.f l0_2 a1).bind fun t102=>(if t102 < 0 then (some (-1)) else (some t102))) = some r:=h
 clear h;replace H:=Option.bind_eq_some_iff.mp H;obtain ⟨t102,A30,H⟩:=H;replace H:(if t102 < 0 then (some (-1)) else (some t102)) = some r:=H
 have A3:=zM A30;clear A30;by_cases c4:t102 < 0
 ·rw [if_pos c4] at H
  have c4b0:decide (t102 < 0) = true:=decide_eq_true c4
  clear c4;obtain rfl:=Option.some.inj H;go_enter Try.func13,Try.ntmps13
  go_wp2_with (first|((with_reducible refine gate_dst (N:=2) rfl ?_);refine zzc 2 #[.int .i64 a0_0,.int .i64 a0_1,.slice A0_2 l0_2.length c0_2] 24 ?_;intro gb101 hg w5 hbox hb;have n0_:=zM (zQ zzh hb);have n1_:=zM (hbox);have n2_:=zM ((by rw [hg];exact (zR zzh):w.heap.size ≤ gb101));have n3_:=zM ((by rw [hg];exact (zR zzh):w.heap.size ≤ gb101));clear HB;have HB:=n0_;have BK101:=n1_;have GW101:=n2_;have GE101:=n3_;clear n0_ n1_ n2_ n3_;clear hb hbox hg;have hcz6_0:=zz0 BK101;have hcz6_1:=zz1 BK101;have hcz6_2:=zz2 BK101;have hfz6_0:=blk_frozen BK101.out 0;have hfz6_1:=blk_frozen BK101.out 1;have hfz6_2:=blk_frozen BK101.out 2)|((with_reducible refine gate_callee (f:=18) rfl ?_);refine goesL_ (some 8) rfl rfl Try.func18 (by kernel_rfl) rfl #[.slice A0_2 l0_2.length c0_2,.int .i64 a1] rfl (by (try simp only [List.map_toArray,List.map_cons,List.map_nil]);first|done|rfl|(simp only [List.length_drop,List.length_take];rfl)) ?_;(with_reducible refine (laws_szCellS.calls _ _ l0_2 a1 t102 _ ?side1 ?side2 A3.out).mono ?_);(case side1=>repeat (first|exact (zO HR0_2.out HB.out)|(with_reducible first|refine zG ?_ _|refine zH ?_ _|refine zI ?_)));(case side2=>exact HC0_2.out);rintro e w' ⟨rfl,⟨nd,rfl⟩⟩;refine ⟨_,rfl,?_⟩))
  go_ret
  exact ⟨by first|rfl|(simp [errW_none,errW_some] <;> rfl)|(simp [*,errW_none,errW_some] <;> rfl),zzh⟩
 ·rw [if_neg c4] at H
  have c4b0:decide (t102 < 0) = false:=decide_eq_false c4
  clear c4;obtain rfl:=Option.some.inj H;go_enter Try.func13,Try.ntmps13
  go_wp2_with (first|((with_reducible refine gate_dst (N:=2) rfl ?_);refine zzc 2 #[.int .i64 a0_0,.int .i64 a0_1,.slice A0_2 l0_2.length c0_2] 24 ?_;intro gb101 hg w7 hbox hb;have n0_:=zM (zQ zzh hb);have n1_:=zM (hbox);have n2_:=zM ((by rw [hg];exact (zR zzh):w.heap.size ≤ gb101));have n3_:=zM ((by rw [hg];exact (zR zzh):w.heap.size ≤ gb101));clear HB;have HB:=n0_;have BK101:=n1_;have GW101:=n2_;have GE101:=n3_;clear n0_ n1_ n2_ n3_;clear hb hbox hg;have hcz8_0:=zz0 BK101;have hcz8_1:=zz1 BK101;have hcz8_2:=zz2 BK101;have hfz8_0:=blk_frozen BK101.out 0;have hfz8_1:=blk_frozen BK101.out 1;have hfz8_2:=blk_frozen BK101.out 2)|((with_reducible refine gate_callee (f:=18) rfl ?_);refine goesL_ (some 8) rfl rfl Try.func18 (by kernel_rfl) rfl #[.slice A0_2 l0_2.length c0_2,.int .i64 a1] rfl (by (try simp only [List.map_toArray,List.map_cons,List.map_nil]);first|done|rfl|(simp only [List.length_drop,List.length_take];rfl)) ?_;(with_reducible refine (laws_szCellS.calls _ _ l0_2 a1 t102 _ ?side1 ?side2 A3.out).mono ?_);(case side1=>repeat (first|exact (zO HR0_2.out HB.out)|(with_reducible first|refine zG ?_ _|refine zH ?_ _|refine zI ?_)));(case side2=>exact HC0_2.out);rintro e w' ⟨rfl,⟨nd,rfl⟩⟩;refine ⟨_,rfl,?_⟩))
  go_ret
  exact ⟨by first|rfl|(simp [errW_none,errW_some] <;> rfl)|(simp [*,errW_none,errW_some] <;> rfl),zzh⟩

end Go.Proofs.Ytbpccdbkaiigcaa.G

namespace Go.Proofs.Ytbpccdbkaiigcaa.G
open Go.RowKit Go.Proofs.YtbpccdbkaiigcaaW.PrintWords Go.Proofs.YtbpccdbkaiigcaaW.PrintLast
set_option linter.unusedVariables false
set_option linter.unusedSimpArgs false
def cv_C (x : S44) : S48:=⟨x.f0,x.f1⟩
theorem to_C (xs : List S44) (h : (xs.length : Int) ≤ 1048576) : Ev (fun k=>laws_toCellS.f k xs) (xs.map cv_C):=by
 unfold laws_toCellS.f
 simp (disch:=omega) only [if_pos]
 simp only [Int.toNat_natCast]
 refine Ev.fill (fun k out i=>laws_toCellS.l0 k xs out i) xs cv_C z44 z48 ?_ ?_
 ·intro out
  refine Ev.step (fun k=>by rw [laws_toCellS.l0]) ?_
  simp only [Int.lt_irrefl,if_false]
  exact Ev.now _
 ·intro out i hl h0 hlt r hr
  refine Ev.step (fun k=>by rw [laws_toCellS.l0]) ?_
  simp (disch:=omega) only [wrap64_id,if_pos,laws_toCell.f,Option.bind_some,hl]
  exact hr
theorem eq_C (xs : List S48) (h : (xs.length : Int) ≤ 1048576) : Ev (fun k=>laws_eqCellS.f k xs xs) true:=by
 unfold laws_eqCellS.f
 simp only [if_true]
 refine Ev.upc (fun k i=>laws_eqCellS.l0 k xs xs i) true (xs.length : Int) 0 ?_ ?_ 0 (by omega) (by omega)
 ·refine Ev.step (fun k=>by rw [laws_eqCellS.l0]) ?_
  simp only [Int.lt_irrefl,if_false]
  exact Ev.now _
 ·intro i h0 hlt hr
  refine Ev.step (fun k=>by rw [laws_eqCellS.l0]) ?_
  simp (disch:=omega) only [wrap64_id,if_pos,laws_eqCell.f,Option.bind_some,if_true]
  exact hr

theorem szc (xs : List S44) (h : xs.length ≤ maxLen) (a : Int) (a0 : 0 ≤ a) (a1 : a ≤ 1048576) : laws_szCellS.f xs a = some (if a - (xs.length : Int) < 0 then -1 else a - (xs.length : Int)):=by
 unfold maxLen at h
 unfold laws_szCellS.f
 rw [wrap64_id (by omega) (by omega)]
 split <;> rfl
theorem szf (w h : Int) (xs : List S44) (hl : xs.length ≤ maxLen) (a : Int) (a0 : 0 ≤ a) (a1 : a ≤ 1048576) : laws_szFloor.f w h xs a = some (if a - (xs.length : Int) < 0 then -1 else a - (xs.length : Int)):=by
 unfold laws_szFloor.f
 rw [szc xs hl a a0 a1]
 simp only [Option.bind_some]
 by_cases h1 : a - (xs.length : Int) < 0
 ·rw [if_pos h1,if_pos (by decide)]
 ·rw [if_neg h1,if_neg h1]
theorem to_F (w h : Int) (xs : List S44) (hl : (xs.length : Int) ≤ 1048576) : Ev (fun k=>laws_toFloor.f k w h xs) (w,h,xs.map cv_C):=by
 unfold laws_toFloor.f
 exact Ev.bind (to_C xs hl) (Ev.now _)
theorem eq_F (w h : Int) (xs : List S48) (hl : (xs.length : Int) ≤ 1048576) : Ev (fun k=>laws_eqFloor.f k w h xs w h xs) true:=by
 unfold laws_eqFloor.f
 simp only [if_true]
 refine Ev.bind (eq_C xs hl) ?_
 simp only [if_true]
 exact Ev.now _
end Go.Proofs.Ytbpccdbkaiigcaa.G

-- Written by wip/tools/gen.py out of the translation (the kit's printer, one namespace a seat). Lean checks it.
namespace Go.Proofs.Ytbpccdbkaiigcaa.G
open Go.RowKit Go.Proofs.YtbpccdbkaiigcaaW.PrintWords Go.Proofs.YtbpccdbkaiigcaaW.PrintLast Go.Proofs.YtbpccdbkaiigcaaW.PrintMore
attribute [local go_sem] max2_int min2_int max_two min_two max_three min_three max_four min_four   -- for this text's walks alone
set_option linter.unusedVariables false
set_option linter.unusedSimpArgs false

/-! ### laws_szCellSS: function 38 -/
def laws_szCellSS.l0:Nat → List (List (S44)) → Int → Int → Option (Int)
 | 0,_,_,_=>none
 | k + 1,x0,x1,x5=>if x5 < (x0.length:Int) then (if 0 ≤ x5 then ((laws_szCellS.f (rd_L3 x0 x5) x1).bind fun t588=>(if t588 < 0 then (some (-1)) else (laws_szCellSS.l0 k x0 t588 (wrap64 (x5 + 1))))) else (none)) else (some x1)
def laws_szCellSS.f (k:Nat) (l0:List (List (S44))) (a1:Int):Option (Int):=if (wrap64 (a1 - (l0.length:Int))) < 0 then (some (-1)) else (laws_szCellSS.l0 k l0 (wrap64 (a1 - (l0.length:Int))) 0)
set_option maxHeartbeats 8000000 in
set_option maxRecDepth 100000 in
theorem laws_szCellSS.calls (k:Nat) (A0:Option Addr) (c0:Nat) (l0:List (List (S44))) (a1:Int) (r:Int) (w:World) (hr0:Kd.C (Kd.slice 44 k44) w A0 l0.length l0) (hc0:l0.length ≤ c0) (h:laws_szCellSS.f k l0 a1 = some r) :
  Calls Try.prog 38 #[.slice A0 l0.length c0,.int .i64 a1] w fun e w'=>e = .returned (.int .i64 r) ∧ Drawn0 w w':=by
 have HR0:=zM hr0;have HC0:=zM hc0;clear hr0 hc0;have H:(if (wrap64 (a1 - (l0.length:Int))) < 0 then (some (-1)) else (laws_szCellSS.l0 k l0 (wrap64 (a1 - (l0.length:Int))) 0)) = some r:=h
 clear h;by_cases c3:(wrap64 (a1 - (l0.length:Int))) < 0
 ·rw [if_pos c3] at H
  have c3b0:decide ((wrap64 (a1 - (l0.length:Int))) < 0) = true:=decide_eq_true c3
  clear c3;obtain rfl:=Option.some.inj H;go_enter Try.func38,Try.ntmps38
  go_wp2
  go_ret
  exact ⟨by first|rfl|(simp;done)|(simp [*];done),by repeat (first|exact Drawn0.refl _|apply Drawn0.step)⟩
 ·rw [if_neg c3] at H
  have c3b0:decide ((wrap64 (a1 - (l0.length:Int))) < 0) = false:=decide_eq_false c3
  clear c3;have H':=zM H;clear H;go_enter Try.func38,Try.ntmps38
  go_wp2
  go_loopg [1,5] k (fun kq v1 v5 w' => ∃ (x1_1:Int) (x5_1:Int),v1 = .int .i64 x1_1 ∧ v5 = .int .i64 x5_1 ∧ Aside0 (laws_szCellSS.l0 kq l0 x1_1 x5_1 = some r) ∧ Aside0 (kq ≤ k) ∧ Drawn0 w w')
  case atStart=>exact ⟨(wrap64 (a1 - (l0.length:Int))),(0),(by first|rfl|(simp;done)|(simp [*];done)),(by first|rfl|(simp;done)|(simp [*];done)),H',⟨Nat.le_refl _⟩,by repeat (first|exact Drawn0.refl _|apply Drawn0.step)⟩
  case round =>
   clear H';(try clear p2);(try clear c3);(try clear c3b0);obtain ⟨x1_1,x5_1,rfl,rfl,HA,HK1,⟨m1,rfl⟩⟩:=hrel;cases gk with
   | zero=>exact absurd HA.out (by simp [laws_szCellSS.l0])
   | succ k1 =>
    have H:=HA.out;clear HA;simp only [laws_szCellSS.l0] at H
    by_cases c4:x5_1 < (l0.length:Int)
    ·rw [if_pos c4] at H
     have c4b0:decide (x5_1 < (l0.length:Int)) = true:=decide_eq_true c4
     clear c4;by_cases c5:0 ≤ x5_1
     ·rw [if_pos c5] at H
      have c5b0:decide (0 ≤ x5_1) = true:=decide_eq_true c5
      clear c5;replace H:=Option.bind_eq_some_iff.mp H;obtain ⟨t588,A60,H⟩:=H;replace H:(if t588 < 0 then (some (-1)) else (laws_szCellSS.l0 k1 l0 t588 (wrap64 (x5_1 + 1)))) = some r:=H
      have A6:=zM A60;clear A60;by_cases c7:t588 < 0
      ·rw [if_pos c7] at H
       have c7b0:decide (t588 < 0) = true:=decide_eq_true c7
       clear c7;obtain rfl:=Option.some.inj H;have p587:0 ≤ (x5_1:Int):=zzd
       have q587:x5_1 < (l0.length:Int):=zzd
       obtain ⟨ad587,A587_0,c587_0,e587,hx587_0,hl587_0,hi587_0⟩:=at_L3 HR0.out x5_1 p587 q587;cases e587
       have HR587_0:=zM hi587_0;have HC587_0:=zM hl587_0;clear hi587_0 hl587_0;replace p587:=eq_true p587;replace q587:=eq_true q587;go_wp2_with (first|((with_reducible refine gate_callee (f:=18) rfl ?_);refine goesL_ (some 23) rfl rfl Try.func18 (by kernel_rfl) rfl #[.slice A587_0 (rd_L3 l0 x5_1).length c587_0,.int .i64 x1_1] rfl (by (try simp only [List.map_toArray,List.map_cons,List.map_nil]);first|done|rfl|(simp only [List.length_drop,List.length_take];rfl)) ?_;(with_reducible refine (laws_szCellS.calls _ _ (rd_L3 l0 x5_1) x1_1 t588 _ ?side1 ?side2 A6.out).mono ?_);(case side1=>repeat (first|exact HR587_0.out|(with_reducible first|refine zG ?_ _|refine zH ?_ _|refine zI ?_)));(case side2=>exact HC587_0.out);rintro e w' ⟨rfl,⟨nd,rfl⟩⟩;refine ⟨_,rfl,?_⟩))
       go_ret
       exact ⟨by first|rfl|(simp;done)|(simp [*];done),by repeat (first|exact Drawn0.refl _|apply Drawn0.step)⟩
      ·rw [if_neg c7] at H
       have c7b0:decide (t588 < 0) = false:=decide_eq_false c7
       clear c7;have H':=zM H;clear H;have p587:0 ≤ (x5_1:Int):=zzd
       have q587:x5_1 < (l0.length:Int):=zzd
       obtain ⟨ad587,A587_0,c587_0,e587,hx587_0,hl587_0,hi587_0⟩:=at_L3 HR0.out x5_1 p587 q587;cases e587
       have HR587_0:=zM hi587_0;have HC587_0:=zM hl587_0;clear hi587_0 hl587_0;replace p587:=eq_true p587;replace q587:=eq_true q587;go_wp2_with (first|((with_reducible refine gate_callee (f:=18) rfl ?_);refine goesL_ (some 23) rfl rfl Try.func18 (by kernel_rfl) rfl #[.slice A587_0 (rd_L3 l0 x5_1).length c587_0,.int .i64 x1_1] rfl (by (try simp only [List.map_toArray,List.map_cons,List.map_nil]);first|done|rfl|(simp only [List.length_drop,List.length_take];rfl)) ?_;(with_reducible refine (laws_szCellS.calls _ _ (rd_L3 l0 x5_1) x1_1 t588 _ ?side1 ?side2 A6.out).mono ?_);(case side1=>repeat (first|exact HR587_0.out|(with_reducible first|refine zG ?_ _|refine zH ?_ _|refine zI ?_)));(case side2=>exact HC587_0.out);rintro e w' ⟨rfl,⟨nd,rfl⟩⟩;refine ⟨_,rfl,?_⟩))
       go_roundg k1
       case measure=>have:=HK1.out;omega
       case rel=>exact ⟨(t588),(wrap64 (x5_1 + 1)),(by first|rfl|(simp;done)|(simp [*];done)),(by first|rfl|(simp;done)|(simp [*];done)),H',⟨by have:=HK1.out;omega⟩,by repeat (first|exact Drawn0.refl _|apply Drawn0.step)⟩
     ·rw [if_neg c5] at H
      exact absurd H (by simp)
    ·rw [if_neg c4] at H
     have c4b0:decide (x5_1 < (l0.length:Int)) = false:=decide_eq_false c4
     clear c4;obtain rfl:=Option.some.inj H;go_wp2
     go_ret
     exact ⟨by first|rfl|(simp;done)|(simp [*];done),by repeat (first|exact Drawn0.refl _|apply Drawn0.step)⟩



/-! ### laws_toCellSS: function 40 -/
def laws_toCellSS.l0:Nat → List (List (S44)) → List (List (S48)) → Int → Option ((List (List (S48))))
 | 0,_,_,_=>none
 | k + 1,x0,x3,x4=>if x4 < (x0.length:Int) then (if 0 ≤ x4 then ((laws_toCellS.f k (rd_L3 x0 x4)).bind fun t609=>(if x4 < (x3.length:Int) then (laws_toCellSS.l0 k x0 (x3.set (x4:Int).toNat t609) (wrap64 (x4 + 1))) else (none))) else (none)) else (some x3)
def laws_toCellSS.f (k:Nat) (l0:List (List (S44))):Option ((List (List (S48)))):=if 0 ≤ (l0.length:Int) then (if ((l0.length:Int):Int).toNat ≤ 11728124029610 then (laws_toCellSS.l0 k l0 (List.replicate ((l0.length:Int):Int).toNat []) 0) else (none)) else (none)
set_option maxHeartbeats 8000000 in
set_option maxRecDepth 100000 in
theorem laws_toCellSS.calls (k:Nat) (A0:Option Addr) (c0:Nat) (l0:List (List (S44))) (r:List (List (S48))) (w:World) (hr0:Kd.C (Kd.slice 44 k44) w A0 l0.length l0) (hc0:l0.length ≤ c0) (h:laws_toCellSS.f k l0 = some r) :
  Calls Try.prog 40 #[.slice A0 l0.length c0] w fun e w' => ∃ v0_:Value,e = .returned (v0_) ∧ Kd.S (Kd.slice 48 k48) 27 w' w.heap.size (fun _=>True) v0_ r ∧ Below w.heap.size w w':=by
 have HR0:=zM hr0;have HC0:=zM hc0;clear hr0 hc0;have HB:=zM (Below.refl w.heap.size w);have H:(if 0 ≤ (l0.length:Int) then (if ((l0.length:Int):Int).toNat ≤ 11728124029610 then (laws_toCellSS.l0 k l0 (List.replicate ((l0.length:Int):Int).toNat []) 0) else (none)) else (none)) = some r:=h
 clear h;by_cases c2:0 ≤ (l0.length:Int)
 ·rw [if_pos c2] at H
  have c2b0:=eq_true c2;have c2b1:decide (0 ≤ (l0.length:Int)) = true:=decide_eq_true c2
  clear c2;by_cases c3:((l0.length:Int):Int).toNat ≤ 11728124029610
  ·rw [if_pos c3] at H
   have c3b0:=eq_true c3;have c3b1:decide (((l0.length:Int):Int).toNat ≤ 11728124029610) = true:=decide_eq_true c3
   clear c3;obtain ⟨y605,hy605⟩ : ∃ y_:List (List (S48)),y_ = (List.replicate ((l0.length:Int):Int).toNat []):=⟨_,rfl⟩
   replace H:(laws_toCellSS.l0 k l0 y605 0) = some r:=by first|(rw [hy605];with_reducible exact H)|(have H2_:=(Option.bind_some _ _).symm.trans H;rw [hy605];with_reducible exact H2_)|(have H2_:=(Option.bind_some _ _).symm.trans H;with_reducible exact H2_)|with_reducible exact H|(rw [hy605];exact H)|exact H
   have Ny605:=zM hy605;clear hy605;have H':=zM H;clear H;go_enter Try.func40,Try.ntmps40
   go_wp2_with (first|((with_reducible refine gate_dst (N:=7) rfl ?_);refine Kd.S_make (Kd.slice 48 k48) _ 27 rfl (N:=7) rfl 61 _ _ rfl (l0.length:Int) rfl rfl Try.underlying61 (.slice none 0 0) 24 info27 rfl (by decide) (by omega) [] (ok:=fun _=>True) (okp:=fun _=>True) ⟨_,rfl,Kd.R_nil _ _ _ _ _⟩ (fun _ hk=>hk) trivial (zzd) (Nat.le_trans (Nat.mul_le_mul_right _ (zzd:(l0.length:Int).toNat ≤ 11728124029610)) (by omega)) (Below.refl _ _) (Nat.le_refl _) ?_;intro v606 w4 ho5 hb hg_ hnew_;clear hg_ hnew_;(first|rw [← Ny605.out] at ho5|(simp only [Int.reduceToNat] at ho5;rw [← Ny605.out] at ho5));have n0_:=zM (Kd.S_lower ho5 (zR zzh));have n1_:=zM (zQ zzh hb);clear HB;have HO607:=n0_;have HB:=n1_;clear n0_ n1_;clear hb ho5))
   go_loopg [4] k (fun kq v4 w' => ∃ (x3_1:List (List (S48))) (x4_1:Int),v4 = .int .i64 x4_1 ∧ Aside0 (laws_toCellSS.l0 kq l0 x3_1 x4_1 = some r) ∧ Aside0 (kq ≤ k) ∧ Aside0 (Kd.S (Kd.slice 48 k48) 27 w' w.heap.size (fun _=>True) v606 x3_1) ∧ Aside0 (Below w.heap.size w w'))
   case atStart=>exact ⟨(y605),(0),(by first|rfl|(simp;done)|(simp [*];done)),H',⟨Nat.le_refl _⟩,⟨zzj HO607⟩,⟨zzh⟩⟩
   case round =>
    clear H';(try clear c2);(try clear c2b0);(try clear c2b1);(try clear p2);(try clear c3);(try clear c3b0);(try clear c3b1);(try clear c4);obtain ⟨x3_1,x4_1,rfl,HA,HK1,HO_3,HB⟩:=hrel;cases gk with
    | zero=>exact absurd HA.out (by simp [laws_toCellSS.l0])
    | succ k1 =>
     have H:=HA.out;clear HA;simp only [laws_toCellSS.l0] at H
     by_cases c6:x4_1 < (l0.length:Int)
     ·rw [if_pos c6] at H
      have c6b0:decide (x4_1 < (l0.length:Int)) = true:=decide_eq_true c6
      clear c6;by_cases c7:0 ≤ x4_1
      ·rw [if_pos c7] at H
       have c7b0:decide (0 ≤ x4_1) = true:=decide_eq_true c7
       clear c7;replace H:=Option.bind_eq_some_iff.mp H;obtain ⟨t609,A80,H⟩:=H;replace H:(if x4_1 < (x3_1.length:Int) then (laws_toCellSS.l0 k1 l0 (x3_1.set (x4_1:Int).toNat t609) (wrap64 (x4_1 + 1))) else (none)) = some r:=H
       have A8:=zM A80;clear A80;by_cases c9:x4_1 < (x3_1.length:Int)
       ·rw [if_pos c9] at H
        have c9b0:decide (x4_1 < (x3_1.length:Int)) = true:=decide_eq_true c9
        clear c9;obtain ⟨y612,hy612⟩ : ∃ y_:List (List (S48)),y_ = (x3_1.set (x4_1:Int).toNat t609):=⟨_,rfl⟩
        replace H:(laws_toCellSS.l0 k1 l0 y612 (wrap64 (x4_1 + 1))) = some r:=by first|(rw [hy612];with_reducible exact H)|(have H2_:=(Option.bind_some _ _).symm.trans H;rw [hy612];with_reducible exact H2_)|(have H2_:=(Option.bind_some _ _).symm.trans H;with_reducible exact H2_)|with_reducible exact H|(rw [hy612];exact H)|exact H
        have Ny612:=zM hy612;clear hy612;have H':=zM H;clear H;have p608:0 ≤ (x4_1:Int):=zzd
        have q608:x4_1 < (l0.length:Int):=zzd
        obtain ⟨ad608,A608_0,c608_0,e608,hx608_0,hl608_0,hi608_0⟩:=at_L3 HR0.out x4_1 p608 q608;cases e608
        replace hx608_0:=zS HB.out hx608_0;have HR608_0:=zM hi608_0;have HC608_0:=zM hl608_0;clear hi608_0 hl608_0;replace p608:=eq_true p608;replace q608:=eq_true q608;go_wp2_with (first|((with_reducible refine gate_callee (f:=20) rfl ?_);refine goesL_ (some 20) rfl rfl Try.func20 (by kernel_rfl) rfl #[.slice A608_0 (rd_L3 l0 x4_1).length c608_0] rfl (by (try simp only [List.map_toArray,List.map_cons,List.map_nil]);first|done|rfl|(simp only [List.length_drop,List.length_take];rfl)) ?_;(with_reducible refine (laws_toCellS.calls k1 _ _ (rd_L3 l0 x4_1) t609 _ ?side1 ?side2 A8.out).mono ?_);(case side1=>repeat (first|exact (zO HR608_0.out HB.out)|(with_reducible first|refine zG ?_ _|refine zH ?_ _|refine zI ?_)));(case side2=>exact HC608_0.out);rintro e w11 ⟨v610,rfl,ho0,hb⟩;refine ⟨_,rfl,?_⟩;have n0_:=zM (Kd.S_elder' (zzj HO_3) (Kd.R_base ho0) hb);have n1_:=zM (Kd.R_lower ho0 (zR zzh));have n2_:=zM (zQ zzh hb);clear HO_3;clear HB;have HO_3:=n0_;have HO611:=n1_;have HB:=n2_;clear n0_ n1_ n2_;(try clear hb);(try clear hb2);(try clear hk);(try clear hi);(try clear ho0);have p10:0 ≤ (x4_1:Int):=zzd;have q10:(x4_1:Int) < ((x3_1.length:Int):Int):=zzd;obtain ⟨go10,co10,eo10,gb10,gl10,cl10,HG10⟩:=Kd.S_form HO_3.out (by omega);(first|cases eo10|(injection eo10 with ea_ en_ ec_;(first|subst ea_|(injection ea_ with ea_;subst ea_));subst ec_;clear en_));have GB10:=zM gb10;have GG10:=zM HG10;clear gb10 gl10 HG10;obtain ⟨_,ce10,hcl10,hM10,hcc10,hfr10,_,_⟩:=Kd.S_elem HO_3.out [] (x4_1:Int) p10 q10;obtain ⟨ve10_0,rfl,ge10_0⟩:=hM10;have hx10_0:=hcc10 0 _ rfl;have hf10_0:=hfr10 0;(try simp only [show ((Kd.slice 48 k48)).sz = 1 from rfl,Nat.mul_one,Nat.add_zero] at hx10_0);(try simp only [show ((Kd.slice 48 k48)).sz = 1 from rfl,Nat.mul_one,Nat.add_zero] at hf10_0);clear hcl10 hcc10 hfr10;(try clear hM10);replace p10:=eq_true p10;replace q10:=eq_true q10;have n_:=zM (Kd.S_mono (ok':=(fun k_=>some k_ ≠ (v610:Value).ownBlock)) HO_3.out (fun k_ hk=>hk.2));clear HO_3;have HO_3:=n_;clear n_;have HX12:=zM (show Kd.S (Kd.slice 48 k48) 27 w11 w.heap.size (fun k_=>((fun _=>True)) k_ ∧ ¬ ((fun k_=>some k_ = (v610:Value).ownBlock)) k_) (.slice (some ⟨go10,0,none⟩) x3_1.length co10) x3_1 from (by (with_reducible repeat (first|apply Kd.S_alloc|apply Kd.S_drewN|apply Kd.S_drew));exact Kd.S_mono HO_3.out (fun k_ hk=>⟨trivial,fun e_=>hk e_⟩)));obtain ⟨oki12,ce12,hcl12,hM12,hcc12,hfr12,hoki12,hH12⟩:=Kd.S_elem HX12.out [] (x4_1:Int) (zzd) (by have h_:(x4_1:Int) < ((x3_1.length:Int):Int):=zzd;first|exact h_|(have e_:=(Kd.S_reads' HO_3.out).1;omega)|simpa using h_);obtain ⟨ve12_0,rfl,ge12_0⟩:=hM12;have HP12:=Kd.S_seg hH12 (zzd) (by have h_:(x4_1:Int) < ((x3_1.length:Int):Int):=zzd;first|exact h_|(have e_:=(Kd.S_reads' HO_3.out).1;omega)|simpa using h_) (seg:=[v610]) (j:=0) (show 1 ≤ 1 from by decide) (x':=t609) (Kd.M_row (Kd.R_mono (Kd.R_tight rfl (Kd.R_mono (ok':=fun k_=>((fun _=>True)) k_ ∧ k_ ≠ go10) (Kd.R_apart' (HO611.out) (Kd.S_typed HO_3.out) (by decide)) (fun k_ hk=>⟨trivial,fun e_=>(hk.2) (by rw [e_];rfl)⟩))) (fun _ h_=>Or.inr (h_)))) (fun _ hk=>hk) (fun k_ hk_=>((Kd.R_mono (ok':=fun k_=>((fun _=>True)) k_ ∧ k_ ≠ go10) (Kd.R_apart' (HO611.out) (Kd.S_typed HO_3.out) (by decide)) (fun k_ hk=>⟨trivial,fun e_=>(hk.2) (by rw [e_];rfl)⟩))).1 k_ hk_.symm);have hx12_0:=hcc12 0 _ rfl;(try simp only [show ((Kd.slice 48 k48)).sz = 1 from rfl,Nat.mul_one,Nat.add_zero] at hx12_0);have hf12_0:=hfr12 0;(try simp only [show ((Kd.slice 48 k48)).sz = 1 from rfl,Nat.mul_one,Nat.add_zero] at hf12_0);clear hcl12 hcc12 hfr12 hoki12 hH12;(try clear hM12);(try simp only [show ((Kd.slice 48 k48)).sz = 1 from rfl,Nat.mul_one,Nat.add_zero] at HP12))|((with_reducible refine gate_store (t:=27) (p:=21) rfl ?_);refine store_event (t:=27) (p:=21) (v:=?vo_w13) (w1:=(w11.setCell ⟨go10,(x4_1:Int).toNat,none⟩ (v610))) ?hg ?ho ?hn ?hr ?_;(case ho=>rfl);(case hg=>rfl);(case hn=>rfl);(case hr=>first|(go_simp;done)|(go_simp;rfl)|(obtain ⟨Aq_,cq_,eq_⟩:=Kd.R_slice HO611.out;subst eq_;go_simp;done)|(obtain ⟨Aq_,cq_,eq_⟩:=Kd.R_slice HO611.out;subst eq_;go_simp;rfl));intro w13 hw;have hg:w11.grownBy w13 (some go10):=(by rw [hw];exact HP12.2);have hp_:Kd.S (Kd.slice 48 k48) 27 w13 w.heap.size (fun _=>True) (.slice (some ⟨go10,0,none⟩) x3_1.length co10) y612:=(by rw [hw,Ny612.out];exact HP12.1);clear HP12;have n0_:=zM (hp_);have n1_:=zM ((by rw [hw];exact below_set (HB.out) GB10.out:Below w.heap.size w w13));clear HO_3;clear HB;clear HO611;have HO_3:=n0_;have HB:=n1_;clear n0_ n1_;clear hg hw hp_))
        go_roundg k1
        case measure=>have:=HK1.out;omega
        case rel=>exact ⟨(y612),(wrap64 (x4_1 + 1)),(by first|rfl|(simp;done)|(simp [*];done)),H',⟨by have:=HK1.out;omega⟩,⟨zzj HO_3⟩,⟨zzh⟩⟩
       ·rw [if_neg c9] at H
        exact absurd H (by simp)
      ·rw [if_neg c7] at H
       exact absurd H (by simp)
     ·rw [if_neg c6] at H
      have c6b0:decide (x4_1 < (l0.length:Int)) = false:=decide_eq_false c6
      clear c6;obtain rfl:=Option.some.inj H;go_wp2
      go_ret
      exact ⟨_,by first|rfl|(simp [errW_none,errW_some] <;> rfl)|(simp [*,errW_none,errW_some] <;> rfl),zzj HO_3,zzh⟩
  ·rw [if_neg c3] at H
   exact absurd H (by simp)
 ·rw [if_neg c2] at H
  exact absurd H (by simp)



/-! ### laws_eqCellSS: function 42 -/
def laws_eqCellSS.l0:Nat → List (List (S48)) → List (List (S48)) → Int → Option (Bool)
 | 0,_,_,_=>none
 | k + 1,x0,x1,x5=>if x5 < (x0.length:Int) then (if 0 ≤ x5 then (if x5 < (x1.length:Int) then ((laws_eqCellS.f k (rd_L6 x0 x5) (rd_L6 x1 x5)).bind fun t620=>(if t620 = true then (laws_eqCellSS.l0 k x0 x1 (wrap64 (x5 + 1))) else (some false))) else (none)) else (none)) else (some true)
def laws_eqCellSS.f (k:Nat) (l0:List (List (S48))) (l1:List (List (S48))):Option (Bool):=if (l0.length:Int) = (l1.length:Int) then (laws_eqCellSS.l0 k l0 l1 0) else (some false)
def laws_eqCellSS.T6:Bool × List (List Nat × List Nat):=(true,[([],[]),([],[]),([0,1],[0,1]),([2],[2]),([],[]),([],[]),([4,5],[4,5]),([6],[6]),([3,7],[3,7]),([8],[8])])
def laws_eqCellSS.B6:List Nat:=[0,0,3,7,0,0,48,112,255,511]
theorem laws_eqCellSS.tab6:rtab .any (opsOf Try.f42 6) = laws_eqCellSS.T6:=by kernel_rfl
theorem laws_eqCellSS.bits6:waitsOk laws_eqCellSS.T6.2 laws_eqCellSS.B6 = true:=by kernel_rfl
set_option maxHeartbeats 8000000 in
set_option maxRecDepth 100000 in
theorem laws_eqCellSS.calls (k:Nat) (A0:Option Addr) (c0:Nat) (l0:List (List (S48))) (A1:Option Addr) (c1:Nat) (l1:List (List (S48))) (r:Bool) (w:World) (hr0:Kd.C (Kd.slice 48 k48) w A0 l0.length l0) (hc0:l0.length ≤ c0) (hr1:Kd.C (Kd.slice 48 k48) w A1 l1.length l1) (hc1:l1.length ≤ c1) (h:laws_eqCellSS.f k l0 l1 = some r) :
  Calls Try.prog 42 #[.slice A0 l0.length c0,.slice A1 l1.length c1] w fun e w'=>e = .returned (.bool r) ∧ Below w.heap.size w w':=by
 have HR0:=zM hr0;have HC0:=zM hc0;clear hr0 hc0;have HR1:=zM hr1;have HC1:=zM hc1;clear hr1 hc1;have HB:=zM (Below.refl w.heap.size w);have H:(if (l0.length:Int) = (l1.length:Int) then (laws_eqCellSS.l0 k l0 l1 0) else (some false)) = some r:=h
 clear h;by_cases c3:(l0.length:Int) = (l1.length:Int)
 ·rw [if_pos c3] at H
  have c3b0:((l0.length:Int) == (l1.length:Int)) = true:=beq_iff_eq.mpr c3
  have c3b1:((l0.length:Int) != (l1.length:Int)) = false:=bne_eq_false_iff_eq.mpr c3
  have c3b2:(l0.length == l1.length) = true:=by first|simpa using c3|(simp at c3 ⊢;omega)
  clear c3;have H':=zM H;clear H;go_enter Try.func42,Try.ntmps42
  go_wp2
  go_loopg [5] k (fun kq v5 w' => ∃ (x5_1:Int),v5 = .int .i64 x5_1 ∧ Aside0 (laws_eqCellSS.l0 kq l0 l1 x5_1 = some r) ∧ Aside0 (kq ≤ k) ∧ Aside0 (Below w.heap.size w w'))
  case atStart=>exact ⟨(0),(by first|rfl|(simp;done)|(simp [*];done)),H',⟨Nat.le_refl _⟩,⟨zzh⟩⟩
  case round =>
   clear H';(try clear c1);(try clear p2);(try clear c3);(try clear c3b0);(try clear c3b1);(try clear c3b2);obtain ⟨x5_1,rfl,HA,HK1,HB⟩:=hrel;cases gk with
   | zero=>exact absurd HA.out (by simp [laws_eqCellSS.l0])
   | succ k1 =>
    have H:=HA.out;clear HA;simp only [laws_eqCellSS.l0] at H
    by_cases c4:x5_1 < (l0.length:Int)
    ·rw [if_pos c4] at H
     have c4b0:decide (x5_1 < (l0.length:Int)) = true:=decide_eq_true c4
     clear c4;by_cases c5:0 ≤ x5_1
     ·rw [if_pos c5] at H
      have c5b0:decide (0 ≤ x5_1) = true:=decide_eq_true c5
      clear c5;by_cases c6:x5_1 < (l1.length:Int)
      ·rw [if_pos c6] at H
       have c6b0:decide (x5_1 < (l1.length:Int)) = true:=decide_eq_true c6
       clear c6;replace H:=Option.bind_eq_some_iff.mp H;obtain ⟨t620,A70,H⟩:=H;replace H:(if t620 = true then (laws_eqCellSS.l0 k1 l0 l1 (wrap64 (x5_1 + 1))) else (some false)) = some r:=H
       have A7:=zM A70;clear A70;by_cases c8:t620 = true
       ·subst c8
        have H1:(laws_eqCellSS.l0 k1 l0 l1 (wrap64 (x5_1 + 1))) = some r:=by rw [if_pos rfl] at H;exact H
        clear H;have H:=H1;clear H1;have H':=zM H;clear H;try go_wp2
        have n0_:=zM (zF HB.out);clear HB;have HB:=n0_;clear n0_;have p618:0 ≤ (x5_1:Int):=zzd
        have q618:x5_1 < (l0.length:Int):=zzd
        obtain ⟨ad618,A618_0,c618_0,e618,hx618_0,hl618_0,hi618_0⟩:=at_L6 HR0.out x5_1 p618 q618;have hw618_0:=hx618_0;cases e618
        replace hx618_0:=zS HB.out hx618_0;have HR618_0:=zM hi618_0;have HC618_0:=zM hl618_0;clear hi618_0 hl618_0;replace p618:=eq_true p618;replace q618:=eq_true q618;have p619:0 ≤ (x5_1:Int):=zzd
        have q619:x5_1 < (l1.length:Int):=zzd
        obtain ⟨ad619,A619_0,c619_0,e619,hx619_0,hl619_0,hi619_0⟩:=at_L6 HR1.out x5_1 p619 q619;have hw619_0:=hx619_0;cases e619
        replace hx619_0:=zS HB.out hx619_0;have HR619_0:=zM hi619_0;have HC619_0:=zM hl619_0;clear hi619_0 hl619_0;replace p619:=eq_true p619;replace q619:=eq_true q619;refine start_ (n:=10) (S:=fun w'=>w'.cell? (ad618.add (x5_1).toNat) = some (.slice A618_0 (rd_L6 l0 x5_1).length c618_0) ∧ w'.cell? (ad619.add (x5_1).toNat) = some (.slice A619_0 (rd_L6 l1 x5_1).length c619_0)) (ds:=[]) #[false,false,false,false,false,false,false,false,false,false] (by kernel_rfl) rfl rfl ⟨(zS HB.out hw618_0 :),(zS HB.out hw619_0 :)⟩ (fun hHeld=>?_);refine with_tabW laws_eqCellSS.tab6 laws_eqCellSS.bits6 (fun HT_ HW_=>?_)
        generalize wr.drew = w9 at HB HR618_0 HR619_0 hx618_0 hx619_0 hHeld ⊢
        refine zzp 0 17 (zzb 10 1) ?_ (hc:=zzx HT_);refine zzp 1 18 (zzb 10 3) ?_ (hc:=zzx HT_);refine zzp 2 19 (zzb 10 7) ?_ (hc:=zzx HT_);refine zzp 4 21 (zzb 10 23) ?_ (hc:=zzx HT_);refine zzp 5 22 (zzb 10 55) ?_ (hc:=zzx HT_);refine zzp 6 23 (zzb 10 119) ?_ (hc:=zzx HT_)
        refine zzt 3 20 (zzb 10 127) hHeld ?_ (hc:=zzy HT_ HW_) (hy:=by rintro w' ⟨s0,s1⟩;go_simp;with_reducible rfl)
        refine zzt 7 24 (zzb 10 255) hHeld ?_ (hc:=zzy HT_ HW_) (hy:=by rintro w' ⟨s0,s1⟩;go_simp;with_reducible rfl)
        refine zzo 8 25 (zzb 10 511) (hc:=zzw HT_) (fun K hK=>?_)
        refine zzf Try.func22 #[.slice A618_0 (rd_L6 l0 x5_1).length c618_0,.slice A619_0 (rd_L6 l1 x5_1).length c619_0] ?_
        with_reducible refine (laws_eqCellS.calls k1 _ _ (rd_L6 l0 x5_1) _ _ (rd_L6 l1 x5_1) true _ ?side1 ?side2 ?side3 ?side4 A7.out).mono ?_
        (case side1=>repeat (first|exact (zO HR618_0.out HB.out)|(with_reducible first|refine zG ?_ _|refine zH ?_ _|refine zI ?_)))
        (case side2=>exact HC618_0.out)
        (case side3=>repeat (first|exact (zO HR619_0.out HB.out)|(with_reducible first|refine zG ?_ _|refine zH ?_ _|refine zI ?_)))
        (case side4=>exact HC619_0.out)
        rintro e w10 ⟨rfl,hb⟩
        refine ⟨_,rfl,?_⟩
        have n0_:=zM (zQ zzh hb)
        clear HB;have HB:=n0_;clear n0_;(try clear hb)
        (try clear hb2)
        (try clear hk)
        (try clear hi)
        refine hK.out _ _ ⟨(zS HB.out hw618_0 :),(zS HB.out hw619_0 :)⟩ (fun hHeld=>?_)
        clear hK K;refine zzn 25 ?_;refine zzp 9 26 (zzb 10 1023) ?_ (hc:=zzx HT_)
        refine done_ (done_of HT_.out (by kernel_rfl)) ?_
        try go_wp2
        go_roundg k1
        case measure=>have:=HK1.out;omega
        case rel=>exact ⟨(wrap64 (x5_1 + 1)),(by first|rfl|(simp;done)|(simp [*];done)),H',⟨by have:=HK1.out;omega⟩,⟨zzh⟩⟩
       ·replace c8:=Bool.eq_false_iff.mpr c8
        subst c8;have H1:(some false) = some r:=by rw [if_neg (show ¬ (false = true) by decide)] at H;exact H
        clear H;have H:=H1;clear H1;obtain rfl:=Option.some.inj H;try go_wp2
        have n0_:=zM (zF HB.out);clear HB;have HB:=n0_;clear n0_;have p618:0 ≤ (x5_1:Int):=zzd
        have q618:x5_1 < (l0.length:Int):=zzd
        obtain ⟨ad618,A618_0,c618_0,e618,hx618_0,hl618_0,hi618_0⟩:=at_L6 HR0.out x5_1 p618 q618;have hw618_0:=hx618_0;cases e618
        replace hx618_0:=zS HB.out hx618_0;have HR618_0:=zM hi618_0;have HC618_0:=zM hl618_0;clear hi618_0 hl618_0;replace p618:=eq_true p618;replace q618:=eq_true q618;have p619:0 ≤ (x5_1:Int):=zzd
        have q619:x5_1 < (l1.length:Int):=zzd
        obtain ⟨ad619,A619_0,c619_0,e619,hx619_0,hl619_0,hi619_0⟩:=at_L6 HR1.out x5_1 p619 q619;have hw619_0:=hx619_0;cases e619
        replace hx619_0:=zS HB.out hx619_0;have HR619_0:=zM hi619_0;have HC619_0:=zM hl619_0;clear hi619_0 hl619_0;replace p619:=eq_true p619;replace q619:=eq_true q619;refine start_ (n:=10) (S:=fun w'=>w'.cell? (ad618.add (x5_1).toNat) = some (.slice A618_0 (rd_L6 l0 x5_1).length c618_0) ∧ w'.cell? (ad619.add (x5_1).toNat) = some (.slice A619_0 (rd_L6 l1 x5_1).length c619_0)) (ds:=[]) #[false,false,false,false,false,false,false,false,false,false] (by kernel_rfl) rfl rfl ⟨(zS HB.out hw618_0 :),(zS HB.out hw619_0 :)⟩ (fun hHeld=>?_);refine with_tabW laws_eqCellSS.tab6 laws_eqCellSS.bits6 (fun HT_ HW_=>?_)
        generalize wr.drew = w11 at HB HR618_0 HR619_0 hx618_0 hx619_0 hHeld ⊢
        refine zzp 0 17 (zzb 10 1) ?_ (hc:=zzx HT_);refine zzp 1 18 (zzb 10 3) ?_ (hc:=zzx HT_);refine zzp 2 19 (zzb 10 7) ?_ (hc:=zzx HT_);refine zzp 4 21 (zzb 10 23) ?_ (hc:=zzx HT_);refine zzp 5 22 (zzb 10 55) ?_ (hc:=zzx HT_);refine zzp 6 23 (zzb 10 119) ?_ (hc:=zzx HT_)
        refine zzt 3 20 (zzb 10 127) hHeld ?_ (hc:=zzy HT_ HW_) (hy:=by rintro w' ⟨s0,s1⟩;go_simp;with_reducible rfl)
        refine zzt 7 24 (zzb 10 255) hHeld ?_ (hc:=zzy HT_ HW_) (hy:=by rintro w' ⟨s0,s1⟩;go_simp;with_reducible rfl)
        refine zzo 8 25 (zzb 10 511) (hc:=zzw HT_) (fun K hK=>?_)
        refine zzf Try.func22 #[.slice A618_0 (rd_L6 l0 x5_1).length c618_0,.slice A619_0 (rd_L6 l1 x5_1).length c619_0] ?_
        with_reducible refine (laws_eqCellS.calls k1 _ _ (rd_L6 l0 x5_1) _ _ (rd_L6 l1 x5_1) false _ ?side1 ?side2 ?side3 ?side4 A7.out).mono ?_
        (case side1=>repeat (first|exact (zO HR618_0.out HB.out)|(with_reducible first|refine zG ?_ _|refine zH ?_ _|refine zI ?_)))
        (case side2=>exact HC618_0.out)
        (case side3=>repeat (first|exact (zO HR619_0.out HB.out)|(with_reducible first|refine zG ?_ _|refine zH ?_ _|refine zI ?_)))
        (case side4=>exact HC619_0.out)
        rintro e w12 ⟨rfl,hb⟩
        refine ⟨_,rfl,?_⟩
        have n0_:=zM (zQ zzh hb)
        clear HB;have HB:=n0_;clear n0_;(try clear hb)
        (try clear hb2)
        (try clear hk)
        (try clear hi)
        refine hK.out _ _ ⟨(zS HB.out hw618_0 :),(zS HB.out hw619_0 :)⟩ (fun hHeld=>?_)
        clear hK K;refine zzn 25 ?_;refine zzp 9 26 (zzb 10 1023) ?_ (hc:=zzx HT_)
        refine done_ (done_of HT_.out (by kernel_rfl)) ?_
        try go_wp2
        go_ret
        exact ⟨by first|rfl|(simp [errW_none,errW_some] <;> rfl)|(simp [*,errW_none,errW_some] <;> rfl),zzh⟩
      ·rw [if_neg c6] at H
       exact absurd H (by simp)
     ·rw [if_neg c5] at H
      exact absurd H (by simp)
    ·rw [if_neg c4] at H
     have c4b0:decide (x5_1 < (l0.length:Int)) = false:=decide_eq_false c4
     clear c4;obtain rfl:=Option.some.inj H;go_wp2
     go_ret
     exact ⟨by first|rfl|(simp [errW_none,errW_some] <;> rfl)|(simp [*,errW_none,errW_some] <;> rfl),zzh⟩
 ·rw [if_neg c3] at H
  have c3b0:((l0.length:Int) == (l1.length:Int)) = false:=beq_eq_false_iff_ne.mpr c3
  have c3b1:((l0.length:Int) != (l1.length:Int)) = true:=bne_iff_ne.mpr c3
  have c3b2:(l0.length == l1.length) = false:=by first|simpa using c3|(simp at c3 ⊢;omega)
  obtain rfl:=Option.some.inj H;go_enter Try.func42,Try.ntmps42
  go_wp2
  go_ret
  exact ⟨by first|rfl|(simp [errW_none,errW_some] <;> rfl)|(simp [*,errW_none,errW_some] <;> rfl),zzh⟩

end Go.Proofs.Ytbpccdbkaiigcaa.G

/- The laws' helpers over lists of lists of cells. -/
namespace Go.Proofs.Ytbpccdbkaiigcaa.G
open Go.RowKit Go.Proofs.YtbpccdbkaiigcaaW.PrintWords Go.Proofs.YtbpccdbkaiigcaaW.PrintLast
set_option linter.unusedVariables false
set_option linter.unusedSimpArgs false
theorem rd3_mem (xs : List (List S44)) (i : Int) (h0 : 0 ≤ i) (h1 : i < (xs.length : Int)) : rd_L3 xs i ∈ xs:=by
 unfold rd_L3
 rw [List.getD_eq_getElem?_getD,List.getElem?_eq_getElem (show i.toNat < xs.length by omega)]
 exact List.getElem_mem _
/-- All lists are small. -/
def SmallR (xs : List (List S44)) : Prop:=(xs.length : Int) ≤ 1048576 ∧ All (fun i=>((rd_L3 xs i).length : Int) ≤ 1048576) 0 (xs.length : Int)
def SmallC (xs : List (List S48)) : Prop:=(xs.length : Int) ≤ 1048576 ∧ All (fun i=>((rd_L6 xs i).length : Int) ≤ 1048576) 0 (xs.length : Int)
theorem sz_CSS (xs : List (List S44)) (h : xs.length ≤ maxLen) (hr : ∀ y ∈ xs,y.length ≤ maxLen) (b : Int) (b0 : 0 ≤ b) (b1 : b ≤ 1048576) : ∃ v,Ev (fun k=>laws_szCellSS.f k xs b) v ∧ (0 ≤ v → SmallR xs ∧ v ≤ 1048576):=by
 unfold maxLen at h
 unfold laws_szCellSS.f
 rw [wrap64_id (by omega) (by omega)]
 by_cases h0 : b - (xs.length : Int) < 0
 ·refine ⟨-1,?_,fun h=>by omega⟩
  simp only [if_pos h0];exact Ev.now _
 ·simp only [if_neg h0]
  have main : ∀ (d : Nat) (i a : Int),0 ≤ i → i + d = (xs.length : Int) → 0 ≤ a → a ≤ 1048576 → All (fun i=>((rd_L3 xs i).length : Int) ≤ 1048576) 0 i → ∃ v,Ev (fun k=>laws_szCellSS.l0 k xs a i) v ∧ (0 ≤ v → SmallR xs ∧ v ≤ 1048576):=by
   intro d
   induction d with
   | zero =>
    intro i a i0 hd a0 a1 hs
    refine ⟨a,?_,fun _=>⟨⟨by omega,by rwa [show i = (xs.length : Int) from by omega] at hs⟩,a1⟩⟩
    refine Ev.step (fun k=>by rw [laws_szCellSS.l0]) ?_
    simp (disch:=omega) only [if_neg]
    exact Ev.now _
   | succ d ih =>
    intro i a i0 hd a0 a1 hs
    have hm:=hr _ (rd3_mem xs i i0 (by omega))
    have e:=szc (rd_L3 xs i) hm a a0 a1
    by_cases hc : a - ((rd_L3 xs i).length : Int) < 0
    ·refine ⟨-1,?_,fun h=>by omega⟩
     refine Ev.step (fun k=>by rw [laws_szCellSS.l0]) ?_
     simp (disch:=omega) only [if_pos,e,Option.bind_some]
     exact Ev.now _
    ·obtain ⟨v,hv,hs'⟩:=ih (i + 1) (a - ((rd_L3 xs i).length : Int)) (by omega) (by omega) (by omega) (by omega) (fun j h1 h2=>by
      by_cases e2 : j = i
      ·rw [e2];show ((rd_L3 xs i).length : Int) ≤ 1048576;omega
      ·exact hs j h1 (by omega))
     refine ⟨v,?_,hs'⟩
     refine Ev.step (fun k=>by rw [laws_szCellSS.l0]) ?_
     simp (disch:=omega) only [if_pos,if_neg,e,Option.bind_some,wrap64_id]
     exact hv
  exact main xs.length 0 _ (by omega) (by omega) (by omega) (by omega) (fun j h1 h2=>by omega)
theorem to_CSS (xs : List (List S44)) (h : SmallR xs) : Ev (fun k=>laws_toCellSS.f k xs) (xs.map (fun r=>r.map cv_C)):=by
 have hl:=h.1
 unfold laws_toCellSS.f
 simp (disch:=omega) only [if_pos]
 simp only [Int.toNat_natCast]
 exact Ev.fill (fun k out i=>laws_toCellSS.l0 k xs out i) xs (fun r=>r.map cv_C) ([] : List S44) ([] : List S48) (by
  intro out
  refine Ev.step (fun k=>by rw [laws_toCellSS.l0]) ?_
  simp only [Int.lt_irrefl,if_false]
  exact Ev.now _) (by
  intro out i hl h0 hlt r hr
  refine Ev.step (fun k=>by rw [laws_toCellSS.l0]) ?_
  simp (disch:=omega) only [wrap64_id,if_pos,hl]
  refine Ev.bind (to_C _ (h.2 i h0 hlt)) ?_
  exact hr)
theorem rd6_map (xs : List (List S44)) (i : Int) (h0 : 0 ≤ i) (h1 : i < (xs.length : Int)) : rd_L6 (xs.map (fun r=>r.map cv_C)) i = (rd_L3 xs i).map cv_C:=by
 unfold rd_L6 rd_L3
 rw [List.getD_eq_getElem?_getD,List.getD_eq_getElem?_getD,List.getElem?_map,List.getElem?_eq_getElem (show i.toNat < xs.length by omega)]
 rfl
theorem SmallR.map {xs : List (List S44)} (h : SmallR xs) : SmallC (xs.map (fun r=>r.map cv_C)):=⟨by rw [List.length_map];exact h.1,fun i h0 h1=>by
 rw [List.length_map] at h1
 show ((rd_L6 _ i).length : Int) ≤ 1048576
 rw [rd6_map xs i h0 h1,List.length_map]
 exact h.2 i h0 h1⟩
theorem eq_CSS (xs : List (List S48)) (h : SmallC xs) : Ev (fun k=>laws_eqCellSS.f k xs xs) true:=by
 have hl:=h.1
 unfold laws_eqCellSS.f
 simp only [if_true]
 refine Ev.upc (fun k i=>laws_eqCellSS.l0 k xs xs i) true (xs.length : Int) 0 ?_ ?_ 0 (by omega) (by omega)
 ·refine Ev.step (fun k=>by rw [laws_eqCellSS.l0]) ?_
  simp only [Int.lt_irrefl,if_false]
  exact Ev.now _
 ·intro i h0 hlt hr
  refine Ev.step (fun k=>by rw [laws_eqCellSS.l0]) ?_
  simp (disch:=omega) only [wrap64_id,if_pos]
  refine Ev.bind (eq_C _ (h.2 i h0 hlt)) ?_
  simp only [if_true]
  exact hr
end Go.Proofs.Ytbpccdbkaiigcaa.G

-- Written by wip/tools/gen.py out of the translation (the kit's printer, one namespace a seat). Lean checks it.
namespace Go.Proofs.Ytbpccdbkaiigcaa.G
open Go.RowKit Go.Proofs.YtbpccdbkaiigcaaW.PrintWords Go.Proofs.YtbpccdbkaiigcaaW.PrintLast Go.Proofs.YtbpccdbkaiigcaaW.PrintMore
attribute [local go_sem] max2_int min2_int max_two min_two max_three min_three max_four min_four   -- for this text's walks alone
set_option linter.unusedVariables false
set_option linter.unusedSimpArgs false

/-! ### laws_markCellS: function 36 -/
def laws_markCellS.l0:Nat → List (S48) → Int → Int → Option (Int × (List (S48)))
 | 0,_,_,_=>none
 | k + 1,x0,x1,x5=>if x5 < (x0.length:Int) then (if 0 ≤ x5 then ((some (x0.set (x5:Int).toNat (⟨x1,(rd_T48 x0 x5).f1⟩ : S48):List (S48))).bind fun y460=>(laws_markCellS.l0 k (y460.set (x5:Int).toNat (⟨(rd_T48 y460 x5).f0,wrap64 (x1 + 1)⟩ : S48)) (wrap64 ((wrap64 (x1 + 1)) + 1)) (wrap64 (x5 + 1)))) else (none)) else (some (x1,x0))
def laws_markCellS.f (k:Nat) (l0:List (S48)) (a1:Int):Option (Int × (List (S48))):=laws_markCellS.l0 k l0 a1 0
theorem laws_markCellS.mono_l:∀ k,(∀ y0 y1 y2,LeO (laws_markCellS.l0 k y0 y1 y2) (laws_markCellS.l0 (k + 1) y0 y1 y2))
 | 0=>fun _ _ _ r h=>by simp [laws_markCellS.l0] at h
 | k + 1=>by
  have ih0:=laws_markCellS.mono_l k
  ·intro y0 y1 y2
   unfold laws_markCellS.l0
   repeat' first
   | (with_reducible exact ih0 _ _ _)
   | (with_reducible exact LeO.refl _)
   | (with_reducible exact LeO.none _)
   | (with_reducible refine LeO.ite ?_ ?_)
   | (with_reducible refine LeO.bind ?_ (fun _=>?_))
   | exact ih0 _ _ _
   | exact LeO.none _
   | refine LeO.ite ?_ ?_
   | refine LeO.bind ?_ (fun _=>?_)
theorem laws_markCellS.mono:∀ a0 a1 k,LeO (laws_markCellS.f k a0 a1) (laws_markCellS.f (k + 1) a0 a1):=by
 intro a0 a1 k;have ih0:=laws_markCellS.mono_l k;unfold laws_markCellS.f
 repeat' first
   | (with_reducible exact ih0 _ _ _)
   | (with_reducible exact LeO.refl _)
   | (with_reducible exact LeO.none _)
   | (with_reducible refine LeO.ite ?_ ?_)
   | (with_reducible refine LeO.bind ?_ (fun _=>?_))
   | exact ih0 _ _ _
   | exact LeO.none _
   | refine LeO.ite ?_ ?_
   | refine LeO.bind ?_ (fun _=>?_)
set_option maxHeartbeats 8000000 in
set_option maxRecDepth 100000 in
theorem laws_markCellS.calls (k:Nat) (P0_:Nat → Prop) (u9000_:Value) (l0:List (S48)) (a1:Int) (r1:Int) (r2:List (S48)) (w0 w:World) (hB:Below w0.heap.size w0 w) (ho0:Kd.R k48 48 w w0.heap.size P0_ u9000_ l0) (h:laws_markCellS.f k l0 a1 = some (r1,r2)) :
  Calls Try.prog 36 #[u9000_,.int .i64 a1] w fun e w'=>e = .returned (.int .i64 r1) ∧ Kd.R k48 48 w' w0.heap.size (fun k_=>(P0_ k_ ∨ w.heap.size ≤ k_)) u9000_ r2 ∧ Below w0.heap.size w0 w' ∧ Kept w w' (fun k_=>P0_ k_):=by
 have HO0:=zM (show Kd.R k48 48 w w0.heap.size (fun k_=>(P0_ k_ ∨ w.heap.size ≤ k_)) u9000_ l0 from Kd.R_mono ho0 (fun k_ hk=>(.inl hk)))
 have HK:=zM (Kept.refl w (fun k_=>P0_ k_))
 have HW0:=zM hB.size;have HB:=zM hB;clear hB;have H:(laws_markCellS.l0 k l0 a1 0) = some (r1,r2):=h
 clear h;have H':=zM H;clear H;go_enter Try.func36,Try.ntmps36
 go_wp2
 go_loopg [1,5] k (fun kq v1 v5 w' => ∃ (x0_1:List (S48)) (x1_1:Int) (x5_1:Int),v1 = .int .i64 x1_1 ∧ v5 = .int .i64 x5_1 ∧ Aside0 (laws_markCellS.l0 kq x0_1 x1_1 x5_1 = some (r1,r2)) ∧ Aside0 (kq ≤ k) ∧ Aside0 (Kd.R k48 48 w' w0.heap.size (fun k_=>(P0_ k_ ∨ w.heap.size ≤ k_)) u9000_ x0_1) ∧ Aside0 (Kept w w' (fun k_=>P0_ k_)) ∧ Aside0 (Below w0.heap.size w0 w'))
 case atStart=>exact ⟨(l0),(a1),(0),(by first|rfl|(simp;done)|(simp [*];done)),(by first|rfl|(simp;done)|(simp [*];done)),H',⟨Nat.le_refl _⟩,⟨zzl HO0⟩,⟨by repeat (first|(with_reducible first|exact HK.out|apply Kept.alloc|apply Kept.drewN|apply Kept.drew)|exact HK.out)⟩,⟨zzh⟩⟩
 case round =>
  clear H';(try clear p2);obtain ⟨x0_1,x1_1,x5_1,rfl,rfl,HA,HK1,HO_0,HK,HB⟩:=hrel;cases gk with
  | zero=>exact absurd HA.out (by simp [laws_markCellS.l0])
  | succ k1 =>
   have H:=HA.out;clear HA;simp only [laws_markCellS.l0] at H
   by_cases c3:x5_1 < (x0_1.length:Int)
   ·rw [if_pos c3] at H
    have c3b0:decide (x5_1 < (x0_1.length:Int)) = true:=decide_eq_true c3
    clear c3;by_cases c4:0 ≤ x5_1
    ·rw [if_pos c4] at H
     have c4b0:decide (0 ≤ x5_1) = true:=decide_eq_true c4
     clear c4;obtain ⟨y460,hy460⟩ : ∃ y_:List (S48),y_ = (x0_1.set (x5_1:Int).toNat (⟨x1_1,(rd_T48 x0_1 x5_1).f1⟩ : S48)):=⟨_,rfl⟩
     replace H:(laws_markCellS.l0 k1 (y460.set (x5_1:Int).toNat (⟨(rd_T48 y460 x5_1).f0,wrap64 (x1_1 + 1)⟩ : S48)) (wrap64 ((wrap64 (x1_1 + 1)) + 1)) (wrap64 (x5_1 + 1))) = some (r1,r2):=by first|(rw [hy460];with_reducible exact H)|(have H2_:=(Option.bind_some _ _).symm.trans H;rw [hy460];with_reducible exact H2_)|(have H2_:=(Option.bind_some _ _).symm.trans H;with_reducible exact H2_)|with_reducible exact H|(rw [hy460];exact H)|exact H
     have Ny460:=zM hy460;clear hy460;obtain ⟨y461,hy461⟩ : ∃ y_:List (S48),y_ = (y460.set (x5_1:Int).toNat (⟨(rd_T48 y460 x5_1).f0,wrap64 (x1_1 + 1)⟩ : S48)):=⟨_,rfl⟩
     replace H:(laws_markCellS.l0 k1 y461 (wrap64 ((wrap64 (x1_1 + 1)) + 1)) (wrap64 (x5_1 + 1))) = some (r1,r2):=by first|(rw [hy461];with_reducible exact H)|(have H2_:=(Option.bind_some _ _).symm.trans H;rw [hy461];with_reducible exact H2_)|(have H2_:=(Option.bind_some _ _).symm.trans H;with_reducible exact H2_)|with_reducible exact H|(rw [hy461];exact H)|exact H
     have Ny461:=zM hy461;clear hy461;have H':=zM H;clear H;obtain ⟨Ao7,co7,eo7⟩:=Kd.R_slice HO_0.out;subst eo7;have p5:0 ≤ (x5_1:Int):=zzd
     have q5:(x5_1:Int) < ((x0_1.length:Int):Int):=zzd
     obtain ⟨go5,co5,eo5,gb5,gl5,cl5,HG5⟩:=Kd.R_form HO_0.out (by omega)
     (first|cases eo5|(injection eo5 with ea_ en_ ec_;(first|subst ea_|(injection ea_ with ea_;subst ea_));subst ec_;clear en_))
     have GB5:=zM gb5;have GG5:=zM HG5;clear gb5 gl5 HG5;have HMgo5:=zM (show (P0_ go5 ∨ w.heap.size ≤ go5) from (HO_0.out.1 _ rfl))
     obtain ⟨ce5,hcl5,hM5,hcc5,hfr5⟩:=Kd.R_elem HO_0.out z48 (x5_1:Int) p5 q5;obtain rfl:=k48_openM hM5;have hx5_0:wr.cell? ⟨go5,(x5_1:Int).toNat * 2,none⟩ = some (.int .i64 ((rd_T48 x0_1 x5_1).f0)):=hcc5 0 _ rfl
     have hx5_1:wr.cell? ⟨go5,(x5_1:Int).toNat * 2 + 1,none⟩ = some (.int .i64 ((rd_T48 x0_1 x5_1).f1)):=hcc5 1 _ rfl
     have hf5_0:wr.frozen? ⟨go5,(x5_1:Int).toNat * 2,none⟩ = false:=hfr5 0
     have hf5_1:wr.frozen? ⟨go5,(x5_1:Int).toNat * 2 + 1,none⟩ = false:=hfr5 1
     clear hcl5 hcc5 hfr5;(try clear hM5)
     replace p5:=eq_true p5;replace q5:=eq_true q5;have HX8:=zM (show Kd.R k48 48 wr w0.heap.size (fun k_=>(P0_ k_ ∨ w.heap.size ≤ k_)) (.slice (some ⟨go5,0,none⟩) x0_1.length co7) x0_1 from (zzl HO_0))
     obtain ⟨ce8,hcl8,hM8,hcc8,hfr8⟩:=Kd.R_elem HX8.out z48 (x5_1:Int) (zzd) (by have h_:(x5_1:Int) < ((x0_1.length:Int):Int):=zzd;first|exact h_|(have e_:=(zN HO_0.out).1;omega)|simpa using h_)
     obtain rfl:=k48_openM hM8;have HP8:=Kd.R_seg HX8.out (x5_1:Int) (zzd) (by have h_:(x5_1:Int) < ((x0_1.length:Int):Int):=zzd;first|exact h_|(have e_:=(zN HO_0.out).1;omega)|simpa using h_) (seg:=[.int .i64 x1_1]) (j:=0) hcl8 hcc8 (show 1 ≤ 2 from by decide) (x':=(⟨x1_1,(rd_T48 x0_1 x5_1).f1⟩ : S48)) (k48_mkM _ _ _ (⟨x1_1,(rd_T48 x0_1 x5_1).f1⟩ : S48) ) (fun _ hk=>hk)
     have hx8_0:=hcc8 0 _ rfl;(try simp only [show (k48).sz = 2 from rfl,Nat.mul_one,Nat.add_zero] at hx8_0)
     have hf8_0:=hfr8 0;(try simp only [show (k48).sz = 2 from rfl,Nat.mul_one,Nat.add_zero] at hf8_0)
     clear hcl8 hcc8 hfr8;(try clear hM8)
     go_wp2_with (first|((with_reducible refine gate_store (t:=3) (p:=16) rfl ?_);refine store_event (t:=3) (p:=16) (v:=?vo_w9) (w1:=(wr.setCell ⟨go5,(x5_1:Int).toNat * 2,none⟩ (.int .i64 x1_1))) ?hg ?ho ?hn ?hr ?_;(case ho=>rfl);(case hg=>rfl);(case hn=>rfl);(case hr=>first|(go_simp;done)|(go_simp;rfl));intro w9 hw;have hg:wr.grownBy w9 (some go5):=(by rw [hw];exact HP8.2);have hp_:Kd.R k48 48 w9 w0.heap.size (fun k_=>(P0_ k_ ∨ w.heap.size ≤ k_)) (.slice (some ⟨go5,0,none⟩) x0_1.length co7) y460:=(by rw [hw,Ny460.out];exact HP8.1);clear HP8;have n0_:=zM (hp_);have n1_:=zM ((by rw [hw];exact below_set (HB.out) GB5.out:Below w0.heap.size w0 w9));have n2_:=zM (Kept.of_grown (S:=(fun k_=>P0_ k_)) hg (by repeat (first|(with_reducible first|exact HK.out|apply Kept.alloc|apply Kept.drewN|apply Kept.drew)|exact HK.out)) (fun k_ e_=>(HO_0.out.1 k_ e_)));clear HO_0;clear HB;clear HK;have HO_0:=n0_;have HB:=n1_;have HK:=n2_;clear n0_ n1_ n2_;clear hg hw hp_;have p6:0 ≤ (x5_1:Int):=zzd;have q6:(x5_1:Int) < ((x0_1.length:Int):Int):=zzd;obtain ⟨ce6,hcl6,hM6,hcc6,hfr6⟩:=Kd.R_elem HO_0.out z48 (x5_1:Int) p6 q6;obtain rfl:=k48_openM hM6;have hx6_0:w9.cell? ⟨go5,(x5_1:Int).toNat * 2,none⟩ = some (.int .i64 ((rd_T48 y460 x5_1).f0)):=hcc6 0 _ rfl;have hx6_1:w9.cell? ⟨go5,(x5_1:Int).toNat * 2 + 1,none⟩ = some (.int .i64 ((rd_T48 y460 x5_1).f1)):=hcc6 1 _ rfl;have hf6_0:w9.frozen? ⟨go5,(x5_1:Int).toNat * 2,none⟩ = false:=hfr6 0;have hf6_1:w9.frozen? ⟨go5,(x5_1:Int).toNat * 2 + 1,none⟩ = false:=hfr6 1;clear hcl6 hcc6 hfr6;(try clear hM6);replace p6:=eq_true p6;replace q6:=eq_true q6;have HX10:=zM (show Kd.R k48 48 w9 w0.heap.size (fun k_=>(P0_ k_ ∨ w.heap.size ≤ k_)) (.slice (some ⟨go5,0,none⟩) x0_1.length co7) y460 from (zzl HO_0));obtain ⟨ce10,hcl10,hM10,hcc10,hfr10⟩:=Kd.R_elem HX10.out z48 (x5_1:Int) (zzd) (by have h_:(x5_1:Int) < ((x0_1.length:Int):Int):=zzd;first|exact h_|(have e_:=(zN HO_0.out).1;omega)|simpa using h_);obtain rfl:=k48_openM hM10;have HP10:=Kd.R_seg HX10.out (x5_1:Int) (zzd) (by have h_:(x5_1:Int) < ((x0_1.length:Int):Int):=zzd;first|exact h_|(have e_:=(zN HO_0.out).1;omega)|simpa using h_) (seg:=[.int .i64 (wrap64 (x1_1 + 1))]) (j:=1) hcl10 hcc10 (show 2 ≤ 2 from by decide) (x':=(⟨(rd_T48 y460 x5_1).f0,wrap64 (x1_1 + 1)⟩ : S48)) (k48_mkM _ _ _ (⟨(rd_T48 y460 x5_1).f0,wrap64 (x1_1 + 1)⟩ : S48) ) (fun _ hk=>hk);have hx10_1:=hcc10 1 _ rfl;(try simp only [show (k48).sz = 2 from rfl,Nat.mul_one,Nat.add_zero] at hx10_1);have hf10_1:=hfr10 1;(try simp only [show (k48).sz = 2 from rfl,Nat.mul_one,Nat.add_zero] at hf10_1);clear hcl10 hcc10 hfr10;(try clear hM10))|((with_reducible refine gate_store (t:=3) (p:=23) rfl ?_);refine store_event (t:=3) (p:=23) (v:=?vo_w11) (w1:=(w9.setCell ⟨go5,(x5_1:Int).toNat * 2 + 1,none⟩ (.int .i64 (wrap64 (x1_1 + 1))))) ?hg ?ho ?hn ?hr ?_;(case ho=>rfl);(case hg=>rfl);(case hn=>rfl);(case hr=>first|(go_simp;done)|(go_simp;rfl));intro w11 hw;have hg:w9.grownBy w11 (some go5):=(by rw [hw];exact HP10.2);have hp_:Kd.R k48 48 w11 w0.heap.size (fun k_=>(P0_ k_ ∨ w.heap.size ≤ k_)) (.slice (some ⟨go5,0,none⟩) x0_1.length co7) y461:=(by rw [hw,Ny461.out];exact HP10.1);clear HP10;have n0_:=zM (hp_);have n1_:=zM ((by rw [hw];exact below_set (HB.out) GB5.out:Below w0.heap.size w0 w11));have n2_:=zM (Kept.of_grown (S:=(fun k_=>P0_ k_)) hg (by repeat (first|(with_reducible first|exact HK.out|apply Kept.alloc|apply Kept.drewN|apply Kept.drew)|exact HK.out)) (fun k_ e_=>(HO_0.out.1 k_ e_)));clear HO_0;clear HB;clear HK;have HO_0:=n0_;have HB:=n1_;have HK:=n2_;clear n0_ n1_ n2_;clear hg hw hp_))
     go_roundg k1
     case measure=>have:=HK1.out;omega
     case rel=>exact ⟨(y461),(wrap64 ((wrap64 (x1_1 + 1)) + 1)),(wrap64 (x5_1 + 1)),(by first|rfl|(simp;done)|(simp [*];done)),(by first|rfl|(simp;done)|(simp [*];done)),H',⟨by have:=HK1.out;omega⟩,⟨zzl HO_0⟩,⟨by repeat (first|(with_reducible first|exact HK.out|apply Kept.alloc|apply Kept.drewN|apply Kept.drew)|exact HK.out)⟩,⟨zzh⟩⟩
    ·rw [if_neg c4] at H
     exact absurd H (by simp)
   ·rw [if_neg c3] at H
    have c3b0:decide (x5_1 < (x0_1.length:Int)) = false:=decide_eq_false c3
    clear c3;simp only [Option.some.injEq,Prod.mk.injEq] at H
    obtain ⟨rfl,rfl⟩:=H;obtain ⟨Ao12,co12,eo12⟩:=Kd.R_slice HO_0.out;subst eo12;go_wp2
    go_ret
    exact ⟨by first|rfl|(simp [errW_none,errW_some] <;> rfl)|(simp [*,errW_none,errW_some] <;> rfl),zzl HO_0,zzh,by repeat (first|(with_reducible first|exact HK.out|apply Kept.alloc|apply Kept.drewN|apply Kept.drew)|exact HK.out)⟩



/-! ### laws_heldCellS: function 37 -/
def laws_heldCellS.l0:Nat → List (S48) → Int → Int → Option (Int)
 | 0,_,_,_=>none
 | k + 1,x0,x1,x5=>if x5 < (x0.length:Int) then (if 0 ≤ x5 then (if ((rd_T48 x0 x5).f0) = x1 then (if ((rd_T48 x0 x5).f1) = (wrap64 (x1 + 1)) then (laws_heldCellS.l0 k x0 (wrap64 ((wrap64 (x1 + 1)) + 1)) (wrap64 (x5 + 1))) else (some (-1))) else (some (-1))) else (none)) else (some x1)
def laws_heldCellS.f (k:Nat) (l0:List (S48)) (a1:Int):Option (Int):=laws_heldCellS.l0 k l0 a1 0
set_option maxHeartbeats 8000000 in
set_option maxRecDepth 100000 in
theorem laws_heldCellS.calls (k:Nat) (A0:Option Addr) (c0:Nat) (l0:List (S48)) (a1:Int) (r:Int) (w:World) (hr0:Kd.C k48 w A0 l0.length l0) (hc0:l0.length ≤ c0) (h:laws_heldCellS.f k l0 a1 = some r) :
  Calls Try.prog 37 #[.slice A0 l0.length c0,.int .i64 a1] w fun e w'=>e = .returned (.int .i64 r) ∧ Drawn0 w w':=by
 have HR0:=zM hr0;have HC0:=zM hc0;clear hr0 hc0;have H:(laws_heldCellS.l0 k l0 a1 0) = some r:=h
 clear h;have H':=zM H;clear H;go_enter Try.func37,Try.ntmps37
 go_wp2
 go_loopg [1,5] k (fun kq v1 v5 w' => ∃ (x1_1:Int) (x5_1:Int),v1 = .int .i64 x1_1 ∧ v5 = .int .i64 x5_1 ∧ Aside0 (laws_heldCellS.l0 kq l0 x1_1 x5_1 = some r) ∧ Aside0 (kq ≤ k) ∧ Drawn0 w w')
 case atStart=>exact ⟨(a1),(0),(by first|rfl|(simp;done)|(simp [*];done)),(by first|rfl|(simp;done)|(simp [*];done)),H',⟨Nat.le_refl _⟩,by repeat (first|exact Drawn0.refl _|apply Drawn0.step)⟩
 case round =>
  clear H';(try clear p2);obtain ⟨x1_1,x5_1,rfl,rfl,HA,HK1,⟨m1,rfl⟩⟩:=hrel;cases gk with
  | zero=>exact absurd HA.out (by simp [laws_heldCellS.l0])
  | succ k1 =>
   have H:=HA.out;clear HA;simp only [laws_heldCellS.l0] at H
   by_cases c3:x5_1 < (l0.length:Int)
   ·rw [if_pos c3] at H
    have c3b0:decide (x5_1 < (l0.length:Int)) = true:=decide_eq_true c3
    clear c3;by_cases c4:0 ≤ x5_1
    ·rw [if_pos c4] at H
     have c4b0:decide (0 ≤ x5_1) = true:=decide_eq_true c4
     clear c4;by_cases c5:((rd_T48 l0 x5_1).f0) = x1_1
     ·rw [if_pos c5] at H
      have c5b0:(((rd_T48 l0 x5_1).f0) == x1_1) = true:=beq_iff_eq.mpr c5
      have c5b1:(((rd_T48 l0 x5_1).f0) != x1_1) = false:=bne_eq_false_iff_eq.mpr c5
      clear c5;by_cases c6:((rd_T48 l0 x5_1).f1) = (wrap64 (x1_1 + 1))
      ·rw [if_pos c6] at H
       have c6b0:(((rd_T48 l0 x5_1).f1) == (wrap64 (x1_1 + 1))) = true:=beq_iff_eq.mpr c6
       have c6b1:(((rd_T48 l0 x5_1).f1) != (wrap64 (x1_1 + 1))) = false:=bne_eq_false_iff_eq.mpr c6
       clear c6;have H':=zM H;clear H;have p526:0 ≤ (x5_1:Int):=zzd
       have q526:x5_1 < (l0.length:Int):=zzd
       obtain ⟨ad526,e526,hx526_0,hx526_1⟩:=at_T48 HR0.out x5_1 p526 q526;cases e526
       replace p526:=eq_true p526;replace q526:=eq_true q526;have p527:0 ≤ (x5_1:Int):=zzd
       have q527:x5_1 < (l0.length:Int):=zzd
       obtain ⟨ad527,e527,hx527_0,hx527_1⟩:=at_T48 HR0.out x5_1 p527 q527;obtain rfl:ad526 = ad527:=(by injection e527)
       replace p527:=eq_true p527;replace q527:=eq_true q527;go_wp2
       go_roundg k1
       case measure=>have:=HK1.out;omega
       case rel=>exact ⟨(wrap64 ((wrap64 (x1_1 + 1)) + 1)),(wrap64 (x5_1 + 1)),(by first|rfl|(simp;done)|(simp [*];done)),(by first|rfl|(simp;done)|(simp [*];done)),H',⟨by have:=HK1.out;omega⟩,by repeat (first|exact Drawn0.refl _|apply Drawn0.step)⟩
      ·rw [if_neg c6] at H
       have c6b0:(((rd_T48 l0 x5_1).f1) == (wrap64 (x1_1 + 1))) = false:=beq_eq_false_iff_ne.mpr c6
       have c6b1:(((rd_T48 l0 x5_1).f1) != (wrap64 (x1_1 + 1))) = true:=bne_iff_ne.mpr c6
       obtain rfl:=Option.some.inj H;have p526:0 ≤ (x5_1:Int):=zzd
       have q526:x5_1 < (l0.length:Int):=zzd
       obtain ⟨ad526,e526,hx526_0,hx526_1⟩:=at_T48 HR0.out x5_1 p526 q526;cases e526
       replace p526:=eq_true p526;replace q526:=eq_true q526;have p527:0 ≤ (x5_1:Int):=zzd
       have q527:x5_1 < (l0.length:Int):=zzd
       obtain ⟨ad527,e527,hx527_0,hx527_1⟩:=at_T48 HR0.out x5_1 p527 q527;obtain rfl:ad526 = ad527:=(by injection e527)
       replace p527:=eq_true p527;replace q527:=eq_true q527;go_wp2
       go_ret
       exact ⟨by first|rfl|(simp;done)|(simp [*];done),by repeat (first|exact Drawn0.refl _|apply Drawn0.step)⟩
     ·rw [if_neg c5] at H
      have c5b0:(((rd_T48 l0 x5_1).f0) == x1_1) = false:=beq_eq_false_iff_ne.mpr c5
      have c5b1:(((rd_T48 l0 x5_1).f0) != x1_1) = true:=bne_iff_ne.mpr c5
      obtain rfl:=Option.some.inj H;have p526:0 ≤ (x5_1:Int):=zzd
      have q526:x5_1 < (l0.length:Int):=zzd
      obtain ⟨ad526,e526,hx526_0,hx526_1⟩:=at_T48 HR0.out x5_1 p526 q526;cases e526
      replace p526:=eq_true p526;replace q526:=eq_true q526;go_wp2
      go_ret
      exact ⟨by first|rfl|(simp;done)|(simp [*];done),by repeat (first|exact Drawn0.refl _|apply Drawn0.step)⟩
    ·rw [if_neg c4] at H
     exact absurd H (by simp)
   ·rw [if_neg c3] at H
    have c3b0:decide (x5_1 < (l0.length:Int)) = false:=decide_eq_false c3
    clear c3;obtain rfl:=Option.some.inj H;go_wp2
    go_ret
    exact ⟨by first|rfl|(simp;done)|(simp [*];done),by repeat (first|exact Drawn0.refl _|apply Drawn0.step)⟩



/-! ### laws_markFloor: function 31 -/
def laws_markFloor.f (k:Nat) (a0_0:Int) (a0_1:Int) (l0_2:List (S48)) (a1:Int):Option (Int × (List (S48))):=(laws_markCellS.f k l0_2 a1).bind fun bt463=>(some (bt463.1,bt463.2))
set_option maxHeartbeats 8000000 in
set_option maxRecDepth 100000 in
theorem laws_markFloor.calls (k:Nat) (a0_0:Int) (a0_1:Int) (P0_2_:Nat → Prop) (u9000_:Value) (l0_2:List (S48)) (a1:Int) (r1:Int) (r2:List (S48)) (w0 w:World) (hB:Below w0.heap.size w0 w) (ho0_2:Kd.R k48 48 w w0.heap.size P0_2_ u9000_ l0_2) (h:laws_markFloor.f k a0_0 a0_1 l0_2 a1 = some (r1,r2)) :
  Calls Try.prog 31 #[.agg #[.int .i64 a0_0,.int .i64 a0_1,u9000_],.int .i64 a1] w fun e w'=>e = .returned (.int .i64 r1) ∧ Kd.R k48 48 w' w0.heap.size (fun k_=>(P0_2_ k_ ∨ w.heap.size ≤ k_)) u9000_ r2 ∧ Below w0.heap.size w0 w' ∧ Kept w w' (fun k_=>P0_2_ k_):=by
 have hu29:=Try.underlying29;have HO0_2:=zM (show Kd.R k48 48 w w0.heap.size (fun k_=>(P0_2_ k_ ∨ w.heap.size ≤ k_)) u9000_ l0_2 from Kd.R_mono ho0_2 (fun k_ hk=>(.inl hk)))
 have HK:=zM (Kept.refl w (fun k_=>P0_2_ k_))
 have HW0:=zM hB.size;have HB:=zM hB;clear hB;have H:((laws_markCellS.f k l0_2 a1).bind fun bt463=>(some (bt463.1,bt463.2))) = some (r1,r2):=h
 clear h;replace H:=Option.bind_eq_some_iff.mp H;obtain ⟨⟨t463,t464⟩,A30,H⟩:=H;replace H:(some (t463,t464)) = some (r1,r2):=H
 have A3:=zM A30;clear A30;simp only [Option.some.injEq,Prod.mk.injEq] at H
 obtain ⟨rfl,rfl⟩:=H;obtain ⟨Ao4,co4,eo4⟩:=Kd.R_slice HO0_2.out;subst eo4;go_enter Try.func31,Try.ntmps31
 go_wp2_with (first|((with_reducible refine gate_dst (N:=2) rfl ?_);refine zzc 2 #[.int .i64 a0_0,.int .i64 a0_1,.slice Ao4 l0_2.length co4] 29 ?_;intro gb462 hg w5 hbox hb;have n0_:=zM (zP (zzl HO0_2) hb);have n1_:=zM (Kept.below (S:=(fun k_=>P0_2_ k_)) (by repeat (first|(with_reducible first|exact HK.out|apply Kept.alloc|apply Kept.drewN|apply Kept.drew)|exact HK.out)) hb);have n2_:=zM (zQ zzh hb);have n3_:=zM (hbox);have n4_:=zM ((by rw [hg];exact (by first|exact HK.out.1|exact (show Kept w _ (fun k_=>P0_2_ k_) from by repeat (first|(with_reducible first|exact HK.out|apply Kept.alloc|apply Kept.drewN|apply Kept.drew)|exact HK.out)).1):w.heap.size ≤ gb462));have n5_:=zM ((by rw [hg];exact (zR zzh):w0.heap.size ≤ gb462));clear HO0_2;clear HK;clear HB;have HO0_2:=n0_;have HK:=n1_;have HB:=n2_;have BK462:=n3_;have GW462:=n4_;have GE462:=n5_;clear n0_ n1_ n2_ n3_ n4_ n5_;clear hb hbox hg;have hcz6_0:=zz0 BK462;have hcz6_1:=zz1 BK462;have hcz6_2:=zz2 BK462;have hfz6_0:=blk_frozen BK462.out 0;have hfz6_1:=blk_frozen BK462.out 1;have hfz6_2:=blk_frozen BK462.out 2)|((with_reducible refine gate_callee (f:=36) rfl ?_);refine goesL_ (some 8) rfl rfl Try.func36 (by kernel_rfl) rfl #[.slice Ao4 l0_2.length co4,.int .i64 a1] rfl (by (try simp only [List.map_toArray,List.map_cons,List.map_nil]);first|done|rfl|(simp only [List.length_drop,List.length_take];rfl)) ?_;(with_reducible refine (laws_markCellS.calls k (fun k_=>some k_ = (.slice Ao4 l0_2.length co4:Value).ownBlock) (.slice Ao4 l0_2.length co4) l0_2 a1 t463 t464 w0 _ ?side1 ?side2 A3.out).mono ?_);(case side1=>repeat (first|(with_reducible first|exact HB.out|apply zD|apply zE|apply zF|refine below_set ?_ GE462.out)|exact HB.out));(case side2=>exact Kd.R_tight rfl HO0_2.out);rintro e w7 ⟨rfl,hy0,hb,hkp⟩;refine ⟨_,rfl,?_⟩;have n0_:=zM (Kd.R_reok rfl hy0 (fun k_ e_=>HO0_2.out.1 k_ e_));have n1_:=zM (blk_kept (zzi BK462) hkp (fun hs_=>(fun e_=>(Kd.R_ne HO0_2.out BK462.out (by decide)) e_) hs_));have n2_:=zM (Kept.then_ (S:=(fun k_=>P0_2_ k_)) (by repeat (first|(with_reducible first|exact HK.out|apply Kept.alloc|apply Kept.drewN|apply Kept.drew|refine Kept.setCell ?_ (.inr GW462.out) _)|exact HK.out)) hkp (fun k_ hs_=>(fun e_=>(HO0_2.out.1 k_ e_.symm)) hs_));have n3_:=zM (hb);clear HO0_2;clear BK462;clear HK;clear HB;have HO0_2:=n0_;have BK462:=n1_;have HK:=n2_;have HB:=n3_;clear n0_ n1_ n2_ n3_;(try clear hb);(try clear hkp);(try clear hy0)))
 go_ret
 exact ⟨by first|rfl|(simp [errW_none,errW_some] <;> rfl)|(simp [*,errW_none,errW_some] <;> rfl),zzl HO0_2,zzh,by repeat (first|(with_reducible first|exact HK.out|apply Kept.alloc|apply Kept.drewN|apply Kept.drew|refine Kept.setCell ?_ (.inr GW462.out) _)|exact HK.out)⟩

end Go.Proofs.Ytbpccdbkaiigcaa.G

namespace Go.Proofs.Ytbpccdbkaiigcaa.G
open Go.RowKit Go.Proofs.YtbpccdbkaiigcaaW.PrintWords Go.Proofs.YtbpccdbkaiigcaaW.PrintLast
set_option linter.unusedVariables false
set_option linter.unusedSimpArgs false
theorem mark_C (xs : List S48) (h : (xs.length : Int) ≤ 1048576) : ∃ ys,Ev (fun k=>laws_markCellS.f k xs 1) (1 + 2 * (xs.length : Int),ys) ∧ Ev (fun k=>laws_heldCellS.f k ys 1) (1 + 2 * (xs.length : Int)):=by
 obtain ⟨ys,h1,h2,h3⟩:=Ev.mark (fun k xs c i=>laws_markCellS.l0 k xs c i) (xs.length : Int) 2 (fun i=>(⟨1 + 2 * i,1 + 2 * i + 1⟩ : S48)) z48 (by
   intro ys c hl
   refine Ev.step (fun k=>by rw [laws_markCellS.l0]) ?_
   simp only [hl,Int.lt_irrefl,if_false]
   exact Ev.now _) (by
   intro ys c i hl h0 hlt hc r hr
   refine Ev.step (fun k=>by rw [laws_markCellS.l0]) ?_
   have e1 : wrap64 (c + 1) = c + 1:=wrap64_id (by omega) (by omega)
   have e2 : wrap64 (c + 1 + 1) = c + 2:=by rw [wrap64_id (by omega) (by omega)];omega
   have e3 : wrap64 (i + 1) = i + 1:=wrap64_id (by omega) (by omega)
   simp only [hl,if_pos hlt,if_pos h0,Option.bind_some,e1,e2,e3,rd_T48,getD_set _ _ _ _ _ (show i.toNat < ys.length by omega),if_true,List.set_set]
   rw [hc] at hr ⊢
   exact hr) xs rfl
 refine ⟨ys,h1,?_⟩
 refine Ev.up (fun k (c : Int) i=>laws_heldCellS.l0 k ys c i) (fun _ _=>1 + 2 * (xs.length : Int)) (fun c i=>0 ≤ i ∧ c = 1 + 2 * i) (xs.length : Int) ?_ ?_ 1 0 ⟨by omega,by omega⟩ (by omega)
 ·rintro c ⟨_,rfl⟩
  refine Ev.step (fun k=>by rw [laws_heldCellS.l0]) ?_
  simp only [h2,Int.lt_irrefl,if_false]
  exact Ev.now _
 ·rintro c i ⟨h0,hc⟩ hlt ih
  refine Ev.step (fun k=>by rw [laws_heldCellS.l0]) ?_
  have e1 : wrap64 (c + 1) = c + 1:=wrap64_id (by omega) (by omega)
  have e2 : wrap64 (c + 1 + 1) = c + 2:=by rw [wrap64_id (by omega) (by omega)];omega
  have e3 : wrap64 (i + 1) = i + 1:=wrap64_id (by omega) (by omega)
  simp only [h2,if_pos hlt,if_pos h0,e1,e2,e3,rd_T48,h3 i h0 hlt,← hc,if_true]
  exact ih _ ⟨by omega,by omega⟩
theorem mark_F (w h : Int) (xs : List S48) (hl : (xs.length : Int) ≤ 1048576) : ∃ ys,Ev (fun k=>laws_markFloor.f k w h xs 1) (1 + 2 * (xs.length : Int),ys):=by
 obtain ⟨ys,h1,_⟩:=mark_C xs hl
 refine ⟨ys,?_⟩
 unfold laws_markFloor.f
 exact Ev.bind h1 (Ev.now _)
end Go.Proofs.Ytbpccdbkaiigcaa.G

-- Written by wip/tools/gen.py out of the translation (the kit's printer, one namespace a seat). Lean checks it.
namespace Go.Proofs.Ytbpccdbkaiigcaa.G
open Go.RowKit Go.Proofs.YtbpccdbkaiigcaaW.PrintWords Go.Proofs.YtbpccdbkaiigcaaW.PrintLast Go.Proofs.YtbpccdbkaiigcaaW.PrintMore
attribute [local go_sem] max2_int min2_int max_two min_two max_three min_three max_four min_four   -- for this text's walks alone
set_option linter.unusedVariables false
set_option linter.unusedSimpArgs false

/-! ### laws_heldCellSS: function 46 -/
def laws_heldCellSS.l0:Nat → List (List (S48)) → Int → Int → Option (Int)
 | 0,_,_,_=>none
 | k + 1,x0,x1,x5=>if x5 < (x0.length:Int) then (if 0 ≤ x5 then ((laws_heldCellS.f k (rd_L6 x0 x5) x1).bind fun t660=>(if t660 < 0 then (some (-1)) else (laws_heldCellSS.l0 k x0 t660 (wrap64 (x5 + 1))))) else (none)) else (some x1)
def laws_heldCellSS.f (k:Nat) (l0:List (List (S48))) (a1:Int):Option (Int):=laws_heldCellSS.l0 k l0 a1 0
end Go.Proofs.Ytbpccdbkaiigcaa.G

/- markCellSS over a slice of slices of one's own whose rows lie apart: what stands in it afterwards. -/
namespace Go.Proofs.Ytbpccdbkaiigcaa.G
open Go.RowKit Go.Proofs.YtbpccdbkaiigcaaW.PrintWords Go.Proofs.YtbpccdbkaiigcaaW.PrintLast Go.Proofs.YtbpccdbkaiigcaaW.PrintMore
set_option linter.unusedVariables false
set_option linter.unusedSimpArgs false
theorem mark_CK (xs : List S48) (h : (xs.length : Int) ≤ 1048576) (s : Int) (s0 : 0 ≤ s) (s1 : s ≤ 8796093022208) : ∃ ys,Ev (fun k=>laws_markCellS.f k xs s) (s + 2 * (xs.length : Int),ys) ∧ Ev (fun k=>laws_heldCellS.f k ys s) (s + 2 * (xs.length : Int)) ∧ (ys.length : Int) = (xs.length : Int):=by
 obtain ⟨ys,h1,h2,h3⟩:=Ev.markFrom (fun k xs c i=>laws_markCellS.l0 k xs c i) (xs.length : Int) 2 s (fun i=>(⟨s + 2 * i,s + 2 * i + 1⟩ : S48)) z48 (by
   intro ys c hl
   refine Ev.step (fun k=>by rw [laws_markCellS.l0]) ?_
   simp only [hl,Int.lt_irrefl,if_false]
   exact Ev.now _) (by
   intro ys c i hl h0 hlt hc r hr
   refine Ev.step (fun k=>by rw [laws_markCellS.l0]) ?_
   have e1 : wrap64 (c + 1) = c + 1:=wrap64_id (by omega) (by omega)
   have e2 : wrap64 (c + 1 + 1) = c + 2:=by rw [wrap64_id (by omega) (by omega)];omega
   have e3 : wrap64 (i + 1) = i + 1:=wrap64_id (by omega) (by omega)
   simp only [hl,if_pos hlt,if_pos h0,Option.bind_some,e1,e2,e3,rd_T48,getD_set _ _ _ _ _ (show i.toNat < ys.length by omega),if_true,List.set_set]
   rw [hc] at hr ⊢
   exact hr) xs rfl
 refine ⟨ys,h1,?_,h2⟩
 refine Ev.up (fun k (c : Int) i=>laws_heldCellS.l0 k ys c i) (fun _ _=>s + 2 * (xs.length : Int)) (fun c i=>0 ≤ i ∧ c = s + 2 * i) (xs.length : Int) ?_ ?_ s 0 ⟨by omega,by omega⟩ (by omega)
 ·rintro c ⟨_,rfl⟩
  refine Ev.step (fun k=>by rw [laws_heldCellS.l0]) ?_
  simp only [h2,Int.lt_irrefl,if_false]
  exact Ev.now _
 ·rintro c i ⟨h0,hc⟩ hlt ih
  refine Ev.step (fun k=>by rw [laws_heldCellS.l0]) ?_
  have e1 : wrap64 (c + 1) = c + 1:=wrap64_id (by omega) (by omega)
  have e2 : wrap64 (c + 1 + 1) = c + 2:=by rw [wrap64_id (by omega) (by omega)];omega
  have e3 : wrap64 (i + 1) = i + 1:=wrap64_id (by omega) (by omega)
  simp only [h2,if_pos hlt,if_pos h0,e1,e2,e3,rd_T48,h3 i h0 hlt,← hc,if_true]
  exact ih _ ⟨by omega,by omega⟩
def tot2 (xs : List (List S48)) : Nat → Int
 | 0=>0
 | i + 1=>tot2 xs i + 2 * ((rd_L6 xs (i : Int)).length : Int)
theorem tot2_mono (xs : List (List S48)) : ∀ i : Nat,0 ≤ tot2 xs i
 | 0=>Int.le_refl _
 | i + 1=>by have:=tot2_mono xs i;unfold tot2;omega
theorem tot2_le (xs : List (List S48)) (i : Nat) : ∀ d : Nat,tot2 xs i ≤ tot2 xs (i + d)
 | 0=>Int.le_refl _
 | d + 1=>by have:=tot2_le xs i d;show tot2 xs i ≤ tot2 xs (i + d) + 2 * ((rd_L6 xs ((i + d : Nat) : Int)).length : Int);omega
theorem take_set_dropC {α : Type} (ys xs : List α) (z : α) (i : Nat) (hl : ys.length = xs.length) (hi : i < xs.length) : (ys.take i ++ xs.drop i).set i (ys.getD i z) = ys.take (i + 1) ++ xs.drop (i + 1):=by
 rw [List.set_append_right _ _ (by rw [List.length_take];omega),List.length_take,Nat.min_eq_left (by omega),Nat.sub_self]
 have e1 : xs.drop i = xs[i] :: xs.drop (i + 1):=List.drop_eq_getElem_cons hi
 have e2 : ys.take (i + 1) = ys.take i ++ [ys[i]'(by omega)]:=by rw [List.take_add_one,List.getElem?_eq_getElem (by omega)];rfl
 rw [e1,List.set_cons_zero,e2,List.getD_eq_getElem?_getD,List.getElem?_eq_getElem (by omega),List.append_assoc]
 rfl
theorem getD_take_dropC {α : Type} (ys xs : List α) (z : α) (i : Nat) (hl : ys.length = xs.length) (hi : i < xs.length) : (ys.take i ++ xs.drop i).getD i z = xs.getD i z:=by
 rw [List.getD_eq_getElem?_getD,List.getElem?_append_right (by rw [List.length_take];omega),List.length_take,Nat.min_eq_left (by omega),Nat.sub_self,List.getElem?_drop,Nat.add_zero,List.getD_eq_getElem?_getD]
set_option maxHeartbeats 4000000 in
set_option maxRecDepth 100000 in
theorem markCSS_rows {ok : Nat → Prop} (kf : Nat) (A : Option Addr) (c : Nat) (xs ys : List (List S48)) (k : Int) (w0 w : World) (hB : Below w0.heap.size w0 w) (h : Kd.S (Kd.slice 48 k48) 27 w w0.heap.size ok (.slice A xs.length c) xs) (hl : ys.length = xs.length)
  (hm : ∀ i : Nat,i < xs.length → laws_markCellS.f kf (rd_L6 xs (i : Int)) (k + tot2 xs i) = some (k + tot2 xs (i + 1),rd_L6 ys (i : Int))) :
  Calls Try.prog 43 #[.slice A xs.length c,.int .i64 k] w fun e w'=>e = .returned (.int .i64 (k + tot2 xs xs.length)) ∧ Kd.S (Kd.slice 48 k48) 27 w' w0.heap.size ok (.slice A xs.length c) ys ∧ Below w0.heap.size w0 w' ∧ Kept w w' ok:=by
 have hn : xs.length ≤ 9223372036854775807:=(Kd.S_reads' h).2.2.2.1
 have HS:=Aside0.mk h
 have HM:=Aside0.mk hm
 have HB0:=Aside0.mk hB
 clear h hm hB
 go_enter Try.func43,Try.ntmps43
 go_wp2
 go_loopw [1,5] (fun kv iv w' => ∃ i : Nat,i ≤ xs.length ∧ iv = .int .i64 i ∧ kv = .int .i64 (k + tot2 xs i) ∧ Aside0 (Kd.S (Kd.slice 48 k48) 27 w' w0.heap.size ok (.slice A xs.length c) (ys.take i ++ xs.drop i)) ∧ Aside0 (Below w0.heap.size w0 w' ∧ Kept w w' ok)) (fun _ i _=>xs.length - (intOf i).toNat)
 case atStart=>exact ⟨0,Nat.zero_le _,rfl,by simp [tot2],Aside0.mk (by simpa using HS.out),Aside0.mk ⟨HB0.out,Kept.refl _ _⟩⟩
 case round =>
  obtain ⟨i,hi,rfl,rfl,hS,hK⟩:=hrel
  by_cases hlt : i < xs.length
  ·have hll : (ys.take i ++ xs.drop i).length = xs.length:=by simp;omega
   obtain ⟨ad,_,hA,_⟩:=ReadsRow.get_ (Kd.S_reads' hS.out).2.2 ([] : List S48) (i : Int) (by omega) (by omega)
   subst hA
   obtain ⟨g,rfl⟩:=Kd.R_head (Kd.S_R hS.out)
   obtain ⟨oki,cl,hcl,hM,hcc,hoki,hH⟩:=Kd.S_lend hS.out ([] : List S48) (i : Int) (by omega) (by omega)
   obtain ⟨vr,rfl,hR⟩:=hM
   rw [Int.toNat_natCast,getD_take_dropC ys xs [] i hl hlt] at hR
   have hrow : xs.getD i ([] : List S48) = rd_L6 xs (i : Int):=rfl
   have hrowy : ys.getD i ([] : List S48) = rd_L6 ys (i : Int):=rfl
   rw [hrow] at hR
   have hcell : wr.cell? ⟨g,i,none⟩ = some vr:=by
    have:=hcc 0 _ rfl
    rw [Int.toNat_natCast,show (Kd.slice 48 k48).sz = 1 from rfl,Nat.mul_one,Nat.add_zero] at this
    exact this
   have HR:=Aside0.mk hR
   have HH:=Aside0.mk hH
   have HMi:=Aside0.mk (HM.out i hlt)
   clear hcl hcc hrow hR hH hll hoki
   go_wp2_with (go_at_call 36;refine (laws_markCellS.calls kf oki vr (rd_L6 xs (i : Int)) (k + tot2 xs i) _ (rd_L6 ys (i : Int)) w0 _ hK.out.1 HR.out HMi.out).mono ?_;rintro e w2 ⟨rfl,hR2,hB2,hk2⟩;have HR2:=Aside0.mk hR2;have HB2:=Aside0.mk hB2;have HK2:=Aside0.mk hk2;clear hR2 hB2 hk2)
   have hH2:=Kd.H_kept HH.out HK2.out (fun k _ hn=>hn)
   have hR3:=Kd.R_mono (ok':=oki) (Kd.R_tight rfl HR2.out) (fun k hk=>HR.out.1 k hk.symm)
   have hS2:=Kd.H_back hH2 (x':=rd_L6 ys (i : Int)) ⟨vr,rfl,hR3⟩ (fun _ h=>h)
   rw [Int.toNat_natCast,← hrowy,take_set_dropC ys xs [] i hl hlt] at hS2
   have HS2:=Aside0.mk hS2
   have HK3 : Aside0 (Kept w w2 ok):=Aside0.mk (Kept.then_ hK.out.2 HK2.out (fun k hk => .inl (HH.out.1 k hk)))
   clear hS2 hH2 hR3
   go_roundw
   case rel=>exact ⟨i + 1,by omega,by go_num,rfl,HS2,Aside0.mk ⟨HB2.out,HK3.out⟩⟩
   case measure=>simp [intOf];omega
  ·obtain rfl : i = xs.length:=by omega
   go_wp2
   go_ret
   have h2:=hS.out
   rw [List.take_of_length_le (by omega),List.drop_length,List.append_nil] at h2
   exact ⟨rfl,h2,hK.out⟩
/-- The marked rows. -/
theorem markC_rows (s : Int) (s0 : 0 ≤ s) (xs : List (List S48)) (hr : ∀ i : Nat,i < xs.length → ((rd_L6 xs (i : Int)).length : Int) ≤ 1048576) (ht : s + tot2 xs xs.length ≤ 8796093022208) :
  ∃ ys : List (List S48),ys.length = xs.length ∧ (∃ kf,∀ i : Nat,i < xs.length → laws_markCellS.f kf (rd_L6 xs (i : Int)) (s + tot2 xs i) = some (s + tot2 xs (i + 1),rd_L6 ys (i : Int))) ∧ (∀ i : Nat,i < xs.length → Ev (fun k=>laws_heldCellS.f k (rd_L6 ys (i : Int)) (s + tot2 xs i)) (s + tot2 xs (i + 1))):=by
 have one : ∀ i : Nat,i < xs.length → ∃ r,Ev (fun k=>laws_markCellS.f k (rd_L6 xs (i : Int)) (s + tot2 xs i)) (s + tot2 xs (i + 1),r) ∧ Ev (fun k=>laws_heldCellS.f k r (s + tot2 xs i)) (s + tot2 xs (i + 1)):=fun i hi=>by
  have h0:=tot2_mono xs i
  have h1:=tot2_le xs i (xs.length - i)
  rw [show i + (xs.length - i) = xs.length from by omega] at h1
  obtain ⟨r,m1,m2,_⟩:=mark_CK (rd_L6 xs (i : Int)) (by have:=hr i hi;omega) (s + tot2 xs i) (by omega) (by omega)
  have e : s + tot2 xs i + 2 * (((rd_L6 xs (i : Int)).length : Int) : Int) = s + tot2 xs (i + 1):=by rw [show tot2 xs (i + 1) = tot2 xs i + 2 * ((rd_L6 xs (i : Int)).length : Int) from rfl];omega
  rw [e] at m1 m2
  exact ⟨r,m1,m2⟩
 have all : ∀ n : Nat,n ≤ xs.length → ∃ (ys : List (List S48)) (kf : Nat),ys.length = n ∧ (∀ i : Nat,i < n → laws_markCellS.f kf (rd_L6 xs (i : Int)) (s + tot2 xs i) = some (s + tot2 xs (i + 1),rd_L6 ys (i : Int))) ∧ (∀ i : Nat,i < n → Ev (fun k=>laws_heldCellS.f k (rd_L6 ys (i : Int)) (s + tot2 xs i)) (s + tot2 xs (i + 1))):=by
  intro n
  induction n with
  | zero=>exact fun _=>⟨[],0,rfl,fun i hi=>absurd hi (by omega),fun i hi=>absurd hi (by omega)⟩
  | succ n ih =>
   intro hn
   obtain ⟨ys,kf,hl,h1,h2⟩:=ih (by omega)
   obtain ⟨r,m1,m2⟩:=one n (by omega)
   obtain ⟨kr,hkr⟩:=Ev.rounds m1
   have up : ∀ {k : Nat} {a : List S48} {s' : Int} {v : Int × List S48} (d : Nat),laws_markCellS.f k a s' = some v → laws_markCellS.f (k + d) a s' = some v:=fun d h=>by
    induction d with
    | zero=>exact h
    | succ d ih=>exact laws_markCellS.mono _ _ _ _ ih
   have lo : ∀ i : Nat,i < n → rd_L6 (ys ++ [r]) (i : Int) = rd_L6 ys (i : Int):=fun i hi=>by
    show (ys ++ [r]).getD i [] = ys.getD i []
    rw [List.getD_eq_getElem?_getD,List.getElem?_append_left (by omega),← List.getD_eq_getElem?_getD]
   have hi' : rd_L6 (ys ++ [r]) (n : Int) = r:=by
    show (ys ++ [r]).getD n [] = r
    rw [List.getD_eq_getElem?_getD,List.getElem?_append_right (by omega),hl,Nat.sub_self]
    rfl
   refine ⟨ys ++ [r],kf + kr,by simp [hl],fun i hi=>?_,fun i hi=>?_⟩
   ·by_cases h : i < n
    ·rw [lo i h]
     exact up kr (h1 i h)
    ·obtain rfl : i = n:=by omega
     rw [hi',Nat.add_comm]
     exact up kf hkr
   ·by_cases h : i < n
    ·rw [lo i h]
     exact h2 i h
    ·obtain rfl : i = n:=by omega
     rw [hi']
     exact m2
 obtain ⟨ys,kf,hl,h1,h2⟩:=all xs.length (Nat.le_refl _)
 exact ⟨ys,hl,⟨kf,h1⟩,h2⟩
theorem tot2_cap {xs : List (List S48)} (h : ∀ i : Nat,i < xs.length → ((rd_L6 xs (i : Int)).length : Int) ≤ 1048576) : ∀ i : Nat,i ≤ xs.length → tot2 xs i ≤ (i : Int) * 2097152
 | 0,_=>by simp [tot2]
 | i + 1,hi=>by
  have h1:=tot2_cap h i (by omega)
  have h2:=h i (by omega)
  show tot2 xs i + 2 * ((rd_L6 xs (i : Int)).length : Int) ≤ ((i + 1 : Nat) : Int) * 2097152
  omega
end Go.Proofs.Ytbpccdbkaiigcaa.G
