/- The contract of choices: what is called back turns its state at each list, in lexicographic order. -/
import Derived.Test.YtibfchjpdplehaaClone
import Derived.Test.YtibfchjpdplehaaChs
import Derived.Maps.AppendAt
namespace Go.Proofs.Ytibfchjpdplehaa.G
open Go.RowKit Go.Proofs.YtibfchjpdplehaaW.PrintWords Go.Proofs.YtibfchjpdplehaaW.PrintLast
set_option linter.unusedVariables false
set_option linter.unusedSimpArgs false
/-- Outside the blocks of S the world w' is as w was. -/
structure Keeps (S : Nat → Prop) (w w' : World) : Prop where
  os : w'.os = w.os
  tape : w'.tape = w.tape
  output : w'.output = w.output
  size : w.heap.size ≤ w'.heap.size
  block : ∀ k, k < w.heap.size → ¬ S k → w'.heap[k]? = w.heap[k]?
theorem Keeps.refl (S : Nat → Prop) (w : World) : Keeps S w w := ⟨rfl, rfl, rfl, Nat.le_refl _, fun _ _ _ => rfl⟩
theorem Keeps.trans {S : Nat → Prop} {a b c : World} (h : Keeps S a b) (k : Keeps S b c) : Keeps S a c :=
  ⟨k.os.trans h.os, k.tape.trans h.tape, k.output.trans h.output, Nat.le_trans h.size k.size, fun i hi hn => (k.block i (Nat.lt_of_lt_of_le hi h.size) hn).trans (h.block i hi hn)⟩
theorem Keeps.mono {S S' : Nat → Prop} {w w' : World} (h : Keeps S w w') (hs : ∀ k, k < w.heap.size → S k → S' k) : Keeps S' w w' := ⟨h.os, h.tape, h.output, h.size, fun k hk hn => h.block k hk (fun m => hn (hs k hk m))⟩
theorem Keeps.of_below {S : Nat → Prop} {w w' : World} (h : Below w.heap.size w w') : Keeps S w w' := ⟨h.os, h.tape, h.output, h.size, fun k hk _ => h.block k hk⟩
theorem Keeps.of_grown {w w' : World} {row : Option Nat} (h : w.grownBy w' row) : Keeps (fun k => some k = row) w w' := ⟨h.os, h.tape, h.output, h.size, fun k hk hn => h.block k hk hn⟩
theorem Keeps.cell {S : Nat → Prop} {w w' : World} (h : Keeps S w w') {p : Addr} {v : Value} (hp : w.cell? p = some v) (hn : ¬ S p.block) : w'.cell? p = some v :=
  (World.cell?_of_block (w := w) (h.block p.block (World.block_lt_of_cell? w p hp) hn)).trans hp
/-- What is called back (function F over captured values; its own cells lie below block B): it turns the state by step at each list, and nothing outside S. -/
structure Back {σ : Type} (F : FuncId) (caps : Array Value) (S : Nat → Prop) (B : Nat) (I : (Nat → Prop) → World → σ → Prop) (P : List Int → Prop) (step : σ → List Int → σ) : Prop where
  enters : ∀ (args : Array Value) (w : World), (callFunc F args).run Try.prog w = .ok (.enter F args) w
  call : ∀ (ok : Nat → Prop) (w : World) (s : σ) (v : Value) (l : List Int), I ok w s → P l → Kd.R (Kd.int .i64) 3 w B ok v l → Calls Try.prog F (#[v] ++ caps) w fun e w' => e = .returned (.tuple #[]) ∧ I ok w' (step s l) ∧ Keeps S w w'
  stay : ∀ (ok : Nat → Prop) (w w' : World) (s : σ) (T : Nat → Prop), I ok w s → Keeps T w w' → (∀ k, T k → B ≤ k ∧ ¬ ok k) → I ok w' s
  mono : ∀ (ok ok' : Nat → Prop) (w : World) (s : σ), I ok w s → (∀ k, k < w.heap.size → ok k → ok' k) → I ok' w s
  low : ∀ k, S k → k < B
theorem Back.below {σ : Type} {F : FuncId} {caps : Array Value} {S : Nat → Prop} {B : Nat} {I : (Nat → Prop) → World → σ → Prop} {P : List Int → Prop} {step : σ → List Int → σ} (h : Back F caps S B I P step) {ok : Nat → Prop} {w w' : World} {s : σ} (hI : I ok w s) (hb : Below w.heap.size w w') : I ok w' s :=
  h.stay ok w w' s (fun _ => False) hI (Keeps.of_below hb) (fun _ h => h.elim)
/-- An append of one cell to a row of one's own: in place (the very slice, longer), or in a new block. -/
theorem append_two {P : Program} (w : World) (base : Nat) (t ty e : TypeId) (i : TypeInfo) (z : Value) (bytes : Nat) (ht : P.underlying t = some (.slice e)) (hi : P.info? e = some i) (hz : i.zero = some z) (hsize : i.size = 1) (hby : i.bytes = bytes) (hzs : z.cells.size = 1)
    (v : Value) (n : Nat) (xs : List Value) (hown : w.ownsRow base e 1 v n xs) (a : Addr) (c : Nat) (news : List Value) (hl : news.length = 1 * 1) (hnews : ∀ j u, news[j]? = some u → w.cell? (a.add j) = some u) (h1 : ∀ u ∈ news, u.oneCell' = true)
    (h63 : n + 1 ≤ maxLen) (hbytes : (n + 1) * bytes ≤ 140737488355328) (hbase : base ≤ w.heap.size) :
    ∃ v' w', (Builtin.append_ #[t, t] ty #[v, .slice (some a) 1 c]).run P w = .ok v' w' ∧ w'.ownsRow base e 1 v' (n + 1) (xs ++ news) ∧
      ((∃ g cap, v = .slice (some ⟨g, 0, none⟩) n cap ∧ v' = .slice (some ⟨g, 0, none⟩) (n + 1) cap ∧ w.grownBy w' (some g)) ∨ (w.grownBy w' none ∧ v'.ownBlock = some w.heap.size)) := by
  obtain ⟨v', w', hr, ho, hg, _, hat⟩ := run_append_own_at (P := P) w base t ty e i z 1 bytes ht hi hz hsize hby hzs (by decide) v n xs hown a 1 c news hl hnews h1 h63 hbytes hbase
  refine ⟨v', w', hr, ho, ?_⟩
  rcases hown.2 with ⟨rfl, rfl⟩ | ⟨g, cap, cur, rfl, hbg, hh, hnc, hcm, hcs, htake⟩
  · refine .inr ⟨hg, ?_⟩
    rcases hat with hat | hat
    · exfalso
      obtain ⟨_, h2⟩ := ho
      rcases h2 with ⟨rfl, h3⟩ | ⟨g, cap, cur, rfl, _⟩
      · omega
      · simp [Value.ownBlock] at hat
    · exact hat
  · by_cases hroom : n + 1 ≤ cap
    · obtain ⟨w2, hr2, ho2, hg2⟩ := run_append_fits (P := P) w base t ty e i 1 ht hi hsize g n cap xs hown a 1 c news hl hnews h1 hroom
      rw [hr] at hr2
      injection hr2 with e1 e2
      subst e1
      subst e2
      exact .inl ⟨g, cap, rfl, rfl, hg2⟩
    · have holds : ∀ j u, xs[j]? = some u → w.cell? ((⟨g, 0, none⟩ : Addr).add j) = some u := hown.cells (g := g) rfl
      have hr2 := run_append_grow (P := P) w t ty e i z ht hi hz ⟨g, 0, none⟩ n cap xs (by rw [hsize]; exact hown.1) holds a 1 c news (by rw [hsize]; exact hl) hnews (by omega) (by simp only [maxLen] at h63; omega) (growslice_fits (by omega) (by rw [hby]; exact hbytes))
      rw [hr] at hr2
      injection hr2 with e1 e2
      subst e1
      subst e2
      exact .inr ⟨⟨rfl, rfl, rfl, by simp, fun k hk _ => Below.heap_alloc w.drew _ k hk⟩, rfl⟩
/-- A row's beginning, the same block. -/
theorem R_cut {w : World} {base g cap : Nat} {ok : Nat → Prop} {xs : List Int} {x : Int} (h : Kd.R (Kd.int .i64) 3 w base ok (.slice (some ⟨g, 0, none⟩) (xs.length + 1) cap) (xs ++ [x])) : Kd.R (Kd.int .i64) 3 w base ok (.slice (some ⟨g, 0, none⟩) xs.length cap) xs := by
  have h0 := h.1
  have ho := Kd.own_of_R h
  refine Kd.R_of_own ?_ (fun k hk => h0 k hk)
  obtain ⟨hl, hs⟩ := ho
  rcases hs with ⟨e, _⟩ | ⟨g', cap', cur, e, hbg, hh, hnc, hcm, hcs, htake⟩
  · cases e
  · injection e with e1 e2 e3
    injection e1 with e1
    injection e1 with e1
    subst e1
    subst e3
    have hlen : (xs ++ [x]).length = xs.length + 1 := by simp
    rw [hlen] at hnc htake
    refine ⟨by simp [encs], .inr ⟨g, cap, cur, rfl, hbg, hh, by omega, hcm, hcs, ?_⟩⟩
    have h2 := congrArg (List.take (xs.length * 1)) htake
    rw [List.take_take, show min (xs.length * 1) ((xs.length + 1) * 1) = xs.length * 1 from by omega] at h2
    rw [h2]
    simp [encs]
theorem Keeps.trans2 {T T1 T2 : Nat → Prop} {a b c : World} (h : Keeps T1 a b) (k : Keeps T2 b c) (hT : ∀ i, i < a.heap.size → ¬ T i → ¬ T1 i ∧ ¬ T2 i) : Keeps T a c :=
  ⟨k.os.trans h.os, k.tape.trans h.tape, k.output.trans h.output, Nat.le_trans h.size k.size, fun i hi hn => (k.block i (Nat.lt_of_lt_of_le hi h.size) (hT i hi hn).2).trans (h.block i hi (hT i hi hn).1)⟩
/-- The boxes that choices$1 has captured; they lie below block B2. -/
structure Boxes (F : FuncId) (caps : Array Value) (S : Nat → Prop) (B B2 n m Bn Bc Bm Be : Nat) (w : World) : Prop where
  base : B2 ≤ w.heap.size
  bb : B ≤ B2
  lt : Bn < B2 ∧ Bc < B2 ∧ Bm < B2 ∧ Be < B2
  cn : w.cell? ⟨Bn, 0, none⟩ = some (.int .i64 n)
  cc : w.cell? ⟨Bc, 0, none⟩ = some (.func (.func F) #[] caps)
  cm : w.cell? ⟨Bm, 0, none⟩ = some (.int .i64 m)
  ce : w.cell? ⟨Be, 0, none⟩ = some (.func (.func 78) #[] #[.pointer (some ⟨Bn, 0, none⟩), .pointer (some ⟨Bc, 0, none⟩), .pointer (some ⟨Bm, 0, none⟩), .pointer (some ⟨Be, 0, none⟩)])
  st : ¬ S Bn ∧ ¬ S Bc ∧ ¬ S Bm ∧ ¬ S Be
theorem Boxes.keeps {F : FuncId} {caps : Array Value} {S T : Nat → Prop} {B B2 n m Bn Bc Bm Be : Nat} {w w' : World} (h : Boxes F caps S B B2 n m Bn Bc Bm Be w) (k : Keeps T w w') (hT : ∀ i, T i → S i ∨ B2 ≤ i) : Boxes F caps S B B2 n m Bn Bc Bm Be w' := by
  have l := h.lt
  have s := h.st
  have no : ∀ i, i < B2 → ¬ S i → ¬ T i := fun i hi hs ht => by rcases hT i ht with h | h; exact hs h; omega
  exact ⟨Nat.le_trans h.base k.size, h.bb, h.lt, k.cell h.cn (no _ l.1 s.1), k.cell h.cc (no _ l.2.1 s.2.1), k.cell h.cm (no _ l.2.2.1 s.2.2.1), k.cell h.ce (no _ l.2.2.2 s.2.2.2), h.st⟩
set_option maxHeartbeats 8000000 in
set_option maxRecDepth 100000 in
theorem extend_any {σ : Type} {F : FuncId} {caps : Array Value} {S : Nat → Prop} {B : Nat} {I : (Nat → Prop) → World → σ → Prop} {P : List Int → Prop} {step : σ → List Int → σ} (hb : Back F caps S B I P step) (B2 n m Bn Bc Bm Be : Nat) (hn : n ≤ 1000) (hm : m ≤ 1000) :
    ∀ (d : Nat) (jobs : List Int) (w : World) (s : σ) (A : Option Addr) (c : Nat) (ok : Nat → Prop), jobs.length + d = n → (∀ l ∈ chs m d jobs, P l) → Boxes F caps S B B2 n m Bn Bc Bm Be w → I ok w s → Kd.R (Kd.int .i64) 3 w B2 (fun k => B2 ≤ k) (.slice A jobs.length c) jobs →
    (∀ k, ok k → some k ≠ (Value.slice A jobs.length c).ownBlock) → (∀ k, w.heap.size ≤ k → ok k) →
    Calls Try.prog 78 #[.slice A jobs.length c, .pointer (some ⟨Bn, 0, none⟩), .pointer (some ⟨Bc, 0, none⟩), .pointer (some ⟨Bm, 0, none⟩), .pointer (some ⟨Be, 0, none⟩)] w fun e w' => e = .returned (.tuple #[]) ∧ I ok w' ((chs m d jobs).foldl step s) ∧ Kd.R (Kd.int .i64) 3 w' B2 (fun k => B2 ≤ k) (.slice A jobs.length c) jobs ∧ Keeps (fun k => S k ∨ some k = (Value.slice A jobs.length c).ownBlock) w w' := by
  intro d
  induction d with
  | zero =>
    intro jobs w s A c ok hd hP hX hI hC hok hfr
    have hN := hX.cn
    have hCB := hX.cc
    have hc : jobs.length ≤ c := (Kd.R_reads' hC).2.1
    have HR := Aside0.mk hC
    have HC := Aside0.mk (Kd.R_reads' hC).2.2
    have HX := Aside0.mk hX
    have HI := Aside0.mk hI
    have HFR := Aside0.mk hfr
    have HP := Aside0.mk (hP jobs (by simp [chs]))
    have HN : Aside0 (jobs.length = n) := Aside0.mk (by omega)
    have c1 : ((jobs.length : Int) == (n : Int)) = true := beq_iff_eq.2 (by omega)
    clear hC hX hI hP hd hok hfr
    go_enter Try.func78, Try.ntmps78
    go_wp2
    refine start_ (n := 4) (S := fun w' => w'.cell? ⟨Bc, 0, none⟩ = some (.func (.func F) #[] caps)) (ds := [3]) #[false, false, false, false] (by kernel_rfl) rfl rfl hCB (fun hHeld => ?_)
    have HB0 : Aside0 (Below w.heap.size w w.drew) := Aside0.mk (below_drew1 (Below.refl _ _))
    generalize w.drew = w0 at HB0 hHeld ⊢
    refine take_ (i := 0) (N := some 11) (v := ?_) (a' := ?_) #[true, false, false, false] rfl rfl (by kernel_rfl) (fun _ _ _ h => h) (Or.inl ⟨by rfl, ?_⟩) hHeld ?_ ?_
    rotate_left
    · intro w' s0
      go_simp
      with_reducible rfl
    rotate_left
    · simp only [Act.put, List.setIfInBounds_toArray, List.set_cons_zero, List.set_cons_succ, i64_w, i32_w]
      rfl
    refine pure_ (i := 1) (N := some 12) (v := ?_) (a' := ?_) #[true, true, false, false] rfl rfl (by kernel_rfl) (fun _ _ _ h => h) (Or.inl ⟨by rfl, ?_⟩) ?_ ?_
    rotate_left
    · intro w'
      go_simp
      with_reducible rfl
    rotate_left
    · simp only [Act.put, List.setIfInBounds_toArray, List.set_cons_zero, List.set_cons_succ, i64_w, i32_w]
      rfl
    refine one_ (i := 2) (N := some 13) #[true, true, true, false] rfl rfl (by kernel_rfl) (by decide) (fun K hK => ?_)
    refine goes_ Try.func79 (by kernel_rfl) rfl #[.slice A jobs.length c] (by rfl) rfl rfl (by (try simp only [List.map_toArray, List.map_cons, List.map_nil]); first | done | rfl) ?_
    refine (slices_Clone_int_int.calls A c jobs jobs w0 (Kd.C_below HC.out HB0.out) hc (by unfold slices_Clone_int_int.f; exact if_pos (by have := HN.out; simp only [List.length_nil]; omega))).mono ?_
    rintro e w1 ⟨v, rfl, hR, hB⟩
    refine ⟨v, rfl, ?_⟩
    refine hK.out _ _ ((Keeps.of_below (S := S) hB).cell hHeld HX.out.st.2.1) (fun hHeld => ?_)
    clear hK K
    refine norm_ (a' := ?_) ?_ ?_
    rotate_left
    · show Act.put _ (some 13) _ = _
      simp only [Act.put, List.setIfInBounds_toArray, List.set_cons_zero, List.set_cons_succ, i64_w, i32_w]
      rfl
    refine last_ (i := 3) (N := some 14) #[true, true, true, true] rfl rfl (by kernel_rfl) (by decide) (fun K hK => ?_)
    have hB1 := below_step HB0.out hB
    have hI1 := hb.below HI.out hB1
    have hsz := HB0.out.size
    have hR2 : Kd.R (Kd.int .i64) 3 w1 B ok v jobs := Kd.R_lower (Kd.R_mono (Kd.R_bound hR) (fun k hk => HFR.out k (Nat.le_trans hsz hk.2.1))) (by have := HX.out.base; have := HX.out.bb; omega)
    refine call_ F (#[v] ++ caps) (by rfl) rfl ?hrun ?_
    case hrun =>
      unfold execOp
      simp [resolve, Deferred.ofValue, invoke, Act.eval, hb.enters]
    refine (hb.call ok w1 s v jobs hI1 HP.out hR2).mono ?_
    rintro e w2 ⟨rfl, hI2, hK2⟩
    refine ⟨_, rfl, ?_⟩
    refine hK.out _ _ ?_
    clear hK K
    refine norm_ (a' := ?_) ?_ ?_
    rotate_left
    · show Act.put _ (some 14) _ = _
      simp only [Act.put, List.setIfInBounds_toArray, List.set_cons_zero, List.set_cons_succ, i64_w, i32_w]
      rfl
    refine done_ (by kernel_rfl) ?_
    go_wp2
    refine bodyPost_ret (results_none rfl _ _ _) rfl ?_
    have hKK : Keeps S w w2 := (Keeps.of_below hB1).trans hK2
    exact ⟨rfl, hI2, Kd.R_step HR.out (fun k hk hl => hKK.block k hl (fun hs => by have := hb.low k hs; have := HX.out.bb; omega)), hKK.mono (fun k _ h => .inl h)⟩
  | succ d ih =>
    intro jobs w s A c ok hd hP hX hI hC hok hfr
    have hN := hX.cn
    have hMM := hX.cm
    have hc : jobs.length ≤ c := (Kd.R_reads' hC).2.1
    have HR := Aside0.mk hC
    have HX := Aside0.mk hX
    have HI := Aside0.mk hI
    have HOK := Aside0.mk hok
    have HFR := Aside0.mk hfr
    have HP : Aside0 (∀ l ∈ chIn (chs m d) jobs (m - 0) ((0 : Nat) : Int), P l) := Aside0.mk hP
    have HF : Aside0 ((chs m (d + 1) jobs).foldl step s = (chIn (chs m d) jobs (m - 0) ((0 : Nat) : Int)).foldl step s) := Aside0.mk rfl
    have HN : Aside0 (jobs.length + (d + 1) = n) := Aside0.mk hd
    have c1 : ((jobs.length : Int) == (n : Int)) = false := beq_eq_false_iff_ne.2 (by omega)
    clear hC hX hI hP hd hok hfr
    go_enter Try.func78, Try.ntmps78
    go_wp2
    go_loopw [16] (fun i w' => ∃ (k : Nat) (s' : σ), k ≤ m ∧ i = .int .i64 k ∧ Aside0 ((chs m (d + 1) jobs).foldl step s = (chIn (chs m d) jobs (m - k) k).foldl step s') ∧ Aside0 (∀ l ∈ chIn (chs m d) jobs (m - k) k, P l) ∧ Aside0 (I ok w' s') ∧ Aside0 (Kd.R (Kd.int .i64) 3 w' B2 (fun k => B2 ≤ k) (.slice A jobs.length c) jobs) ∧ Aside0 (Keeps (fun k => S k ∨ some k = (Value.slice A jobs.length c).ownBlock) w w')) (fun i _ => m - (intOf i).toNat)
    case atStart => exact ⟨0, s, Nat.zero_le _, rfl, HF, HP, HI, HR, Aside0.mk (Keeps.refl _ _)⟩
    case round =>
      clear HF HP
      obtain ⟨k, s', hk, rfl, hf, hp, hi, HRr, hkp⟩ := hrel
      by_cases hlt : k < m
      · have hown : ∀ b, some b = (Value.slice A jobs.length c).ownBlock → B2 ≤ b := fun b hb2 => Kd.R_base HRr.out b hb2.symm
        have HOWN := Aside0.mk hown
        have HXr : Aside0 (Boxes F caps S B B2 n m Bn Bc Bm Be wr) := Aside0.mk (HX.out.keeps hkp.out (fun i hi => hi.imp id (hown i)))
        have hEr := HXr.out.ce
        have hunf : chIn (chs m d) jobs (m - k) (k : Int) = chs m d (jobs ++ [(k : Int)]) ++ chIn (chs m d) jobs (m - (k + 1)) ((k + 1 : Nat) : Int) := by
          rw [show m - k = (m - (k + 1)) + 1 from by omega, chIn]
          rfl
        have HU := Aside0.mk hunf
        have hs2 : Aside0 ((chs m (d + 1) jobs).foldl step s = (chIn (chs m d) jobs (m - (k + 1)) ((k + 1 : Nat) : Int)).foldl step ((chs m d (jobs ++ [(k : Int)])).foldl step s')) := Aside0.mk (by rw [hf.out, HU.out, List.foldl_append])
        have hp2 : Aside0 (∀ l ∈ chIn (chs m d) jobs (m - (k + 1)) ((k + 1 : Nat) : Int), P l) := Aside0.mk (fun l hl => hp.out l (by rw [HU.out]; exact List.mem_append_right _ hl))
        have hp3 : Aside0 (∀ l ∈ chs m d (jobs ++ [(k : Int)]), P l) := Aside0.mk (fun l hl => hp.out l (by rw [HU.out]; exact List.mem_append_left _ hl))
        clear hunf hf hp hown
        go_wp2
        refine start_ (n := 6) (S := fun w' => w'.cell? ⟨Be, 0, none⟩ = some (.func (.func 78) #[] #[.pointer (some ⟨Bn, 0, none⟩), .pointer (some ⟨Bc, 0, none⟩), .pointer (some ⟨Bm, 0, none⟩), .pointer (some ⟨Be, 0, none⟩)])) (ds := [5]) #[false, false, false, false, false, false] (by kernel_rfl) rfl rfl hEr (fun hHeld => ?_)
        have HB2 : Aside0 (Below wr.heap.size wr wr.drew) := Aside0.mk (below_drew1 (Below.refl _ _))
        generalize wr.drew = w0 at HB2 hHeld ⊢
        refine take_ (i := 0) (N := some 19) (v := ?_) (a' := ?_) #[true, false, false, false, false, false] rfl rfl (by kernel_rfl) (fun _ _ _ h => h) (Or.inl ⟨by rfl, ?_⟩) hHeld ?_ ?_
        rotate_left
        · intro w' s0
          go_simp
          with_reducible rfl
        rotate_left
        · simp only [Act.put, List.setIfInBounds_toArray, List.set_cons_zero, List.set_cons_succ, i64_w, i32_w]
          rfl
        refine pure_ (i := 1) (N := some 20) (v := ?_) (a' := ?_) #[true, true, false, false, false, false] rfl rfl (by kernel_rfl) (fun _ _ _ h => h) (Or.inl ⟨by rfl, ?_⟩) ?_ ?_
        rotate_left
        · intro w'
          go_simp
          with_reducible rfl
        rotate_left
        · simp only [Act.put, List.setIfInBounds_toArray, List.set_cons_zero, List.set_cons_succ, i64_w, i32_w]
          rfl
        refine pure_ (i := 2) (N := some 21) (v := ?_) (a' := ?_) #[true, true, true, false, false, false] rfl rfl (by kernel_rfl) (fun _ _ _ h => h) (Or.inl ⟨by rfl, ?_⟩) ?_ ?_
        rotate_left
        · intro w'
          go_simp
          with_reducible rfl
        rotate_left
        · simp only [Act.put, List.setIfInBounds_toArray, List.set_cons_zero, List.set_cons_succ, i64_w, i32_w]
          rfl
        refine one_ (i := 3) (N := some 22) #[true, true, true, true, false, false] rfl rfl (by kernel_rfl) (by decide) (fun K hK => ?_)
        refine Kd.R_lit_step (Kd.int .i64) _ 3 ?hg1 (N := 22) ?hd1 (xs := [(k : Int)]) (inner := [.int .i64 k]) (ok := fun _ => True) (okp := fun _ => True) ?hr1 ?hp1 (fun _ hk => hk) trivial (Below.refl _ _) (Nat.le_refl _) (by simp) ?_
        case hd1 => rfl
        case hg1 => rfl
        case hr1 => first | (go_simp; done) | (go_simp; rfl)
        case hp1 => exact (Reps.one (show Kd.M (Kd.int .i64) _ _ _ (k : Int) [.int .i64 k] from rfl) (Reps.none _ _))
        intro v1 w3 hR1 hb3 hg_ hnew_
        clear hg_ hnew_
        refine hK.out _ _ ((Keeps.of_below (S := S) hb3).cell hHeld HXr.out.st.2.2.2) (fun hHeld => ?_)
        clear hK K
        obtain ⟨A1, c4, e4⟩ := Kd.R_slice hR1
        subst e4
        refine norm_ (a' := ?_) ?_ ?_
        rotate_left
        · show Act.put _ (some 22) _ = _
          simp only [Act.put, List.setIfInBounds_toArray, List.set_cons_zero, List.set_cons_succ, i64_w, i32_w]
          rfl
        have hB3 := below_step HB2.out hb3
        have hRl : Kd.R (Kd.int .i64) 3 w3 B2 (fun k => B2 ≤ k) (.slice A jobs.length c) jobs := Kd.R_below HRr.out hB3
        obtain ⟨ad1, e5, hx1⟩ := Kd.at_int (Kd.R_reads' hR1).2.2 (0 : Int) (Int.le_refl _) (by simp)
        subst e5
        obtain ⟨i3, hi3, hz3⟩ := Option.map_eq_some_iff.1 info3
        simp only [Prod.mk.injEq] at hz3
        obtain ⟨hz31, hz32, hz33⟩ := hz3
        obtain ⟨v5, w5, hr5, ho5, hcase⟩ := append_two (P := Try.prog) w3 B2 22 22 3 i3 (.int .i64 0) 8 Try.underlying22 hi3 hz31 hz32 hz33 rfl (.slice A jobs.length c) jobs.length _ (Kd.own_of_R hRl) ad1 c4 [.int .i64 (k : Int)] rfl
          (by intro j u hj; cases j with
              | zero => obtain rfl : Value.int .i64 (k : Int) = u := by simpa using hj
                        exact hx1
              | succ j => simp at hj) (by intro u hu; obtain rfl : u = Value.int .i64 (k : Int) := by simpa using hu
                                          rfl) (by have := HN.out; simp only [maxLen]; omega) (by have := HN.out; omega) (Nat.le_trans HXr.out.base hB3.size)
        have hk35 : Keeps (fun b => some b = (Value.slice A jobs.length c).ownBlock) w3 w5 := by
          rcases hcase with ⟨g, cap, e1, e2, hg⟩ | ⟨hg, _⟩
          · rw [e1]; exact Keeps.of_grown hg
          · exact (Keeps.of_grown hg).mono (fun _ _ h => by cases h)
        refine one_ (i := 4) (N := some 23) #[true, true, true, true, true, false] rfl rfl (by kernel_rfl) (by decide) (fun K hK => ?_)
        refine value_ (w1 := w5) (v := v5) (by rfl) rfl ?hrun5 ?_
        case hrun5 =>
          unfold execOp
          simp only [resolve, invoke, builtin, Sem.run_bind, Sem.run_pure, Result.andThen_ok, List.map_toArray, List.map_cons, List.map_nil]
          have hr6 := hr5
          simp [Act.eval, hr6]
        have hXw3 := HXr.out.keeps (Keeps.of_below (S := S) hB3) (fun i h => .inl h)
        have hXw5 := hXw3.keeps hk35 (fun i h => .inr (HOWN.out i h))
        refine hK.out _ _ hXw5.ce (fun hHeld => ?_)
        clear hK K
        refine norm_ (a' := ?_) ?_ ?_
        rotate_left
        · show Act.put _ (some 23) _ = _
          simp only [Act.put, List.setIfInBounds_toArray, List.set_cons_zero, List.set_cons_succ, i64_w, i32_w]
          rfl
        have hR5 : Kd.R (Kd.int .i64) 3 w5 B2 (fun k => B2 ≤ k) v5 (jobs ++ [(k : Int)]) := Kd.R_of_own (by
          have e6 : encs (Value.int .i64) (jobs ++ [(k : Int)]) = encs (Value.int .i64) jobs ++ [.int .i64 (k : Int)] := by simp [encs]
          rw [e6, List.length_append]
          exact ho5) (fun b hb5 => (ho5.lt b hb5).1)
        have hlt5 := Kd.R_lt hR5
        have hI3 := hb.below hi.out hB3
        have hI5 : I (fun b => ok b ∧ some b ≠ v5.ownBlock) w5 s' := by
          have h1 : I (fun b => ok b ∧ some b ≠ v5.ownBlock) w3 s' := hb.mono _ _ _ _ hI3 (fun b hl ho => ⟨ho, fun he => by
            rcases hcase with ⟨g, cap, e1, e2, hg⟩ | ⟨hg, e2⟩
            · exact HOK.out b ho (by rw [e1]; rw [e2] at he; exact he)
            · rw [e2] at he; injection he with he; omega⟩)
          exact hb.stay _ _ _ _ _ h1 hk35 (fun b hb5 => ⟨Nat.le_trans HXr.out.bb (HOWN.out b hb5), fun ho => HOK.out b ho.1 hb5⟩)
        have hszr := hkp.out.size
        have hsz3 := hB3.size
        have hsz5 := hk35.size
        obtain ⟨A5, c5, e5⟩ := Kd.R_slice hR5
        subst e5
        refine last_ (i := 5) (N := some 24) #[true, true, true, true, true, true] rfl rfl (by kernel_rfl) (by decide) (fun K hK => ?_)
        refine call_ 78 #[.slice A5 (jobs ++ [(k : Int)]).length c5, .pointer (some ⟨Bn, 0, none⟩), .pointer (some ⟨Bc, 0, none⟩), .pointer (some ⟨Bm, 0, none⟩), .pointer (some ⟨Be, 0, none⟩)] (by rfl) rfl ?hrun ?_
        case hrun =>
          unfold execOp
          simp [resolve, Deferred.ofValue, invoke, Act.eval, enters_ Try.func78 (by kernel_rfl) rfl]
        refine (ih (jobs ++ [(k : Int)]) w5 s' A5 c5 (fun b => ok b ∧ some b ≠ (Value.slice A5 (jobs ++ [(k : Int)]).length c5).ownBlock) (by have := HN.out; simp only [List.length_append, List.length_cons, List.length_nil]; omega) hp3.out hXw5 hI5 hR5 (fun _ h => h.2) (fun b hb5 => ⟨HFR.out b (by omega), fun he => by have := hlt5 b he.symm; omega⟩)).mono ?_
        rintro e w6 ⟨rfl, hI6, hR6, hK6⟩
        refine ⟨_, rfl, ?_⟩
        refine hK.out _ _ ?_
        clear hK K
        refine norm_ (a' := ?_) ?_ ?_
        rotate_left
        · show Act.put _ (some 24) _ = _
          simp only [Act.put, List.setIfInBounds_toArray, List.set_cons_zero, List.set_cons_succ, i64_w, i32_w]
          rfl
        have HI6 := Aside0.mk (hb.mono _ _ _ _ hI6 (fun b _ h => h.1))
        have hk36 : Keeps (fun b => S b ∨ some b = (Value.slice A jobs.length c).ownBlock) w3 w6 := hk35.trans2 hK6 (fun b hl hn => ⟨fun h => hn (.inr h), fun h => by
          rcases h with h | h
          · exact hn (.inl h)
          · rcases hcase with ⟨g, cap, e1, e2, hg⟩ | ⟨hg, e2⟩
            · exact hn (.inr (by rw [e1]; rw [e2] at h; exact h))
            · rw [e2] at h; injection h with h; omega⟩)
        have HK6 := Aside0.mk (hkp.out.trans ((Keeps.of_below hB3).trans hk36))
        have HR6 : Aside0 (Kd.R (Kd.int .i64) 3 w6 B2 (fun k => B2 ≤ k) (.slice A jobs.length c) jobs) := Aside0.mk (by
          rcases hcase with ⟨g, cap, e1, e2, hg⟩ | ⟨hg, e2⟩
          · injection e1 with e11 e12 e13
            subst e11
            subst e13
            injection e2 with e21 e22 e23
            subst e21
            subst e23
            rw [List.length_append, List.length_cons, List.length_nil] at hR6
            exact R_cut hR6
          · refine Kd.R_mono (Kd.R_step (Kd.R_step (Kd.R_bound hRl) (fun b _ hl => hg.block b hl (by simp))) (fun b hb6 hl => hK6.block b hl (fun h => ?_))) (fun _ h => h.1)
            rcases h with h | h
            · have := hb.low b h
              have := HX.out.bb
              have := hb6.1
              omega
            · rw [e2] at h
              injection h with h
              have := hb6.2.2.1
              omega)
        clear hI6 hK6 hR6 hk36 hI5 hR5 hI3 hk35
        refine done_ (by kernel_rfl) ?_
        go_wp2
        go_roundw
        case rel => exact ⟨k + 1, _, by omega, by go_num, hs2, hp2, HI6, HR6, HK6⟩
        case measure => simp [intOf]; omega
      · have hs2 : Aside0 ((chs m (d + 1) jobs).foldl step s = s') := Aside0.mk (by rw [hf.out, show m - k = 0 from by omega]; rfl)
        clear hf hp
        go_wp2
        go_end0
        exact ⟨rfl, by rw [hs2.out]; exact hi.out, HRr.out, hkp.out⟩
theorem st_func {P : Program} (a : Addr) (m : Mode) (f : Fn) (b c : Array Value) (w : World) : (store a (.func f b c) m).run P w = stored P w a (.func f b c) m := run_store P w a _ m rfl
attribute [local go_sem] st_func
theorem cho_boxes {F : FuncId} {caps : Array Value} {S : Nat → Prop} {B : Nat} {w w1 w2 w3 w4 : World} {g1 g2 g3 g4 : Nat} (n m : Nat) (hB0 : B ≤ w.heap.size) (hlow : ∀ k, S k → k < B)
    (h1 : g1 = w.heap.size) (x1 : w1.heap[g1]? = some (.cells #[.int .i64 n] 3 (0, 0))) (b1 : Below w.heap.size w w1)
    (h2 : g2 = w1.heap.size) (x2 : w2.heap[g2]? = some (.cells #[.int .i64 m] 3 (0, 0))) (b2 : Below w1.heap.size w1 w2)
    (h3 : g3 = w2.heap.size) (x3 : w3.heap[g3]? = some (.cells #[.func (.func F) #[] caps] 80 (0, 0))) (b3 : Below w2.heap.size w2 w3)
    (h4 : g4 = w3.heap.size) (x4 : w4.heap[g4]? = some (.cells #[.nilFunc] 80 (0, 0))) (b4 : Below w3.heap.size w3 w4) :
    Boxes F caps S B (w4.setCell ⟨g4, 0, none⟩ (.func (.func 78) #[] #[.pointer (some ⟨g1, 0, none⟩), .pointer (some ⟨g3, 0, none⟩), .pointer (some ⟨g2, 0, none⟩), .pointer (some ⟨g4, 0, none⟩)])).heap.size n m g1 g3 g2 g4 (w4.setCell ⟨g4, 0, none⟩ (.func (.func 78) #[] #[.pointer (some ⟨g1, 0, none⟩), .pointer (some ⟨g3, 0, none⟩), .pointer (some ⟨g2, 0, none⟩), .pointer (some ⟨g4, 0, none⟩)])) ∧ Below w.heap.size w (w4.setCell ⟨g4, 0, none⟩ (.func (.func 78) #[] #[.pointer (some ⟨g1, 0, none⟩), .pointer (some ⟨g3, 0, none⟩), .pointer (some ⟨g2, 0, none⟩), .pointer (some ⟨g4, 0, none⟩)])) := by
  have s1 := b1.size
  have s2 := b2.size
  have s3 := b3.size
  have s4 := b4.size
  have l1 := blk_lt x1
  have l2 := blk_lt x2
  have l3 := blk_lt x3
  have l4 := blk_lt x4
  have hz : (w4.setCell ⟨g4, 0, none⟩ (.func (.func 78) #[] #[.pointer (some ⟨g1, 0, none⟩), .pointer (some ⟨g3, 0, none⟩), .pointer (some ⟨g2, 0, none⟩), .pointer (some ⟨g4, 0, none⟩)])).heap.size = w4.heap.size := by simp [World.setCell]
  have hB : Below w.heap.size w (w4.setCell ⟨g4, 0, none⟩ (.func (.func 78) #[] #[.pointer (some ⟨g1, 0, none⟩), .pointer (some ⟨g3, 0, none⟩), .pointer (some ⟨g2, 0, none⟩), .pointer (some ⟨g4, 0, none⟩)])) := Below.setCell (below_step b1 (below_step b2 (below_step b3 b4))) (by show w.heap.size ≤ g4; omega) _
  have y1 := blk_below (blk_below (blk_below x1 b2) b3) b4
  have y2 := blk_below (blk_below x2 b3) b4
  have y3 := blk_below x3 b4
  refine ⟨⟨Nat.le_refl _, by omega, by omega, ?_, ?_, ?_, (blk_cell (blk_set x4 0 _) 0).trans rfl, fun h => by have := hlow _ h; omega, fun h => by have := hlow _ h; omega, fun h => by have := hlow _ h; omega, fun h => by have := hlow _ h; omega⟩, hB⟩
  · exact (cell_far (p := ⟨g4, 0, none⟩) (by show g1 ≠ g4; omega) _).trans ((blk_cell y1 0).trans rfl)
  · exact (cell_far (p := ⟨g4, 0, none⟩) (by show g3 ≠ g4; omega) _).trans ((blk_cell y3 0).trans rfl)
  · exact (cell_far (p := ⟨g4, 0, none⟩) (by show g2 ≠ g4; omega) _).trans ((blk_cell y2 0).trans rfl)
set_option maxHeartbeats 8000000 in
set_option maxRecDepth 100000 in
theorem choices_any {σ : Type} {F : FuncId} {caps : Array Value} {S : Nat → Prop} {B : Nat} {I : (Nat → Prop) → World → σ → Prop} {P : List Int → Prop} {step : σ → List Int → σ} (hb : Back F caps S B I P step) (n m : Nat) (hn : n ≤ 1000) (hm : m ≤ 1000) (w : World) (s : σ) (ok : Nat → Prop) (hP : ∀ l ∈ chs m n [], P l) (hB0 : B ≤ w.heap.size) (hI : I ok w s) (hfr : ∀ k, w.heap.size ≤ k → ok k) :
    Calls Try.prog 73 #[.int .i64 n, .int .i64 m, .func (.func F) #[] caps] w fun e w' => e = .returned (.tuple #[]) ∧ I ok w' ((chs m n []).foldl step s) ∧ Keeps S w w' := by
  have hlow := hb.low
  have HP := Aside0.mk hP
  have HI := Aside0.mk hI
  have HFR := Aside0.mk hfr
  clear hP hI hfr
  go_enter Try.func73, Try.ntmps73
  go_wp2_with (first | ((with_reducible refine gate_dst (N := 3) rfl ?_); refine box_event ?hg3 (N := 3) ?hd3 (cs := #[.int .i64 n]) (t := 3) ?hr3 ?_; (case hd3 => rfl); (case hg3 => rfl); (case hr3 => first | (go_simp; done) | (go_simp; rfl)); intro g1 hgg1 w1 hboxg1 hbg1; have HG1 := Aside0.mk hgg1; have HX1 := Aside0.mk hboxg1; have HB1 := Aside0.mk hbg1; clear hgg1 hboxg1 hbg1) | ((with_reducible refine gate_dst (N := 4) rfl ?_); refine box_event ?hg4 (N := 4) ?hd4 (cs := #[.int .i64 m]) (t := 3) ?hr4 ?_; (case hd4 => rfl); (case hg4 => rfl); (case hr4 => first | (go_simp; done) | (go_simp; rfl)); intro g2 hgg2 w2 hboxg2 hbg2; have HG2 := Aside0.mk hgg2; have HX2 := Aside0.mk hboxg2; have HB2 := Aside0.mk hbg2; clear hgg2 hboxg2 hbg2) | ((with_reducible refine gate_dst (N := 5) rfl ?_); refine box_event ?hg5 (N := 5) ?hd5 (cs := #[.func (.func F) #[] caps]) (t := 80) ?hr5 ?_; (case hd5 => rfl); (case hg5 => rfl); (case hr5 => first | (go_simp; done) | (go_simp; rfl)); intro g3 hgg3 w3 hboxg3 hbg3; have HG3 := Aside0.mk hgg3; have HX3 := Aside0.mk hboxg3; have HB3 := Aside0.mk hbg3; clear hgg3 hboxg3 hbg3) | ((with_reducible refine gate_dst (N := 6) rfl ?_); refine box_event ?hg6 (N := 6) ?hd6 (cs := #[.nilFunc]) (t := 80) ?hr6 ?_; (case hd6 => rfl); (case hg6 => rfl); (case hr6 => first | (go_simp; done) | (go_simp; rfl)); intro g4 hgg4 w4 hboxg4 hbg4; have hz1 : w4.cell? ⟨g4, 0, none⟩ = some .nilFunc := (blk_cell hboxg4 0).trans rfl; have hz2 := blk_frozen hboxg4 0; have hz4 : (w4.setCell ⟨g4, 0, none⟩ (.func (.func 78) #[] #[.pointer (some ⟨g1, 0, none⟩), .pointer (some ⟨g3, 0, none⟩), .pointer (some ⟨g2, 0, none⟩), .pointer (some ⟨g4, 0, none⟩)])).cell? ⟨g4, 0, none⟩ = some (.func (.func 78) #[] #[.pointer (some ⟨g1, 0, none⟩), .pointer (some ⟨g3, 0, none⟩), .pointer (some ⟨g2, 0, none⟩), .pointer (some ⟨g4, 0, none⟩)]) := (blk_cell (blk_set hboxg4 0 (.func (.func 78) #[] #[.pointer (some ⟨g1, 0, none⟩), .pointer (some ⟨g3, 0, none⟩), .pointer (some ⟨g2, 0, none⟩), .pointer (some ⟨g4, 0, none⟩)])) 0).trans rfl; have HG4 := Aside0.mk hgg4; have HX4 := Aside0.mk hboxg4; have HB4 := Aside0.mk hbg4; clear hgg4 hboxg4 hbg4) | (go_at_call 78; refine (extend_any hb _ n m g1 g3 g2 g4 hn hm n [] _ s none 0 ok (by simp) HP.out (cho_boxes n m hB0 hlow HG1.out HX1.out HB1.out HG2.out HX2.out HB2.out HG3.out HX3.out HB3.out HG4.out HX4.out HB4.out).1 (hb.below HI.out (cho_boxes n m hB0 hlow HG1.out HX1.out HB1.out HG2.out HX2.out HB2.out HG3.out HX3.out HB3.out HG4.out HX4.out HB4.out).2) (Kd.R_nil _ _ _ _ _) (fun k _ h => by simp [Value.ownBlock] at h) (fun k hk => HFR.out k (Nat.le_trans (cho_boxes n m hB0 hlow HG1.out HX1.out HB1.out HG2.out HX2.out HB2.out HG3.out HX3.out HB3.out HG4.out HX4.out HB4.out).2.size hk))).mono ?_; rintro e w5 ⟨rfl, hI5, _, hK5⟩; have HI5 := Aside0.mk hI5; have HK5 := Aside0.mk ((Keeps.of_below (S := S) (cho_boxes n m hB0 hlow HG1.out HX1.out HB1.out HG2.out HX2.out HB2.out HG3.out HX3.out HB3.out HG4.out HX4.out HB4.out).2).trans (hK5.mono (fun k _ h => h.elim id (fun e => by simp [Value.ownBlock] at e)))); clear hI5 hK5))
  go_end0
  exact ⟨rfl, HI5.out, HK5.out⟩
end Go.Proofs.Ytibfchjpdplehaa.G
