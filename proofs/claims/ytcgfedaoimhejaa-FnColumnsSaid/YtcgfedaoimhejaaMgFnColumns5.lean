/- Texts of the proof of FnColumns, joined in build order. -/
import Derived.Test.YtcgfedaoimhejaaMgFnColumns1
import Derived.Test.YtcgfedaoimhejaaMgFnColumns4
import Derived.Maps.AppendAt
import Derived.Test.YtcgfedaoimhejaaMgFnColumns2
import Derived.Test.YtcgfedaoimhejaaMgFnColumns3
/- The contract of choices: what is called back turns its state at each list, in lexicographic order. -/
namespace Go.Proofs.Ytcgfedaoimhejaa.G
open Go.RowKit Go.Proofs.YtcgfedaoimhejaaW.PrintWords Go.Proofs.YtcgfedaoimhejaaW.PrintLast
set_option linter.unusedVariables false
set_option linter.unusedSimpArgs false
/-- Outside the blocks of S the world w' is as w was. -/
structure Keeps (S : Nat → Prop) (w w' : World) : Prop where
  os : w'.os = w.os
  tape : w'.tape = w.tape
  output : w'.output = w.output
  size : w.heap.size ≤ w'.heap.size
  block : ∀ k,k < w.heap.size → ¬ S k → w'.heap[k]? = w.heap[k]?
theorem Keeps.refl (S : Nat → Prop) (w : World) : Keeps S w w:=⟨rfl,rfl,rfl,Nat.le_refl _,fun _ _ _=>rfl⟩
theorem Keeps.trans {S : Nat → Prop} {a b c : World} (h : Keeps S a b) (k : Keeps S b c) : Keeps S a c :=
  ⟨k.os.trans h.os,k.tape.trans h.tape,k.output.trans h.output,Nat.le_trans h.size k.size,fun i hi hn=>(k.block i (Nat.lt_of_lt_of_le hi h.size) hn).trans (h.block i hi hn)⟩
theorem Keeps.mono {S S' : Nat → Prop} {w w' : World} (h : Keeps S w w') (hs : ∀ k,k < w.heap.size → S k → S' k) : Keeps S' w w':=⟨h.os,h.tape,h.output,h.size,fun k hk hn=>h.block k hk (fun m=>hn (hs k hk m))⟩
theorem Keeps.of_below {S : Nat → Prop} {w w' : World} (h : Below w.heap.size w w') : Keeps S w w':=⟨h.os,h.tape,h.output,h.size,fun k hk _=>h.block k hk⟩
theorem Keeps.of_grown {w w' : World} {row : Option Nat} (h : w.grownBy w' row) : Keeps (fun k=>some k = row) w w':=⟨h.os,h.tape,h.output,h.size,fun k hk hn=>h.block k hk hn⟩
theorem Keeps.cell {S : Nat → Prop} {w w' : World} (h : Keeps S w w') {p : Addr} {v : Value} (hp : w.cell? p = some v) (hn : ¬ S p.block) : w'.cell? p = some v :=
  (World.cell?_of_block (w:=w) (h.block p.block (World.block_lt_of_cell? w p hp) hn)).trans hp
/-- What is called back (function F over captured values; its own cells lie below block B): it turns the state by step at each list, and nothing outside S. -/
structure Back {σ : Type} (F : FuncId) (caps : Array Value) (S : Nat → Prop) (B : Nat) (I : (Nat → Prop) → World → σ → Prop) (P : List Int → Prop) (step : σ → List Int → σ) : Prop where
  enters : ∀ (args : Array Value) (w : World),(callFunc F args).run Try.prog w = .ok (.enter F args) w
  call : ∀ (ok : Nat → Prop) (w : World) (s : σ) (v : Value) (l : List Int),I ok w s → P l → (∀ k,w.heap.size ≤ k → ok k) → B ≤ w.heap.size → Kd.R (Kd.int .i64) 3 w B ok v l → Calls Try.prog F (#[v] ++ caps) w fun e w'=>e = .returned (.tuple #[]) ∧ I ok w' (step s l) ∧ Keeps S w w'
  stay : ∀ (ok : Nat → Prop) (w w' : World) (s : σ) (T : Nat → Prop),I ok w s → Keeps T w w' → (∀ k,T k → B ≤ k ∧ ¬ ok k) → I ok w' s
  mono : ∀ (ok ok' : Nat → Prop) (w : World) (s : σ),I ok w s → (∀ k,k < w.heap.size → ok k → ok' k) → I ok' w s
  low : ∀ k,S k → k < B
theorem Back.below {σ : Type} {F : FuncId} {caps : Array Value} {S : Nat → Prop} {B : Nat} {I : (Nat → Prop) → World → σ → Prop} {P : List Int → Prop} {step : σ → List Int → σ} (h : Back F caps S B I P step) {ok : Nat → Prop} {w w' : World} {s : σ} (hI : I ok w s) (hb : Below w.heap.size w w') : I ok w' s :=
  h.stay ok w w' s (fun _=>False) hI (Keeps.of_below hb) (fun _ h=>h.elim)
/-- An append of one cell to a row of one's own: in place (the very slice, longer), or in a new block. -/
theorem append_two {P : Program} (w : World) (base : Nat) (t ty e : TypeId) (i : TypeInfo) (z : Value) (bytes : Nat) (ht : P.underlying t = some (.slice e)) (hi : P.info? e = some i) (hz : i.zero = some z) (hsize : i.size = 1) (hby : i.bytes = bytes) (hzs : z.cells.size = 1)
    (v : Value) (n : Nat) (xs : List Value) (hown : w.ownsRow base e 1 v n xs) (a : Addr) (c : Nat) (news : List Value) (hl : news.length = 1 * 1) (hnews : ∀ j u,news[j]? = some u → w.cell? (a.add j) = some u) (h1 : ∀ u ∈ news,u.oneCell' = true)
    (h63 : n + 1 ≤ maxLen) (hbytes : (n + 1) * bytes ≤ 140737488355328) (hbase : base ≤ w.heap.size) :
    ∃ v' w',(Builtin.append_ #[t,t] ty #[v,.slice (some a) 1 c]).run P w = .ok v' w' ∧ w'.ownsRow base e 1 v' (n + 1) (xs ++ news) ∧
      ((∃ g cap,v = .slice (some ⟨g,0,none⟩) n cap ∧ v' = .slice (some ⟨g,0,none⟩) (n + 1) cap ∧ w.grownBy w' (some g)) ∨ (w.grownBy w' none ∧ v'.ownBlock = some w.heap.size)):=by
  obtain ⟨v',w',hr,ho,hg,_,hat⟩:=run_append_own_at (P:=P) w base t ty e i z 1 bytes ht hi hz hsize hby hzs (by decide) v n xs hown a 1 c news hl hnews h1 h63 hbytes hbase
  refine ⟨v',w',hr,ho,?_⟩
  rcases hown.2 with ⟨rfl,rfl⟩|⟨g,cap,cur,rfl,hbg,hh,hnc,hcm,hcs,htake⟩
  · refine .inr ⟨hg,?_⟩
    rcases hat with hat|hat
    · exfalso
      obtain ⟨_,h2⟩:=ho
      rcases h2 with ⟨rfl,h3⟩|⟨g,cap,cur,rfl,_⟩
      · omega
      · simp [Value.ownBlock] at hat
    · exact hat
  · by_cases hroom : n + 1 ≤ cap
    · obtain ⟨w2,hr2,ho2,hg2⟩:=run_append_fits (P:=P) w base t ty e i 1 ht hi hsize g n cap xs hown a 1 c news hl hnews h1 hroom
      rw [hr] at hr2
      injection hr2 with e1 e2
      subst e1
      subst e2
      exact .inl ⟨g,cap,rfl,rfl,hg2⟩
    · have holds : ∀ j u,xs[j]? = some u → w.cell? ((⟨g,0,none⟩ : Addr).add j) = some u:=hown.cells (g:=g) rfl
      have hr2:=run_append_grow (P:=P) w t ty e i z ht hi hz ⟨g,0,none⟩ n cap xs (by rw [hsize];exact hown.1) holds a 1 c news (by rw [hsize];exact hl) hnews (by omega) (by simp only [maxLen] at h63;omega) (growslice_fits (by omega) (by rw [hby];exact hbytes))
      rw [hr] at hr2
      injection hr2 with e1 e2
      subst e1
      subst e2
      exact .inr ⟨⟨rfl,rfl,rfl,by simp,fun k hk _=>Below.heap_alloc w.drew _ k hk⟩,rfl⟩
/-- A row's beginning, the same block. -/
theorem R_cut {w : World} {base g cap : Nat} {ok : Nat → Prop} {xs : List Int} {x : Int} (h : Kd.R (Kd.int .i64) 3 w base ok (.slice (some ⟨g,0,none⟩) (xs.length + 1) cap) (xs ++ [x])) : Kd.R (Kd.int .i64) 3 w base ok (.slice (some ⟨g,0,none⟩) xs.length cap) xs:=by
  have h0:=h.1
  have ho:=Kd.own_of_R h
  refine Kd.R_of_own ?_ (fun k hk=>h0 k hk)
  obtain ⟨hl,hs⟩:=ho
  rcases hs with ⟨e,_⟩|⟨g',cap',cur,e,hbg,hh,hnc,hcm,hcs,htake⟩
  · cases e
  · injection e with e1 e2 e3
    injection e1 with e1
    injection e1 with e1
    subst e1
    subst e3
    have hlen : (xs ++ [x]).length = xs.length + 1:=by simp
    rw [hlen] at hnc htake
    refine ⟨by simp [encs],.inr ⟨g,cap,cur,rfl,hbg,hh,by omega,hcm,hcs,?_⟩⟩
    have h2:=congrArg (List.take (xs.length * 1)) htake
    rw [List.take_take,show min (xs.length * 1) ((xs.length + 1) * 1) = xs.length * 1 from by omega] at h2
    rw [h2]
    simp [encs]
theorem Keeps.trans2 {T T1 T2 : Nat → Prop} {a b c : World} (h : Keeps T1 a b) (k : Keeps T2 b c) (hT : ∀ i,i < a.heap.size → ¬ T i → ¬ T1 i ∧ ¬ T2 i) : Keeps T a c :=
  ⟨k.os.trans h.os,k.tape.trans h.tape,k.output.trans h.output,Nat.le_trans h.size k.size,fun i hi hn=>(k.block i (Nat.lt_of_lt_of_le hi h.size) (hT i hi hn).2).trans (h.block i hi (hT i hi hn).1)⟩
/-- The boxes that choices$1 has captured; they lie below block B2. -/
structure Boxes (F : FuncId) (caps : Array Value) (S : Nat → Prop) (B B2 n m Bn Bc Bm Be : Nat) (w : World) : Prop where
  base : B2 ≤ w.heap.size
  bb : B ≤ B2
  lt : Bn < B2 ∧ Bc < B2 ∧ Bm < B2 ∧ Be < B2
  cn : w.cell? ⟨Bn,0,none⟩ = some (.int .i64 n)
  cc : w.cell? ⟨Bc,0,none⟩ = some (.func (.func F) #[] caps)
  cm : w.cell? ⟨Bm,0,none⟩ = some (.int .i64 m)
  ce : w.cell? ⟨Be,0,none⟩ = some (.func (.func 79) #[] #[.pointer (some ⟨Bn,0,none⟩),.pointer (some ⟨Bc,0,none⟩),.pointer (some ⟨Bm,0,none⟩),.pointer (some ⟨Be,0,none⟩)])
  st : ¬ S Bn ∧ ¬ S Bc ∧ ¬ S Bm ∧ ¬ S Be
theorem Boxes.keeps {F : FuncId} {caps : Array Value} {S T : Nat → Prop} {B B2 n m Bn Bc Bm Be : Nat} {w w' : World} (h : Boxes F caps S B B2 n m Bn Bc Bm Be w) (k : Keeps T w w') (hT : ∀ i,T i → S i ∨ B2 ≤ i) : Boxes F caps S B B2 n m Bn Bc Bm Be w':=by
  have l:=h.lt
  have s:=h.st
  have no : ∀ i,i < B2 → ¬ S i → ¬ T i:=fun i hi hs ht=>by rcases hT i ht with h|h;exact hs h;omega
  exact ⟨Nat.le_trans h.base k.size,h.bb,h.lt,k.cell h.cn (no _ l.1 s.1),k.cell h.cc (no _ l.2.1 s.2.1),k.cell h.cm (no _ l.2.2.1 s.2.2.1),k.cell h.ce (no _ l.2.2.2 s.2.2.2),h.st⟩
set_option maxHeartbeats 8000000 in
set_option maxRecDepth 100000 in
theorem extend_any {σ : Type} {F : FuncId} {caps : Array Value} {S : Nat → Prop} {B : Nat} {I : (Nat → Prop) → World → σ → Prop} {P : List Int → Prop} {step : σ → List Int → σ} (hb : Back F caps S B I P step) (B2 n m Bn Bc Bm Be : Nat) (hn : n ≤ 1000) (hm : m ≤ 1000) :
    ∀ (d : Nat) (jobs : List Int) (w : World) (s : σ) (A : Option Addr) (c : Nat) (ok : Nat → Prop),jobs.length + d = n → (∀ l ∈ chs m d jobs,P l) → Boxes F caps S B B2 n m Bn Bc Bm Be w → I ok w s → Kd.R (Kd.int .i64) 3 w B2 (fun k=>B2 ≤ k) (.slice A jobs.length c) jobs →
    (∀ k,ok k → some k ≠ (Value.slice A jobs.length c).ownBlock) → (∀ k,w.heap.size ≤ k → ok k) →
    Calls Try.prog 79 #[.slice A jobs.length c,.pointer (some ⟨Bn,0,none⟩),.pointer (some ⟨Bc,0,none⟩),.pointer (some ⟨Bm,0,none⟩),.pointer (some ⟨Be,0,none⟩)] w fun e w'=>e = .returned (.tuple #[]) ∧ I ok w' ((chs m d jobs).foldl step s) ∧ Kd.R (Kd.int .i64) 3 w' B2 (fun k=>B2 ≤ k) (.slice A jobs.length c) jobs ∧ Keeps (fun k=>S k ∨ some k = (Value.slice A jobs.length c).ownBlock) w w':=by
  intro d
  induction d with
  | zero =>
    intro jobs w s A c ok hd hP hX hI hC hok hfr
    have hN:=hX.cn
    have hCB:=hX.cc
    have hc : jobs.length ≤ c:=(Kd.R_reads' hC).2.1
    have HR:=Aside0.mk hC
    have HC:=Aside0.mk (Kd.R_reads' hC).2.2
    have HX:=Aside0.mk hX
    have HI:=Aside0.mk hI
    have HFR:=Aside0.mk hfr
    have HP:=Aside0.mk (hP jobs (by simp [chs]))
    have HN : Aside0 (jobs.length = n):=Aside0.mk (by omega)
    have c1 : ((jobs.length : Int) == (n : Int)) = true:=beq_iff_eq.2 (by omega)
    clear hC hX hI hP hd hok hfr
    go_enter Try.func79,Try.ntmps79
    go_wp2
    refine start_ (n:=4) (S:=fun w'=>w'.cell? ⟨Bc,0,none⟩ = some (.func (.func F) #[] caps)) (ds:=[3]) #[false,false,false,false] (by kernel_rfl) rfl rfl hCB (fun hHeld=>?_)
    have HB0 : Aside0 (Below w.heap.size w w.drew):=Aside0.mk (below_drew1 (Below.refl _ _))
    generalize w.drew = w0 at HB0 hHeld ⊢
    refine take_ (i:=0) (N:=some 11) (v:=?_) (a':=?_) #[true,false,false,false] rfl rfl (by kernel_rfl) (fun _ _ _ h=>h) (Or.inl ⟨by rfl,?_⟩) hHeld ?_ ?_
    rotate_left
    · intro w' s0
      go_simp
      with_reducible rfl
    rotate_left
    · simp only [Act.put,List.setIfInBounds_toArray,List.set_cons_zero,List.set_cons_succ,i64_w,i32_w]
      rfl
    refine pure_ (i:=1) (N:=some 12) (v:=?_) (a':=?_) #[true,true,false,false] rfl rfl (by kernel_rfl) (fun _ _ _ h=>h) (Or.inl ⟨by rfl,?_⟩) ?_ ?_
    rotate_left
    · intro w'
      go_simp
      with_reducible rfl
    rotate_left
    · simp only [Act.put,List.setIfInBounds_toArray,List.set_cons_zero,List.set_cons_succ,i64_w,i32_w]
      rfl
    refine one_ (i:=2) (N:=some 13) #[true,true,true,false] rfl rfl (by kernel_rfl) (by decide) (fun K hK=>?_)
    refine goes_ Try.func52 (by kernel_rfl) rfl #[.slice A jobs.length c] (by rfl) rfl rfl (by (try simp only [List.map_toArray,List.map_cons,List.map_nil]);first|done|rfl) ?_
    refine (slices_Clone_int_int.calls A c jobs jobs w0 (Kd.C_below HC.out HB0.out) hc (by unfold slices_Clone_int_int.f;exact if_pos (by have:=HN.out;simp only [List.length_nil];omega))).mono ?_
    rintro e w1 ⟨v,rfl,hR,hB⟩
    refine ⟨v,rfl,?_⟩
    refine hK.out _ _ ((Keeps.of_below (S:=S) hB).cell hHeld HX.out.st.2.1) (fun hHeld=>?_)
    clear hK K
    refine norm_ (a':=?_) ?_ ?_
    rotate_left
    · show Act.put _ (some 13) _ = _
      simp only [Act.put,List.setIfInBounds_toArray,List.set_cons_zero,List.set_cons_succ,i64_w,i32_w]
      rfl
    refine last_ (i:=3) (N:=some 14) #[true,true,true,true] rfl rfl (by kernel_rfl) (by decide) (fun K hK=>?_)
    have hB1:=below_step HB0.out hB
    have hI1:=hb.below HI.out hB1
    have hsz:=HB0.out.size
    have hR2 : Kd.R (Kd.int .i64) 3 w1 B ok v jobs:=Kd.R_lower (Kd.R_mono (Kd.R_bound hR) (fun k hk=>HFR.out k (Nat.le_trans hsz hk.2.1))) (by have:=HX.out.base;have:=HX.out.bb;omega)
    refine call_ F (#[v] ++ caps) (by rfl) rfl ?hrun ?_
    case hrun =>
      unfold execOp
      simp [resolve,Deferred.ofValue,invoke,Act.eval,hb.enters]
    refine (hb.call ok w1 s v jobs hI1 HP.out (fun k hk=>HFR.out k (Nat.le_trans hB1.size hk)) (by have:=HX.out.base;have:=HX.out.bb;have:=hB1.size;omega) hR2).mono ?_
    rintro e w2 ⟨rfl,hI2,hK2⟩
    refine ⟨_,rfl,?_⟩
    refine hK.out _ _ ?_
    clear hK K
    refine norm_ (a':=?_) ?_ ?_
    rotate_left
    · show Act.put _ (some 14) _ = _
      simp only [Act.put,List.setIfInBounds_toArray,List.set_cons_zero,List.set_cons_succ,i64_w,i32_w]
      rfl
    refine done_ (by kernel_rfl) ?_
    go_wp2
    refine bodyPost_ret (results_none rfl _ _ _) rfl ?_
    have hKK : Keeps S w w2:=(Keeps.of_below hB1).trans hK2
    exact ⟨rfl,hI2,Kd.R_step HR.out (fun k hk hl=>hKK.block k hl (fun hs=>by have:=hb.low k hs;have:=HX.out.bb;omega)),hKK.mono (fun k _ h => .inl h)⟩
  | succ d ih =>
    intro jobs w s A c ok hd hP hX hI hC hok hfr
    have hN:=hX.cn
    have hMM:=hX.cm
    have hc : jobs.length ≤ c:=(Kd.R_reads' hC).2.1
    have HR:=Aside0.mk hC
    have HX:=Aside0.mk hX
    have HI:=Aside0.mk hI
    have HOK:=Aside0.mk hok
    have HFR:=Aside0.mk hfr
    have HP : Aside0 (∀ l ∈ chIn (chs m d) jobs (m - 0) ((0 : Nat) : Int),P l):=Aside0.mk hP
    have HF : Aside0 ((chs m (d + 1) jobs).foldl step s = (chIn (chs m d) jobs (m - 0) ((0 : Nat) : Int)).foldl step s):=Aside0.mk rfl
    have HN : Aside0 (jobs.length + (d + 1) = n):=Aside0.mk hd
    have c1 : ((jobs.length : Int) == (n : Int)) = false:=beq_eq_false_iff_ne.2 (by omega)
    clear hC hX hI hP hd hok hfr
    go_enter Try.func79,Try.ntmps79
    go_wp2
    go_loopw [16] (fun i w' => ∃ (k : Nat) (s' : σ),k ≤ m ∧ i = .int .i64 k ∧ Aside0 ((chs m (d + 1) jobs).foldl step s = (chIn (chs m d) jobs (m - k) k).foldl step s') ∧ Aside0 (∀ l ∈ chIn (chs m d) jobs (m - k) k,P l) ∧ Aside0 (I ok w' s') ∧ Aside0 (Kd.R (Kd.int .i64) 3 w' B2 (fun k=>B2 ≤ k) (.slice A jobs.length c) jobs) ∧ Aside0 (Keeps (fun k=>S k ∨ some k = (Value.slice A jobs.length c).ownBlock) w w')) (fun i _=>m - (intOf i).toNat)
    case atStart=>exact ⟨0,s,Nat.zero_le _,rfl,HF,HP,HI,HR,Aside0.mk (Keeps.refl _ _)⟩
    case round =>
      clear HF HP
      obtain ⟨k,s',hk,rfl,hf,hp,hi,HRr,hkp⟩:=hrel
      by_cases hlt : k < m
      · have hown : ∀ b,some b = (Value.slice A jobs.length c).ownBlock → B2 ≤ b:=fun b hb2=>Kd.R_base HRr.out b hb2.symm
        have HOWN:=Aside0.mk hown
        have HXr : Aside0 (Boxes F caps S B B2 n m Bn Bc Bm Be wr):=Aside0.mk (HX.out.keeps hkp.out (fun i hi=>hi.imp id (hown i)))
        have hEr:=HXr.out.ce
        have hunf : chIn (chs m d) jobs (m - k) (k : Int) = chs m d (jobs ++ [(k : Int)]) ++ chIn (chs m d) jobs (m - (k + 1)) ((k + 1 : Nat) : Int):=by
          rw [show m - k = (m - (k + 1)) + 1 from by omega,chIn]
          rfl
        have HU:=Aside0.mk hunf
        have hs2 : Aside0 ((chs m (d + 1) jobs).foldl step s = (chIn (chs m d) jobs (m - (k + 1)) ((k + 1 : Nat) : Int)).foldl step ((chs m d (jobs ++ [(k : Int)])).foldl step s')):=Aside0.mk (by rw [hf.out,HU.out,List.foldl_append])
        have hp2 : Aside0 (∀ l ∈ chIn (chs m d) jobs (m - (k + 1)) ((k + 1 : Nat) : Int),P l):=Aside0.mk (fun l hl=>hp.out l (by rw [HU.out];exact List.mem_append_right _ hl))
        have hp3 : Aside0 (∀ l ∈ chs m d (jobs ++ [(k : Int)]),P l):=Aside0.mk (fun l hl=>hp.out l (by rw [HU.out];exact List.mem_append_left _ hl))
        clear hunf hf hp hown
        go_wp2
        refine start_ (n:=6) (S:=fun w'=>w'.cell? ⟨Be,0,none⟩ = some (.func (.func 79) #[] #[.pointer (some ⟨Bn,0,none⟩),.pointer (some ⟨Bc,0,none⟩),.pointer (some ⟨Bm,0,none⟩),.pointer (some ⟨Be,0,none⟩)])) (ds:=[5]) #[false,false,false,false,false,false] (by kernel_rfl) rfl rfl hEr (fun hHeld=>?_)
        have HB2 : Aside0 (Below wr.heap.size wr wr.drew):=Aside0.mk (below_drew1 (Below.refl _ _))
        generalize wr.drew = w0 at HB2 hHeld ⊢
        refine take_ (i:=0) (N:=some 19) (v:=?_) (a':=?_) #[true,false,false,false,false,false] rfl rfl (by kernel_rfl) (fun _ _ _ h=>h) (Or.inl ⟨by rfl,?_⟩) hHeld ?_ ?_
        rotate_left
        · intro w' s0
          go_simp
          with_reducible rfl
        rotate_left
        · simp only [Act.put,List.setIfInBounds_toArray,List.set_cons_zero,List.set_cons_succ,i64_w,i32_w]
          rfl
        refine pure_ (i:=1) (N:=some 20) (v:=?_) (a':=?_) #[true,true,false,false,false,false] rfl rfl (by kernel_rfl) (fun _ _ _ h=>h) (Or.inl ⟨by rfl,?_⟩) ?_ ?_
        rotate_left
        · intro w'
          go_simp
          with_reducible rfl
        rotate_left
        · simp only [Act.put,List.setIfInBounds_toArray,List.set_cons_zero,List.set_cons_succ,i64_w,i32_w]
          rfl
        refine pure_ (i:=2) (N:=some 21) (v:=?_) (a':=?_) #[true,true,true,false,false,false] rfl rfl (by kernel_rfl) (fun _ _ _ h=>h) (Or.inl ⟨by rfl,?_⟩) ?_ ?_
        rotate_left
        · intro w'
          go_simp
          with_reducible rfl
        rotate_left
        · simp only [Act.put,List.setIfInBounds_toArray,List.set_cons_zero,List.set_cons_succ,i64_w,i32_w]
          rfl
        refine one_ (i:=3) (N:=some 22) #[true,true,true,true,false,false] rfl rfl (by kernel_rfl) (by decide) (fun K hK=>?_)
        refine Kd.R_lit_step (Kd.int .i64) _ 3 ?hg1 (N:=22) ?hd1 (xs:=[(k : Int)]) (inner:=[.int .i64 k]) (ok:=fun _=>True) (okp:=fun _=>True) ?hr1 ?hp1 (fun _ hk=>hk) trivial (Below.refl _ _) (Nat.le_refl _) (by simp) ?_
        case hd1=>rfl
        case hg1=>rfl
        case hr1=>first|(go_simp;done)|(go_simp;rfl)
        case hp1=>exact (Reps.one (show Kd.M (Kd.int .i64) _ _ _ (k : Int) [.int .i64 k] from rfl) (Reps.none _ _))
        intro v1 w3 hR1 hb3 hg_ hnew_
        clear hg_ hnew_
        refine hK.out _ _ ((Keeps.of_below (S:=S) hb3).cell hHeld HXr.out.st.2.2.2) (fun hHeld=>?_)
        clear hK K
        obtain ⟨A1,c4,e4⟩:=Kd.R_slice hR1
        subst e4
        refine norm_ (a':=?_) ?_ ?_
        rotate_left
        · show Act.put _ (some 22) _ = _
          simp only [Act.put,List.setIfInBounds_toArray,List.set_cons_zero,List.set_cons_succ,i64_w,i32_w]
          rfl
        have hB3:=below_step HB2.out hb3
        have hRl : Kd.R (Kd.int .i64) 3 w3 B2 (fun k=>B2 ≤ k) (.slice A jobs.length c) jobs:=Kd.R_below HRr.out hB3
        obtain ⟨ad1,e5,hx1⟩:=Kd.at_int (Kd.R_reads' hR1).2.2 (0 : Int) (Int.le_refl _) (by simp)
        subst e5
        obtain ⟨i3,hi3,hz3⟩:=Option.map_eq_some_iff.1 info3
        simp only [Prod.mk.injEq] at hz3
        obtain ⟨hz31,hz32,hz33⟩:=hz3
        obtain ⟨v5,w5,hr5,ho5,hcase⟩:=append_two (P:=Try.prog) w3 B2 22 22 3 i3 (.int .i64 0) 8 Try.underlying22 hi3 hz31 hz32 hz33 rfl (.slice A jobs.length c) jobs.length _ (Kd.own_of_R hRl) ad1 c4 [.int .i64 (k : Int)] rfl
          (by
            intro j u hj
            cases j with
            | zero =>
              obtain rfl : Value.int .i64 (k : Int) = u:=by simpa using hj
              exact hx1
            | succ j=>simp at hj)
          (by
            intro u hu
            obtain rfl : u = Value.int .i64 (k : Int):=by simpa using hu
            rfl) (by have:=HN.out;simp only [maxLen];omega) (by have:=HN.out;omega) (Nat.le_trans HXr.out.base hB3.size)
        have hk35 : Keeps (fun b=>some b = (Value.slice A jobs.length c).ownBlock) w3 w5:=by
          rcases hcase with ⟨g,cap,e1,e2,hg⟩|⟨hg,_⟩
          · rw [e1];exact Keeps.of_grown hg
          · exact (Keeps.of_grown hg).mono (fun _ _ h=>by cases h)
        refine one_ (i:=4) (N:=some 23) #[true,true,true,true,true,false] rfl rfl (by kernel_rfl) (by decide) (fun K hK=>?_)
        refine value_ (w1:=w5) (v:=v5) (by rfl) rfl ?hrun5 ?_
        case hrun5 =>
          unfold execOp
          simp only [resolve,invoke,builtin,Sem.run_bind,Sem.run_pure,Result.andThen_ok,List.map_toArray,List.map_cons,List.map_nil]
          have hr6:=hr5
          simp [Act.eval,hr6]
        have hXw3:=HXr.out.keeps (Keeps.of_below (S:=S) hB3) (fun i h => .inl h)
        have hXw5:=hXw3.keeps hk35 (fun i h => .inr (HOWN.out i h))
        refine hK.out _ _ hXw5.ce (fun hHeld=>?_)
        clear hK K
        refine norm_ (a':=?_) ?_ ?_
        rotate_left
        · show Act.put _ (some 23) _ = _
          simp only [Act.put,List.setIfInBounds_toArray,List.set_cons_zero,List.set_cons_succ,i64_w,i32_w]
          rfl
        have hR5 : Kd.R (Kd.int .i64) 3 w5 B2 (fun k=>B2 ≤ k) v5 (jobs ++ [(k : Int)]):=Kd.R_of_own (by
          have e6 : encs (Value.int .i64) (jobs ++ [(k : Int)]) = encs (Value.int .i64) jobs ++ [.int .i64 (k : Int)]:=by simp [encs]
          rw [e6,List.length_append]
          exact ho5) (fun b hb5=>(ho5.lt b hb5).1)
        have hlt5:=Kd.R_lt hR5
        have hI3:=hb.below hi.out hB3
        have hI5 : I (fun b=>ok b ∧ some b ≠ v5.ownBlock) w5 s':=by
          have h1 : I (fun b=>ok b ∧ some b ≠ v5.ownBlock) w3 s':=hb.mono _ _ _ _ hI3 (fun b hl ho=>⟨ho,fun he=>by
            rcases hcase with ⟨g,cap,e1,e2,hg⟩|⟨hg,e2⟩
            · exact HOK.out b ho (by rw [e1];rw [e2] at he;exact he)
            · rw [e2] at he;injection he with he;omega⟩)
          exact hb.stay _ _ _ _ _ h1 hk35 (fun b hb5=>⟨Nat.le_trans HXr.out.bb (HOWN.out b hb5),fun ho=>HOK.out b ho.1 hb5⟩)
        have hszr:=hkp.out.size
        have hsz3:=hB3.size
        have hsz5:=hk35.size
        obtain ⟨A5,c5,e5⟩:=Kd.R_slice hR5
        subst e5
        refine last_ (i:=5) (N:=some 24) #[true,true,true,true,true,true] rfl rfl (by kernel_rfl) (by decide) (fun K hK=>?_)
        refine call_ 79 #[.slice A5 (jobs ++ [(k : Int)]).length c5,.pointer (some ⟨Bn,0,none⟩),.pointer (some ⟨Bc,0,none⟩),.pointer (some ⟨Bm,0,none⟩),.pointer (some ⟨Be,0,none⟩)] (by rfl) rfl ?hrun ?_
        case hrun =>
          unfold execOp
          simp [resolve,Deferred.ofValue,invoke,Act.eval,enters_ Try.func79 (by kernel_rfl) rfl]
        refine (ih (jobs ++ [(k : Int)]) w5 s' A5 c5 (fun b=>ok b ∧ some b ≠ (Value.slice A5 (jobs ++ [(k : Int)]).length c5).ownBlock) (by have:=HN.out;simp only [List.length_append,List.length_cons,List.length_nil];omega) hp3.out hXw5 hI5 hR5 (fun _ h=>h.2) (fun b hb5=>⟨HFR.out b (by omega),fun he=>by have:=hlt5 b he.symm;omega⟩)).mono ?_
        rintro e w6 ⟨rfl,hI6,hR6,hK6⟩
        refine ⟨_,rfl,?_⟩
        refine hK.out _ _ ?_
        clear hK K
        refine norm_ (a':=?_) ?_ ?_
        rotate_left
        · show Act.put _ (some 24) _ = _
          simp only [Act.put,List.setIfInBounds_toArray,List.set_cons_zero,List.set_cons_succ,i64_w,i32_w]
          rfl
        have HI6:=Aside0.mk (hb.mono _ _ _ _ hI6 (fun b _ h=>h.1))
        have hk36 : Keeps (fun b=>S b ∨ some b = (Value.slice A jobs.length c).ownBlock) w3 w6:=hk35.trans2 hK6 (fun b hl hn=>⟨fun h=>hn (.inr h),fun h=>by
          rcases h with h|h
          · exact hn (.inl h)
          · rcases hcase with ⟨g,cap,e1,e2,hg⟩|⟨hg,e2⟩
            · exact hn (.inr (by rw [e1];rw [e2] at h;exact h))
            · rw [e2] at h;injection h with h;omega⟩)
        have HK6:=Aside0.mk (hkp.out.trans ((Keeps.of_below hB3).trans hk36))
        have HR6 : Aside0 (Kd.R (Kd.int .i64) 3 w6 B2 (fun k=>B2 ≤ k) (.slice A jobs.length c) jobs):=Aside0.mk (by
          rcases hcase with ⟨g,cap,e1,e2,hg⟩|⟨hg,e2⟩
          · injection e1 with e11 e12 e13
            subst e11
            subst e13
            injection e2 with e21 e22 e23
            subst e21
            subst e23
            rw [List.length_append,List.length_cons,List.length_nil] at hR6
            exact R_cut hR6
          · refine Kd.R_mono (Kd.R_step (Kd.R_step (Kd.R_bound hRl) (fun b _ hl=>hg.block b hl (by simp))) (fun b hb6 hl=>hK6.block b hl (fun h=>?_))) (fun _ h=>h.1)
            rcases h with h|h
            · have:=hb.low b h
              have:=HX.out.bb
              have:=hb6.1
              omega
            · rw [e2] at h
              injection h with h
              have:=hb6.2.2.1
              omega)
        clear hI6 hK6 hR6 hk36 hI5 hR5 hI3 hk35
        refine done_ (by kernel_rfl) ?_
        go_wp2
        go_roundw
        case rel=>exact ⟨k + 1,_,by omega,by go_num,hs2,hp2,HI6,HR6,HK6⟩
        case measure=>simp [intOf];omega
      · have hs2 : Aside0 ((chs m (d + 1) jobs).foldl step s = s'):=Aside0.mk (by rw [hf.out,show m - k = 0 from by omega];rfl)
        clear hf hp
        go_wp2
        go_end0
        exact ⟨rfl,by rw [hs2.out];exact hi.out,HRr.out,hkp.out⟩
theorem st_func {P : Program} (a : Addr) (m : Mode) (f : Fn) (b c : Array Value) (w : World) : (store a (.func f b c) m).run P w = stored P w a (.func f b c) m:=run_store P w a _ m rfl
attribute [local go_sem] st_func
theorem cho_boxes {F : FuncId} {caps : Array Value} {S : Nat → Prop} {B : Nat} {w w1 w2 w3 w4 : World} {g1 g2 g3 g4 : Nat} (n m : Nat) (hB0 : B ≤ w.heap.size) (hlow : ∀ k,S k → k < B)
    (h1 : g1 = w.heap.size) (x1 : w1.heap[g1]? = some (.cells #[.int .i64 n] 3 (0,0))) (b1 : Below w.heap.size w w1)
    (h2 : g2 = w1.heap.size) (x2 : w2.heap[g2]? = some (.cells #[.int .i64 m] 3 (0,0))) (b2 : Below w1.heap.size w1 w2)
    (h3 : g3 = w2.heap.size) (x3 : w3.heap[g3]? = some (.cells #[.func (.func F) #[] caps] 69 (0,0))) (b3 : Below w2.heap.size w2 w3)
    (h4 : g4 = w3.heap.size) (x4 : w4.heap[g4]? = some (.cells #[.nilFunc] 69 (0,0))) (b4 : Below w3.heap.size w3 w4) :
    Boxes F caps S B (w4.setCell ⟨g4,0,none⟩ (.func (.func 79) #[] #[.pointer (some ⟨g1,0,none⟩),.pointer (some ⟨g3,0,none⟩),.pointer (some ⟨g2,0,none⟩),.pointer (some ⟨g4,0,none⟩)])).heap.size n m g1 g3 g2 g4 (w4.setCell ⟨g4,0,none⟩ (.func (.func 79) #[] #[.pointer (some ⟨g1,0,none⟩),.pointer (some ⟨g3,0,none⟩),.pointer (some ⟨g2,0,none⟩),.pointer (some ⟨g4,0,none⟩)])) ∧ Below w.heap.size w (w4.setCell ⟨g4,0,none⟩ (.func (.func 79) #[] #[.pointer (some ⟨g1,0,none⟩),.pointer (some ⟨g3,0,none⟩),.pointer (some ⟨g2,0,none⟩),.pointer (some ⟨g4,0,none⟩)])):=by
  have s1:=b1.size
  have s2:=b2.size
  have s3:=b3.size
  have s4:=b4.size
  have l1:=blk_lt x1
  have l2:=blk_lt x2
  have l3:=blk_lt x3
  have l4:=blk_lt x4
  have hz : (w4.setCell ⟨g4,0,none⟩ (.func (.func 79) #[] #[.pointer (some ⟨g1,0,none⟩),.pointer (some ⟨g3,0,none⟩),.pointer (some ⟨g2,0,none⟩),.pointer (some ⟨g4,0,none⟩)])).heap.size = w4.heap.size:=by simp [World.setCell]
  have hB : Below w.heap.size w (w4.setCell ⟨g4,0,none⟩ (.func (.func 79) #[] #[.pointer (some ⟨g1,0,none⟩),.pointer (some ⟨g3,0,none⟩),.pointer (some ⟨g2,0,none⟩),.pointer (some ⟨g4,0,none⟩)])):=Below.setCell (below_step b1 (below_step b2 (below_step b3 b4))) (by show w.heap.size ≤ g4;omega) _
  have y1:=blk_below (blk_below (blk_below x1 b2) b3) b4
  have y2:=blk_below (blk_below x2 b3) b4
  have y3:=blk_below x3 b4
  refine ⟨⟨Nat.le_refl _,by omega,by omega,?_,?_,?_,(blk_cell (blk_set x4 0 _) 0).trans rfl,fun h=>by have:=hlow _ h;omega,fun h=>by have:=hlow _ h;omega,fun h=>by have:=hlow _ h;omega,fun h=>by have:=hlow _ h;omega⟩,hB⟩
  · exact (cell_far (p:=⟨g4,0,none⟩) (by show g1 ≠ g4;omega) _).trans ((blk_cell y1 0).trans rfl)
  · exact (cell_far (p:=⟨g4,0,none⟩) (by show g3 ≠ g4;omega) _).trans ((blk_cell y3 0).trans rfl)
  · exact (cell_far (p:=⟨g4,0,none⟩) (by show g2 ≠ g4;omega) _).trans ((blk_cell y2 0).trans rfl)
set_option maxHeartbeats 8000000 in
set_option maxRecDepth 100000 in
theorem choices_any {σ : Type} {F : FuncId} {caps : Array Value} {S : Nat → Prop} {B : Nat} {I : (Nat → Prop) → World → σ → Prop} {P : List Int → Prop} {step : σ → List Int → σ} (hb : Back F caps S B I P step) (n m : Nat) (hn : n ≤ 1000) (hm : m ≤ 1000) (w : World) (s : σ) (ok : Nat → Prop) (hP : ∀ l ∈ chs m n [],P l) (hB0 : B ≤ w.heap.size) (hI : I ok w s) (hfr : ∀ k,w.heap.size ≤ k → ok k) :
    Calls Try.prog 61 #[.int .i64 n,.int .i64 m,.func (.func F) #[] caps] w fun e w'=>e = .returned (.tuple #[]) ∧ I ok w' ((chs m n []).foldl step s) ∧ Keeps S w w':=by
  have hlow:=hb.low
  have HP:=Aside0.mk hP
  have HI:=Aside0.mk hI
  have HFR:=Aside0.mk hfr
  clear hP hI hfr
  go_enter Try.func61,Try.ntmps61
  go_wp2_with (first|((with_reducible refine gate_dst (N:=3) rfl ?_);refine box_event ?hg3 (N:=3) ?hd3 (cs := #[.int .i64 n]) (t:=3) ?hr3 ?_;(case hd3=>rfl);(case hg3=>rfl);(case hr3=>first|(go_simp;done)|(go_simp;rfl));intro g1 hgg1 w1 hboxg1 hbg1;have HG1:=Aside0.mk hgg1;have HX1:=Aside0.mk hboxg1;have HB1:=Aside0.mk hbg1;clear hgg1 hboxg1 hbg1)|((with_reducible refine gate_dst (N:=4) rfl ?_);refine box_event ?hg4 (N:=4) ?hd4 (cs := #[.int .i64 m]) (t:=3) ?hr4 ?_;(case hd4=>rfl);(case hg4=>rfl);(case hr4=>first|(go_simp;done)|(go_simp;rfl));intro g2 hgg2 w2 hboxg2 hbg2;have HG2:=Aside0.mk hgg2;have HX2:=Aside0.mk hboxg2;have HB2:=Aside0.mk hbg2;clear hgg2 hboxg2 hbg2)|((with_reducible refine gate_dst (N:=5) rfl ?_);refine box_event ?hg5 (N:=5) ?hd5 (cs := #[.func (.func F) #[] caps]) (t:=69) ?hr5 ?_;(case hd5=>rfl);(case hg5=>rfl);(case hr5=>first|(go_simp;done)|(go_simp;rfl));intro g3 hgg3 w3 hboxg3 hbg3;have HG3:=Aside0.mk hgg3;have HX3:=Aside0.mk hboxg3;have HB3:=Aside0.mk hbg3;clear hgg3 hboxg3 hbg3)|((with_reducible refine gate_dst (N:=6) rfl ?_);refine box_event ?hg6 (N:=6) ?hd6 (cs := #[.nilFunc]) (t:=69) ?hr6 ?_;(case hd6=>rfl);(case hg6=>rfl);(case hr6=>first|(go_simp;done)|(go_simp;rfl));intro g4 hgg4 w4 hboxg4 hbg4;have hz1 : w4.cell? ⟨g4,0,none⟩ = some .nilFunc:=(blk_cell hboxg4 0).trans rfl;have hz2:=blk_frozen hboxg4 0;have hz4 : (w4.setCell ⟨g4,0,none⟩ (.func (.func 79) #[] #[.pointer (some ⟨g1,0,none⟩),.pointer (some ⟨g3,0,none⟩),.pointer (some ⟨g2,0,none⟩),.pointer (some ⟨g4,0,none⟩)])).cell? ⟨g4,0,none⟩ = some (.func (.func 79) #[] #[.pointer (some ⟨g1,0,none⟩),.pointer (some ⟨g3,0,none⟩),.pointer (some ⟨g2,0,none⟩),.pointer (some ⟨g4,0,none⟩)]):=(blk_cell (blk_set hboxg4 0 (.func (.func 79) #[] #[.pointer (some ⟨g1,0,none⟩),.pointer (some ⟨g3,0,none⟩),.pointer (some ⟨g2,0,none⟩),.pointer (some ⟨g4,0,none⟩)])) 0).trans rfl;have HG4:=Aside0.mk hgg4;have HX4:=Aside0.mk hboxg4;have HB4:=Aside0.mk hbg4;clear hgg4 hboxg4 hbg4)|(go_at_call 79;refine (extend_any hb _ n m g1 g3 g2 g4 hn hm n [] _ s none 0 ok (by simp) HP.out (cho_boxes n m hB0 hlow HG1.out HX1.out HB1.out HG2.out HX2.out HB2.out HG3.out HX3.out HB3.out HG4.out HX4.out HB4.out).1 (hb.below HI.out (cho_boxes n m hB0 hlow HG1.out HX1.out HB1.out HG2.out HX2.out HB2.out HG3.out HX3.out HB3.out HG4.out HX4.out HB4.out).2) (Kd.R_nil _ _ _ _ _) (fun k _ h=>by simp [Value.ownBlock] at h) (fun k hk=>HFR.out k (Nat.le_trans (cho_boxes n m hB0 hlow HG1.out HX1.out HB1.out HG2.out HX2.out HB2.out HG3.out HX3.out HB3.out HG4.out HX4.out HB4.out).2.size hk))).mono ?_;rintro e w5 ⟨rfl,hI5,_,hK5⟩;have HI5:=Aside0.mk hI5;have HK5:=Aside0.mk ((Keeps.of_below (S:=S) (cho_boxes n m hB0 hlow HG1.out HX1.out HB1.out HG2.out HX2.out HB2.out HG3.out HX3.out HB3.out HG4.out HX4.out HB4.out).2).trans (hK5.mono (fun k _ h=>h.elim id (fun e=>by simp [Value.ownBlock] at e))));clear hI5 hK5))
  go_end0
  exact ⟨rfl,HI5.out,HK5.out⟩
end Go.Proofs.Ytcgfedaoimhejaa.G

/- The callback of SplitColumns: of each division that fits, the first one whose greatest sum is smallest is kept. -/
namespace Go.Proofs.Ytcgfedaoimhejaa.G
open Go.RowKit Go.Proofs.YtcgfedaoimhejaaW.PrintWords Go.Proofs.YtcgfedaoimhejaaW.PrintLast Go.Proofs.YtcgfedaoimhejaaW.PrintMore
set_option linter.unusedVariables false
set_option linter.unusedSimpArgs false
theorem Keeps.of_set (w : World) (g i : Nat) (u : Value) : Keeps (fun k=>k = g) w (w.setCell ⟨g,i,none⟩ u):=⟨rfl,rfl,rfl,by simp [World.setCell],fun k hk hn=>Below.heap_setCell w ⟨g,i,none⟩ u k hn⟩
theorem below_cellA {w w' : World} (hb : Below w.heap.size w w') {p : Addr} {v : Value} (h : w.cell? p = some v) : w'.cell? p = some v:=(Keeps.of_below (S:=fun _=>False) hb).cell h (fun h=>h)
theorem below_cell {B j : Nat} {w w' : World} (hb : Below w.heap.size w w') {v : Value} (h : w.cell? ⟨B,j,none⟩ = some v) : w'.cell? ⟨B,j,none⟩ = some v:=below_cellA hb h
theorem cols_zero (ws l : List Int) (n : Nat) : colsTo ws l n 0 = List.replicate n []:=by
  unfold colsTo
  simp only [colTo]
  exact List.map_const' ..|>.trans (by rw [List.length_range])
theorem cols_step (ws l : List Int) (n k : Nat) (c : Int) (h : rd l (k : Int) = c) (c0 : 0 ≤ c) (c1 : c < (n : Int)) : colsTo ws l n (k + 1) = (colsTo ws l n k).set c.toNat (colTo ws l c k ++ [rd ws (k : Int)]):=by
  apply List.ext_getElem
  · simp [colsTo]
  · intro i h1 h2
    have hi : i < n:=by simpa [colsTo] using h1
    rw [List.getElem_set]
    simp only [colsTo,List.getElem_map,List.getElem_range,colTo]
    by_cases e : c.toNat = i
    · rw [if_pos e,if_pos (by omega),show c = (i : Int) by omega]
    · rw [if_neg e,if_neg (by omega)]
theorem S_formN {w : World} {base : Nat} {ok : Nat → Prop} {v : Value} {xs : List (List Int)} {n : Nat} (h : Kd.S (Kd.slice 3 (Kd.int .i64)) 22 w base ok v xs) (hn : xs.length = n) (hp : 0 < n) : ∃ g cap,v = .slice (some ⟨g,0,none⟩) n cap ∧ base ≤ g:=by
  obtain ⟨g,cap,e,hb,_⟩:=Kd.S_form h (by omega)
  exact ⟨g,cap,by rw [e,hn],hb⟩
/-- How the best columns and their sum stand in their boxes; what was there at wc stays. -/
structure SplitI (wc : World) (ws : List Int) (n : Nat) (Aw : Option Addr) (cw Bn Bw Bl Bb : Nat) (ok : Nat → Prop) (w : World) (s : List (List Int) × Int) : Prop where
  old : Below wc.heap.size wc w
  cn : w.cell? ⟨Bn,0,none⟩ = some (.int .i64 n)
  cw_ : w.cell? ⟨Bw,0,none⟩ = some (.slice Aw ws.length cw)
  bl : w.heap[Bl]? = some (.cells #[.int .i64 s.2] 3 (0,0))
  bb : ∃ v,w.heap[Bb]? = some (.cells #[v] 37 (0,0)) ∧ Kd.S (Kd.slice 3 (Kd.int .i64)) 22 w wc.heap.size ok v s.1
/-- The boxes' places: below B, from wc on, and told apart. -/
structure Places (wc : World) (B Bn Bw Bl Bb : Nat) : Prop where
  b : wc.heap.size ≤ B
  w : Bw < B
  k : Bn < B
  l : wc.heap.size ≤ Bl ∧ Bl < B
  bb : wc.heap.size ≤ Bb ∧ Bb < B
  n1 : Bw ≠ Bl ∧ Bw ≠ Bb ∧ Bn ≠ Bl ∧ Bn ≠ Bb ∧ Bl ≠ Bb
section
variable {wc : World} {ws : List Int} {n : Nat} {Aw : Option Addr} {cw B Bn Bw Bl Bb : Nat} {ok : Nat → Prop} {w w' : World} {s : List (List Int) × Int}
theorem SplitI.stay (hp : Places wc B Bn Bw Bl Bb) {T : Nat → Prop} (h : SplitI wc ws n Aw cw Bn Bw Bl Bb ok w s) (k : Keeps T w w') (hT : ∀ b,T b → B ≤ b ∧ ¬ ok b) : SplitI wc ws n Aw cw Bn Bw Bl Bb ok w' s:=by
  obtain ⟨p1,p2,p3,p4,p5,_⟩:=hp
  have no : ∀ b,b < B → ¬ T b:=fun b hb ht=>by have:=(hT b ht).1;omega
  obtain ⟨v,hv,hr⟩:=h.bb
  exact ⟨⟨k.os.trans h.old.os,k.tape.trans h.old.tape,k.output.trans h.old.output,Nat.le_trans h.old.size k.size,fun i hi=>(k.block i (Nat.lt_of_lt_of_le hi h.old.size) (no i (by omega))).trans (h.old.block i hi)⟩,
    k.cell h.cn (no _ p3),k.cell h.cw_ (no _ p2),(k.block _ (blk_lt h.bl) (no _ p4.2)).trans h.bl,v,(k.block _ (blk_lt hv) (no _ p5.2)).trans hv,Kd.S_step hr (fun b ho hl=>k.block b hl (fun ht=>(hT b ht).2 ho))⟩
theorem SplitI.below (hp : Places wc B Bn Bw Bl Bb) (h : SplitI wc ws n Aw cw Bn Bw Bl Bb ok w s) (hb : Below w.heap.size w w') : SplitI wc ws n Aw cw Bn Bw Bl Bb ok w' s:=h.stay hp (Keeps.of_below (S:=fun _=>False) hb) (fun _ h=>h.elim)
theorem SplitI.put (hp : Places wc B Bn Bw Bl Bb) (h : SplitI wc ws n Aw cw Bn Bw Bl Bb ok w s) {v : Value} {t : List (List Int)} {b0 : Nat} (hb0 : B ≤ b0) (hR : Kd.S (Kd.slice 3 (Kd.int .i64)) 22 w b0 ok v t) (m : Int) :
    SplitI wc ws n Aw cw Bn Bw Bl Bb ok ((w.setCell ⟨Bb,0,none⟩ v).setCell ⟨Bl,0,none⟩ (.int .i64 m)) (t,m) ∧ Keeps (fun k=>k = Bl ∨ k = Bb) w ((w.setCell ⟨Bb,0,none⟩ v).setCell ⟨Bl,0,none⟩ (.int .i64 m)):=by
  obtain ⟨p1,p2,p3,p4,p5,q1,q2,q3,q4,q5⟩:=hp
  have k : Keeps (fun k=>k = Bl ∨ k = Bb) w ((w.setCell ⟨Bb,0,none⟩ v).setCell ⟨Bl,0,none⟩ (.int .i64 m)):=((Keeps.of_set w Bb 0 v).mono (fun _ _ h => .inr h)).trans ((Keeps.of_set _ Bl 0 _).mono (fun _ _ h => .inl h))
  obtain ⟨v0,hv,hr⟩:=h.bb
  refine ⟨⟨⟨k.os.trans h.old.os,k.tape.trans h.old.tape,k.output.trans h.old.output,Nat.le_trans h.old.size k.size,fun i hi=>(k.block i (Nat.lt_of_lt_of_le hi h.old.size) (fun e=>by omega)).trans (h.old.block i hi)⟩,
    k.cell h.cn (fun e=>e.elim q3 q4),k.cell h.cw_ (fun e=>e.elim q1 q2),?_,v,?_,?_⟩,k⟩
  · exact blk_set ((Below.heap_setCell w ⟨Bb,0,none⟩ v Bl q5).trans h.bl) 0 _
  · exact (Below.heap_setCell _ ⟨Bl,0,none⟩ _ Bb (fun e=>q5 e.symm)).trans (blk_set hv 0 v)
  · refine Kd.S_lower (Kd.S_mono (Kd.S_step (Kd.S_bound hR) (fun b hb hl=>k.block b hl (fun e=>by have:=hb.2.1;omega))) (fun _ h=>h.1)) (by omega)
/-- The cells that the walk reads and writes ahead of the stores. -/
structure Ready (w : World) (Bl Bb : Nat) (m : Int) (u v : Value) : Prop where
  l : w.cell? ⟨Bl,0,none⟩ = some (.int .i64 m)
  lf : w.frozen? ⟨Bl,0,none⟩ = false
  b : w.cell? ⟨Bb,0,none⟩ = some u
  bf : w.frozen? ⟨Bb,0,none⟩ = false
  l2 : (w.setCell ⟨Bb,0,none⟩ v).cell? ⟨Bl,0,none⟩ = some (.int .i64 m)
  l2f : (w.setCell ⟨Bb,0,none⟩ v).frozen? ⟨Bl,0,none⟩ = false
theorem SplitI.ready (hp : Places wc B Bn Bw Bl Bb) (h : SplitI wc ws n Aw cw Bn Bw Bl Bb ok w s) (v : Value) : ∃ u,Ready w Bl Bb s.2 u v:=by
  obtain ⟨v0,hv,hr⟩:=h.bb
  have hl:=(Below.heap_setCell w ⟨Bb,0,none⟩ v Bl hp.n1.2.2.2.2).trans h.bl
  exact ⟨v0,⟨(blk_cell h.bl 0).trans rfl,blk_frozen h.bl 0,(blk_cell hv 0).trans rfl,blk_frozen hv 0,(blk_cell hl 0).trans rfl,blk_frozen hl 0⟩⟩
end
theorem at_first {w : World} {A : Option Addr} {xs : List Int} (h : Kd.C (Kd.int .i64) w A xs.length xs) (hp : 0 < xs.length) : ∃ a0,A = some a0 ∧ ∀ k : Nat,k < xs.length → w.cell? (a0.add k) = some (.int .i64 (rd xs (k : Int))):=by
  obtain ⟨a0,e,_⟩:=Kd.at_int h (0 : Int) (Int.le_refl _) (by omega)
  refine ⟨a0,e,fun k hk=>?_⟩
  obtain ⟨a1,e1,hx⟩:=Kd.at_int h (k : Int) (by omega) (by omega)
  rw [e] at e1
  injection e1 with e1
  subst e1
  rw [Int.toNat_natCast] at hx
  exact hx
set_option maxHeartbeats 8000000 in
set_option maxRecDepth 100000 in
theorem split_call {wc : World} {ws : List Int} {n : Nat} (hW : Wts ws) (hn : 1 ≤ n ∧ n ≤ 3) {Aw : Option Addr} {cw B Bn Bw Bl Bb : Nat} (hp : Places wc B Bn Bw Bl Bb) (hCw : Kd.C (Kd.int .i64) wc Aw ws.length ws) (hcw : ws.length ≤ cw) (ok : Nat → Prop) (w : World) (s : List (List Int) × Int) (v : Value) (l : List Int) (hI : SplitI wc ws n Aw cw Bn Bw Bl Bb ok w s) (hP : l.length = ws.length ∧ ∀ x ∈ l,0 ≤ x ∧ x < (n : Int)) (hfr : ∀ k,w.heap.size ≤ k → ok k) (hBw : B ≤ w.heap.size) (hR : Kd.R (Kd.int .i64) 3 w B ok v l) :
    Calls Try.prog 62 (#[v] ++ #[.pointer (some ⟨Bn,0,none⟩),.pointer (some ⟨Bw,0,none⟩),.pointer (some ⟨Bl,0,none⟩),.pointer (some ⟨Bb,0,none⟩)]) w fun e w'=>e = .returned (.tuple #[]) ∧ SplitI wc ws n Aw cw Bn Bw Bl Bb ok w' (stepC ws n s l) ∧ Keeps (fun k=>k = Bl ∨ k = Bb) w w':=by
  obtain ⟨A,c1,rfl⟩:=Kd.R_slice hR
  obtain ⟨best,least⟩:=s
  have hl8 : l.length ≤ 8:=by have:=hW.1;omega
  have hn3 : n ≤ 3:=hn.2
  have hn1 : 1 ≤ n:=hn.1
  have hcn:=hI.cn
  have hw:=hI.cw_
  have HI:=Aside0.mk hI
  have HR:=Aside0.mk hR
  have HP:=Aside0.mk hp
  have HPL:=Aside0.mk hP
  have HFR:=Aside0.mk hfr
  have HBW:=Aside0.mk hBw
  have HW:=Aside0.mk hW
  have HCW:=Aside0.mk (Kd.C_below hCw hI.old)
  have HLW : Aside0 (l.length = ws.length):=Aside0.mk hP.1
  clear hI hR hp hCw hP hfr hW hn hBw
  show Calls Try.prog 62 #[.slice A l.length c1,.pointer (some ⟨Bn,0,none⟩),.pointer (some ⟨Bw,0,none⟩),.pointer (some ⟨Bl,0,none⟩),.pointer (some ⟨Bb,0,none⟩)] w _
  go_enter Try.func62,Try.ntmps62
  go_wp2_with ((with_reducible refine gate_dst (N:=13) rfl ?_);refine Kd.S_make (Kd.slice 3 (Kd.int .i64)) _ 22 rfl (N:=13) rfl 37 _ _ rfl (n : Int) rfl rfl Try.underlying37 (.slice none 0 0) 24 info22 rfl (by decide) (by omega) [] (ok:=fun _=>True) (okp:=fun _=>True) ⟨_,rfl,Kd.R_nil _ _ _ _ _⟩ (fun _ hk=>hk) trivial (by omega) (by omega) (Below.refl _ _) (Nat.le_refl _) ?_;intro v1 w1 ho1 hb1 hg1_ hnew1_;clear hg1_ hnew1_;rw [Int.toNat_natCast,← cols_zero ws l n] at ho1;obtain ⟨g,cap,ev,hgb1⟩:=S_formN ho1 (cols_len ws l n 0) (by omega);subst ev;have HO1:=Aside0.mk ho1;have HB1:=Aside0.mk hb1;have HGb:=Aside0.mk hgb1;clear ho1 hb1 hgb1)
  go_loopw [16] (fun v16 w' => ∃ k : Nat,k ≤ l.length ∧ v16 = .int .i64 k ∧ Aside0 (Kd.S (Kd.slice 3 (Kd.int .i64)) 22 w' w.heap.size (fun _=>True) (.slice (some ⟨g,0,none⟩) n cap) (colsTo ws l n k)) ∧ Aside0 (Below w.heap.size w w')) (fun v16 _=>l.length - (intOf v16).toNat)
  case atStart=>exact ⟨0,Nat.zero_le _,rfl,HO1,HB1⟩
  case round =>
    clear HO1 HB1
    obtain ⟨k,hk,rfl,ho,hb⟩:=hrel
    have hwr:=below_cell hb.out hw
    by_cases hlt : k < l.length
    · have hg:=HPL.out.2 _ (rd_mem l (k : Int) (by omega) (by omega))
      obtain ⟨ad,e1,hx⟩:=Kd.at_int (Kd.C_below (Kd.R_reads' HR.out).2.2 hb.out) (k : Int) (by omega) (by omega)
      cases e1
      rw [Int.toNat_natCast] at hx
      obtain ⟨adw0,e2,hxw⟩:=at_first HCW.out (by have:=HLW.out;omega)
      subst e2
      have hx3w:=hxw k (by have:=HLW.out;omega)
      have hx3:=below_cellA hb.out hx3w
      have hkw : k < ws.length:=by have:=HLW.out;omega
      obtain ⟨oki,cl,hcl,hM,hcc,hfz,hoki,hH⟩:=Kd.S_elem (Kd.S_mono (Kd.S_bound ho.out) (fun b hb=>(⟨trivial,by have:=hb.2.2.1;omega⟩ : True ∧ ¬ wr.heap.size ≤ b))) ([] : List Int) (rd l (k : Int)) hg.1 hg.2
      obtain ⟨vr,rfl,hRow⟩:=hM
      obtain ⟨row,hrow⟩ : ∃ row,colTo ws l (rd l (k : Int)) k = row:=⟨_,rfl⟩
      have hgd : (colsTo ws l n k).getD (rd l (k : Int)).toNat [] = row:=by
        have:=rd_cols ws l n k (rd l (k : Int)).toNat (by omega)
        rw [show (((rd l (k : Int)).toNat : Nat) : Int) = rd l (k : Int) by omega,hrow] at this
        exact this
      rw [hgd] at hRow
      have HST : Aside0 (colsTo ws l n (k + 1) = (colsTo ws l n k).set (rd l (k : Int)).toNat (row ++ [rd ws (k : Int)])):=Aside0.mk (by rw [← hrow];exact cols_step ws l n k _ rfl hg.1 hg.2)
      have HLn : Aside0 (row.length ≤ 8):=Aside0.mk (by have:=colTo_len ws l (rd l (k : Int)) k;rw [hrow] at this;omega)
      obtain ⟨Ar,cr,er⟩:=Kd.R_slice hRow
      subst er
      have hx2 : wr.cell? ⟨g,(rd l (k : Int)).toNat,none⟩ = some (.slice Ar row.length cr):=by
        have:=hcc 0 _ rfl
        rw [show (Kd.slice 3 (Kd.int .i64)).sz = 1 from rfl,Nat.mul_one,Nat.add_zero] at this
        exact this
      obtain ⟨cells,hgb⟩:=Kd.S_typed ho.out g (by simp [Value.ownBlock])
      have HRow:=Aside0.mk hRow
      have HH:=Aside0.mk hH
      have HOk:=Aside0.mk hoki
      have HG1:=Aside0.mk hg.1
      have HG2:=Aside0.mk hg.2
      have g1:=eq_true hg.1
      have g2:=eq_true hg.2
      clear hg hcl hcc hfz hoki hH hRow hgd hrow hxw
      go_wp2
      refine start_ (n:=14) (S:=fun w'=>w'.cell? ⟨g,(rd l (k : Int)).toNat,none⟩ = some (.slice Ar row.length cr) ∧ w'.cell? ⟨Bw,0,none⟩ = some (.slice (some adw0) ws.length cw) ∧ w'.cell? (adw0.add k) = some (.int .i64 (rd ws (k : Int)))) (ds:=[13]) #[false,false,false,false,false,false,false,false,false,false,false,false,false,false] (by kernel_rfl) rfl rfl ⟨hx2,hwr,hx3⟩ (fun hHeld=>?_)
      have HBd : Aside0 (Below w.heap.size w wr.drew):=Aside0.mk (below_step hb.out (below_drew1 (Below.refl _ _)))
      have HRd : Aside0 (Kd.R (Kd.int .i64) 3 wr.drew w.heap.size (fun b=>oki b ∨ wr.heap.size ≤ b) (.slice Ar row.length cr) row):=Aside0.mk (Kd.R_mono (Kd.R_drew HRow.out) (fun b h => .inl h))
      have HHd : Aside0 (Kd.H (Kd.slice 3 (Kd.int .i64)) 22 wr.drew w.heap.size (fun b=>True ∧ ¬ wr.heap.size ≤ b) (.slice (some ⟨g,0,none⟩) n cap) (colsTo ws l n k) (rd l (k : Int)) oki [.slice Ar row.length cr]):=Aside0.mk (Kd.H_drew HH.out)
      have HGd : Aside0 (wr.drew.heap[g]? = some (.cells cells 22 (0,0))):=Aside0.mk hgb
      have HSz : Aside0 (wr.drew.heap.size = wr.heap.size):=Aside0.mk rfl
      generalize wr.drew = w0 at HBd HRd HHd HGd HSz hHeld ⊢
      refine pure_ (i:=0) (N:=(some 21)) (v:=?_) (a':=?_) #[true,false,false,false,false,false,false,false,false,false,false,false,false,false] rfl rfl (by kernel_rfl) (fun _ _ _ h=>h) (Or.inl ⟨by rfl,?_⟩) ?_ ?_
      rotate_left
      · intro w'
        go_simp
        with_reducible rfl
      rotate_left
      · simp only [Act.put,List.setIfInBounds_toArray,List.set_cons_zero,List.set_cons_succ,i64_w,i32_w]
        rfl
      refine pure_ (i:=1) (N:=(some 22)) (v:=?_) (a':=?_) #[true,true,false,false,false,false,false,false,false,false,false,false,false,false] rfl rfl (by kernel_rfl) (fun _ _ _ h=>h) (Or.inl ⟨by rfl,?_⟩) ?_ ?_
      rotate_left
      · intro w'
        go_simp
        with_reducible rfl
      rotate_left
      · simp only [Act.put,List.setIfInBounds_toArray,List.set_cons_zero,List.set_cons_succ,i64_w,i32_w]
        rfl
      refine pure_ (i:=2) (N:=(some 23)) (v:=?_) (a':=?_) #[true,true,true,false,false,false,false,false,false,false,false,false,false,false] rfl rfl (by kernel_rfl) (fun _ _ _ h=>h) (Or.inl ⟨by rfl,?_⟩) ?_ ?_
      rotate_left
      · intro w'
        go_simp
        with_reducible rfl
      rotate_left
      · simp only [Act.put,List.setIfInBounds_toArray,List.set_cons_zero,List.set_cons_succ,i64_w,i32_w]
        rfl
      refine pure_ (i:=3) (N:=(some 24)) (v:=?_) (a':=?_) #[true,true,true,true,false,false,false,false,false,false,false,false,false,false] rfl rfl (by kernel_rfl) (fun _ _ _ h=>h) (Or.inl ⟨by rfl,?_⟩) ?_ ?_
      rotate_left
      · intro w'
        go_simp
        with_reducible rfl
      rotate_left
      · simp only [Act.put,List.setIfInBounds_toArray,List.set_cons_zero,List.set_cons_succ,i64_w,i32_w]
        rfl
      refine pure_ (i:=4) (N:=(some 25)) (v:=?_) (a':=?_) #[true,true,true,true,true,false,false,false,false,false,false,false,false,false] rfl rfl (by kernel_rfl) (fun _ _ _ h=>h) (Or.inl ⟨by rfl,?_⟩) ?_ ?_
      rotate_left
      · intro w'
        go_simp
        with_reducible rfl
      rotate_left
      · simp only [Act.put,List.setIfInBounds_toArray,List.set_cons_zero,List.set_cons_succ,i64_w,i32_w]
        rfl
      refine take_ (i:=5) (N:=(some 26)) (v:=?_) (a':=?_) #[true,true,true,true,true,true,false,false,false,false,false,false,false,false] rfl rfl (by kernel_rfl) (fun _ _ _ h=>h) (Or.inl ⟨by rfl,?_⟩) hHeld ?_ ?_
      rotate_left
      · intro w' s0
        obtain ⟨s1,s2,s3⟩:=s0
        go_simp
        with_reducible rfl
      rotate_left
      · simp only [Act.put,List.setIfInBounds_toArray,List.set_cons_zero,List.set_cons_succ,i64_w,i32_w]
        rfl
      refine take_ (i:=6) (N:=(some 27)) (v:=?_) (a':=?_) #[true,true,true,true,true,true,true,false,false,false,false,false,false,false] rfl rfl (by kernel_rfl) (fun _ _ _ h=>h) (Or.inl ⟨by rfl,?_⟩) hHeld ?_ ?_
      rotate_left
      · intro w' s0
        obtain ⟨s1,s2,s3⟩:=s0
        go_simp
        with_reducible rfl
      rotate_left
      · simp only [Act.put,List.setIfInBounds_toArray,List.set_cons_zero,List.set_cons_succ,i64_w,i32_w]
        rfl
      refine pure_ (i:=7) (N:=(some 28)) (v:=?_) (a':=?_) #[true,true,true,true,true,true,true,true,false,false,false,false,false,false] rfl rfl (by kernel_rfl) (fun _ _ _ h=>h) (Or.inl ⟨by rfl,?_⟩) ?_ ?_
      rotate_left
      · intro w'
        go_simp
        with_reducible rfl
      rotate_left
      · simp only [Act.put,List.setIfInBounds_toArray,List.set_cons_zero,List.set_cons_succ,i64_w,i32_w]
        rfl
      refine pure_ (i:=8) (N:=(some 29)) (v:=?_) (a':=?_) #[true,true,true,true,true,true,true,true,true,false,false,false,false,false] rfl rfl (by kernel_rfl) (fun _ _ _ h=>h) (Or.inl ⟨by rfl,?_⟩) ?_ ?_
      rotate_left
      · intro w'
        go_simp
        with_reducible rfl
      rotate_left
      · simp only [Act.put,List.setIfInBounds_toArray,List.set_cons_zero,List.set_cons_succ,i64_w,i32_w]
        rfl
      refine take_ (i:=9) (N:=(some 30)) (v:=?_) (a':=?_) #[true,true,true,true,true,true,true,true,true,true,false,false,false,false] rfl rfl (by kernel_rfl) (fun _ _ _ h=>h) (Or.inl ⟨by rfl,?_⟩) hHeld ?_ ?_
      rotate_left
      · intro w' s0
        obtain ⟨s1,s2,s3⟩:=s0
        go_simp
        with_reducible rfl
      rotate_left
      · simp only [Act.put,List.setIfInBounds_toArray,List.set_cons_zero,List.set_cons_succ,i64_w,i32_w]
        rfl
      refine one_ (i:=10) (N:=(some 31)) #[true,true,true,true,true,true,true,true,true,true,true,false,false,false] rfl rfl (by kernel_rfl) (by decide) (fun K hK=>?_)
      refine value_ (w1:=w0.alloc (.cells #[.int .i64 (rd ws (k : Int))] 3)) (v := .slice (some ⟨w0.heap.size,0,none⟩) 1 1) (by rfl) rfl ?hr10 ?_
      case hr10=>first|(go_simp;done)|(go_simp;rfl)
      have hal:=below_alloc (Below.refl w0.heap.size w0) (.cells #[.int .i64 (rd ws (k : Int))] 3)
      refine hK.out _ _ ⟨below_cell hal hHeld.1,below_cell hal hHeld.2.1,below_cellA hal hHeld.2.2⟩ (fun hHeld2=>?_)
      clear hK K
      refine norm_ (a':=?_) ?_ ?_
      rotate_left
      · show Act.put _ (some 31) _ = _
        simp only [Act.put,List.setIfInBounds_toArray,List.set_cons_zero,List.set_cons_succ,i64_w,i32_w]
        rfl
      refine one_ (i:=11) (N:=(some 32)) #[true,true,true,true,true,true,true,true,true,true,true,true,false,false] rfl rfl (by kernel_rfl) (by decide) (fun K hK=>?_)
      refine Kd.R_append_step (Kd.int .i64) (w0:=w) (W:=w0) w.heap.size (by rfl) (.tmp 26) (.tmp 31) 22 3 (.int .i64 0) 8 rfl Try.underlying22 info3 rfl (by decide) (by omega) (.slice Ar row.length cr) row (rd ws (k : Int)) [.int .i64 (rd ws (k : Int))] (fun b=>oki b ∨ wr.heap.size ≤ b) (fun _=>False) rfl rfl rfl (fun _ h=>h.elim) (fun b h => .inr (by rw [← HSz.out];exact h)) HRd.out HBd.out HBd.out.size (by have:=HLn.out;omega) ?_
      intro v5 w5 hR5 hB5 hg5 hat5
      obtain ⟨A5,c5,e5⟩:=Kd.R_slice hR5
      rw [List.length_append,List.length_singleton] at e5
      subst e5
      have HR5:=Aside0.mk hR5
      have HB5:=Aside0.mk hB5
      have hgne : some g ≠ (Value.slice Ar row.length cr).ownBlock:=fun e=>by have:=(HOk.out g (HRow.out.1 g e.symm)).2;exact this rfl
      have h5g : w5.heap[g]? = some (.cells cells 22 (0,0)):=(hg5.block g (blk_lt HGd.out) hgne).trans HGd.out
      have HH5:=Aside0.mk (Kd.H_grown HHd.out hg5 (fun b hb=>HRow.out.1 b hb))
      have hz1 : w5.cell? ⟨g,(rd l (k : Int)).toNat,none⟩ = some (.slice Ar row.length cr):=(World.cell?_of_block (w:=w0) (w':=w5) (a:=⟨g,(rd l (k : Int)).toNat,none⟩) (h5g.trans HGd.out.symm)).trans hHeld.1
      have hz2 : w5.frozen? ⟨g,(rd l (k : Int)).toNat,none⟩ = false:=blk_frozen h5g _
      clear hR5 hB5 hg5 hat5 h5g
      refine hK.out _ _ ⟨hz1,below_cell HB5.out hw,below_cellA (Below.refl _ _) (below_cellA HB5.out hx3w)⟩ (fun hHeld3=>?_)
      clear hK K
      refine norm_ (a':=?_) ?_ ?_
      rotate_left
      · show Act.put _ (some 32) _ = _
        simp only [Act.put,List.setIfInBounds_toArray,List.set_cons_zero,List.set_cons_succ,i64_w,i32_w]
        rfl
      refine pure_ (i:=12) (N:=(some 33)) (v:=?_) (a':=?_) #[true,true,true,true,true,true,true,true,true,true,true,true,true,false] rfl rfl (by kernel_rfl) (fun _ _ _ h=>h) (Or.inl ⟨by rfl,?_⟩) ?_ ?_
      rotate_left
      · intro w'
        go_simp
        with_reducible rfl
      rotate_left
      · simp only [Act.put,List.setIfInBounds_toArray,List.set_cons_zero,List.set_cons_succ,i64_w,i32_w]
        rfl
      refine last_ (i:=13) (N:=none) #[true,true,true,true,true,true,true,true,true,true,true,true,true,true] rfl rfl (by kernel_rfl) (by decide) (fun K hK=>?_)
      refine skip_ (w1:=w5.setCell ⟨g,(rd l (k : Int)).toNat,none⟩ (.slice A5 (row.length + 1) c5)) (by rfl) rfl ?hr13 ?_
      case hr13=>first|(go_simp;done)|(go_simp;rfl)
      refine hK.out _ _ ?_
      clear hK K
      have hS6:=(Kd.S_seg (okg:=fun b=>wr.heap.size ≤ b) (ok:=fun _=>True) HH5.out HG1.out HG2.out (seg:=[.slice A5 (row.length + 1) c5]) (j:=0) (Nat.le_refl 1) (x':=row ++ [rd ws (k : Int)]) ⟨_,rfl,HR5.out⟩ (fun b h=>h) (fun b h=>⟨trivial,fun e=>by have:=blk_lt hgb;have h : wr.heap.size ≤ b:=h;omega⟩)).1
      rw [show (rd l (k : Int)).toNat * (Kd.slice 3 (Kd.int .i64)).sz + 0 = (rd l (k : Int)).toNat from by rw [show (Kd.slice 3 (Kd.int .i64)).sz = 1 from rfl];omega,← HST.out] at hS6
      have HS6:=Aside0.mk (show Kd.S (Kd.slice 3 (Kd.int .i64)) 22 (w5.setCell ⟨g,(rd l (k : Int)).toNat,none⟩ (.slice A5 (row.length + 1) c5)) w.heap.size (fun _=>True) (.slice (some ⟨g,0,none⟩) n cap) (colsTo ws l n (k + 1)) from hS6)
      have HB6 : Aside0 (Below w.heap.size w (w5.setCell ⟨g,(rd l (k : Int)).toNat,none⟩ (.slice A5 (row.length + 1) c5))):=Aside0.mk (Below.setCell HB5.out HGb.out _)
      clear hS6
      refine done_ (by kernel_rfl) ?_
      go_wp2
      go_roundw
      case rel=>exact ⟨k + 1,by omega,by go_num,HS6,HB6⟩
      case measure=>simp [intOf];omega
    · have HO : Aside0 (Kd.S (Kd.slice 3 (Kd.int .i64)) 22 wr w.heap.size (fun _=>True) (.slice (some ⟨g,0,none⟩) n cap) (colsOf ws l n)):=Aside0.mk (by
        have:=ho.out
        rw [show k = l.length by omega] at this
        exact this)
      have HB:=hb
      clear ho hb
      have hcl:=cols_len ws l n l.length
      go_wp2
      go_loopw [9,37] (fun v9 v37 w' => ∃ j : Nat,j ≤ n ∧ v37 = .int .i64 j ∧ v9 = .int .i64 (mostTo ws l j) ∧ Aside0 (∀ i : Nat,i < j → (colOf ws l (i : Int)).length ≤ 4) ∧ Aside0 (Below wr.heap.size wr w')) (fun _ v37 _=>n - (intOf v37).toNat)
      case atStart=>exact ⟨0,Nat.zero_le _,rfl,rfl,Aside0.mk (fun i h=>absurd h (Nat.not_lt_zero i)),Aside0.mk (Below.refl _ _)⟩
      case round =>
        obtain ⟨j,hj,rfl,rfl,hfit,hb2⟩:=hrel
        by_cases hlt2 : j < n
        · obtain ⟨adj,Aj,cj,ej,hxj,hlj,hij⟩:=at_L1 (Kd.S_reads' (Kd.S_below HO.out hb2.out)).2.2 (j : Int) (by omega) (by rw [show (colsOf ws l n).length = n from hcl];omega)
          cases ej
          rw [show rd_L1 (colsOf ws l n) (j : Int) = colOf ws l (j : Int) from rd_cols ws l n _ j hlt2] at hxj hlj hij
          have hbd:=col_bd HW.out (show l.length ≤ ws.length by have:=HLW.out;omega) (j : Int)
          have hlen:=colTo_len ws l (j : Int) l.length
          have hms : mostTo ws l (j + 1) = mx (mostTo ws l j) (colSum ws l (j : Int)):=rfl
          unfold colSum at hms
          obtain ⟨col,hcol⟩ : ∃ col,colOf ws l (j : Int) = col:=⟨_,rfl⟩
          rw [show colTo ws l (j : Int) l.length = col from hcol] at hlen
          rw [hcol] at hxj hlj hij hbd hms
          rw [Int.toNat_natCast,add_plain] at hxj
          have HCOL:=Aside0.mk hcol
          obtain ⟨ks,hks⟩:=Ev.rounds (impl_sumC (show col.length ≤ 8 by omega) hbd)
          obtain ⟨sm,hsm⟩ : ∃ sm,tot col 0 col.length = sm:=⟨_,rfl⟩
          rw [hsm] at hks hms
          have HKS:=Aside0.mk hks
          have HMS:=Aside0.mk hms
          have HIJ:=Aside0.mk hij
          have HLJ:=Aside0.mk hlj
          have HFT:=hfit
          clear hbd hks hms hsm hij hlj hlen hcol hfit
          by_cases h4 : col.length ≤ 4
          · have d1 : decide (4 < (col.length : Int)) = false:=decide_eq_false (by omega)
            have d2 : decide (4 < col.length) = false:=decide_eq_false (by omega)
            have HF2 : Aside0 (∀ i : Nat,i < j + 1 → (colOf ws l (i : Int)).length ≤ 4):=Aside0.mk (fun i hi=>by
              by_cases e : i = j
              · subst e;rw [HCOL.out];exact h4
              · exact HFT.out i (by omega))
            by_cases h5 : mostTo ws l j < sm
            · have HM : Aside0 (mostTo ws l (j + 1) = sm):=Aside0.mk (by rw [HMS.out];exact if_pos h5)
              have d3 : decide (mostTo ws l j < sm) = true:=decide_eq_true h5
              have d4 : decide (sm < mostTo ws l j) = false:=decide_eq_false (by omega)
              go_wp2_with (go_at_call 53;refine (impl_sumOf.calls ks Aj cj col _ _ HIJ.out HLJ.out HKS.out).mono ?_;rintro e w3 ⟨rfl,hd3⟩;have HB3:=Aside0.mk (below_step hb2.out hd3.below);clear hd3)
              go_roundw
              case rel=>exact ⟨j + 1,by omega,by go_num,by rw [HM.out],HF2,HB3⟩
              case measure=>simp [intOf];omega
            · have HM : Aside0 (mostTo ws l (j + 1) = mostTo ws l j):=Aside0.mk (by rw [HMS.out];exact if_neg h5)
              have d3 : decide (mostTo ws l j < sm) = false:=decide_eq_false h5
              go_wp2_with (go_at_call 53;refine (impl_sumOf.calls ks Aj cj col _ _ HIJ.out HLJ.out HKS.out).mono ?_;rintro e w3 ⟨rfl,hd3⟩;have HB3:=Aside0.mk (below_step hb2.out hd3.below);clear hd3)
              go_roundw
              case rel=>exact ⟨j + 1,by omega,by go_num,by rw [HM.out],HF2,HB3⟩
              case measure=>simp [intOf];omega
          · have d1 : decide (4 < (col.length : Int)) = true:=decide_eq_true (by omega)
            have d2 : decide (4 < col.length) = true:=decide_eq_true (by omega)
            have HS : Aside0 (stepC ws n (best,least) l = (best,least)):=Aside0.mk (by
              unfold stepC
              exact chk_neg (fun m=>h4 (by have:=m j hlt2;rw [HCOL.out] at this;exact this)) _ _)
            go_wp2
            refine bodyPost_ret (results_none rfl _ _ _) rfl ?_
            rw [HS.out]
            exact ⟨rfl,HI.out.below HP.out (below_step HB.out hb2.out),Keeps.of_below (below_step HB.out hb2.out)⟩
        · obtain rfl : j = n:=by omega
          have HFit : Aside0 (Fits ws l j):=Aside0.mk (fun i hi=>hfit.out i hi)
          obtain ⟨m,hm⟩ : ∃ m,mostTo ws l j = m:=⟨_,rfl⟩
          rw [hm]
          have HBB:=Aside0.mk (below_step HB.out hb2.out)
          have HI2:=Aside0.mk (HI.out.below HP.out HBB.out)
          have HST : Aside0 (stepC ws j (best,least) l = if least < 0 ∨ m < least then (colsOf ws l j,m) else (best,least)):=Aside0.mk (by unfold stepC;rw [chk_pos HFit.out,hm])
          obtain ⟨u,hz⟩:=HI2.out.ready HP.out (.slice (some ⟨g,0,none⟩) j cap)
          have z1:=hz.l
          have z2:=hz.lf
          have z3:=hz.b
          have z4:=hz.bf
          have z5:=hz.l2
          have z6:=hz.l2f
          have HSN : Aside0 (Kd.S (Kd.slice 3 (Kd.int .i64)) 22 wr w.heap.size ok (.slice (some ⟨g,0,none⟩) j cap) (colsOf ws l j)):=Aside0.mk (Kd.S_mono (Kd.S_bound (Kd.S_below HO.out hb2.out)) (fun b hb=>HFR.out b hb.2.1))
          clear hz hm hfit hb2
          by_cases h0 : least < 0
          · have HS : Aside0 (stepC ws j (best,least) l = (colsOf ws l j,m)):=Aside0.mk (by rw [HST.out];exact if_pos (.inl h0))
            go_wp2
            go_end0
            have r:=HI2.out.put HP.out HBW.out HSN.out m
            rw [HS.out]
            exact ⟨rfl,r.1,(Keeps.of_below HBB.out).trans r.2⟩
          · have h0' : 0 ≤ least:=by omega
            by_cases h1 : m < least
            · have HS : Aside0 (stepC ws j (best,least) l = (colsOf ws l j,m)):=Aside0.mk (by rw [HST.out];exact if_pos (.inr h1))
              go_wp2
              go_end0
              have r:=HI2.out.put HP.out HBW.out HSN.out m
              rw [HS.out]
              exact ⟨rfl,r.1,(Keeps.of_below HBB.out).trans r.2⟩
            · have h1' : least ≤ m:=by omega
              have HS : Aside0 (stepC ws j (best,least) l = (best,least)):=Aside0.mk (by rw [HST.out];exact if_neg (fun h=>h.elim h0 h1))
              go_wp2
              go_end0
              rw [HS.out]
              exact ⟨rfl,HI2.out,Keeps.of_below HBB.out⟩
end Go.Proofs.Ytcgfedaoimhejaa.G

-- Written by wip/tools/gen.py out of the translation (the kit's printer, one namespace a seat). Lean checks it.
namespace Go.Proofs.Ytcgfedaoimhejaa.G
open Go.RowKit Go.Proofs.YtcgfedaoimhejaaW.PrintWords Go.Proofs.YtcgfedaoimhejaaW.PrintLast Go.Proofs.YtcgfedaoimhejaaW.PrintMore
attribute [local go_sem] max2_int min2_int max_two min_two max_three min_three max_four min_four   -- for this text's walks alone
set_option linter.unusedVariables false
set_option linter.unusedSimpArgs false

/-! ### impl_SplitColumns_1: function 60 -/
def impl_SplitColumns_1.f (a0:Int):Option (Bool):=(impl_within.f a0 1 32000).bind fun t102=>(some (!t102))
set_option maxHeartbeats 8000000 in
set_option maxRecDepth 100000 in
theorem impl_SplitColumns_1.calls (a0:Int) (r:Bool) (w:World) (h:impl_SplitColumns_1.f a0 = some r) :
  Calls Try.prog 60 #[.int .i64 a0] w fun e w'=>e = .returned (.bool r) ∧ Drawn0 w w':=by
 have H:((impl_within.f a0 1 32000).bind fun t102=>(some (!t102))) = some r:=h
 clear h;replace H:=Option.bind_eq_some_iff.mp H;obtain ⟨t102,A20,H⟩:=H;replace H:(some (!t102)) = some r:=H
 have A2:=zM A20;clear A20;obtain rfl:=Option.some.inj H;go_enter Try.func60,Try.ntmps60
 go_wp2_with (first|((with_reducible refine gate_callee (f:=58) rfl ?_);refine goesL_ (some 4) rfl rfl Try.func58 (by kernel_rfl) rfl #[.int .i64 a0,.int .i64 1,.int .i64 32000] rfl (by (try simp only [List.map_toArray,List.map_cons,List.map_nil]);first|done|rfl|(simp only [List.length_drop,List.length_take];rfl)) ?_;(with_reducible refine (impl_within.calls a0 1 32000 t102 _ A2.out).mono ?_);rintro e w' ⟨rfl,⟨nd,rfl⟩⟩;refine ⟨_,rfl,?_⟩))
 go_ret
 exact ⟨by first|rfl|(simp;done)|(simp [*];done),by repeat (first|exact Drawn0.refl _|apply Drawn0.step)⟩

end Go.Proofs.Ytcgfedaoimhejaa.G

/- The contract of slices.ContainsFunc at the test of SplitColumns. -/
namespace Go.Proofs.Ytcgfedaoimhejaa.G
open Go.RowKit Go.Proofs.YtcgfedaoimhejaaW.PrintWords Go.Proofs.YtcgfedaoimhejaaW.PrintLast
set_option linter.unusedVariables false
set_option linter.unusedSimpArgs false
def good60 (n : Int) : Bool:=decide (1 ≤ n ∧ n ≤ 32000)
def bad60 (l : List Int) : Nat → Nat → Int
  | 0,_ => -1
  | d + 1,i=>if good60 (rd l i) then bad60 l d (i + 1) else i
theorem bad60_iff (l : List Int) : ∀ d i,bad60 l d i ≥ 0 ↔ ¬ ∀ j : Nat,i ≤ j → j < i + d → good60 (rd l j) = true:=by
  intro d
  induction d with
  | zero=>intro i;simp [bad60];omega
  | succ d ih =>
    intro i
    unfold bad60
    split
    · rename_i h
      rw [ih (i + 1)]
      constructor
      · intro h1 h2
        exact h1 fun j a b=>h2 j (by omega) (by omega)
      · intro h1 h2
        refine h1 fun j a b=>?_
        by_cases e : j = i
        · rw [e];exact h
        · exact h2 j (by omega) (by omega)
    · rename_i h
      constructor
      · intro _ h2
        exact h (h2 i (by omega) (by omega))
      · intro _;omega
theorem lit60_eq (n : Int) : impl_SplitColumns_1.f n = some (!good60 n):=by
  unfold impl_SplitColumns_1.f impl_within.f good60
  by_cases h : n ≥ 1
  · simp [h]
  · simp [h]
set_option maxHeartbeats 2000000 in
set_option maxRecDepth 100000 in
theorem idx60 (A0 : Option Addr) (c0 : Nat) (l0 : List Int) (w : World) (hr0 : Kd.C (Kd.int .i64) w A0 l0.length l0) (hc0 : l0.length ≤ c0) :
    Calls Try.prog 78 #[.slice A0 l0.length c0,.func (.func 60) #[] #[]] w fun e w'=>e = .returned (.int .i64 (bad60 l0 l0.length 0)) ∧ Drawn0 w w':=by
  have hn : l0.length ≤ 9223372036854775807:=hr0.2.1
  have HR:=Aside0.mk hr0
  clear hr0
  have HN : Aside0 (bad60 l0 l0.length 0 = bad60 l0 (l0.length - 0) 0):=Aside0.mk rfl
  go_enter Try.func78,Try.ntmps78
  go_wp2
  go_loopw [8] (fun i w' => ∃ k : Nat,k ≤ l0.length ∧ i = .int .i64 k ∧ Aside0 (bad60 l0 l0.length 0 = bad60 l0 (l0.length - k) k) ∧ Drawn0 w w') (fun i _=>l0.length - (intOf i).toNat)
  case atStart=>exact ⟨0,Nat.zero_le _,rfl,HN,Drawn0.refl _⟩
  case round =>
    obtain ⟨k,hk,rfl,hb,hd⟩:=hrel
    by_cases hlt : k < l0.length
    · obtain ⟨ad,rfl,hx⟩:=Kd.at_int (Kd.C_below HR.out hd.below) (k : Int) (by omega) (by omega)
      rw [Int.toNat_natCast] at hx
      by_cases hg : good60 (rd l0 k) = true
      · have hs : Aside0 (bad60 l0 l0.length 0 = bad60 l0 (l0.length - (k + 1)) (k + 1)):=Aside0.mk (by
          rw [hb.out,show l0.length - k = (l0.length - (k + 1)) + 1 from by omega]
          conv=>lhs;unfold bad60
          rw [if_pos hg])
        have hf : Aside0 (impl_SplitColumns_1.f (rd l0 k) = some false):=Aside0.mk (by rw [lit60_eq,hg];rfl)
        clear hb hg
        go_wp2_with (go_at_call 60;refine (impl_SplitColumns_1.calls _ false _ hf.out).mono ?_;rintro e w' ⟨rfl,hd2⟩)
        go_roundw
        case rel=>exact ⟨k + 1,by omega,by go_num,hs,drawn_two hd hd2⟩
        case measure=>simp [intOf];omega
      · have hs : Aside0 (bad60 l0 l0.length 0 = (k : Int)):=Aside0.mk (by
          rw [hb.out,show l0.length - k = (l0.length - (k + 1)) + 1 from by omega]
          conv=>lhs;unfold bad60
          rw [if_neg hg])
        have hf : Aside0 (impl_SplitColumns_1.f (rd l0 k) = some true):=Aside0.mk (by rw [lit60_eq,Bool.eq_false_iff.2 hg];rfl)
        clear hb hg
        go_wp2_with (go_at_call 60;refine (impl_SplitColumns_1.calls _ true _ hf.out).mono ?_;rintro e w' ⟨rfl,hd2⟩)
        go_ret
        exact ⟨ret_int hs.out.symm,drawn_two hd hd2⟩
    · have hs : Aside0 (bad60 l0 l0.length 0 = -1):=Aside0.mk (by
        rw [hb.out,show l0.length - k = 0 from by omega];rfl)
      clear hb
      go_wp2
      go_ret
      exact ⟨ret_int hs.out.symm,hd⟩
def slices_ContainsFunc_int_int_60.f (l0 : List Int) : Option Bool:=some (decide (bad60 l0 l0.length 0 ≥ 0))
set_option maxHeartbeats 2000000 in
set_option maxRecDepth 100000 in
theorem slices_ContainsFunc_int_int_60.calls (A0 : Option Addr) (c0 : Nat) (l0 : List Int) (r : Bool) (w : World) (hr0 : Kd.C (Kd.int .i64) w A0 l0.length l0) (hc0 : l0.length ≤ c0) (h : slices_ContainsFunc_int_int_60.f l0 = some r) :
    Calls Try.prog 59 #[.slice A0 l0.length c0,.func (.func 60) #[] #[]] w fun e w'=>e = .returned (.bool r) ∧ Drawn0 w w':=by
  obtain rfl : decide (bad60 l0 l0.length 0 ≥ 0) = r:=Option.some.inj h
  have HR:=Aside0.mk hr0
  clear hr0 h
  go_enter Try.func59,Try.ntmps59
  go_wp2_with (go_at_call 78;refine (idx60 A0 c0 l0 _ HR.out hc0).mono ?_;rintro e w' ⟨rfl,hd⟩)
  go_ret
  exact ⟨rfl,hd⟩
end Go.Proofs.Ytcgfedaoimhejaa.G

/- The contract of SplitColumns: of valid weights and a number of columns, the first division whose greatest sum is smallest, and this sum. -/
namespace Go.Proofs.Ytcgfedaoimhejaa.G
open Go.RowKit Go.Proofs.YtcgfedaoimhejaaW.PrintWords Go.Proofs.YtcgfedaoimhejaaW.PrintLast Go.Proofs.YtcgfedaoimhejaaW.PrintMore
set_option linter.unusedVariables false
set_option linter.unusedSimpArgs false
theorem split_back {wc : World} {ws : List Int} {n : Nat} (hW : Wts ws) (hn : 1 ≤ n ∧ n ≤ 3) {Aw : Option Addr} {cw B Bn Bw Bl Bb : Nat} (hp : Places wc B Bn Bw Bl Bb) (hCw : Kd.C (Kd.int .i64) wc Aw ws.length ws) (hcw : ws.length ≤ cw) :
    Back (σ:=List (List Int) × Int) 62 #[.pointer (some ⟨Bn,0,none⟩),.pointer (some ⟨Bw,0,none⟩),.pointer (some ⟨Bl,0,none⟩),.pointer (some ⟨Bb,0,none⟩)] (fun k=>k = Bl ∨ k = Bb) B (SplitI wc ws n Aw cw Bn Bw Bl Bb) (fun l=>l.length = ws.length ∧ ∀ x ∈ l,0 ≤ x ∧ x < (n : Int)) (stepC ws n) where
  enters:=fun args w=>enters_ Try.func62 (by kernel_rfl) rfl args w
  call:=fun ok w s v l hI hP hfr hB hR=>split_call hW hn hp hCw hcw ok w s v l hI hP hfr hB hR
  stay:=fun ok w w' s T hI k hT=>hI.stay hp k hT
  mono:=fun ok ok' w s hI h=>by
    obtain ⟨v,hv,hr⟩:=hI.bb
    exact ⟨hI.old,hI.cn,hI.cw_,hI.bl,v,hv,Kd.S_mono (Kd.S_bound hr) (fun k hk=>h k hk.2.2.1 hk.1)⟩
  low:=fun k hk=>hk.elim (fun e=>by rw [e];exact hp.l.2) (fun e=>by rw [e];exact hp.bb.2)
theorem split_boxes {w w1 w2 w3 w4 : World} {g1 g2 g3 g4 : Nat} (A0 : Option Addr) (c0 : Nat) (l0 : List Int) (n : Nat)
    (h1 : g1 = w.heap.size) (x1 : w1.heap[g1]? = some (.cells #[.slice A0 l0.length c0] 22 (0,0))) (b1 : Below w.heap.size w w1)
    (h2 : g2 = w1.heap.size) (x2 : w2.heap[g2]? = some (.cells #[.int .i64 (n : Int)] 3 (0,0))) (b2 : Below w1.heap.size w1 w2)
    (h3 : w2.heap.size ≤ g3) (x3 : w3.heap[g3]? = some (.cells #[.slice none 0 0] 37 (0,0))) (b3 : Below w2.heap.size w2 w3)
    (h4 : g4 = w3.heap.size) (x4 : w4.heap[g4]? = some (.cells #[.int .i64 0] 3 (0,0))) (b4 : Below w3.heap.size w3 w4) :
    Places w (w4.setCell ⟨g4,0,none⟩ (.int .i64 (-1))).heap.size g2 g1 g4 g3 ∧ SplitI w l0 n A0 c0 g2 g1 g4 g3 (fun _=>True) (w4.setCell ⟨g4,0,none⟩ (.int .i64 (-1))) ([], -1) ∧ Below w.heap.size w (w4.setCell ⟨g4,0,none⟩ (.int .i64 (-1))):=by
  have s1:=b1.size
  have s2:=b2.size
  have s3:=b3.size
  have s4:=b4.size
  have l1:=blk_lt x1
  have l2:=blk_lt x2
  have l3:=blk_lt x3
  have l4:=blk_lt x4
  have hz : (w4.setCell ⟨g4,0,none⟩ (.int .i64 (-1))).heap.size = w4.heap.size:=by simp [World.setCell]
  have hB : Below w.heap.size w (w4.setCell ⟨g4,0,none⟩ (.int .i64 (-1))):=Below.setCell (below_step b1 (below_step b2 (below_step b3 b4))) (by show w.heap.size ≤ g4;omega) _
  have y1:=blk_below (blk_below (blk_below x1 b2) b3) b4
  have y2:=blk_below (blk_below x2 b3) b4
  have y3:=blk_below x3 b4
  refine ⟨⟨by omega,by omega,by omega,by omega,by omega,by omega⟩,⟨hB,?_,?_,blk_set x4 0 _,.slice none 0 0,?_,Kd.S_nil _ _ _ _ _⟩,hB⟩
  · exact (cell_far (p:=⟨g4,0,none⟩) (by show g2 ≠ g4;omega) _).trans ((blk_cell y2 0).trans rfl)
  · exact (cell_far (p:=⟨g4,0,none⟩) (by show g1 ≠ g4;omega) _).trans ((blk_cell y1 0).trans rfl)
  · exact (Below.heap_setCell w4 ⟨g4,0,none⟩ _ g3 (by show g3 ≠ g4;omega)).trans y3
theorem split_below {w w4 w5 : World} {a b : Nat} (h : Below w.heap.size w w4) (k : Keeps (fun k=>k = a ∨ k = b) w4 w5) (ha : w.heap.size ≤ a) (hb : w.heap.size ≤ b) : Below w.heap.size w w5 :=
  ⟨k.os.trans h.os,k.tape.trans h.tape,k.output.trans h.output,Nat.le_trans h.size k.size,fun i hi=>(k.block i (Nat.lt_of_lt_of_le hi h.size) (fun e=>by omega)).trans (h.block i hi)⟩
theorem chs_P {ws : List Int} (n : Nat) : ∀ l ∈ chs n ws.length [],l.length = ws.length ∧ ∀ x ∈ l,0 ≤ x ∧ x < (n : Int):=fun l hl=>by
  obtain ⟨q,e,hq⟩:=chs_begin n _ _ _ hl
  exact ⟨by rw [e,List.nil_append,hq],chs_in n _ _ _ hl (by simp)⟩
theorem cont60_eq (l : List Int) : slices_ContainsFunc_int_int_60.f l = some (chk (All (okW l) 0 (l.length : Int)) false true):=by
  unfold slices_ContainsFunc_int_int_60.f
  congr 1
  have hb : (bad60 l l.length 0 ≥ 0) ↔ ¬ All (okW l) 0 (l.length : Int):=by
    rw [bad60_iff]
    constructor
    · intro h a
      refine h fun j _ hj=>?_
      have:=a (j : Int) (by omega) (by omega)
      unfold okW at this
      unfold good60;exact decide_eq_true this
    · intro h a
      refine h fun j h0 hj=>?_
      have:=a j.toNat (by omega) (by omega)
      rw [show ((j.toNat : Nat) : Int) = j from by omega] at this
      unfold good60 at this
      have h':=of_decide_eq_true this
      exact h'
  by_cases ha : All (okW l) 0 (l.length : Int)
  · rw [chk_pos ha];exact decide_eq_false (fun x=>hb.1 x ha)
  · rw [chk_neg ha];exact decide_eq_true (hb.2 ha)
noncomputable def impl_SplitColumns.f (l0 : List Int) (a1 : Int) : Option (List (List Int) × Int × Bool):=some (splitR l0 a1)
set_option maxHeartbeats 4000000 in
set_option maxRecDepth 100000 in
theorem impl_SplitColumns.calls (A0 : Option Addr) (c0 : Nat) (l0 : List Int) (a1 : Int) (r1 : List (List Int)) (r2 : Int) (r3 : Bool) (w : World) (hr0 : Kd.C (Kd.int .i64) w A0 l0.length l0) (hc0 : l0.length ≤ c0) (h : impl_SplitColumns.f l0 a1 = some (r1,r2,r3)) :
    Calls Try.prog 26 #[.slice A0 l0.length c0,.int .i64 a1] w fun e w' => ∃ v0_ : Value,e = .returned (.tuple #[v0_,.int .i64 r2,.bool r3]) ∧ Kd.S (Kd.slice 3 (Kd.int .i64)) 22 w' w.heap.size (fun _=>True) v0_ r1 ∧ Below w.heap.size w w':=by
  have h:=Option.some.inj h
  unfold splitR at h
  have HR:=Aside0.mk hr0
  clear hr0
  by_cases hok : SplitOk l0 a1
  · rw [chk_pos hok] at h
    obtain ⟨n,rfl⟩ : ∃ n : Nat,a1 = (n : Int):=⟨a1.toNat,by have:=hok.2.1;omega⟩
    rw [Int.toNat_natCast] at h
    have hn : 1 ≤ n ∧ n ≤ 3:=by have:=hok.2.1;omega
    have h8:=hok.1.1
    have HW:=Aside0.mk hok.1
    have HF : Aside0 ((chs n l0.length []).foldl (stepC l0 n) ([], -1) = (r1,r2)):=Aside0.mk (by
      have e1:=congrArg Prod.fst h
      have e2:=congrArg (fun x=>x.2.1) h
      exact Prod.ext e1 e2)
    obtain rfl : true = r3:=congrArg (fun x=>x.2.2) h
    have hc : slices_ContainsFunc_int_int_60.f l0 = some false:=by rw [cont60_eq,chk_pos hok.1.2]
    have HCF:=Aside0.mk hc
    obtain ⟨hw1,hw2,hw3⟩ : decide (8 < (l0.length : Int)) = false ∧ decide (1 ≤ (n : Int)) = true ∧ decide ((n : Int) ≤ 3) = true:=⟨decide_eq_false (by omega),decide_eq_true (by omega),decide_eq_true (by omega)⟩
    have hmul : wrap64 ((n : Int) * 4) = (n : Int) * 4:=wrap64_id (by omega) (by omega)
    have hw4 : decide ((n : Int) * 4 < (l0.length : Int)) = false:=decide_eq_false (by have:=hok.2.2;omega)
    have hwi : impl_within.f (n : Int) 1 3 = some true:=by rw [impl_within_eq];congr 1;exact decide_eq_true (by omega)
    have HWI:=Aside0.mk hwi
    clear h hok hc hwi
    go_enter Try.func26,Try.ntmps26
    go_wp2_with (first|((with_reducible refine gate_dst (N:=2) rfl ?_);refine box_event ?hg2 (N:=2) ?hd2 (cs := #[.slice A0 l0.length c0]) (t:=22) ?hr2 ?_;(case hd2=>rfl);(case hg2=>rfl);(case hr2=>first|(go_simp;done)|(go_simp;rfl));intro g1 hgg1 w1 hboxg1 hbg1;have HX1:=Aside0.mk hboxg1;have HG1:=Aside0.mk hgg1;have HB1:=Aside0.mk hbg1;clear hgg1 hboxg1 hbg1)|((with_reducible refine gate_dst (N:=3) rfl ?_);refine box_event ?hg3 (N:=3) ?hd3 (cs := #[.int .i64 (n : Int)]) (t:=3) ?hr3 ?_;(case hd3=>rfl);(case hg3=>rfl);(case hr3=>first|(go_simp;done)|(go_simp;rfl));intro g2 hgg2 w2 hboxg2 hbg2;have HX2:=Aside0.mk hboxg2;have HG2:=Aside0.mk hgg2;have HB2:=Aside0.mk hbg2;have hy1 : w2.cell? ⟨g1,0,none⟩ = some (.slice A0 l0.length c0):=(blk_cell (blk_below HX1.out hbg2) 0).trans rfl;have hy2 : w2.cell? ⟨g2,0,none⟩ = some (.int .i64 (n : Int)):=(blk_cell hboxg2 0).trans rfl;clear hgg2 hboxg2 hbg2)|(go_at_call 58;refine (impl_within.calls (n : Int) 1 3 true _ HWI.out).mono ?_;rintro e wa ⟨rfl,hda⟩;have HBa:=Aside0.mk hda.below;have hya1:=below_cell hda.below hy1;have hya2:=below_cell hda.below hy2;clear hda)|(go_at_call 59;refine (slices_ContainsFunc_int_int_60.calls A0 c0 l0 false _ (Kd.C_below HR.out (below_step HB1.out (below_step HB2.out HBa.out))) hc0 HCF.out).mono ?_;rintro e wb ⟨rfl,hdb⟩;have HBb:=Aside0.mk hdb.below;have hyb1:=below_cell hdb.below hya1;have hyb2:=below_cell hdb.below hya2;clear hdb)|((with_reducible refine gate_dst (N:=7) rfl ?_);refine box_event ?hg7 (N:=7) ?hd7 (cs := #[.slice none 0 0]) (t:=37) ?hr7 ?_;(case hd7=>rfl);(case hg7=>rfl);(case hr7=>first|(go_simp;done)|(go_simp;rfl));intro g3 hgg3 w3 hboxg3 hbg3;have HX3:=Aside0.mk hboxg3;have HB3:=Aside0.mk (below_step HBa.out (below_step HBb.out hbg3));have HG3 : Aside0 (w2.heap.size ≤ g3):=Aside0.mk (by rw [hgg3];exact Nat.le_trans HBa.out.size HBb.out.size);clear hgg3 hboxg3 hbg3)|((with_reducible refine gate_dst (N:=8) rfl ?_);refine box_event ?hg8 (N:=8) ?hd8 (cs := #[.int .i64 0]) (t:=3) ?hr8 ?_;(case hd8=>rfl);(case hg8=>rfl);(case hr8=>first|(go_simp;done)|(go_simp;rfl));intro g4 hgg4 w4 hboxg4 hbg4;have HX4:=Aside0.mk hboxg4;have HG4:=Aside0.mk hgg4;have HB4:=Aside0.mk hbg4;have hz1 : w4.cell? ⟨g4,0,none⟩ = some (.int .i64 0):=(blk_cell hboxg4 0).trans rfl;have hz2:=blk_frozen hboxg4 0;have hz3:=(split_boxes A0 c0 l0 n HG1.out HX1.out HB1.out HG2.out HX2.out HB2.out HG3.out HX3.out HB3.out HG4.out HX4.out HB4.out).2.1.cw_;have hz4:=(split_boxes A0 c0 l0 n HG1.out HX1.out HB1.out HG2.out HX2.out HB2.out HG3.out HX3.out HB3.out HG4.out HX4.out HB4.out).2.1.cn;clear hgg4 hboxg4 hbg4)|(go_at_call 61;refine calls_of_args (args' := #[.int .i64 ((l0.length : Nat) : Int),.int .i64 (n : Int),.func (.func 62) #[] #[.pointer (some ⟨g2,0,none⟩),.pointer (some ⟨g1,0,none⟩),.pointer (some ⟨g4,0,none⟩),.pointer (some ⟨g3,0,none⟩)]]) ?ca ?_;(case ca=>(first|rfl|(simp;done)|(simp;omega)));refine (choices_any (split_back HW.out hn (split_boxes A0 c0 l0 n HG1.out HX1.out HB1.out HG2.out HX2.out HB2.out HG3.out HX3.out HB3.out HG4.out HX4.out HB4.out).1 HR.out hc0) l0.length n (by omega) (by omega) _ ([], -1) (fun _=>True) (chs_P n) (Nat.le_refl _) (split_boxes A0 c0 l0 n HG1.out HX1.out HB1.out HG2.out HX2.out HB2.out HG3.out HX3.out HB3.out HG4.out HX4.out HB4.out).2.1 (fun _ _=>trivial)).mono ?_;rintro e w5 ⟨rfl,hI5,hK5⟩;have HB5:=Aside0.mk (split_below (split_boxes A0 c0 l0 n HG1.out HX1.out HB1.out HG2.out HX2.out HB2.out HG3.out HX3.out HB3.out HG4.out HX4.out HB4.out).2.2 hK5 (split_boxes A0 c0 l0 n HG1.out HX1.out HB1.out HG2.out HX2.out HB2.out HG3.out HX3.out HB3.out HG4.out HX4.out HB4.out).1.l.1 (split_boxes A0 c0 l0 n HG1.out HX1.out HB1.out HG2.out HX2.out HB2.out HG3.out HX3.out HB3.out HG4.out HX4.out HB4.out).1.bb.1);rw [HF.out] at hI5;obtain ⟨v5,hv5,hr5⟩:=hI5.bb;have HR5:=Aside0.mk hr5;have hz5 : w5.cell? ⟨g4,0,none⟩ = some (.int .i64 r2):=(blk_cell hI5.bl 0).trans rfl;have hz6 : w5.cell? ⟨g3,0,none⟩ = some v5:=(blk_cell hv5 0).trans rfl;clear hI5 hv5 hr5 hK5))
    repeat (go_quiet (fail);try go_wp2)
    go_ret3
    exact ⟨_,rfl,by (with_reducible repeat (first|apply Kd.S_alloc|apply Kd.S_drewN|apply Kd.S_drew));exact HR5.out,by repeat (first|(with_reducible first|exact HB5.out|apply below_alloc|apply pw_below_drewN|apply below_drew1)|exact HB5.out)⟩
  · rw [chk_neg hok] at h
    obtain ⟨rfl,h2⟩:=Prod.mk.inj h
    obtain ⟨rfl,rfl⟩:=Prod.mk.inj h2
    clear h h2
    by_cases h1 : 8 < (l0.length : Int)
    · have c1 : decide (8 < (l0.length : Int)) = true:=decide_eq_true h1
      clear hok h1
      go_enter Try.func26,Try.ntmps26
      go_wp2_with (first|((with_reducible refine gate_dst (N:=2) rfl ?_);refine box_event ?hg2 (N:=2) ?hd2 (cs := #[.slice A0 l0.length c0]) (t:=22) ?hr2 ?_;(case hd2=>rfl);(case hg2=>rfl);(case hr2=>first|(go_simp;done)|(go_simp;rfl));intro g1 hgg1 w1 hboxg1 hbg1;have HX1:=Aside0.mk hboxg1;have HG1:=Aside0.mk hgg1;have HB1:=Aside0.mk hbg1;clear hgg1 hboxg1 hbg1)|((with_reducible refine gate_dst (N:=3) rfl ?_);refine box_event ?hg3 (N:=3) ?hd3 (cs := #[.int .i64 a1]) (t:=3) ?hr3 ?_;(case hd3=>rfl);(case hg3=>rfl);(case hr3=>first|(go_simp;done)|(go_simp;rfl));intro g2 hgg2 w2 hboxg2 hbg2;have HX2:=Aside0.mk hboxg2;have HG2:=Aside0.mk hgg2;have HB2:=Aside0.mk hbg2;have hy1 : w2.cell? ⟨g1,0,none⟩ = some (.slice A0 l0.length c0):=(blk_cell (blk_below HX1.out hbg2) 0).trans rfl;have hy2 : w2.cell? ⟨g2,0,none⟩ = some (.int .i64 a1):=(blk_cell hboxg2 0).trans rfl;clear hgg2 hboxg2 hbg2))
      go_ret3
      exact ⟨_,rfl,Kd.S_nil _ _ _ _ _,below_step HB1.out HB2.out⟩
    · have c1 : decide (8 < (l0.length : Int)) = false:=decide_eq_false h1
      by_cases h2 : 1 ≤ a1 ∧ a1 ≤ 3
      · have hwi : impl_within.f a1 1 3 = some true:=by rw [impl_within_eq];congr 1;exact decide_eq_true h2
        have HWI:=Aside0.mk hwi
        have hmul : wrap64 (a1 * 4) = a1 * 4:=wrap64_id (by omega) (by omega)
        clear hwi
        by_cases h3 : a1 * 4 < (l0.length : Int)
        · have c3 : decide (a1 * 4 < (l0.length : Int)) = true:=decide_eq_true h3
          clear hok h1 h2 h3
          go_enter Try.func26,Try.ntmps26
          go_wp2_with (first|((with_reducible refine gate_dst (N:=2) rfl ?_);refine box_event ?hg2 (N:=2) ?hd2 (cs := #[.slice A0 l0.length c0]) (t:=22) ?hr2 ?_;(case hd2=>rfl);(case hg2=>rfl);(case hr2=>first|(go_simp;done)|(go_simp;rfl));intro g1 hgg1 w1 hboxg1 hbg1;have HX1:=Aside0.mk hboxg1;have HG1:=Aside0.mk hgg1;have HB1:=Aside0.mk hbg1;clear hgg1 hboxg1 hbg1)|((with_reducible refine gate_dst (N:=3) rfl ?_);refine box_event ?hg3 (N:=3) ?hd3 (cs := #[.int .i64 a1]) (t:=3) ?hr3 ?_;(case hd3=>rfl);(case hg3=>rfl);(case hr3=>first|(go_simp;done)|(go_simp;rfl));intro g2 hgg2 w2 hboxg2 hbg2;have HX2:=Aside0.mk hboxg2;have HG2:=Aside0.mk hgg2;have HB2:=Aside0.mk hbg2;have hy1 : w2.cell? ⟨g1,0,none⟩ = some (.slice A0 l0.length c0):=(blk_cell (blk_below HX1.out hbg2) 0).trans rfl;have hy2 : w2.cell? ⟨g2,0,none⟩ = some (.int .i64 a1):=(blk_cell hboxg2 0).trans rfl;clear hgg2 hboxg2 hbg2)|(go_at_call 58;refine (impl_within.calls a1 1 3 true _ HWI.out).mono ?_;rintro e wa ⟨rfl,hda⟩;have HBa:=Aside0.mk hda.below;have hya1:=below_cell hda.below hy1;have hya2:=below_cell hda.below hy2;clear hda))
          go_ret3
          exact ⟨_,rfl,Kd.S_nil _ _ _ _ _,below_step HB1.out (below_step HB2.out HBa.out)⟩
        · have c3 : decide (a1 * 4 < (l0.length : Int)) = false:=decide_eq_false h3
          have hcf : slices_ContainsFunc_int_int_60.f l0 = some true:=by
            rw [cont60_eq,chk_neg (fun m=>hok ⟨⟨by omega,m⟩,h2,by omega⟩)]
          have HCF:=Aside0.mk hcf
          clear hok h1 h2 h3 hcf
          go_enter Try.func26,Try.ntmps26
          go_wp2_with (first|((with_reducible refine gate_dst (N:=2) rfl ?_);refine box_event ?hg2 (N:=2) ?hd2 (cs := #[.slice A0 l0.length c0]) (t:=22) ?hr2 ?_;(case hd2=>rfl);(case hg2=>rfl);(case hr2=>first|(go_simp;done)|(go_simp;rfl));intro g1 hgg1 w1 hboxg1 hbg1;have HX1:=Aside0.mk hboxg1;have HG1:=Aside0.mk hgg1;have HB1:=Aside0.mk hbg1;clear hgg1 hboxg1 hbg1)|((with_reducible refine gate_dst (N:=3) rfl ?_);refine box_event ?hg3 (N:=3) ?hd3 (cs := #[.int .i64 a1]) (t:=3) ?hr3 ?_;(case hd3=>rfl);(case hg3=>rfl);(case hr3=>first|(go_simp;done)|(go_simp;rfl));intro g2 hgg2 w2 hboxg2 hbg2;have HX2:=Aside0.mk hboxg2;have HG2:=Aside0.mk hgg2;have HB2:=Aside0.mk hbg2;have hy1 : w2.cell? ⟨g1,0,none⟩ = some (.slice A0 l0.length c0):=(blk_cell (blk_below HX1.out hbg2) 0).trans rfl;have hy2 : w2.cell? ⟨g2,0,none⟩ = some (.int .i64 a1):=(blk_cell hboxg2 0).trans rfl;clear hgg2 hboxg2 hbg2)|(go_at_call 58;refine (impl_within.calls a1 1 3 true _ HWI.out).mono ?_;rintro e wa ⟨rfl,hda⟩;have HBa:=Aside0.mk hda.below;have hya1:=below_cell hda.below hy1;have hya2:=below_cell hda.below hy2;clear hda)|(go_at_call 59;refine (slices_ContainsFunc_int_int_60.calls A0 c0 l0 true _ (Kd.C_below HR.out (below_step HB1.out (below_step HB2.out HBa.out))) hc0 HCF.out).mono ?_;rintro e wb ⟨rfl,hdb⟩;have HBb:=Aside0.mk hdb.below;have hyb1:=below_cell hdb.below hya1;have hyb2:=below_cell hdb.below hya2;clear hdb))
          go_ret3
          exact ⟨_,rfl,Kd.S_nil _ _ _ _ _,below_step HB1.out (below_step HB2.out (below_step HBa.out HBb.out))⟩
      · have hwi : impl_within.f a1 1 3 = some false:=by rw [impl_within_eq];congr 1;exact decide_eq_false h2
        have HWI:=Aside0.mk hwi
        clear hok h1 h2 hwi
        go_enter Try.func26,Try.ntmps26
        go_wp2_with (first|((with_reducible refine gate_dst (N:=2) rfl ?_);refine box_event ?hg2 (N:=2) ?hd2 (cs := #[.slice A0 l0.length c0]) (t:=22) ?hr2 ?_;(case hd2=>rfl);(case hg2=>rfl);(case hr2=>first|(go_simp;done)|(go_simp;rfl));intro g1 hgg1 w1 hboxg1 hbg1;have HX1:=Aside0.mk hboxg1;have HG1:=Aside0.mk hgg1;have HB1:=Aside0.mk hbg1;clear hgg1 hboxg1 hbg1)|((with_reducible refine gate_dst (N:=3) rfl ?_);refine box_event ?hg3 (N:=3) ?hd3 (cs := #[.int .i64 a1]) (t:=3) ?hr3 ?_;(case hd3=>rfl);(case hg3=>rfl);(case hr3=>first|(go_simp;done)|(go_simp;rfl));intro g2 hgg2 w2 hboxg2 hbg2;have HX2:=Aside0.mk hboxg2;have HG2:=Aside0.mk hgg2;have HB2:=Aside0.mk hbg2;have hy1 : w2.cell? ⟨g1,0,none⟩ = some (.slice A0 l0.length c0):=(blk_cell (blk_below HX1.out hbg2) 0).trans rfl;have hy2 : w2.cell? ⟨g2,0,none⟩ = some (.int .i64 a1):=(blk_cell hboxg2 0).trans rfl;clear hgg2 hboxg2 hbg2)|(go_at_call 58;refine (impl_within.calls a1 1 3 false _ HWI.out).mono ?_;rintro e wa ⟨rfl,hda⟩;have HBa:=Aside0.mk hda.below;have hya1:=below_cell hda.below hy1;have hya2:=below_cell hda.below hy2;clear hda))
        go_ret3
        exact ⟨_,rfl,Kd.S_nil _ _ _ _ _,below_step HB1.out (below_step HB2.out HBa.out)⟩
end Go.Proofs.Ytcgfedaoimhejaa.G

-- Written by wip/tools/gen.py out of the translation (the kit's printer, one namespace a seat). Lean checks it.
namespace Go.Proofs.Ytcgfedaoimhejaa.G
open Go.RowKit Go.Proofs.YtcgfedaoimhejaaW.PrintWords Go.Proofs.YtcgfedaoimhejaaW.PrintLast Go.Proofs.YtcgfedaoimhejaaW.PrintMore
attribute [local go_sem] max2_int min2_int max_two min_two max_three min_three max_four min_four   -- for this text's walks alone
set_option linter.unusedVariables false
set_option linter.unusedSimpArgs false

/-! ### laws_FnColumns: function 10 -/
mutual
noncomputable def laws_FnColumns.j0:Nat → List Int → List Int → Int → Bool → Bool → Int → Int → Int → Option (Bool)
 | 0,_,_,_,_,_,_,_,_=>none
 | k + 1,x0,x3,x5,x6,x62,x1028000,x1028001,x1028002=>if x62 = true then (some false) else (if x6 = true then (laws_FnColumns.j1 k x0 x3 x5 x6 (decide (x5 > 0)) x1028000 x1028001 x1028002) else (laws_FnColumns.j1 k x0 x3 x5 x6 false x1028000 x1028001 x1028002))
noncomputable def laws_FnColumns.j1:Nat → List Int → List Int → Int → Bool → Bool → Int → Int → Int → Option (Bool)
 | 0,_,_,_,_,_,_,_,_=>none
 | k + 1,x0,x3,x5,x6,x67,x1028000,x1028001,x1028002=>if x67 = true then ((impl_AddOnTop.f k x3 x5 x1028000 x1028001 x1028002).bind fun bt1032=>(if bt1032.2 = true then (laws_FnColumns.j2 k x0 x3 x5 x6 x1028000 x1028001 x1028002) else (some false))) else (laws_FnColumns.j2 k x0 x3 x5 x6 x1028000 x1028001 x1028002)
noncomputable def laws_FnColumns.j2:Nat → List Int → List Int → Int → Bool → Int → Int → Int → Option (Bool)
 | 0,_,_,_,_,_,_,_=>none
 | k + 1,x0,x3,x5,x6,x1028000,x1028001,x1028002=>if x6 = true then ((impl_AddOnTop.f k x3 (wrap64 (x5 + 1)) x1028000 x1028001 x1028002).bind fun bt1036=>(if bt1036.2 = true then (some false) else (laws_FnColumns.j3 k x0))) else (laws_FnColumns.j3 k x0)
noncomputable def laws_FnColumns.j3:Nat → List Int → Option (Bool)
 | 0,_=>none
 | k + 1,x0=>(spec_DrawSplitColumns.f k x0).bind fun bt1040=>((impl_SplitColumns.f bt1040.1 bt1040.2).bind fun bt1044=>((spec_SplitColumns.f k bt1040.1 bt1040.2).bind fun bt1049=>(if (bt1044.2.2 != bt1049.2.2) = true then (laws_FnColumns.j4 k x0 bt1040.1 bt1040.2 bt1044.1 bt1044.2.1 bt1044.2.2 true) else (if bt1044.2.1 = bt1049.2.1 then ((laws_rTable.f k bt1044.1 bt1049.1).bind fun t1054=>(laws_FnColumns.j4 k x0 bt1040.1 bt1040.2 bt1044.1 bt1044.2.1 bt1044.2.2 (!t1054))) else (laws_FnColumns.j4 k x0 bt1040.1 bt1040.2 bt1044.1 bt1044.2.1 bt1044.2.2 true)))))
noncomputable def laws_FnColumns.j4:Nat → List Int → List Int → Int → List (List Int) → Int → Bool → Bool → Option (Bool)
 | 0,_,_,_,_,_,_,_=>none
 | k + 1,x0,x13,x14,x15,x16,x17,x119=>if x119 = true then (some false) else (if x17 = true then (laws_FnColumns.l0 k x0 x13 x14 x15 x16 0 0 0 0) else (laws_FnColumns.j6 k x0))
noncomputable def laws_FnColumns.j6:Nat → List Int → Option (Bool)
 | 0,_=>none
 | k + 1,x0=>(spec_DrawAddOnTop.f k x0).bind fun bt1061=>((impl_AddOnTop.f k bt1061.1 bt1061.2.1 bt1061.2.2.1 bt1061.2.2.2.1 bt1061.2.2.2.2).bind fun bt1069=>((spec_AddOnTop.f k bt1061.1 bt1061.2.1 bt1061.2.2.1 bt1061.2.2.2.1 bt1061.2.2.2.2).bind fun bt1073=>(if (bt1069.2 != bt1073.2) = true then (laws_FnColumns.j7 k bt1061.1 bt1061.2.1 bt1069.1 bt1069.2 true bt1061.2.2.1 bt1061.2.2.2.1 bt1061.2.2.2.2) else ((laws_rInts.f k bt1069.1 bt1073.1).bind fun t1077=>(laws_FnColumns.j7 k bt1061.1 bt1061.2.1 bt1069.1 bt1069.2 (!t1077) bt1061.2.2.1 bt1061.2.2.2.1 bt1061.2.2.2.2)))))
noncomputable def laws_FnColumns.j7:Nat → List Int → Int → List Int → Bool → Bool → Int → Int → Int → Option (Bool)
 | 0,_,_,_,_,_,_,_,_=>none
 | k + 1,x26,x27,x29,x30,x208,x1069000,x1069001,x1069002=>if x208 = true then (some false) else (if x30 = true then ((impl_ColumnWeight.f k x29 x1069000 x1069001 x1069002).bind fun bt1078=>(if bt1078.2.2 = true then (if bt1078.2.1 = true then ((laws_rSum.f k x26).bind fun t1081=>(if bt1078.1 = (wrap64 (t1081 + x27)) then (some true) else (some false))) else (some false)) else (some false))) else (some true))
noncomputable def laws_FnColumns.l0:Nat → List Int → List Int → Int → List (List Int) → Int → Int → Int → Int → Int → Option (Bool)
 | 0,_,_,_,_,_,_,_,_,_=>none
 | k + 1,x0,x13,x14,x15,x16,x21,x22,x23,x24=>if x24 < (x15.length:Int) then (if 0 ≤ x24 then ((laws_rSum.f k (rd_L1 x15 x24)).bind fun t1057=>(if t1057 > x22 then (if ((rd_L1 x15 x24).length:Int) > 4 then (some false) else (laws_FnColumns.l0 k x0 x13 x14 x15 x16 (wrap64 (x21 + t1057)) t1057 (wrap64 (x23 + ((rd_L1 x15 x24).length:Int))) (wrap64 (x24 + 1)))) else (if ((rd_L1 x15 x24).length:Int) > 4 then (some false) else (laws_FnColumns.l0 k x0 x13 x14 x15 x16 (wrap64 (x21 + t1057)) x22 (wrap64 (x23 + ((rd_L1 x15 x24).length:Int))) (wrap64 (x24 + 1)))))) else (none)) else ((laws_rSum.f k x13).bind fun t1055=>(if x21 = t1055 then (if x23 = (x13.length:Int) then (if x22 = x16 then (if (wrap64 (x16 * x14)) < x21 then (some false) else (if (x15.length:Int) = x14 then (laws_FnColumns.j6 k x0) else (some false))) else (some false)) else (some false)) else (some false)))
end
noncomputable def laws_FnColumns.f (k:Nat) (l0:List Int):Option (Bool):=(laws_rBig.f l0).bind fun t1020=>(if t1020 = true then (some true) else ((spec_DrawRoomFor.f k l0).bind fun bt1021=>((impl_RoomFor.f k bt1021.1 bt1021.2.1 bt1021.2.2.1 bt1021.2.2.2).bind fun bt1028=>((spec_RoomFor.f k bt1021.1 bt1021.2.1 bt1021.2.2.1 bt1021.2.2.2).bind fun bt1030=>(if bt1028.1 = bt1030.1 then (laws_FnColumns.j0 k l0 bt1021.1 bt1028.1 bt1028.2 (bt1028.2 != bt1030.2) bt1021.2.1 bt1021.2.2.1 bt1021.2.2.2) else (laws_FnColumns.j0 k l0 bt1021.1 bt1028.1 bt1028.2 true bt1021.2.1 bt1021.2.2.1 bt1021.2.2.2))))))
set_option maxHeartbeats 8000000 in
set_option maxRecDepth 100000 in
theorem laws_FnColumns.calls (k:Nat) (A0:Option Addr) (c0:Nat) (l0:List Int) (r:Bool) (w:World) (hr0:Kd.C (Kd.int .u8) w A0 l0.length l0) (hc0:l0.length ≤ c0) (h:laws_FnColumns.f k l0 = some r) :
  Calls Try.prog 10 #[.slice A0 l0.length c0] w fun e w'=>e = .returned (.bool r) ∧ Below w.heap.size w w':=by
 have hu28:=Try.underlying28;have HR0:=zM hr0;have HC0:=zM hc0;clear hr0 hc0;have HB:=zM (Below.refl w.heap.size w);have H:((laws_rBig.f l0).bind fun t1020=>(if t1020 = true then (some true) else ((spec_DrawRoomFor.f k l0).bind fun bt1021=>((impl_RoomFor.f k bt1021.1 bt1021.2.1 bt1021.2.2.1 bt1021.2.2.2).bind fun bt1028=>((spec_RoomFor.f k bt1021.1 bt1021.2.1 bt1021.2.2.1 bt1021.2.2.2).bind fun bt1030=>(if bt1028.1 = bt1030.1 then (laws_FnColumns.j0 k l0 bt1021.1 bt1028.1 bt1028.2 (bt1028.2 != bt1030.2) bt1021.2.1 bt1021.2.2.1 bt1021.2.2.2) else (laws_FnColumns.j0 k l0 bt1021.1 bt1028.1 bt1028.2 true bt1021.2.1 bt1021.2.2.1 bt1021.2.2.2))))))) = some r:=h
 clear h;replace H:=Option.bind_eq_some_iff.mp H;obtain ⟨t1020,A20,H⟩:=H;replace H:(if t1020 = true then (some true) else ((spec_DrawRoomFor.f k l0).bind fun bt1021=>((impl_RoomFor.f k bt1021.1 bt1021.2.1 bt1021.2.2.1 bt1021.2.2.2).bind fun bt1028=>((spec_RoomFor.f k bt1021.1 bt1021.2.1 bt1021.2.2.1 bt1021.2.2.2).bind fun bt1030=>(if bt1028.1 = bt1030.1 then (laws_FnColumns.j0 k l0 bt1021.1 bt1028.1 bt1028.2 (bt1028.2 != bt1030.2) bt1021.2.1 bt1021.2.2.1 bt1021.2.2.2) else (laws_FnColumns.j0 k l0 bt1021.1 bt1028.1 bt1028.2 true bt1021.2.1 bt1021.2.2.1 bt1021.2.2.2)))))) = some r:=H
 have A2:=zM A20;clear A20;by_cases c3:t1020 = true
 ·as_aux_lemma =>
  subst c3;have H1:(some true) = some r:=by rw [if_pos rfl] at H;exact H
  clear H;have H:=H1;clear H1;obtain rfl:=Option.some.inj H;go_enter Try.func10,Try.ntmps10
  go_wp2_with (first|((with_reducible refine gate_callee (f:=34) rfl ?_);refine goesL_ (some 37) rfl rfl Try.func34 (by kernel_rfl) rfl #[.slice A0 l0.length c0] rfl (by (try simp only [List.map_toArray,List.map_cons,List.map_nil]);first|done|rfl|(simp only [List.length_drop,List.length_take];rfl)) ?_;(with_reducible refine (laws_rBig.calls _ _ l0 true _ ?side1 ?side2 A2.out).mono ?_);(case side1=>repeat (first|exact HR0.out|(with_reducible first|refine zG ?_ _|refine zH ?_ _|refine zI ?_)));(case side2=>exact HC0.out);rintro e w' ⟨rfl,⟨nd,rfl⟩⟩;refine ⟨_,rfl,?_⟩))
  go_ret
  exact ⟨by first|rfl|(simp [errW_none,errW_some] <;> rfl)|(simp [*,errW_none,errW_some] <;> rfl),by repeat (first|(with_reducible first|exact HB.out|apply zD|apply zE|apply zF)|exact HB.out)⟩
 ·as_aux_lemma =>
  replace c3:=Bool.eq_false_iff.mpr c3;subst c3;have H1:((spec_DrawRoomFor.f k l0).bind fun bt1021=>((impl_RoomFor.f k bt1021.1 bt1021.2.1 bt1021.2.2.1 bt1021.2.2.2).bind fun bt1028=>((spec_RoomFor.f k bt1021.1 bt1021.2.1 bt1021.2.2.1 bt1021.2.2.2).bind fun bt1030=>(if bt1028.1 = bt1030.1 then (laws_FnColumns.j0 k l0 bt1021.1 bt1028.1 bt1028.2 (bt1028.2 != bt1030.2) bt1021.2.1 bt1021.2.2.1 bt1021.2.2.2) else (laws_FnColumns.j0 k l0 bt1021.1 bt1028.1 bt1028.2 true bt1021.2.1 bt1021.2.2.1 bt1021.2.2.2))))) = some r:=by rw [if_neg (show ¬ (false = true) by decide)] at H;exact H
  clear H;have H:=H1;clear H1;replace H:=Option.bind_eq_some_iff.mp H;obtain ⟨⟨t1021,t1024,t1025,t1026⟩,A40,H⟩:=H;replace H:((impl_RoomFor.f k t1021 t1024 t1025 t1026).bind fun bt1028=>((spec_RoomFor.f k t1021 t1024 t1025 t1026).bind fun bt1030=>(if bt1028.1 = bt1030.1 then (laws_FnColumns.j0 k l0 t1021 bt1028.1 bt1028.2 (bt1028.2 != bt1030.2) t1024 t1025 t1026) else (laws_FnColumns.j0 k l0 t1021 bt1028.1 bt1028.2 true t1024 t1025 t1026)))) = some r:=H
  have A4:=zM A40;clear A40;replace H:=Option.bind_eq_some_iff.mp H;obtain ⟨⟨t1028,t1029⟩,A50,H⟩:=H;replace H:((spec_RoomFor.f k t1021 t1024 t1025 t1026).bind fun bt1030=>(if t1028 = bt1030.1 then (laws_FnColumns.j0 k l0 t1021 t1028 t1029 (t1029 != bt1030.2) t1024 t1025 t1026) else (laws_FnColumns.j0 k l0 t1021 t1028 t1029 true t1024 t1025 t1026))) = some r:=H
  have A5:=zM A50;clear A50;replace H:=Option.bind_eq_some_iff.mp H;obtain ⟨⟨t1030,t1031⟩,A60,H⟩:=H;replace H:(if t1028 = t1030 then (laws_FnColumns.j0 k l0 t1021 t1028 t1029 (t1029 != t1031) t1024 t1025 t1026) else (laws_FnColumns.j0 k l0 t1021 t1028 t1029 true t1024 t1025 t1026)) = some r:=H
  have A6:=zM A60;clear A60;have HC7:=zM H;clear H;go_enter Try.func10,Try.ntmps10
  go_upto_region 6 with (first|((with_reducible refine gate_callee (f:=34) rfl ?_);refine goesL_ (some 37) rfl rfl Try.func34 (by kernel_rfl) rfl #[.slice A0 l0.length c0] rfl (by (try simp only [List.map_toArray,List.map_cons,List.map_nil]);first|done|rfl|(simp only [List.length_drop,List.length_take];rfl)) ?_;(with_reducible refine (laws_rBig.calls _ _ l0 false _ ?side1 ?side2 A2.out).mono ?_);(case side1=>repeat (first|exact HR0.out|(with_reducible first|refine zG ?_ _|refine zH ?_ _|refine zI ?_)));(case side2=>exact HC0.out);rintro e w' ⟨rfl,⟨nd,rfl⟩⟩;refine ⟨_,rfl,?_⟩)|((with_reducible refine gate_callee (f:=35) rfl ?_);refine goesL_ (some 40) rfl rfl Try.func35 (by kernel_rfl) rfl #[.slice A0 l0.length c0] rfl (by (try simp only [List.map_toArray,List.map_cons,List.map_nil]);first|done|rfl|(simp only [List.length_drop,List.length_take];rfl)) ?_;(with_reducible refine (spec_DrawRoomFor.calls k _ _ l0 t1021 t1024 t1025 t1026 _ ?side1 ?side2 A4.out).mono ?_);(case side1=>repeat (first|exact HR0.out|(with_reducible first|refine zG ?_ _|refine zH ?_ _|refine zI ?_)));(case side2=>exact HC0.out);rintro e w8 ⟨v1022,rfl,ho0,hb⟩;refine ⟨_,rfl,?_⟩;have n0_:=zM (Kd.R_lower ho0 (zR (by repeat (first|(with_reducible first|exact HB.out|apply zD|apply zE|apply zF)|exact HB.out))));have n1_:=zM (zQ (by repeat (first|(with_reducible first|exact HB.out|apply zD|apply zE|apply zF)|exact HB.out)) hb);clear HB;have HO1023:=n0_;have HB:=n1_;clear n0_ n1_;(try clear hb);(try clear hb2);(try clear hk);(try clear hi);(try clear ho0))|((with_reducible refine gate_dst (N:=4) rfl ?_);(try (refine gate_guard (by rfl) ?_;dsimp only));refine box_event ?hg (N:=4) ?hd (cs := #[.int .i64 0,.int .i64 0,.int .i64 0]) (t:=28) ?hr ?_;(case hd=>rfl);(case hg=>rfl);(case hr=>first|(go_simp;done)|(go_simp;rfl));intro gb1027 hg w9 hbox hb;have n0_:=zM (zP (by (with_reducible repeat (first|apply zA|apply zB|apply zC));exact HO1023.out) hb);have n1_:=zM (zQ (by repeat (first|(with_reducible first|exact HB.out|apply zD|apply zE|apply zF)|exact HB.out)) hb);have n2_:=zM (hbox);have n3_:=zM ((by rw [hg];exact (zR (by repeat (first|(with_reducible first|exact HB.out|apply zD|apply zE|apply zF)|exact HB.out))):w.heap.size ≤ gb1027));have n4_:=zM ((by rw [hg];exact (zR (by repeat (first|(with_reducible first|exact HB.out|apply zD|apply zE|apply zF)|exact HB.out))):w.heap.size ≤ gb1027));clear HO1023;clear HB;have HO1023:=n0_;have HB:=n1_;have BK1027:=n2_;have GW1027:=n3_;have GE1027:=n4_;clear n0_ n1_ n2_ n3_ n4_;clear hb hbox hg;have hcz10_0:w9.cell? ⟨gb1027,0,none⟩ = some (.int .i64 0):=(blk_cell BK1027.out 0).trans rfl;have hcz10_1:w9.cell? ⟨gb1027,1,none⟩ = some (.int .i64 0):=(blk_cell BK1027.out 1).trans rfl;have hcz10_2:w9.cell? ⟨gb1027,2,none⟩ = some (.int .i64 0):=(blk_cell BK1027.out 2).trans rfl;have hfz10_0:=blk_frozen BK1027.out 0;have hfz10_1:=blk_frozen BK1027.out 1;have hfz10_2:=blk_frozen BK1027.out 2;obtain ⟨Ao11,co11,eo11⟩:=Kd.R_slice HO1023.out;subst eo11)|((with_reducible refine gate_callee (f:=24) rfl ?_);refine goesL_ (some 46) rfl rfl Try.func24 (by kernel_rfl) rfl #[.slice Ao11 t1021.length co11,.agg #[.int .i64 t1024,.int .i64 t1025,.int .i64 t1026]] rfl (by (try simp only [List.map_toArray,List.map_cons,List.map_nil]);first|done|rfl|(simp only [List.length_drop,List.length_take];rfl)) ?_;(with_reducible refine (impl_RoomFor.calls k _ _ t1021 t1024 t1025 t1026 t1028 t1029 _ ?side1 ?side2 A5.out).mono ?_);(case side1=>refine (zN (e:=3) (base:=w.heap.size) (ok:=fun k_=>True) (n:=t1021.length) (c:=co11) ?_).2.2;exact (by (with_reducible repeat (first|apply zA|apply zB|apply zC));exact (Kd.R_mono (Kd.R_far (p:=⟨gb1027,2,none⟩) (Kd.R_far (p:=⟨gb1027,1,none⟩) (Kd.R_far (p:=⟨gb1027,0,none⟩) (Kd.R_types HO1023.out BK1027.out (by decide)) (fun _ hk=>hk.2) (.int .i64 t1024)) (fun _ hk=>hk.2) (.int .i64 t1025)) (fun _ hk=>hk.2) (.int .i64 t1026)) (fun _ h_=>h_.1))));(case side2=>exact (zN HO1023.out).2.1);rintro e w12 ⟨rfl,hb⟩;refine ⟨_,rfl,?_⟩;have n0_:=zM (zP (by (with_reducible repeat (first|apply zA|apply zB|apply zC));exact (Kd.R_mono (Kd.R_far (p:=⟨gb1027,2,none⟩) (Kd.R_far (p:=⟨gb1027,1,none⟩) (Kd.R_far (p:=⟨gb1027,0,none⟩) (Kd.R_types HO1023.out BK1027.out (by decide)) (fun _ hk=>hk.2) (.int .i64 t1024)) (fun _ hk=>hk.2) (.int .i64 t1025)) (fun _ hk=>hk.2) (.int .i64 t1026)) (fun _ h_=>h_.1))) hb);have n1_:=zM (blk_below (g:=gb1027) (o := .cells #[.int .i64 t1024,.int .i64 t1025,.int .i64 t1026] 28 (0,0)) (by (with_reducible repeat (first|refine zJ ?_ _|refine zK ?_|refine zL ?_ _));refine blk_put (cs := #[.int .i64 t1024,.int .i64 t1025,.int .i64 0]) ?_ 2 _ rfl;(with_reducible repeat (first|refine zJ ?_ _|refine zK ?_|refine zL ?_ _));refine blk_put (cs := #[.int .i64 t1024,.int .i64 0,.int .i64 0]) ?_ 1 _ rfl;(with_reducible repeat (first|refine zJ ?_ _|refine zK ?_|refine zL ?_ _));refine blk_put (cs := #[.int .i64 0,.int .i64 0,.int .i64 0]) ?_ 0 _ rfl;(with_reducible repeat (first|refine zJ ?_ _|refine zK ?_|refine zL ?_ _));exact BK1027.out) hb);have n2_:=zM (zQ (by repeat (first|(with_reducible first|exact HB.out|apply zD|apply zE|apply zF|refine below_set ?_ GE1027.out)|exact HB.out)) hb);clear HO1023;clear BK1027;clear HB;have HO1023:=n0_;have BK1027:=n1_;have HB:=n2_;clear n0_ n1_ n2_;(try clear hb);(try clear hb2);(try clear hk);(try clear hi);have hcz13_0:w12.cell? ⟨gb1027,0,none⟩ = some (.int .i64 t1024):=(blk_cell BK1027.out 0).trans rfl;have hcz13_1:w12.cell? ⟨gb1027,1,none⟩ = some (.int .i64 t1025):=(blk_cell BK1027.out 1).trans rfl;have hcz13_2:w12.cell? ⟨gb1027,2,none⟩ = some (.int .i64 t1026):=(blk_cell BK1027.out 2).trans rfl;have hfz13_0:=blk_frozen BK1027.out 0;have hfz13_1:=blk_frozen BK1027.out 1;have hfz13_2:=blk_frozen BK1027.out 2)|((with_reducible refine gate_callee (f:=23) rfl ?_);refine goesL_ (some 52) rfl rfl Try.func23 (by kernel_rfl) rfl #[.slice Ao11 t1021.length co11,.agg #[.int .i64 t1024,.int .i64 t1025,.int .i64 t1026]] rfl (by (try simp only [List.map_toArray,List.map_cons,List.map_nil]);first|done|rfl|(simp only [List.length_drop,List.length_take];rfl)) ?_;(with_reducible refine (spec_RoomFor.calls k _ _ t1021 t1024 t1025 t1026 t1030 t1031 _ ?side1 ?side2 A6.out).mono ?_);(case side1=>repeat (first|exact (zN HO1023.out).2.2|(with_reducible first|refine zG ?_ _|refine zH ?_ _|refine zI ?_)));(case side2=>exact (zN HO1023.out).2.1);rintro e w14 ⟨rfl,hb⟩;refine ⟨_,rfl,?_⟩;have n0_:=zM (zP (by (with_reducible repeat (first|apply zA|apply zB|apply zC));exact HO1023.out) hb);have n1_:=zM (blk_below (g:=gb1027) (o := .cells #[.int .i64 t1024,.int .i64 t1025,.int .i64 t1026] 28 (0,0)) (by (with_reducible repeat (first|refine zJ ?_ _|refine zK ?_|refine zL ?_ _));exact BK1027.out) hb);have n2_:=zM (zQ (by repeat (first|(with_reducible first|exact HB.out|apply zD|apply zE|apply zF|refine below_set ?_ GE1027.out)|exact HB.out)) hb);clear HO1023;clear BK1027;clear HB;have HO1023:=n0_;have BK1027:=n1_;have HB:=n2_;clear n0_ n1_ n2_;(try clear hb);(try clear hb2);(try clear hk);(try clear hi)))
  (try simp only [Act.put,zT,zU,zV])
  go_cut [62] (fun v62 wc => ∃ (kq:Nat) (x62_6:Bool),v62 = .bool x62_6 ∧ Aside0 (laws_FnColumns.j0 kq l0 t1021 t1028 t1029 x62_6 t1024 t1025 t1026 = some r) ∧ Aside0 (kq ≤ k) ∧ Aside0 (Kd.R (Kd.int .i64) 3 wc w.heap.size (fun _=>True) (.slice Ao11 t1021.length co11) t1021) ∧ Aside0 (wc.heap[gb1027]? = some (.cells #[.int .i64 t1024,.int .i64 t1025,.int .i64 t1026] 28 (0,0))) ∧ Aside0 (Below w.heap.size w wc))
  case first =>
   have H:=HC7.out;clear HC7;by_cases c15:t1028 = t1030
   ·as_aux_lemma =>
    rw [if_pos c15] at H;have c15b0:(t1028 == t1030) = true:=beq_iff_eq.mpr c15
    have c15b1:(t1028 != t1030) = false:=bne_eq_false_iff_eq.mpr c15
    clear c15;(first|rw [c15b0]|(simp only [i64_w,i32_w];rw [c15b0])|skip)
    have H':=zM H;clear H;go_wp2
    go_meet
    case rel=>exact ⟨_,((t1029 != t1031)),(by first|rfl|(simp;done)|(simp [*];done)),H',⟨by first|omega|exact Nat.le_refl _⟩,⟨by (with_reducible repeat (first|apply zA|apply zB|apply zC));exact HO1023.out⟩,⟨by (with_reducible repeat (first|refine zJ ?_ _|refine zK ?_|refine zL ?_ _));exact BK1027.out⟩,⟨by repeat (first|(with_reducible first|exact HB.out|apply zD|apply zE|apply zF|refine below_set ?_ GE1027.out)|exact HB.out)⟩⟩
   ·as_aux_lemma =>
    rw [if_neg c15] at H;have c15b0:(t1028 == t1030) = false:=beq_eq_false_iff_ne.mpr c15
    have c15b1:(t1028 != t1030) = true:=bne_iff_ne.mpr c15
    (first|rw [c15b0]|(simp only [i64_w,i32_w];rw [c15b0])|skip)
    have H':=zM H;clear H;go_wp2
    go_meet
    case rel=>exact ⟨_,(true),(by first|rfl|(simp;done)|(simp [*];done)),H',⟨by first|omega|exact Nat.le_refl _⟩,⟨by (with_reducible repeat (first|apply zA|apply zB|apply zC));exact HO1023.out⟩,⟨by (with_reducible repeat (first|refine zJ ?_ _|refine zK ?_|refine zL ?_ _));exact BK1027.out⟩,⟨by repeat (first|(with_reducible first|exact HB.out|apply zD|apply zE|apply zF|refine below_set ?_ GE1027.out)|exact HB.out)⟩⟩
  case rest =>
   clear HC7;(try clear c1);(try clear c2);(try clear p2);(try clear c3);(try clear c10);(try clear c15);(try clear c15b0);(try clear c15b1);(try clear hcz10_0);(try clear hcz10_1);(try clear hcz10_2);(try clear hcz13_0);(try clear hcz13_1);(try clear hcz13_2);(try clear hfz10_0);(try clear hfz10_1);(try clear hfz10_2);(try clear hfz13_0);(try clear hfz13_1);(try clear hfz13_2);obtain ⟨kq,x62_6,rfl,HA,HJ6,HO_3,BK1027,HB⟩:=hcut;cases kq with
   | zero=>exact absurd HA.out (by simp [laws_FnColumns.j0])
   | succ kj6 =>
    have H:=HA.out;clear HA;simp only [laws_FnColumns.j0] at H
    by_cases c16:x62_6 = true
    ·as_aux_lemma =>
     subst c16;have H1:(some false) = some r:=by rw [if_pos rfl] at H;exact H
     clear H;have H:=H1;clear H1;obtain rfl:=Option.some.inj H;go_wp2
     go_ret
     exact ⟨by first|rfl|(simp [errW_none,errW_some] <;> rfl)|(simp [*,errW_none,errW_some] <;> rfl),by repeat (first|(with_reducible first|exact HB.out|apply zD|apply zE|apply zF|refine below_set ?_ GE1027.out)|exact HB.out)⟩
    ·as_aux_lemma =>
     replace c16:=Bool.eq_false_iff.mpr c16;subst c16;have H1:(if t1029 = true then (laws_FnColumns.j1 kj6 l0 t1021 t1028 t1029 (decide (t1028 > 0)) t1024 t1025 t1026) else (laws_FnColumns.j1 kj6 l0 t1021 t1028 t1029 false t1024 t1025 t1026)) = some r:=by rw [if_neg (show ¬ (false = true) by decide)] at H;exact H
     clear H;have H:=H1;clear H1;have HC17:=zM H;clear H;go_upto_region 8 with (fail)
     go_cut [67] (fun v67 wc => ∃ (kq:Nat) (x67_16:Bool),v67 = .bool x67_16 ∧ Aside0 (laws_FnColumns.j1 kq l0 t1021 t1028 t1029 x67_16 t1024 t1025 t1026 = some r) ∧ Aside0 (kq ≤ kj6) ∧ Aside0 (Kd.R (Kd.int .i64) 3 wc w.heap.size (fun _=>True) (.slice Ao11 t1021.length co11) t1021) ∧ Aside0 (wc.heap[gb1027]? = some (.cells #[.int .i64 t1024,.int .i64 t1025,.int .i64 t1026] 28 (0,0))) ∧ Aside0 (Below w.heap.size w wc))
     case first =>
      have H:=HC17.out;clear HC17;by_cases c18:t1029 = true
      ·as_aux_lemma =>
       subst c18;have H1:(laws_FnColumns.j1 kj6 l0 t1021 t1028 true (decide (t1028 > 0)) t1024 t1025 t1026) = some r:=by rw [if_pos rfl] at H;exact H
       clear H;have H:=H1;clear H1;have H':=zM H;clear H;go_wp2
       go_meet
       case rel=>exact ⟨_,(decide (t1028 > 0)),(by first|rfl|(simp;done)|(simp [*];done)),H',⟨by have:=HJ6.out;first|omega|exact Nat.le_refl _⟩,⟨by (with_reducible repeat (first|apply zA|apply zB|apply zC));exact HO_3.out⟩,⟨by (with_reducible repeat (first|refine zJ ?_ _|refine zK ?_|refine zL ?_ _));exact BK1027.out⟩,⟨by repeat (first|(with_reducible first|exact HB.out|apply zD|apply zE|apply zF|refine below_set ?_ GE1027.out)|exact HB.out)⟩⟩
      ·as_aux_lemma =>
       replace c18:=Bool.eq_false_iff.mpr c18;subst c18;have H1:(laws_FnColumns.j1 kj6 l0 t1021 t1028 false false t1024 t1025 t1026) = some r:=by rw [if_neg (show ¬ (false = true) by decide)] at H;exact H
       clear H;have H:=H1;clear H1;have H':=zM H;clear H;go_wp2
       go_meet
       case rel=>exact ⟨_,(false),(by first|rfl|(simp;done)|(simp [*];done)),H',⟨by have:=HJ6.out;first|omega|exact Nat.le_refl _⟩,⟨by (with_reducible repeat (first|apply zA|apply zB|apply zC));exact HO_3.out⟩,⟨by (with_reducible repeat (first|refine zJ ?_ _|refine zK ?_|refine zL ?_ _));exact BK1027.out⟩,⟨by repeat (first|(with_reducible first|exact HB.out|apply zD|apply zE|apply zF|refine below_set ?_ GE1027.out)|exact HB.out)⟩⟩
     case rest =>
      clear HC17;(try clear c1);(try clear c2);(try clear p2);(try clear c3);(try clear c10);(try clear c15);(try clear c15b0);(try clear c15b1);(try clear c16);(try clear c18);(try clear hcz10_0);(try clear hcz10_1);(try clear hcz10_2);(try clear hcz13_0);(try clear hcz13_1);(try clear hcz13_2);(try clear hfz10_0);(try clear hfz10_1);(try clear hfz10_2);(try clear hfz13_0);(try clear hfz13_1);(try clear hfz13_2);(try clear p2);obtain ⟨kq,x67_16,rfl,HA,HJ16,HO_3,BK1027,HB⟩:=hcut;cases kq with
      | zero=>exact absurd HA.out (by simp [laws_FnColumns.j1])
      | succ kj16 =>
       have H:=HA.out;clear HA;simp only [laws_FnColumns.j1] at H
       have HC19:=zM H;clear H;go_upto_if 67 with (fail)
       go_cut [] (fun wc => ∃ (kq:Nat),Aside0 (laws_FnColumns.j2 kq l0 t1021 t1028 t1029 t1024 t1025 t1026 = some r) ∧ Aside0 (kq ≤ kj16) ∧ Aside0 (Kd.R (Kd.int .i64) 3 wc w.heap.size (fun _=>True) (.slice Ao11 t1021.length co11) t1021) ∧ Aside0 (wc.heap[gb1027]? = some (.cells #[.int .i64 t1024,.int .i64 t1025,.int .i64 t1026] 28 (0,0))) ∧ Aside0 (Below w.heap.size w wc))
       case first =>
        have H:=HC19.out;clear HC19;by_cases c20:x67_16 = true
        ·as_aux_lemma =>
         subst c20;have H1:((impl_AddOnTop.f kj16 t1021 t1028 t1024 t1025 t1026).bind fun bt1032=>(if bt1032.2 = true then (laws_FnColumns.j2 kj16 l0 t1021 t1028 t1029 t1024 t1025 t1026) else (some false))) = some r:=by rw [if_pos rfl] at H;exact H
         clear H;have H:=H1;clear H1;replace H:=Option.bind_eq_some_iff.mp H;obtain ⟨⟨t1032,t1035⟩,A210,H⟩:=H;replace H:(if t1035 = true then (laws_FnColumns.j2 kj16 l0 t1021 t1028 t1029 t1024 t1025 t1026) else (some false)) = some r:=H
         have A21:=zM A210;clear A210;by_cases c22:t1035 = true
         ·as_aux_lemma =>
          subst c22;have H1:(laws_FnColumns.j2 kj16 l0 t1021 t1028 t1029 t1024 t1025 t1026) = some r:=by rw [if_pos rfl] at H;exact H
          clear H;have H:=H1;clear H1;have H':=zM H;clear H;have hcz23_0:wc.cell? ⟨gb1027,0,none⟩ = some (.int .i64 t1024):=(blk_cell BK1027.out 0).trans rfl
          have hcz23_1:wc.cell? ⟨gb1027,1,none⟩ = some (.int .i64 t1025):=(blk_cell BK1027.out 1).trans rfl
          have hcz23_2:wc.cell? ⟨gb1027,2,none⟩ = some (.int .i64 t1026):=(blk_cell BK1027.out 2).trans rfl
          have hfz23_0:=blk_frozen BK1027.out 0;have hfz23_1:=blk_frozen BK1027.out 1;have hfz23_2:=blk_frozen BK1027.out 2;go_wp2_with (first|((with_reducible refine gate_callee (f:=22) rfl ?_);refine goesL_ (some 72) rfl rfl Try.func22 (by kernel_rfl) rfl #[.slice Ao11 t1021.length co11,.int .i64 t1028,.agg #[.int .i64 t1024,.int .i64 t1025,.int .i64 t1026]] rfl (by (try simp only [List.map_toArray,List.map_cons,List.map_nil]);first|done|rfl|(simp only [List.length_drop,List.length_take];rfl)) ?_;(with_reducible refine (impl_AddOnTop.calls kj16 _ _ t1021 t1028 t1024 t1025 t1026 t1032 true _ ?side1 ?side2 A21.out).mono ?_);(case side1=>repeat (first|exact (zN HO_3.out).2.2|(with_reducible first|refine zG ?_ _|refine zH ?_ _|refine zI ?_)));(case side2=>exact (zN HO_3.out).2.1);rintro e w24 ⟨v1033,rfl,ho0,hb⟩;refine ⟨_,rfl,?_⟩;have n0_:=zM (Kd.R_elder' (by (with_reducible repeat (first|apply zA|apply zB|apply zC));exact HO_3.out) (Kd.R_base ho0) hb);have n1_:=zM (Kd.R_lower (Kd.R_new' ho0 (Kd.R_lt (by (with_reducible repeat (first|apply zA|apply zB|apply zC));exact HO_3.out))) (zR (by repeat (first|(with_reducible first|exact HB.out|apply zD|apply zE|apply zF|refine below_set ?_ GE1027.out)|exact HB.out))));have n2_:=zM (blk_below (g:=gb1027) (o := .cells #[.int .i64 t1024,.int .i64 t1025,.int .i64 t1026] 28 (0,0)) (by (with_reducible repeat (first|refine zJ ?_ _|refine zK ?_|refine zL ?_ _));exact BK1027.out) hb);have n3_:=zM (zQ (by repeat (first|(with_reducible first|exact HB.out|apply zD|apply zE|apply zF|refine below_set ?_ GE1027.out)|exact HB.out)) hb);clear HO_3;clear BK1027;clear HB;have HO_3:=n0_;have HO1034:=n1_;have BK1027:=n2_;have HB:=n3_;clear n0_ n1_ n2_ n3_;(try clear hb);(try clear hb2);(try clear hk);(try clear hi);(try clear ho0)))
          go_meet
          case rel=>exact ⟨_,H',⟨by have:=HJ6.out;have:=HJ16.out;first|omega|exact Nat.le_refl _⟩,⟨by (with_reducible repeat (first|apply zA|apply zB|apply zC));exact Kd.R_mono HO_3.out (fun _ hk=>trivial)⟩,⟨by (with_reducible repeat (first|refine zJ ?_ _|refine zK ?_|refine zL ?_ _));exact BK1027.out⟩,⟨by repeat (first|(with_reducible first|exact HB.out|apply zD|apply zE|apply zF|refine below_set ?_ GE1027.out)|exact HB.out)⟩⟩
         ·as_aux_lemma =>
          replace c22:=Bool.eq_false_iff.mpr c22;subst c22;have H1:(some false) = some r:=by rw [if_neg (show ¬ (false = true) by decide)] at H;exact H
          clear H;have H:=H1;clear H1;obtain rfl:=Option.some.inj H;have hcz25_0:wc.cell? ⟨gb1027,0,none⟩ = some (.int .i64 t1024):=(blk_cell BK1027.out 0).trans rfl
          have hcz25_1:wc.cell? ⟨gb1027,1,none⟩ = some (.int .i64 t1025):=(blk_cell BK1027.out 1).trans rfl
          have hcz25_2:wc.cell? ⟨gb1027,2,none⟩ = some (.int .i64 t1026):=(blk_cell BK1027.out 2).trans rfl
          have hfz25_0:=blk_frozen BK1027.out 0;have hfz25_1:=blk_frozen BK1027.out 1;have hfz25_2:=blk_frozen BK1027.out 2;go_wp2_with (first|((with_reducible refine gate_callee (f:=22) rfl ?_);refine goesL_ (some 72) rfl rfl Try.func22 (by kernel_rfl) rfl #[.slice Ao11 t1021.length co11,.int .i64 t1028,.agg #[.int .i64 t1024,.int .i64 t1025,.int .i64 t1026]] rfl (by (try simp only [List.map_toArray,List.map_cons,List.map_nil]);first|done|rfl|(simp only [List.length_drop,List.length_take];rfl)) ?_;(with_reducible refine (impl_AddOnTop.calls kj16 _ _ t1021 t1028 t1024 t1025 t1026 t1032 false _ ?side1 ?side2 A21.out).mono ?_);(case side1=>repeat (first|exact (zN HO_3.out).2.2|(with_reducible first|refine zG ?_ _|refine zH ?_ _|refine zI ?_)));(case side2=>exact (zN HO_3.out).2.1);rintro e w26 ⟨v1033,rfl,ho0,hb⟩;refine ⟨_,rfl,?_⟩;have n0_:=zM (Kd.R_elder' (by (with_reducible repeat (first|apply zA|apply zB|apply zC));exact HO_3.out) (Kd.R_base ho0) hb);have n1_:=zM (Kd.R_lower (Kd.R_new' ho0 (Kd.R_lt (by (with_reducible repeat (first|apply zA|apply zB|apply zC));exact HO_3.out))) (zR (by repeat (first|(with_reducible first|exact HB.out|apply zD|apply zE|apply zF|refine below_set ?_ GE1027.out)|exact HB.out))));have n2_:=zM (blk_below (g:=gb1027) (o := .cells #[.int .i64 t1024,.int .i64 t1025,.int .i64 t1026] 28 (0,0)) (by (with_reducible repeat (first|refine zJ ?_ _|refine zK ?_|refine zL ?_ _));exact BK1027.out) hb);have n3_:=zM (zQ (by repeat (first|(with_reducible first|exact HB.out|apply zD|apply zE|apply zF|refine below_set ?_ GE1027.out)|exact HB.out)) hb);clear HO_3;clear BK1027;clear HB;have HO_3:=n0_;have HO1034:=n1_;have BK1027:=n2_;have HB:=n3_;clear n0_ n1_ n2_ n3_;(try clear hb);(try clear hb2);(try clear hk);(try clear hi);(try clear ho0)))
          go_ret
          exact ⟨by first|rfl|(simp [errW_none,errW_some] <;> rfl)|(simp [*,errW_none,errW_some] <;> rfl),by repeat (first|(with_reducible first|exact HB.out|apply zD|apply zE|apply zF|refine below_set ?_ GE1027.out)|exact HB.out)⟩
        ·as_aux_lemma =>
         replace c20:=Bool.eq_false_iff.mpr c20;subst c20;have H1:(laws_FnColumns.j2 kj16 l0 t1021 t1028 t1029 t1024 t1025 t1026) = some r:=by rw [if_neg (show ¬ (false = true) by decide)] at H;exact H
         clear H;have H:=H1;clear H1;have H':=zM H;clear H;go_wp2
         go_meet
         case rel=>exact ⟨_,H',⟨by have:=HJ6.out;have:=HJ16.out;first|omega|exact Nat.le_refl _⟩,⟨by (with_reducible repeat (first|apply zA|apply zB|apply zC));exact HO_3.out⟩,⟨by (with_reducible repeat (first|refine zJ ?_ _|refine zK ?_|refine zL ?_ _));exact BK1027.out⟩,⟨by repeat (first|(with_reducible first|exact HB.out|apply zD|apply zE|apply zF|refine below_set ?_ GE1027.out)|exact HB.out)⟩⟩
       case rest =>
        clear HC19;(try clear c1);(try clear c2);(try clear p2);(try clear c3);(try clear c10);(try clear c15);(try clear c15b0);(try clear c15b1);(try clear c16);(try clear c18);(try clear c20);(try clear c22);(try clear c23);(try clear c24);(try clear hcz10_0);(try clear hcz10_1);(try clear hcz10_2);(try clear hcz13_0);(try clear hcz13_1);(try clear hcz13_2);(try clear hcz23_0);(try clear hcz23_1);(try clear hcz23_2);(try clear hcz25_0);(try clear hcz25_1);(try clear hcz25_2);(try clear hfz10_0);(try clear hfz10_1);(try clear hfz10_2);(try clear hfz13_0);(try clear hfz13_1);(try clear hfz13_2);(try clear hfz23_0);(try clear hfz23_1);(try clear hfz23_2);(try clear hfz25_0);(try clear hfz25_1);(try clear hfz25_2);(try clear p2);obtain ⟨kq,HA,HJ18,HO_3,BK1027,HB⟩:=hcut;cases kq with
        | zero=>exact absurd HA.out (by simp [laws_FnColumns.j2])
        | succ kj18 =>
         have H:=HA.out;clear HA;simp only [laws_FnColumns.j2] at H
         have HC27:=zM H;clear H;go_upto_if 77 with (fail)
         go_cut [] (fun wc => ∃ (kq:Nat),Aside0 (laws_FnColumns.j3 kq l0 = some r) ∧ Aside0 (kq ≤ kj18) ∧ Aside0 (wc.heap[gb1027]? = some (.cells #[.int .i64 t1024,.int .i64 t1025,.int .i64 t1026] 28 (0,0))) ∧ Aside0 (Below w.heap.size w wc))
         case first =>
          have H:=HC27.out;clear HC27;by_cases c28:t1029 = true
          ·as_aux_lemma =>
           subst c28;have H1:((impl_AddOnTop.f kj18 t1021 (wrap64 (t1028 + 1)) t1024 t1025 t1026).bind fun bt1036=>(if bt1036.2 = true then (some false) else (laws_FnColumns.j3 kj18 l0))) = some r:=by rw [if_pos rfl] at H;exact H
           clear H;have H:=H1;clear H1;replace H:=Option.bind_eq_some_iff.mp H;obtain ⟨⟨t1036,t1039⟩,A290,H⟩:=H;replace H:(if t1039 = true then (some false) else (laws_FnColumns.j3 kj18 l0)) = some r:=H
           have A29:=zM A290;clear A290;by_cases c30:t1039 = true
           ·as_aux_lemma =>
            subst c30;have H1:(some false) = some r:=by rw [if_pos rfl] at H;exact H
            clear H;have H:=H1;clear H1;obtain rfl:=Option.some.inj H;have hcz31_0:wc.cell? ⟨gb1027,0,none⟩ = some (.int .i64 t1024):=(blk_cell BK1027.out 0).trans rfl
            have hcz31_1:wc.cell? ⟨gb1027,1,none⟩ = some (.int .i64 t1025):=(blk_cell BK1027.out 1).trans rfl
            have hcz31_2:wc.cell? ⟨gb1027,2,none⟩ = some (.int .i64 t1026):=(blk_cell BK1027.out 2).trans rfl
            have hfz31_0:=blk_frozen BK1027.out 0;have hfz31_1:=blk_frozen BK1027.out 1;have hfz31_2:=blk_frozen BK1027.out 2;go_wp2_with (first|((with_reducible refine gate_callee (f:=22) rfl ?_);refine goesL_ (some 83) rfl rfl Try.func22 (by kernel_rfl) rfl #[.slice Ao11 t1021.length co11,.int .i64 (wrap64 (t1028 + 1)),.agg #[.int .i64 t1024,.int .i64 t1025,.int .i64 t1026]] rfl (by (try simp only [List.map_toArray,List.map_cons,List.map_nil]);first|done|rfl|(simp only [List.length_drop,List.length_take];rfl)) ?_;(with_reducible refine (impl_AddOnTop.calls kj18 _ _ t1021 (wrap64 (t1028 + 1)) t1024 t1025 t1026 t1036 true _ ?side1 ?side2 A29.out).mono ?_);(case side1=>repeat (first|exact (zN HO_3.out).2.2|(with_reducible first|refine zG ?_ _|refine zH ?_ _|refine zI ?_)));(case side2=>exact (zN HO_3.out).2.1);rintro e w32 ⟨v1037,rfl,ho0,hb⟩;refine ⟨_,rfl,?_⟩;have n0_:=zM (Kd.R_elder' (by (with_reducible repeat (first|apply zA|apply zB|apply zC));exact HO_3.out) (Kd.R_base ho0) hb);have n1_:=zM (Kd.R_lower (Kd.R_new' ho0 (Kd.R_lt (by (with_reducible repeat (first|apply zA|apply zB|apply zC));exact HO_3.out))) (zR (by repeat (first|(with_reducible first|exact HB.out|apply zD|apply zE|apply zF|refine below_set ?_ GE1027.out)|exact HB.out))));have n2_:=zM (blk_below (g:=gb1027) (o := .cells #[.int .i64 t1024,.int .i64 t1025,.int .i64 t1026] 28 (0,0)) (by (with_reducible repeat (first|refine zJ ?_ _|refine zK ?_|refine zL ?_ _));exact BK1027.out) hb);have n3_:=zM (zQ (by repeat (first|(with_reducible first|exact HB.out|apply zD|apply zE|apply zF|refine below_set ?_ GE1027.out)|exact HB.out)) hb);clear HO_3;clear BK1027;clear HB;have HO_3:=n0_;have HO1038:=n1_;have BK1027:=n2_;have HB:=n3_;clear n0_ n1_ n2_ n3_;(try clear hb);(try clear hb2);(try clear hk);(try clear hi);(try clear ho0)))
            go_ret
            exact ⟨by first|rfl|(simp [errW_none,errW_some] <;> rfl)|(simp [*,errW_none,errW_some] <;> rfl),by repeat (first|(with_reducible first|exact HB.out|apply zD|apply zE|apply zF|refine below_set ?_ GE1027.out)|exact HB.out)⟩
           ·as_aux_lemma =>
            replace c30:=Bool.eq_false_iff.mpr c30;subst c30;have H1:(laws_FnColumns.j3 kj18 l0) = some r:=by rw [if_neg (show ¬ (false = true) by decide)] at H;exact H
            clear H;have H:=H1;clear H1;have H':=zM H;clear H;have hcz33_0:wc.cell? ⟨gb1027,0,none⟩ = some (.int .i64 t1024):=(blk_cell BK1027.out 0).trans rfl
            have hcz33_1:wc.cell? ⟨gb1027,1,none⟩ = some (.int .i64 t1025):=(blk_cell BK1027.out 1).trans rfl
            have hcz33_2:wc.cell? ⟨gb1027,2,none⟩ = some (.int .i64 t1026):=(blk_cell BK1027.out 2).trans rfl
            have hfz33_0:=blk_frozen BK1027.out 0;have hfz33_1:=blk_frozen BK1027.out 1;have hfz33_2:=blk_frozen BK1027.out 2;go_wp2_with (first|((with_reducible refine gate_callee (f:=22) rfl ?_);refine goesL_ (some 83) rfl rfl Try.func22 (by kernel_rfl) rfl #[.slice Ao11 t1021.length co11,.int .i64 (wrap64 (t1028 + 1)),.agg #[.int .i64 t1024,.int .i64 t1025,.int .i64 t1026]] rfl (by (try simp only [List.map_toArray,List.map_cons,List.map_nil]);first|done|rfl|(simp only [List.length_drop,List.length_take];rfl)) ?_;(with_reducible refine (impl_AddOnTop.calls kj18 _ _ t1021 (wrap64 (t1028 + 1)) t1024 t1025 t1026 t1036 false _ ?side1 ?side2 A29.out).mono ?_);(case side1=>repeat (first|exact (zN HO_3.out).2.2|(with_reducible first|refine zG ?_ _|refine zH ?_ _|refine zI ?_)));(case side2=>exact (zN HO_3.out).2.1);rintro e w34 ⟨v1037,rfl,ho0,hb⟩;refine ⟨_,rfl,?_⟩;have n0_:=zM (Kd.R_elder' (by (with_reducible repeat (first|apply zA|apply zB|apply zC));exact HO_3.out) (Kd.R_base ho0) hb);have n1_:=zM (Kd.R_lower (Kd.R_new' ho0 (Kd.R_lt (by (with_reducible repeat (first|apply zA|apply zB|apply zC));exact HO_3.out))) (zR (by repeat (first|(with_reducible first|exact HB.out|apply zD|apply zE|apply zF|refine below_set ?_ GE1027.out)|exact HB.out))));have n2_:=zM (blk_below (g:=gb1027) (o := .cells #[.int .i64 t1024,.int .i64 t1025,.int .i64 t1026] 28 (0,0)) (by (with_reducible repeat (first|refine zJ ?_ _|refine zK ?_|refine zL ?_ _));exact BK1027.out) hb);have n3_:=zM (zQ (by repeat (first|(with_reducible first|exact HB.out|apply zD|apply zE|apply zF|refine below_set ?_ GE1027.out)|exact HB.out)) hb);clear HO_3;clear BK1027;clear HB;have HO_3:=n0_;have HO1038:=n1_;have BK1027:=n2_;have HB:=n3_;clear n0_ n1_ n2_ n3_;(try clear hb);(try clear hb2);(try clear hk);(try clear hi);(try clear ho0)))
            go_meet
            case rel=>exact ⟨_,H',⟨by have:=HJ6.out;have:=HJ16.out;have:=HJ18.out;first|omega|exact Nat.le_refl _⟩,⟨by (with_reducible repeat (first|refine zJ ?_ _|refine zK ?_|refine zL ?_ _));exact BK1027.out⟩,⟨by repeat (first|(with_reducible first|exact HB.out|apply zD|apply zE|apply zF|refine below_set ?_ GE1027.out)|exact HB.out)⟩⟩
          ·as_aux_lemma =>
           replace c28:=Bool.eq_false_iff.mpr c28;subst c28;have H1:(laws_FnColumns.j3 kj18 l0) = some r:=by rw [if_neg (show ¬ (false = true) by decide)] at H;exact H
           clear H;have H:=H1;clear H1;have H':=zM H;clear H;go_wp2
           go_meet
           case rel=>exact ⟨_,H',⟨by have:=HJ6.out;have:=HJ16.out;have:=HJ18.out;first|omega|exact Nat.le_refl _⟩,⟨by (with_reducible repeat (first|refine zJ ?_ _|refine zK ?_|refine zL ?_ _));exact BK1027.out⟩,⟨by repeat (first|(with_reducible first|exact HB.out|apply zD|apply zE|apply zF|refine below_set ?_ GE1027.out)|exact HB.out)⟩⟩
         case rest =>
          clear HC27;(try clear c1);(try clear c2);(try clear p2);(try clear c3);(try clear p6);(try clear c10);(try clear c15);(try clear c15b0);(try clear c15b1);(try clear c16);(try clear c18);(try clear c20);(try clear c22);(try clear c23);(try clear c24);(try clear c28);(try clear c30);(try clear c34);(try clear hcz10_0);(try clear hcz10_1);(try clear hcz10_2);(try clear hcz13_0);(try clear hcz13_1);(try clear hcz13_2);(try clear hcz23_0);(try clear hcz23_1);(try clear hcz23_2);(try clear hcz25_0);(try clear hcz25_1);(try clear hcz25_2);(try clear hcz31_0);(try clear hcz31_1);(try clear hcz31_2);(try clear hcz33_0);(try clear hcz33_1);(try clear hcz33_2);(try clear hfz10_0);(try clear hfz10_1);(try clear hfz10_2);(try clear hfz13_0);(try clear hfz13_1);(try clear hfz13_2);(try clear hfz23_0);(try clear hfz23_1);(try clear hfz23_2);(try clear hfz25_0);(try clear hfz25_1);(try clear hfz25_2);(try clear hfz31_0);(try clear hfz31_1);(try clear hfz31_2);(try clear hfz33_0);(try clear hfz33_1);(try clear hfz33_2);(try clear p2);obtain ⟨kq,HA,HJ26,BK1027,HB⟩:=hcut;cases kq with
          | zero=>exact absurd HA.out (by simp [laws_FnColumns.j3])
          | succ kj26 =>
           have H:=HA.out;clear HA;simp only [laws_FnColumns.j3] at H
           replace H:=Option.bind_eq_some_iff.mp H;obtain ⟨⟨t1040,t1041⟩,A350,H⟩:=H;replace H:((impl_SplitColumns.f t1040 t1041).bind fun bt1044=>((spec_SplitColumns.f kj26 t1040 t1041).bind fun bt1049=>(if (bt1044.2.2 != bt1049.2.2) = true then (laws_FnColumns.j4 kj26 l0 t1040 t1041 bt1044.1 bt1044.2.1 bt1044.2.2 true) else (if bt1044.2.1 = bt1049.2.1 then ((laws_rTable.f kj26 bt1044.1 bt1049.1).bind fun t1054=>(laws_FnColumns.j4 kj26 l0 t1040 t1041 bt1044.1 bt1044.2.1 bt1044.2.2 (!t1054))) else (laws_FnColumns.j4 kj26 l0 t1040 t1041 bt1044.1 bt1044.2.1 bt1044.2.2 true))))) = some r:=H
           have A35:=zM A350;clear A350;replace H:=Option.bind_eq_some_iff.mp H;obtain ⟨⟨t1044,t1045,t1046⟩,A360,H⟩:=H;replace H:((spec_SplitColumns.f kj26 t1040 t1041).bind fun bt1049=>(if (t1046 != bt1049.2.2) = true then (laws_FnColumns.j4 kj26 l0 t1040 t1041 t1044 t1045 t1046 true) else (if t1045 = bt1049.2.1 then ((laws_rTable.f kj26 t1044 bt1049.1).bind fun t1054=>(laws_FnColumns.j4 kj26 l0 t1040 t1041 t1044 t1045 t1046 (!t1054))) else (laws_FnColumns.j4 kj26 l0 t1040 t1041 t1044 t1045 t1046 true)))) = some r:=H
           have A36:=zM A360;clear A360;replace H:=Option.bind_eq_some_iff.mp H;obtain ⟨⟨t1049,t1050,t1051⟩,A370,H⟩:=H;replace H:(if (t1046 != t1051) = true then (laws_FnColumns.j4 kj26 l0 t1040 t1041 t1044 t1045 t1046 true) else (if t1045 = t1050 then ((laws_rTable.f kj26 t1044 t1049).bind fun t1054=>(laws_FnColumns.j4 kj26 l0 t1040 t1041 t1044 t1045 t1046 (!t1054))) else (laws_FnColumns.j4 kj26 l0 t1040 t1041 t1044 t1045 t1046 true))) = some r:=H
           have A37:=zM A370;clear A370;have HC38:=zM H;clear H;go_upto_region 19 with (first|((with_reducible refine gate_callee (f:=36) rfl ?_);refine goesL_ (some 89) rfl rfl Try.func36 (by kernel_rfl) rfl #[.slice A0 l0.length c0] rfl (by (try simp only [List.map_toArray,List.map_cons,List.map_nil]);first|done|rfl|(simp only [List.length_drop,List.length_take];rfl)) ?_;(with_reducible refine (spec_DrawSplitColumns.calls kj26 _ _ l0 t1040 t1041 _ ?side1 ?side2 A35.out).mono ?_);(case side1=>repeat (first|exact (zO HR0.out HB.out)|(with_reducible first|refine zG ?_ _|refine zH ?_ _|refine zI ?_)));(case side2=>exact HC0.out);rintro e w39 ⟨v1042,rfl,ho0,hb⟩;refine ⟨_,rfl,?_⟩;have n0_:=zM (Kd.R_lower ho0 (zR (by repeat (first|(with_reducible first|exact HB.out|apply zD|apply zE|apply zF|refine below_set ?_ GE1027.out)|exact HB.out))));have n1_:=zM (blk_below (g:=gb1027) (o := .cells #[.int .i64 t1024,.int .i64 t1025,.int .i64 t1026] 28 (0,0)) (by (with_reducible repeat (first|refine zJ ?_ _|refine zK ?_|refine zL ?_ _));exact BK1027.out) hb);have n2_:=zM (zQ (by repeat (first|(with_reducible first|exact HB.out|apply zD|apply zE|apply zF|refine below_set ?_ GE1027.out)|exact HB.out)) hb);clear BK1027;clear HB;have HO1043:=n0_;have BK1027:=n1_;have HB:=n2_;clear n0_ n1_ n2_;(try clear hb);(try clear hb2);(try clear hk);(try clear hi);(try clear ho0);obtain ⟨Ao40,co40,eo40⟩:=Kd.R_slice HO1043.out;subst eo40)|((with_reducible refine gate_callee (f:=26) rfl ?_);refine goesL_ (some 95) rfl rfl Try.func26 (by kernel_rfl) rfl #[.slice Ao40 t1040.length co40,.int .i64 t1041] rfl (by (try simp only [List.map_toArray,List.map_cons,List.map_nil]);first|done|rfl|(simp only [List.length_drop,List.length_take];rfl)) ?_;(with_reducible refine (impl_SplitColumns.calls _ _ t1040 t1041 t1044 t1045 t1046 _ ?side1 ?side2 A36.out).mono ?_);(case side1=>repeat (first|exact (zN HO1043.out).2.2|(with_reducible first|refine zG ?_ _|refine zH ?_ _|refine zI ?_)));(case side2=>exact (zN HO1043.out).2.1);rintro e w41 ⟨v1047,rfl,ho0,hb⟩;refine ⟨_,rfl,?_⟩;have n0_:=zM (zP (by (with_reducible repeat (first|apply zA|apply zB|apply zC));exact HO1043.out) hb);have n1_:=zM (Kd.S_lower (Kd.S_new' ho0 (Kd.R_lt (by (with_reducible repeat (first|apply zA|apply zB|apply zC));exact HO1043.out))) (zR (by repeat (first|(with_reducible first|exact HB.out|apply zD|apply zE|apply zF|refine below_set ?_ GE1027.out)|exact HB.out))));have n2_:=zM (blk_below (g:=gb1027) (o := .cells #[.int .i64 t1024,.int .i64 t1025,.int .i64 t1026] 28 (0,0)) (by (with_reducible repeat (first|refine zJ ?_ _|refine zK ?_|refine zL ?_ _));exact BK1027.out) hb);have n3_:=zM (zQ (by repeat (first|(with_reducible first|exact HB.out|apply zD|apply zE|apply zF|refine below_set ?_ GE1027.out)|exact HB.out)) hb);clear HO1043;clear BK1027;clear HB;have HO1043:=n0_;have HO1048:=n1_;have BK1027:=n2_;have HB:=n3_;clear n0_ n1_ n2_ n3_;(try clear hb);(try clear hb2);(try clear hk);(try clear hi);(try clear ho0))|((with_reducible refine gate_callee (f:=25) rfl ?_);refine goesL_ (some 102) rfl rfl Try.func25 (by kernel_rfl) rfl #[.slice Ao40 t1040.length co40,.int .i64 t1041] rfl (by (try simp only [List.map_toArray,List.map_cons,List.map_nil]);first|done|rfl|(simp only [List.length_drop,List.length_take];rfl)) ?_;(with_reducible refine (spec_SplitColumns.calls kj26 _ _ t1040 t1041 t1049 t1050 t1051 _ ?side1 ?side2 A37.out).mono ?_);(case side1=>repeat (first|exact (zN HO1043.out).2.2|(with_reducible first|refine zG ?_ _|refine zH ?_ _|refine zI ?_)));(case side2=>exact (zN HO1043.out).2.1);rintro e w42 ⟨v1052,rfl,ho0,hb⟩;refine ⟨_,rfl,?_⟩;have n0_:=zM (zP (by (with_reducible repeat (first|apply zA|apply zB|apply zC));exact HO1043.out) hb);have n1_:=zM (Kd.S_elder' (by (with_reducible repeat (first|apply Kd.S_alloc|apply Kd.S_drewN|apply Kd.S_drew));exact HO1048.out) (Kd.S_base ho0) hb);have n2_:=zM (Kd.S_lower (Kd.S_new' (Kd.S_new' ho0 (Kd.R_lt (by (with_reducible repeat (first|apply zA|apply zB|apply zC));exact HO1043.out))) (Kd.S_lt (by (with_reducible repeat (first|apply Kd.S_alloc|apply Kd.S_drewN|apply Kd.S_drew));exact HO1048.out))) (zR (by repeat (first|(with_reducible first|exact HB.out|apply zD|apply zE|apply zF|refine below_set ?_ GE1027.out)|exact HB.out))));have n3_:=zM (blk_below (g:=gb1027) (o := .cells #[.int .i64 t1024,.int .i64 t1025,.int .i64 t1026] 28 (0,0)) (by (with_reducible repeat (first|refine zJ ?_ _|refine zK ?_|refine zL ?_ _));exact BK1027.out) hb);have n4_:=zM (zQ (by repeat (first|(with_reducible first|exact HB.out|apply zD|apply zE|apply zF|refine below_set ?_ GE1027.out)|exact HB.out)) hb);clear HO1043;clear HO1048;clear BK1027;clear HB;have HO1043:=n0_;have HO1048:=n1_;have HO1053:=n2_;have BK1027:=n3_;have HB:=n4_;clear n0_ n1_ n2_ n3_ n4_;(try clear hb);(try clear hb2);(try clear hk);(try clear hi);(try clear ho0)))
           (try simp only [Act.put,zT,zU,zV])
           go_cut [119] (fun v119 wc => ∃ (kq:Nat) (x119_37:Bool),v119 = .bool x119_37 ∧ Aside0 (laws_FnColumns.j4 kq l0 t1040 t1041 t1044 t1045 t1046 x119_37 = some r) ∧ Aside0 (kq ≤ kj26) ∧ Aside0 (Kd.R (Kd.int .i64) 3 wc w.heap.size (fun _=>True) (.slice Ao40 t1040.length co40) t1040) ∧ Aside0 (Kd.S (Kd.slice 3 (Kd.int .i64)) 22 wc w.heap.size (fun k_=>some k_ ≠ ((.slice Ao40 t1040.length co40):Value).ownBlock) v1047 t1044) ∧ Aside0 (wc.heap[gb1027]? = some (.cells #[.int .i64 t1024,.int .i64 t1025,.int .i64 t1026] 28 (0,0))) ∧ Aside0 (Below w.heap.size w wc))
           case first =>
            have H:=HC38.out;clear HC38;by_cases c43:(t1046 != t1051) = true
            ·as_aux_lemma =>
             rw [if_pos c43] at H;have c43b0:(t1046 != t1051) = true:=c43
             (try (have c43b1:decide (t1046 = t1051) = false:=by simpa using c43))
             (try (have c43b2:(t1046 == t1051) = false:=by simpa using c43))
             (try (have c43b3:¬ (t1046 = t1051):=by simpa using c43))
             clear c43;(first|rw [c43b0]|(simp only [i64_w,i32_w];rw [c43b0])|skip)
             have H':=zM H;clear H;go_wp2
             go_meet
             case rel=>exact ⟨_,(true),(by first|rfl|(simp;done)|(simp [*];done)),H',⟨by have:=HJ6.out;have:=HJ16.out;have:=HJ18.out;have:=HJ26.out;first|omega|exact Nat.le_refl _⟩,⟨by (with_reducible repeat (first|apply zA|apply zB|apply zC));exact HO1043.out⟩,⟨by (with_reducible repeat (first|apply Kd.S_alloc|apply Kd.S_drewN|apply Kd.S_drew));exact Kd.S_mono HO1048.out (fun _ hk=>hk.1.2)⟩,⟨by (with_reducible repeat (first|refine zJ ?_ _|refine zK ?_|refine zL ?_ _));exact BK1027.out⟩,⟨by repeat (first|(with_reducible first|exact HB.out|apply zD|apply zE|apply zF|refine below_set ?_ GE1027.out)|exact HB.out)⟩⟩
            ·as_aux_lemma =>
             rw [if_neg c43] at H;have c43b0:(t1046 != t1051) = false:=by simpa using c43
             (try (have c43b1:decide (t1046 = t1051) = true:=by simpa using c43))
             (try (have c43b2:(t1046 == t1051) = true:=by simpa using c43))
             clear c43;(first|rw [c43b0]|(simp only [i64_w,i32_w];rw [c43b0])|skip)
             by_cases c44:t1045 = t1050
             ·as_aux_lemma =>
              rw [if_pos c44] at H;have c44b0:(t1045 == t1050) = true:=beq_iff_eq.mpr c44
              have c44b1:(t1045 != t1050) = false:=bne_eq_false_iff_eq.mpr c44
              clear c44;replace H:=Option.bind_eq_some_iff.mp H;obtain ⟨t1054,A450,H⟩:=H;replace H:(laws_FnColumns.j4 kj26 l0 t1040 t1041 t1044 t1045 t1046 (!t1054)) = some r:=H
              have A45:=zM A450;clear A450;have H':=zM H;clear H;obtain ⟨Ao46,co46,eo46⟩:=Kd.S_slice HO1048.out;subst eo46;obtain ⟨Ao47,co47,eo47⟩:=Kd.S_slice HO1053.out;subst eo47;go_wp2_with (first|(go_at_call 37;(with_reducible refine (laws_rTable.calls kj26 _ _ t1044 _ _ t1049 t1054 _ ?side1 ?side2 ?side3 ?side4 A45.out).mono ?_);(case side1=>repeat (first|exact (Kd.S_reads' HO1048.out).2.2|(with_reducible first|refine zG ?_ _|refine zH ?_ _|refine zI ?_)));(case side2=>exact (Kd.S_reads' HO1048.out).2.1);(case side3=>repeat (first|exact (Kd.S_reads' HO1053.out).2.2|(with_reducible first|refine zG ?_ _|refine zH ?_ _|refine zI ?_)));(case side4=>exact (Kd.S_reads' HO1053.out).2.1);rintro e w' ⟨rfl,⟨nd,rfl⟩⟩))
              go_meet
              case rel=>exact ⟨_,(!t1054),(by first|rfl|(simp;done)|(simp [*];done)),H',⟨by have:=HJ6.out;have:=HJ16.out;have:=HJ18.out;have:=HJ26.out;first|omega|exact Nat.le_refl _⟩,⟨by (with_reducible repeat (first|apply zA|apply zB|apply zC));exact HO1043.out⟩,⟨by (with_reducible repeat (first|apply Kd.S_alloc|apply Kd.S_drewN|apply Kd.S_drew));exact Kd.S_mono HO1048.out (fun _ hk=>hk.1.2)⟩,⟨by (with_reducible repeat (first|refine zJ ?_ _|refine zK ?_|refine zL ?_ _));exact BK1027.out⟩,⟨by repeat (first|(with_reducible first|exact HB.out|apply zD|apply zE|apply zF|refine below_set ?_ GE1027.out)|exact HB.out)⟩⟩
             ·as_aux_lemma =>
              rw [if_neg c44] at H;have c44b0:(t1045 == t1050) = false:=beq_eq_false_iff_ne.mpr c44
              have c44b1:(t1045 != t1050) = true:=bne_iff_ne.mpr c44
              have H':=zM H;clear H;go_wp2
              go_meet
              case rel=>exact ⟨_,(true),(by first|rfl|(simp;done)|(simp [*];done)),H',⟨by have:=HJ6.out;have:=HJ16.out;have:=HJ18.out;have:=HJ26.out;first|omega|exact Nat.le_refl _⟩,⟨by (with_reducible repeat (first|apply zA|apply zB|apply zC));exact HO1043.out⟩,⟨by (with_reducible repeat (first|apply Kd.S_alloc|apply Kd.S_drewN|apply Kd.S_drew));exact Kd.S_mono HO1048.out (fun _ hk=>hk.1.2)⟩,⟨by (with_reducible repeat (first|refine zJ ?_ _|refine zK ?_|refine zL ?_ _));exact BK1027.out⟩,⟨by repeat (first|(with_reducible first|exact HB.out|apply zD|apply zE|apply zF|refine below_set ?_ GE1027.out)|exact HB.out)⟩⟩
           case rest =>
            clear HC38;(try clear c1);(try clear c2);(try clear p2);(try clear c3);(try clear c4);(try clear p6);(try clear c10);(try clear c15);(try clear c15b0);(try clear c15b1);(try clear c16);(try clear c18);(try clear c20);(try clear c22);(try clear c23);(try clear c24);(try clear c25);(try clear c26);(try clear c28);(try clear c30);(try clear c34);(try clear c35);(try clear c36);(try clear c43);(try clear c43b0);(try clear c43b1);(try clear c43b2);(try clear c44);(try clear c44b0);(try clear c44b1);(try clear hcz10_0);(try clear hcz10_1);(try clear hcz10_2);(try clear hcz13_0);(try clear hcz13_1);(try clear hcz13_2);(try clear hcz23_0);(try clear hcz23_1);(try clear hcz23_2);(try clear hcz25_0);(try clear hcz25_1);(try clear hcz25_2);(try clear hcz31_0);(try clear hcz31_1);(try clear hcz31_2);(try clear hcz33_0);(try clear hcz33_1);(try clear hcz33_2);(try clear hfz10_0);(try clear hfz10_1);(try clear hfz10_2);(try clear hfz13_0);(try clear hfz13_1);(try clear hfz13_2);(try clear hfz23_0);(try clear hfz23_1);(try clear hfz23_2);(try clear hfz25_0);(try clear hfz25_1);(try clear hfz25_2);(try clear hfz31_0);(try clear hfz31_1);(try clear hfz31_2);(try clear hfz33_0);(try clear hfz33_1);(try clear hfz33_2);(try clear p2);(try clear p6);obtain ⟨kq,x119_37,rfl,HA,HJ37,HO_13,HO_15,BK1027,HB⟩:=hcut;cases kq with
            | zero=>exact absurd HA.out (by simp [laws_FnColumns.j4])
            | succ kj37 =>
             have H:=HA.out;clear HA;simp only [laws_FnColumns.j4] at H
             by_cases c48:x119_37 = true
             ·as_aux_lemma =>
              subst c48;have H1:(some false) = some r:=by rw [if_pos rfl] at H;exact H
              clear H;have H:=H1;clear H1;obtain rfl:=Option.some.inj H;go_wp2
              go_ret
              exact ⟨by first|rfl|(simp [errW_none,errW_some] <;> rfl)|(simp [*,errW_none,errW_some] <;> rfl),by repeat (first|(with_reducible first|exact HB.out|apply zD|apply zE|apply zF|refine below_set ?_ GE1027.out)|exact HB.out)⟩
             ·as_aux_lemma =>
              replace c48:=Bool.eq_false_iff.mpr c48;subst c48;have H1:(if t1046 = true then (laws_FnColumns.l0 kj37 l0 t1040 t1041 t1044 t1045 0 0 0 0) else (laws_FnColumns.j6 kj37 l0)) = some r:=by rw [if_neg (show ¬ (false = true) by decide)] at H;exact H
              clear H;have H:=H1;clear H1;have HC49:=zM H;clear H;go_upto_if 120 with (fail)
              go_cut [] (fun wc => ∃ (kq:Nat),Aside0 (laws_FnColumns.j6 kq l0 = some r) ∧ Aside0 (kq ≤ kj37) ∧ Aside0 (wc.heap[gb1027]? = some (.cells #[.int .i64 t1024,.int .i64 t1025,.int .i64 t1026] 28 (0,0))) ∧ Aside0 (Below w.heap.size w wc))
              case first =>
               have H:=HC49.out;clear HC49;by_cases c50:t1046 = true
               ·as_aux_lemma =>
                subst c50;have H1:(laws_FnColumns.l0 kj37 l0 t1040 t1041 t1044 t1045 0 0 0 0) = some r:=by rw [if_pos rfl] at H;exact H
                clear H;have H:=H1;clear H1;have H':=zM H;clear H;go_wp2
                go_loopg [21,22,23,24] kj37 (fun kq v21 v22 v23 v24 w' => ∃ (x21_6:Int) (x22_6:Int) (x23_6:Int) (x24_6:Int),v21 = .int .i64 x21_6 ∧ v22 = .int .i64 x22_6 ∧ v23 = .int .i64 x23_6 ∧ v24 = .int .i64 x24_6 ∧ Aside0 (laws_FnColumns.l0 kq l0 t1040 t1041 t1044 t1045 x21_6 x22_6 x23_6 x24_6 = some r) ∧ Aside0 (kq ≤ kj37) ∧ Aside0 (Kd.R (Kd.int .i64) 3 w' w.heap.size (fun _=>True) (.slice Ao40 t1040.length co40) t1040) ∧ Aside0 (Kd.S (Kd.slice 3 (Kd.int .i64)) 22 w' w.heap.size (fun k_=>some k_ ≠ ((.slice Ao40 t1040.length co40):Value).ownBlock) v1047 t1044) ∧ Aside0 (w'.heap[gb1027]? = some (.cells #[.int .i64 t1024,.int .i64 t1025,.int .i64 t1026] 28 (0,0))) ∧ Aside0 (Below w.heap.size w w'))
                case atStart=>exact ⟨(0),(0),(0),(0),(by first|rfl|(simp;done)|(simp [*];done)),(by first|rfl|(simp;done)|(simp [*];done)),(by first|rfl|(simp;done)|(simp [*];done)),(by first|rfl|(simp;done)|(simp [*];done)),H',⟨Nat.le_refl _⟩,⟨by (with_reducible repeat (first|apply zA|apply zB|apply zC));exact HO_13.out⟩,⟨by (with_reducible repeat (first|apply Kd.S_alloc|apply Kd.S_drewN|apply Kd.S_drew));exact HO_15.out⟩,⟨by (with_reducible repeat (first|refine zJ ?_ _|refine zK ?_|refine zL ?_ _));exact BK1027.out⟩,⟨by repeat (first|(with_reducible first|exact HB.out|apply zD|apply zE|apply zF|refine below_set ?_ GE1027.out)|exact HB.out)⟩⟩
                case round =>
                 clear H';(try clear c1);(try clear c2);(try clear p2);(try clear c3);(try clear c4);(try clear c5);(try clear p6);(try clear c10);(try clear c15);(try clear c15b0);(try clear c15b1);(try clear c16);(try clear c18);(try clear c20);(try clear c22);(try clear c23);(try clear c24);(try clear c25);(try clear c26);(try clear c28);(try clear c30);(try clear c34);(try clear c35);(try clear c36);(try clear c43);(try clear c43b0);(try clear c43b1);(try clear c43b2);(try clear c44);(try clear c44b0);(try clear c44b1);(try clear c48);(try clear c50);(try clear hcz10_0);(try clear hcz10_1);(try clear hcz10_2);(try clear hcz13_0);(try clear hcz13_1);(try clear hcz13_2);(try clear hcz23_0);(try clear hcz23_1);(try clear hcz23_2);(try clear hcz25_0);(try clear hcz25_1);(try clear hcz25_2);(try clear hcz31_0);(try clear hcz31_1);(try clear hcz31_2);(try clear hcz33_0);(try clear hcz33_1);(try clear hcz33_2);(try clear hfz10_0);(try clear hfz10_1);(try clear hfz10_2);(try clear hfz13_0);(try clear hfz13_1);(try clear hfz13_2);(try clear hfz23_0);(try clear hfz23_1);(try clear hfz23_2);(try clear hfz25_0);(try clear hfz25_1);(try clear hfz25_2);(try clear hfz31_0);(try clear hfz31_1);(try clear hfz31_2);(try clear hfz33_0);(try clear hfz33_1);(try clear hfz33_2);(try clear p2);(try clear p6);obtain ⟨x21_6,x22_6,x23_6,x24_6,rfl,rfl,rfl,rfl,HA,HK6,HO_13,HO_15,BK1027,HB⟩:=hrel;cases gk with
                 | zero=>exact absurd HA.out (by simp [laws_FnColumns.l0])
                 | succ k6 =>
                  have H:=HA.out;clear HA;simp only [laws_FnColumns.l0] at H
                  by_cases c51:x24_6 < (t1044.length:Int)
                  ·as_aux_lemma =>
                   rw [if_pos c51] at H;have c51b0:decide (x24_6 < (t1044.length:Int)) = true:=decide_eq_true c51
                   clear c51;(first|rw [c51b0]|(simp only [i64_w,i32_w];rw [c51b0])|skip)
                   by_cases c52:0 ≤ x24_6
                   ·as_aux_lemma =>
                    rw [if_pos c52] at H;have c52b0:decide (0 ≤ x24_6) = true:=decide_eq_true c52
                    clear c52;replace H:=Option.bind_eq_some_iff.mp H;obtain ⟨t1057,A530,H⟩:=H;replace H:(if t1057 > x22_6 then (if ((rd_L1 t1044 x24_6).length:Int) > 4 then (some false) else (laws_FnColumns.l0 k6 l0 t1040 t1041 t1044 t1045 (wrap64 (x21_6 + t1057)) t1057 (wrap64 (x23_6 + ((rd_L1 t1044 x24_6).length:Int))) (wrap64 (x24_6 + 1)))) else (if ((rd_L1 t1044 x24_6).length:Int) > 4 then (some false) else (laws_FnColumns.l0 k6 l0 t1040 t1041 t1044 t1045 (wrap64 (x21_6 + t1057)) x22_6 (wrap64 (x23_6 + ((rd_L1 t1044 x24_6).length:Int))) (wrap64 (x24_6 + 1))))) = some r:=H
                    have A53:=zM A530;clear A530;by_cases c54:t1057 > x22_6
                    ·as_aux_lemma =>
                     rw [if_pos c54] at H;have c54b0:decide (x22_6 < t1057) = true:=decide_eq_true c54
                     clear c54;by_cases c55:((rd_L1 t1044 x24_6).length:Int) > 4
                     ·as_aux_lemma =>
                      rw [if_pos c55] at H;have c55b0:decide (4 < ((rd_L1 t1044 x24_6).length:Int)) = true:=decide_eq_true c55
                      have c55b1:decide (4 < (rd_L1 t1044 x24_6).length) = true:=decide_eq_true (by omega)
                      clear c55;obtain rfl:=Option.some.inj H;obtain ⟨Ao56,co56,eo56⟩:=Kd.S_slice HO_15.out;subst eo56;have p1056:0 ≤ (x24_6:Int):=of_decide_eq_true (by first|(with_reducible assumption)|assumption)
                      have q1056:x24_6 < (t1044.length:Int):=of_decide_eq_true (by first|(with_reducible assumption)|assumption)
                      obtain ⟨ad1056,A1056_0,c1056_0,e1056,hx1056_0,hl1056_0,hi1056_0⟩:=at_L1 (Kd.S_reads' HO_15.out).2.2 x24_6 p1056 q1056;cases e1056
                      obtain ⟨ce1056,hce1056,hMe1056,hcc1056⟩:=Kd.S_get HO_15.out [] x24_6 p1056 (by first|exact q1056|exact of_decide_eq_true (by first|(with_reducible assumption)|assumption)|(have e_:=(Kd.S_reads' HO_15.out).1;omega))
                      obtain ⟨ve1056_0,rfl,ge1056_0⟩:=hMe1056;have hv1056_0:=hcc1056 0 _ rfl;rw [Nat.add_zero,show ((Kd.slice 3 (Kd.int .i64))).sz = 1 from rfl,Nat.mul_one] at hv1056_0
                      replace hv1056_0:=Option.some.inj (hv1056_0.symm.trans hx1056_0);rw [hv1056_0] at ge1056_0;have HL1056_0:=zM (show Kd.R (Kd.int .i64) 3 _ _ _ _ (rd_L1 t1044 x24_6) from ge1056_0)
                      clear hv1056_0 ge1056_0;clear hcc1056 hce1056;have HR1056_0:=zM hi1056_0;have HC1056_0:=zM hl1056_0;clear hi1056_0 hl1056_0;replace p1056:=eq_true p1056;replace q1056:=eq_true q1056;go_wp2_with (first|((with_reducible refine gate_callee (f:=38) rfl ?_);refine goesL_ (some 131) rfl rfl Try.func38 (by kernel_rfl) rfl #[.slice A1056_0 (rd_L1 t1044 x24_6).length c1056_0] rfl (by (try simp only [List.map_toArray,List.map_cons,List.map_nil]);first|done|rfl|(simp only [List.length_drop,List.length_take];rfl)) ?_;(with_reducible refine (laws_rSum.calls k6 _ _ (rd_L1 t1044 x24_6) t1057 _ ?side1 ?side2 A53.out).mono ?_);(case side1=>repeat (first|exact (by repeat (first|(with_reducible exact HR1056_0.out)|(with_reducible first|refine zG ?_ _|refine zH ?_ _|refine zI ?_)|exact HR1056_0.out))|(with_reducible first|refine zG ?_ _|refine zH ?_ _|refine zI ?_)));(case side2=>exact HC1056_0.out);rintro e w' ⟨rfl,⟨nd,rfl⟩⟩;refine ⟨_,rfl,?_⟩;have p1058:0 ≤ (x24_6:Int):=of_decide_eq_true (by first|(with_reducible assumption)|assumption);have q1058:x24_6 < (t1044.length:Int):=of_decide_eq_true (by first|(with_reducible assumption)|assumption);obtain ⟨ad1058,A1058_0,c1058_0,e1058,hx1058_0,hl1058_0,hi1058_0⟩:=at_L1 (Kd.S_reads' HO_15.out).2.2 x24_6 p1058 q1058;obtain rfl:ad1056 = ad1058:=(by injection e1058);obtain ⟨ce1058,hce1058,hMe1058,hcc1058⟩:=Kd.S_get HO_15.out [] x24_6 p1058 (by first|exact q1058|exact of_decide_eq_true (by first|(with_reducible assumption)|assumption)|(have e_:=(Kd.S_reads' HO_15.out).1;omega));obtain ⟨ve1058_0,rfl,ge1058_0⟩:=hMe1058;have hv1058_0:=hcc1058 0 _ rfl;rw [Nat.add_zero,show ((Kd.slice 3 (Kd.int .i64))).sz = 1 from rfl,Nat.mul_one] at hv1058_0;replace hv1058_0:=Option.some.inj (hv1058_0.symm.trans hx1058_0);rw [hv1058_0] at ge1058_0;have HL1058_0:=zM (show Kd.R (Kd.int .i64) 3 _ _ _ _ (rd_L1 t1044 x24_6) from ge1058_0);clear hv1058_0 ge1058_0;clear hcc1058 hce1058;have HR1058_0:=zM hi1058_0;have HC1058_0:=zM hl1058_0;clear hi1058_0 hl1058_0;replace p1058:=eq_true p1058;replace q1058:=eq_true q1058;have ea_:=Option.some.inj (hx1056_0.symm.trans hx1058_0);injection ea_ with ea_ en_ ec_;subst ea_;subst ec_;clear en_;have p1059:0 ≤ (x24_6:Int):=of_decide_eq_true (by first|(with_reducible assumption)|assumption);have q1059:x24_6 < (t1044.length:Int):=of_decide_eq_true (by first|(with_reducible assumption)|assumption);obtain ⟨ad1059,A1059_0,c1059_0,e1059,hx1059_0,hl1059_0,hi1059_0⟩:=at_L1 (Kd.S_reads' HO_15.out).2.2 x24_6 p1059 q1059;obtain rfl:ad1056 = ad1059:=(by injection e1059);obtain ⟨ce1059,hce1059,hMe1059,hcc1059⟩:=Kd.S_get HO_15.out [] x24_6 p1059 (by first|exact q1059|exact of_decide_eq_true (by first|(with_reducible assumption)|assumption)|(have e_:=(Kd.S_reads' HO_15.out).1;omega));obtain ⟨ve1059_0,rfl,ge1059_0⟩:=hMe1059;have hv1059_0:=hcc1059 0 _ rfl;rw [Nat.add_zero,show ((Kd.slice 3 (Kd.int .i64))).sz = 1 from rfl,Nat.mul_one] at hv1059_0;replace hv1059_0:=Option.some.inj (hv1059_0.symm.trans hx1059_0);rw [hv1059_0] at ge1059_0;have HL1059_0:=zM (show Kd.R (Kd.int .i64) 3 _ _ _ _ (rd_L1 t1044 x24_6) from ge1059_0);clear hv1059_0 ge1059_0;clear hcc1059 hce1059;have HR1059_0:=zM hi1059_0;have HC1059_0:=zM hl1059_0;clear hi1059_0 hl1059_0;replace p1059:=eq_true p1059;replace q1059:=eq_true q1059;have ea_:=Option.some.inj (hx1056_0.symm.trans hx1059_0);injection ea_ with ea_ en_ ec_;subst ea_;subst ec_;clear en_))
                      go_ret
                      exact ⟨by first|rfl|(simp [errW_none,errW_some] <;> rfl)|(simp [*,errW_none,errW_some] <;> rfl),by repeat (first|(with_reducible first|exact HB.out|apply zD|apply zE|apply zF|refine below_set ?_ GE1027.out)|exact HB.out)⟩
                     ·as_aux_lemma =>
                      rw [if_neg c55] at H;have c55b0:decide (4 < ((rd_L1 t1044 x24_6).length:Int)) = false:=decide_eq_false c55
                      have c55b1:decide (4 < (rd_L1 t1044 x24_6).length) = false:=decide_eq_false (by omega)
                      clear c55;have H':=zM H;clear H;obtain ⟨Ao57,co57,eo57⟩:=Kd.S_slice HO_15.out;subst eo57;have p1056:0 ≤ (x24_6:Int):=of_decide_eq_true (by first|(with_reducible assumption)|assumption)
                      have q1056:x24_6 < (t1044.length:Int):=of_decide_eq_true (by first|(with_reducible assumption)|assumption)
                      obtain ⟨ad1056,A1056_0,c1056_0,e1056,hx1056_0,hl1056_0,hi1056_0⟩:=at_L1 (Kd.S_reads' HO_15.out).2.2 x24_6 p1056 q1056;cases e1056
                      obtain ⟨ce1056,hce1056,hMe1056,hcc1056⟩:=Kd.S_get HO_15.out [] x24_6 p1056 (by first|exact q1056|exact of_decide_eq_true (by first|(with_reducible assumption)|assumption)|(have e_:=(Kd.S_reads' HO_15.out).1;omega))
                      obtain ⟨ve1056_0,rfl,ge1056_0⟩:=hMe1056;have hv1056_0:=hcc1056 0 _ rfl;rw [Nat.add_zero,show ((Kd.slice 3 (Kd.int .i64))).sz = 1 from rfl,Nat.mul_one] at hv1056_0
                      replace hv1056_0:=Option.some.inj (hv1056_0.symm.trans hx1056_0);rw [hv1056_0] at ge1056_0;have HL1056_0:=zM (show Kd.R (Kd.int .i64) 3 _ _ _ _ (rd_L1 t1044 x24_6) from ge1056_0)
                      clear hv1056_0 ge1056_0;clear hcc1056 hce1056;have HR1056_0:=zM hi1056_0;have HC1056_0:=zM hl1056_0;clear hi1056_0 hl1056_0;replace p1056:=eq_true p1056;replace q1056:=eq_true q1056;go_wp2_with (first|((with_reducible refine gate_callee (f:=38) rfl ?_);refine goesL_ (some 131) rfl rfl Try.func38 (by kernel_rfl) rfl #[.slice A1056_0 (rd_L1 t1044 x24_6).length c1056_0] rfl (by (try simp only [List.map_toArray,List.map_cons,List.map_nil]);first|done|rfl|(simp only [List.length_drop,List.length_take];rfl)) ?_;(with_reducible refine (laws_rSum.calls k6 _ _ (rd_L1 t1044 x24_6) t1057 _ ?side1 ?side2 A53.out).mono ?_);(case side1=>repeat (first|exact (by repeat (first|(with_reducible exact HR1056_0.out)|(with_reducible first|refine zG ?_ _|refine zH ?_ _|refine zI ?_)|exact HR1056_0.out))|(with_reducible first|refine zG ?_ _|refine zH ?_ _|refine zI ?_)));(case side2=>exact HC1056_0.out);rintro e w' ⟨rfl,⟨nd,rfl⟩⟩;refine ⟨_,rfl,?_⟩;have p1058:0 ≤ (x24_6:Int):=of_decide_eq_true (by first|(with_reducible assumption)|assumption);have q1058:x24_6 < (t1044.length:Int):=of_decide_eq_true (by first|(with_reducible assumption)|assumption);obtain ⟨ad1058,A1058_0,c1058_0,e1058,hx1058_0,hl1058_0,hi1058_0⟩:=at_L1 (Kd.S_reads' HO_15.out).2.2 x24_6 p1058 q1058;obtain rfl:ad1056 = ad1058:=(by injection e1058);obtain ⟨ce1058,hce1058,hMe1058,hcc1058⟩:=Kd.S_get HO_15.out [] x24_6 p1058 (by first|exact q1058|exact of_decide_eq_true (by first|(with_reducible assumption)|assumption)|(have e_:=(Kd.S_reads' HO_15.out).1;omega));obtain ⟨ve1058_0,rfl,ge1058_0⟩:=hMe1058;have hv1058_0:=hcc1058 0 _ rfl;rw [Nat.add_zero,show ((Kd.slice 3 (Kd.int .i64))).sz = 1 from rfl,Nat.mul_one] at hv1058_0;replace hv1058_0:=Option.some.inj (hv1058_0.symm.trans hx1058_0);rw [hv1058_0] at ge1058_0;have HL1058_0:=zM (show Kd.R (Kd.int .i64) 3 _ _ _ _ (rd_L1 t1044 x24_6) from ge1058_0);clear hv1058_0 ge1058_0;clear hcc1058 hce1058;have HR1058_0:=zM hi1058_0;have HC1058_0:=zM hl1058_0;clear hi1058_0 hl1058_0;replace p1058:=eq_true p1058;replace q1058:=eq_true q1058;have ea_:=Option.some.inj (hx1056_0.symm.trans hx1058_0);injection ea_ with ea_ en_ ec_;subst ea_;subst ec_;clear en_;have p1059:0 ≤ (x24_6:Int):=of_decide_eq_true (by first|(with_reducible assumption)|assumption);have q1059:x24_6 < (t1044.length:Int):=of_decide_eq_true (by first|(with_reducible assumption)|assumption);obtain ⟨ad1059,A1059_0,c1059_0,e1059,hx1059_0,hl1059_0,hi1059_0⟩:=at_L1 (Kd.S_reads' HO_15.out).2.2 x24_6 p1059 q1059;obtain rfl:ad1056 = ad1059:=(by injection e1059);obtain ⟨ce1059,hce1059,hMe1059,hcc1059⟩:=Kd.S_get HO_15.out [] x24_6 p1059 (by first|exact q1059|exact of_decide_eq_true (by first|(with_reducible assumption)|assumption)|(have e_:=(Kd.S_reads' HO_15.out).1;omega));obtain ⟨ve1059_0,rfl,ge1059_0⟩:=hMe1059;have hv1059_0:=hcc1059 0 _ rfl;rw [Nat.add_zero,show ((Kd.slice 3 (Kd.int .i64))).sz = 1 from rfl,Nat.mul_one] at hv1059_0;replace hv1059_0:=Option.some.inj (hv1059_0.symm.trans hx1059_0);rw [hv1059_0] at ge1059_0;have HL1059_0:=zM (show Kd.R (Kd.int .i64) 3 _ _ _ _ (rd_L1 t1044 x24_6) from ge1059_0);clear hv1059_0 ge1059_0;clear hcc1059 hce1059;have HR1059_0:=zM hi1059_0;have HC1059_0:=zM hl1059_0;clear hi1059_0 hl1059_0;replace p1059:=eq_true p1059;replace q1059:=eq_true q1059;have ea_:=Option.some.inj (hx1056_0.symm.trans hx1059_0);injection ea_ with ea_ en_ ec_;subst ea_;subst ec_;clear en_))
                      go_roundg k6
                      case measure=>have:=HJ6.out;have:=HJ16.out;have:=HJ18.out;have:=HJ26.out;have:=HJ37.out;have:=HK6.out;omega
                      case rel=>exact ⟨(wrap64 (x21_6 + t1057)),(t1057),(wrap64 (x23_6 + ((rd_L1 t1044 x24_6).length:Int))),(wrap64 (x24_6 + 1)),(by first|rfl|(simp;done)|(simp [*];done)),(by first|rfl|(simp;done)|(simp [*];done)),(by first|rfl|(simp;done)|(simp [*];done)),(by first|rfl|(simp;done)|(simp [*];done)),H',⟨by have:=HJ6.out;have:=HJ16.out;have:=HJ18.out;have:=HJ26.out;have:=HJ37.out;have:=HK6.out;omega⟩,⟨by (with_reducible repeat (first|apply zA|apply zB|apply zC));exact HO_13.out⟩,⟨by (with_reducible repeat (first|apply Kd.S_alloc|apply Kd.S_drewN|apply Kd.S_drew));exact HO_15.out⟩,⟨by (with_reducible repeat (first|refine zJ ?_ _|refine zK ?_|refine zL ?_ _));exact BK1027.out⟩,⟨by repeat (first|(with_reducible first|exact HB.out|apply zD|apply zE|apply zF|refine below_set ?_ GE1027.out)|exact HB.out)⟩⟩
                    ·as_aux_lemma =>
                     rw [if_neg c54] at H;have c54b0:decide (x22_6 < t1057) = false:=decide_eq_false c54
                     clear c54;by_cases c58:((rd_L1 t1044 x24_6).length:Int) > 4
                     ·as_aux_lemma =>
                      rw [if_pos c58] at H;have c58b0:decide (4 < ((rd_L1 t1044 x24_6).length:Int)) = true:=decide_eq_true c58
                      have c58b1:decide (4 < (rd_L1 t1044 x24_6).length) = true:=decide_eq_true (by omega)
                      clear c58;obtain rfl:=Option.some.inj H;obtain ⟨Ao59,co59,eo59⟩:=Kd.S_slice HO_15.out;subst eo59;have p1056:0 ≤ (x24_6:Int):=of_decide_eq_true (by first|(with_reducible assumption)|assumption)
                      have q1056:x24_6 < (t1044.length:Int):=of_decide_eq_true (by first|(with_reducible assumption)|assumption)
                      obtain ⟨ad1056,A1056_0,c1056_0,e1056,hx1056_0,hl1056_0,hi1056_0⟩:=at_L1 (Kd.S_reads' HO_15.out).2.2 x24_6 p1056 q1056;cases e1056
                      obtain ⟨ce1056,hce1056,hMe1056,hcc1056⟩:=Kd.S_get HO_15.out [] x24_6 p1056 (by first|exact q1056|exact of_decide_eq_true (by first|(with_reducible assumption)|assumption)|(have e_:=(Kd.S_reads' HO_15.out).1;omega))
                      obtain ⟨ve1056_0,rfl,ge1056_0⟩:=hMe1056;have hv1056_0:=hcc1056 0 _ rfl;rw [Nat.add_zero,show ((Kd.slice 3 (Kd.int .i64))).sz = 1 from rfl,Nat.mul_one] at hv1056_0
                      replace hv1056_0:=Option.some.inj (hv1056_0.symm.trans hx1056_0);rw [hv1056_0] at ge1056_0;have HL1056_0:=zM (show Kd.R (Kd.int .i64) 3 _ _ _ _ (rd_L1 t1044 x24_6) from ge1056_0)
                      clear hv1056_0 ge1056_0;clear hcc1056 hce1056;have HR1056_0:=zM hi1056_0;have HC1056_0:=zM hl1056_0;clear hi1056_0 hl1056_0;replace p1056:=eq_true p1056;replace q1056:=eq_true q1056;go_wp2_with (first|((with_reducible refine gate_callee (f:=38) rfl ?_);refine goesL_ (some 131) rfl rfl Try.func38 (by kernel_rfl) rfl #[.slice A1056_0 (rd_L1 t1044 x24_6).length c1056_0] rfl (by (try simp only [List.map_toArray,List.map_cons,List.map_nil]);first|done|rfl|(simp only [List.length_drop,List.length_take];rfl)) ?_;(with_reducible refine (laws_rSum.calls k6 _ _ (rd_L1 t1044 x24_6) t1057 _ ?side1 ?side2 A53.out).mono ?_);(case side1=>repeat (first|exact (by repeat (first|(with_reducible exact HR1056_0.out)|(with_reducible first|refine zG ?_ _|refine zH ?_ _|refine zI ?_)|exact HR1056_0.out))|(with_reducible first|refine zG ?_ _|refine zH ?_ _|refine zI ?_)));(case side2=>exact HC1056_0.out);rintro e w' ⟨rfl,⟨nd,rfl⟩⟩;refine ⟨_,rfl,?_⟩;have p1058:0 ≤ (x24_6:Int):=of_decide_eq_true (by first|(with_reducible assumption)|assumption);have q1058:x24_6 < (t1044.length:Int):=of_decide_eq_true (by first|(with_reducible assumption)|assumption);obtain ⟨ad1058,A1058_0,c1058_0,e1058,hx1058_0,hl1058_0,hi1058_0⟩:=at_L1 (Kd.S_reads' HO_15.out).2.2 x24_6 p1058 q1058;obtain rfl:ad1056 = ad1058:=(by injection e1058);obtain ⟨ce1058,hce1058,hMe1058,hcc1058⟩:=Kd.S_get HO_15.out [] x24_6 p1058 (by first|exact q1058|exact of_decide_eq_true (by first|(with_reducible assumption)|assumption)|(have e_:=(Kd.S_reads' HO_15.out).1;omega));obtain ⟨ve1058_0,rfl,ge1058_0⟩:=hMe1058;have hv1058_0:=hcc1058 0 _ rfl;rw [Nat.add_zero,show ((Kd.slice 3 (Kd.int .i64))).sz = 1 from rfl,Nat.mul_one] at hv1058_0;replace hv1058_0:=Option.some.inj (hv1058_0.symm.trans hx1058_0);rw [hv1058_0] at ge1058_0;have HL1058_0:=zM (show Kd.R (Kd.int .i64) 3 _ _ _ _ (rd_L1 t1044 x24_6) from ge1058_0);clear hv1058_0 ge1058_0;clear hcc1058 hce1058;have HR1058_0:=zM hi1058_0;have HC1058_0:=zM hl1058_0;clear hi1058_0 hl1058_0;replace p1058:=eq_true p1058;replace q1058:=eq_true q1058;have ea_:=Option.some.inj (hx1056_0.symm.trans hx1058_0);injection ea_ with ea_ en_ ec_;subst ea_;subst ec_;clear en_;have p1060:0 ≤ (x24_6:Int):=of_decide_eq_true (by first|(with_reducible assumption)|assumption);have q1060:x24_6 < (t1044.length:Int):=of_decide_eq_true (by first|(with_reducible assumption)|assumption);obtain ⟨ad1060,A1060_0,c1060_0,e1060,hx1060_0,hl1060_0,hi1060_0⟩:=at_L1 (Kd.S_reads' HO_15.out).2.2 x24_6 p1060 q1060;obtain rfl:ad1056 = ad1060:=(by injection e1060);obtain ⟨ce1060,hce1060,hMe1060,hcc1060⟩:=Kd.S_get HO_15.out [] x24_6 p1060 (by first|exact q1060|exact of_decide_eq_true (by first|(with_reducible assumption)|assumption)|(have e_:=(Kd.S_reads' HO_15.out).1;omega));obtain ⟨ve1060_0,rfl,ge1060_0⟩:=hMe1060;have hv1060_0:=hcc1060 0 _ rfl;rw [Nat.add_zero,show ((Kd.slice 3 (Kd.int .i64))).sz = 1 from rfl,Nat.mul_one] at hv1060_0;replace hv1060_0:=Option.some.inj (hv1060_0.symm.trans hx1060_0);rw [hv1060_0] at ge1060_0;have HL1060_0:=zM (show Kd.R (Kd.int .i64) 3 _ _ _ _ (rd_L1 t1044 x24_6) from ge1060_0);clear hv1060_0 ge1060_0;clear hcc1060 hce1060;have HR1060_0:=zM hi1060_0;have HC1060_0:=zM hl1060_0;clear hi1060_0 hl1060_0;replace p1060:=eq_true p1060;replace q1060:=eq_true q1060;have ea_:=Option.some.inj (hx1056_0.symm.trans hx1060_0);injection ea_ with ea_ en_ ec_;subst ea_;subst ec_;clear en_))
                      go_ret
                      exact ⟨by first|rfl|(simp [errW_none,errW_some] <;> rfl)|(simp [*,errW_none,errW_some] <;> rfl),by repeat (first|(with_reducible first|exact HB.out|apply zD|apply zE|apply zF|refine below_set ?_ GE1027.out)|exact HB.out)⟩
                     ·as_aux_lemma =>
                      rw [if_neg c58] at H;have c58b0:decide (4 < ((rd_L1 t1044 x24_6).length:Int)) = false:=decide_eq_false c58
                      have c58b1:decide (4 < (rd_L1 t1044 x24_6).length) = false:=decide_eq_false (by omega)
                      clear c58;have H':=zM H;clear H;obtain ⟨Ao60,co60,eo60⟩:=Kd.S_slice HO_15.out;subst eo60;have p1056:0 ≤ (x24_6:Int):=of_decide_eq_true (by first|(with_reducible assumption)|assumption)
                      have q1056:x24_6 < (t1044.length:Int):=of_decide_eq_true (by first|(with_reducible assumption)|assumption)
                      obtain ⟨ad1056,A1056_0,c1056_0,e1056,hx1056_0,hl1056_0,hi1056_0⟩:=at_L1 (Kd.S_reads' HO_15.out).2.2 x24_6 p1056 q1056;cases e1056
                      obtain ⟨ce1056,hce1056,hMe1056,hcc1056⟩:=Kd.S_get HO_15.out [] x24_6 p1056 (by first|exact q1056|exact of_decide_eq_true (by first|(with_reducible assumption)|assumption)|(have e_:=(Kd.S_reads' HO_15.out).1;omega))
                      obtain ⟨ve1056_0,rfl,ge1056_0⟩:=hMe1056;have hv1056_0:=hcc1056 0 _ rfl;rw [Nat.add_zero,show ((Kd.slice 3 (Kd.int .i64))).sz = 1 from rfl,Nat.mul_one] at hv1056_0
                      replace hv1056_0:=Option.some.inj (hv1056_0.symm.trans hx1056_0);rw [hv1056_0] at ge1056_0;have HL1056_0:=zM (show Kd.R (Kd.int .i64) 3 _ _ _ _ (rd_L1 t1044 x24_6) from ge1056_0)
                      clear hv1056_0 ge1056_0;clear hcc1056 hce1056;have HR1056_0:=zM hi1056_0;have HC1056_0:=zM hl1056_0;clear hi1056_0 hl1056_0;replace p1056:=eq_true p1056;replace q1056:=eq_true q1056;go_wp2_with (first|((with_reducible refine gate_callee (f:=38) rfl ?_);refine goesL_ (some 131) rfl rfl Try.func38 (by kernel_rfl) rfl #[.slice A1056_0 (rd_L1 t1044 x24_6).length c1056_0] rfl (by (try simp only [List.map_toArray,List.map_cons,List.map_nil]);first|done|rfl|(simp only [List.length_drop,List.length_take];rfl)) ?_;(with_reducible refine (laws_rSum.calls k6 _ _ (rd_L1 t1044 x24_6) t1057 _ ?side1 ?side2 A53.out).mono ?_);(case side1=>repeat (first|exact (by repeat (first|(with_reducible exact HR1056_0.out)|(with_reducible first|refine zG ?_ _|refine zH ?_ _|refine zI ?_)|exact HR1056_0.out))|(with_reducible first|refine zG ?_ _|refine zH ?_ _|refine zI ?_)));(case side2=>exact HC1056_0.out);rintro e w' ⟨rfl,⟨nd,rfl⟩⟩;refine ⟨_,rfl,?_⟩;have p1058:0 ≤ (x24_6:Int):=of_decide_eq_true (by first|(with_reducible assumption)|assumption);have q1058:x24_6 < (t1044.length:Int):=of_decide_eq_true (by first|(with_reducible assumption)|assumption);obtain ⟨ad1058,A1058_0,c1058_0,e1058,hx1058_0,hl1058_0,hi1058_0⟩:=at_L1 (Kd.S_reads' HO_15.out).2.2 x24_6 p1058 q1058;obtain rfl:ad1056 = ad1058:=(by injection e1058);obtain ⟨ce1058,hce1058,hMe1058,hcc1058⟩:=Kd.S_get HO_15.out [] x24_6 p1058 (by first|exact q1058|exact of_decide_eq_true (by first|(with_reducible assumption)|assumption)|(have e_:=(Kd.S_reads' HO_15.out).1;omega));obtain ⟨ve1058_0,rfl,ge1058_0⟩:=hMe1058;have hv1058_0:=hcc1058 0 _ rfl;rw [Nat.add_zero,show ((Kd.slice 3 (Kd.int .i64))).sz = 1 from rfl,Nat.mul_one] at hv1058_0;replace hv1058_0:=Option.some.inj (hv1058_0.symm.trans hx1058_0);rw [hv1058_0] at ge1058_0;have HL1058_0:=zM (show Kd.R (Kd.int .i64) 3 _ _ _ _ (rd_L1 t1044 x24_6) from ge1058_0);clear hv1058_0 ge1058_0;clear hcc1058 hce1058;have HR1058_0:=zM hi1058_0;have HC1058_0:=zM hl1058_0;clear hi1058_0 hl1058_0;replace p1058:=eq_true p1058;replace q1058:=eq_true q1058;have ea_:=Option.some.inj (hx1056_0.symm.trans hx1058_0);injection ea_ with ea_ en_ ec_;subst ea_;subst ec_;clear en_;have p1060:0 ≤ (x24_6:Int):=of_decide_eq_true (by first|(with_reducible assumption)|assumption);have q1060:x24_6 < (t1044.length:Int):=of_decide_eq_true (by first|(with_reducible assumption)|assumption);obtain ⟨ad1060,A1060_0,c1060_0,e1060,hx1060_0,hl1060_0,hi1060_0⟩:=at_L1 (Kd.S_reads' HO_15.out).2.2 x24_6 p1060 q1060;obtain rfl:ad1056 = ad1060:=(by injection e1060);obtain ⟨ce1060,hce1060,hMe1060,hcc1060⟩:=Kd.S_get HO_15.out [] x24_6 p1060 (by first|exact q1060|exact of_decide_eq_true (by first|(with_reducible assumption)|assumption)|(have e_:=(Kd.S_reads' HO_15.out).1;omega));obtain ⟨ve1060_0,rfl,ge1060_0⟩:=hMe1060;have hv1060_0:=hcc1060 0 _ rfl;rw [Nat.add_zero,show ((Kd.slice 3 (Kd.int .i64))).sz = 1 from rfl,Nat.mul_one] at hv1060_0;replace hv1060_0:=Option.some.inj (hv1060_0.symm.trans hx1060_0);rw [hv1060_0] at ge1060_0;have HL1060_0:=zM (show Kd.R (Kd.int .i64) 3 _ _ _ _ (rd_L1 t1044 x24_6) from ge1060_0);clear hv1060_0 ge1060_0;clear hcc1060 hce1060;have HR1060_0:=zM hi1060_0;have HC1060_0:=zM hl1060_0;clear hi1060_0 hl1060_0;replace p1060:=eq_true p1060;replace q1060:=eq_true q1060;have ea_:=Option.some.inj (hx1056_0.symm.trans hx1060_0);injection ea_ with ea_ en_ ec_;subst ea_;subst ec_;clear en_))
                      go_roundg k6
                      case measure=>have:=HJ6.out;have:=HJ16.out;have:=HJ18.out;have:=HJ26.out;have:=HJ37.out;have:=HK6.out;omega
                      case rel=>exact ⟨(wrap64 (x21_6 + t1057)),(x22_6),(wrap64 (x23_6 + ((rd_L1 t1044 x24_6).length:Int))),(wrap64 (x24_6 + 1)),(by first|rfl|(simp;done)|(simp [*];done)),(by first|rfl|(simp;done)|(simp [*];done)),(by first|rfl|(simp;done)|(simp [*];done)),(by first|rfl|(simp;done)|(simp [*];done)),H',⟨by have:=HJ6.out;have:=HJ16.out;have:=HJ18.out;have:=HJ26.out;have:=HJ37.out;have:=HK6.out;omega⟩,⟨by (with_reducible repeat (first|apply zA|apply zB|apply zC));exact HO_13.out⟩,⟨by (with_reducible repeat (first|apply Kd.S_alloc|apply Kd.S_drewN|apply Kd.S_drew));exact HO_15.out⟩,⟨by (with_reducible repeat (first|refine zJ ?_ _|refine zK ?_|refine zL ?_ _));exact BK1027.out⟩,⟨by repeat (first|(with_reducible first|exact HB.out|apply zD|apply zE|apply zF|refine below_set ?_ GE1027.out)|exact HB.out)⟩⟩
                   ·as_aux_lemma =>
                    rw [if_neg c52] at H;exact absurd H (by simp)
                  ·as_aux_lemma =>
                   rw [if_neg c51] at H;have c51b0:decide (x24_6 < (t1044.length:Int)) = false:=decide_eq_false c51
                   clear c51;(first|rw [c51b0]|(simp only [i64_w,i32_w];rw [c51b0])|skip)
                   replace H:=Option.bind_eq_some_iff.mp H;obtain ⟨t1055,A610,H⟩:=H;replace H:(if x21_6 = t1055 then (if x23_6 = (t1040.length:Int) then (if x22_6 = t1045 then (if (wrap64 (t1045 * t1041)) < x21_6 then (some false) else (if (t1044.length:Int) = t1041 then (laws_FnColumns.j6 k6 l0) else (some false))) else (some false)) else (some false)) else (some false)) = some r:=H
                   have A61:=zM A610;clear A610;by_cases c62:x21_6 = t1055
                   ·as_aux_lemma =>
                    rw [if_pos c62] at H;have c62b0:(x21_6 == t1055) = true:=beq_iff_eq.mpr c62
                    have c62b1:(x21_6 != t1055) = false:=bne_eq_false_iff_eq.mpr c62
                    clear c62;by_cases c63:x23_6 = (t1040.length:Int)
                    ·as_aux_lemma =>
                     rw [if_pos c63] at H;have c63b0:(x23_6 == (t1040.length:Int)) = true:=beq_iff_eq.mpr c63
                     have c63b1:(x23_6 != (t1040.length:Int)) = false:=bne_eq_false_iff_eq.mpr c63
                     clear c63;by_cases c64:x22_6 = t1045
                     ·as_aux_lemma =>
                      rw [if_pos c64] at H;have c64b0:(x22_6 == t1045) = true:=beq_iff_eq.mpr c64
                      have c64b1:(x22_6 != t1045) = false:=bne_eq_false_iff_eq.mpr c64
                      clear c64;by_cases c65:(wrap64 (t1045 * t1041)) < x21_6
                      ·as_aux_lemma =>
                       rw [if_pos c65] at H;have c65b0:decide ((wrap64 (t1045 * t1041)) < x21_6) = true:=decide_eq_true c65
                       clear c65;obtain rfl:=Option.some.inj H;obtain ⟨Ao66,co66,eo66⟩:=Kd.S_slice HO_15.out;subst eo66;go_wp2_with (first|((with_reducible refine gate_callee (f:=38) rfl ?_);refine goesL_ (some 154) rfl rfl Try.func38 (by kernel_rfl) rfl #[.slice Ao40 t1040.length co40] rfl (by (try simp only [List.map_toArray,List.map_cons,List.map_nil]);first|done|rfl|(simp only [List.length_drop,List.length_take];rfl)) ?_;(with_reducible refine (laws_rSum.calls k6 _ _ t1040 t1055 _ ?side1 ?side2 A61.out).mono ?_);(case side1=>repeat (first|exact (zN HO_13.out).2.2|(with_reducible first|refine zG ?_ _|refine zH ?_ _|refine zI ?_)));(case side2=>exact (zN HO_13.out).2.1);rintro e w' ⟨rfl,⟨nd,rfl⟩⟩;refine ⟨_,rfl,?_⟩))
                       go_ret
                       exact ⟨by first|rfl|(simp [errW_none,errW_some] <;> rfl)|(simp [*,errW_none,errW_some] <;> rfl),by repeat (first|(with_reducible first|exact HB.out|apply zD|apply zE|apply zF|refine below_set ?_ GE1027.out)|exact HB.out)⟩
                      ·as_aux_lemma =>
                       rw [if_neg c65] at H;have c65b0:decide ((wrap64 (t1045 * t1041)) < x21_6) = false:=decide_eq_false c65
                       clear c65;by_cases c67:(t1044.length:Int) = t1041
                       ·as_aux_lemma =>
                        rw [if_pos c67] at H;have c67b0:((t1044.length:Int) == t1041) = true:=beq_iff_eq.mpr c67
                        have c67b1:((t1044.length:Int) != t1041) = false:=bne_eq_false_iff_eq.mpr c67
                        clear c67;have H':=zM H;clear H;obtain ⟨Ao68,co68,eo68⟩:=Kd.S_slice HO_15.out;subst eo68;go_wp2_with (first|((with_reducible refine gate_callee (f:=38) rfl ?_);refine goesL_ (some 154) rfl rfl Try.func38 (by kernel_rfl) rfl #[.slice Ao40 t1040.length co40] rfl (by (try simp only [List.map_toArray,List.map_cons,List.map_nil]);first|done|rfl|(simp only [List.length_drop,List.length_take];rfl)) ?_;(with_reducible refine (laws_rSum.calls k6 _ _ t1040 t1055 _ ?side1 ?side2 A61.out).mono ?_);(case side1=>repeat (first|exact (zN HO_13.out).2.2|(with_reducible first|refine zG ?_ _|refine zH ?_ _|refine zI ?_)));(case side2=>exact (zN HO_13.out).2.1);rintro e w' ⟨rfl,⟨nd,rfl⟩⟩;refine ⟨_,rfl,?_⟩))
                        go_meet
                        case rel=>exact ⟨_,H',⟨by have:=HJ6.out;have:=HJ16.out;have:=HJ18.out;have:=HJ26.out;have:=HJ37.out;have:=HK6.out;first|omega|exact Nat.le_refl _⟩,⟨by (with_reducible repeat (first|refine zJ ?_ _|refine zK ?_|refine zL ?_ _));exact BK1027.out⟩,⟨by repeat (first|(with_reducible first|exact HB.out|apply zD|apply zE|apply zF|refine below_set ?_ GE1027.out)|exact HB.out)⟩⟩
                       ·as_aux_lemma =>
                        rw [if_neg c67] at H;have c67b0:((t1044.length:Int) == t1041) = false:=beq_eq_false_iff_ne.mpr c67
                        have c67b1:((t1044.length:Int) != t1041) = true:=bne_iff_ne.mpr c67
                        obtain rfl:=Option.some.inj H;obtain ⟨Ao69,co69,eo69⟩:=Kd.S_slice HO_15.out;subst eo69;go_wp2_with (first|((with_reducible refine gate_callee (f:=38) rfl ?_);refine goesL_ (some 154) rfl rfl Try.func38 (by kernel_rfl) rfl #[.slice Ao40 t1040.length co40] rfl (by (try simp only [List.map_toArray,List.map_cons,List.map_nil]);first|done|rfl|(simp only [List.length_drop,List.length_take];rfl)) ?_;(with_reducible refine (laws_rSum.calls k6 _ _ t1040 t1055 _ ?side1 ?side2 A61.out).mono ?_);(case side1=>repeat (first|exact (zN HO_13.out).2.2|(with_reducible first|refine zG ?_ _|refine zH ?_ _|refine zI ?_)));(case side2=>exact (zN HO_13.out).2.1);rintro e w' ⟨rfl,⟨nd,rfl⟩⟩;refine ⟨_,rfl,?_⟩))
                        go_ret
                        exact ⟨by first|rfl|(simp [errW_none,errW_some] <;> rfl)|(simp [*,errW_none,errW_some] <;> rfl),by repeat (first|(with_reducible first|exact HB.out|apply zD|apply zE|apply zF|refine below_set ?_ GE1027.out)|exact HB.out)⟩
                     ·as_aux_lemma =>
                      rw [if_neg c64] at H;have c64b0:(x22_6 == t1045) = false:=beq_eq_false_iff_ne.mpr c64
                      have c64b1:(x22_6 != t1045) = true:=bne_iff_ne.mpr c64
                      obtain rfl:=Option.some.inj H;obtain ⟨Ao70,co70,eo70⟩:=Kd.S_slice HO_15.out;subst eo70;go_wp2_with (first|((with_reducible refine gate_callee (f:=38) rfl ?_);refine goesL_ (some 154) rfl rfl Try.func38 (by kernel_rfl) rfl #[.slice Ao40 t1040.length co40] rfl (by (try simp only [List.map_toArray,List.map_cons,List.map_nil]);first|done|rfl|(simp only [List.length_drop,List.length_take];rfl)) ?_;(with_reducible refine (laws_rSum.calls k6 _ _ t1040 t1055 _ ?side1 ?side2 A61.out).mono ?_);(case side1=>repeat (first|exact (zN HO_13.out).2.2|(with_reducible first|refine zG ?_ _|refine zH ?_ _|refine zI ?_)));(case side2=>exact (zN HO_13.out).2.1);rintro e w' ⟨rfl,⟨nd,rfl⟩⟩;refine ⟨_,rfl,?_⟩))
                      go_ret
                      exact ⟨by first|rfl|(simp [errW_none,errW_some] <;> rfl)|(simp [*,errW_none,errW_some] <;> rfl),by repeat (first|(with_reducible first|exact HB.out|apply zD|apply zE|apply zF|refine below_set ?_ GE1027.out)|exact HB.out)⟩
                    ·as_aux_lemma =>
                     rw [if_neg c63] at H;have c63b0:(x23_6 == (t1040.length:Int)) = false:=beq_eq_false_iff_ne.mpr c63
                     have c63b1:(x23_6 != (t1040.length:Int)) = true:=bne_iff_ne.mpr c63
                     obtain rfl:=Option.some.inj H;obtain ⟨Ao71,co71,eo71⟩:=Kd.S_slice HO_15.out;subst eo71;go_wp2_with (first|((with_reducible refine gate_callee (f:=38) rfl ?_);refine goesL_ (some 154) rfl rfl Try.func38 (by kernel_rfl) rfl #[.slice Ao40 t1040.length co40] rfl (by (try simp only [List.map_toArray,List.map_cons,List.map_nil]);first|done|rfl|(simp only [List.length_drop,List.length_take];rfl)) ?_;(with_reducible refine (laws_rSum.calls k6 _ _ t1040 t1055 _ ?side1 ?side2 A61.out).mono ?_);(case side1=>repeat (first|exact (zN HO_13.out).2.2|(with_reducible first|refine zG ?_ _|refine zH ?_ _|refine zI ?_)));(case side2=>exact (zN HO_13.out).2.1);rintro e w' ⟨rfl,⟨nd,rfl⟩⟩;refine ⟨_,rfl,?_⟩))
                     go_ret
                     exact ⟨by first|rfl|(simp [errW_none,errW_some] <;> rfl)|(simp [*,errW_none,errW_some] <;> rfl),by repeat (first|(with_reducible first|exact HB.out|apply zD|apply zE|apply zF|refine below_set ?_ GE1027.out)|exact HB.out)⟩
                   ·as_aux_lemma =>
                    rw [if_neg c62] at H;have c62b0:(x21_6 == t1055) = false:=beq_eq_false_iff_ne.mpr c62
                    have c62b1:(x21_6 != t1055) = true:=bne_iff_ne.mpr c62
                    obtain rfl:=Option.some.inj H;obtain ⟨Ao72,co72,eo72⟩:=Kd.S_slice HO_15.out;subst eo72;go_wp2_with (first|((with_reducible refine gate_callee (f:=38) rfl ?_);refine goesL_ (some 154) rfl rfl Try.func38 (by kernel_rfl) rfl #[.slice Ao40 t1040.length co40] rfl (by (try simp only [List.map_toArray,List.map_cons,List.map_nil]);first|done|rfl|(simp only [List.length_drop,List.length_take];rfl)) ?_;(with_reducible refine (laws_rSum.calls k6 _ _ t1040 t1055 _ ?side1 ?side2 A61.out).mono ?_);(case side1=>repeat (first|exact (zN HO_13.out).2.2|(with_reducible first|refine zG ?_ _|refine zH ?_ _|refine zI ?_)));(case side2=>exact (zN HO_13.out).2.1);rintro e w' ⟨rfl,⟨nd,rfl⟩⟩;refine ⟨_,rfl,?_⟩))
                    go_ret
                    exact ⟨by first|rfl|(simp [errW_none,errW_some] <;> rfl)|(simp [*,errW_none,errW_some] <;> rfl),by repeat (first|(with_reducible first|exact HB.out|apply zD|apply zE|apply zF|refine below_set ?_ GE1027.out)|exact HB.out)⟩
               ·as_aux_lemma =>
                replace c50:=Bool.eq_false_iff.mpr c50;subst c50;have H1:(laws_FnColumns.j6 kj37 l0) = some r:=by rw [if_neg (show ¬ (false = true) by decide)] at H;exact H
                clear H;have H:=H1;clear H1;have H':=zM H;clear H;go_wp2
                go_meet
                case rel=>exact ⟨_,H',⟨by have:=HJ6.out;have:=HJ16.out;have:=HJ18.out;have:=HJ26.out;have:=HJ37.out;first|omega|exact Nat.le_refl _⟩,⟨by (with_reducible repeat (first|refine zJ ?_ _|refine zK ?_|refine zL ?_ _));exact BK1027.out⟩,⟨by repeat (first|(with_reducible first|exact HB.out|apply zD|apply zE|apply zF|refine below_set ?_ GE1027.out)|exact HB.out)⟩⟩
              case rest =>
               clear HC49;(try clear c1);(try clear p1);(try clear q1);(try clear hx1);(try clear c2);(try clear p2);(try clear c3);(try clear c4);(try clear c5);(try clear c6);(try clear p6);(try clear c10);(try clear p10);(try clear q10);(try clear hx10);(try clear c15);(try clear c15b0);(try clear c15b1);(try clear c16);(try clear c18);(try clear c20);(try clear c22);(try clear c23);(try clear c24);(try clear c25);(try clear c26);(try clear c28);(try clear c30);(try clear c34);(try clear c35);(try clear c36);(try clear c38);(try clear c43);(try clear c43b0);(try clear c43b1);(try clear c43b2);(try clear c44);(try clear c44b0);(try clear c44b1);(try clear c48);(try clear c50);(try clear c51);(try clear c51b0);(try clear c52);(try clear c52b0);(try clear c54);(try clear c54b0);(try clear c55);(try clear c55b0);(try clear c55b1);(try clear c58);(try clear c58b0);(try clear c58b1);(try clear c62);(try clear c62b0);(try clear c62b1);(try clear c63);(try clear c63b0);(try clear c63b1);(try clear c64);(try clear c64b0);(try clear c64b1);(try clear p64);(try clear c65);(try clear c65b0);(try clear c67);(try clear c67b0);(try clear c67b1);(try clear hcz10_0);(try clear hcz10_1);(try clear hcz10_2);(try clear hcz13_0);(try clear hcz13_1);(try clear hcz13_2);(try clear hcz23_0);(try clear hcz23_1);(try clear hcz23_2);(try clear hcz25_0);(try clear hcz25_1);(try clear hcz25_2);(try clear hcz31_0);(try clear hcz31_1);(try clear hcz31_2);(try clear hcz33_0);(try clear hcz33_1);(try clear hcz33_2);(try clear hfz10_0);(try clear hfz10_1);(try clear hfz10_2);(try clear hfz13_0);(try clear hfz13_1);(try clear hfz13_2);(try clear hfz23_0);(try clear hfz23_1);(try clear hfz23_2);(try clear hfz25_0);(try clear hfz25_1);(try clear hfz25_2);(try clear hfz31_0);(try clear hfz31_1);(try clear hfz31_2);(try clear hfz33_0);(try clear hfz33_1);(try clear hfz33_2);(try clear hx1056_0);(try clear hx1058_0);(try clear hx1059_0);(try clear hx1060_0);(try clear p1056);(try clear p1058);(try clear p1059);(try clear p1060);(try clear p2);(try clear p6);(try clear q1056);(try clear q1058);(try clear q1059);(try clear q1060);obtain ⟨kq,HA,HJ48,BK1027,HB⟩:=hcut;cases kq with
               | zero=>exact absurd HA.out (by simp [laws_FnColumns.j6])
               | succ kj48 =>
                have H:=HA.out;clear HA;simp only [laws_FnColumns.j6] at H
                replace H:=Option.bind_eq_some_iff.mp H;obtain ⟨⟨t1061,t1064,t1065,t1066,t1067⟩,A730,H⟩:=H;replace H:((impl_AddOnTop.f kj48 t1061 t1064 t1065 t1066 t1067).bind fun bt1069=>((spec_AddOnTop.f kj48 t1061 t1064 t1065 t1066 t1067).bind fun bt1073=>(if (bt1069.2 != bt1073.2) = true then (laws_FnColumns.j7 kj48 t1061 t1064 bt1069.1 bt1069.2 true t1065 t1066 t1067) else ((laws_rInts.f kj48 bt1069.1 bt1073.1).bind fun t1077=>(laws_FnColumns.j7 kj48 t1061 t1064 bt1069.1 bt1069.2 (!t1077) t1065 t1066 t1067))))) = some r:=H
                have A73:=zM A730;clear A730;replace H:=Option.bind_eq_some_iff.mp H;obtain ⟨⟨t1069,t1072⟩,A740,H⟩:=H;replace H:((spec_AddOnTop.f kj48 t1061 t1064 t1065 t1066 t1067).bind fun bt1073=>(if (t1072 != bt1073.2) = true then (laws_FnColumns.j7 kj48 t1061 t1064 t1069 t1072 true t1065 t1066 t1067) else ((laws_rInts.f kj48 t1069 bt1073.1).bind fun t1077=>(laws_FnColumns.j7 kj48 t1061 t1064 t1069 t1072 (!t1077) t1065 t1066 t1067)))) = some r:=H
                have A74:=zM A740;clear A740;replace H:=Option.bind_eq_some_iff.mp H;obtain ⟨⟨t1073,t1076⟩,A750,H⟩:=H;replace H:(if (t1072 != t1076) = true then (laws_FnColumns.j7 kj48 t1061 t1064 t1069 t1072 true t1065 t1066 t1067) else ((laws_rInts.f kj48 t1069 t1073).bind fun t1077=>(laws_FnColumns.j7 kj48 t1061 t1064 t1069 t1072 (!t1077) t1065 t1066 t1067))) = some r:=H
                have A75:=zM A750;clear A750;have HC76:=zM H;clear H;go_upto_region 38 with (first|((with_reducible refine gate_callee (f:=39) rfl ?_);refine goesL_ (some 182) rfl rfl Try.func39 (by kernel_rfl) rfl #[.slice A0 l0.length c0] rfl (by (try simp only [List.map_toArray,List.map_cons,List.map_nil]);first|done|rfl|(simp only [List.length_drop,List.length_take];rfl)) ?_;(with_reducible refine (spec_DrawAddOnTop.calls kj48 _ _ l0 t1061 t1064 t1065 t1066 t1067 _ ?side1 ?side2 A73.out).mono ?_);(case side1=>repeat (first|exact (zO HR0.out HB.out)|(with_reducible first|refine zG ?_ _|refine zH ?_ _|refine zI ?_)));(case side2=>exact HC0.out);rintro e w77 ⟨v1062,rfl,ho0,hb⟩;refine ⟨_,rfl,?_⟩;have n0_:=zM (Kd.R_lower ho0 (zR (by repeat (first|(with_reducible first|exact HB.out|apply zD|apply zE|apply zF|refine below_set ?_ GE1027.out)|exact HB.out))));have n1_:=zM (blk_below (g:=gb1027) (o := .cells #[.int .i64 t1024,.int .i64 t1025,.int .i64 t1026] 28 (0,0)) (by (with_reducible repeat (first|refine zJ ?_ _|refine zK ?_|refine zL ?_ _));exact BK1027.out) hb);have n2_:=zM (zQ (by repeat (first|(with_reducible first|exact HB.out|apply zD|apply zE|apply zF|refine below_set ?_ GE1027.out)|exact HB.out)) hb);clear BK1027;clear HB;have HO1063:=n0_;have BK1027:=n1_;have HB:=n2_;clear n0_ n1_ n2_;(try clear hb);(try clear hb2);(try clear hk);(try clear hi);(try clear ho0))|((with_reducible refine gate_dst (N:=28) rfl ?_);(try (refine gate_guard (by rfl) ?_;dsimp only));refine box_event ?hg (N:=28) ?hd (cs := #[.int .i64 0,.int .i64 0,.int .i64 0]) (t:=28) ?hr ?_;(case hd=>rfl);(case hg=>rfl);(case hr=>first|(go_simp;done)|(go_simp;rfl));intro gb1068 hg w78 hbox hb;have n0_:=zM (zP (by (with_reducible repeat (first|apply zA|apply zB|apply zC));exact HO1063.out) hb);have n1_:=zM (blk_below (g:=gb1027) (o := .cells #[.int .i64 t1024,.int .i64 t1025,.int .i64 t1026] 28 (0,0)) (by (with_reducible repeat (first|refine zJ ?_ _|refine zK ?_|refine zL ?_ _));exact BK1027.out) hb);have n2_:=zM (zQ (by repeat (first|(with_reducible first|exact HB.out|apply zD|apply zE|apply zF|refine below_set ?_ GE1027.out)|exact HB.out)) hb);have n3_:=zM (hbox);have n4_:=zM ((by rw [hg];exact (zR (by repeat (first|(with_reducible first|exact HB.out|apply zD|apply zE|apply zF|refine below_set ?_ GE1027.out)|exact HB.out))):w.heap.size ≤ gb1068));have n5_:=zM ((by rw [hg];exact (zR (by repeat (first|(with_reducible first|exact HB.out|apply zD|apply zE|apply zF|refine below_set ?_ GE1027.out)|exact HB.out))):w.heap.size ≤ gb1068));have n6_:=zM ((by rw [hg];exact Nat.ne_of_lt (blk_lt (g:=gb1027) (o := .cells #[.int .i64 t1024,.int .i64 t1025,.int .i64 t1026] 28 (0,0)) (by (with_reducible repeat (first|refine zJ ?_ _|refine zK ?_|refine zL ?_ _));exact BK1027.out)):gb1027 ≠ gb1068));have n7_:=zM ((by rw [hg];exact Nat.ne_of_gt (blk_lt (g:=gb1027) (o := .cells #[.int .i64 t1024,.int .i64 t1025,.int .i64 t1026] 28 (0,0)) (by (with_reducible repeat (first|refine zJ ?_ _|refine zK ?_|refine zL ?_ _));exact BK1027.out)):gb1068 ≠ gb1027));clear HO1063;clear BK1027;clear HB;have HO1063:=n0_;have BK1027:=n1_;have HB:=n2_;have BK1068:=n3_;have GW1068:=n4_;have GE1068:=n5_;have NB1027_1068:=n6_;have NB1068_1027:=n7_;clear n0_ n1_ n2_ n3_ n4_ n5_ n6_ n7_;clear hb hbox hg;have hnb79:=NB1068_1027.out;have hnc79:=NB1027_1068.out;have hcz80_0:w78.cell? ⟨gb1068,0,none⟩ = some (.int .i64 0):=(blk_cell BK1068.out 0).trans rfl;have hcz80_1:w78.cell? ⟨gb1068,1,none⟩ = some (.int .i64 0):=(blk_cell BK1068.out 1).trans rfl;have hcz80_2:w78.cell? ⟨gb1068,2,none⟩ = some (.int .i64 0):=(blk_cell BK1068.out 2).trans rfl;have hfz80_0:=blk_frozen BK1068.out 0;have hfz80_1:=blk_frozen BK1068.out 1;have hfz80_2:=blk_frozen BK1068.out 2;obtain ⟨Ao81,co81,eo81⟩:=Kd.R_slice HO1063.out;subst eo81)|((with_reducible refine gate_callee (f:=22) rfl ?_);refine goesL_ (some 190) rfl rfl Try.func22 (by kernel_rfl) rfl #[.slice Ao81 t1061.length co81,.int .i64 t1064,.agg #[.int .i64 t1065,.int .i64 t1066,.int .i64 t1067]] rfl (by (try simp only [List.map_toArray,List.map_cons,List.map_nil]);first|done|rfl|(simp only [List.length_drop,List.length_take];rfl)) ?_;(with_reducible refine (impl_AddOnTop.calls kj48 _ _ t1061 t1064 t1065 t1066 t1067 t1069 t1072 _ ?side1 ?side2 A74.out).mono ?_);(case side1=>refine (zN (e:=3) (base:=w.heap.size) (ok:=fun k_=>True) (n:=t1061.length) (c:=co81) ?_).2.2;exact (by (with_reducible repeat (first|apply zA|apply zB|apply zC));exact (Kd.R_mono (Kd.R_far (p:=⟨gb1068,2,none⟩) (Kd.R_far (p:=⟨gb1068,1,none⟩) (Kd.R_far (p:=⟨gb1068,0,none⟩) (Kd.R_types HO1063.out BK1068.out (by decide)) (fun _ hk=>hk.2) (.int .i64 t1065)) (fun _ hk=>hk.2) (.int .i64 t1066)) (fun _ hk=>hk.2) (.int .i64 t1067)) (fun _ h_=>h_.1))));(case side2=>exact (zN HO1063.out).2.1);rintro e w82 ⟨v1070,rfl,ho0,hb⟩;refine ⟨_,rfl,?_⟩;have n0_:=zM (Kd.R_elder' (by (with_reducible repeat (first|apply zA|apply zB|apply zC));exact (Kd.R_mono (Kd.R_far (p:=⟨gb1068,2,none⟩) (Kd.R_far (p:=⟨gb1068,1,none⟩) (Kd.R_far (p:=⟨gb1068,0,none⟩) (Kd.R_types HO1063.out BK1068.out (by decide)) (fun _ hk=>hk.2) (.int .i64 t1065)) (fun _ hk=>hk.2) (.int .i64 t1066)) (fun _ hk=>hk.2) (.int .i64 t1067)) (fun _ h_=>h_.1))) (Kd.R_base ho0) hb);have n1_:=zM (Kd.R_lower (Kd.R_new' ho0 (Kd.R_lt (by (with_reducible repeat (first|apply zA|apply zB|apply zC));exact (Kd.R_mono (Kd.R_far (p:=⟨gb1068,2,none⟩) (Kd.R_far (p:=⟨gb1068,1,none⟩) (Kd.R_far (p:=⟨gb1068,0,none⟩) (Kd.R_types HO1063.out BK1068.out (by decide)) (fun _ hk=>hk.2) (.int .i64 t1065)) (fun _ hk=>hk.2) (.int .i64 t1066)) (fun _ hk=>hk.2) (.int .i64 t1067)) (fun _ h_=>h_.1))))) (zR (by repeat (first|(with_reducible first|exact HB.out|apply zD|apply zE|apply zF|refine below_set ?_ GE1027.out|refine below_set ?_ GE1068.out)|exact HB.out))));have n2_:=zM (blk_below (g:=gb1027) (o := .cells #[.int .i64 t1024,.int .i64 t1025,.int .i64 t1026] 28 (0,0)) (by (with_reducible repeat (first|refine zJ ?_ _|refine zK ?_|refine zL ?_ _));refine blk_far ?_ NB1027_1068.out _;(with_reducible repeat (first|refine zJ ?_ _|refine zK ?_|refine zL ?_ _));refine blk_far ?_ NB1027_1068.out _;(with_reducible repeat (first|refine zJ ?_ _|refine zK ?_|refine zL ?_ _));refine blk_far ?_ NB1027_1068.out _;(with_reducible repeat (first|refine zJ ?_ _|refine zK ?_|refine zL ?_ _));exact BK1027.out) hb);have n3_:=zM (blk_below (g:=gb1068) (o := .cells #[.int .i64 t1065,.int .i64 t1066,.int .i64 t1067] 28 (0,0)) (by (with_reducible repeat (first|refine zJ ?_ _|refine zK ?_|refine zL ?_ _));refine blk_put (cs := #[.int .i64 t1065,.int .i64 t1066,.int .i64 0]) ?_ 2 _ rfl;(with_reducible repeat (first|refine zJ ?_ _|refine zK ?_|refine zL ?_ _));refine blk_put (cs := #[.int .i64 t1065,.int .i64 0,.int .i64 0]) ?_ 1 _ rfl;(with_reducible repeat (first|refine zJ ?_ _|refine zK ?_|refine zL ?_ _));refine blk_put (cs := #[.int .i64 0,.int .i64 0,.int .i64 0]) ?_ 0 _ rfl;(with_reducible repeat (first|refine zJ ?_ _|refine zK ?_|refine zL ?_ _));exact BK1068.out) hb);have n4_:=zM (zQ (by repeat (first|(with_reducible first|exact HB.out|apply zD|apply zE|apply zF|refine below_set ?_ GE1027.out|refine below_set ?_ GE1068.out)|exact HB.out)) hb);clear HO1063;clear BK1027;clear BK1068;clear HB;have HO1063:=n0_;have HO1071:=n1_;have BK1027:=n2_;have BK1068:=n3_;have HB:=n4_;clear n0_ n1_ n2_ n3_ n4_;(try clear hb);(try clear hb2);(try clear hk);(try clear hi);(try clear ho0);have hcz83_0:w82.cell? ⟨gb1068,0,none⟩ = some (.int .i64 t1065):=(blk_cell BK1068.out 0).trans rfl;have hcz83_1:w82.cell? ⟨gb1068,1,none⟩ = some (.int .i64 t1066):=(blk_cell BK1068.out 1).trans rfl;have hcz83_2:w82.cell? ⟨gb1068,2,none⟩ = some (.int .i64 t1067):=(blk_cell BK1068.out 2).trans rfl;have hfz83_0:=blk_frozen BK1068.out 0;have hfz83_1:=blk_frozen BK1068.out 1;have hfz83_2:=blk_frozen BK1068.out 2)|((with_reducible refine gate_callee (f:=21) rfl ?_);refine goesL_ (some 197) rfl rfl Try.func21 (by kernel_rfl) rfl #[.slice Ao81 t1061.length co81,.int .i64 t1064,.agg #[.int .i64 t1065,.int .i64 t1066,.int .i64 t1067]] rfl (by (try simp only [List.map_toArray,List.map_cons,List.map_nil]);first|done|rfl|(simp only [List.length_drop,List.length_take];rfl)) ?_;(with_reducible refine (spec_AddOnTop.calls kj48 _ _ t1061 t1064 t1065 t1066 t1067 t1073 t1076 _ ?side1 ?side2 A75.out).mono ?_);(case side1=>repeat (first|exact (zN HO1063.out).2.2|(with_reducible first|refine zG ?_ _|refine zH ?_ _|refine zI ?_)));(case side2=>exact (zN HO1063.out).2.1);rintro e w84 ⟨v1074,rfl,ho0,hb⟩;refine ⟨_,rfl,?_⟩;have n0_:=zM (Kd.R_elder' (by (with_reducible repeat (first|apply zA|apply zB|apply zC));exact HO1063.out) (Kd.R_base ho0) hb);have n1_:=zM (Kd.R_elder' (by (with_reducible repeat (first|apply zA|apply zB|apply zC));exact HO1071.out) (Kd.R_base ho0) hb);have n2_:=zM (Kd.R_lower (Kd.R_new' (Kd.R_new' ho0 (Kd.R_lt (by (with_reducible repeat (first|apply zA|apply zB|apply zC));exact HO1063.out))) (Kd.R_lt (by (with_reducible repeat (first|apply zA|apply zB|apply zC));exact HO1071.out))) (zR (by repeat (first|(with_reducible first|exact HB.out|apply zD|apply zE|apply zF|refine below_set ?_ GE1027.out|refine below_set ?_ GE1068.out)|exact HB.out))));have n3_:=zM (blk_below (g:=gb1027) (o := .cells #[.int .i64 t1024,.int .i64 t1025,.int .i64 t1026] 28 (0,0)) (by (with_reducible repeat (first|refine zJ ?_ _|refine zK ?_|refine zL ?_ _));exact BK1027.out) hb);have n4_:=zM (blk_below (g:=gb1068) (o := .cells #[.int .i64 t1065,.int .i64 t1066,.int .i64 t1067] 28 (0,0)) (by (with_reducible repeat (first|refine zJ ?_ _|refine zK ?_|refine zL ?_ _));exact BK1068.out) hb);have n5_:=zM (zQ (by repeat (first|(with_reducible first|exact HB.out|apply zD|apply zE|apply zF|refine below_set ?_ GE1027.out|refine below_set ?_ GE1068.out)|exact HB.out)) hb);clear HO1063;clear HO1071;clear BK1027;clear BK1068;clear HB;have HO1063:=n0_;have HO1071:=n1_;have HO1075:=n2_;have BK1027:=n3_;have BK1068:=n4_;have HB:=n5_;clear n0_ n1_ n2_ n3_ n4_ n5_;(try clear hb);(try clear hb2);(try clear hk);(try clear hi);(try clear ho0)))
                (try simp only [Act.put,zT,zU,zV])
                go_cut [208] (fun v208 wc => ∃ (kq:Nat) (x208_75:Bool),v208 = .bool x208_75 ∧ Aside0 (laws_FnColumns.j7 kq t1061 t1064 t1069 t1072 x208_75 t1065 t1066 t1067 = some r) ∧ Aside0 (kq ≤ kj48) ∧ Aside0 (Kd.R (Kd.int .i64) 3 wc w.heap.size (fun k_=>some k_ ≠ (v1070:Value).ownBlock) (.slice Ao81 t1061.length co81) t1061) ∧ Aside0 (Kd.R (Kd.int .i64) 3 wc w.heap.size (fun k_=>some k_ ≠ ((.slice Ao81 t1061.length co81):Value).ownBlock) v1070 t1069) ∧ Aside0 (wc.heap[gb1027]? = some (.cells #[.int .i64 t1024,.int .i64 t1025,.int .i64 t1026] 28 (0,0))) ∧ Aside0 (wc.heap[gb1068]? = some (.cells #[.int .i64 t1065,.int .i64 t1066,.int .i64 t1067] 28 (0,0))) ∧ Aside0 (Below w.heap.size w wc))
                case first =>
                 have H:=HC76.out;clear HC76;by_cases c85:(t1072 != t1076) = true
                 ·as_aux_lemma =>
                  rw [if_pos c85] at H;have c85b0:(t1072 != t1076) = true:=c85
                  (try (have c85b1:decide (t1072 = t1076) = false:=by simpa using c85))
                  (try (have c85b2:(t1072 == t1076) = false:=by simpa using c85))
                  (try (have c85b3:¬ (t1072 = t1076):=by simpa using c85))
                  clear c85;(first|rw [c85b0]|(simp only [i64_w,i32_w];rw [c85b0])|skip)
                  have H':=zM H;clear H;go_wp2
                  go_meet
                  case rel=>exact ⟨_,(true),(by first|rfl|(simp;done)|(simp [*];done)),H',⟨by have:=HJ6.out;have:=HJ16.out;have:=HJ18.out;have:=HJ26.out;have:=HJ37.out;have:=HJ48.out;first|omega|exact Nat.le_refl _⟩,⟨by (with_reducible repeat (first|apply zA|apply zB|apply zC));exact Kd.R_mono HO1063.out (fun _ hk=>hk.1.2)⟩,⟨by (with_reducible repeat (first|apply zA|apply zB|apply zC));exact Kd.R_mono HO1071.out (fun _ hk=>hk.1.2)⟩,⟨by (with_reducible repeat (first|refine zJ ?_ _|refine zK ?_|refine zL ?_ _));exact BK1027.out⟩,⟨by (with_reducible repeat (first|refine zJ ?_ _|refine zK ?_|refine zL ?_ _));exact BK1068.out⟩,⟨by repeat (first|(with_reducible first|exact HB.out|apply zD|apply zE|apply zF|refine below_set ?_ GE1027.out|refine below_set ?_ GE1068.out)|exact HB.out)⟩⟩
                 ·as_aux_lemma =>
                  rw [if_neg c85] at H;have c85b0:(t1072 != t1076) = false:=by simpa using c85
                  (try (have c85b1:decide (t1072 = t1076) = true:=by simpa using c85))
                  (try (have c85b2:(t1072 == t1076) = true:=by simpa using c85))
                  clear c85;(first|rw [c85b0]|(simp only [i64_w,i32_w];rw [c85b0])|skip)
                  replace H:=Option.bind_eq_some_iff.mp H;obtain ⟨t1077,A860,H⟩:=H;replace H:(laws_FnColumns.j7 kj48 t1061 t1064 t1069 t1072 (!t1077) t1065 t1066 t1067) = some r:=H
                  have A86:=zM A860;clear A860;have H':=zM H;clear H;obtain ⟨Ao87,co87,eo87⟩:=Kd.R_slice HO1071.out;subst eo87;obtain ⟨Ao88,co88,eo88⟩:=Kd.R_slice HO1075.out;subst eo88;go_wp2_with (first|(go_at_call 40;(with_reducible refine (laws_rInts.calls kj48 _ _ t1069 _ _ t1073 t1077 _ ?side1 ?side2 ?side3 ?side4 A86.out).mono ?_);(case side1=>repeat (first|exact (zN HO1071.out).2.2|(with_reducible first|refine zG ?_ _|refine zH ?_ _|refine zI ?_)));(case side2=>exact (zN HO1071.out).2.1);(case side3=>repeat (first|exact (zN HO1075.out).2.2|(with_reducible first|refine zG ?_ _|refine zH ?_ _|refine zI ?_)));(case side4=>exact (zN HO1075.out).2.1);rintro e w' ⟨rfl,⟨nd,rfl⟩⟩))
                  go_meet
                  case rel=>exact ⟨_,(!t1077),(by first|rfl|(simp;done)|(simp [*];done)),H',⟨by have:=HJ6.out;have:=HJ16.out;have:=HJ18.out;have:=HJ26.out;have:=HJ37.out;have:=HJ48.out;first|omega|exact Nat.le_refl _⟩,⟨by (with_reducible repeat (first|apply zA|apply zB|apply zC));exact Kd.R_mono HO1063.out (fun _ hk=>hk.1.2)⟩,⟨by (with_reducible repeat (first|apply zA|apply zB|apply zC));exact Kd.R_mono HO1071.out (fun _ hk=>hk.1.2)⟩,⟨by (with_reducible repeat (first|refine zJ ?_ _|refine zK ?_|refine zL ?_ _));exact BK1027.out⟩,⟨by (with_reducible repeat (first|refine zJ ?_ _|refine zK ?_|refine zL ?_ _));exact BK1068.out⟩,⟨by repeat (first|(with_reducible first|exact HB.out|apply zD|apply zE|apply zF|refine below_set ?_ GE1027.out|refine below_set ?_ GE1068.out)|exact HB.out)⟩⟩
                case rest =>
                 clear HC76;(try clear c1);(try clear p1);(try clear q1);(try clear hx1);(try clear c2);(try clear p2);(try clear c3);(try clear c4);(try clear c5);(try clear c6);(try clear p6);(try clear c7);(try clear c8);(try clear c10);(try clear p10);(try clear q10);(try clear hx10);(try clear c15);(try clear c15b0);(try clear c15b1);(try clear c16);(try clear c18);(try clear c20);(try clear c21);(try clear c22);(try clear c23);(try clear c24);(try clear c25);(try clear c26);(try clear c28);(try clear c30);(try clear c34);(try clear c35);(try clear c36);(try clear c38);(try clear c39);(try clear c43);(try clear c43b0);(try clear c43b1);(try clear c43b2);(try clear c44);(try clear c44b0);(try clear c44b1);(try clear c48);(try clear c50);(try clear c51);(try clear c51b0);(try clear c52);(try clear c52b0);(try clear c54);(try clear c54b0);(try clear c55);(try clear c55b0);(try clear c55b1);(try clear c58);(try clear c58b0);(try clear c58b1);(try clear c62);(try clear c62b0);(try clear c62b1);(try clear c63);(try clear c63b0);(try clear c63b1);(try clear c64);(try clear c64b0);(try clear c64b1);(try clear p64);(try clear c65);(try clear c65b0);(try clear c67);(try clear c67b0);(try clear c67b1);(try clear c79);(try clear c85);(try clear c85b0);(try clear c85b1);(try clear c85b2);(try clear hcz10_0);(try clear hcz10_1);(try clear hcz10_2);(try clear hcz13_0);(try clear hcz13_1);(try clear hcz13_2);(try clear hcz23_0);(try clear hcz23_1);(try clear hcz23_2);(try clear hcz25_0);(try clear hcz25_1);(try clear hcz25_2);(try clear hcz31_0);(try clear hcz31_1);(try clear hcz31_2);(try clear hcz33_0);(try clear hcz33_1);(try clear hcz33_2);(try clear hcz80_0);(try clear hcz80_1);(try clear hcz80_2);(try clear hcz83_0);(try clear hcz83_1);(try clear hcz83_2);(try clear hfz10_0);(try clear hfz10_1);(try clear hfz10_2);(try clear hfz13_0);(try clear hfz13_1);(try clear hfz13_2);(try clear hfz23_0);(try clear hfz23_1);(try clear hfz23_2);(try clear hfz25_0);(try clear hfz25_1);(try clear hfz25_2);(try clear hfz31_0);(try clear hfz31_1);(try clear hfz31_2);(try clear hfz33_0);(try clear hfz33_1);(try clear hfz33_2);(try clear hfz80_0);(try clear hfz80_1);(try clear hfz80_2);(try clear hfz83_0);(try clear hfz83_1);(try clear hfz83_2);(try clear hx1056_0);(try clear hx1058_0);(try clear hx1059_0);(try clear hx1060_0);(try clear p1);(try clear p10);(try clear p1056);(try clear p1058);(try clear p1059);(try clear p1060);(try clear p2);(try clear p6);(try clear p64);(try clear q1);(try clear q10);(try clear q1056);(try clear q1058);(try clear q1059);(try clear q1060);obtain ⟨kq,x208_75,rfl,HA,HJ75,HO_26,HO_29,BK1027,BK1068,HB⟩:=hcut;cases kq with
                 | zero=>exact absurd HA.out (by simp [laws_FnColumns.j7])
                 | succ kj75 =>
                  have H:=HA.out;clear HA;simp only [laws_FnColumns.j7] at H
                  by_cases c89:x208_75 = true
                  ·as_aux_lemma =>
                   subst c89;have H1:(some false) = some r:=by rw [if_pos rfl] at H;exact H
                   clear H;have H:=H1;clear H1;obtain rfl:=Option.some.inj H;go_wp2
                   go_ret
                   exact ⟨by first|rfl|(simp [errW_none,errW_some] <;> rfl)|(simp [*,errW_none,errW_some] <;> rfl),by repeat (first|(with_reducible first|exact HB.out|apply zD|apply zE|apply zF|refine below_set ?_ GE1027.out|refine below_set ?_ GE1068.out)|exact HB.out)⟩
                  ·as_aux_lemma =>
                   replace c89:=Bool.eq_false_iff.mpr c89;subst c89;have H1:(if t1072 = true then ((impl_ColumnWeight.f kj75 t1069 t1065 t1066 t1067).bind fun bt1078=>(if bt1078.2.2 = true then (if bt1078.2.1 = true then ((laws_rSum.f kj75 t1061).bind fun t1081=>(if bt1078.1 = (wrap64 (t1081 + t1064)) then (some true) else (some false))) else (some false)) else (some false))) else (some true)) = some r:=by rw [if_neg (show ¬ (false = true) by decide)] at H;exact H
                   clear H;have H:=H1;clear H1;by_cases c90:t1072 = true
                   ·as_aux_lemma =>
                    subst c90;have H1:((impl_ColumnWeight.f kj75 t1069 t1065 t1066 t1067).bind fun bt1078=>(if bt1078.2.2 = true then (if bt1078.2.1 = true then ((laws_rSum.f kj75 t1061).bind fun t1081=>(if bt1078.1 = (wrap64 (t1081 + t1064)) then (some true) else (some false))) else (some false)) else (some false))) = some r:=by rw [if_pos rfl] at H;exact H
                    clear H;have H:=H1;clear H1;replace H:=Option.bind_eq_some_iff.mp H;obtain ⟨⟨t1078,t1079,t1080⟩,A910,H⟩:=H;replace H:(if t1080 = true then (if t1079 = true then ((laws_rSum.f kj75 t1061).bind fun t1081=>(if t1078 = (wrap64 (t1081 + t1064)) then (some true) else (some false))) else (some false)) else (some false)) = some r:=H
                    have A91:=zM A910;clear A910;by_cases c92:t1080 = true
                    ·as_aux_lemma =>
                     subst c92;have H1:(if t1079 = true then ((laws_rSum.f kj75 t1061).bind fun t1081=>(if t1078 = (wrap64 (t1081 + t1064)) then (some true) else (some false))) else (some false)) = some r:=by rw [if_pos rfl] at H;exact H
                     clear H;have H:=H1;clear H1;by_cases c93:t1079 = true
                     ·as_aux_lemma =>
                      subst c93;have H1:((laws_rSum.f kj75 t1061).bind fun t1081=>(if t1078 = (wrap64 (t1081 + t1064)) then (some true) else (some false))) = some r:=by rw [if_pos rfl] at H;exact H
                      clear H;have H:=H1;clear H1;replace H:=Option.bind_eq_some_iff.mp H;obtain ⟨t1081,A940,H⟩:=H;replace H:(if t1078 = (wrap64 (t1081 + t1064)) then (some true) else (some false)) = some r:=H
                      have A94:=zM A940;clear A940;by_cases c95:t1078 = (wrap64 (t1081 + t1064))
                      ·as_aux_lemma =>
                       rw [if_pos c95] at H;have c95b0:(t1078 == (wrap64 (t1081 + t1064))) = true:=beq_iff_eq.mpr c95
                       have c95b1:(t1078 != (wrap64 (t1081 + t1064))) = false:=bne_eq_false_iff_eq.mpr c95
                       clear c95;obtain rfl:=Option.some.inj H;have hnb96:=NB1068_1027.out;have hnc96:=NB1027_1068.out;have hcz97_0:wc.cell? ⟨gb1068,0,none⟩ = some (.int .i64 t1065):=(blk_cell BK1068.out 0).trans rfl
                       have hcz97_1:wc.cell? ⟨gb1068,1,none⟩ = some (.int .i64 t1066):=(blk_cell BK1068.out 1).trans rfl
                       have hcz97_2:wc.cell? ⟨gb1068,2,none⟩ = some (.int .i64 t1067):=(blk_cell BK1068.out 2).trans rfl
                       have hfz97_0:=blk_frozen BK1068.out 0;have hfz97_1:=blk_frozen BK1068.out 1;have hfz97_2:=blk_frozen BK1068.out 2;obtain ⟨Ao98,co98,eo98⟩:=Kd.R_slice HO_29.out;subst eo98;go_wp2_with (first|((with_reducible refine gate_callee (f:=41) rfl ?_);refine goesL_ (some 213) rfl rfl Try.func41 (by kernel_rfl) rfl #[.slice Ao98 t1069.length co98,.agg #[.int .i64 t1065,.int .i64 t1066,.int .i64 t1067]] rfl (by (try simp only [List.map_toArray,List.map_cons,List.map_nil]);first|done|rfl|(simp only [List.length_drop,List.length_take];rfl)) ?_;(with_reducible refine (impl_ColumnWeight.calls kj75 _ _ t1069 t1065 t1066 t1067 t1078 true true _ ?side1 ?side2 A91.out).mono ?_);(case side1=>repeat (first|exact (zN HO_29.out).2.2|(with_reducible first|refine zG ?_ _|refine zH ?_ _|refine zI ?_)));(case side2=>exact (zN HO_29.out).2.1);rintro e w99 ⟨rfl,hb⟩;refine ⟨_,rfl,?_⟩;have n0_:=zM (zP (by (with_reducible repeat (first|apply zA|apply zB|apply zC));exact HO_26.out) hb);have n1_:=zM (zP (by (with_reducible repeat (first|apply zA|apply zB|apply zC));exact HO_29.out) hb);have n2_:=zM (blk_below (g:=gb1027) (o := .cells #[.int .i64 t1024,.int .i64 t1025,.int .i64 t1026] 28 (0,0)) (by (with_reducible repeat (first|refine zJ ?_ _|refine zK ?_|refine zL ?_ _));exact BK1027.out) hb);have n3_:=zM (blk_below (g:=gb1068) (o := .cells #[.int .i64 t1065,.int .i64 t1066,.int .i64 t1067] 28 (0,0)) (by (with_reducible repeat (first|refine zJ ?_ _|refine zK ?_|refine zL ?_ _));exact BK1068.out) hb);have n4_:=zM (zQ (by repeat (first|(with_reducible first|exact HB.out|apply zD|apply zE|apply zF|refine below_set ?_ GE1027.out|refine below_set ?_ GE1068.out)|exact HB.out)) hb);clear HO_26;clear HO_29;clear BK1027;clear BK1068;clear HB;have HO_26:=n0_;have HO_29:=n1_;have BK1027:=n2_;have BK1068:=n3_;have HB:=n4_;clear n0_ n1_ n2_ n3_ n4_;(try clear hb);(try clear hb2);(try clear hk);(try clear hi))|(go_at_call 38;(with_reducible refine (laws_rSum.calls kj75 _ _ t1061 t1081 _ ?side1 ?side2 A94.out).mono ?_);(case side1=>repeat (first|exact (zN HO_26.out).2.2|(with_reducible first|refine zG ?_ _|refine zH ?_ _|refine zI ?_)));(case side2=>exact (zN HO_26.out).2.1);rintro e w' ⟨rfl,⟨nd,rfl⟩⟩))
                       go_ret
                       exact ⟨by first|rfl|(simp [errW_none,errW_some] <;> rfl)|(simp [*,errW_none,errW_some] <;> rfl),by repeat (first|(with_reducible first|exact HB.out|apply zD|apply zE|apply zF|refine below_set ?_ GE1027.out|refine below_set ?_ GE1068.out)|exact HB.out)⟩
                      ·as_aux_lemma =>
                       rw [if_neg c95] at H;have c95b0:(t1078 == (wrap64 (t1081 + t1064))) = false:=beq_eq_false_iff_ne.mpr c95
                       have c95b1:(t1078 != (wrap64 (t1081 + t1064))) = true:=bne_iff_ne.mpr c95
                       obtain rfl:=Option.some.inj H;have hnb100:=NB1068_1027.out;have hnc100:=NB1027_1068.out;have hcz101_0:wc.cell? ⟨gb1068,0,none⟩ = some (.int .i64 t1065):=(blk_cell BK1068.out 0).trans rfl
                       have hcz101_1:wc.cell? ⟨gb1068,1,none⟩ = some (.int .i64 t1066):=(blk_cell BK1068.out 1).trans rfl
                       have hcz101_2:wc.cell? ⟨gb1068,2,none⟩ = some (.int .i64 t1067):=(blk_cell BK1068.out 2).trans rfl
                       have hfz101_0:=blk_frozen BK1068.out 0;have hfz101_1:=blk_frozen BK1068.out 1;have hfz101_2:=blk_frozen BK1068.out 2;obtain ⟨Ao102,co102,eo102⟩:=Kd.R_slice HO_29.out;subst eo102;go_wp2_with (first|((with_reducible refine gate_callee (f:=41) rfl ?_);refine goesL_ (some 213) rfl rfl Try.func41 (by kernel_rfl) rfl #[.slice Ao102 t1069.length co102,.agg #[.int .i64 t1065,.int .i64 t1066,.int .i64 t1067]] rfl (by (try simp only [List.map_toArray,List.map_cons,List.map_nil]);first|done|rfl|(simp only [List.length_drop,List.length_take];rfl)) ?_;(with_reducible refine (impl_ColumnWeight.calls kj75 _ _ t1069 t1065 t1066 t1067 t1078 true true _ ?side1 ?side2 A91.out).mono ?_);(case side1=>repeat (first|exact (zN HO_29.out).2.2|(with_reducible first|refine zG ?_ _|refine zH ?_ _|refine zI ?_)));(case side2=>exact (zN HO_29.out).2.1);rintro e w103 ⟨rfl,hb⟩;refine ⟨_,rfl,?_⟩;have n0_:=zM (zP (by (with_reducible repeat (first|apply zA|apply zB|apply zC));exact HO_26.out) hb);have n1_:=zM (zP (by (with_reducible repeat (first|apply zA|apply zB|apply zC));exact HO_29.out) hb);have n2_:=zM (blk_below (g:=gb1027) (o := .cells #[.int .i64 t1024,.int .i64 t1025,.int .i64 t1026] 28 (0,0)) (by (with_reducible repeat (first|refine zJ ?_ _|refine zK ?_|refine zL ?_ _));exact BK1027.out) hb);have n3_:=zM (blk_below (g:=gb1068) (o := .cells #[.int .i64 t1065,.int .i64 t1066,.int .i64 t1067] 28 (0,0)) (by (with_reducible repeat (first|refine zJ ?_ _|refine zK ?_|refine zL ?_ _));exact BK1068.out) hb);have n4_:=zM (zQ (by repeat (first|(with_reducible first|exact HB.out|apply zD|apply zE|apply zF|refine below_set ?_ GE1027.out|refine below_set ?_ GE1068.out)|exact HB.out)) hb);clear HO_26;clear HO_29;clear BK1027;clear BK1068;clear HB;have HO_26:=n0_;have HO_29:=n1_;have BK1027:=n2_;have BK1068:=n3_;have HB:=n4_;clear n0_ n1_ n2_ n3_ n4_;(try clear hb);(try clear hb2);(try clear hk);(try clear hi))|(go_at_call 38;(with_reducible refine (laws_rSum.calls kj75 _ _ t1061 t1081 _ ?side1 ?side2 A94.out).mono ?_);(case side1=>repeat (first|exact (zN HO_26.out).2.2|(with_reducible first|refine zG ?_ _|refine zH ?_ _|refine zI ?_)));(case side2=>exact (zN HO_26.out).2.1);rintro e w' ⟨rfl,⟨nd,rfl⟩⟩))
                       go_ret
                       exact ⟨by first|rfl|(simp [errW_none,errW_some] <;> rfl)|(simp [*,errW_none,errW_some] <;> rfl),by repeat (first|(with_reducible first|exact HB.out|apply zD|apply zE|apply zF|refine below_set ?_ GE1027.out|refine below_set ?_ GE1068.out)|exact HB.out)⟩
                     ·as_aux_lemma =>
                      replace c93:=Bool.eq_false_iff.mpr c93;subst c93;have H1:(some false) = some r:=by rw [if_neg (show ¬ (false = true) by decide)] at H;exact H
                      clear H;have H:=H1;clear H1;obtain rfl:=Option.some.inj H;have hnb104:=NB1068_1027.out;have hnc104:=NB1027_1068.out;have hcz105_0:wc.cell? ⟨gb1068,0,none⟩ = some (.int .i64 t1065):=(blk_cell BK1068.out 0).trans rfl
                      have hcz105_1:wc.cell? ⟨gb1068,1,none⟩ = some (.int .i64 t1066):=(blk_cell BK1068.out 1).trans rfl
                      have hcz105_2:wc.cell? ⟨gb1068,2,none⟩ = some (.int .i64 t1067):=(blk_cell BK1068.out 2).trans rfl
                      have hfz105_0:=blk_frozen BK1068.out 0;have hfz105_1:=blk_frozen BK1068.out 1;have hfz105_2:=blk_frozen BK1068.out 2;obtain ⟨Ao106,co106,eo106⟩:=Kd.R_slice HO_29.out;subst eo106;go_wp2_with (first|((with_reducible refine gate_callee (f:=41) rfl ?_);refine goesL_ (some 213) rfl rfl Try.func41 (by kernel_rfl) rfl #[.slice Ao106 t1069.length co106,.agg #[.int .i64 t1065,.int .i64 t1066,.int .i64 t1067]] rfl (by (try simp only [List.map_toArray,List.map_cons,List.map_nil]);first|done|rfl|(simp only [List.length_drop,List.length_take];rfl)) ?_;(with_reducible refine (impl_ColumnWeight.calls kj75 _ _ t1069 t1065 t1066 t1067 t1078 false true _ ?side1 ?side2 A91.out).mono ?_);(case side1=>repeat (first|exact (zN HO_29.out).2.2|(with_reducible first|refine zG ?_ _|refine zH ?_ _|refine zI ?_)));(case side2=>exact (zN HO_29.out).2.1);rintro e w107 ⟨rfl,hb⟩;refine ⟨_,rfl,?_⟩;have n0_:=zM (zP (by (with_reducible repeat (first|apply zA|apply zB|apply zC));exact HO_26.out) hb);have n1_:=zM (zP (by (with_reducible repeat (first|apply zA|apply zB|apply zC));exact HO_29.out) hb);have n2_:=zM (blk_below (g:=gb1027) (o := .cells #[.int .i64 t1024,.int .i64 t1025,.int .i64 t1026] 28 (0,0)) (by (with_reducible repeat (first|refine zJ ?_ _|refine zK ?_|refine zL ?_ _));exact BK1027.out) hb);have n3_:=zM (blk_below (g:=gb1068) (o := .cells #[.int .i64 t1065,.int .i64 t1066,.int .i64 t1067] 28 (0,0)) (by (with_reducible repeat (first|refine zJ ?_ _|refine zK ?_|refine zL ?_ _));exact BK1068.out) hb);have n4_:=zM (zQ (by repeat (first|(with_reducible first|exact HB.out|apply zD|apply zE|apply zF|refine below_set ?_ GE1027.out|refine below_set ?_ GE1068.out)|exact HB.out)) hb);clear HO_26;clear HO_29;clear BK1027;clear BK1068;clear HB;have HO_26:=n0_;have HO_29:=n1_;have BK1027:=n2_;have BK1068:=n3_;have HB:=n4_;clear n0_ n1_ n2_ n3_ n4_;(try clear hb);(try clear hb2);(try clear hk);(try clear hi)))
                      go_ret
                      exact ⟨by first|rfl|(simp [errW_none,errW_some] <;> rfl)|(simp [*,errW_none,errW_some] <;> rfl),by repeat (first|(with_reducible first|exact HB.out|apply zD|apply zE|apply zF|refine below_set ?_ GE1027.out|refine below_set ?_ GE1068.out)|exact HB.out)⟩
                    ·as_aux_lemma =>
                     replace c92:=Bool.eq_false_iff.mpr c92;subst c92;have H1:(some false) = some r:=by rw [if_neg (show ¬ (false = true) by decide)] at H;exact H
                     clear H;have H:=H1;clear H1;obtain rfl:=Option.some.inj H;have hnb108:=NB1068_1027.out;have hnc108:=NB1027_1068.out;have hcz109_0:wc.cell? ⟨gb1068,0,none⟩ = some (.int .i64 t1065):=(blk_cell BK1068.out 0).trans rfl
                     have hcz109_1:wc.cell? ⟨gb1068,1,none⟩ = some (.int .i64 t1066):=(blk_cell BK1068.out 1).trans rfl
                     have hcz109_2:wc.cell? ⟨gb1068,2,none⟩ = some (.int .i64 t1067):=(blk_cell BK1068.out 2).trans rfl
                     have hfz109_0:=blk_frozen BK1068.out 0;have hfz109_1:=blk_frozen BK1068.out 1;have hfz109_2:=blk_frozen BK1068.out 2;obtain ⟨Ao110,co110,eo110⟩:=Kd.R_slice HO_29.out;subst eo110;go_wp2_with (first|((with_reducible refine gate_callee (f:=41) rfl ?_);refine goesL_ (some 213) rfl rfl Try.func41 (by kernel_rfl) rfl #[.slice Ao110 t1069.length co110,.agg #[.int .i64 t1065,.int .i64 t1066,.int .i64 t1067]] rfl (by (try simp only [List.map_toArray,List.map_cons,List.map_nil]);first|done|rfl|(simp only [List.length_drop,List.length_take];rfl)) ?_;(with_reducible refine (impl_ColumnWeight.calls kj75 _ _ t1069 t1065 t1066 t1067 t1078 t1079 false _ ?side1 ?side2 A91.out).mono ?_);(case side1=>repeat (first|exact (zN HO_29.out).2.2|(with_reducible first|refine zG ?_ _|refine zH ?_ _|refine zI ?_)));(case side2=>exact (zN HO_29.out).2.1);rintro e w111 ⟨rfl,hb⟩;refine ⟨_,rfl,?_⟩;have n0_:=zM (zP (by (with_reducible repeat (first|apply zA|apply zB|apply zC));exact HO_26.out) hb);have n1_:=zM (zP (by (with_reducible repeat (first|apply zA|apply zB|apply zC));exact HO_29.out) hb);have n2_:=zM (blk_below (g:=gb1027) (o := .cells #[.int .i64 t1024,.int .i64 t1025,.int .i64 t1026] 28 (0,0)) (by (with_reducible repeat (first|refine zJ ?_ _|refine zK ?_|refine zL ?_ _));exact BK1027.out) hb);have n3_:=zM (blk_below (g:=gb1068) (o := .cells #[.int .i64 t1065,.int .i64 t1066,.int .i64 t1067] 28 (0,0)) (by (with_reducible repeat (first|refine zJ ?_ _|refine zK ?_|refine zL ?_ _));exact BK1068.out) hb);have n4_:=zM (zQ (by repeat (first|(with_reducible first|exact HB.out|apply zD|apply zE|apply zF|refine below_set ?_ GE1027.out|refine below_set ?_ GE1068.out)|exact HB.out)) hb);clear HO_26;clear HO_29;clear BK1027;clear BK1068;clear HB;have HO_26:=n0_;have HO_29:=n1_;have BK1027:=n2_;have BK1068:=n3_;have HB:=n4_;clear n0_ n1_ n2_ n3_ n4_;(try clear hb);(try clear hb2);(try clear hk);(try clear hi)))
                     go_ret
                     exact ⟨by first|rfl|(simp [errW_none,errW_some] <;> rfl)|(simp [*,errW_none,errW_some] <;> rfl),by repeat (first|(with_reducible first|exact HB.out|apply zD|apply zE|apply zF|refine below_set ?_ GE1027.out|refine below_set ?_ GE1068.out)|exact HB.out)⟩
                   ·as_aux_lemma =>
                    replace c90:=Bool.eq_false_iff.mpr c90;subst c90;have H1:(some true) = some r:=by rw [if_neg (show ¬ (false = true) by decide)] at H;exact H
                    clear H;have H:=H1;clear H1;obtain rfl:=Option.some.inj H;go_wp2
                    go_ret
                    exact ⟨by first|rfl|(simp [errW_none,errW_some] <;> rfl)|(simp [*,errW_none,errW_some] <;> rfl),by repeat (first|(with_reducible first|exact HB.out|apply zD|apply zE|apply zF|refine below_set ?_ GE1027.out|refine below_set ?_ GE1068.out)|exact HB.out)⟩

/-- THE ONE PURE STATEMENT of laws_FnColumns. -/
def laws_FnColumns.Pure:Prop := ∀ (l0:List Int),(l0.length ≤ maxLen ∧ ∀ y ∈ l0,(Lit.int .u8 y).wf = true) → ∃ k,laws_FnColumns.f k l0 = some true
theorem laws_FnColumns.walk (P:laws_FnColumns.Pure) (A0:Option Addr) (c0:Nat) (l0:List Int) (w:World) (hr0:Kd.C (Kd.int .u8) w A0 l0.length l0) (hc0:l0.length ≤ c0) (hw0:(l0.length ≤ maxLen ∧ ∀ y ∈ l0,(Lit.int .u8 y).wf = true)) :
  Calls Try.prog 10 #[.slice A0 l0.length c0] w fun e w'=>e = .returned (.bool true) ∧ Below w.heap.size w w':=by
 obtain ⟨k,h⟩:=P l0 hw0;refine (laws_FnColumns.calls k _ _ l0 true w hr0 hc0 h).mono ?_
 rintro e w' ⟨rfl,hd⟩
 exact ⟨rfl,hd⟩

end Go.Proofs.Ytcgfedaoimhejaa.G

namespace Go.Proofs.Ytcgfedaoimhejaa.G
open Go.RowKit Go.Proofs.YtcgfedaoimhejaaW.PrintWords Go.Proofs.YtcgfedaoimhejaaW.PrintLast
set_option linter.unusedVariables false
set_option linter.unusedSimpArgs false
/-- From some number of rounds on a value comes, and P holds of it. -/
def EvP {α : Type} (g : Nat → Option α) (P : α → Prop) : Prop := ∃ r,P r ∧ Ev g r
theorem EvP.now {α : Type} {P : α → Prop} (v : α) (h : P v) : EvP (fun _=>some v) P:=⟨v,h,Ev.now v⟩
theorem EvP.step {α : Type} {g f : Nat → Option α} {P : α → Prop} (h : ∀ k,g (k + 1) = f k) (k : EvP f P) : EvP g P:=by
  obtain ⟨r,p,e⟩:=k
  exact ⟨r,p,Ev.step h e⟩
theorem EvP.bind {α β : Type} {g : Nat → Option α} {f : Nat → α → Option β} {P : α → Prop} {Q : β → Prop} (h : EvP g P) (k : ∀ a,P a → EvP (fun n=>f n a) Q) : EvP (fun n=>(g n).bind (f n)) Q:=by
  obtain ⟨a,p,e⟩:=h
  obtain ⟨r,q,e2⟩:=k a p
  exact ⟨r,q,Ev.bind e e2⟩
theorem EvP.ite {α : Type} {c : Prop} [Decidable c] {A B : Nat → Option α} {P : α → Prop} (h1 : c → EvP A P) (h2 : ¬ c → EvP B P) : EvP (fun k=>if c then A k else B k) P:=by
  by_cases h : c
  · simpa only [if_pos h] using h1 h
  · simpa only [if_neg h] using h2 h
theorem EvP.mono {α : Type} {g : Nat → Option α} {P Q : α → Prop} (h : EvP g P) (k : ∀ r,P r → Q r) : EvP g Q:=by
  obtain ⟨r,p,e⟩:=h
  exact ⟨r,k r p,e⟩
/-- The bytes that a case is drawn of. -/
def Cd (l : List Int) : Prop:=(l.length : Int) ≤ 65536 ∧ ∀ y ∈ l,0 ≤ y ∧ y ≤ 255
theorem cd_of {l : List Int} (h : (l.length : Int) ≤ 65536) (hw : ∀ y ∈ l,(Lit.int .u8 y).wf = true) : Cd l:=by
  refine ⟨h,fun y hy=>?_⟩
  have e : (Lit.int .u8 y).wf = (decide (0 ≤ y) && decide (y ≤ 255)):=rfl
  have:=hw y hy
  rw [e] at this
  simpa using this
theorem rd_memD (l : List Int) (i : Int) (h0 : 0 ≤ i) (h1 : i < (l.length : Int)) : rd l i ∈ l:=by
  unfold rd
  rw [List.getD_eq_getElem?_getD,List.getElem?_eq_getElem (show i.toNat < l.length by omega)]
  exact List.getElem_mem _
theorem and255 (x : Int) : 0 ≤ Go.bits .and .u64 x 255 ∧ Go.bits .and .u64 x 255 ≤ 255:=by
  show 0 ≤ IntKind.u64.wrap (((BitVec.ofInt 64 x) &&& (BitVec.ofInt 64 255)).toNat : Int) ∧ IntKind.u64.wrap (((BitVec.ofInt 64 x) &&& (BitVec.ofInt 64 255)).toNat : Int) ≤ 255
  have h : ((BitVec.ofInt 64 x) &&& (BitVec.ofInt 64 255)).toNat ≤ 255:=by
    rw [BitVec.toNat_and]
    exact Nat.le_trans Nat.and_le_right (by decide)
  have e : IntKind.u64.wrap (((BitVec.ofInt 64 x) &&& (BitVec.ofInt 64 255)).toNat : Int) = (((BitVec.ofInt 64 x) &&& (BitVec.ofInt 64 255)).toNat : Int):=by
    generalize (((BitVec.ofInt 64 x) &&& (BitVec.ofInt 64 255)).toNat) = n at h ⊢
    simp only [IntKind.wrap,IntKind.signed,IntKind.bits]
    simp
    omega
  rw [e]
  omega
theorem next_ok {l : List Int} (hc : Cd l) (a s : Int) (h0 : 0 ≤ a) (h1 : a ≤ 1099511627776) : ∃ b s',spec_l1Cur_next.f l a s = some (b,a + 1,s') ∧ 0 ≤ b ∧ b ≤ 255:=by
  have hl:=hc.1
  unfold spec_l1Cur_next.f
  rw [wrap64_id (x:=a + 1) (by omega) (by omega)]
  by_cases h : a < (l.length : Int)
  · have hm:=hc.2 _ (rd_memD l a h0 h)
    rw [if_pos h,if_pos h0,if_pos (by omega),wrap64_id (x:=rd l a) (by omega) (by omega)]
    exact ⟨_,_,rfl,hm.1,hm.2⟩
  · rw [if_neg h,if_neg (by omega)]
    refine ⟨_,_,rfl,?_⟩
    generalize hX : Go.bits _ _ _ _ = X
    have:=and255 (IntKind.u64.wrap (IntKind.u64.wrap (IntKind.u64.wrap (s * 6364136223846793005)) + 906906) / 1099511627776)
    have hb : 0 ≤ X ∧ X ≤ 255:=by rw [← hX];exact this
    rw [wrap64_id (by omega) (by omega)]
    exact hb
theorem pick_ok {l : List Int} (hc : Cd l) (a s n : Int) (h0 : 0 ≤ a) (h1 : a ≤ 1000000) : ∃ b a' s',spec_l1Cur_pick.f l a s n = some (b,a',s') ∧ 0 ≤ b ∧ (b = 0 ∨ b < n) ∧ a ≤ a' ∧ a' ≤ a + 2:=by
  unfold spec_l1Cur_pick.f
  by_cases g : n ≤ 1
  · rw [if_pos g]
    exact ⟨_,_,_,rfl,by omega,by omega,by omega,by omega⟩
  · obtain ⟨x,s1,e1,x0,x1⟩:=next_ok hc a s h0 (by omega)
    rw [if_neg g,e1]
    simp only [Option.bind_some]
    by_cases g2 : n > 200
    · obtain ⟨y,s2,e2,y0,y1⟩:=next_ok hc (a + 1) s1 (by omega) (by omega)
      rw [if_pos g2,e2]
      simp only [Option.bind_some]
      rw [if_neg (by omega),wrap64_id (x:=x * 256) (by omega) (by omega),wrap64_id (x:=x * 256 + y) (by omega) (by omega)]
      refine ⟨_,_,_,rfl,Int.tmod_nonneg _ (by omega),.inr ?_,by omega,by omega⟩
      exact Int.tmod_lt_of_pos _ (by omega)
    · rw [if_neg g2,if_neg (by omega)]
      refine ⟨_,_,_,rfl,Int.tmod_nonneg _ (by omega),.inr ?_,by omega,by omega⟩
      exact Int.tmod_lt_of_pos _ (by omega)
theorem EvP.pick {β : Type} {l : List Int} (hc : Cd l) {a s n : Int} {f : Nat → Int × Int × Int → Option β} {Q : β → Prop} (h0 : 0 ≤ a) (h1 : a ≤ 1000000)
    (k : ∀ b a' s',0 ≤ b → (b = 0 ∨ b < n) → a ≤ a' → a' ≤ a + 2 → EvP (fun k=>f k (b,a',s')) Q) : EvP (fun k=>(spec_l1Cur_pick.f l a s n).bind (f k)) Q:=by
  obtain ⟨b,a',s',e,h2,h3,h4,h5⟩:=pick_ok hc a s n h0 h1
  rw [e]
  exact k b a' s' h2 h3 h4 h5
theorem EvP.one {β : Type} {l : List Int} (hc : Cd l) {a s n : Int} {f : Nat → Bool × Int × Int → Option β} {Q : β → Prop} (h0 : 0 ≤ a) (h1 : a ≤ 1000000)
    (k : ∀ b a' s',a ≤ a' → a' ≤ a + 2 → EvP (fun k=>f k (b,a',s')) Q) : EvP (fun k=>(spec_l1Cur_one.f l a s n).bind (f k)) Q:=by
  obtain ⟨b,a',s',e,h2,h3,h4,h5⟩:=pick_ok hc a s n h0 h1
  unfold spec_l1Cur_one.f
  rw [e]
  simp only [Option.bind_some]
  exact k _ a' s' h4 h5
theorem EvP.among {β : Type} {l : List Int} (hc : Cd l) {a s : Int} {xs : List Int} {f : Nat → Int × Int × Int → Option β} {Q : β → Prop} (h0 : 0 ≤ a) (h1 : a ≤ 1000000) (hx : 0 < (xs.length : Int))
    (k : ∀ b a' s',b ∈ xs → a ≤ a' → a' ≤ a + 2 → EvP (fun k=>f k (b,a',s')) Q) : EvP (fun k=>(spec_l1Cur_among.f l a s xs).bind (f k)) Q:=by
  obtain ⟨b,a',s',e,h2,h3,h4,h5⟩:=pick_ok hc a s (xs.length : Int) h0 h1
  unfold spec_l1Cur_among.f
  rw [e]
  simp only [Option.bind_some]
  rw [if_pos h2,if_pos (by omega)]
  exact k _ a' s' (rd_memD xs b h2 (by omega)) h4 h5
end Go.Proofs.Ytcgfedaoimhejaa.G

-- Written by wip/tools/gen.py out of the translation (the kit's printer, one namespace a seat). Lean checks it.
namespace Go.Proofs.Ytcgfedaoimhejaa.G
open Go.RowKit Go.Proofs.YtcgfedaoimhejaaW.PrintWords Go.Proofs.YtcgfedaoimhejaaW.PrintLast Go.Proofs.YtcgfedaoimhejaaW.PrintMore
attribute [local go_sem] max2_int min2_int max_two min_two max_three min_three max_four min_four   -- for this text's walks alone
set_option linter.unusedVariables false
set_option linter.unusedSimpArgs false

/-! ### spec_DrawLashForces: function 42 -/
def spec_DrawLashForces.f (k:Nat) (l0:List Int):Option (List Int × Int × Int × Int):=(spec_DrawColumnWeight.f k l0).bind fun bt1083=>(some (bt1083.1,bt1083.2.1,bt1083.2.2.1,bt1083.2.2.2))
set_option maxHeartbeats 8000000 in
set_option maxRecDepth 100000 in
theorem spec_DrawLashForces.calls (k:Nat) (A0:Option Addr) (c0:Nat) (l0:List Int) (r1:List Int) (r2:Int) (r3:Int) (r4:Int) (w:World) (hr0:Kd.C (Kd.int .u8) w A0 l0.length l0) (hc0:l0.length ≤ c0) (h:spec_DrawLashForces.f k l0 = some (r1,r2,r3,r4)) :
  Calls Try.prog 42 #[.slice A0 l0.length c0] w fun e w' => ∃ v0_:Value,e = .returned (.tuple #[v0_,.agg #[.int .i64 r2,.int .i64 r3,.int .i64 r4]]) ∧ Kd.R (Kd.int .i64) 3 w' w.heap.size (fun _=>True) v0_ r1 ∧ Below w.heap.size w w':=by
 have hu28:=Try.underlying28;have HR0:=zM hr0;have HC0:=zM hc0;clear hr0 hc0;have HB:=zM (Below.refl w.heap.size w);have H:((spec_DrawColumnWeight.f k l0).bind fun bt1083=>(some (bt1083.1,bt1083.2.1,bt1083.2.2.1,bt1083.2.2.2))) = some (r1,r2,r3,r4):=h
 clear h;replace H:=Option.bind_eq_some_iff.mp H;obtain ⟨⟨t1083,t1086,t1087,t1088⟩,A20,H⟩:=H;replace H:(some (t1083,t1086,t1087,t1088)) = some (r1,r2,r3,r4):=H
 have A2:=zM A20;clear A20;simp only [Option.some.injEq,Prod.mk.injEq] at H
 obtain ⟨rfl,rfl,rfl,rfl⟩:=H;go_enter Try.func42,Try.ntmps42
 go_wp2_with (first|((with_reducible refine gate_dst (N:=3) rfl ?_);refine box_event ?hg (N:=3) ?hd (cs := #[.int .i64 0,.int .i64 0,.int .i64 0]) (t:=28) ?hr ?_;(case hd=>rfl);(case hg=>rfl);(case hr=>first|(go_simp;done)|(go_simp;rfl));intro gb1082 hg w3 hbox hb;have n0_:=zM (zQ (by repeat (first|(with_reducible first|exact HB.out|apply zD|apply zE|apply zF)|exact HB.out)) hb);have n1_:=zM (hbox);have n2_:=zM ((by rw [hg];exact (zR (by repeat (first|(with_reducible first|exact HB.out|apply zD|apply zE|apply zF)|exact HB.out))):w.heap.size ≤ gb1082));have n3_:=zM ((by rw [hg];exact (zR (by repeat (first|(with_reducible first|exact HB.out|apply zD|apply zE|apply zF)|exact HB.out))):w.heap.size ≤ gb1082));clear HB;have HB:=n0_;have BK1082:=n1_;have GW1082:=n2_;have GE1082:=n3_;clear n0_ n1_ n2_ n3_;clear hb hbox hg)|((with_reducible refine gate_callee (f:=70) rfl ?_);refine goesL_ (some 5) rfl rfl Try.func70 (by kernel_rfl) rfl #[.slice A0 l0.length c0] rfl (by (try simp only [List.map_toArray,List.map_cons,List.map_nil]);first|done|rfl|(simp only [List.length_drop,List.length_take];rfl)) ?_;(with_reducible refine (spec_DrawColumnWeight.calls k _ _ l0 t1083 t1086 t1087 t1088 _ ?side1 ?side2 A2.out).mono ?_);(case side1=>repeat (first|exact (zO HR0.out HB.out)|(with_reducible first|refine zG ?_ _|refine zH ?_ _|refine zI ?_)));(case side2=>exact HC0.out);rintro e w4 ⟨v1084,rfl,ho0,hb⟩;refine ⟨_,rfl,?_⟩;have n0_:=zM (Kd.R_lower ho0 (zR (by repeat (first|(with_reducible first|exact HB.out|apply zD|apply zE|apply zF|refine below_set ?_ GE1082.out)|exact HB.out))));have n1_:=zM (blk_below (g:=gb1082) (o := .cells #[.int .i64 0,.int .i64 0,.int .i64 0] 28 (0,0)) (by (with_reducible repeat (first|refine zJ ?_ _|refine zK ?_|refine zL ?_ _));exact BK1082.out) hb);have n2_:=zM (zQ (by repeat (first|(with_reducible first|exact HB.out|apply zD|apply zE|apply zF|refine below_set ?_ GE1082.out)|exact HB.out)) hb);clear BK1082;clear HB;have HO1085:=n0_;have BK1082:=n1_;have HB:=n2_;clear n0_ n1_ n2_;(try clear hb);(try clear hb2);(try clear hk);(try clear hi);(try clear ho0);have hcz5_0:w4.cell? ⟨gb1082,0,none⟩ = some (.int .i64 0):=(blk_cell BK1082.out 0).trans rfl;have hcz5_1:w4.cell? ⟨gb1082,1,none⟩ = some (.int .i64 0):=(blk_cell BK1082.out 1).trans rfl;have hcz5_2:w4.cell? ⟨gb1082,2,none⟩ = some (.int .i64 0):=(blk_cell BK1082.out 2).trans rfl;have hfz5_0:=blk_frozen BK1082.out 0;have hfz5_1:=blk_frozen BK1082.out 1;have hfz5_2:=blk_frozen BK1082.out 2))
 refine bodyPost_ret (results_tc rfl _ _ gb1082 28 #[.int .i64 t1086,.int .i64 t1087,.int .i64 t1088] (0,0) _ rfl (by (with_reducible repeat (first|refine zJ ?_ _|refine zK ?_|refine zL ?_ _));refine blk_put (cs := #[.int .i64 t1086,.int .i64 t1087,.int .i64 0]) ?_ 2 _ rfl;(with_reducible repeat (first|refine zJ ?_ _|refine zK ?_|refine zL ?_ _));refine blk_put (cs := #[.int .i64 t1086,.int .i64 0,.int .i64 0]) ?_ 1 _ rfl;(with_reducible repeat (first|refine zJ ?_ _|refine zK ?_|refine zL ?_ _));refine blk_put (cs := #[.int .i64 0,.int .i64 0,.int .i64 0]) ?_ 0 _ rfl;(with_reducible repeat (first|refine zJ ?_ _|refine zK ?_|refine zL ?_ _));exact BK1082.out) Try.underlying28 rfl (by kernel_rfl)) rfl ?_
 exact ⟨_,by first|rfl|(simp [errW_none,errW_some] <;> rfl)|(simp [*,errW_none,errW_some] <;> rfl),by (with_reducible repeat (first|apply zA|apply zB|apply zC));exact Kd.R_mono (Kd.R_far (p:=⟨gb1082,2,none⟩) (Kd.R_far (p:=⟨gb1082,1,none⟩) (Kd.R_far (p:=⟨gb1082,0,none⟩) (Kd.R_types HO1085.out BK1082.out (by decide)) (fun _ hk=>hk.2) (.int .i64 t1086)) (fun _ hk=>hk.2) (.int .i64 t1087)) (fun _ hk=>hk.2) (.int .i64 t1088)) (fun _ hk=>trivial),by repeat (first|(with_reducible first|exact HB.out|apply zD|apply zE|apply zF|refine below_set ?_ GE1082.out)|exact HB.out)⟩

end Go.Proofs.Ytcgfedaoimhejaa.G

/- What the lashing's draws make: a column of at most 100 weights. -/
namespace Go.Proofs.Ytcgfedaoimhejaa.G
open Go.RowKit Go.Proofs.YtcgfedaoimhejaaW.PrintWords Go.Proofs.YtcgfedaoimhejaaW.PrintLast
set_option linter.unusedVariables false
set_option linter.unusedSimpArgs false
def ColQ (r : List Int × Int × Int) : Prop:=(r.1.length : Int) ≤ 100 ∧ 0 ≤ r.2.1 ∧ r.2.1 ≤ 1000
theorem col1 {l : List Int} (hc : Cd l) : ∀ (d : Nat) (x3 : List Int) (a s : Int),(x3.length : Int) + d = 10 → 0 ≤ a → a + 2 * d ≤ 100 → EvP (fun k=>spec_l1Cur_column.l1 k x3 l a s) ColQ:=by
  intro d
  induction d with
  | zero =>
    intro x3 a s hd ha ha2
    refine EvP.step (fun k=>by rw [spec_l1Cur_column.l1]) ?_
    refine EvP.pick hc ha (by omega) (fun b a' s' b0 b1 a0 a1=>?_)
    dsimp only
    have e1 : wrap64 (4 + b) = 4 + b:=wrap64_id (by omega) (by omega)
    simp (disch:=omega) only [e1,if_neg]
    exact EvP.now _ ⟨by dsimp only;omega,by dsimp only;omega,by dsimp only;omega⟩
  | succ d ih =>
    intro x3 a s hd ha ha2
    refine EvP.step (fun k=>by rw [spec_l1Cur_column.l1]) ?_
    refine EvP.pick hc ha (by omega) (fun b a' s' b0 b1 a0 a1=>?_)
    dsimp only
    have e1 : wrap64 (4 + b) = 4 + b:=wrap64_id (by omega) (by omega)
    simp only [e1]
    refine EvP.ite (fun g=>?_) (fun g=>EvP.now _ ⟨by dsimp only;omega,by dsimp only;omega,by dsimp only;omega⟩)
    simp (disch:=omega) only [if_pos]
    exact ih _ _ _ (by rw [List.length_append,List.length_cons,List.length_nil];omega) (by omega) (by omega)
theorem col0 {l : List Int} (hc : Cd l) : ∀ (d : Nat) (x3 : List Int) (x4 a s : Int),x4 = d → (x3.length : Int) + x4 ≤ 8 → 0 ≤ a → a + 2 * x4 ≤ 50 → EvP (fun k=>spec_l1Cur_column.l0 k x3 x4 l a s) ColQ:=by
  intro d
  induction d with
  | zero =>
    intro x3 x4 a s hd hl ha ha2
    refine EvP.step (fun k=>by rw [spec_l1Cur_column.l0]) ?_
    simp (disch:=omega) only [if_neg]
    refine EvP.pick hc ha (by omega) (fun b a' s' b0 b1 a0 a1=>?_)
    dsimp only
    refine EvP.ite (fun g=>?_) (fun g=>?_)
    · refine EvP.among hc (by omega) (by omega) (by decide) (fun v a2 s2 hv a3 a4=>?_)
      dsimp only
      simp (disch:=omega) only [if_pos]
      exact EvP.now _ ⟨by dsimp only;rw [List.length_append,List.length_cons,List.length_nil];omega,by dsimp only;omega,by dsimp only;omega⟩
    · refine EvP.ite (fun g3=>?_) (fun g3=>EvP.now _ ⟨by dsimp only;omega,by dsimp only;omega,by dsimp only;omega⟩)
      exact col1 hc (10 - x3.length) _ _ _ (by omega) (by omega) (by omega)
  | succ d ih =>
    intro x3 x4 a s hd hl ha ha2
    refine EvP.step (fun k=>by rw [spec_l1Cur_column.l0]) ?_
    simp (disch:=omega) only [if_pos]
    refine EvP.among hc ha (by omega) (by decide) (fun v a2 s2 hv a3 a4=>?_)
    dsimp only
    simp (disch:=omega) only [if_pos,wrap64_id]
    exact ih _ _ _ _ (by omega) (by rw [List.length_append,List.length_cons,List.length_nil];omega) (by omega) (by omega)
theorem col_ok {l : List Int} (hc : Cd l) (s : Int) : EvP (fun k=>spec_l1Cur_column.f k l 0 s) ColQ:=by
  unfold spec_l1Cur_column.f
  refine EvP.pick hc (by omega) (by omega) (fun b a' s' b0 b1 a0 a1=>?_)
  dsimp only
  exact col0 hc b.toNat _ _ _ _ (by omega) (by rw [List.length_nil];omega) (by omega) (by omega)
theorem rules_ok2 {l : List Int} (hc : Cd l) (a s : Int) (ha : 0 ≤ a) (ha2 : a ≤ 2000) : ∃ L T S a' s',spec_l1Cur_lashRules.f l a s = some (L,T,S,a',s'):=by
  have key : EvP (fun _ : Nat=>spec_l1Cur_lashRules.f l a s) (fun _=>True):=by
    unfold spec_l1Cur_lashRules.f
    refine EvP.among hc ha (by omega) (by decide) (fun v1 a1 s1 _ _ _=>?_)
    dsimp only
    refine EvP.among hc (by omega) (by omega) (by decide) (fun v2 a2 s2 _ _ _=>?_)
    dsimp only
    refine EvP.among hc (by omega) (by omega) (by decide) (fun v3 a3 s3 _ _ _=>?_)
    dsimp only
    refine EvP.pick hc (by omega) (by omega) (fun b a4 s4 _ _ _ _=>?_)
    dsimp only
    refine EvP.ite (fun _=>?_) (fun _=>EvP.ite (fun _=>?_) (fun _=>EvP.ite (fun _=>?_) (fun _=>EvP.now _ trivial)))
    all_goals (refine EvP.among hc (by omega) (by omega) (by decide) (fun v5 a5 s5 _ _ _=>?_);dsimp only;exact EvP.now _ trivial)
  obtain ⟨⟨L,T,S,a',s'⟩,_,hv⟩:=key
  obtain ⟨K,hk⟩:=hv
  exact ⟨L,T,S,a',s',hk K (Nat.le_refl K)⟩
theorem rules_ok {l : List Int} (hc : Cd l) (a s : Int) (ha : 0 ≤ a) (ha2 : a ≤ 1000) : ∃ L T S a' s',spec_l1Cur_lashRules.f l a s = some (L,T,S,a',s'):=rules_ok2 hc a s ha (by omega)
end Go.Proofs.Ytcgfedaoimhejaa.G

/- What the draws of the law FnColumns make: lists of at most 100 weights. -/
namespace Go.Proofs.Ytcgfedaoimhejaa.G
open Go.RowKit Go.Proofs.YtcgfedaoimhejaaW.PrintWords Go.Proofs.YtcgfedaoimhejaaW.PrintLast
set_option linter.unusedVariables false
set_option linter.unusedSimpArgs false
theorem drawRoom {l : List Int} (hc : Cd l) : EvP (fun k=>spec_DrawRoomFor.f k l) (fun r=>(r.1.length : Int) ≤ 100):=by
  unfold spec_DrawRoomFor.f spec_DrawColumnWeight.f
  refine EvP.bind (P:=fun r=>(r.1.length : Int) ≤ 100) ?_ (fun r hr=>EvP.now _ hr)
  refine EvP.bind (col_ok hc 0) (fun r hr=>?_)
  obtain ⟨L,T,S,a',s',e⟩:=rules_ok hc r.2.1 r.2.2 hr.2.1 hr.2.2
  rw [e]
  exact EvP.now _ hr.1
theorem tdiv11 (b : Int) (h0 : 0 ≤ b) (h1 : b < 24) : 0 ≤ Int.tdiv b 11 ∧ Int.tdiv b 11 ≤ 2:=by
  rw [Int.tdiv_eq_ediv_of_nonneg h0]
  omega
theorem splitTail {l : List Int} (hc : Cd l) (x5 : List Int) (hx : (x5.length : Int) ≤ 100) (a s : Int) (ha : 0 ≤ a) (ha2 : a ≤ 1000) : EvP (fun _ : Nat=>(some (([1,2,3,0,4] : List Int) : List Int)).bind fun y957=>((spec_l1Cur_pick.f l a s 24).bind fun bt960=>(if 0 ≤ (wrap64 (3 + (wrap64 (Int.tdiv bt960.1 11)))) then (if (wrap64 (3 + (wrap64 (Int.tdiv bt960.1 11)))) ≤ (y957.length : Int) then ((spec_l1Cur_among.f l bt960.2.1 bt960.2.2 (y957.take ((wrap64 (3 + (wrap64 (Int.tdiv bt960.1 11)))) : Int).toNat)).bind fun bt967=>(some (x5,bt967.1))) else (none)) else (none)))) (fun r=>(r.1.length : Int) ≤ 100):=by
  simp only [Option.bind_some]
  refine EvP.pick hc ha (by omega) (fun b a' s' b0 b1 a0 a1=>?_)
  have t:=tdiv11 b b0 (by omega)
  dsimp only
  have e1 : wrap64 (Int.tdiv b 11) = Int.tdiv b 11:=wrap64_id (by omega) (by omega)
  have e2 : wrap64 (3 + Int.tdiv b 11) = 3 + Int.tdiv b 11:=wrap64_id (by omega) (by omega)
  rw [e1,e2,if_pos (by omega),if_pos (by simp;omega)]
  refine EvP.among hc (by omega) (by omega) (by rw [List.length_take];simp;omega) (fun v a2 s2 hv a3 a4=>?_)
  exact EvP.now _ hx
theorem drawSplit {l : List Int} (hc : Cd l) : EvP (fun k=>spec_DrawSplitColumns.f k l) (fun r=>(r.1.length : Int) ≤ 100):=by
  have l1 : ∀ (d : Nat) (x5 : List Int) (a s : Int),(x5.length : Int) + d = 12 → 0 ≤ a → a + 4 * d ≤ 100 → EvP (fun k=>spec_DrawSplitColumns.l1 k x5 l a s) (fun r=>(r.1.length : Int) ≤ 100):=by
    intro d
    induction d with
    | zero =>
      intro x5 a s hd ha ha2
      refine EvP.step (fun k=>by rw [spec_DrawSplitColumns.l1]) ?_
      refine EvP.pick hc ha (by omega) (fun b a' s' b0 b1 a0 a1=>?_)
      dsimp only
      have e1 : wrap64 (8 + b) = 8 + b:=wrap64_id (by omega) (by omega)
      rw [e1]
      simp (disch:=omega) only [if_neg]
      exact splitTail hc x5 (by omega) a' s' (by omega) (by omega)
    | succ d ih =>
      intro x5 a s hd ha ha2
      refine EvP.step (fun k=>by rw [spec_DrawSplitColumns.l1]) ?_
      refine EvP.pick hc ha (by omega) (fun b a' s' b0 b1 a0 a1=>?_)
      dsimp only
      have e1 : wrap64 (8 + b) = 8 + b:=wrap64_id (by omega) (by omega)
      rw [e1]
      refine EvP.ite (fun g=>?_) (fun g=>splitTail hc x5 (by omega) a' s' (by omega) (by omega))
      simp (disch:=omega) only [if_pos]
      exact ih _ _ _ (by rw [List.length_append,List.length_cons,List.length_nil];omega) (by omega) (by omega)
  have l0 : ∀ (d : Nat) (x5 : List Int) (x6 a s : Int),x6 = d → (x5.length : Int) + x6 ≤ 10 → 0 ≤ a → a + 2 * x6 ≤ 40 → EvP (fun k=>spec_DrawSplitColumns.l0 k x5 x6 l a s) (fun r=>(r.1.length : Int) ≤ 100):=by
    intro d
    induction d with
    | zero =>
      intro x5 x6 a s hd hl ha ha2
      refine EvP.step (fun k=>by rw [spec_DrawSplitColumns.l0]) ?_
      simp (disch:=omega) only [if_neg]
      refine EvP.pick hc ha (by omega) (fun b a' s' b0 b1 a0 a1=>?_)
      dsimp only
      refine EvP.ite (fun g=>?_) (fun g=>?_)
      · simp (disch:=omega) only [if_pos]
        exact splitTail hc (x5 ++ [0]) (by rw [List.length_append,List.length_cons,List.length_nil];omega) a' s' (by omega) (by omega)
      · refine EvP.ite (fun g3=>?_) (fun g3=>splitTail hc x5 (by omega) a' s' (by omega) (by omega))
        exact l1 (12 - x5.length) _ _ _ (by omega) (by omega) (by omega)
    | succ d ih =>
      intro x5 x6 a s hd hl ha ha2
      refine EvP.step (fun k=>by rw [spec_DrawSplitColumns.l0]) ?_
      simp (disch:=omega) only [if_pos]
      refine EvP.among hc ha (by omega) (by decide) (fun v a2 s2 hv a3 a4=>?_)
      dsimp only
      simp (disch:=omega) only [if_pos,wrap64_id]
      exact ih _ _ _ _ (by omega) (by rw [List.length_append,List.length_cons,List.length_nil];omega) (by omega) (by omega)
  unfold spec_DrawSplitColumns.f
  refine EvP.pick hc (by omega) (by omega) (fun b a' s' b0 b1 a0 a1=>?_)
  dsimp only
  exact l0 b.toNat _ _ _ _ (by omega) (by rw [List.length_nil];omega) (by omega) (by omega)
theorem addTail {l : List Int} (hc : Cd l) (x5 : List Int) (hx : (x5.length : Int) ≤ 100) (a s : Int) (ha : 0 ≤ a) (ha2 : a ≤ 1100) (b : Bool) (hb : b = true → 3 ≤ (x5.length : Int)) : EvP (fun k=>spec_DrawAddOnTop.j0 k x5 b l a s) (fun r=>(r.1.length : Int) ≤ 100):=by
  have one : ∀ y5 : List Int,(y5.length : Int) ≤ 100 → EvP (fun _ : Nat=>(some (([1,5000,20000,32000,0,32001] : List Int) : List Int)).bind fun y1010=>((spec_l1Cur_pick.f l a s 24).bind fun bt1013=>(if 0 ≤ (wrap64 (4 + (wrap64 (Int.tdiv bt1013.1 11)))) then (if (wrap64 (4 + (wrap64 (Int.tdiv bt1013.1 11)))) ≤ (y1010.length : Int) then ((spec_l1Cur_among.f l bt1013.2.1 bt1013.2.2 (y1010.take ((wrap64 (4 + (wrap64 (Int.tdiv bt1013.1 11)))) : Int).toNat)).bind fun bt1020=>((spec_l1Cur_lashRules.f l bt1020.2.1 bt1020.2.2).bind fun bt1023=>(some (y5,bt1020.1,bt1023.1,bt1023.2.1,bt1023.2.2.1)))) else (none)) else (none)))) (fun r=>(r.1.length : Int) ≤ 100):=by
    intro y5 hy
    simp only [Option.bind_some]
    refine EvP.pick hc ha (by omega) (fun b a' s' b0 b1 a0 a1=>?_)
    have t:=tdiv11 b b0 (by omega)
    dsimp only
    have e1 : wrap64 (Int.tdiv b 11) = Int.tdiv b 11:=wrap64_id (by omega) (by omega)
    have e2 : wrap64 (4 + Int.tdiv b 11) = 4 + Int.tdiv b 11:=wrap64_id (by omega) (by omega)
    rw [e1,e2,if_pos (by omega),if_pos (by simp;omega)]
    refine EvP.among hc (by omega) (by omega) (by rw [List.length_take];simp;omega) (fun v a2 s2 hv a3 a4=>?_)
    dsimp only
    have key : ∃ L T S a9 s9,spec_l1Cur_lashRules.f l a2 s2 = some (L,T,S,a9,s9):=rules_ok2 hc a2 s2 (by omega) (by omega)
    obtain ⟨L,T,S,a9,s9,e⟩:=key
    rw [e]
    exact EvP.now _ hy
  refine EvP.step (fun k=>by rw [spec_DrawAddOnTop.j0]) ?_
  refine EvP.ite (fun h=>?_) (fun _=>one x5 hx)
  exact EvP.ite (fun g=>one (x5.take (3 : Int).toNat) (by rw [List.length_take];omega)) (fun g=>absurd (hb h) g)
theorem drawAdd {l : List Int} (hc : Cd l) : EvP (fun k=>spec_DrawAddOnTop.f k l) (fun r=>(r.1.length : Int) ≤ 100):=by
  unfold spec_DrawAddOnTop.f
  refine EvP.bind (col_ok hc 0) (fun r hr=>?_)
  obtain ⟨h1,h2,h3⟩:=hr
  refine EvP.ite (fun g=>?_) (fun g=>addTail hc _ h1 _ _ h2 (by omega) _ (fun h=>absurd h (by decide)))
  refine EvP.one hc h2 (by omega) (fun b a' s' a0 a1=>?_)
  dsimp only
  exact addTail hc _ h1 _ _ (by omega) (by omega) _ (fun _=>by omega)
end Go.Proofs.Ytcgfedaoimhejaa.G

namespace Go.Proofs.Ytcgfedaoimhejaa.G
open Go.RowKit Go.Proofs.YtcgfedaoimhejaaW.PrintWords Go.Proofs.YtcgfedaoimhejaaW.PrintLast
set_option linter.unusedVariables false
set_option linter.unusedSimpArgs false
/-- All weights of the column with one more on top. -/
def withTop (l : List Int) (x : Int) : List Int:=l ++ [x]
theorem needR_true {l : List Int} {L T S : Int} (h : (needR l L T S).2 = true) : Lashed l L T S:=by
  apply Classical.byContradiction
  intro hn
  unfold needR at h
  rw [chk_neg hn] at h
  cases h
noncomputable def addR (l : List Int) (x L T S : Int) : List Int × Bool:=chk (Lashed l L T S ∧ (needR (withTop l x) L T S).2 = true ∧ ¬ tot (withTop l x) 0 (withTop l x).length > L) (withTop l x,true) ([],false)
theorem addR_len (l : List Int) (x L T S : Int) : ((addR l x L T S).1.length : Int) ≤ 5:=by
  unfold addR
  by_cases h : Lashed l L T S ∧ (needR (withTop l x) L T S).2 = true ∧ ¬ tot (withTop l x) 0 (withTop l x).length > L
  · rw [chk_pos h]
    have:=h.1.1.1
    show ((withTop l x).length : Int) ≤ 5
    unfold withTop
    rw [List.length_append,List.length_singleton];omega
  · rw [chk_neg h];decide
theorem impl_Add (l : List Int) (x L T S : Int) : Ev (fun k=>impl_AddOnTop.f k l x L T S) (addR l x L T S):=by
  unfold impl_AddOnTop.f
  simp only [impl_lashed,Option.bind_some]
  by_cases h : Lashed l L T S
  · rw [chk_pos h]
    have h4:=h.1.1
    have hl : (withTop l x).length = l.length + 1:=by unfold withTop;rw [List.length_append,List.length_singleton]
    have hc : slices_Clone_int_int.f l = some l:=by
      unfold slices_Clone_int_int.f
      rw [if_pos (by rw [List.length_nil];omega)]
    simp only [if_true,hc,Option.bind_some]
    simp (disch:=omega) only [if_pos]
    refine Ev.bind (impl_LashN (withTop l x) L T S) ?_
    refine Ev.ite (fun g=>?_) (fun g=>?_)
    · have gl:=needR_true g
      have hs:=impl_sum gl.1 0 (by omega) (by omega)
      rw [show (0 : Int).toNat = 0 from rfl,List.drop_zero,Nat.sub_zero] at hs
      refine Ev.bind hs ?_
      unfold addR
      refine Ev.ite (fun g2=>?_) (fun g2=>?_)
      · rw [chk_neg (fun m=>m.2.2 g2)];exact Ev.now _
      · rw [chk_pos ⟨h,g,g2⟩];exact Ev.now _
    · unfold addR
      rw [chk_neg (fun m=>g m.2.1)];exact Ev.now _
  · rw [chk_neg h]
    unfold addR
    rw [chk_neg (fun m=>h m.1)]
    simp only [Bool.false_eq_true,if_false]
    exact Ev.now _
theorem spec_Add (l : List Int) (hl : (l.length : Int) ≤ 1099511627776) (x L T S : Int) : Ev (fun k=>spec_AddOnTop.f k l x L T S) (addR l x L T S):=by
  have no : ¬ Lashed l L T S → Ev (fun k=>spec_AddOnTop.j0 k l x true L T S) (addR l x L T S):=by
    intro h
    unfold addR
    rw [chk_neg (fun m=>h m.1)]
    refine Ev.step (fun k=>by rw [spec_AddOnTop.j0]) ?_
    simp only [if_true];exact Ev.now _
  unfold spec_AddOnTop.f
  refine Ev.bind (spec_col l hl) ?_
  refine Ev.ite (fun h=>?_) (fun h=>no (fun m=>h (chk_true.2 m.1)))
  have h:=chk_true.1 h
  simp only [spec_rules,Option.bind_some]
  by_cases g : Rules L T S
  · rw [chk_pos g]
    have hL : Lashed l L T S:=⟨h,g⟩
    have h4:=h.1
    have hll : (withTop l x).length = l.length + 1:=by unfold withTop;rw [List.length_append,List.length_singleton]
    have hc : spec_l1Own.f l = some l:=by
      unfold spec_l1Own.f
      simp only [Option.bind_some,List.length_nil,List.nil_append]
      rw [if_pos (by omega)]
    refine Ev.step (fun k=>by rw [spec_AddOnTop.j0]) ?_
    simp only [Bool.not_true,Bool.false_eq_true,if_false,hc,Option.bind_some]
    simp (disch:=omega) only [if_pos]
    refine Ev.bind (spec_LashN (withTop l x) (by omega) L T S) ?_
    refine Ev.ite (fun g1=>?_) (fun g1=>?_)
    · have gl:=needR_true g1
      have hs:=spec_sum gl.1 0 (by omega) (by omega)
      rw [show (0 : Int).toNat = 0 from rfl,Nat.sub_zero] at hs
      refine Ev.bind hs ?_
      unfold addR
      refine Ev.ite (fun g2=>?_) (fun g2=>?_)
      · rw [chk_neg (fun m=>m.2.2 g2)];exact Ev.now _
      · rw [chk_pos ⟨hL,g1,g2⟩];exact Ev.now _
    · unfold addR
      rw [chk_neg (fun m=>g1 m.2.1)];exact Ev.now _
  · rw [chk_neg g]
    exact no (fun m=>g m.2)

theorem need_true (F : List Int) (S : Int) : ∀ (d : Nat) (i : Int) (a : List Int),(need F S d i a).2 = true ↔ All (fun j => ¬ Int.tdiv (rd F j + S - 1) S > 4) i (i + d):=by
  intro d
  induction d with
  | zero =>
    intro i a
    exact ⟨fun _ j h1 h2=>by omega,fun _=>rfl⟩
  | succ d ih =>
    intro i a
    rw [need_succ,All.step (show i < i + ((d + 1 : Nat) : Int) by omega),show i + ((d + 1 : Nat) : Int) = i + 1 + (d : Int) from by omega]
    by_cases g : Int.tdiv (rd F i + S - 1) S > 4
    · rw [if_pos g]
      exact ⟨(fun h=>by cases h),fun h=>absurd g h.1⟩
    · rw [if_neg g,ih]
      exact ⟨fun h=>⟨g,h⟩,fun h=>h.2⟩
theorem rd_app (l : List Int) (x : Int) (i : Int) (h0 : 0 ≤ i) : rd (l ++ [x]) i = if i < (l.length : Int) then rd l i else if i = (l.length : Int) then x else 0:=by
  unfold rd
  rw [List.getD_eq_getElem?_getD,List.getD_eq_getElem?_getD]
  by_cases h : i < (l.length : Int)
  · rw [if_pos h,List.getElem?_append_left (by omega)]
  · rw [if_neg h,List.getElem?_append_right (by omega)]
    by_cases e : i = (l.length : Int)
    · rw [if_pos e,show i.toNat - l.length = 0 from by omega];rfl
    · rw [if_neg e,show i.toNat - l.length = (i.toNat - l.length - 1) + 1 from by omega];rfl
theorem rd_forces (l : List Int) (T : Int) : ∀ (d : Nat) (i : Int),0 ≤ i → i < (d : Int) → rd (forcesTo l T d) i = fr l T i:=by
  intro d
  induction d with
  | zero=>intro i h0 h1;omega
  | succ d ih =>
    intro i h0 h1
    rw [forcesTo_succ,rd_app _ _ _ h0,forces_len]
    by_cases h : i < (d : Int)
    · rw [if_pos h,ih i h0 h]
    · rw [if_neg h,if_pos (by omega),show (d : Int) = i from by omega]
theorem tot_mono (l : List Int) (x y : Int) (h : y ≤ x) (i : Int) (h0 : 0 ≤ i) : ∀ d : Nat,tot (withTop l y) i d ≤ tot (withTop l x) i d:=by
  intro d
  induction d with
  | zero=>exact Int.le_refl _
  | succ d ih =>
    rw [tot_succ,tot_succ]
    have : rd (withTop l y) (i + d) ≤ rd (withTop l x) (i + d):=by
      unfold withTop
      rw [rd_app _ _ _ (by omega),rd_app _ _ _ (by omega)]
      split
      · exact Int.le_refl _
      · split
        · exact h
        · exact Int.le_refl _
    omega
theorem top_len (l : List Int) (x : Int) : (withTop l x).length = l.length + 1:=by unfold withTop;rw [List.length_append,List.length_singleton]
theorem col_mono {l : List Int} {x y : Int} (h : Col (withTop l x)) (h1 : 1 ≤ y) (h2 : y ≤ x) : Col (withTop l y):=by
  have hx:=h.1
  rw [top_len] at hx
  refine ⟨by rw [top_len];exact hx,fun i i0 i1=>?_⟩
  rw [top_len] at i1
  have o:=h.2 i i0 (by rw [top_len];exact i1)
  have ol:=h.2 (l.length : Int) (by omega) (by rw [top_len];omega)
  unfold okW withTop at o ol ⊢
  rw [rd_app _ _ _ i0] at o ⊢
  rw [rd_app _ _ _ (by omega),if_neg (by omega),if_pos rfl] at ol
  split
  · rename_i g;rw [if_pos g] at o;exact o
  · split
    · omega
    · rename_i g1 g2;omega
theorem fr_mono {l : List Int} {x y : Int} (hx : Col (withTop l x)) (h1 : 1 ≤ y) (h2 : y ≤ x) (T : Int) (hT : 0 ≤ T ∧ T ≤ 100) (i : Int) (i0 : 0 ≤ i) (i1 : i ≤ (l.length : Int) + 1) : fr (withTop l y) T i ≤ fr (withTop l x) T i:=by
  have hy:=col_mono hx h1 h2
  have px:=prod_bd hx T hT i i0 (by rw [top_len];omega)
  have py:=prod_bd hy T hT i i0 (by rw [top_len];omega)
  have m:=Int.mul_le_mul_of_nonneg_left (tot_mono l x y h2 i i0 ((withTop l x).length - i.toNat)) hT.1
  unfold fr
  rw [top_len] at px py m ⊢
  rw [top_len]
  rw [Int.tdiv_eq_ediv_of_nonneg (by omega),Int.tdiv_eq_ediv_of_nonneg (by omega)]
  omega
noncomputable def okTop (l : List Int) (L T S x : Int) : Prop:=(addR l x L T S).2 = true
theorem ok_iff (l : List Int) (L T S x : Int) : okTop l L T S x ↔ (Lashed l L T S ∧ (needR (withTop l x) L T S).2 = true ∧ ¬ tot (withTop l x) 0 (withTop l x).length > L):=by
  unfold okTop addR
  by_cases h : Lashed l L T S ∧ (needR (withTop l x) L T S).2 = true ∧ ¬ tot (withTop l x) 0 (withTop l x).length > L
  · rw [chk_pos h];exact ⟨fun _=>h,fun _=>rfl⟩
  · rw [chk_neg h];exact ⟨(fun m=>by cases m),fun m=>absurd m h⟩
theorem ok_mono {l : List Int} {L T S x y : Int} (h : okTop l L T S x) (h1 : 1 ≤ y) (h2 : y ≤ x) : okTop l L T S y:=by
  rw [ok_iff] at h ⊢
  obtain ⟨hl,hn,ht⟩:=h
  have hx:=needR_true hn
  have hy : Lashed (withTop l y) L T S:=⟨col_mono hx.1 h1 h2,hx.2⟩
  have hT:=hx.2.2.1
  have hS:=hx.2.2.2
  refine ⟨hl,?_,?_⟩
  · unfold needR at hn ⊢
    rw [chk_pos hx,need_true] at hn
    rw [chk_pos hy,need_true]
    intro j j0 j1
    rw [top_len] at j1
    have o : ¬ Int.tdiv (rd (forcesTo (withTop l x) T (withTop l x).length) j + S - 1) S > 4:=hn j j0 (by rw [top_len];exact j1)
    show ¬ Int.tdiv (rd (forcesTo (withTop l y) T (withTop l y).length) j + S - 1) S > 4
    rw [rd_forces _ _ _ _ j0 (by rw [top_len];omega)] at o ⊢
    have m:=fr_mono hx.1 h1 h2 T hT j j0 (by omega)
    have bx:=fr_bd hx.1 T hT j j0 (by rw [top_len];omega)
    have by_:=fr_bd hy.1 T hT j j0 (by rw [top_len];omega)
    rw [Int.tdiv_eq_ediv_of_nonneg (by omega)] at o ⊢
    have q:=Int.ediv_le_ediv (show 0 < S by omega) (show fr (withTop l y) T j + S - 1 ≤ fr (withTop l x) T j + S - 1 by omega)
    omega
  · have m:=tot_mono l x y h2 0 (by omega) (withTop l x).length
    rw [top_len] at m ht ⊢
    omega
noncomputable def best (l : List Int) (L T S : Int) : Nat → Int
  | 0=>0
  | d + 1=>chk (okTop l L T S ((d : Int) + 1)) ((d : Int) + 1) (best l L T S d)
theorem best_succ (l : List Int) (L T S : Int) (d : Nat) : best l L T S (d + 1) = chk (okTop l L T S ((d : Int) + 1)) ((d : Int) + 1) (best l L T S d):=rfl
theorem best_eq (l : List Int) (L T S : Int) (lo : Int) (h0 : 0 ≤ lo) (hk : lo = 0 ∨ okTop l L T S lo) : ∀ d : Nat,lo ≤ (d : Int) → (∀ y,lo < y → y ≤ (d : Int) → ¬ okTop l L T S y) → best l L T S d = lo:=by
  intro d
  induction d with
  | zero=>intro h1 _;show (0 : Int) = lo;omega
  | succ d ih =>
    intro h1 h2
    rw [best_succ]
    by_cases e : lo = (d : Int) + 1
    · rcases hk with hk|hk
      · omega
      · rw [e] at hk;rw [chk_pos hk,e]
    · rw [chk_neg (h2 _ (by omega) (by omega))]
      exact ih (by omega) (fun y a b=>h2 y a (by omega))
noncomputable def roomR (l : List Int) (L T S : Int) : Int × Bool:=chk (Lashed l L T S) (best l L T S 32000,true) (0,false)
theorem impl_Room (l : List Int) (L T S : Int) : Ev (fun k=>impl_RoomFor.f k l L T S) (roomR l L T S):=by
  unfold impl_RoomFor.f roomR
  simp only [impl_lashed,Option.bind_some]
  refine Ev.ite (fun h=>?_) (fun h=>?_)
  · rw [chk_pos (chk_true.1 h)]
    have main : ∀ d : Nat,(d : Int) ≤ 32000 → Ev (fun k=>impl_RoomFor.l0 k l (d : Int) L T S) (best l L T S d,true):=by
      intro d
      induction d with
      | zero =>
        intro _
        refine Ev.step (fun k=>by rw [impl_RoomFor.l0]) ?_
        refine Ev.ite (fun g=>absurd g (by decide)) (fun _=>?_)
        exact Ev.now _
      | succ d ih =>
        intro hd
        refine Ev.step (fun k=>by rw [impl_RoomFor.l0]) ?_
        simp (disch:=omega) only [if_pos]
        refine Ev.bind (impl_Add l _ L T S) ?_
        rw [best_succ,show (((d + 1 : Nat)) : Int) = (d : Int) + 1 from by omega]
        refine Ev.ite (fun g=>?_) (fun g=>?_)
        · rw [chk_pos (show okTop l L T S ((d : Int) + 1) from g)];exact Ev.now _
        · rw [chk_neg (show ¬ okTop l L T S ((d : Int) + 1) from g),wrap64_id (by omega) (by omega),show (d : Int) + 1 - 1 = (d : Int) from by omega]
          exact ih (by omega)
    exact main 32000 (by decide)
  · rw [chk_neg (fun m=>h (chk_true.2 m))];exact Ev.now _
theorem spec_Room (l : List Int) (hl : (l.length : Int) ≤ 1099511627776) (L T S : Int) : Ev (fun k=>spec_RoomFor.f k l L T S) (roomR l L T S):=by
  have no : ¬ Lashed l L T S → Ev (fun k=>spec_RoomFor.j0 k l true L T S) (roomR l L T S):=by
    intro h
    unfold roomR
    rw [chk_neg h]
    refine Ev.step (fun k=>by rw [spec_RoomFor.j0]) ?_
    simp only [if_true];exact Ev.now _
  unfold spec_RoomFor.f
  refine Ev.bind (spec_col l hl) ?_
  refine Ev.ite (fun h=>?_) (fun h=>no (fun m=>h (chk_true.2 m.1)))
  have h:=chk_true.1 h
  simp only [spec_rules,Option.bind_some]
  by_cases g : Rules L T S
  · rw [chk_pos g]
    refine Ev.step (fun k=>by rw [spec_RoomFor.j0]) ?_
    simp only [Bool.not_true,Bool.false_eq_true,if_false]
    unfold roomR
    rw [chk_pos (show Lashed l L T S from ⟨h,g⟩)]
    have main : ∀ (n : Nat) (lo hi : Int),0 ≤ lo → lo ≤ hi → hi ≤ 32000 → hi - lo ≤ n → (lo = 0 ∨ okTop l L T S lo) → (∀ y,hi < y → y ≤ 32000 → ¬ okTop l L T S y) → Ev (fun k=>spec_RoomFor.l0 k l lo hi L T S) (best l L T S 32000,true):=by
      intro n
      induction n with
      | zero =>
        intro lo hi h0 h1 h2 hn hk hh
        refine Ev.step (fun k=>by rw [spec_RoomFor.l0]) ?_
        simp (disch:=omega) only [if_neg]
        rw [best_eq l L T S lo h0 hk 32000 (by omega) (fun y a b=>hh y (by omega) (by omega))]
        exact Ev.now _
      | succ n ih =>
        intro lo hi h0 h1 h2 hn hk hh
        by_cases e : lo < hi
        · have em : wrap64 (Int.tdiv (wrap64 ((wrap64 (lo + hi)) + 1)) 2) = (lo + hi + 1) / 2:=by
            rw [wrap64_id (x:=lo + hi) (by omega) (by omega),wrap64_id (x:=lo + hi + 1) (by omega) (by omega),Int.tdiv_eq_ediv_of_nonneg (by omega),wrap64_id (by omega) (by omega)]
          refine Ev.step (fun k=>by rw [spec_RoomFor.l0]) ?_
          simp only [em]
          simp (disch:=omega) only [if_pos]
          refine Ev.bind (spec_Add l hl _ L T S) ?_
          refine Ev.ite (fun g1=>?_) (fun g1=>?_)
          · exact ih _ hi (by omega) (by omega) h2 (by omega) (Or.inr g1) hh
          · rw [wrap64_id (by omega) (by omega)]
            exact ih lo _ h0 (by omega) (by omega) (by omega) hk (fun y a b m=>g1 (ok_mono (l:=l) (L:=L) (T:=T) (S:=S) (x:=y) m (by omega) (by omega)))
        · refine Ev.step (fun k=>by rw [spec_RoomFor.l0]) ?_
          simp (disch:=omega) only [if_neg]
          rw [best_eq l L T S lo h0 hk 32000 (by omega) (fun y a b=>hh y (by omega) (by omega))]
          exact Ev.now _
    exact main 32000 0 32000 (by omega) (by omega) (by omega) (by omega) (Or.inl rfl) (fun y a b=>by omega)
  · rw [chk_neg g]
    exact no (fun m=>g m.2)
end Go.Proofs.Ytcgfedaoimhejaa.G

/- Facts on sums of columns and rooms, for the law FnColumns. -/
namespace Go.Proofs.Ytcgfedaoimhejaa.G
open Go.RowKit Go.Proofs.YtcgfedaoimhejaaW.PrintWords Go.Proofs.YtcgfedaoimhejaaW.PrintLast
set_option linter.unusedVariables false
set_option linter.unusedSimpArgs false
theorem rSum_tot {l : List Int} (hl : l.length ≤ 100) (hb : ∀ x ∈ l,1 ≤ x ∧ x ≤ 32000) : Ev (fun k=>laws_rSum.f k l) (tot l 0 l.length):=by
  unfold laws_rSum.f
  have main : ∀ (d : Nat) (i : Nat),i + d = l.length → Ev (fun k=>laws_rSum.l0 k l (tot l 0 i) (i : Int)) (tot l 0 l.length):=by
    intro d
    induction d with
    | zero =>
      intro i hi
      refine Ev.step (fun k=>by rw [laws_rSum.l0]) ?_
      simp (disch:=omega) only [if_neg]
      rw [show i = l.length by omega]
      exact Ev.now _
    | succ d ih =>
      intro i hi
      have r:=ih (i + 1) (by omega)
      have b1:=tot_bd9 hb i (by omega)
      have b2:=tot_bd9 hb (i + 1) (by omega)
      rw [tot_succ,show (0 : Int) + (i : Int) = (i : Int) by omega] at r b2
      rw [show ((i + 1 : Nat) : Int) = (i : Int) + 1 by omega] at r
      refine Ev.step (fun k=>by rw [laws_rSum.l0]) ?_
      simp (disch:=omega) only [if_pos,wrap64_id]
      exact r
  exact main l.length 0 (by omega)
theorem rInts_C (xs : List Int) (h : (xs.length : Int) ≤ 1048576) : Ev (fun k=>laws_rInts.f k xs xs) true:=by
  unfold laws_rInts.f
  simp only [if_true]
  refine Ev.upc (fun k i=>laws_rInts.l0 k xs xs i) true (xs.length : Int) 0 ?_ ?_ 0 (by omega) (by omega)
  · refine Ev.step (fun k=>by rw [laws_rInts.l0]) ?_
    simp only [Int.lt_irrefl,if_false]
    exact Ev.now _
  · intro i h0 hlt hr
    refine Ev.step (fun k=>by rw [laws_rInts.l0]) ?_
    simp (disch:=omega) only [wrap64_id,if_pos,if_true]
    exact hr
theorem rTable_C (xs : List (List Int)) (h : xs.length ≤ 100) (hr : ∀ i : Nat,i < xs.length → (rd_L1 xs (i : Int)).length ≤ 100) : Ev (fun k=>laws_rTable.f k xs xs) true:=by
  unfold laws_rTable.f
  simp only [if_true]
  refine Ev.upc (fun k i=>laws_rTable.l0 k xs xs i) true (xs.length : Int) 0 ?_ ?_ 0 (by omega) (by omega)
  · refine Ev.step (fun k=>by rw [laws_rTable.l0]) ?_
    simp only [Int.lt_irrefl,if_false]
    exact Ev.now _
  · intro i h0 hlt hr2
    refine Ev.step (fun k=>by rw [laws_rTable.l0]) ?_
    have e9 : wrap64 (i + 1) = i + 1:=wrap64_id (by omega) (by omega)
    have h1:=hr i.toNat (by omega)
    rw [show ((i.toNat : Nat) : Int) = i by omega] at h1
    simp only [if_pos hlt,if_pos h0,e9]
    refine Ev.bind (rInts_C _ (by omega)) ?_
    simp only [if_true]
    exact hr2
def sumK (f : Nat → Int) : Nat → Int
  | 0=>0
  | n + 1=>sumK f n + f n
theorem sumK_add (f : Nat → Int) (c : Nat) (x : Int) : ∀ n : Nat,sumK (fun k=>if k = c then f k + x else f k) n = sumK f n + (if c < n then x else 0)
  | 0=>by simp [sumK]
  | n + 1=>by
    have ih:=sumK_add f c x n
    rw [sumK,sumK,ih]
    by_cases e : n = c
    · subst e
      rw [if_pos rfl,if_neg (Nat.lt_irrefl n),if_pos (Nat.lt_succ_self n)];omega
    · rw [if_neg e]
      by_cases h : c < n
      · rw [if_pos h,if_pos (by omega)];omega
      · rw [if_neg h,if_neg (by omega)];omega
theorem sumK_congr {f g : Nat → Int} : ∀ n : Nat,(∀ k,k < n → f k = g k) → sumK f n = sumK g n
  | 0,_=>rfl
  | n + 1,h=>by rw [sumK,sumK,sumK_congr n (fun k hk=>h k (by omega)),h n (by omega)]
theorem sumK_le {f : Nat → Int} {m : Int} : ∀ n : Nat,(∀ k,k < n → f k ≤ m) → sumK f n ≤ m * (n : Int)
  | 0,_=>by simp [sumK]
  | n + 1,h=>by
    have h1:=sumK_le n (fun k hk=>h k (by omega))
    have h2:=h n (by omega)
    rw [sumK,show ((n + 1 : Nat) : Int) = (n : Int) + 1 by omega,Int.mul_add,Int.mul_one]
    omega
theorem tot_snoc (l : List Int) (x : Int) : tot (l ++ [x]) 0 (l.length + 1) = tot l 0 l.length + x:=by
  have:=tot_app l [x] 1
  rw [this,tot_succ]
  simp [tot,rd]
theorem all_sum (ws dv : List Int) (n : Nat) (h : ∀ x ∈ dv,0 ≤ x ∧ x < (n : Int)) : ∀ i : Nat,i ≤ dv.length → sumK (fun k=>tot (colTo ws dv (k : Int) i) 0 (colTo ws dv (k : Int) i).length) n = tot ws 0 i
  | 0,_=>by
    have : ∀ n : Nat,sumK (fun k=>tot (colTo ws dv (k : Int) 0) 0 (colTo ws dv (k : Int) 0).length) n = 0:=fun n=>by
      induction n with
      | zero=>rfl
      | succ n ih=>rw [sumK,ih];simp [colTo,tot]
    rw [this];rfl
  | i + 1,hi=>by
    have ih:=all_sum ws dv n h i (by omega)
    have hc:=h _ (rd_mem dv (i : Int) (by omega) (by omega))
    rw [tot_succ,show (0 : Int) + (i : Int) = (i : Int) by omega,← ih]
    have e:=sumK_add (fun k=>tot (colTo ws dv (k : Int) i) 0 (colTo ws dv (k : Int) i).length) (rd dv (i : Int)).toNat (rd ws (i : Int)) n
    rw [if_pos (by omega)] at e
    rw [← e]
    refine sumK_congr n (fun k _=>?_)
    rw [colTo]
    by_cases g : k = (rd dv (i : Int)).toNat
    · rw [if_pos g,if_pos (by omega),List.length_append,List.length_singleton,tot_snoc]
    · rw [if_neg g,if_neg (by omega)]
theorem all_many (ws dv : List Int) (n : Nat) (h : ∀ x ∈ dv,0 ≤ x ∧ x < (n : Int)) : ∀ i : Nat,i ≤ dv.length → sumK (fun k=>((colTo ws dv (k : Int) i).length : Int)) n = (i : Int)
  | 0,_=>by
    have : ∀ n : Nat,sumK (fun k=>((colTo ws dv (k : Int) 0).length : Int)) n = 0:=fun n=>by
      induction n with
      | zero=>rfl
      | succ n ih=>rw [sumK,ih];simp [colTo]
    rw [this];rfl
  | i + 1,hi=>by
    have ih:=all_many ws dv n h i (by omega)
    have hc:=h _ (rd_mem dv (i : Int) (by omega) (by omega))
    have e:=sumK_add (fun k=>((colTo ws dv (k : Int) i).length : Int)) (rd dv (i : Int)).toNat 1 n
    rw [if_pos (by omega),ih] at e
    rw [show ((i + 1 : Nat) : Int) = (i : Int) + 1 by omega,← e]
    refine sumK_congr n (fun k _=>?_)
    rw [colTo]
    by_cases g : k = (rd dv (i : Int)).toNat
    · rw [if_pos g,if_pos (by omega),List.length_append,List.length_singleton];omega
    · rw [if_neg g,if_neg (by omega)]
theorem most_ge (ws dv : List Int) : ∀ n k : Nat,k < n → colSum ws dv (k : Int) ≤ mostTo ws dv n
  | 0,k,h=>absurd h (Nat.not_lt_zero k)
  | n + 1,k,h=>by
    have h1:=mx_le (mostTo ws dv n) (colSum ws dv (n : Int))
    rw [mostTo]
    by_cases e : k = n
    · subst e;exact h1.2
    · have:=most_ge ws dv n k (by omega)
      omega
/-! The room. -/
theorem best_bd (l : List Int) (L T S : Int) : ∀ d : Nat,0 ≤ best l L T S d ∧ best l L T S d ≤ (d : Int)
  | 0=>by simp [best]
  | d + 1=>by
    have:=best_bd l L T S d
    rw [best_succ]
    by_cases h : okTop l L T S ((d : Int) + 1)
    · rw [chk_pos h];omega
    · rw [chk_neg h];omega
theorem best_ok (l : List Int) (L T S : Int) : ∀ d : Nat,0 < best l L T S d → okTop l L T S (best l L T S d)
  | 0,h=>absurd h (by simp [best])
  | d + 1,h=>by
    rw [best_succ] at h ⊢
    by_cases g : okTop l L T S ((d : Int) + 1)
    · rw [chk_pos g];exact g
    · rw [chk_neg g] at h ⊢;exact best_ok l L T S d h
theorem best_no (l : List Int) (L T S : Int) : ∀ (d : Nat) (y : Int),best l L T S d < y → y ≤ (d : Int) → ¬ okTop l L T S y
  | 0,y,h,h2=>by
    have : best l L T S 0 = 0:=rfl
    omega
  | d + 1,y,h,h2=>by
    rw [best_succ] at h
    by_cases g : okTop l L T S ((d : Int) + 1)
    · rw [chk_pos g] at h;omega
    · rw [chk_neg g] at h
      by_cases e : y = (d : Int) + 1
      · rw [e];exact g
      · exact best_no l L T S d y h (by omega)
theorem over_no (l : List Int) (L T S : Int) (y : Int) (h : 32000 < y) : ¬ okTop l L T S y:=fun m=>by
  have h1:=needR_true ((ok_iff l L T S y).1 m).2.1
  have h2:=h1.1.2 (l.length : Int) (by omega) (by rw [top_len];omega)
  unfold okW at h2
  have h3 : rd (withTop l y) (l.length : Int) = y:=rd_last l y
  omega
theorem col_el {c : List Int} (h : Col c) : ∀ x ∈ c,1 ≤ x ∧ x ≤ 32000:=fun x hx=>by
  obtain ⟨i,hi,e⟩:=List.mem_iff_getElem.1 hx
  have o:=h.2 (i : Int) (by omega) (by omega)
  unfold okW rd at o
  rw [Int.toNat_natCast,List.getD_eq_getElem?_getD,List.getElem?_eq_getElem hi] at o
  rw [← e]
  exact o
theorem impl_weight {d : List Int} {L T S : Int} (h : Lashed d L T S) (ht : ¬ tot d 0 d.length > L) : Ev (fun k=>impl_ColumnWeight.f k d L T S) (tot d 0 d.length,true,true):=by
  unfold impl_ColumnWeight.f
  simp only [impl_lashed,Option.bind_some,chk_pos h,if_true]
  have hs:=impl_sum h.1 0 (by omega) (by omega)
  rw [show (0 : Int).toNat = 0 from rfl,List.drop_zero,Nat.sub_zero] at hs
  refine Ev.bind hs ?_
  rw [decide_eq_true (show tot d 0 d.length ≤ L by omega)]
  exact Ev.now _
end Go.Proofs.Ytcgfedaoimhejaa.G
