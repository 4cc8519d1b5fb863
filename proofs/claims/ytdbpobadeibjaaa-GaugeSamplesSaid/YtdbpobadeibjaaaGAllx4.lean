-- written for this claim by a program of this session (wip/gp), over the kit's own printer; Lean checks it
import Derived.Test.YtdbpobadeibjaaaGAllx0
namespace Go.Proofs.Ytdbpobadeibjaaa.GAll
open Go.RowKit Go.Proofs.YtdbpobadeibjaaaW.PrintWords Go.Proofs.YtdbpobadeibjaaaW.PrintLast Go.Proofs.YtdbpobadeibjaaaW.PrintMore
attribute [local go_sem] max2_int min2_int max_two min_two max_three min_three max_four min_four   -- for this text's walks alone
set_option linter.unusedVariables false
set_option linter.unusedSimpArgs false

--HAND
/-! ### gauge.chain, by hand: function 76 -/
/-- A chain of meters from m on, at most n of it. -/
def chainGo (l : List S36) : Nat → Int → List Int
  | 0, _ => []
  | n + 1, m => if m < 0 then [] else m :: chainGo l n (rd_T36 l m).f3
def chainL (l : List S36) (m : Int) : List Int := chainGo l l.length m

theorem gauge_chain.calls (A0 : Option Addr) (n0 c0 : Nat) (m : Int) (w : World) :
    Calls Try.prog 76 #[.slice A0 n0 c0, .int .i64 m] w fun e w' => e = .returned (.func (.func 89) #[] #[.pointer (some ⟨w.heap.size, 0, none⟩), .pointer (some ⟨w.heap.size + 1, 0, none⟩)]) ∧
      w' = (w.alloc (.cells #[.slice A0 n0 c0] 22)).alloc (.cells #[.int .i64 m] 3) := by
  go_enter Try.func76, Try.ntmps76
  go_wp2
  go_ret
  exact ⟨rfl, rfl⟩

set_option maxHeartbeats 4000000 in
set_option maxRecDepth 1000000 in
/-- The iterator that gauge.chain hands out: it yields the chain, in its order; J is what the caller keeps from round to round. -/
theorem gauge_chain_1.seq (l0 : List S36) (A0 : Option Addr) (c0 : Nat) (m : Int) (Bb Bm l n : Nat) (J : List Int → World → Prop) (hlen : l0.length ≤ 12) (hn : 1 ≤ n)
    (hby : ∀ i : Int, 0 ≤ i → i < l0.length → (rd_T36 l0 i).f3 < l0.length) (hm : m < l0.length) (hne : Bb ≠ Bm)
    (hset : ∀ pre A v, J pre A → J pre (A.setCell ⟨Bm, 0, none⟩ v))
    (hJb : ∀ pre A, J pre A → A.heap[Bb]? = some (.cells #[.slice A0 l0.length c0] 22 (0, 0)) ∧ Kd.C k36 A A0 l0.length l0)
    (hY : ∀ pre x A, (pre ++ [x]) <+: chainL l0 m → J pre A → A.heap[Bm]? = some (.cells #[.int .i64 x] 3 (0, 0)) → YieldAt Fence.wide (n - 1) Try.prog l #[.int .i64 x] A fun e W' =>
      e = .returned (.bool true) ∧ J (pre ++ [x]) W' ∧ W'.heap[Bm]? = some (.cells #[.int .i64 x] 3 (0, 0)))
    (W : World) (h0 : J [] W) (hBm : W.heap[Bm]? = some (.cells #[.int .i64 m] 3 (0, 0))) :
    CallsIn Fence.wide n Try.prog 89 #[.func (.yield l) #[] #[], .pointer (some ⟨Bb, 0, none⟩), .pointer (some ⟨Bm, 0, none⟩)] W fun e W' => (∃ v, e = .returned v) ∧ J (chainL l0 m) W' := by
  have hu36 := Try.underlying36
  have hu34 := Try.underlying34
  have HY := Aside0.mk hY
  have HBY := Aside0.mk hby
  have HJ := Aside0.mk hJb
  have HSET := Aside0.mk hset
  have H0 := Aside0.mk h0
  have HM := Aside0.mk hBm
  have HB := Aside0.mk (hJb [] W h0).1
  have cb : W.cell? ⟨Bb, 0, none⟩ = some (.slice A0 l0.length c0) := (blk_cell HB.out 0).trans rfl
  clear hY hby hJb hset h0 hBm
  refine callsIn_of_wp Try.func89 rfl trivial ?_ rfl
  simp only [Try.ntmps89, List.size_toArray, List.length_cons, List.length_nil, Nat.reduceAdd, Nat.reduceSub, Array.replicate_succ, Array.replicate_zero, List.push_toArray, List.append_toArray, List.nil_append, List.cons_append]
  gi_wp2
  clear cb
  gi_loopw [6] (fun s6 wr => ∃ (k : Nat) (pre : List Int) (m1 : Int), s6 = .int .i64 k ∧ k ≤ l0.length ∧ m1 < l0.length ∧ Aside0 (chainL l0 m = pre ++ chainGo l0 (l0.length - k) m1) ∧ Aside0 (J pre wr) ∧ Aside0 (wr.heap[Bm]? = some (.cells #[.int .i64 m1] 3 (0, 0)))) (fun s6 _ => l0.length - (intOf s6).toNat)
  case atStart => exact ⟨0, [], m, rfl, Nat.zero_le _, hm, ⟨rfl⟩, H0, HM⟩
  case round =>
    obtain ⟨k, pre, m1, rfl, hk, hm1, HC, HJ1, HM1⟩ := hrel
    have cm : wr.cell? ⟨Bm, 0, none⟩ = some (.int .i64 m1) := (blk_cell HM1.out 0).trans rfl
    by_cases hlt : k < l0.length
    · by_cases hneg : m1 < 0
      · have HE : Aside0 (J (chainL l0 m) wr) := ⟨by
          have := HC.out
          obtain ⟨d, hd⟩ : ∃ d, l0.length - k = d + 1 := ⟨l0.length - k - 1, by omega⟩
          rw [hd, chainGo, if_pos hneg, List.append_nil] at this
          rw [this]; exact HJ1.out⟩
        have d1 : decide (m1 < 0) = true := decide_eq_true hneg
        gi_wp2
        refine ⟨fun _ h => (by cases h), ?_⟩
        gi_wp2
        refine bodyPost_ret (results_none rfl _ _ _) rfl ?_
        exact ⟨⟨_, rfl⟩, HE.out⟩
      · have HC1 : Aside0 (chainL l0 m = (pre ++ [m1]) ++ chainGo l0 (l0.length - (k + 1)) (rd_T36 l0 m1).f3) := ⟨by
          have := HC.out
          obtain ⟨d, hd⟩ : ∃ d, l0.length - k = d + 1 := ⟨l0.length - k - 1, by omega⟩
          rw [hd, chainGo, if_neg hneg] at this
          rw [this, show l0.length - (k + 1) = d by omega, List.append_assoc]; rfl⟩
        have d1 : decide (m1 < 0) = false := decide_eq_false hneg
        have HB1 := HBY.out m1 (by omega) hm1
        obtain ⟨fn, tmps, assign, body, hy, hR⟩ := HY.out pre m1 wr ⟨_, HC1.out.symm⟩ HJ1.out HM1.out
        gi_wp2
        refine hR.mono ?_
        clear hR hy cm
        rintro e W3 ⟨rfl, hJ3, hm3⟩
        obtain ⟨hb3, hc3⟩ := HJ.out _ _ hJ3
        have J3 := Aside0.mk hJ3
        have M3 := Aside0.mk hm3
        obtain ⟨ad, rfl, q0, q1, q2, q3, q4, q5, q6⟩ := at_T36 hc3 m1 (by omega) hm1
        have cb3 : W3.cell? ⟨Bb, 0, none⟩ = some (.slice (some ad) l0.length c0) := (blk_cell hb3 0).trans rfl
        have cm3 : W3.cell? ⟨Bm, 0, none⟩ = some (.int .i64 m1) := (blk_cell hm3 0).trans rfl
        have fm3 : W3.frozen? ⟨Bm, 0, none⟩ = false := blk_frozen hm3 0
        have e1 : 0 ≤ m1 := by omega
        clear hJ3 hm3 hb3 hc3 q0 q1 q2 q3 q4 q6
        gi_wp2
        go_roundw
        case rel => exact ⟨k + 1, pre ++ [m1], _, by go_num, by omega, HB1, HC1, ⟨HSET.out _ _ _ J3.out⟩, ⟨blk_put M3.out 0 _ rfl⟩⟩
        case measure => simp [intOf]; omega
    · have HE : Aside0 (J (chainL l0 m) wr) := ⟨by
        have := HC.out
        rw [show l0.length - k = 0 by omega, chainGo, List.append_nil] at this
        rw [this]; exact HJ1.out⟩
      gi_wp2
      go_end0
      exact ⟨⟨_, rfl⟩, HE.out⟩

/-- How the body of a round must be left: off its end. -/
def roundOut (R : World → Prop) : Exit → Act → World → Prop
  | .normal, _, W => R W
  | _, _, _ => False

theorem heap_other {W W' : World} {row : Option Nat} {k : Nat} {o : Obj} (hg : W.grownBy W' row) (h : W.heap[k]? = some o) (hne : some k ≠ row) : W'.heap[k]? = some o := (hg.block k (blk_lt h) hne).trans h

theorem heap_set_other {W : World} {b i k : Nat} {v : Value} {o : Obj} (h : W.heap[k]? = some o) (hne : k ≠ b) : (W.setCell ⟨b, i, none⟩ v).heap[k]? = some o := (Below.heap_setCell W ⟨b, i, none⟩ v k hne).trans h

set_option maxHeartbeats 4000000 in
/-- 'for x := range chain(bench, m) { .. }': the body's walk is asked once, at what came (pre) and what comes (x); I: what the caller keeps. -/
theorem wp_range_chain (l0 : List S36) (A0 : Option Addr) (c0 : Nat) (m : Int) (Bb Bm n : Nat) (hlen : l0.length ≤ 12) (hn : 4 ≤ n)
    (hby : ∀ i : Int, 0 ≤ i → i < l0.length → (rd_T36 l0 i).f3 < l0.length) (hm : m < l0.length) (hne : Bb ≠ Bm)
    {g : Operand} {p : Tmp} {assign body : Code} {Q : Exit → Act → World → Prop} {a : Act} {w : World}
    (hg : a.eval g = .func (.func 89) #[] #[.pointer (some ⟨Bb, 0, none⟩), .pointer (some ⟨Bm, 0, none⟩)])
    (hbm : w.heap[Bm]? = some (.cells #[.int .i64 m] 3 (0, 0)))
    (I : List Int → World → Prop)
    (hI : ∀ pre W W' row, I pre W → W.grownBy W' row → (∀ r, row = some r → r = Bm ∨ (w.heap.size ≤ r ∧ ∃ o : Obj, W.heap[r]? = some o ∧ o.isCells = false)) → I pre W')
    (hIb : ∀ pre W, I pre W → W.heap[Bb]? = some (.cells #[.slice A0 l0.length c0] 22 (0, 0)) ∧ Kd.C k36 W A0 l0.length l0)
    (h0 : I [] w) (a₁ : Int → Act)
    (hassign : ∀ (lp : Nat) (x : Int) (W : World) (K : Act → World → Prop), K (a₁ x) W →
      assign.wpIn (Fence.wide.inRound lp) (n - 1 - 1) Try.prog (Exit.then K (fun _ _ _ => False)) { tmps := a.tmps.setIfInBounds p (.int .i64 x), defers := [] } W)
    (hbody : ∀ (lp : Nat) (pre : List Int) (x : Int) (W : World), (pre ++ [x]) <+: chainL l0 m → I pre W → W.heap[Bm]? = some (.cells #[.int .i64 x] 3 (0, 0)) →
      body.wpIn (Fence.wide.inRound lp) (n - 1 - 1) Try.prog (roundOut fun W' => KeepsFrom w.heap.size W W' ∧ W'.heap[Bm]? = some (.cells #[.int .i64 x] 3 (0, 0)) ∧ I (pre ++ [x]) W') (a₁ x) W)
    (hdone : ∀ (D : Nat) (W : World), w.heap.size ≤ D → I (chainL l0 m) W → W.heap[D]? = some (.deferred (some [])) → Q .normal { a with defers := { target := .collected D, args := #[] } :: a.defers } W) :
    (Code.rangeFunc g #[p] assign body).wp Try.prog Q a w := by
  refine (wpIn_wide (n := n)).1 (wpIn_rangeFunc ?_)
  intro fn hfn
  obtain ⟨rec, hrec⟩ : ∃ rec : LoopState → Option Code → Loop, rec = fun st pe => { state := st, pending := pe, fn, tmps := a.tmps, params := #[p], assign, body, defers := w.heap.size } := ⟨_, rfl⟩
  obtain ⟨W1, hW1⟩ : ∃ W1, (w.alloc (.deferred (some []))).alloc (.loop (rec .ready none)) = W1 := ⟨_, rfl⟩
  have hbl : Bm < w.heap.size := blk_lt hbm
  have hL1 : W1.heap[w.heap.size + 1]? = some (.loop (rec .ready none)) := by
    rw [← hW1]; have := World.alloc_heap_new (w.alloc (.deferred (some []))) (.loop (rec .ready none)); rwa [World.size_alloc] at this
  have hK1 : W1.heap[w.heap.size]? = some (.deferred (some [])) := by
    rw [← hW1]; exact (Below.heap_alloc _ _ _ (by simp)).trans (World.alloc_heap_new w _)
  have hI1 : I [] W1 := by rw [← hW1]; exact hI _ _ _ none (hI _ _ _ none h0 (World.grownBy_alloc w _ none) (fun r e => by cases e)) (World.grownBy_alloc _ _ none) (fun r e => by cases e)
  have hB1 : W1.heap[Bm]? = some (.cells #[.int .i64 m] 3 (0, 0)) := by rw [← hW1]; exact blk_alloc (blk_alloc hbm _) _
  have hput : ∀ (pre : List Int) (W : World) (o o' : Obj) (r : Nat), w.heap.size ≤ r → W.heap[r]? = some o → o.isCells = false → I pre W → I pre (W.putObj r o') := fun pre W o o' r hr ho hc hi =>
    hI pre W _ (some r) hi (grownBy_putObj' W r o') (fun r' e => by cases e; exact .inr ⟨hr, o, ho, hc⟩)
  refine ⟨w.heap.size + 1, [{ target := .collected w.heap.size, args := #[] }], W1, { target := .fn (.func 89) #[.pointer (some ⟨Bb, 0, none⟩), .pointer (some ⟨Bm, 0, none⟩)], args := #[.func (.yield (w.heap.size + 1)) #[] #[]] }, W1, 89,
    #[.func (.yield (w.heap.size + 1)) #[] #[], .pointer (some ⟨Bb, 0, none⟩), .pointer (some ⟨Bm, 0, none⟩)], W1, ?_, ?_, fun _ _ => trivial, ?_, (fun _ => by omega), ?_⟩
  · rw [← hW1, hrec]; exact run_enterLoop_outer _ _ _ _ _
  · simp only [resolve, hg]
    simp [go_sem]
  · have eg := enters_of Try.func89 (by kernel_rfl) rfl
    simp [invoke, go_sem, eg _ _]
  · refine (gauge_chain_1.seq l0 A0 c0 m Bb Bm (w.heap.size + 1) (n - 1)
      (fun pre W => I pre W ∧ W.heap[w.heap.size + 1]? = some (.loop (rec .ready none)) ∧ W.heap[w.heap.size]? = some (.deferred (some []))) hlen (by omega) hby hm hne
      (fun pre A v hs => ⟨hI pre A _ (some Bm) hs.1 (grownBy_setCell' A Bm v) (fun r e => by cases e; exact .inl rfl),
        heap_other (grownBy_setCell' A Bm v) hs.2.1 (by simp; omega), heap_other (grownBy_setCell' A Bm v) hs.2.2 (by simp; omega)⟩)
      (fun pre A hs => hIb pre A hs.1) ?_ W1 ⟨hI1, hL1, hK1⟩ hB1).mono ?_
    · rintro pre x W hpre ⟨hi, hl, hk⟩ hmc
      have hlt : w.heap.size + 1 < W.heap.size := (Array.getElem?_eq_some_iff.1 hl).1
      have hy := run_yield (P := Try.prog) (args := #[.int .i64 x]) hl (by rw [hrec]; rfl)
      rw [hrec] at hy
      replace hy : (Instr.yield (w.heap.size + 1) #[.int .i64 x]).run Try.prog W = .ok (.round (w.heap.size + 1) fn (a.tmps.setIfInBounds p (.int .i64 x)) assign body) W := by simpa using hy
      refine ⟨fn, a.tmps.setIfInBounds p (.int .i64 x), assign, body, hy, ?_⟩
      refine roundIn_of_wpIn hfn ?_
      refine hassign _ x W _ ?_
      refine ⟨_, run_beginRound hl (by rw [hrec]), ?_⟩
      have hl2 : (W.putObj (w.heap.size + 1) (.loop { rec .ready none with state := .busy })).heap[w.heap.size + 1]? = some (.loop { rec .ready none with state := .busy }) := World.putObj_heap_same hlt
      have hk2 : (W.putObj (w.heap.size + 1) (.loop { rec .ready none with state := .busy })).heap[w.heap.size]? = some (.deferred (some [])) := (World.putObj_heap_other (by omega)).trans hk
      have hm2 : (W.putObj (w.heap.size + 1) (.loop { rec .ready none with state := .busy })).heap[Bm]? = some (.cells #[.int .i64 x] 3 (0, 0)) := (World.putObj_heap_other (by omega)).trans hmc
      refine wpIn_mono (hbody _ pre x _ hpre (hput _ _ _ _ _ (by omega) hl rfl hi) hm2) ?_
      rintro e a3 W3 hp
      cases e with
      | normal =>
        obtain ⟨hk3, hm3, hi3⟩ := hp
        have hl3 := hk3.same _ _ (by omega) hl2 rfl
        have hr := run_endRound (P := Try.prog) none hl3
        rw [hrec] at hr hl3
        refine ⟨_, _, hr, rfl, ⟨hput _ _ _ _ _ (by omega) hl3 rfl hi3, ?_, ?_⟩, ?_⟩
        · rw [hrec]; exact World.putObj_heap_same (Array.getElem?_eq_some_iff.1 hl3).1
        · exact (World.putObj_heap_other (by omega)).trans (hk3.same _ _ (Nat.le_refl _) hk2 rfl)
        · exact (World.putObj_heap_other (by omega)).trans hm3
      | ret => exact hp.elim
      | exit id => exact hp.elim
      | goto t => exact hp.elim
      | panic ch => exact hp.elim
      | outgrown => exact hp.elim
    · rintro e W2 ⟨⟨v, rfl⟩, hi, hl, hk⟩
      have he := run_endLoop (P := Try.prog) hl (by rw [hrec]; simp)
      rw [hrec] at he
      exact ⟨none, _, he, hdone _ _ (Nat.le_refl _) (hput _ _ _ _ _ (by omega) hl rfl hi) ((World.putObj_heap_other (by omega)).trans hk)⟩

theorem calls_marks {f : FuncId} {fn : Func} {c : Code} {args : Array Value} {w : World} {R : Ending → World → Prop} (hf : Try.prog.funcs[f]? = some fn) (hb : fn.body = some c)
    (h : c.wp Try.prog (bodyPostM Fence.wide 9 Try.prog fn R) { tmps := args ++ Array.replicate (fn.ntmps - args.size) undef, defers := [] } w) : Calls Try.prog f args w R :=
  (callsIn_wide (n := 9)).1 (callsIn_of_wp_marks hf hb trivial ((wpIn_wide (n := 9)).2 h))

/-- A bench whose meters are as the checks want them (but for the chains' ends). -/
def MeterOk (n : Int) (x : S36) : Prop := (500000 ≤ x.f0.f0 ∧ x.f0.f0 ≤ x.f0.f1 ∧ x.f0.f1 ≤ 2000000 ∧ -1000000 ≤ x.f1.f0 ∧ x.f1.f0 ≤ x.f1.f1 ∧ x.f1.f1 ≤ 1000000) ∧ 1 ≤ x.f2 ∧ x.f2 ≤ 1000000 ∧ 0 ≤ x.f4 ∧ x.f4 ≤ 1000000000 ∧ -1 ≤ x.f3 ∧ x.f3 < n
instance (n : Int) (x : S36) : Decidable (MeterOk n x) := by unfold MeterOk; infer_instance
def BenchOk (l : List S36) : Prop := l.length ≤ 12 ∧ ∀ x ∈ l, MeterOk l.length x
instance (l : List S36) : Decidable (BenchOk l) := by unfold BenchOk; infer_instance
theorem BenchOk.at {l : List S36} (h : BenchOk l) (i : Int) (h0 : 0 ≤ i) (h1 : i < l.length) : MeterOk l.length (rd_T36 l i) := by
  refine h.2 _ ?_
  unfold rd_T36
  rw [List.getD_eq_getElem?_getD, List.getElem?_eq_getElem (by omega)]
  exact List.getElem_mem _
theorem chainGo_length (l : List S36) : ∀ (n : Nat) (m : Int), (chainGo l n m).length ≤ n
  | 0, _ => Nat.le_refl _
  | n + 1, m => by
    unfold chainGo
    split
    · exact Nat.zero_le _
    · have := chainGo_length l n (rd_T36 l m).f3
      simp; omega
theorem chainGo_mem {l : List S36} (h : BenchOk l) : ∀ (n : Nat) (m : Int), m < l.length → ∀ x ∈ chainGo l n m, 0 ≤ x ∧ x < l.length
  | 0, _, _, x, hx => by simp [chainGo] at hx
  | n + 1, m, hm, x, hx => by
    unfold chainGo at hx
    split at hx
    · simp at hx
    · rcases List.mem_cons.1 hx with rfl | hx
      · exact ⟨by omega, hm⟩
      · exact chainGo_mem h n _ (h.at m (by omega) hm).2.2.2.2.2.2 x hx

end Go.Proofs.Ytdbpobadeibjaaa.GAll
