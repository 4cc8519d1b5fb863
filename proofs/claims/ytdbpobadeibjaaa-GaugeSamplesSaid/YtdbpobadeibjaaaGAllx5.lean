-- written for this claim by a program of this session (wip/gp), over the kit's own printer; Lean checks it
import Derived.Test.YtdbpobadeibjaaaGAllx0
import Derived.Test.YtdbpobadeibjaaaGAllx3
import Derived.Test.YtdbpobadeibjaaaGAllx4
namespace Go.Proofs.Ytdbpobadeibjaaa.GAll
open Go.RowKit Go.Proofs.YtdbpobadeibjaaaW.PrintWords Go.Proofs.YtdbpobadeibjaaaW.PrintLast Go.Proofs.YtdbpobadeibjaaaW.PrintMore
attribute [local go_sem] max2_int min2_int max_two min_two max_three min_three max_four min_four   -- for this text's walks alone
set_option linter.unusedVariables false
set_option linter.unusedSimpArgs false

--HAND
/-! ### gauge.Check, by hand: function 36 -/
def rangeErr (a b lo hi : Int) : Int := if a < lo ∨ a > hi ∨ b < lo ∨ b > hi then 2 else if a > b then 11 else 0
def makingErr (a0 a1 a2 a3 : Int) : Int := if rangeErr a0 a1 500000 2000000 ≠ 0 then rangeErr a0 a1 500000 2000000 else rangeErr a2 a3 (-1000000) 1000000
/-- A meter's first error, but for the end of its chain; 0 if there is none. -/
def meterErr (n : Int) (x : S36) : Int := if makingErr x.f0.f0 x.f0.f1 x.f1.f0 x.f1.f1 ≠ 0 then makingErr x.f0.f0 x.f0.f1 x.f1.f0 x.f1.f1 else if x.f2 < 1 ∨ x.f2 > 1000000 ∨ x.f4 < 0 ∨ x.f4 > 1000000000 ∨ x.f3 < -1 ∨ x.f3 > n - 1 then 2 else 0
def firstErr (n : Int) : List S36 → Int
  | [] => 0
  | x :: xs => if meterErr n x ≠ 0 then meterErr n x else firstErr n xs
/-- Does the chain of meter i end. -/
def endsP (l : List S36) (i : Int) : Prop := (rd_T36 l ((chainL l i).getLastD i)).f3 = -1
instance (l : List S36) (i : Int) : Decidable (endsP l i) := by unfold endsP; infer_instance
def looseFrom (l : List S36) : Nat → Nat → Int
  | 0, _ => 0
  | d + 1, k => if endsP l k then looseFrom l d (k + 1) else 13
def checkP (l : List S36) : Int := if 12 < l.length then 8 else if firstErr l.length l ≠ 0 then firstErr l.length l else looseFrom l l.length 0
def gauge_Check.f (l0 : List (S36)) : Option Int := some (checkP l0)

theorem outside_true {n lo hi : Int} (h : n < lo ∨ n > hi) : gauge_outside.f n lo hi = some true := by
  unfold gauge_outside.f
  by_cases c : n < lo
  · rw [if_pos c]
  · rw [if_neg c, decide_eq_true (by omega)]
theorem outside_false {n lo hi : Int} (h : lo ≤ n ∧ n ≤ hi) : gauge_outside.f n lo hi = some false := by
  unfold gauge_outside.f
  rw [if_neg (by omega), decide_eq_false (by omega)]
theorem gauge_checkRange.eq (k : Nat) (a b lo hi : Int) : gauge_checkRange.f (k + 1) a b lo hi = some (rangeErr a b lo hi) := by
  unfold gauge_checkRange.f rangeErr
  by_cases c : a < lo ∨ a > hi
  · rw [outside_true c, if_pos (by omega)]; rfl
  · rw [outside_false (by omega)]
    by_cases c2 : b < lo ∨ b > hi
    · rw [outside_true c2, if_pos (by omega)]; rfl
    · rw [outside_false (by omega), if_neg (by omega)]
      simp only [Option.bind_some, gauge_checkRange.j0]
      by_cases c3 : a > b
      · simp [c3]
      · simp [c3]
theorem gauge_checkMaking.eq (k : Nat) (a0 a1 a2 a3 a4 a5 a6 : Int) : gauge_checkMaking.f (k + 1) a0 a1 a2 a3 a4 a5 a6 = some (makingErr a0 a1 a2 a3) := by
  unfold gauge_checkMaking.f makingErr
  rw [gauge_checkRange.eq]
  simp only [Option.bind_some]
  by_cases c : rangeErr a0 a1 500000 2000000 = 0
  · rw [if_pos c, if_neg (by omega), gauge_checkRange.eq]; rfl
  · rw [if_neg c, if_pos c]
theorem rangeErr_zero {a b lo hi : Int} (h : rangeErr a b lo hi = 0) : lo ≤ a ∧ a ≤ b ∧ b ≤ hi := by
  unfold rangeErr at h
  split at h
  · omega
  · split at h <;> omega
theorem makingErr_zero {a0 a1 a2 a3 : Int} (h : makingErr a0 a1 a2 a3 = 0) : 500000 ≤ a0 ∧ a0 ≤ a1 ∧ a1 ≤ 2000000 ∧ -1000000 ≤ a2 ∧ a2 ≤ a3 ∧ a3 ≤ 1000000 := by
  unfold makingErr at h
  split at h
  · omega
  · rename_i c
    have h0 := rangeErr_zero (show rangeErr a0 a1 500000 2000000 = 0 by omega)
    have h1 := rangeErr_zero h
    omega
theorem meterErr_zero {n : Int} {x : S36} (h : meterErr n x = 0) : MeterOk n x := by
  unfold meterErr at h
  split at h
  · omega
  · rename_i c
    have h0 := makingErr_zero (show makingErr x.f0.f0 x.f0.f1 x.f1.f0 x.f1.f1 = 0 by omega)
    split at h
    · omega
    · unfold MeterOk; omega
theorem firstErr_zero {n : Int} : ∀ {l : List S36}, firstErr n l = 0 → ∀ x ∈ l, MeterOk n x
  | [], _, x, hx => by simp at hx
  | y :: ys, h, x, hx => by
    unfold firstErr at h
    split at h
    · omega
    · rename_i c
      rcases List.mem_cons.1 hx with rfl | hx
      · exact meterErr_zero (by omega)
      · exact firstErr_zero h x hx
theorem drop_at (l : List S36) (k : Nat) (h : k < l.length) : l.drop k = rd_T36 l k :: l.drop (k + 1) := by
  rw [List.drop_eq_getElem_cons h]
  unfold rd_T36
  rw [Int.toNat_natCast, List.getD_eq_getElem?_getD, List.getElem?_eq_getElem h]
  rfl

/-- What is taken at the return of a function whose loops over iterators have left their marks. -/
theorem leaves_marks {fn : Func} {tmps : Array Value} {R : Ending → World → Prop} {w : World} : ∀ (Ds : List Nat) (W : World), Below w.heap.size w W → Ds.Nodup →
    (∀ D ∈ Ds, w.heap.size ≤ D ∧ W.heap[D]? = some (.deferred (some []))) → (∀ W', Below w.heap.size w W' → LeavesInM Fence.wide 9 Try.prog fn tmps R [] .returning W') →
    LeavesInM Fence.wide 9 Try.prog fn tmps R (Ds.map fun D => { target := .collected D, args := #[] }) .returning W
  | [], W, hB, _, _, hR => hR W hB
  | D :: Ds, W, hB, hn, hD, hR => by
    obtain ⟨hD0, hDk⟩ := hD D (by simp)
    refine ⟨by simp, .inl ⟨D, _, rfl, run_takeDeferred hDk, ?_⟩⟩
    refine leaves_marks Ds _ (hB.grown (grownBy_putObj' W D _) hB.size (fun k e => by have := Option.some.inj e; omega)) (List.nodup_cons.1 hn).2 (fun E hE => ?_) hR
    have hne : E ≠ D := fun e => (List.nodup_cons.1 hn).1 (e ▸ hE)
    exact ⟨(hD E (by simp [hE])).1, (World.putObj_heap_other hne).trans (hD E (by simp [hE])).2⟩

theorem three_new (w : World) (o0 o1 o2 : Obj) : ∃ W, ((w.alloc o0).alloc o1).alloc o2 = W ∧ W.heap.size = w.heap.size + 1 + 1 + 1 ∧ Below w.heap.size w W ∧ W.heap[w.heap.size]? = some o0 ∧ W.heap[w.heap.size + 1]? = some o1 ∧ W.heap[w.heap.size + 1 + 1]? = some o2 := by
  refine ⟨_, rfl, by simp, ?_, ?_, ?_, ?_⟩
  · exact below_alloc (below_alloc (below_alloc (Below.refl _ _) _) _) _
  · exact blk_alloc (blk_alloc (blk_new w _) _) _
  · have := blk_alloc (blk_new (w.alloc o0) o1) o2; simpa only [World.size_alloc] using this
  · have := blk_new ((w.alloc o0).alloc o1) o2; simpa only [World.size_alloc] using this
theorem getLastD_mem : ∀ (c : Int) (cs : List Int), cs.getLastD c ∈ c :: cs
  | c, [] => by simp
  | c, d :: ds => by rw [List.getLastD_cons]; exact List.mem_cons_of_mem _ (getLastD_mem d ds)

/-- What holds at the head of the loop that looks for chains without an end. -/
def CheckInv (w : World) (l0 : List S36) (A0 : Option Addr) (c0 : Nat) (r : Int) (a : Act) (W : World) : Prop :=
  ∃ (k : Nat) (u1 u2 u3 u4 u5 u6 u7 u8 u9 u10 u11 u12 u13 u14 u15 u16 u17 u18 u19 u20 u21 u22 u23 u24 u25 u26 u27 u28 u29 u30 u31 u32 u33 u34 u35 u36 u37 u38 u39 u40 u43 u44 u45 u46 u47 u48 u49 u50 u51 u52 u53 u54 u55 u56 u57 : Value) (Ds : List Nat), a = { tmps := #[.slice A0 l0.length c0, u1, u2, u3, u4, u5, u6, u7, u8, u9, u10, u11, u12, u13, u14, u15, u16, u17, u18, u19, u20, u21, u22, u23, u24, u25, u26, u27, u28, u29, u30, u31, u32, u33, u34, u35, u36, u37, u38, u39, u40, .int .i64 l0.length, .int .i64 k, u43, u44, u45, u46, u47, u48, u49, u50, u51, u52, u53, u54, u55, u56, u57], defers := Ds.map fun D => { target := .collected D, args := #[] } } ∧ k ≤ l0.length ∧ Aside0 (r = looseFrom l0 (l0.length - k) k) ∧ Aside0 (Below w.heap.size w W) ∧ Aside0 (Ds.Nodup ∧ ∀ D ∈ Ds, w.heap.size ≤ D ∧ W.heap[D]? = some (.deferred (some [])))
def CheckMu (l0 : List S36) (a : Act) (_ : World) : Nat := l0.length - (intOf (a.tmps.getD 42 undef)).toNat

set_option maxHeartbeats 8000000 in
set_option maxRecDepth 1000000 in
attribute [local go_sem] Oper.semAt_some in
theorem gauge_Check.calls (A0 : Option Addr) (c0 : Nat) (l0 : List (S36)) (r : Int) (w : World) (hr0 : Kd.C k36 w A0 l0.length l0) (hc0 : l0.length ≤ c0) (h : gauge_Check.f l0 = some r) :
    Calls Try.prog 36 #[.slice A0 l0.length c0] w fun e w' => e = .returned (.int .i64 r) ∧ Below w.heap.size w w' := by
  have hr := (Option.some.inj h).symm
  clear h
  unfold checkP at hr
  have HR := Aside0.mk hr0
  clear hr0
  have hu36 := Try.underlying36
  have hu34 := Try.underlying34
  refine calls_marks Try.func36 rfl ?_
  simp only [Try.ntmps36, List.size_toArray, List.length_cons, List.length_nil, Nat.reduceAdd, Nat.reduceSub, Array.replicate_succ, Array.replicate_zero, List.push_toArray, List.append_toArray, List.nil_append, List.cons_append]
  by_cases hlen : 12 < l0.length
  · rw [if_pos hlen] at hr
    subst hr
    go_wp2
    exact ⟨_, results_tmp rfl _ _ _, rfl, Below.refl _ _⟩
  rw [if_neg hlen] at hr
  have h12 : l0.length ≤ 12 := by omega
  have HP := Aside0.mk hr
  have HB0 := Aside0.mk (Below.refl w.heap.size w)
  clear hr hlen
  go_wp2
  go_loopw [14] (fun s14 wr => ∃ k : Nat, s14 = .int .i64 k ∧ k ≤ l0.length ∧ Aside0 (firstErr l0.length l0 = firstErr l0.length (l0.drop k)) ∧ Aside0 (Below w.heap.size w wr)) (fun s14 _ => l0.length - (intOf s14).toNat)
  case atStart => exact ⟨0, rfl, Nat.zero_le _, ⟨rfl⟩, HB0⟩
  case round =>
    obtain ⟨k, rfl, hk, HF, HB⟩ := hrel
    by_cases hlt : k < l0.length
    · have HD := Aside0.mk (drop_at l0 k hlt)
      obtain ⟨ad, rfl, p0, p1, p2, p3, p4, p5, p6⟩ := at_T36 (Kd.C_below HR.out HB.out) (k : Int) (by omega) (by omega)
      have HF2 : Aside0 (firstErr l0.length l0 = if meterErr l0.length (rd_T36 l0 k) ≠ 0 then meterErr l0.length (rd_T36 l0 k) else firstErr l0.length (l0.drop (k + 1))) := ⟨by rw [HF.out, HD.out]; rfl⟩
      generalize rd_T36 l0 k = mx at p0 p1 p2 p3 p4 p5 p6 HF2
      clear HF HD
      simp only [Int.toNat_natCast] at p0 p1 p2 p3 p4 p5 p6
      have HC := Aside0.mk (fun W => gauge_checkMaking.calls 1 mx.f0.f0 mx.f0.f1 mx.f1.f0 mx.f1.f1 mx.f2 mx.f3 mx.f4 _ W (gauge_checkMaking.eq 0 mx.f0.f0 mx.f0.f1 mx.f1.f0 mx.f1.f1 mx.f2 mx.f3 mx.f4))
      go_wp2_with (fail)
      (with_reducible refine (HC.out _).mono ?_)
      clear HC
      rintro e w1 ⟨rfl, hb⟩
      have z := blk_below (blk_new wr (.cells #[.int .i64 mx.f0.f0, .int .i64 mx.f0.f1, .int .i64 mx.f1.f0, .int .i64 mx.f1.f1, .int .i64 mx.f2, .int .i64 mx.f3, .int .i64 mx.f4] 36)) hb
      have HB1 : Aside0 (Below w.heap.size w w1) := ⟨below_step (below_alloc HB.out _) hb⟩
      have z2 : w1.cell? ⟨wr.heap.size, 4, none⟩ = some (.int .i64 mx.f2) := (blk_cell z 4).trans rfl
      have z3 : w1.cell? ⟨wr.heap.size, 5, none⟩ = some (.int .i64 mx.f3) := (blk_cell z 5).trans rfl
      have z4 : w1.cell? ⟨wr.heap.size, 6, none⟩ = some (.int .i64 mx.f4) := (blk_cell z 6).trans rfl
      clear hb z p0 p1 p2 p3 p4 p5 p6 HB
      by_cases hm : makingErr mx.f0.f0 mx.f0.f1 mx.f1.f0 mx.f1.f1 = 0
      · have hm2 : meterErr l0.length mx = if mx.f2 < 1 ∨ mx.f2 > 1000000 ∨ mx.f4 < 0 ∨ mx.f4 > 1000000000 ∨ mx.f3 < -1 ∨ mx.f3 > l0.length - 1 then 2 else 0 := by unfold meterErr; rw [if_neg (by omega)]
        rw [hm]
        clear hm
        generalize meterErr l0.length mx = me at HF2 hm2
        generalize mx.f2 = m2 at z2 hm2
        generalize mx.f3 = m3 at z3 hm2
        generalize mx.f4 = m4 at z4 hm2
        have HM := Aside0.mk hm2
        clear hm2
        have bad : Aside0 ((m2 < 1 ∨ m2 > 1000000 ∨ m4 < 0 ∨ m4 > 1000000000 ∨ m3 < -1 ∨ m3 > l0.length - 1) → r = 2) := ⟨fun hb => by
          have h1 := HM.out; rw [if_pos hb] at h1
          have h2 := HF2.out; rw [h1] at h2
          have h3 := HP.out; rw [h2] at h3; simpa using h3⟩
        by_cases c1 : m2 < 1 ∨ m2 > 1000000
        · obtain rfl := bad.out (by omega)
          go_wp2_with (fail)
          (with_reducible refine (gauge_outside.calls _ _ _ true _ (outside_true c1)).mono ?_)
          rintro e w2 ⟨rfl, nd, rfl⟩
          go_wp2
          exact ⟨_, results_tmp rfl _ _ _, rfl, pw_below_drewN HB1.out _⟩
        by_cases c2 : m4 < 0 ∨ m4 > 1000000000
        · obtain rfl := bad.out (by omega)
          go_wp2_with (fail)
          (with_reducible refine (gauge_outside.calls _ _ _ false _ (outside_false (by omega))).mono ?_)
          rintro e w2 ⟨rfl, nd, rfl⟩
          go_wp2_with (fail)
          (with_reducible refine (gauge_outside.calls _ _ _ true _ (outside_true c2)).mono ?_)
          rintro e w2 ⟨rfl, nd2, rfl⟩
          go_wp2
          exact ⟨_, results_tmp rfl _ _ _, rfl, pw_below_drewN HB1.out _⟩
        by_cases c3 : m3 < -1 ∨ m3 > l0.length - 1
        · obtain rfl := bad.out (by omega)
          go_wp2_with (fail)
          (with_reducible refine (gauge_outside.calls _ _ _ false _ (outside_false (by omega))).mono ?_)
          rintro e w2 ⟨rfl, nd, rfl⟩
          go_wp2_with (fail)
          (with_reducible refine (gauge_outside.calls _ _ _ false _ (outside_false (by omega))).mono ?_)
          rintro e w2 ⟨rfl, nd2, rfl⟩
          go_wp2_with (fail)
          (with_reducible refine (gauge_outside.calls _ _ _ true _ (outside_true c3)).mono ?_)
          rintro e w2 ⟨rfl, nd3, rfl⟩
          go_wp2
          exact ⟨_, results_tmp rfl _ _ _, rfl, pw_below_drewN HB1.out _⟩
        · have HF3 : Aside0 (firstErr l0.length l0 = firstErr l0.length (l0.drop (k + 1))) := ⟨by have h1 := HM.out; rw [if_neg (by omega)] at h1; have h2 := HF2.out; rw [h1] at h2; simpa using h2⟩
          go_wp2_with (fail)
          (with_reducible refine (gauge_outside.calls _ _ _ false _ (outside_false (by omega))).mono ?_)
          rintro e w2 ⟨rfl, nd, rfl⟩
          go_wp2_with (fail)
          (with_reducible refine (gauge_outside.calls _ _ _ false _ (outside_false (by omega))).mono ?_)
          rintro e w2 ⟨rfl, nd2, rfl⟩
          go_wp2_with (fail)
          (with_reducible refine (gauge_outside.calls _ _ _ false _ (outside_false (by omega))).mono ?_)
          rintro e w2 ⟨rfl, nd3, rfl⟩
          go_wp2
          go_roundw
          case rel => exact ⟨k + 1, by go_num, by omega, HF3, ⟨pw_below_drewN HB1.out _⟩⟩
          case measure => simp [intOf]; omega
      · have h2 : meterErr l0.length mx = makingErr mx.f0.f0 mx.f0.f1 mx.f1.f0 mx.f1.f1 := by unfold meterErr; rw [if_pos hm]
        have HE : Aside0 (r = makingErr mx.f0.f0 mx.f0.f1 mx.f1.f0 mx.f1.f1) := ⟨by
          have h3 := HF2.out; rw [h2, if_pos hm] at h3
          have h4 := HP.out; rw [h3, if_pos hm] at h4; exact h4⟩
        clear h2
        generalize makingErr mx.f0.f0 mx.f0.f1 mx.f1.f0 mx.f1.f1 = me at hm HE
        have d1 : (me != 0) = true := bne_iff_ne.2 hm
        go_wp2
        exact ⟨_, results_tmp rfl _ _ _, by rw [HE.out]; rfl, HB1.out⟩
    · have h1 : firstErr l0.length l0 = 0 := by rw [HF.out, List.drop_of_length_le (by omega)]; rfl
      have hok := firstErr_zero h1
      have HP2 : Aside0 (r = looseFrom l0 l0.length 0) := ⟨by have h2 := HP.out; rw [h1] at h2; simpa using h2⟩
      clear HP h1 HF
      have hn : BenchOk l0 := ⟨h12, hok⟩
      clear hok
      go_wp2
      refine wp_loop (CheckInv w l0 A0 c0 r) (CheckMu l0) ?_ ?_
      · exact ⟨0, _, _, _, _, _, _, _, _, _, _, _, _, _, _, _, _, _, _, _, _, _, _, _, _, _, _, _, _, _, _, _, _, _, _, _, _, _, _, _, _, _, _, _, _, _, _, _, _, _, _, _, _, _, _, _, [], rfl, Nat.zero_le _, HP2, HB, ⟨List.nodup_nil, by simp⟩⟩
      clear HP2 HB hlt hk
      rintro a W ⟨k, u1, u2, u3, u4, u5, u6, u7, u8, u9, u10, u11, u12, u13, u14, u15, u16, u17, u18, u19, u20, u21, u22, u23, u24, u25, u26, u27, u28, u29, u30, u31, u32, u33, u34, u35, u36, u37, u38, u39, u40, u43, u44, u45, u46, u47, u48, u49, u50, u51, u52, u53, u54, u55, u56, u57, Ds, rfl, hk, HL, HB, HD⟩
      by_cases hlt : k < l0.length
      · obtain ⟨d, hd⟩ : ∃ d, l0.length - k = d + 1 := ⟨l0.length - k - 1, by omega⟩
        have HL2 : Aside0 (r = if endsP l0 k then looseFrom l0 (l0.length - (k + 1)) (k + 1) else 13) := ⟨by
          have h1 := HL.out
          rw [hd] at h1
          rw [show l0.length - (k + 1) = d by omega]
          exact h1⟩
        clear HL hd
        obtain ⟨y, hy⟩ : ∃ y, (chainL l0 k).getLastD k = y := ⟨_, rfl⟩
        have hyr : 0 ≤ y ∧ y < l0.length := by
          rw [← hy]
          cases hc : chainL l0 k with
          | nil => simp; omega
          | cons c cs =>
            have hm := chainGo_mem hn l0.length k (by omega) ((chainL l0 k).getLastD k) (by
              show _ ∈ chainL l0 k
              rw [hc, List.getLastD_cons]
              exact getLastD_mem c cs)
            rw [hc] at hm
            exact hm
        have HY := Aside0.mk hy
        clear hy
        go_wp2_with (go_at_call 76; (with_reducible refine (gauge_chain.calls _ _ _ _ _).mono ?_); rintro e w' ⟨rfl, rfl⟩)
        obtain ⟨wo, hwo⟩ : ∃ wo, W = wo := ⟨_, rfl⟩
        subst hwo
        obtain ⟨W0, hW, hsz, bw, f0, f1, f2⟩ := three_new W (.cells #[.int .i64 k] 3) (.cells #[.slice A0 l0.length c0] 22) (.cells #[.int .i64 k] 3)
        rw [hW]
        clear hW
        have bw2 := below_step HB.out bw
        have hDlt : ∀ D ∈ Ds, D < W.heap.size ∧ W0.heap[D]? = some (.deferred (some [])) := fun D hD => ⟨blk_lt (HD.out.2 D hD).2, blk_below (HD.out.2 D hD).2 bw⟩
        have hs0 := HB.out.size
        refine wp_range_chain l0 A0 c0 k (W.heap.size + 1) (W.heap.size + 1 + 1) 9 h12 (by omega) (fun i i0 i1 => (hn.at i i0 i1).2.2.2.2.2.2) (by omega) (by omega) rfl f2
          (fun pre W' => W'.heap[W.heap.size]? = some (.cells #[.int .i64 (pre.getLastD k)] 3 (0, 0)) ∧ W'.heap[W.heap.size + 1]? = some (.cells #[.slice A0 l0.length c0] 22 (0, 0)) ∧ Below w.heap.size w W' ∧ ∀ D ∈ Ds, W'.heap[D]? = some (.deferred (some [])))
          (fun pre W1 W' row hi hg hr => by
            have ne : ∀ j, j ≤ W.heap.size + 1 → some j ≠ row := fun j hj e => by rcases hr j e.symm with h1 | ⟨h1, _⟩ <;> omega
            exact ⟨heap_other hg hi.1 (ne _ (by omega)), heap_other hg hi.2.1 (ne _ (by omega)), hi.2.2.1.grown hg hi.2.2.1.size (fun j e => by rcases hr j e with h1 | ⟨h1, _⟩ <;> omega), fun D hD => heap_other hg (hi.2.2.2 D hD) (ne _ (by have := (hDlt D hD).1; omega))⟩)
          (fun pre W1 hi => ⟨hi.2.1, Kd.C_below HR.out hi.2.2.1⟩)
          ⟨f0, f1, bw2, fun D hD => (hDlt D hD).2⟩
          (fun x => { tmps := #[.slice A0 l0.length c0, u1, u2, u3, u4, u5, .int .i64 k, .pointer (some ⟨W.heap.size, 0, none⟩), .int .i64 x, u9, u10, u11, u12, u13, u14, u15, u16, u17, u18, u19, u20, u21, u22, u23, u24, u25, u26, u27, u28, u29, u30, u31, u32, u33, u34, u35, u36, u37, u38, u39, u40, .int .i64 l0.length, .int .i64 k, .bool true, .int .i64 k, .int .i64 k, .slice A0 l0.length c0, .int .i64 k, .func (.func 89) #[] #[.pointer (some ⟨W.heap.size + 1, 0, none⟩), .pointer (some ⟨W.heap.size + 1 + 1, 0, none⟩)], .int .i64 x, u50, u51, u52, u53, u54, u55, u56, u57], defers := [] }) ?assign ?body ?done
        case assign =>
          intro lp x W1 K hK
          gi_wp2
          exact hK
        case body =>
          intro lp pre x W1 hpre hi hmc
          obtain ⟨g0, g1, g2, g3⟩ := hi
          have k0 : W1.cell? ⟨W.heap.size, 0, none⟩ = some (.int .i64 (pre.getLastD k)) := (blk_cell g0 0).trans rfl
          have k1 := blk_frozen g0 0
          have G0 := Aside0.mk g0
          have G1 := Aside0.mk g1
          have G2 := Aside0.mk g2
          have G3 := Aside0.mk g3
          have GM := Aside0.mk hmc
          clear g0 g1 g2 g3 hmc hpre
          gi_wp2
          refine ⟨(KeepsOthers.setCell _ _ _).from _, blk_far GM.out (by show _ ≠ W.heap.size; omega) _, ?_, blk_far G1.out (by show _ ≠ W.heap.size; omega) _, below_set G2.out (by omega), fun D hD => heap_set_other (G3.out D hD) (by have := (hDlt D hD).1; omega)⟩
          rw [List.getLastD_concat]
          exact blk_put G0.out 0 _ rfl
        case done =>
          intro D W1 hD hi hK
          obtain ⟨g0, g1, g2, g3⟩ := hi
          rw [HY.out] at g0
          obtain ⟨ad, rfl, p0, p1, p2, p3, p4, p5, p6⟩ := at_T36 (Kd.C_below HR.out g2) y hyr.1 hyr.2
          have k0 : W1.cell? ⟨W.heap.size, 0, none⟩ = some (.int .i64 y) := (blk_cell g0 0).trans rfl
          have y0 := hyr.1
          have y1 := hyr.2
          have hiff : endsP l0 k ↔ (rd_T36 l0 y).f3 = -1 := by unfold endsP; rw [HY.out]
          have HL3 : Aside0 (((rd_T36 l0 y).f3 = -1 → r = looseFrom l0 (l0.length - (k + 1)) (k + 1)) ∧ ((rd_T36 l0 y).f3 ≠ -1 → r = 13)) := ⟨fun he => by have h1 := HL2.out; rwa [if_pos (hiff.2 he)] at h1, fun he => by have h1 := HL2.out; rwa [if_neg (fun hx => he (hiff.1 hx))] at h1⟩
          clear hiff
          have G2 := Aside0.mk g2
          have HDs : Aside0 ((D :: Ds).Nodup ∧ ∀ E ∈ D :: Ds, w.heap.size ≤ E ∧ W1.heap[E]? = some (.deferred (some []))) := ⟨by
            refine ⟨List.nodup_cons.2 ⟨fun hm => ?_, HD.out.1⟩, fun E hE => ?_⟩
            · have := (hDlt D hm).1; omega
            · rcases List.mem_cons.1 hE with rfl | hE
              · exact ⟨by omega, hK⟩
              · exact ⟨(HD.out.2 E hE).1, g3 E hE⟩⟩
          clear g0 g1 g2 g3 hK HL2 p0 p1 p2 p3 p4 p6 hyr
          generalize (rd_T36 l0 y).f3 = by_ at p5 HL3
          by_cases he : by_ = -1
          · have HL4 := Aside0.mk (HL3.out.1 he)
            have d1 : (by_ != -1) = false := bne_eq_false_iff_eq.2 he
            clear HL3 he
            go_wp2
            exact ⟨⟨k + 1, _, _, _, _, _, _, _, _, _, _, _, _, _, _, _, _, _, _, _, _, _, _, _, _, _, _, _, _, _, _, _, _, _, _, _, _, _, _, _, _, _, _, _, _, _, _, _, _, _, _, _, _, _, _, _, D :: Ds, by rw [show ((k + 1 : Nat) : Int) = (k : Int) + 1 by omega]; rfl, by omega, HL4, G2, HDs⟩, by simp [CheckMu, intOf]; omega⟩
          · obtain rfl : r = 13 := HL3.out.2 he
            have d1 : (by_ != -1) = true := bne_iff_ne.2 he
            clear HL3 he
            go_wp2
            exact leaves_marks (D :: Ds) _ G2.out HDs.out.1 HDs.out.2 (fun W' hB' => ⟨_, results_tmp rfl _ _ _, rfl, hB'⟩)
      · obtain rfl : k = l0.length := by omega
        obtain rfl : r = 0 := by have h1 := HL.out; rw [show l0.length - l0.length = 0 by omega] at h1; exact h1
        clear HL
        go_wp2
        exact leaves_marks Ds _ HB.out HD.out.1 HD.out.2 (fun W' hB' => ⟨_, results_tmp rfl _ _ _, rfl, hB'⟩)

end Go.Proofs.Ytdbpobadeibjaaa.GAll
