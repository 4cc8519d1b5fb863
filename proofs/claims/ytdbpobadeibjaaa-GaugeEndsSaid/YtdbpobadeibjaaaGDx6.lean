-- written for this claim by a program of this session (wip/gp), over the kit's own printer; Lean checks it
import Derived.Test.YtdbpobadeibjaaaGDx0
import Derived.Test.YtdbpobadeibjaaaGDx5
namespace Go.Proofs.Ytdbpobadeibjaaa.GD
open Go.RowKit Go.Proofs.YtdbpobadeibjaaaW.PrintWords Go.Proofs.YtdbpobadeibjaaaW.PrintLast Go.Proofs.YtdbpobadeibjaaaW.PrintMore
attribute [local go_sem] max2_int min2_int max_two min_two max_three min_three max_four min_four   -- for this text's walks alone
set_option linter.unusedVariables false
set_option linter.unusedSimpArgs false

--HAND
/-! ### gauge.Check, by hand: function 36 -/
def rangeErr (a b lo hi : Int) : Int := if a < lo ∨ a > hi ∨ b < lo ∨ b > hi then 2 else if a > b then 11 else 0
def makingErr (a0 a1 a2 a3 : Int) : Int := if rangeErr a0 a1 500000 2000000 ≠ 0 then rangeErr a0 a1 500000 2000000 else rangeErr a2 a3 (-1000000) 1000000
/-- A meter's first error, but for the end of its chain; 0 if there is none. -/
def meterErr (n : Int) (x : S36) : Int := if makingErr x.f0.f0 x.f0.f1 x.f1.f0 x.f1.f1 ≠ 0 then makingErr x.f0.f0 x.f0.f1 x.f1.f0 x.f1.f1 else if x.f2 < 1 ∨ x.f2 > 1000000 ∨ x.f4 < 0 ∨ x.f4 > 1000000000 ∨ x.f3 < -1 ∨ x.f3 > n - 1 then 2 else 0
def firstErr (n : Int) : List S36 → Int
  | [] => 0
  | x :: xs => if meterErr n x ≠ 0 then meterErr n x else firstErr n xs
/-- Does the chain of meter i end. -/
def endsP (l : List S36) (i : Int) : Prop := (rd_T36 l ((chainL l i).getLastD i)).f3 = -1
instance (l : List S36) (i : Int) : Decidable (endsP l i) := by unfold endsP; infer_instance
def looseFrom (l : List S36) : Nat → Nat → Int
  | 0, _ => 0
  | d + 1, k => if endsP l k then looseFrom l d (k + 1) else 13
def checkP (l : List S36) : Int := if 12 < l.length then 8 else if firstErr l.length l ≠ 0 then firstErr l.length l else looseFrom l l.length 0
def gauge_Check.f (l0 : List (S36)) : Option Int := some (checkP l0)

theorem outside_true {n lo hi : Int} (h : n < lo ∨ n > hi) : gauge_outside.f n lo hi = some true := by
  unfold gauge_outside.f
  by_cases c : n < lo
  · rw [if_pos c]
  · rw [if_neg c, decide_eq_true (by omega)]
theorem outside_false {n lo hi : Int} (h : lo ≤ n ∧ n ≤ hi) : gauge_outside.f n lo hi = some false := by
  unfold gauge_outside.f
  rw [if_neg (by omega), decide_eq_false (by omega)]
theorem gauge_checkRange.eq (k : Nat) (a b lo hi : Int) : gauge_checkRange.f (k + 1) a b lo hi = some (rangeErr a b lo hi) := by
  unfold gauge_checkRange.f rangeErr
  by_cases c : a < lo ∨ a > hi
  · rw [outside_true c, if_pos (by omega)]; rfl
  · rw [outside_false (by omega)]
    by_cases c2 : b < lo ∨ b > hi
    · rw [outside_true c2, if_pos (by omega)]; rfl
    · rw [outside_false (by omega), if_neg (by omega)]
      simp only [Option.bind_some, gauge_checkRange.j0]
      by_cases c3 : a > b
      · simp [c3]
      · simp [c3]
theorem gauge_checkMaking.eq (k : Nat) (a0 a1 a2 a3 a4 a5 a6 : Int) : gauge_checkMaking.f (k + 1) a0 a1 a2 a3 a4 a5 a6 = some (makingErr a0 a1 a2 a3) := by
  unfold gauge_checkMaking.f makingErr
  rw [gauge_checkRange.eq]
  simp only [Option.bind_some]
  by_cases c : rangeErr a0 a1 500000 2000000 = 0
  · rw [if_pos c, if_neg (by omega), gauge_checkRange.eq]; rfl
  · rw [if_neg c, if_pos c]
theorem rangeErr_zero {a b lo hi : Int} (h : rangeErr a b lo hi = 0) : lo ≤ a ∧ a ≤ b ∧ b ≤ hi := by
  unfold rangeErr at h
  split at h
  · omega
  · split at h <;> omega
theorem makingErr_zero {a0 a1 a2 a3 : Int} (h : makingErr a0 a1 a2 a3 = 0) : 500000 ≤ a0 ∧ a0 ≤ a1 ∧ a1 ≤ 2000000 ∧ -1000000 ≤ a2 ∧ a2 ≤ a3 ∧ a3 ≤ 1000000 := by
  unfold makingErr at h
  split at h
  · omega
  · rename_i c
    have h0 := rangeErr_zero (show rangeErr a0 a1 500000 2000000 = 0 by omega)
    have h1 := rangeErr_zero h
    omega
theorem meterErr_zero {n : Int} {x : S36} (h : meterErr n x = 0) : MeterOk n x := by
  unfold meterErr at h
  split at h
  · omega
  · rename_i c
    have h0 := makingErr_zero (show makingErr x.f0.f0 x.f0.f1 x.f1.f0 x.f1.f1 = 0 by omega)
    split at h
    · omega
    · unfold MeterOk; omega
theorem firstErr_zero {n : Int} : ∀ {l : List S36}, firstErr n l = 0 → ∀ x ∈ l, MeterOk n x
  | [], _, x, hx => by simp at hx
  | y :: ys, h, x, hx => by
    unfold firstErr at h
    split at h
    · omega
    · rename_i c
      rcases List.mem_cons.1 hx with rfl | hx
      · exact meterErr_zero (by omega)
      · exact firstErr_zero h x hx
theorem drop_at (l : List S36) (k : Nat) (h : k < l.length) : l.drop k = rd_T36 l k :: l.drop (k + 1) := by
  rw [List.drop_eq_getElem_cons h]
  unfold rd_T36
  rw [Int.toNat_natCast, List.getD_eq_getElem?_getD, List.getElem?_eq_getElem h]
  rfl

/-- What is taken at the return of a function whose loops over iterators have left their marks. -/
theorem leaves_marks {fn : Func} {tmps : Array Value} {R : Ending → World → Prop} {w : World} : ∀ (Ds : List Nat) (W : World), Below w.heap.size w W → Ds.Nodup →
    (∀ D ∈ Ds, w.heap.size ≤ D ∧ W.heap[D]? = some (.deferred (some []))) → (∀ W', Below w.heap.size w W' → LeavesInM Fence.wide 9 Try.prog fn tmps R [] .returning W') →
    LeavesInM Fence.wide 9 Try.prog fn tmps R (Ds.map fun D => { target := .collected D, args := #[] }) .returning W
  | [], W, hB, _, _, hR => hR W hB
  | D :: Ds, W, hB, hn, hD, hR => by
    obtain ⟨hD0, hDk⟩ := hD D (by simp)
    refine ⟨by simp, .inl ⟨D, _, rfl, run_takeDeferred hDk, ?_⟩⟩
    refine leaves_marks Ds _ (hB.grown (grownBy_putObj' W D _) hB.size (fun k e => by have := Option.some.inj e; omega)) (List.nodup_cons.1 hn).2 (fun E hE => ?_) hR
    have hne : E ≠ D := fun e => (List.nodup_cons.1 hn).1 (e ▸ hE)
    exact ⟨(hD E (by simp [hE])).1, (World.putObj_heap_other hne).trans (hD E (by simp [hE])).2⟩

theorem three_new (w : World) (o0 o1 o2 : Obj) : ∃ W, ((w.alloc o0).alloc o1).alloc o2 = W ∧ W.heap.size = w.heap.size + 1 + 1 + 1 ∧ Below w.heap.size w W ∧ W.heap[w.heap.size]? = some o0 ∧ W.heap[w.heap.size + 1]? = some o1 ∧ W.heap[w.heap.size + 1 + 1]? = some o2 := by
  refine ⟨_, rfl, by simp, ?_, ?_, ?_, ?_⟩
  · exact below_alloc (below_alloc (below_alloc (Below.refl _ _) _) _) _
  · exact blk_alloc (blk_alloc (blk_new w _) _) _
  · have := blk_alloc (blk_new (w.alloc o0) o1) o2; simpa only [World.size_alloc] using this
  · have := blk_new ((w.alloc o0).alloc o1) o2; simpa only [World.size_alloc] using this
theorem getLastD_mem : ∀ (c : Int) (cs : List Int), cs.getLastD c ∈ c :: cs
  | c, [] => by simp
  | c, d :: ds => by rw [List.getLastD_cons]; exact List.mem_cons_of_mem _ (getLastD_mem d ds)

/-- What holds at the head of the loop that looks for chains without an end. -/
def CheckInv (w : World) (l0 : List S36) (A0 : Option Addr) (c0 : Nat) (r : Int) (a : Act) (W : World) : Prop :=
  ∃ (k : Nat) (u1 u2 u3 u4 u5 u6 u7 u8 u9 u10 u11 u12 u13 u14 u15 u16 u17 u18 u19 u20 u21 u22 u23 u24 u25 u26 u27 u28 u29 u30 u31 u32 u33 u34 u35 u36 u37 u38 u39 u40 u43 u44 u45 u46 u47 u48 u49 u50 u51 u52 u53 u54 u55 u56 u57 : Value) (Ds : List Nat), a = { tmps := #[.slice A0 l0.length c0, u1, u2, u3, u4, u5, u6, u7, u8, u9, u10, u11, u12, u13, u14, u15, u16, u17, u18, u19, u20, u21, u22, u23, u24, u25, u26, u27, u28, u29, u30, u31, u32, u33, u34, u35, u36, u37, u38, u39, u40, .int .i64 l0.length, .int .i64 k, u43, u44, u45, u46, u47, u48, u49, u50, u51, u52, u53, u54, u55, u56, u57], defers := Ds.map fun D => { target := .collected D, args := #[] } } ∧ k ≤ l0.length ∧ Aside0 (r = looseFrom l0 (l0.length - k) k) ∧ Aside0 (Below w.heap.size w W) ∧ Aside0 (Ds.Nodup ∧ ∀ D ∈ Ds, w.heap.size ≤ D ∧ W.heap[D]? = some (.deferred (some [])))
def CheckMu (l0 : List S36) (a : Act) (_ : World) : Nat := l0.length - (intOf (a.tmps.getD 42 undef)).toNat

set_option maxHeartbeats 8000000 in
set_option maxRecDepth 1000000 in
attribute [local go_sem] Oper.semAt_some in
theorem gauge_Check.calls (A0 : Option Addr) (c0 : Nat) (l0 : List (S36)) (r : Int) (w : World) (hr0 : Kd.C k36 w A0 l0.length l0) (hc0 : l0.length ≤ c0) (h : gauge_Check.f l0 = some r) :
    Calls Try.prog 36 #[.slice A0 l0.length c0] w fun e w' => e = .returned (.int .i64 r) ∧ Below w.heap.size w w' := by
  have hr := (Option.some.inj h).symm
  clear h
  unfold checkP at hr
  have HR := Aside0.mk hr0
  clear hr0
  have hu36 := Try.underlying36
  have hu34 := Try.underlying34
  refine calls_marks Try.func36 rfl ?_
  simp only [Try.ntmps36, List.size_toArray, List.length_cons, List.length_nil, Nat.reduceAdd, Nat.reduceSub, Array.replicate_succ, Array.replicate_zero, List.push_toArray, List.append_toArray, List.nil_append, List.cons_append]
  by_cases hlen : 12 < l0.length
  · rw [if_pos hlen] at hr
    subst hr
    go_wp2
    exact ⟨_, results_tmp rfl _ _ _, rfl, Below.refl _ _⟩
  rw [if_neg hlen] at hr
  have h12 : l0.length ≤ 12 := by omega
  have HP := Aside0.mk hr
  have HB0 := Aside0.mk (Below.refl w.heap.size w)
  clear hr hlen
  go_wp2
  go_loopw [14] (fun s14 wr => ∃ k : Nat, s14 = .int .i64 k ∧ k ≤ l0.length ∧ Aside0 (firstErr l0.length l0 = firstErr l0.length (l0.drop k)) ∧ Aside0 (Below w.heap.size w wr)) (fun s14 _ => l0.length - (intOf s14).toNat)
  case atStart => exact ⟨0, rfl, Nat.zero_le _, ⟨rfl⟩, HB0⟩
  case round =>
    obtain ⟨k, rfl, hk, HF, HB⟩ := hrel
    by_cases hlt : k < l0.length
    · have HD := Aside0.mk (drop_at l0 k hlt)
      obtain ⟨ad, rfl, p0, p1, p2, p3, p4, p5, p6⟩ := at_T36 (Kd.C_below HR.out HB.out) (k : Int) (by omega) (by omega)
      have HF2 : Aside0 (firstErr l0.length l0 = if meterErr l0.length (rd_T36 l0 k) ≠ 0 then meterErr l0.length (rd_T36 l0 k) else firstErr l0.length (l0.drop (k + 1))) := ⟨by rw [HF.out, HD.out]; rfl⟩
      generalize rd_T36 l0 k = mx at p0 p1 p2 p3 p4 p5 p6 HF2
      clear HF HD
      simp only [Int.toNat_natCast] at p0 p1 p2 p3 p4 p5 p6
      have HC := Aside0.mk (fun W => gauge_checkMaking.calls 1 mx.f0.f0 mx.f0.f1 mx.f1.f0 mx.f1.f1 mx.f2 mx.f3 mx.f4 _ W (gauge_checkMaking.eq 0 mx.f0.f0 mx.f0.f1 mx.f1.f0 mx.f1.f1 mx.f2 mx.f3 mx.f4))
      go_wp2_with (fail)
      (with_reducible refine (HC.out _).mono ?_)
      clear HC
      rintro e w1 ⟨rfl, hb⟩
      have z := blk_below (blk_new wr (.cells #[.int .i64 mx.f0.f0, .int .i64 mx.f0.f1, .int .i64 mx.f1.f0, .int .i64 mx.f1.f1, .int .i64 mx.f2, .int .i64 mx.f3, .int .i64 mx.f4] 36)) hb
      have HB1 : Aside0 (Below w.heap.size w w1) := ⟨below_step (below_alloc HB.out _) hb⟩
      have z2 : w1.cell? ⟨wr.heap.size, 4, none⟩ = some (.int .i64 mx.f2) := (blk_cell z 4).trans rfl
      have z3 : w1.cell? ⟨wr.heap.size, 5, none⟩ = some (.int .i64 mx.f3) := (blk_cell z 5).trans rfl
      have z4 : w1.cell? ⟨wr.heap.size, 6, none⟩ = some (.int .i64 mx.f4) := (blk_cell z 6).trans rfl
      clear hb z p0 p1 p2 p3 p4 p5 p6 HB
      by_cases hm : makingErr mx.f0.f0 mx.f0.f1 mx.f1.f0 mx.f1.f1 = 0
      · have hm2 : meterErr l0.length mx = if mx.f2 < 1 ∨ mx.f2 > 1000000 ∨ mx.f4 < 0 ∨ mx.f4 > 1000000000 ∨ mx.f3 < -1 ∨ mx.f3 > l0.length - 1 then 2 else 0 := by unfold meterErr; rw [if_neg (by omega)]
        rw [hm]
        clear hm
        generalize meterErr l0.length mx = me at HF2 hm2
        generalize mx.f2 = m2 at z2 hm2
        generalize mx.f3 = m3 at z3 hm2
        generalize mx.f4 = m4 at z4 hm2
        have HM := Aside0.mk hm2
        clear hm2
        have bad : Aside0 ((m2 < 1 ∨ m2 > 1000000 ∨ m4 < 0 ∨ m4 > 1000000000 ∨ m3 < -1 ∨ m3 > l0.length - 1) → r = 2) := ⟨fun hb => by
          have h1 := HM.out; rw [if_pos hb] at h1
          have h2 := HF2.out; rw [h1] at h2
          have h3 := HP.out; rw [h2] at h3; simpa using h3⟩
        by_cases c1 : m2 < 1 ∨ m2 > 1000000
        · obtain rfl := bad.out (by omega)
          go_wp2_with (fail)
          (with_reducible refine (gauge_outside.calls _ _ _ true _ (outside_true c1)).mono ?_)
          rintro e w2 ⟨rfl, nd, rfl⟩
          go_wp2
          exact ⟨_, results_tmp rfl _ _ _, rfl, pw_below_drewN HB1.out _⟩
        by_cases c2 : m4 < 0 ∨ m4 > 1000000000
        · obtain rfl := bad.out (by omega)
          go_wp2_with (fail)
          (with_reducible refine (gauge_outside.calls _ _ _ false _ (outside_false (by omega))).mono ?_)
          rintro e w2 ⟨rfl, nd, rfl⟩
          go_wp2_with (fail)
          (with_reducible refine (gauge_outside.calls _ _ _ true _ (outside_true c2)).mono ?_)
          rintro e w2 ⟨rfl, nd2, rfl⟩
          go_wp2
          exact ⟨_, results_tmp rfl _ _ _, rfl, pw_below_drewN HB1.out _⟩
        by_cases c3 : m3 < -1 ∨ m3 > l0.length - 1
        · obtain rfl := bad.out (by omega)
          go_wp2_with (fail)
          (with_reducible refine (gauge_outside.calls _ _ _ false _ (outside_false (by omega))).mono ?_)
          rintro e w2 ⟨rfl, nd, rfl⟩
          go_wp2_with (fail)
          (with_reducible refine (gauge_outside.calls _ _ _ false _ (outside_false (by omega))).mono ?_)
          rintro e w2 ⟨rfl, nd2, rfl⟩
          go_wp2_with (fail)
          (with_reducible refine (gauge_outside.calls _ _ _ true _ (outside_true c3)).mono ?_)
          rintro e w2 ⟨rfl, nd3, rfl⟩
          go_wp2
          exact ⟨_, results_tmp rfl _ _ _, rfl, pw_below_drewN HB1.out _⟩
        · have HF3 : Aside0 (firstErr l0.length l0 = firstErr l0.length (l0.drop (k + 1))) := ⟨by have h1 := HM.out; rw [if_neg (by omega)] at h1; have h2 := HF2.out; rw [h1] at h2; simpa using h2⟩
          go_wp2_with (fail)
          (with_reducible refine (gauge_outside.calls _ _ _ false _ (outside_false (by omega))).mono ?_)
          rintro e w2 ⟨rfl, nd, rfl⟩
          go_wp2_with (fail)
          (with_reducible refine (gauge_outside.calls _ _ _ false _ (outside_false (by omega))).mono ?_)
          rintro e w2 ⟨rfl, nd2, rfl⟩
          go_wp2_with (fail)
          (with_reducible refine (gauge_outside.calls _ _ _ false _ (outside_false (by omega))).mono ?_)
          rintro e w2 ⟨rfl, nd3, rfl⟩
          go_wp2
          go_roundw
          case rel => exact ⟨k + 1, by go_num, by omega, HF3, ⟨pw_below_drewN HB1.out _⟩⟩
          case measure => simp [intOf]; omega
      · have h2 : meterErr l0.length mx = makingErr mx.f0.f0 mx.f0.f1 mx.f1.f0 mx.f1.f1 := by unfold meterErr; rw [if_pos hm]
        have HE : Aside0 (r = makingErr mx.f0.f0 mx.f0.f1 mx.f1.f0 mx.f1.f1) := ⟨by
          have h3 := HF2.out; rw [h2, if_pos hm] at h3
          have h4 := HP.out; rw [h3, if_pos hm] at h4; exact h4⟩
        clear h2
        generalize makingErr mx.f0.f0 mx.f0.f1 mx.f1.f0 mx.f1.f1 = me at hm HE
        have d1 : (me != 0) = true := bne_iff_ne.2 hm
        go_wp2
        exact ⟨_, results_tmp rfl _ _ _, by rw [HE.out]; rfl, HB1.out⟩
    · have h1 : firstErr l0.length l0 = 0 := by rw [HF.out, List.drop_of_length_le (by omega)]; rfl
      have hok := firstErr_zero h1
      have HP2 : Aside0 (r = looseFrom l0 l0.length 0) := ⟨by have h2 := HP.out; rw [h1] at h2; simpa using h2⟩
      clear HP h1 HF
      have hn : BenchOk l0 := ⟨h12, hok⟩
      clear hok
      go_wp2
      refine wp_loop (CheckInv w l0 A0 c0 r) (CheckMu l0) ?_ ?_
      · exact ⟨0, _, _, _, _, _, _, _, _, _, _, _, _, _, _, _, _, _, _, _, _, _, _, _, _, _, _, _, _, _, _, _, _, _, _, _, _, _, _, _, _, _, _, _, _, _, _, _, _, _, _, _, _, _, _, _, [], rfl, Nat.zero_le _, HP2, HB, ⟨List.nodup_nil, by simp⟩⟩
      clear HP2 HB hlt hk
      rintro a W ⟨k, u1, u2, u3, u4, u5, u6, u7, u8, u9, u10, u11, u12, u13, u14, u15, u16, u17, u18, u19, u20, u21, u22, u23, u24, u25, u26, u27, u28, u29, u30, u31, u32, u33, u34, u35, u36, u37, u38, u39, u40, u43, u44, u45, u46, u47, u48, u49, u50, u51, u52, u53, u54, u55, u56, u57, Ds, rfl, hk, HL, HB, HD⟩
      by_cases hlt : k < l0.length
      · obtain ⟨d, hd⟩ : ∃ d, l0.length - k = d + 1 := ⟨l0.length - k - 1, by omega⟩
        have HL2 : Aside0 (r = if endsP l0 k then looseFrom l0 (l0.length - (k + 1)) (k + 1) else 13) := ⟨by
          have h1 := HL.out
          rw [hd] at h1
          rw [show l0.length - (k + 1) = d by omega]
          exact h1⟩
        clear HL hd
        obtain ⟨y, hy⟩ : ∃ y, (chainL l0 k).getLastD k = y := ⟨_, rfl⟩
        have hyr : 0 ≤ y ∧ y < l0.length := by
          rw [← hy]
          cases hc : chainL l0 k with
          | nil => simp; omega
          | cons c cs =>
            have hm := chainGo_mem hn l0.length k (by omega) ((chainL l0 k).getLastD k) (by
              show _ ∈ chainL l0 k
              rw [hc, List.getLastD_cons]
              exact getLastD_mem c cs)
            rw [hc] at hm
            exact hm
        have HY := Aside0.mk hy
        clear hy
        go_wp2_with (go_at_call 76; (with_reducible refine (gauge_chain.calls _ _ _ _ _).mono ?_); rintro e w' ⟨rfl, rfl⟩)
        obtain ⟨wo, hwo⟩ : ∃ wo, W = wo := ⟨_, rfl⟩
        subst hwo
        obtain ⟨W0, hW, hsz, bw, f0, f1, f2⟩ := three_new W (.cells #[.int .i64 k] 3) (.cells #[.slice A0 l0.length c0] 22) (.cells #[.int .i64 k] 3)
        rw [hW]
        clear hW
        have bw2 := below_step HB.out bw
        have hDlt : ∀ D ∈ Ds, D < W.heap.size ∧ W0.heap[D]? = some (.deferred (some [])) := fun D hD => ⟨blk_lt (HD.out.2 D hD).2, blk_below (HD.out.2 D hD).2 bw⟩
        have hs0 := HB.out.size
        refine wp_range_chain l0 A0 c0 k (W.heap.size + 1) (W.heap.size + 1 + 1) 9 h12 (by omega) (fun i i0 i1 => (hn.at i i0 i1).2.2.2.2.2.2) (by omega) (by omega) rfl f2
          (fun pre W' => W'.heap[W.heap.size]? = some (.cells #[.int .i64 (pre.getLastD k)] 3 (0, 0)) ∧ W'.heap[W.heap.size + 1]? = some (.cells #[.slice A0 l0.length c0] 22 (0, 0)) ∧ Below w.heap.size w W' ∧ ∀ D ∈ Ds, W'.heap[D]? = some (.deferred (some [])))
          (fun pre W1 W' row hi hg hr => by
            have ne : ∀ j, j ≤ W.heap.size + 1 → some j ≠ row := fun j hj e => by rcases hr j e.symm with h1 | ⟨h1, _⟩ <;> omega
            exact ⟨heap_other hg hi.1 (ne _ (by omega)), heap_other hg hi.2.1 (ne _ (by omega)), hi.2.2.1.grown hg hi.2.2.1.size (fun j e => by rcases hr j e with h1 | ⟨h1, _⟩ <;> omega), fun D hD => heap_other hg (hi.2.2.2 D hD) (ne _ (by have := (hDlt D hD).1; omega))⟩)
          (fun pre W1 hi => ⟨hi.2.1, Kd.C_below HR.out hi.2.2.1⟩)
          ⟨f0, f1, bw2, fun D hD => (hDlt D hD).2⟩
          (fun x => { tmps := #[.slice A0 l0.length c0, u1, u2, u3, u4, u5, .int .i64 k, .pointer (some ⟨W.heap.size, 0, none⟩), .int .i64 x, u9, u10, u11, u12, u13, u14, u15, u16, u17, u18, u19, u20, u21, u22, u23, u24, u25, u26, u27, u28, u29, u30, u31, u32, u33, u34, u35, u36, u37, u38, u39, u40, .int .i64 l0.length, .int .i64 k, .bool true, .int .i64 k, .int .i64 k, .slice A0 l0.length c0, .int .i64 k, .func (.func 89) #[] #[.pointer (some ⟨W.heap.size + 1, 0, none⟩), .pointer (some ⟨W.heap.size + 1 + 1, 0, none⟩)], .int .i64 x, u50, u51, u52, u53, u54, u55, u56, u57], defers := [] }) ?assign ?body ?done
        case assign =>
          intro lp x W1 K hK
          gi_wp2
          exact hK
        case body =>
          intro lp pre x W1 hpre hi hmc
          obtain ⟨g0, g1, g2, g3⟩ := hi
          have k0 : W1.cell? ⟨W.heap.size, 0, none⟩ = some (.int .i64 (pre.getLastD k)) := (blk_cell g0 0).trans rfl
          have k1 := blk_frozen g0 0
          have G0 := Aside0.mk g0
          have G1 := Aside0.mk g1
          have G2 := Aside0.mk g2
          have G3 := Aside0.mk g3
          have GM := Aside0.mk hmc
          clear g0 g1 g2 g3 hmc hpre
          gi_wp2
          refine ⟨(KeepsOthers.setCell _ _ _).from _, blk_far GM.out (by show _ ≠ W.heap.size; omega) _, ?_, blk_far G1.out (by show _ ≠ W.heap.size; omega) _, below_set G2.out (by omega), fun D hD => heap_set_other (G3.out D hD) (by have := (hDlt D hD).1; omega)⟩
          rw [List.getLastD_concat]
          exact blk_put G0.out 0 _ rfl
        case done =>
          intro D W1 hD hi hK
          obtain ⟨g0, g1, g2, g3⟩ := hi
          rw [HY.out] at g0
          obtain ⟨ad, rfl, p0, p1, p2, p3, p4, p5, p6⟩ := at_T36 (Kd.C_below HR.out g2) y hyr.1 hyr.2
          have k0 : W1.cell? ⟨W.heap.size, 0, none⟩ = some (.int .i64 y) := (blk_cell g0 0).trans rfl
          have y0 := hyr.1
          have y1 := hyr.2
          have hiff : endsP l0 k ↔ (rd_T36 l0 y).f3 = -1 := by unfold endsP; rw [HY.out]
          have HL3 : Aside0 (((rd_T36 l0 y).f3 = -1 → r = looseFrom l0 (l0.length - (k + 1)) (k + 1)) ∧ ((rd_T36 l0 y).f3 ≠ -1 → r = 13)) := ⟨fun he => by have h1 := HL2.out; rwa [if_pos (hiff.2 he)] at h1, fun he => by have h1 := HL2.out; rwa [if_neg (fun hx => he (hiff.1 hx))] at h1⟩
          clear hiff
          have G2 := Aside0.mk g2
          have HDs : Aside0 ((D :: Ds).Nodup ∧ ∀ E ∈ D :: Ds, w.heap.size ≤ E ∧ W1.heap[E]? = some (.deferred (some []))) := ⟨by
            refine ⟨List.nodup_cons.2 ⟨fun hm => ?_, HD.out.1⟩, fun E hE => ?_⟩
            · have := (hDlt D hm).1; omega
            · rcases List.mem_cons.1 hE with rfl | hE
              · exact ⟨by omega, hK⟩
              · exact ⟨(HD.out.2 E hE).1, g3 E hE⟩⟩
          clear g0 g1 g2 g3 hK HL2 p0 p1 p2 p3 p4 p6 hyr
          generalize (rd_T36 l0 y).f3 = by_ at p5 HL3
          by_cases he : by_ = -1
          · have HL4 := Aside0.mk (HL3.out.1 he)
            have d1 : (by_ != -1) = false := bne_eq_false_iff_eq.2 he
            clear HL3 he
            go_wp2
            exact ⟨⟨k + 1, _, _, _, _, _, _, _, _, _, _, _, _, _, _, _, _, _, _, _, _, _, _, _, _, _, _, _, _, _, _, _, _, _, _, _, _, _, _, _, _, _, _, _, _, _, _, _, _, _, _, _, _, _, _, _, D :: Ds, by rw [show ((k + 1 : Nat) : Int) = (k : Int) + 1 by omega]; rfl, by omega, HL4, G2, HDs⟩, by simp [CheckMu, intOf]; omega⟩
          · obtain rfl : r = 13 := HL3.out.2 he
            have d1 : (by_ != -1) = true := bne_iff_ne.2 he
            clear HL3 he
            go_wp2
            exact leaves_marks (D :: Ds) _ G2.out HDs.out.1 HDs.out.2 (fun W' hB' => ⟨_, results_tmp rfl _ _ _, rfl, hB'⟩)
      · obtain rfl : k = l0.length := by omega
        obtain rfl : r = 0 := by have h1 := HL.out; rw [show l0.length - l0.length = 0 by omega] at h1; exact h1
        clear HL
        go_wp2
        exact leaves_marks Ds _ HB.out HD.out.1 HD.out.2 (fun W' hB' => ⟨_, results_tmp rfl _ _ _, rfl, hB'⟩)

/-! ### gauge_down: function 87 -/
def gauge_down.f (a0 : Int) (a1 : Int) : Option (Int) := if a1 = 0 then (none) else (if (Int.tmod a0 a1) < 0 then (some (wrap64 ((wrap64 (Int.tdiv a0 a1)) - 1))) else (some (wrap64 (Int.tdiv a0 a1))))
set_option maxHeartbeats 8000000 in
set_option maxRecDepth 100000 in
theorem gauge_down.calls (a0 : Int) (a1 : Int) (r : Int) (w : World) (h : gauge_down.f a0 a1 = some r) :
    Calls Try.prog 87 #[.int .i64 a0, .int .i64 a1] w fun e w' => e = .returned (.int .i64 r) ∧ Drawn0 w w' := by
  have H : (if a1 = 0 then (none) else (if (Int.tmod a0 a1) < 0 then (some (wrap64 ((wrap64 (Int.tdiv a0 a1)) - 1))) else (some (wrap64 (Int.tdiv a0 a1))))) = some r := h
  clear h
  by_cases c3 : a1 = 0
  · rw [if_pos c3] at H
    exact absurd H (by simp)
  · rw [if_neg c3] at H
    have c3b0 : (a1 == 0) = false := beq_eq_false_iff_ne.mpr c3
    have c3b1 : (a1 != 0) = true := bne_iff_ne.mpr c3
    by_cases c4 : (Int.tmod a0 a1) < 0
    · rw [if_pos c4] at H
      have c4b0 : decide ((Int.tmod a0 a1) < 0) = true := decide_eq_true c4
      clear c4
      obtain rfl := Option.some.inj H
      go_enter Try.func87, Try.ntmps87
      go_wp2
      go_ret
      exact ⟨by first | rfl | (simp; done) | (simp [*]; done), by repeat (first | exact Drawn0.refl _ | apply Drawn0.step)⟩
    · rw [if_neg c4] at H
      have c4b0 : decide ((Int.tmod a0 a1) < 0) = false := decide_eq_false c4
      clear c4
      obtain rfl := Option.some.inj H
      go_enter Try.func87, Try.ntmps87
      go_wp2
      go_ret
      exact ⟨by first | rfl | (simp; done) | (simp [*]; done), by repeat (first | exact Drawn0.refl _ | apply Drawn0.step)⟩

/-! ### gauge_low: function 80 -/
def gauge_low.f (a0_0 : Int) (a0_1 : Int) (a0_2 : Int) (a0_3 : Int) (a0_4 : Int) (a0_5 : Int) (a0_6 : Int) (a1 : Int) : Option (Int) := (gauge_down.f (mn (wrap64 (a1 * a0_0)) (wrap64 (a1 * a0_1))) 1000000).bind fun t108 => (some (wrap64 (t108 + a0_2)))
set_option maxHeartbeats 8000000 in
set_option maxRecDepth 100000 in
theorem gauge_low.calls (a0_0 : Int) (a0_1 : Int) (a0_2 : Int) (a0_3 : Int) (a0_4 : Int) (a0_5 : Int) (a0_6 : Int) (a1 : Int) (r : Int) (w : World) (h : gauge_low.f a0_0 a0_1 a0_2 a0_3 a0_4 a0_5 a0_6 a1 = some r) :
    Calls Try.prog 80 #[.agg #[.int .i64 a0_0, .int .i64 a0_1, .int .i64 a0_2, .int .i64 a0_3, .int .i64 a0_4, .int .i64 a0_5, .int .i64 a0_6], .int .i64 a1] w fun e w' => e = .returned (.int .i64 r) ∧ Below w.heap.size w w' := by
  have hu36 := Try.underlying36
  have HB := Aside0.mk (Below.refl w.heap.size w)
  have H : ((gauge_down.f (mn (wrap64 (a1 * a0_0)) (wrap64 (a1 * a0_1))) 1000000).bind fun t108 => (some (wrap64 (t108 + a0_2)))) = some r := h
  clear h
  obtain ⟨ji3, hji3⟩ : ∃ j_ : Int, (mn (wrap64 (a1 * a0_0)) (wrap64 (a1 * a0_1))) = j_ := ⟨_, rfl⟩
  replace H : ((gauge_down.f (ji3) 1000000).bind fun t108 => (some (wrap64 (t108 + a0_2)))) = some r := by first | (rw [hji3] at H; exact H) | (simp only [hji3] at H ⊢; exact H)
  have hji3_ : (if (wrap64 (a1 * a0_1)) < (wrap64 (a1 * a0_0)) then (wrap64 (a1 * a0_1)) else (wrap64 (a1 * a0_0))) = ji3 := hji3
  replace H := Option.bind_eq_some_iff.mp H
  obtain ⟨t108, A40, H⟩ := H
  replace H : (some (wrap64 (t108 + a0_2))) = some r := H
  have A4 := Aside0.mk A40
  clear A40
  obtain rfl := Option.some.inj H
  go_enter Try.func80, Try.ntmps80
  go_wp2_with (first | ((with_reducible refine gate_dst (N := 2) rfl ?_); refine box_event ?hg (N := 2) ?hd (cs := #[.int .i64 a0_0, .int .i64 a0_1, .int .i64 a0_2, .int .i64 a0_3, .int .i64 a0_4, .int .i64 a0_5, .int .i64 a0_6]) (t := 36) ?hr ?_; (case hd => rfl); (case hg => rfl); (case hr => first | (go_simp; done) | (go_simp; rfl)); intro gb107 hg w5 hbox hb; have n0_ := Aside0.mk (below_step (by repeat (first | (with_reducible first | exact HB.out | apply below_alloc | apply pw_below_drewN | apply below_drew1) | exact HB.out)) hb); have n1_ := Aside0.mk (hbox); have n2_ := Aside0.mk ((by rw [hg]; exact (below_size (by repeat (first | (with_reducible first | exact HB.out | apply below_alloc | apply pw_below_drewN | apply below_drew1) | exact HB.out))) : w.heap.size ≤ gb107)); have n3_ := Aside0.mk ((by rw [hg]; exact (below_size (by repeat (first | (with_reducible first | exact HB.out | apply below_alloc | apply pw_below_drewN | apply below_drew1) | exact HB.out))) : w.heap.size ≤ gb107)); clear HB; have HB := n0_; have BK107 := n1_; have GW107 := n2_; have GE107 := n3_; clear n0_ n1_ n2_ n3_; clear hb hbox hg; have hcz6_0 : w5.cell? ⟨gb107, 0, none⟩ = some (.int .i64 a0_0) := (blk_cell BK107.out 0).trans rfl; have hcz6_1 : w5.cell? ⟨gb107, 1, none⟩ = some (.int .i64 a0_1) := (blk_cell BK107.out 1).trans rfl; have hcz6_2 : w5.cell? ⟨gb107, 2, none⟩ = some (.int .i64 a0_2) := (blk_cell BK107.out 2).trans rfl; have hcz6_3 : w5.cell? ⟨gb107, 3, none⟩ = some (.int .i64 a0_3) := (blk_cell BK107.out 3).trans rfl; have hcz6_4 : w5.cell? ⟨gb107, 4, none⟩ = some (.int .i64 a0_4) := (blk_cell BK107.out 4).trans rfl; have hcz6_5 : w5.cell? ⟨gb107, 5, none⟩ = some (.int .i64 a0_5) := (blk_cell BK107.out 5).trans rfl; have hcz6_6 : w5.cell? ⟨gb107, 6, none⟩ = some (.int .i64 a0_6) := (blk_cell BK107.out 6).trans rfl; have hfz6_0 := blk_frozen BK107.out 0; have hfz6_1 := blk_frozen BK107.out 1; have hfz6_2 := blk_frozen BK107.out 2; have hfz6_3 := blk_frozen BK107.out 3; have hfz6_4 := blk_frozen BK107.out 4; have hfz6_5 := blk_frozen BK107.out 5; have hfz6_6 := blk_frozen BK107.out 6) | (go_at_call 87; (with_reducible refine (gauge_down.calls ji3 1000000 t108 _ A4.out).mono ?_); rintro e w' ⟨rfl, ⟨nd, rfl⟩⟩; (try first | exact ⟨rfl, _, World.drewN_drewN _ _ _⟩ | exact ⟨rfl, _, Eq.trans (World.drewN_drewN _ _ _) (congrArg (World.drewN _) (Nat.add_assoc _ _ _))⟩)))
  repeat (go_quiet (first | ((with_reducible refine gate_dst (N := 2) rfl ?_); refine box_event ?hg (N := 2) ?hd (cs := #[.int .i64 a0_0, .int .i64 a0_1, .int .i64 a0_2, .int .i64 a0_3, .int .i64 a0_4, .int .i64 a0_5, .int .i64 a0_6]) (t := 36) ?hr ?_; (case hd => rfl); (case hg => rfl); (case hr => first | (go_simp; done) | (go_simp; rfl)); intro gb107 hg w5 hbox hb; have n0_ := Aside0.mk (below_step (by repeat (first | (with_reducible first | exact HB.out | apply below_alloc | apply pw_below_drewN | apply below_drew1) | exact HB.out)) hb); have n1_ := Aside0.mk (hbox); have n2_ := Aside0.mk ((by rw [hg]; exact (below_size (by repeat (first | (with_reducible first | exact HB.out | apply below_alloc | apply pw_below_drewN | apply below_drew1) | exact HB.out))) : w.heap.size ≤ gb107)); have n3_ := Aside0.mk ((by rw [hg]; exact (below_size (by repeat (first | (with_reducible first | exact HB.out | apply below_alloc | apply pw_below_drewN | apply below_drew1) | exact HB.out))) : w.heap.size ≤ gb107)); clear HB; have HB := n0_; have BK107 := n1_; have GW107 := n2_; have GE107 := n3_; clear n0_ n1_ n2_ n3_; clear hb hbox hg; have hcz6_0 : w5.cell? ⟨gb107, 0, none⟩ = some (.int .i64 a0_0) := (blk_cell BK107.out 0).trans rfl; have hcz6_1 : w5.cell? ⟨gb107, 1, none⟩ = some (.int .i64 a0_1) := (blk_cell BK107.out 1).trans rfl; have hcz6_2 : w5.cell? ⟨gb107, 2, none⟩ = some (.int .i64 a0_2) := (blk_cell BK107.out 2).trans rfl; have hcz6_3 : w5.cell? ⟨gb107, 3, none⟩ = some (.int .i64 a0_3) := (blk_cell BK107.out 3).trans rfl; have hcz6_4 : w5.cell? ⟨gb107, 4, none⟩ = some (.int .i64 a0_4) := (blk_cell BK107.out 4).trans rfl; have hcz6_5 : w5.cell? ⟨gb107, 5, none⟩ = some (.int .i64 a0_5) := (blk_cell BK107.out 5).trans rfl; have hcz6_6 : w5.cell? ⟨gb107, 6, none⟩ = some (.int .i64 a0_6) := (blk_cell BK107.out 6).trans rfl; have hfz6_0 := blk_frozen BK107.out 0; have hfz6_1 := blk_frozen BK107.out 1; have hfz6_2 := blk_frozen BK107.out 2; have hfz6_3 := blk_frozen BK107.out 3; have hfz6_4 := blk_frozen BK107.out 4; have hfz6_5 := blk_frozen BK107.out 5; have hfz6_6 := blk_frozen BK107.out 6) | (go_at_call 87; (with_reducible refine (gauge_down.calls ji3 1000000 t108 _ A4.out).mono ?_); rintro e w' ⟨rfl, ⟨nd, rfl⟩⟩; (try first | exact ⟨rfl, _, World.drewN_drewN _ _ _⟩ | exact ⟨rfl, _, Eq.trans (World.drewN_drewN _ _ _) (congrArg (World.drewN _) (Nat.add_assoc _ _ _))⟩))); try go_wp2_with (first | ((with_reducible refine gate_dst (N := 2) rfl ?_); refine box_event ?hg (N := 2) ?hd (cs := #[.int .i64 a0_0, .int .i64 a0_1, .int .i64 a0_2, .int .i64 a0_3, .int .i64 a0_4, .int .i64 a0_5, .int .i64 a0_6]) (t := 36) ?hr ?_; (case hd => rfl); (case hg => rfl); (case hr => first | (go_simp; done) | (go_simp; rfl)); intro gb107 hg w5 hbox hb; have n0_ := Aside0.mk (below_step (by repeat (first | (with_reducible first | exact HB.out | apply below_alloc | apply pw_below_drewN | apply below_drew1) | exact HB.out)) hb); have n1_ := Aside0.mk (hbox); have n2_ := Aside0.mk ((by rw [hg]; exact (below_size (by repeat (first | (with_reducible first | exact HB.out | apply below_alloc | apply pw_below_drewN | apply below_drew1) | exact HB.out))) : w.heap.size ≤ gb107)); have n3_ := Aside0.mk ((by rw [hg]; exact (below_size (by repeat (first | (with_reducible first | exact HB.out | apply below_alloc | apply pw_below_drewN | apply below_drew1) | exact HB.out))) : w.heap.size ≤ gb107)); clear HB; have HB := n0_; have BK107 := n1_; have GW107 := n2_; have GE107 := n3_; clear n0_ n1_ n2_ n3_; clear hb hbox hg; have hcz6_0 : w5.cell? ⟨gb107, 0, none⟩ = some (.int .i64 a0_0) := (blk_cell BK107.out 0).trans rfl; have hcz6_1 : w5.cell? ⟨gb107, 1, none⟩ = some (.int .i64 a0_1) := (blk_cell BK107.out 1).trans rfl; have hcz6_2 : w5.cell? ⟨gb107, 2, none⟩ = some (.int .i64 a0_2) := (blk_cell BK107.out 2).trans rfl; have hcz6_3 : w5.cell? ⟨gb107, 3, none⟩ = some (.int .i64 a0_3) := (blk_cell BK107.out 3).trans rfl; have hcz6_4 : w5.cell? ⟨gb107, 4, none⟩ = some (.int .i64 a0_4) := (blk_cell BK107.out 4).trans rfl; have hcz6_5 : w5.cell? ⟨gb107, 5, none⟩ = some (.int .i64 a0_5) := (blk_cell BK107.out 5).trans rfl; have hcz6_6 : w5.cell? ⟨gb107, 6, none⟩ = some (.int .i64 a0_6) := (blk_cell BK107.out 6).trans rfl; have hfz6_0 := blk_frozen BK107.out 0; have hfz6_1 := blk_frozen BK107.out 1; have hfz6_2 := blk_frozen BK107.out 2; have hfz6_3 := blk_frozen BK107.out 3; have hfz6_4 := blk_frozen BK107.out 4; have hfz6_5 := blk_frozen BK107.out 5; have hfz6_6 := blk_frozen BK107.out 6) | (go_at_call 87; (with_reducible refine (gauge_down.calls ji3 1000000 t108 _ A4.out).mono ?_); rintro e w' ⟨rfl, ⟨nd, rfl⟩⟩; (try first | exact ⟨rfl, _, World.drewN_drewN _ _ _⟩ | exact ⟨rfl, _, Eq.trans (World.drewN_drewN _ _ _) (congrArg (World.drewN _) (Nat.add_assoc _ _ _))⟩))))
  go_ret
  exact ⟨by first | rfl | (simp [errW_none, errW_some] <;> rfl) | (simp only [← hji3]; first | rfl | (simp [errW_none, errW_some] <;> rfl)) | (simp [*, errW_none, errW_some] <;> rfl), by repeat (first | (with_reducible first | exact HB.out | apply below_alloc | apply pw_below_drewN | apply below_drew1 | refine below_set ?_ GE107.out) | exact HB.out)⟩

/-! ### gauge_up: function 88 -/
def gauge_up.f (a0 : Int) (a1 : Int) : Option (Int) := (gauge_down.f (wrap64 (-a0)) a1).bind fun t109 => (some (wrap64 (-t109)))
set_option maxHeartbeats 8000000 in
set_option maxRecDepth 100000 in
theorem gauge_up.calls (a0 : Int) (a1 : Int) (r : Int) (w : World) (h : gauge_up.f a0 a1 = some r) :
    Calls Try.prog 88 #[.int .i64 a0, .int .i64 a1] w fun e w' => e = .returned (.int .i64 r) ∧ Drawn0 w w' := by
  have H : ((gauge_down.f (wrap64 (-a0)) a1).bind fun t109 => (some (wrap64 (-t109)))) = some r := h
  clear h
  replace H := Option.bind_eq_some_iff.mp H
  obtain ⟨t109, A30, H⟩ := H
  replace H : (some (wrap64 (-t109))) = some r := H
  have A3 := Aside0.mk A30
  clear A30
  obtain rfl := Option.some.inj H
  go_enter Try.func88, Try.ntmps88
  go_wp2_with (first | ((with_reducible refine gate_callee (f := 87) rfl ?_); refine goesL_ (some 8) rfl rfl Try.func87 (by kernel_rfl) rfl #[.int .i64 (wrap64 (-a0)), .int .i64 a1] rfl (by (try simp only [List.map_toArray, List.map_cons, List.map_nil]); first | done | rfl | (simp only [List.length_drop, List.length_take]; rfl)) ?_; (with_reducible refine (gauge_down.calls (wrap64 (-a0)) a1 t109 _ A3.out).mono ?_); rintro e w' ⟨rfl, ⟨nd, rfl⟩⟩; refine ⟨_, rfl, ?_⟩))
  go_ret
  exact ⟨by first | rfl | (simp; done) | (simp [*]; done), by repeat (first | exact Drawn0.refl _ | apply Drawn0.step)⟩

/-! ### gauge_high: function 81 -/
def gauge_high.f (a0_0 : Int) (a0_1 : Int) (a0_2 : Int) (a0_3 : Int) (a0_4 : Int) (a0_5 : Int) (a0_6 : Int) (a1 : Int) : Option (Int) := (gauge_up.f (mx (wrap64 (a1 * a0_0)) (wrap64 (a1 * a0_1))) 1000000).bind fun t111 => (some (wrap64 (t111 + a0_3)))
set_option maxHeartbeats 8000000 in
set_option maxRecDepth 100000 in
theorem gauge_high.calls (a0_0 : Int) (a0_1 : Int) (a0_2 : Int) (a0_3 : Int) (a0_4 : Int) (a0_5 : Int) (a0_6 : Int) (a1 : Int) (r : Int) (w : World) (h : gauge_high.f a0_0 a0_1 a0_2 a0_3 a0_4 a0_5 a0_6 a1 = some r) :
    Calls Try.prog 81 #[.agg #[.int .i64 a0_0, .int .i64 a0_1, .int .i64 a0_2, .int .i64 a0_3, .int .i64 a0_4, .int .i64 a0_5, .int .i64 a0_6], .int .i64 a1] w fun e w' => e = .returned (.int .i64 r) ∧ Below w.heap.size w w' := by
  have hu36 := Try.underlying36
  have HB := Aside0.mk (Below.refl w.heap.size w)
  have H : ((gauge_up.f (mx (wrap64 (a1 * a0_0)) (wrap64 (a1 * a0_1))) 1000000).bind fun t111 => (some (wrap64 (t111 + a0_3)))) = some r := h
  clear h
  obtain ⟨ji3, hji3⟩ : ∃ j_ : Int, (mx (wrap64 (a1 * a0_0)) (wrap64 (a1 * a0_1))) = j_ := ⟨_, rfl⟩
  replace H : ((gauge_up.f (ji3) 1000000).bind fun t111 => (some (wrap64 (t111 + a0_3)))) = some r := by first | (rw [hji3] at H; exact H) | (simp only [hji3] at H ⊢; exact H)
  have hji3_ : (if (wrap64 (a1 * a0_0)) < (wrap64 (a1 * a0_1)) then (wrap64 (a1 * a0_1)) else (wrap64 (a1 * a0_0))) = ji3 := hji3
  replace H := Option.bind_eq_some_iff.mp H
  obtain ⟨t111, A40, H⟩ := H
  replace H : (some (wrap64 (t111 + a0_3))) = some r := H
  have A4 := Aside0.mk A40
  clear A40
  obtain rfl := Option.some.inj H
  go_enter Try.func81, Try.ntmps81
  go_wp2_with (first | ((with_reducible refine gate_dst (N := 2) rfl ?_); refine box_event ?hg (N := 2) ?hd (cs := #[.int .i64 a0_0, .int .i64 a0_1, .int .i64 a0_2, .int .i64 a0_3, .int .i64 a0_4, .int .i64 a0_5, .int .i64 a0_6]) (t := 36) ?hr ?_; (case hd => rfl); (case hg => rfl); (case hr => first | (go_simp; done) | (go_simp; rfl)); intro gb110 hg w5 hbox hb; have n0_ := Aside0.mk (below_step (by repeat (first | (with_reducible first | exact HB.out | apply below_alloc | apply pw_below_drewN | apply below_drew1) | exact HB.out)) hb); have n1_ := Aside0.mk (hbox); have n2_ := Aside0.mk ((by rw [hg]; exact (below_size (by repeat (first | (with_reducible first | exact HB.out | apply below_alloc | apply pw_below_drewN | apply below_drew1) | exact HB.out))) : w.heap.size ≤ gb110)); have n3_ := Aside0.mk ((by rw [hg]; exact (below_size (by repeat (first | (with_reducible first | exact HB.out | apply below_alloc | apply pw_below_drewN | apply below_drew1) | exact HB.out))) : w.heap.size ≤ gb110)); clear HB; have HB := n0_; have BK110 := n1_; have GW110 := n2_; have GE110 := n3_; clear n0_ n1_ n2_ n3_; clear hb hbox hg; have hcz6_0 : w5.cell? ⟨gb110, 0, none⟩ = some (.int .i64 a0_0) := (blk_cell BK110.out 0).trans rfl; have hcz6_1 : w5.cell? ⟨gb110, 1, none⟩ = some (.int .i64 a0_1) := (blk_cell BK110.out 1).trans rfl; have hcz6_2 : w5.cell? ⟨gb110, 2, none⟩ = some (.int .i64 a0_2) := (blk_cell BK110.out 2).trans rfl; have hcz6_3 : w5.cell? ⟨gb110, 3, none⟩ = some (.int .i64 a0_3) := (blk_cell BK110.out 3).trans rfl; have hcz6_4 : w5.cell? ⟨gb110, 4, none⟩ = some (.int .i64 a0_4) := (blk_cell BK110.out 4).trans rfl; have hcz6_5 : w5.cell? ⟨gb110, 5, none⟩ = some (.int .i64 a0_5) := (blk_cell BK110.out 5).trans rfl; have hcz6_6 : w5.cell? ⟨gb110, 6, none⟩ = some (.int .i64 a0_6) := (blk_cell BK110.out 6).trans rfl; have hfz6_0 := blk_frozen BK110.out 0; have hfz6_1 := blk_frozen BK110.out 1; have hfz6_2 := blk_frozen BK110.out 2; have hfz6_3 := blk_frozen BK110.out 3; have hfz6_4 := blk_frozen BK110.out 4; have hfz6_5 := blk_frozen BK110.out 5; have hfz6_6 := blk_frozen BK110.out 6) | (go_at_call 88; (with_reducible refine (gauge_up.calls ji3 1000000 t111 _ A4.out).mono ?_); rintro e w' ⟨rfl, ⟨nd, rfl⟩⟩; (try first | exact ⟨rfl, _, World.drewN_drewN _ _ _⟩ | exact ⟨rfl, _, Eq.trans (World.drewN_drewN _ _ _) (congrArg (World.drewN _) (Nat.add_assoc _ _ _))⟩)))
  repeat (go_quiet (first | ((with_reducible refine gate_dst (N := 2) rfl ?_); refine box_event ?hg (N := 2) ?hd (cs := #[.int .i64 a0_0, .int .i64 a0_1, .int .i64 a0_2, .int .i64 a0_3, .int .i64 a0_4, .int .i64 a0_5, .int .i64 a0_6]) (t := 36) ?hr ?_; (case hd => rfl); (case hg => rfl); (case hr => first | (go_simp; done) | (go_simp; rfl)); intro gb110 hg w5 hbox hb; have n0_ := Aside0.mk (below_step (by repeat (first | (with_reducible first | exact HB.out | apply below_alloc | apply pw_below_drewN | apply below_drew1) | exact HB.out)) hb); have n1_ := Aside0.mk (hbox); have n2_ := Aside0.mk ((by rw [hg]; exact (below_size (by repeat (first | (with_reducible first | exact HB.out | apply below_alloc | apply pw_below_drewN | apply below_drew1) | exact HB.out))) : w.heap.size ≤ gb110)); have n3_ := Aside0.mk ((by rw [hg]; exact (below_size (by repeat (first | (with_reducible first | exact HB.out | apply below_alloc | apply pw_below_drewN | apply below_drew1) | exact HB.out))) : w.heap.size ≤ gb110)); clear HB; have HB := n0_; have BK110 := n1_; have GW110 := n2_; have GE110 := n3_; clear n0_ n1_ n2_ n3_; clear hb hbox hg; have hcz6_0 : w5.cell? ⟨gb110, 0, none⟩ = some (.int .i64 a0_0) := (blk_cell BK110.out 0).trans rfl; have hcz6_1 : w5.cell? ⟨gb110, 1, none⟩ = some (.int .i64 a0_1) := (blk_cell BK110.out 1).trans rfl; have hcz6_2 : w5.cell? ⟨gb110, 2, none⟩ = some (.int .i64 a0_2) := (blk_cell BK110.out 2).trans rfl; have hcz6_3 : w5.cell? ⟨gb110, 3, none⟩ = some (.int .i64 a0_3) := (blk_cell BK110.out 3).trans rfl; have hcz6_4 : w5.cell? ⟨gb110, 4, none⟩ = some (.int .i64 a0_4) := (blk_cell BK110.out 4).trans rfl; have hcz6_5 : w5.cell? ⟨gb110, 5, none⟩ = some (.int .i64 a0_5) := (blk_cell BK110.out 5).trans rfl; have hcz6_6 : w5.cell? ⟨gb110, 6, none⟩ = some (.int .i64 a0_6) := (blk_cell BK110.out 6).trans rfl; have hfz6_0 := blk_frozen BK110.out 0; have hfz6_1 := blk_frozen BK110.out 1; have hfz6_2 := blk_frozen BK110.out 2; have hfz6_3 := blk_frozen BK110.out 3; have hfz6_4 := blk_frozen BK110.out 4; have hfz6_5 := blk_frozen BK110.out 5; have hfz6_6 := blk_frozen BK110.out 6) | (go_at_call 88; (with_reducible refine (gauge_up.calls ji3 1000000 t111 _ A4.out).mono ?_); rintro e w' ⟨rfl, ⟨nd, rfl⟩⟩; (try first | exact ⟨rfl, _, World.drewN_drewN _ _ _⟩ | exact ⟨rfl, _, Eq.trans (World.drewN_drewN _ _ _) (congrArg (World.drewN _) (Nat.add_assoc _ _ _))⟩))); try go_wp2_with (first | ((with_reducible refine gate_dst (N := 2) rfl ?_); refine box_event ?hg (N := 2) ?hd (cs := #[.int .i64 a0_0, .int .i64 a0_1, .int .i64 a0_2, .int .i64 a0_3, .int .i64 a0_4, .int .i64 a0_5, .int .i64 a0_6]) (t := 36) ?hr ?_; (case hd => rfl); (case hg => rfl); (case hr => first | (go_simp; done) | (go_simp; rfl)); intro gb110 hg w5 hbox hb; have n0_ := Aside0.mk (below_step (by repeat (first | (with_reducible first | exact HB.out | apply below_alloc | apply pw_below_drewN | apply below_drew1) | exact HB.out)) hb); have n1_ := Aside0.mk (hbox); have n2_ := Aside0.mk ((by rw [hg]; exact (below_size (by repeat (first | (with_reducible first | exact HB.out | apply below_alloc | apply pw_below_drewN | apply below_drew1) | exact HB.out))) : w.heap.size ≤ gb110)); have n3_ := Aside0.mk ((by rw [hg]; exact (below_size (by repeat (first | (with_reducible first | exact HB.out | apply below_alloc | apply pw_below_drewN | apply below_drew1) | exact HB.out))) : w.heap.size ≤ gb110)); clear HB; have HB := n0_; have BK110 := n1_; have GW110 := n2_; have GE110 := n3_; clear n0_ n1_ n2_ n3_; clear hb hbox hg; have hcz6_0 : w5.cell? ⟨gb110, 0, none⟩ = some (.int .i64 a0_0) := (blk_cell BK110.out 0).trans rfl; have hcz6_1 : w5.cell? ⟨gb110, 1, none⟩ = some (.int .i64 a0_1) := (blk_cell BK110.out 1).trans rfl; have hcz6_2 : w5.cell? ⟨gb110, 2, none⟩ = some (.int .i64 a0_2) := (blk_cell BK110.out 2).trans rfl; have hcz6_3 : w5.cell? ⟨gb110, 3, none⟩ = some (.int .i64 a0_3) := (blk_cell BK110.out 3).trans rfl; have hcz6_4 : w5.cell? ⟨gb110, 4, none⟩ = some (.int .i64 a0_4) := (blk_cell BK110.out 4).trans rfl; have hcz6_5 : w5.cell? ⟨gb110, 5, none⟩ = some (.int .i64 a0_5) := (blk_cell BK110.out 5).trans rfl; have hcz6_6 : w5.cell? ⟨gb110, 6, none⟩ = some (.int .i64 a0_6) := (blk_cell BK110.out 6).trans rfl; have hfz6_0 := blk_frozen BK110.out 0; have hfz6_1 := blk_frozen BK110.out 1; have hfz6_2 := blk_frozen BK110.out 2; have hfz6_3 := blk_frozen BK110.out 3; have hfz6_4 := blk_frozen BK110.out 4; have hfz6_5 := blk_frozen BK110.out 5; have hfz6_6 := blk_frozen BK110.out 6) | (go_at_call 88; (with_reducible refine (gauge_up.calls ji3 1000000 t111 _ A4.out).mono ?_); rintro e w' ⟨rfl, ⟨nd, rfl⟩⟩; (try first | exact ⟨rfl, _, World.drewN_drewN _ _ _⟩ | exact ⟨rfl, _, Eq.trans (World.drewN_drewN _ _ _) (congrArg (World.drewN _) (Nat.add_assoc _ _ _))⟩))))
  go_ret
  exact ⟨by first | rfl | (simp [errW_none, errW_some] <;> rfl) | (simp only [← hji3]; first | rfl | (simp [errW_none, errW_some] <;> rfl)) | (simp [*, errW_none, errW_some] <;> rfl), by repeat (first | (with_reducible first | exact HB.out | apply below_alloc | apply pw_below_drewN | apply below_drew1 | refine below_set ?_ GE110.out) | exact HB.out)⟩

--HAND
/-! ### sort.Search, by hand: function 69 -/
set_option maxHeartbeats 4000000 in
set_option maxRecDepth 1000000 in
/-- sort.Search over a function value whose answer at i is 'r ≤ i': it returns r. -/
theorem sort_Search.calls (g : Nat) (cb : Array Value) (n r : Int) (w : World) (eg : ∀ args w, (callFunc g args).run Try.prog w = .ok (.enter g args) w)
    (hsz : n < 4611686018427387904) (h0 : 0 ≤ r) (h1 : r ≤ n)
    (hf : ∀ (W : World) (i : Int), Below w.heap.size w W → 0 ≤ i → i < n → Calls Try.prog g (#[.int .i64 i] ++ cb) W fun e W' => e = .returned (.bool (decide (r ≤ i))) ∧ Below W.heap.size W W') :
    Calls Try.prog 69 #[.int .i64 n, .func (.func g) #[] cb] w fun e w' => e = .returned (.int .i64 r) ∧ Below w.heap.size w w' := by
  have HF : Aside0 _ := ⟨hf⟩
  clear hf
  have HB0 := Aside0.mk (Below.refl w.heap.size w)
  go_enter Try.func69, Try.ntmps69
  go_wp2
  go_loopg [5, 6] n.toNat (fun kx s5 s6 wr => ∃ (lo hi : Int), s5 = .int .i64 lo ∧ s6 = .int .i64 hi ∧ 0 ≤ lo ∧ lo ≤ r ∧ r ≤ hi ∧ hi ≤ n ∧ (hi - lo).toNat ≤ kx ∧ Aside0 (Below w.heap.size w wr))
  case atStart => exact ⟨0, n, rfl, rfl, by omega, h0, h1, by omega, by omega, HB0⟩
  case round =>
    obtain ⟨lo, hi, rfl, rfl, hl0, hlr, hrh, hhn, hg, HB⟩ := hrel
    by_cases hlt : lo < hi
    · have hc := HF.out wr ((lo + hi) / 2) HB.out (by omega) (by omega)
      by_cases hp : r ≤ (lo + hi) / 2
      · rw [decide_eq_true hp] at hc
        go_wp2_with (fail)
        refine hc.mono ?_
        clear hc
        rintro e w' ⟨rfl, hb⟩
        go_wp2
        go_roundg ((lo + hi) / 2 - lo).toNat
        case measure => omega
        case rel => exact ⟨lo, (lo + hi) / 2, rfl, rfl, hl0, hlr, hp, by omega, by omega, ⟨below_step HB.out hb⟩⟩
      · rw [decide_eq_false hp] at hc
        go_wp2_with (fail)
        refine hc.mono ?_
        clear hc
        rintro e w' ⟨rfl, hb⟩
        go_wp2
        go_roundg (hi - ((lo + hi) / 2 + 1)).toNat
        case measure => omega
        case rel => exact ⟨(lo + hi) / 2 + 1, hi, rfl, rfl, by omega, by omega, hrh, hhn, by omega, ⟨below_step HB.out hb⟩⟩
    · obtain rfl : lo = r := by omega
      go_wp2
      go_ret
      exact ⟨rfl, HB.out⟩

--HAND
/-! ### gauge.first, by hand: function 91 -/
set_option maxHeartbeats 4000000 in
set_option maxRecDepth 1000000 in
theorem gauge_first_1.calls (g : Nat) (cb : Array Value) (most r i : Int) (bh bm : Nat) (w : World)
    (hh : w.cell? ⟨bh, 0, none⟩ = some (.func (.func g) #[] cb)) (hm : w.cell? ⟨bm, 0, none⟩ = some (.int .i64 most))
    (b0 : 0 ≤ most) (b1 : most < 2305843009213693952) (i0 : 0 ≤ i) (i1 : i ≤ 2 * most)
    (eg : ∀ args w, (callFunc g args).run Try.prog w = .ok (.enter g args) w)
    (hf : Calls Try.prog g (#[.int .i64 (i - most)] ++ cb) w fun e W' => e = .returned (.bool (decide (r ≤ i - most))) ∧ Below w.heap.size w W') :
    Calls Try.prog 94 (#[.int .i64 i] ++ #[.pointer (some ⟨bh, 0, none⟩), .pointer (some ⟨bm, 0, none⟩)]) w fun e W' => e = .returned (.bool (decide (r + most ≤ i))) ∧ Below w.heap.size w W' := by
  have e1 : decide (r + most ≤ i) = decide (r ≤ i - most) := by rw [decide_eq_decide]; omega
  rw [e1]
  clear e1
  go_enter Try.func94, Try.ntmps94
  go_wp2_with (fail)
  refine hf.mono ?_
  clear hf
  rintro e w' ⟨rfl, hb⟩
  go_wp2
  go_ret
  exact ⟨rfl, hb⟩

set_option maxHeartbeats 4000000 in
theorem gauge_first.inner (g : Nat) (cb : Array Value) (most r : Int) (w : World) (bm bh : Nat) (eg : ∀ args w, (callFunc g args).run Try.prog w = .ok (.enter g args) w)
    (b0 : 0 ≤ most) (b1 : most < 1152921504606846976) (h0 : -most ≤ r) (h1 : r ≤ most + 1)
    (hf : ∀ (W : World) (x : Int), Below w.heap.size w W → -most ≤ x → x ≤ most → Calls Try.prog g (#[.int .i64 x] ++ cb) W fun e W' => e = .returned (.bool (decide (r ≤ x))) ∧ Below W.heap.size W W')
    (W0 : World) (B0 : Below w.heap.size w W0) (cm : W0.heap[bm]? = some (.cells #[.int .i64 most] 3 (0, 0))) (ch : W0.heap[bh]? = some (.cells #[.func (.func g) #[] cb] 30 (0, 0))) :
    Calls Try.prog 69 #[.int .i64 (2 * most + 1), .func (.func 94) #[] #[.pointer (some ⟨bh, 0, none⟩), .pointer (some ⟨bm, 0, none⟩)]] W0 fun e w' => e = .returned (.int .i64 (r + most)) ∧ Below W0.heap.size W0 w' :=
  sort_Search.calls 94 #[.pointer (some ⟨bh, 0, none⟩), .pointer (some ⟨bm, 0, none⟩)] (2 * most + 1) (r + most) W0 (enters_of Try.func94 (by kernel_rfl) rfl) (by omega) (by omega) (by omega)
    (fun W i hB hi0 hi1 => gauge_first_1.calls g cb most r i bh bm W ((blk_cell (blk_below ch hB) 0).trans rfl) ((blk_cell (blk_below cm hB) 0).trans rfl) b0 (by omega) hi0 (by omega) eg
      (hf W (i - most) (below_step B0 hB) (by omega) (by omega)))

set_option maxHeartbeats 4000000 in
set_option maxRecDepth 1000000 in
/-- gauge.first over a function value whose answer at x is 'r ≤ x': it returns r. -/
theorem gauge_first.calls (g : Nat) (cb : Array Value) (most r : Int) (w : World) (eg : ∀ args w, (callFunc g args).run Try.prog w = .ok (.enter g args) w)
    (b0 : 0 ≤ most) (b1 : most < 1152921504606846976) (h0 : -most ≤ r) (h1 : r ≤ most + 1)
    (hf : ∀ (W : World) (x : Int), Below w.heap.size w W → -most ≤ x → x ≤ most → Calls Try.prog g (#[.int .i64 x] ++ cb) W fun e W' => e = .returned (.bool (decide (r ≤ x))) ∧ Below W.heap.size W W') :
    Calls Try.prog 91 #[.int .i64 most, .func (.func g) #[] cb] w fun e w' => e = .returned (.int .i64 r) ∧ Below w.heap.size w w' := by
  have HS := Aside0.mk (gauge_first.inner g cb most r w w.heap.size (w.heap.size + 1) eg b0 b1 h0 h1 hf ((w.alloc (.cells #[.int .i64 most] 3)).alloc (.cells #[.func (.func g) #[] cb] 30)).drew
    (below_drew1 (below_alloc (below_alloc (Below.refl _ _) _) _)) (blk_drew (blk_alloc (blk_new w _) _)) (blk_drew (by have := blk_new (w.alloc (.cells #[.int .i64 most] 3)) (.cells #[.func (.func g) #[] cb] 30); rwa [World.size_alloc] at this)))
  clear hf
  go_enter Try.func91, Try.ntmps91
  have e1 : IntKind.i64.wrap (2 * most) = 2 * most := IntWalk.i64_in _ (by omega)
  have e2 : IntKind.i64.wrap (2 * most + 1) = 2 * most + 1 := IntWalk.i64_in _ (by omega)
  have e3 : IntKind.i64.wrap r = r := IntWalk.i64_in _ (by omega)
  go_wp2
  go_region_with (go_at_call 69; (with_reducible refine HS.out.mono ?_); rintro e w' ⟨rfl, hb⟩; have hc : w'.cell? ⟨w.heap.size, 0, none⟩ = some (.int .i64 most) := (blk_cell (blk_below (blk_drew (blk_alloc (blk_new w _) _)) hb) 0).trans rfl)
  all_goals (go_wp2; go_ret)
  all_goals refine ⟨by simp [Act.put, e3], ?_⟩
  all_goals exact below_step (below_drew1 (below_alloc (below_alloc (Below.refl _ _) _) _)) (by assumption)

end Go.Proofs.Ytdbpobadeibjaaa.GD
