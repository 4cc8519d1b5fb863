-- written for this claim by a program of this session (wip/gp), over the kit's own printer; Lean checks it
import Derived.Test.YtdbpobadeibjaaaGAllx0
import Derived.Test.YtdbpobadeibjaaaGAllx6
import Derived.Test.YtdbpobadeibjaaaGAllx8
namespace Go.Proofs.Ytdbpobadeibjaaa.GAll
open Go.RowKit Go.Proofs.YtdbpobadeibjaaaW.PrintWords Go.Proofs.YtdbpobadeibjaaaW.PrintLast Go.Proofs.YtdbpobadeibjaaaW.PrintMore
attribute [local go_sem] max2_int min2_int max_two min_two max_three min_three max_four min_four   -- for this text's walks alone
set_option linter.unusedVariables false
set_option linter.unusedSimpArgs false

--HAND
/-! ### gauge.back, by hand: function 83 -/
/-- The least number whose high end is at least n (half of it, for the sign of what is left). -/
def backLo (glo ghi ohi n : Int) : Int := if 0 ≤ n - ohi - 1 then (n - ohi - 1) * 1000000 / ghi + 1 else (n - ohi - 1) * 1000000 / glo + 1
/-- The greatest number whose low end is at most n. -/
def backHi (glo ghi olo n : Int) : Int := if 0 < n - olo + 1 then ((n - olo + 1) * 1000000 - 1) / glo else ((n - olo + 1) * 1000000 - 1) / ghi
/-- A meter's numbers as a valid bench needs them. -/
def meterOk (glo ghi olo ohi : Int) : Prop := 500000 ≤ glo ∧ glo ≤ ghi ∧ ghi ≤ 2000000 ∧ -1000000 ≤ olo ∧ olo ≤ ohi ∧ ohi ≤ 1000000
/-- The high end of what a meter makes of x, and its low end, plainly. -/
def hiEnd (glo ghi ohi x : Int) : Int := -(-(max (x * glo) (x * ghi)) / 1000000) + ohi
def loEnd (glo ghi olo x : Int) : Int := min (x * glo) (x * ghi) / 1000000 + olo

theorem backLo_iff {glo ghi olo ohi : Int} (h : meterOk glo ghi olo ohi) (n x : Int) : n ≤ hiEnd glo ghi ohi x ↔ backLo glo ghi ohi n ≤ x := by
  obtain ⟨g0, g1, _, _⟩ := h
  unfold hiEnd backLo
  have key : n ≤ -(-(max (x * glo) (x * ghi)) / 1000000) + ohi ↔ (n - ohi - 1) * 1000000 < max (x * glo) (x * ghi) := by omega
  rw [key]
  clear key
  generalize ht : (n - ohi - 1) * 1000000 = t
  by_cases h0 : 0 ≤ n - ohi - 1
  · rw [if_pos h0]
    have e : t / ghi + 1 ≤ x ↔ t < x * ghi := by rw [Int.add_one_le_iff, Int.ediv_lt_iff_lt_mul (by omega)]
    rw [e]
    constructor
    · intro hm
      rcases Int.le_total 0 x with hx | hx
      · have := Int.mul_le_mul_of_nonneg_left g1 hx; omega
      · have a1 := Int.mul_nonneg_of_nonpos_of_nonpos hx (show -glo ≤ 0 by omega)
        have a2 := Int.mul_nonneg_of_nonpos_of_nonpos hx (show -ghi ≤ 0 by omega)
        rw [Int.mul_neg] at a1 a2
        omega
    · intro hm; omega
  · rw [if_neg h0]
    have e : t / glo + 1 ≤ x ↔ t < x * glo := by rw [Int.add_one_le_iff, Int.ediv_lt_iff_lt_mul (by omega)]
    rw [e]
    constructor
    · intro hm
      rcases Int.le_total 0 x with hx | hx
      · have := Int.mul_nonneg hx (show 0 ≤ glo by omega); omega
      · have := Int.mul_le_mul_of_nonpos_left hx g1; omega
    · intro hm; omega

theorem backHi_iff {glo ghi olo ohi : Int} (h : meterOk glo ghi olo ohi) (n x : Int) : n < loEnd glo ghi olo x ↔ backHi glo ghi olo n + 1 ≤ x := by
  obtain ⟨g0, g1, _, _⟩ := h
  unfold loEnd backHi
  have key : n < min (x * glo) (x * ghi) / 1000000 + olo ↔ (n - olo + 1) * 1000000 - 1 < min (x * glo) (x * ghi) := by omega
  rw [key]
  clear key
  generalize ht : (n - olo + 1) * 1000000 - 1 = t
  by_cases h0 : 0 < n - olo + 1
  · rw [if_pos h0]
    have e : t / glo + 1 ≤ x ↔ t < x * glo := by rw [Int.add_one_le_iff, Int.ediv_lt_iff_lt_mul (by omega)]
    rw [e]
    constructor
    · intro hm; omega
    · intro hm
      rcases Int.le_total 0 x with hx | hx
      · have := Int.mul_le_mul_of_nonneg_left g1 hx; omega
      · have a1 := Int.mul_nonneg_of_nonpos_of_nonpos hx (show -glo ≤ 0 by omega)
        rw [Int.mul_neg] at a1
        omega
  · rw [if_neg h0]
    have e : t / ghi + 1 ≤ x ↔ t < x * ghi := by rw [Int.add_one_le_iff, Int.ediv_lt_iff_lt_mul (by omega)]
    rw [e]
    constructor
    · intro hm; omega
    · intro hm
      rcases Int.le_total 0 x with hx | hx
      · have := Int.mul_nonneg hx (show 0 ≤ glo by omega); omega
      · have := Int.mul_le_mul_of_nonpos_left hx g1; omega

theorem tdown {n d : Int} (hd : 0 < d) : (if Int.tmod n d < 0 then Int.tdiv n d - 1 else Int.tdiv n d) = n / d := by
  rcases Int.le_total 0 n with h | h
  · rw [Int.tmod_eq_emod_of_nonneg h, Int.tdiv_eq_ediv_of_nonneg h, if_neg (by have := Int.emod_nonneg n (show d ≠ 0 by omega); omega)]
  · obtain ⟨m, rfl⟩ : ∃ m, n = -m := ⟨-n, by omega⟩
    have hm : 0 ≤ m := by omega
    rw [Int.neg_tmod, Int.neg_tdiv, Int.tmod_eq_emod_of_nonneg hm, Int.tdiv_eq_ediv_of_nonneg hm]
    have e0 := Int.mul_ediv_add_emod m d
    have e1 := Int.emod_nonneg m (show d ≠ 0 by omega)
    have e2 := Int.emod_lt_of_pos m hd
    split
    · apply Int.le_antisymm
      · rw [Int.le_ediv_iff_mul_le hd, Int.sub_mul, Int.neg_mul, Int.mul_comm (m / d) d]; omega
      · have : -m / d < -(m / d) := by rw [Int.ediv_lt_iff_lt_mul hd, Int.neg_mul, Int.mul_comm (m / d) d]; omega
        omega
    · apply Int.le_antisymm
      · rw [Int.le_ediv_iff_mul_le hd, Int.neg_mul, Int.mul_comm (m / d) d]; omega
      · have : -m / d < -(m / d) + 1 := by rw [Int.ediv_lt_iff_lt_mul hd, Int.add_mul, Int.neg_mul, Int.mul_comm (m / d) d]; omega
        omega
theorem tdiv_bound {n d : Int} (hd : 0 < d) (h : -9223372036854775808 ≤ n ∧ n ≤ 9223372036854775807) : -9223372036854775808 ≤ Int.tdiv n d ∧ Int.tdiv n d ≤ 9223372036854775807 ∧ (Int.tmod n d < 0 → -9223372036854775808 ≤ Int.tdiv n d - 1) := by
  rcases Int.le_total 0 n with h0 | h0
  · rw [Int.tmod_eq_emod_of_nonneg h0, Int.tdiv_eq_ediv_of_nonneg h0]
    have a := Int.ediv_nonneg h0 (show 0 ≤ d by omega)
    have b := Int.ediv_le_self d h0
    have c := Int.emod_nonneg n (show d ≠ 0 by omega)
    omega
  · obtain ⟨m, rfl⟩ : ∃ m, n = -m := ⟨-n, by omega⟩
    have hm : 0 ≤ m := by omega
    rw [Int.neg_tmod, Int.neg_tdiv, Int.tmod_eq_emod_of_nonneg hm, Int.tdiv_eq_ediv_of_nonneg hm]
    have a := Int.ediv_nonneg hm (show 0 ≤ d by omega)
    have b := Int.ediv_le_self d hm
    have e0 := Int.mul_ediv_add_emod m d
    refine ⟨by omega, by omega, fun hlt => ?_⟩
    have e3 : m / d ≤ d * (m / d) := by have := Int.mul_le_mul_of_nonneg_right (show 1 ≤ d by omega) a; omega
    omega
theorem wrap64_eq {n : Int} (h : -9223372036854775808 ≤ n ∧ n ≤ 9223372036854775807) : wrap64 n = n := by unfold wrap64; omega
theorem gauge_down.eq {n d : Int} (hd : 0 < d) (h : -9223372036854775808 ≤ n ∧ n ≤ 9223372036854775807) : gauge_down.f n d = some (n / d) := by
  obtain ⟨b1, b2, b3⟩ := tdiv_bound hd h
  have t := tdown (n := n) hd
  unfold gauge_down.f
  rw [if_neg (by omega)]
  split at t
  · rename_i hc; rw [if_pos hc, wrap64_eq ⟨b1, b2⟩, wrap64_eq ⟨b3 hc, by omega⟩, t]
  · rename_i hc; rw [if_neg hc, wrap64_eq ⟨b1, b2⟩, t]
theorem mul_within {x g B G : Int} (x0 : -B ≤ x) (x1 : x ≤ B) (g0 : 0 ≤ g) (g1 : g ≤ G) (hB : 0 ≤ B) : -(B * G) ≤ x * g ∧ x * g ≤ B * G := by
  have a := Int.mul_le_mul_of_nonneg_right x1 g0
  have b := Int.mul_le_mul_of_nonneg_right x0 g0
  have c := Int.mul_le_mul_of_nonneg_left g1 hB
  rw [Int.neg_mul] at b
  omega
theorem mx_eq (a b : Int) : mx a b = max a b := by unfold mx; omega
theorem mn_eq (a b : Int) : mn a b = min a b := by unfold mn; omega
theorem gauge_high.eq {a0 a1 a2 a3 : Int} (a4 a5 a6 : Int) {x : Int} (h : meterOk a0 a1 a2 a3) (x0 : -4300000000000 ≤ x) (x1 : x ≤ 4300000000000) : gauge_high.f a0 a1 a2 a3 a4 a5 a6 x = some (hiEnd a0 a1 a3 x) := by
  obtain ⟨g0, g1, g2, o0, o1, o2⟩ := h
  have m0 := mul_within x0 x1 (show 0 ≤ a0 by omega) (show a0 ≤ 2000000 by omega) (by omega)
  have m1 := mul_within x0 x1 (show 0 ≤ a1 by omega) (show a1 ≤ 2000000 by omega) (by omega)
  unfold gauge_high.f gauge_up.f hiEnd
  rw [wrap64_eq (n := x * a0) (by omega), wrap64_eq (n := x * a1) (by omega), mx_eq]
  rw [wrap64_eq (n := -(max (x * a0) (x * a1))) (by omega), gauge_down.eq (by omega) (by omega)]
  simp only [Option.bind_some]
  rw [wrap64_eq (n := -(-(max (x * a0) (x * a1)) / 1000000)) (by omega), wrap64_eq (by omega)]
theorem gauge_low.eq {a0 a1 a2 a3 : Int} (a4 a5 a6 : Int) {x : Int} (h : meterOk a0 a1 a2 a3) (x0 : -4300000000000 ≤ x) (x1 : x ≤ 4300000000000) : gauge_low.f a0 a1 a2 a3 a4 a5 a6 x = some (loEnd a0 a1 a2 x) := by
  obtain ⟨g0, g1, g2, o0, o1, o2⟩ := h
  have m0 := mul_within x0 x1 (show 0 ≤ a0 by omega) (show a0 ≤ 2000000 by omega) (by omega)
  have m1 := mul_within x0 x1 (show 0 ≤ a1 by omega) (show a1 ≤ 2000000 by omega) (by omega)
  unfold gauge_low.f loEnd
  rw [wrap64_eq (n := x * a0) (by omega), wrap64_eq (n := x * a1) (by omega), mn_eq]
  rw [gauge_down.eq (by omega) (by omega)]
  simp only [Option.bind_some]
  rw [wrap64_eq (by omega)]

set_option maxHeartbeats 4000000 in
set_option maxRecDepth 1000000 in
theorem gauge_back_1.calls (a0 a1 a2 a3 a4 a5 a6 lo hi x : Int) (bm br : Nat) (w : World) (h : meterOk a0 a1 a2 a3) (x0 : -4300000000000 ≤ x) (x1 : x ≤ 4300000000000)
    (cm : w.heap[bm]? = some (.cells #[.int .i64 a0, .int .i64 a1, .int .i64 a2, .int .i64 a3, .int .i64 a4, .int .i64 a5, .int .i64 a6] 36 (0, 0))) (cr : w.heap[br]? = some (.cells #[.int .i64 lo, .int .i64 hi] 34 (0, 0))) :
    Calls Try.prog 92 (#[.int .i64 x] ++ #[.pointer (some ⟨bm, 0, none⟩), .pointer (some ⟨br, 0, none⟩)]) w fun e w' => e = .returned (.bool (decide (backLo a0 a1 a3 lo ≤ x))) ∧ Below w.heap.size w w' := by
  have e0 : decide (backLo a0 a1 a3 lo ≤ x) = decide (lo ≤ hiEnd a0 a1 a3 x) := by rw [decide_eq_decide]; exact (backLo_iff h lo x).symm
  rw [e0]
  clear e0
  have HS := Aside0.mk (gauge_high.calls a0 a1 a2 a3 a4 a5 a6 x _ w.drew (gauge_high.eq a4 a5 a6 h x0 x1))
  clear h
  generalize hiEnd a0 a1 a3 x = y at HS ⊢
  have CR := Aside0.mk cr
  have hu36 := Try.underlying36
  have hu34 := Try.underlying34
  have c0 : w.cell? ⟨bm, 0, none⟩ = some (.int .i64 a0) := (blk_cell cm 0).trans rfl
  have c1 : w.cell? ⟨bm, 1, none⟩ = some (.int .i64 a1) := (blk_cell cm 1).trans rfl
  have c2 : w.cell? ⟨bm, 2, none⟩ = some (.int .i64 a2) := (blk_cell cm 2).trans rfl
  have c3 : w.cell? ⟨bm, 3, none⟩ = some (.int .i64 a3) := (blk_cell cm 3).trans rfl
  have c4 : w.cell? ⟨bm, 4, none⟩ = some (.int .i64 a4) := (blk_cell cm 4).trans rfl
  have c5 : w.cell? ⟨bm, 5, none⟩ = some (.int .i64 a5) := (blk_cell cm 5).trans rfl
  have c6 : w.cell? ⟨bm, 6, none⟩ = some (.int .i64 a6) := (blk_cell cm 6).trans rfl
  have r0 : w.cell? ⟨br, 0, none⟩ = some (.int .i64 lo) := (blk_cell cr 0).trans rfl
  clear cm cr
  go_enter Try.func92, Try.ntmps92
  go_wp2
  go_region_with (go_at_call 81; (with_reducible refine HS.out.mono ?_); rintro e w' ⟨rfl, hb⟩; have hc : w'.cell? ⟨br, 0, none⟩ = some (.int .i64 lo) := (blk_cell (blk_below (blk_drew CR.out) hb) 0).trans rfl)
  all_goals (go_wp2; go_ret)
  all_goals refine ⟨by simp [Act.put], ?_⟩
  all_goals exact below_step (below_drew1 (Below.refl _ _)) (by assumption)

set_option maxHeartbeats 4000000 in
set_option maxRecDepth 1000000 in
theorem gauge_back_2.calls (a0 a1 a2 a3 a4 a5 a6 lo hi x : Int) (bm br : Nat) (w : World) (h : meterOk a0 a1 a2 a3) (x0 : -4300000000000 ≤ x) (x1 : x ≤ 4300000000000)
    (cm : w.heap[bm]? = some (.cells #[.int .i64 a0, .int .i64 a1, .int .i64 a2, .int .i64 a3, .int .i64 a4, .int .i64 a5, .int .i64 a6] 36 (0, 0))) (cr : w.heap[br]? = some (.cells #[.int .i64 lo, .int .i64 hi] 34 (0, 0))) :
    Calls Try.prog 93 (#[.int .i64 x] ++ #[.pointer (some ⟨bm, 0, none⟩), .pointer (some ⟨br, 0, none⟩)]) w fun e w' => e = .returned (.bool (decide (backHi a0 a1 a2 hi + 1 ≤ x))) ∧ Below w.heap.size w w' := by
  have e0 : decide (backHi a0 a1 a2 hi + 1 ≤ x) = decide (hi < loEnd a0 a1 a2 x) := by rw [decide_eq_decide]; exact (backHi_iff h hi x).symm
  rw [e0]
  clear e0
  have HS := Aside0.mk (gauge_low.calls a0 a1 a2 a3 a4 a5 a6 x _ w.drew (gauge_low.eq a4 a5 a6 h x0 x1))
  clear h
  generalize loEnd a0 a1 a2 x = y at HS ⊢
  have CR := Aside0.mk cr
  have hu36 := Try.underlying36
  have hu34 := Try.underlying34
  have c0 : w.cell? ⟨bm, 0, none⟩ = some (.int .i64 a0) := (blk_cell cm 0).trans rfl
  have c1 : w.cell? ⟨bm, 1, none⟩ = some (.int .i64 a1) := (blk_cell cm 1).trans rfl
  have c2 : w.cell? ⟨bm, 2, none⟩ = some (.int .i64 a2) := (blk_cell cm 2).trans rfl
  have c3 : w.cell? ⟨bm, 3, none⟩ = some (.int .i64 a3) := (blk_cell cm 3).trans rfl
  have c4 : w.cell? ⟨bm, 4, none⟩ = some (.int .i64 a4) := (blk_cell cm 4).trans rfl
  have c5 : w.cell? ⟨bm, 5, none⟩ = some (.int .i64 a5) := (blk_cell cm 5).trans rfl
  have c6 : w.cell? ⟨bm, 6, none⟩ = some (.int .i64 a6) := (blk_cell cm 6).trans rfl
  have r0 : w.cell? ⟨br, 1, none⟩ = some (.int .i64 hi) := (blk_cell cr 1).trans rfl
  clear cm cr
  go_enter Try.func93, Try.ntmps93
  go_wp2
  go_region_with (go_at_call 80; (with_reducible refine HS.out.mono ?_); rintro e w' ⟨rfl, hb⟩; have hc : w'.cell? ⟨br, 1, none⟩ = some (.int .i64 hi) := (blk_cell (blk_below (blk_drew CR.out) hb) 1).trans rfl)
  all_goals (go_wp2; go_ret)
  all_goals refine ⟨by simp [Act.put], ?_⟩
  all_goals exact below_step (below_drew1 (Below.refl _ _)) (by assumption)

theorem backLo_bound {glo ghi olo ohi n : Int} (h : meterOk glo ghi olo ohi) {M : Int} (hn : -M ≤ n) (hn' : n ≤ M) : -(2 * M + 2000003) ≤ backLo glo ghi ohi n ∧ backLo glo ghi ohi n ≤ 2 * M + 2000003 := by
  obtain ⟨g0, g1, g2, o0, o1, o2⟩ := h
  unfold backLo
  split
  · have a := Int.ediv_nonneg (show 0 ≤ (n - ohi - 1) * 1000000 by omega) (show 0 ≤ ghi by omega)
    have b : (n - ohi - 1) * 1000000 / ghi ≤ (n - ohi - 1) * 2 := Int.ediv_le_of_le_mul (by omega) (by have := Int.mul_le_mul_of_nonneg_left (show (500000 : Int) ≤ ghi by omega) (show 0 ≤ (n - ohi - 1) * 2 by omega); omega)
    omega
  · have b : (n - ohi - 1) * 2 ≤ (n - ohi - 1) * 1000000 / glo := by
      rw [Int.le_ediv_iff_mul_le (by omega)]
      have := Int.mul_le_mul_of_nonpos_left (show (n - ohi - 1) * 2 ≤ 0 by omega) (show (500000 : Int) ≤ glo by omega)
      omega
    have a : (n - ohi - 1) * 1000000 / glo < 0 := Int.ediv_neg_of_neg_of_pos (by omega) (by omega)
    omega
theorem backHi_bound {glo ghi olo ohi n : Int} (h : meterOk glo ghi olo ohi) {M : Int} (hn : -M ≤ n) (hn' : n ≤ M) : -(2 * M + 2000003) ≤ backHi glo ghi olo n ∧ backHi glo ghi olo n ≤ 2 * M + 2000003 := by
  obtain ⟨g0, g1, g2, o0, o1, o2⟩ := h
  unfold backHi
  split
  · have a := Int.ediv_nonneg (show 0 ≤ (n - olo + 1) * 1000000 - 1 by omega) (show 0 ≤ glo by omega)
    have b : ((n - olo + 1) * 1000000 - 1) / glo ≤ (n - olo + 1) * 2 := Int.ediv_le_of_le_mul (by omega) (by have := Int.mul_le_mul_of_nonneg_left (show (500000 : Int) ≤ glo by omega) (show 0 ≤ (n - olo + 1) * 2 by omega); omega)
    omega
  · have b : (n - olo + 1) * 2 - 1 ≤ ((n - olo + 1) * 1000000 - 1) / ghi := by
      rw [Int.le_ediv_iff_mul_le (by omega)]
      have := Int.mul_le_mul_of_nonpos_left (show (n - olo + 1) * 2 - 1 ≤ 0 by omega) (show (500000 : Int) ≤ ghi by omega)
      omega
    have a : ((n - olo + 1) * 1000000 - 1) / ghi < 0 := Int.ediv_neg_of_neg_of_pos (by omega) (by omega)
    omega

theorem gauge_back.lo (a0 a1 a2 a3 a4 a5 a6 lo hi most : Int) (bm br : Nat) (w : World) (h : meterOk a0 a1 a2 a3) (m0 : 2 * lo + 4000010 ≤ most) (m1 : -(2 * lo) + 4000010 ≤ most) (m4 : most ≤ 4300000000000)
    (cm : w.heap[bm]? = some (.cells #[.int .i64 a0, .int .i64 a1, .int .i64 a2, .int .i64 a3, .int .i64 a4, .int .i64 a5, .int .i64 a6] 36 (0, 0))) (cr : w.heap[br]? = some (.cells #[.int .i64 lo, .int .i64 hi] 34 (0, 0))) :
    Calls Try.prog 91 #[.int .i64 most, .func (.func 92) #[] #[.pointer (some ⟨bm, 0, none⟩), .pointer (some ⟨br, 0, none⟩)]] w fun e w' => e = .returned (.int .i64 (backLo a0 a1 a3 lo)) ∧ Below w.heap.size w w' := by
  have hb := backLo_bound h (M := max lo (-lo)) (n := lo) (by omega) (by omega)
  exact gauge_first.calls 92 _ most (backLo a0 a1 a3 lo) w (enters_of Try.func92 (by kernel_rfl) rfl) (by omega) (by omega) (by omega) (by omega)
    (fun W x hB x0 x1 => gauge_back_1.calls a0 a1 a2 a3 a4 a5 a6 lo hi x bm br W h (by omega) (by omega) (blk_below cm hB) (blk_below cr hB))
theorem gauge_back.hi (a0 a1 a2 a3 a4 a5 a6 lo hi most : Int) (bm br : Nat) (w : World) (h : meterOk a0 a1 a2 a3) (m2 : 2 * hi + 4000010 ≤ most) (m3 : -(2 * hi) + 4000010 ≤ most) (m4 : most ≤ 4300000000000)
    (cm : w.heap[bm]? = some (.cells #[.int .i64 a0, .int .i64 a1, .int .i64 a2, .int .i64 a3, .int .i64 a4, .int .i64 a5, .int .i64 a6] 36 (0, 0))) (cr : w.heap[br]? = some (.cells #[.int .i64 lo, .int .i64 hi] 34 (0, 0))) :
    Calls Try.prog 91 #[.int .i64 most, .func (.func 93) #[] #[.pointer (some ⟨bm, 0, none⟩), .pointer (some ⟨br, 0, none⟩)]] w fun e w' => e = .returned (.int .i64 (backHi a0 a1 a2 hi + 1)) ∧ Below w.heap.size w w' := by
  have hb := backHi_bound h (M := max hi (-hi)) (n := hi) (by omega) (by omega)
  exact gauge_first.calls 93 _ most (backHi a0 a1 a2 hi + 1) w (enters_of Try.func93 (by kernel_rfl) rfl) (by omega) (by omega) (by omega) (by omega)
    (fun W x hB x0 x1 => gauge_back_2.calls a0 a1 a2 a3 a4 a5 a6 lo hi x bm br W h (by omega) (by omega) (blk_below cm hB) (blk_below cr hB))

set_option maxHeartbeats 8000000 in
set_option maxRecDepth 1000000 in
theorem gauge_back.calls (a0 a1 a2 a3 a4 a5 a6 lo hi : Int) (w : World) (h : meterOk a0 a1 a2 a3) (l0 : -2100000000000 ≤ lo) (l1 : lo ≤ 2100000000000) (h0 : -2100000000000 ≤ hi) (h1 : hi ≤ 2100000000000) :
    Calls Try.prog 83 #[.agg #[.int .i64 a0, .int .i64 a1, .int .i64 a2, .int .i64 a3, .int .i64 a4, .int .i64 a5, .int .i64 a6], .agg #[.int .i64 lo, .int .i64 hi]] w
      fun e w' => e = .returned (.agg #[.int .i64 (backLo a0 a1 a3 lo), .int .i64 (backHi a0 a1 a2 hi)]) ∧ Below w.heap.size w w' := by
  have hb := backHi_bound h (M := max hi (-hi)) (n := hi) (by omega) (by omega)
  obtain ⟨y, hy⟩ : ∃ y, y = backHi a0 a1 a2 hi := ⟨_, rfl⟩
  rw [← hy] at hb ⊢
  have HY := Aside0.mk hy
  clear hy
  have b0 : -4300000000000 ≤ y := by omega
  have b1 : y ≤ 4300000000000 := by omega
  clear hb
  have HL := Aside0.mk (fun most m0 m1 m4 => gauge_back.lo a0 a1 a2 a3 a4 a5 a6 lo hi most w.heap.size (w.heap.size + 1) (((w.alloc (.cells #[.int .i64 a0, .int .i64 a1, .int .i64 a2, .int .i64 a3, .int .i64 a4, .int .i64 a5, .int .i64 a6] 36)).alloc (.cells #[.int .i64 lo, .int .i64 hi] 34)).alloc (.cells #[.int .i64 0, .int .i64 0] 34)) h m0 m1 m4
    (blk_alloc (blk_alloc (blk_new w _) _) _) (blk_alloc (by have := blk_new (w.alloc (.cells #[.int .i64 a0, .int .i64 a1, .int .i64 a2, .int .i64 a3, .int .i64 a4, .int .i64 a5, .int .i64 a6] 36)) (.cells #[.int .i64 lo, .int .i64 hi] 34); rwa [World.size_alloc] at this) _))
  have HU := Aside0.mk (fun most W m2 m3 m4 cm cr => gauge_back.hi a0 a1 a2 a3 a4 a5 a6 lo hi most w.heap.size (w.heap.size + 1) W h m2 m3 m4 cm cr)
  clear h
  have hu36 := Try.underlying36
  have hu34 := Try.underlying34
  go_enter Try.func83, Try.ntmps83
  go_wp2_with (fail)
  all_goals
    (with_reducible refine (HL.out _ (by omega) (by omega) (by omega)).mono ?_)
    rintro e w1 ⟨rfl, hb⟩
    have HB1 := Aside0.mk hb
    have k0 := Aside0.mk (blk_below (blk_alloc (blk_alloc (blk_new w (.cells #[.int .i64 a0, .int .i64 a1, .int .i64 a2, .int .i64 a3, .int .i64 a4, .int .i64 a5, .int .i64 a6] 36)) (.cells #[.int .i64 lo, .int .i64 hi] 34)) (.cells #[.int .i64 0, .int .i64 0] 34)) hb)
    have k1 := Aside0.mk (blk_below (blk_alloc (blk_new (w.alloc (.cells #[.int .i64 a0, .int .i64 a1, .int .i64 a2, .int .i64 a3, .int .i64 a4, .int .i64 a5, .int .i64 a6] 36)) (.cells #[.int .i64 lo, .int .i64 hi] 34)) (.cells #[.int .i64 0, .int .i64 0] 34)) hb)
    have k2 := Aside0.mk (blk_below (blk_new ((w.alloc (.cells #[.int .i64 a0, .int .i64 a1, .int .i64 a2, .int .i64 a3, .int .i64 a4, .int .i64 a5, .int .i64 a6] 36)).alloc (.cells #[.int .i64 lo, .int .i64 hi] 34)) (.cells #[.int .i64 0, .int .i64 0] 34)) hb)
    simp only [World.size_alloc] at k1 k2
    clear hb
    go_wp2_with (fail)
    (with_reducible refine (HU.out _ _ (by omega) (by omega) (by omega) k0.out k1.out).mono ?_)
    rw [← HY.out]
    rintro e w2 ⟨rfl, hb⟩
    have k3 := blk_below k2.out hb
    have f0 := blk_frozen k3 0
    have f1 := blk_frozen k3 1
    have q0 : w2.cell? ⟨w.heap.size + 1 + 1, 0, none⟩ = some (.int .i64 0) := (blk_cell k3 0).trans rfl
    have q1 : w2.cell? ⟨w.heap.size + 1 + 1, 1, none⟩ = some (.int .i64 0) := (blk_cell k3 1).trans rfl
    have HB2 := Aside0.mk (below_step (below_step (below_alloc (below_alloc (below_alloc (Below.refl w.heap.size w) _) _) _) HB1.out) hb)
    have K3 := Aside0.mk k3
    clear hb k3
    go_wp2_with (fail)
    exact bodyPost_ret (v := .agg #[.int .i64 (backLo a0 a1 a3 lo), .int .i64 y]) (by simp [results, Try.results83, go_sem, q0, q1]) rfl ⟨rfl, below_set (below_set HB2.out (by omega)) (by omega)⟩

end Go.Proofs.Ytdbpobadeibjaaa.GAll
