-- written for this claim by a program of this session (wip/gp), over the kit's own printer; Lean checks it
import Derived.Test.YtdbpobadeibjaaaGAllx0
namespace Go.Proofs.Ytdbpobadeibjaaa.GAll
open Go.RowKit Go.Proofs.YtdbpobadeibjaaaW.PrintWords Go.Proofs.YtdbpobadeibjaaaW.PrintLast Go.Proofs.YtdbpobadeibjaaaW.PrintMore
attribute [local go_sem] max2_int min2_int max_two min_two max_three min_three max_four min_four   -- for this text's walks alone
set_option linter.unusedVariables false
set_option linter.unusedSimpArgs false

--HAND
/-! ### gauge.triangle, by hand: function 86 -/
/-- Pascal's triangle. -/
def binom : Nat → Nat → Int
  | _, 0 => 1
  | 0, _ + 1 => 0
  | n + 1, k + 1 => binom n k + binom n (k + 1)
theorem binom_zero (n : Nat) : binom n 0 = 1 := by cases n <;> rfl
theorem binom_above : ∀ (n k : Nat), n < k → binom n k = 0
  | 0, k + 1, _ => rfl
  | n + 1, k + 1, h => by simp only [binom]; rw [binom_above n k (by omega), binom_above n (k + 1) (by omega)]; rfl
theorem binom_bound : ∀ (n k : Nat), 0 ≤ binom n k ∧ binom n k ≤ 2 ^ n
  | 0, 0 => by decide
  | 0, k + 1 => by simp [binom]
  | n + 1, 0 => by simp only [binom]; exact ⟨by omega, by have := Int.pow_pos (n := 2) (m := n + 1) (by omega); omega⟩
  | n + 1, k + 1 => by
    have a := binom_bound n k
    have b := binom_bound n (k + 1)
    simp only [binom]
    rw [Int.pow_succ]
    omega
theorem binom_step : ∀ (n k : Nat), 1 ≤ n → 1 ≤ k → binom n k = binom (n - 1) (k - 1) + binom (n - 1) k
  | n + 1, k + 1, _, _ => rfl
theorem pow_bound (n : Nat) (h : n ≤ 50) : (2 : Int) ^ n ≤ 1125899906842624 := by
  have : (2 : Nat) ^ n ≤ 2 ^ 50 := Nat.pow_le_pow_right (by omega) h
  have e : ((2 ^ n : Nat) : Int) = (2 : Int) ^ n := by push_cast; rfl
  rw [← e]
  have e2 : (2 : Nat) ^ 50 = 1125899906842624 := by decide
  omega
/-- The cells of the table when the rows below n are there, and of row n the first k. -/
def triVal (n k j : Nat) : Int := if j / 51 < n ∨ (j / 51 = n ∧ j % 51 < k) then binom (j / 51) (j % 51) else 0
def triA (n k : Nat) : Array Value := ((List.range 2601).map fun j => Value.int .i64 (triVal n k j)).toArray
theorem triA_size (n k : Nat) : (triA n k).size = 2601 := by simp [triA]
theorem triA_get (n k j : Nat) (h : j < 2601) : (triA n k)[j]? = some (.int .i64 (triVal n k j)) := by simp [triA, h]
theorem triA_set (n k : Nat) (hn : n < 51) (hk : k < 51) : (triA n k).setIfInBounds (n * 51 + k) (.int .i64 (binom n k)) = triA n (k + 1) := by
  apply Array.ext_getElem?
  intro j
  rw [Array.getElem?_setIfInBounds]
  by_cases hj : j < 2601
  · rw [triA_size, triA_get n (k + 1) j hj, triA_get n k j hj]
    unfold triVal
    by_cases e : n * 51 + k = j
    · rw [if_pos e, if_pos (by omega), if_pos (by omega), show j / 51 = n by omega, show j % 51 = k by omega]
    · rw [if_neg e]
      by_cases c : j / 51 < n ∨ (j / 51 = n ∧ j % 51 < k)
      · rw [if_pos c, if_pos (by omega)]
      · rw [if_neg c, if_neg (by omega)]
  · rw [if_neg (by omega)]
    rw [Array.getElem?_eq_none (by rw [triA_size]; omega), Array.getElem?_eq_none (by rw [triA_size]; omega)]
theorem triA_row (n : Nat) : triA n (n + 1) = triA (n + 1) 0 := by
  unfold triA
  refine congrArg List.toArray (List.map_congr_left fun j _ => congrArg (Value.int .i64) ?_)
  unfold triVal
  by_cases c : j / 51 < n ∨ (j / 51 = n ∧ j % 51 < n + 1)
  · rw [if_pos c, if_pos (by omega)]
  · rw [if_neg c]
    by_cases c2 : j / 51 < n + 1 ∨ (j / 51 = n + 1 ∧ j % 51 < 0)
    · rw [if_pos c2, binom_above _ _ (by omega)]
    · rw [if_neg c2]
theorem triA_zero : triA 0 0 = Array.replicate 2601 (.int .i64 0) := by
  apply Array.ext_getElem?
  intro j
  by_cases hj : j < 2601
  · rw [triA_get 0 0 j hj, Array.getElem?_replicate, if_pos hj]
    unfold triVal
    rw [if_neg (by omega)]
  · rw [Array.getElem?_eq_none (by rw [triA_size]; omega), Array.getElem?_eq_none (by simp; omega)]
/-- The table. -/
def tableA : Array Value := triA 51 0
theorem tableA_get (n k : Nat) (hn : n < 51) (hk : k < 51) : tableA[n * 51 + k]? = some (.int .i64 (binom n k)) := by
  unfold tableA
  rw [triA_get _ _ _ (by omega)]
  unfold triVal
  rw [if_pos (by omega), show (n * 51 + k) / 51 = n by omega, show (n * 51 + k) % 51 = k by omega]
theorem below_row {B g : Nat} {w0 w : World} (hb : Below B w0 w) (hBg : B ≤ g) (cs : Array Value) : Below B w0 (w.setRow g cs) :=
  ⟨hb.os, hb.tape, hb.output, by rw [setRow_size]; exact hb.size, fun k hk => (setRow_other w g k cs (by omega)).trans (hb.block k hk)⟩
theorem tableA_all : tableA.all (·.oneCell') = true := by
  unfold tableA triA
  rw [List.all_toArray, List.all_map]
  rw [List.all_eq_true]
  intro x _
  rfl
theorem infoTable : (Try.prog.info? 85).map (fun i => (i.zero, i.size)) = some (some (.agg (Array.replicate 2601 (.int .i64 0))), 2601) := by kernel_rfl

theorem alloc_table {op : Oper} {a : Act} (w : World) (ho : op.op = .alloc 85) (hd : op.dst = some 0) (ht : a.tmps.getD 0 undef = undef) : (execOp a.eval op).run Try.prog w = .ok (.value (.pointer (some ⟨w.heap.size, 0, none⟩))) (w.alloc (.cells (triA 0 0) 85 (0, 0))) := by
  obtain ⟨i, hi, hz⟩ := Option.map_eq_some_iff.1 infoTable
  simp only [Prod.mk.injEq] at hz
  rw [triA_zero]
  simp [execOp, ho, hd, Instr.alloc, zeroValue, typeInfo, hi, hz.1, hz.2, go_sem]

set_option maxHeartbeats 4000000 in
set_option maxRecDepth 1000000 in
theorem gauge_triangle.calls (w : World) : Calls Try.prog 86 #[] w fun e w' => e = .returned (.agg tableA) ∧ Below w.heap.size w w' := by
  have HB0 := Aside0.mk (Below.refl w.heap.size w)
  have hu85 := Try.underlying85
  have hu84 := Try.underlying84
  go_enter Try.func86, Try.ntmps86
  go_wp2_with (refine box_event ?hg (N := 0) ?hd (cs := triA 0 0) (t := 85) ?hr ?_; (case hd => rfl); (case hg => rfl); (case hr => exact alloc_table _ rfl rfl rfl); intro g hg w1 hbox hb)
  subst hg
  have HX := Aside0.mk hbox
  have HB := Aside0.mk hb
  clear hbox hb
  go_loopw [3] (fun s3 wr => ∃ n : Nat, s3 = .int .i64 n ∧ n ≤ 51 ∧ Aside0 (wr.heap[w.heap.size]? = some (.cells (triA n 0) 85 (0, 0))) ∧ Aside0 (Below w.heap.size w wr)) (fun s3 _ => 51 - (intOf s3).toNat)
  case atStart => exact ⟨0, rfl, by omega, HX, HB⟩
  case round =>
    clear HX HB
    obtain ⟨n, rfl, hn, HX, HB⟩ := hrel
    by_cases hlt : n < 51
    · have k0 : wr.cell? ⟨w.heap.size, n * 51, none⟩ = some (.int .i64 (triVal n 0 (n * 51))) := (blk_cell HX.out (n * 51)).trans (triA_get _ _ _ (by omega))
      have k1 := blk_frozen HX.out (n * 51)
      have d0 : decide ((n : Int) < 51) = true := decide_eq_true (by omega)
      go_wp2
      clear k0 k1
      obtain ⟨W1, hW1⟩ : ∃ W1, wr.setCell ⟨w.heap.size, n * 51, none⟩ (.int .i64 1) = W1 := ⟨_, rfl⟩
      have HX1 : Aside0 (W1.heap[w.heap.size]? = some (.cells (triA n 1) 85 (0, 0))) := ⟨by
        rw [← hW1]; exact blk_put HX.out (n * 51) _ (by have := triA_set n 0 hlt (by omega); rw [binom_zero] at this; exact this)⟩
      have HB1 : Aside0 (Below w.heap.size w W1) := ⟨by rw [← hW1]; exact below_set HB.out (Nat.le_refl _)⟩
      rw [hW1]
      clear hW1 HX HB
      go_loopw [2] (fun s2 wr => ∃ k : Nat, s2 = .int .i64 k ∧ 1 ≤ k ∧ k ≤ n + 1 ∧ Aside0 (wr.heap[w.heap.size]? = some (.cells (triA n k) 85 (0, 0))) ∧ Aside0 (Below w.heap.size w wr)) (fun s2 _ => n + 1 - (intOf s2).toNat)
      case atStart => exact ⟨1, rfl, by omega, by omega, HX1, HB1⟩
      case round =>
        clear HX1 HB1
        obtain ⟨k, rfl, hk1, hk2, HX, HB⟩ := hrel
        by_cases hle : k ≤ n
        · have q0 : wr.cell? ⟨w.heap.size, (n - 1) * 51 + (k - 1), none⟩ = some (.int .i64 (binom (n - 1) (k - 1))) := (blk_cell HX.out ((n - 1) * 51 + (k - 1))).trans (by
            rw [triA_get _ _ _ (by omega)]; unfold triVal; rw [if_pos (by omega), show ((n - 1) * 51 + (k - 1)) / 51 = n - 1 by omega, show ((n - 1) * 51 + (k - 1)) % 51 = k - 1 by omega])
          have q1 : wr.cell? ⟨w.heap.size, (n - 1) * 51 + k, none⟩ = some (.int .i64 (binom (n - 1) k)) := (blk_cell HX.out ((n - 1) * 51 + k)).trans (by
            rw [triA_get _ _ _ (by omega)]; unfold triVal; rw [if_pos (by omega), show ((n - 1) * 51 + k) / 51 = n - 1 by omega, show ((n - 1) * 51 + k) % 51 = k by omega])
          have q2 : wr.cell? ⟨w.heap.size, n * 51 + k, none⟩ = some (.int .i64 (triVal n k (n * 51 + k))) := (blk_cell HX.out _).trans (triA_get _ _ _ (by omega))
          have q3 := blk_frozen HX.out (n * 51 + k)
          have a0 := binom_bound (n - 1) (k - 1)
          have a1 := binom_bound (n - 1) k
          have a2 := pow_bound (n - 1) (by omega)
          have HS : Aside0 (binom n k = binom (n - 1) (k - 1) + binom (n - 1) k) := ⟨binom_step n k (by omega) (by omega)⟩
          have b0 := a0.1
          have b1 := a1.1
          have b2 : binom (n - 1) (k - 1) ≤ 1125899906842624 := by omega
          have b3 : binom (n - 1) k ≤ 1125899906842624 := by omega
          clear a0 a1 a2
          generalize binom (n - 1) (k - 1) = x at q0 b0 b2 HS
          generalize binom (n - 1) k = y at q1 b1 b3 HS
          go_wp2
          have w0 : IntKind.i64.wrap ((n : Int) - 1) = (n : Int) - 1 := IntWalk.i64_in _ (by omega)
          have w1 : IntKind.i64.wrap ((k : Int) - 1) = (k : Int) - 1 := IntWalk.i64_in _ (by omega)
          have w2 : IntKind.i64.wrap (x + y) = x + y := IntWalk.i64_in _ (by omega)
          have i0 : (n : Int) < 51 := by omega
          have i1 : (k : Int) < 51 := by omega
          have i2 : (n : Int) - 1 < 51 := by omega
          have i3 : (k : Int) - 1 < 51 := by omega
          have i4 : (0 : Int) ≤ (n : Int) - 1 := by omega
          have i5 : (0 : Int) ≤ (k : Int) - 1 := by omega
          have i6 : (1 : Int) ≤ (n : Int) := by omega
          have i7 : (1 : Int) ≤ (k : Int) := by omega
          have t0 : ((n : Int) - 1).toNat = n - 1 := by omega
          have t1 : ((k : Int) - 1).toNat = k - 1 := by omega
          go_still_tail 18, (by kernel_rfl)
          clear w0 w1 w2 t0 t1
          go_wp2
          go_roundw
          case rel => exact ⟨k + 1, by go_num, by omega, by omega, ⟨blk_drew (blk_put HX.out (n * 51 + k) _ (by have := triA_set n k hlt (by omega); rw [HS.out] at this; exact this))⟩, ⟨below_drew1 (below_set HB.out (Nat.le_refl _))⟩⟩
          case measure => simp [intOf]; omega
        · obtain rfl : k = n + 1 := by omega
          go_wp2
          go_roundw
          case rel => exact ⟨n + 1, by go_num, by omega, ⟨by rw [← triA_row]; exact HX.out⟩, HB⟩
          case measure => simp [intOf]; omega
    · obtain rfl : n = 51 := by omega
      have hsz : (Try.prog.info? 85).map (·.size) = some tableA.size := by
        obtain ⟨i, hi, hz⟩ := Option.map_eq_some_iff.1 infoTable
        simp only [Prod.mk.injEq] at hz
        rw [hi, show tableA.size = 2601 from triA_size _ _]
        simp [hz.2]
      have HT : Aside0 (wr.heap[w.heap.size]? = some (.cells tableA 85 (0, 0))) := HX
      have HZ := Aside0.mk hsz
      clear HX hsz
      have H1 : Aside0 (tableA.all (·.oneCell') = true) := ⟨tableA_all⟩
      go_wp2_with (first | (refine wpList_load_row rfl 85 _ rfl w.heap.size rfl 85 _ _ _ HT.out Try.underlying85 rfl HZ.out ?_) | (refine wpList_store_row rfl 85 _ _ rfl w.heap.size tableA rfl rfl 85 tableA HT.out HZ.out rfl H1.out ?_))
      exact bodyPost_ret (results_cell_row rfl _ _ w.heap.size 85 tableA (0, 0) _ rfl (setRow_heap _ _ _ _ _ _ HT.out) Try.underlying85 rfl HZ.out) rfl ⟨rfl, below_row HB.out (Nat.le_refl _) _⟩

end Go.Proofs.Ytdbpobadeibjaaa.GAll
