-- written for this claim by a program of this session (wip/gp), over the kit's own printer; Lean checks it
import Derived.Test.YtdbpobadeibjaaaGAllx0
import Derived.Test.YtdbpobadeibjaaaGAllx12
import Derived.Test.YtdbpobadeibjaaaGAllx13
namespace Go.Proofs.Ytdbpobadeibjaaa.GAll
open Go.RowKit Go.Proofs.YtdbpobadeibjaaaW.PrintWords Go.Proofs.YtdbpobadeibjaaaW.PrintLast Go.Proofs.YtdbpobadeibjaaaW.PrintMore
attribute [local go_sem] max2_int min2_int max_two min_two max_three min_three max_four min_four   -- for this text's walks alone
set_option linter.unusedVariables false
set_option linter.unusedSimpArgs false

--HAND
/-! ### gauge.few, by hand: function 59 -/
/-- The samples with k bad ones, for k below n. -/
def fewSum (b d s : Nat) : Nat → Int
  | 0 => 0
  | n + 1 => fewSum b d s n + binom b n * binom d (s - n)
def fewP (lot bad sample most : Int) : Int := fewSum bad.toNat (lot - bad).toNat sample.toNat (min (min most bad) sample + 1).toNat
def FewOk (lot bad sample most : Int) : Prop := lot ≤ 50 ∧ 0 ≤ bad ∧ bad ≤ lot ∧ 0 ≤ sample ∧ sample ≤ lot ∧ 0 ≤ most
instance (lot bad sample most : Int) : Decidable (FewOk lot bad sample most) := by unfold FewOk; infer_instance
def gauge_few.f (a0 : Int) (a1 : Int) (a2 : Int) (a3 : Int) : Option (Int) := if FewOk a0 a1 a2 a3 then some (fewP a0 a1 a2 a3) else none
theorem term_bound (b d s n : Nat) (h : b + d ≤ 50) : 0 ≤ binom b n * binom d (s - n) ∧ binom b n * binom d (s - n) ≤ 1125899906842624 := by
  have h1 := binom_bound b n
  have h2 := binom_bound d (s - n)
  have h3 := pow_bound (b + d) h
  rw [Int.pow_add] at h3
  exact ⟨Int.mul_nonneg h1.1 h2.1, Int.le_trans (Int.mul_le_mul h1.2 h2.2 h2.1 (by omega)) h3⟩
theorem fewSum_bound (b d s : Nat) (h : b + d ≤ 50) : ∀ n : Nat, 0 ≤ fewSum b d s n ∧ fewSum b d s n ≤ 1125899906842624 * n
  | 0 => by simp [fewSum]
  | n + 1 => by
    have h1 := fewSum_bound b d s h n
    have h2 := term_bound b d s n h
    simp only [fewSum]
    omega
def rowA (n : Nat) : Array Value := tableA.extract (n * 51) (n * 51 + 51)
theorem rowA_get (n k : Nat) (hn : n < 51) (hk : k < 51) : (rowA n)[k]? = some (.int .i64 (binom n k)) := by
  unfold rowA
  rw [Array.getElem?_extract, if_pos (by rw [show tableA.size = 2601 from triA_size _ _]; omega), tableA_get n k hn hk]
theorem size84 : (Try.prog.info? 84).map (·.size) = some 51 := by kernel_rfl
theorem size3 : (Try.prog.info? 3).map (·.size) = some 1 := by kernel_rfl
theorem index_table (n : Int) (h0 : 0 ≤ n) (h1 : n < 51) (w : World) : (Instr.index 85 (.agg tableA) (.int .i64 n)).run Try.prog w = .ok (.agg (rowA n.toNat)) w := by
  obtain ⟨i, hi, hz⟩ := Option.map_eq_some_iff.1 size84
  have hu := Try.underlying85
  have hu2 := Try.underlying84
  simp [Instr.index, asIntOf, go_sem, h0, h1, part, sizeOf, typeInfo, hi, hz, isAgg, rowA]
theorem index_row (n : Nat) (k : Int) (hn : n < 51) (h0 : 0 ≤ k) (h1 : k < 51) (w : World) : (Instr.index 84 (.agg (rowA n)) (.int .i64 k)).run Try.prog w = .ok (.int .i64 (binom n k.toNat)) w := by
  obtain ⟨i, hi, hz⟩ := Option.map_eq_some_iff.1 size3
  have hu := Try.underlying84
  have hu2 := Try.underlying3
  have hg := rowA_get n k.toNat hn (by omega)
  simp [Instr.index, asIntOf, go_sem, h0, h1, part, sizeOf, typeInfo, hi, hz, isAgg, hg]

set_option maxHeartbeats 4000000 in
set_option maxRecDepth 1000000 in
theorem gauge_few.calls (a0 : Int) (a1 : Int) (a2 : Int) (a3 : Int) (r : Int) (w : World) (h : gauge_few.f a0 a1 a2 a3 = some r) :
    Calls Try.prog 59 #[.int .i64 a0, .int .i64 a1, .int .i64 a2, .int .i64 a3] w fun e w' => e = .returned (.int .i64 r) ∧ Below w.heap.size w w' := by
  unfold gauge_few.f at h
  by_cases hok : FewOk a0 a1 a2 a3
  case neg => rw [if_neg hok] at h; cases h
  rw [if_pos hok] at h
  have HR := Aside0.mk (Option.some.inj h)
  clear h
  obtain ⟨b0, b1, b2, b3, b4, b5⟩ := hok
  obtain ⟨M, hM⟩ : ∃ M, (if a2 < (if a1 < a3 then a1 else a3) then a2 else (if a1 < a3 then a1 else a3)) = M := ⟨_, rfl⟩
  have hM2 : M = min (min a3 a1) a2 := by rw [← hM]; omega
  have HM := Aside0.mk hM2
  have M0 : 0 ≤ M := by omega
  have M1 : M ≤ a1 := by omega
  have M2 : M ≤ a2 := by omega
  have HB0 := Aside0.mk (Below.refl w.heap.size w)
  have HT := Aside0.mk (fewSum_bound a1.toNat (a0 - a1).toNat a2.toNat (by omega))
  clear hM2
  go_enter Try.func59, Try.ntmps59
  go_wp2
  go_loopw [9, 10] (fun s9 s10 wr => ∃ (k : Nat) (x : Int), s9 = .int .i64 x ∧ s10 = .int .i64 k ∧ (k : Int) ≤ M + 1 ∧ Aside0 (x = fewSum a1.toNat (a0 - a1).toNat a2.toNat k) ∧ Aside0 (Below w.heap.size w wr)) (fun _ s10 _ => (M + 1).toNat - (intOf s10).toNat)
  case atStart => exact ⟨0, 0, rfl, rfl, by omega, ⟨rfl⟩, HB0⟩
  case round =>
    obtain ⟨k, x, rfl, rfl, hk, HX, HB⟩ := hrel
    by_cases hlt : (k : Int) ≤ M
    · have hx := HT.out k
      rw [← HX.out] at hx
      have x0 := hx.1
      have x1 : x ≤ 100000000000000000 := by omega
      have ht := term_bound a1.toNat (a0 - a1).toNat a2.toNat k (by omega)
      have HN : Aside0 (fewSum a1.toNat (a0 - a1).toNat a2.toNat (k + 1) = x + binom a1.toNat k * binom (a0 - a1).toNat (a2.toNat - k)) := ⟨by rw [HX.out]; rfl⟩
      have i0 := fun W => index_table a1 (by omega) (by omega) W
      have i1 := fun W => index_row a1.toNat k (by omega) (by omega) (by omega) W
      have i2 := fun W => index_table (a0 - a1) (by omega) (by omega) W
      have i3 := fun W => index_row (a0 - a1).toNat (a2 - k) (by omega) (by omega) (by omega) W
      rw [Int.toNat_natCast] at i1
      rw [show (a2 - (k : Int)).toNat = a2.toNat - k by omega] at i3
      have y0 := ht.1
      have y1 := ht.2
      clear ht hx HX
      generalize binom a1.toNat k = p at i1 y0 y1 HN
      generalize binom (a0 - a1).toNat (a2.toNat - k) = q at i3 y0 y1 HN
      have d1 : decide ((k : Int) ≤ M) = true := decide_eq_true hlt
      go_wp2
      have w0 : IntKind.i64.wrap (a0 - a1) = a0 - a1 := IntWalk.i64_in _ (by omega)
      have w1 : IntKind.i64.wrap (a2 - (k : Int)) = a2 - k := IntWalk.i64_in _ (by omega)
      have w2 : IntKind.i64.wrap (p * q) = p * q := IntWalk.i64_in _ (by omega)
      have w3 : IntKind.i64.wrap (x + p * q) = x + p * q := IntWalk.i64_in _ (by omega)
      go_region_with (go_at_call 60; (with_reducible refine (gauge_choose.calls _).mono ?_); rintro e w' ⟨rfl, hb⟩; (first | (have HB3 := Aside0.mk (below_step HB2.out hb); clear hb) | (have HB2 := Aside0.mk (below_step (below_drew1 HB.out) hb); clear hb)))
      all_goals
        (try simp only [Act.put, List.setIfInBounds_toArray, List.set_cons_zero, List.set_cons_succ, w2, w3])
        clear w0 w1 i0 i1 i2 i3
        go_wp2
        go_roundw
        case rel => exact ⟨k + 1, x + p * q, rfl, by go_num, by omega, ⟨HN.out.symm⟩, HB3⟩
        case measure => simp [intOf]; omega
    · have hkM : (k : Int) = M + 1 := by omega
      have HF : Aside0 (x = r) := ⟨by
        rw [← HR.out, HX.out]; unfold fewP
        rw [show (min (min a3 a1) a2 + 1).toNat = k by have := HM.out; omega]⟩
      have d1 : decide ((k : Int) ≤ M) = false := decide_eq_false hlt
      clear hkM
      go_wp2
      go_ret
      obtain rfl := HF.out
      exact ⟨rfl, HB.out⟩

end Go.Proofs.Ytdbpobadeibjaaa.GAll
