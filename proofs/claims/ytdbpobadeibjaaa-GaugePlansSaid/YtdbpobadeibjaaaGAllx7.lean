-- written for this claim by a program of this session (wip/gp), over the kit's own printer; Lean checks it
import Derived.Test.YtdbpobadeibjaaaGAllx0
namespace Go.Proofs.Ytdbpobadeibjaaa.GAll
open Go.RowKit Go.Proofs.YtdbpobadeibjaaaW.PrintWords Go.Proofs.YtdbpobadeibjaaaW.PrintLast Go.Proofs.YtdbpobadeibjaaaW.PrintMore
attribute [local go_sem] max2_int min2_int max_two min_two max_three min_three max_four min_four   -- for this text's walks alone
set_option linter.unusedVariables false
set_option linter.unusedSimpArgs false

--HAND
/-! ### sort.Search, by hand: function 69 -/
set_option maxHeartbeats 4000000 in
set_option maxRecDepth 1000000 in
/-- sort.Search over a function value whose answer at i is 'r ≤ i': it returns r. -/
theorem sort_Search.calls (g : Nat) (cb : Array Value) (n r : Int) (w : World) (eg : ∀ args w, (callFunc g args).run Try.prog w = .ok (.enter g args) w)
    (hsz : n < 4611686018427387904) (h0 : 0 ≤ r) (h1 : r ≤ n)
    (hf : ∀ (W : World) (i : Int), Below w.heap.size w W → 0 ≤ i → i < n → Calls Try.prog g (#[.int .i64 i] ++ cb) W fun e W' => e = .returned (.bool (decide (r ≤ i))) ∧ Below W.heap.size W W') :
    Calls Try.prog 69 #[.int .i64 n, .func (.func g) #[] cb] w fun e w' => e = .returned (.int .i64 r) ∧ Below w.heap.size w w' := by
  have HF : Aside0 _ := ⟨hf⟩
  clear hf
  have HB0 := Aside0.mk (Below.refl w.heap.size w)
  go_enter Try.func69, Try.ntmps69
  go_wp2
  go_loopg [5, 6] n.toNat (fun kx s5 s6 wr => ∃ (lo hi : Int), s5 = .int .i64 lo ∧ s6 = .int .i64 hi ∧ 0 ≤ lo ∧ lo ≤ r ∧ r ≤ hi ∧ hi ≤ n ∧ (hi - lo).toNat ≤ kx ∧ Aside0 (Below w.heap.size w wr))
  case atStart => exact ⟨0, n, rfl, rfl, by omega, h0, h1, by omega, by omega, HB0⟩
  case round =>
    obtain ⟨lo, hi, rfl, rfl, hl0, hlr, hrh, hhn, hg, HB⟩ := hrel
    by_cases hlt : lo < hi
    · have hc := HF.out wr ((lo + hi) / 2) HB.out (by omega) (by omega)
      by_cases hp : r ≤ (lo + hi) / 2
      · rw [decide_eq_true hp] at hc
        go_wp2_with (fail)
        refine hc.mono ?_
        clear hc
        rintro e w' ⟨rfl, hb⟩
        go_wp2
        go_roundg ((lo + hi) / 2 - lo).toNat
        case measure => omega
        case rel => exact ⟨lo, (lo + hi) / 2, rfl, rfl, hl0, hlr, hp, by omega, by omega, ⟨below_step HB.out hb⟩⟩
      · rw [decide_eq_false hp] at hc
        go_wp2_with (fail)
        refine hc.mono ?_
        clear hc
        rintro e w' ⟨rfl, hb⟩
        go_wp2
        go_roundg (hi - ((lo + hi) / 2 + 1)).toNat
        case measure => omega
        case rel => exact ⟨(lo + hi) / 2 + 1, hi, rfl, rfl, by omega, by omega, hrh, hhn, by omega, ⟨below_step HB.out hb⟩⟩
    · obtain rfl : lo = r := by omega
      go_wp2
      go_ret
      exact ⟨rfl, HB.out⟩

end Go.Proofs.Ytdbpobadeibjaaa.GAll
