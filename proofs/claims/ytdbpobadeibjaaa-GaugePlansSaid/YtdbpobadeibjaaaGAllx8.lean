-- written for this claim by a program of this session (wip/gp), over the kit's own printer; Lean checks it
import Derived.Test.YtdbpobadeibjaaaGAllx0
import Derived.Test.YtdbpobadeibjaaaGAllx7
namespace Go.Proofs.Ytdbpobadeibjaaa.GAll
open Go.RowKit Go.Proofs.YtdbpobadeibjaaaW.PrintWords Go.Proofs.YtdbpobadeibjaaaW.PrintLast Go.Proofs.YtdbpobadeibjaaaW.PrintMore
attribute [local go_sem] max2_int min2_int max_two min_two max_three min_three max_four min_four   -- for this text's walks alone
set_option linter.unusedVariables false
set_option linter.unusedSimpArgs false

--HAND
/-! ### gauge.first, by hand: function 91 -/
set_option maxHeartbeats 4000000 in
set_option maxRecDepth 1000000 in
theorem gauge_first_1.calls (g : Nat) (cb : Array Value) (most r i : Int) (bh bm : Nat) (w : World)
    (hh : w.cell? ⟨bh, 0, none⟩ = some (.func (.func g) #[] cb)) (hm : w.cell? ⟨bm, 0, none⟩ = some (.int .i64 most))
    (b0 : 0 ≤ most) (b1 : most < 2305843009213693952) (i0 : 0 ≤ i) (i1 : i ≤ 2 * most)
    (eg : ∀ args w, (callFunc g args).run Try.prog w = .ok (.enter g args) w)
    (hf : Calls Try.prog g (#[.int .i64 (i - most)] ++ cb) w fun e W' => e = .returned (.bool (decide (r ≤ i - most))) ∧ Below w.heap.size w W') :
    Calls Try.prog 94 (#[.int .i64 i] ++ #[.pointer (some ⟨bh, 0, none⟩), .pointer (some ⟨bm, 0, none⟩)]) w fun e W' => e = .returned (.bool (decide (r + most ≤ i))) ∧ Below w.heap.size w W' := by
  have e1 : decide (r + most ≤ i) = decide (r ≤ i - most) := by rw [decide_eq_decide]; omega
  rw [e1]
  clear e1
  go_enter Try.func94, Try.ntmps94
  go_wp2_with (fail)
  refine hf.mono ?_
  clear hf
  rintro e w' ⟨rfl, hb⟩
  go_wp2
  go_ret
  exact ⟨rfl, hb⟩

set_option maxHeartbeats 4000000 in
theorem gauge_first.inner (g : Nat) (cb : Array Value) (most r : Int) (w : World) (bm bh : Nat) (eg : ∀ args w, (callFunc g args).run Try.prog w = .ok (.enter g args) w)
    (b0 : 0 ≤ most) (b1 : most < 1152921504606846976) (h0 : -most ≤ r) (h1 : r ≤ most + 1)
    (hf : ∀ (W : World) (x : Int), Below w.heap.size w W → -most ≤ x → x ≤ most → Calls Try.prog g (#[.int .i64 x] ++ cb) W fun e W' => e = .returned (.bool (decide (r ≤ x))) ∧ Below W.heap.size W W')
    (W0 : World) (B0 : Below w.heap.size w W0) (cm : W0.heap[bm]? = some (.cells #[.int .i64 most] 3 (0, 0))) (ch : W0.heap[bh]? = some (.cells #[.func (.func g) #[] cb] 30 (0, 0))) :
    Calls Try.prog 69 #[.int .i64 (2 * most + 1), .func (.func 94) #[] #[.pointer (some ⟨bh, 0, none⟩), .pointer (some ⟨bm, 0, none⟩)]] W0 fun e w' => e = .returned (.int .i64 (r + most)) ∧ Below W0.heap.size W0 w' :=
  sort_Search.calls 94 #[.pointer (some ⟨bh, 0, none⟩), .pointer (some ⟨bm, 0, none⟩)] (2 * most + 1) (r + most) W0 (enters_of Try.func94 (by kernel_rfl) rfl) (by omega) (by omega) (by omega)
    (fun W i hB hi0 hi1 => gauge_first_1.calls g cb most r i bh bm W ((blk_cell (blk_below ch hB) 0).trans rfl) ((blk_cell (blk_below cm hB) 0).trans rfl) b0 (by omega) hi0 (by omega) eg
      (hf W (i - most) (below_step B0 hB) (by omega) (by omega)))

set_option maxHeartbeats 4000000 in
set_option maxRecDepth 1000000 in
/-- gauge.first over a function value whose answer at x is 'r ≤ x': it returns r. -/
theorem gauge_first.calls (g : Nat) (cb : Array Value) (most r : Int) (w : World) (eg : ∀ args w, (callFunc g args).run Try.prog w = .ok (.enter g args) w)
    (b0 : 0 ≤ most) (b1 : most < 1152921504606846976) (h0 : -most ≤ r) (h1 : r ≤ most + 1)
    (hf : ∀ (W : World) (x : Int), Below w.heap.size w W → -most ≤ x → x ≤ most → Calls Try.prog g (#[.int .i64 x] ++ cb) W fun e W' => e = .returned (.bool (decide (r ≤ x))) ∧ Below W.heap.size W W') :
    Calls Try.prog 91 #[.int .i64 most, .func (.func g) #[] cb] w fun e w' => e = .returned (.int .i64 r) ∧ Below w.heap.size w w' := by
  have HS := Aside0.mk (gauge_first.inner g cb most r w w.heap.size (w.heap.size + 1) eg b0 b1 h0 h1 hf ((w.alloc (.cells #[.int .i64 most] 3)).alloc (.cells #[.func (.func g) #[] cb] 30)).drew
    (below_drew1 (below_alloc (below_alloc (Below.refl _ _) _) _)) (blk_drew (blk_alloc (blk_new w _) _)) (blk_drew (by have := blk_new (w.alloc (.cells #[.int .i64 most] 3)) (.cells #[.func (.func g) #[] cb] 30); rwa [World.size_alloc] at this)))
  clear hf
  go_enter Try.func91, Try.ntmps91
  have e1 : IntKind.i64.wrap (2 * most) = 2 * most := IntWalk.i64_in _ (by omega)
  have e2 : IntKind.i64.wrap (2 * most + 1) = 2 * most + 1 := IntWalk.i64_in _ (by omega)
  have e3 : IntKind.i64.wrap r = r := IntWalk.i64_in _ (by omega)
  go_wp2
  go_region_with (go_at_call 69; (with_reducible refine HS.out.mono ?_); rintro e w' ⟨rfl, hb⟩; have hc : w'.cell? ⟨w.heap.size, 0, none⟩ = some (.int .i64 most) := (blk_cell (blk_below (blk_drew (blk_alloc (blk_new w _) _)) hb) 0).trans rfl)
  all_goals (go_wp2; go_ret)
  all_goals refine ⟨by simp [Act.put, e3], ?_⟩
  all_goals exact below_step (below_drew1 (below_alloc (below_alloc (Below.refl _ _) _) _)) (by assumption)

end Go.Proofs.Ytdbpobadeibjaaa.GAll
