-- written for this claim by a program of this session (wip/gp), over the kit's own printer; Lean checks it
import Derived.Test.YtdbpobadeibjaaaGAllx0
import Derived.Test.YtdbpobadeibjaaaGAllx3
import Derived.Test.YtdbpobadeibjaaaGAllx5
import Derived.Test.YtdbpobadeibjaaaGAllx12
import Derived.Test.YtdbpobadeibjaaaGAllx13
import Derived.Test.YtdbpobadeibjaaaGAllx14
namespace Go.Proofs.Ytdbpobadeibjaaa.GAll
open Go.RowKit Go.Proofs.YtdbpobadeibjaaaW.PrintWords Go.Proofs.YtdbpobadeibjaaaW.PrintLast Go.Proofs.YtdbpobadeibjaaaW.PrintMore
attribute [local go_sem] max2_int min2_int max_two min_two max_three min_three max_four min_four   -- for this text's walks alone
set_option linter.unusedVariables false
set_option linter.unusedSimpArgs false

--HAND
/-! ### gauge.Chance, by hand: function 27 -/
def ChanceOk (lot bad sample most : Int) : Prop := 1 ≤ lot ∧ lot ≤ 50 ∧ 0 ≤ bad ∧ bad ≤ lot ∧ 0 ≤ sample ∧ sample ≤ lot ∧ 0 ≤ most ∧ most ≤ sample
instance (lot bad sample most : Int) : Decidable (ChanceOk lot bad sample most) := by unfold ChanceOk; infer_instance
def gauge_Chance.f (a0 : Int) (a1 : Int) (a2 : Int) (a3 : Int) : Option (Int × Int × Int) := some (if ChanceOk a0 a1 a2 a3 then (fewP a0 a1 a2 a3, binom a0.toNat a2.toNat, 0) else (0, 0, 2))

set_option maxHeartbeats 4000000 in
set_option maxRecDepth 1000000 in
theorem gauge_Chance.calls (a0 : Int) (a1 : Int) (a2 : Int) (a3 : Int) (r1 : Int) (r2 : Int) (r3 : Int) (w : World) (h : gauge_Chance.f a0 a1 a2 a3 = some (r1, r2, r3)) :
    Calls Try.prog 27 #[.int .i64 a0, .int .i64 a1, .int .i64 a2, .int .i64 a3] w fun e w' => e = .returned (.tuple #[.int .i64 r1, .int .i64 r2, .int .i64 r3]) ∧ Below w.heap.size w w' := by
  have hr := Option.some.inj h
  clear h
  by_cases c0 : a0 < 1 ∨ a0 > 50
  · rw [if_neg (by unfold ChanceOk; omega)] at hr
    simp only [Prod.mk.injEq] at hr
    obtain ⟨rfl, rfl, rfl⟩ := hr
    go_enter Try.func27, Try.ntmps27
    go_wp2_with (fail)
    (with_reducible refine (gauge_outside.calls _ _ _ true _ (outside_true c0)).mono ?_)
    rintro e w2 ⟨rfl, nd, rfl⟩
    go_wp2
    go_ret3
    exact ⟨rfl, pw_below_drewN (Below.refl _ _) _⟩
  by_cases c1 : a1 < 0 ∨ a1 > a0
  · rw [if_neg (by unfold ChanceOk; omega)] at hr
    simp only [Prod.mk.injEq] at hr
    obtain ⟨rfl, rfl, rfl⟩ := hr
    go_enter Try.func27, Try.ntmps27
    go_wp2_with (fail)
    (with_reducible refine (gauge_outside.calls _ _ _ false _ (outside_false (by omega))).mono ?_)
    rintro e w2 ⟨rfl, nd, rfl⟩
    go_wp2_with (fail)
    (with_reducible refine (gauge_outside.calls _ _ _ true _ (outside_true c1)).mono ?_)
    rintro e w2 ⟨rfl, nd2, rfl⟩
    go_wp2
    go_ret3
    exact ⟨rfl, pw_below_drewN (Below.refl _ _) _⟩
  by_cases c2 : a2 < 0 ∨ a2 > a0
  · rw [if_neg (by unfold ChanceOk; omega)] at hr
    simp only [Prod.mk.injEq] at hr
    obtain ⟨rfl, rfl, rfl⟩ := hr
    go_enter Try.func27, Try.ntmps27
    go_wp2_with (fail)
    (with_reducible refine (gauge_outside.calls _ _ _ false _ (outside_false (by omega))).mono ?_)
    rintro e w2 ⟨rfl, nd, rfl⟩
    go_wp2_with (fail)
    (with_reducible refine (gauge_outside.calls _ _ _ false _ (outside_false (by omega))).mono ?_)
    rintro e w2 ⟨rfl, nd2, rfl⟩
    go_wp2_with (fail)
    (with_reducible refine (gauge_outside.calls _ _ _ true _ (outside_true c2)).mono ?_)
    rintro e w2 ⟨rfl, nd3, rfl⟩
    go_wp2
    go_ret3
    exact ⟨rfl, pw_below_drewN (Below.refl _ _) _⟩
  by_cases c3 : a3 < 0 ∨ a3 > a2
  · rw [if_neg (by unfold ChanceOk; omega)] at hr
    simp only [Prod.mk.injEq] at hr
    obtain ⟨rfl, rfl, rfl⟩ := hr
    go_enter Try.func27, Try.ntmps27
    go_wp2_with (fail)
    (with_reducible refine (gauge_outside.calls _ _ _ false _ (outside_false (by omega))).mono ?_)
    rintro e w2 ⟨rfl, nd, rfl⟩
    go_wp2_with (fail)
    (with_reducible refine (gauge_outside.calls _ _ _ false _ (outside_false (by omega))).mono ?_)
    rintro e w2 ⟨rfl, nd2, rfl⟩
    go_wp2_with (fail)
    (with_reducible refine (gauge_outside.calls _ _ _ false _ (outside_false (by omega))).mono ?_)
    rintro e w2 ⟨rfl, nd3, rfl⟩
    go_wp2_with (fail)
    (with_reducible refine (gauge_outside.calls _ _ _ true _ (outside_true c3)).mono ?_)
    rintro e w2 ⟨rfl, nd4, rfl⟩
    go_wp2
    go_ret3
    exact ⟨rfl, pw_below_drewN (Below.refl _ _) _⟩
  · rw [if_pos (by unfold ChanceOk; omega)] at hr
    simp only [Prod.mk.injEq] at hr
    obtain ⟨h1, h2, rfl⟩ := hr
    have i0 := fun W => index_table a0 (by omega) (by omega) W
    have i1 := fun W => index_row a0.toNat a2 (by omega) (by omega) (by omega) W
    have HF := Aside0.mk (fun W => gauge_few.calls a0 a1 a2 a3 r1 W (by unfold gauge_few.f; rw [if_pos (by unfold FewOk; omega), h1]))
    rw [h2] at i1
    clear h1 h2
    go_enter Try.func27, Try.ntmps27
    go_wp2_with (fail)
    (with_reducible refine (gauge_outside.calls _ _ _ false _ (outside_false (by omega))).mono ?_)
    rintro e w2 ⟨rfl, nd, rfl⟩
    go_wp2_with (fail)
    (with_reducible refine (gauge_outside.calls _ _ _ false _ (outside_false (by omega))).mono ?_)
    rintro e w2 ⟨rfl, nd2, rfl⟩
    go_wp2_with (fail)
    (with_reducible refine (gauge_outside.calls _ _ _ false _ (outside_false (by omega))).mono ?_)
    rintro e w2 ⟨rfl, nd3, rfl⟩
    go_wp2_with (fail)
    (with_reducible refine (gauge_outside.calls _ _ _ false _ (outside_false (by omega))).mono ?_)
    rintro e w2 ⟨rfl, nd4, rfl⟩
    go_wp2
    go_region_with (first | (go_at_call 59; (with_reducible refine (HF.out _).mono ?_); rintro e w' ⟨rfl, hb⟩; have HB2 := Aside0.mk (below_step (below_drew1 (pw_below_drewN (Below.refl w.heap.size w) _)) hb); clear hb) | (go_at_call 60; (with_reducible refine (gauge_choose.calls _).mono ?_); rintro e w' ⟨rfl, hb⟩; have HB3 := Aside0.mk (below_step HB2.out hb); clear hb))
    all_goals
      clear i0 i1
      simp [Act.put]
      go_wp2
      go_ret3
      exact ⟨rfl, HB3.out⟩

end Go.Proofs.Ytdbpobadeibjaaa.GAll
