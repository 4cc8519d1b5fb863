-- written for this claim by a program of this session (wip/gp), over the kit's own printer; Lean checks it
import Derived.Test.YtdbpobadeibjaaaGAllx0
import Derived.Test.YtdbpobadeibjaaaGAllx12
namespace Go.Proofs.Ytdbpobadeibjaaa.GAll
open Go.RowKit Go.Proofs.YtdbpobadeibjaaaW.PrintWords Go.Proofs.YtdbpobadeibjaaaW.PrintLast Go.Proofs.YtdbpobadeibjaaaW.PrintMore
attribute [local go_sem] max2_int min2_int max_two min_two max_three min_three max_four min_four   -- for this text's walks alone
set_option linter.unusedVariables false
set_option linter.unusedSimpArgs false

--HAND
/-! ### gauge.choose, by hand: function 60 -/
theorem sizeTable : (Try.prog.info? 85).map (·.size) = some tableA.size := by
  obtain ⟨i, hi, hz⟩ := Option.map_eq_some_iff.1 infoTable
  simp only [Prod.mk.injEq] at hz
  rw [hi, show tableA.size = 2601 from triA_size _ _]
  simp [hz.2]

set_option maxHeartbeats 4000000 in
set_option maxRecDepth 1000000 in
theorem gauge_choose.calls (w : World) : Calls Try.prog 60 #[] w fun e w' => e = .returned (.agg tableA) ∧ Below w.heap.size w w' := by
  have HB0 := Aside0.mk (Below.refl w.heap.size w)
  have hu85 := Try.underlying85
  have HZ := Aside0.mk sizeTable
  have H1 : Aside0 (tableA.all (·.oneCell') = true) := ⟨tableA_all⟩
  go_enter Try.func60, Try.ntmps60
  go_wp2_with (refine box_event ?hg (N := 0) ?hd (cs := triA 0 0) (t := 85) ?hr ?_; (case hd => rfl); (case hg => rfl); (case hr => exact alloc_table _ rfl rfl rfl); intro g hg w1 hbox hb)
  subst hg
  have HX := Aside0.mk hbox
  have HB := Aside0.mk hb
  clear hbox hb
  go_wp2_with (fail)
  (with_reducible refine (gauge_triangle.calls _).mono ?_)
  rintro e w2 ⟨rfl, hb2⟩
  have HX2 := Aside0.mk (blk_below HX.out hb2)
  have HB2 := Aside0.mk (below_step HB.out hb2)
  clear hb2
  go_wp2_with (refine wpList_store_row rfl 85 _ _ rfl w.heap.size tableA rfl rfl 85 (triA 0 0) HX2.out HZ.out (by rw [triA_size]; exact (triA_size _ _).symm) H1.out ?_)
  exact bodyPost_ret (results_cell_row rfl _ _ w.heap.size 85 tableA (0, 0) _ rfl (setRow_heap _ _ _ _ _ _ HX2.out) Try.underlying85 rfl HZ.out) rfl ⟨rfl, below_row HB2.out (Nat.le_refl _) _⟩

end Go.Proofs.Ytdbpobadeibjaaa.GAll
