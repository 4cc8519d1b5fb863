-- written for this claim by a program of this session (wip/gp), over the kit's own printer; Lean checks it
import Derived.Test.YtdbpobadeibjaabGEx0
namespace Go.Proofs.Ytdbpobadeibjaab.GE
open Go.RowKit Go.Proofs.YtdbpobadeibjaabW.PrintWords Go.Proofs.YtdbpobadeibjaabW.PrintLast Go.Proofs.YtdbpobadeibjaabW.PrintMore
attribute [local go_sem] max2_int min2_int max_two min_two max_three min_three max_four min_four
set_option linter.unusedVariables false
set_option linter.unusedSimpArgs false

/-! ### K_Within: function 17 -/
def K_Within.f (a0_0 : Int) (a0_1 : Int) (a1_0 : Int) (a1_1 : Int) : Option (Bool) := if a0_0 ≥ a1_0 then (some (decide (a0_1 ≤ a1_1))) else (some false)
set_option maxHeartbeats 8000000 in
set_option maxRecDepth 100000 in
theorem K_Within.calls (a0_0 : Int) (a0_1 : Int) (a1_0 : Int) (a1_1 : Int) (r : Bool) (w : World) (h : K_Within.f a0_0 a0_1 a1_0 a1_1 = some r) :
  Calls Try.prog 17 #[.agg #[.int .i64 a0_0,.int .i64 a0_1],.agg #[.int .i64 a1_0,.int .i64 a1_1]] w fun e w' => e = .returned (.bool r) ∧ Below w.heap.size w w' := by
 have hu34 := Try.underlying34
 have HB := aM_ (Below.refl w.heap.size w)
 have H : (if a0_0 ≥ a1_0 then (some (decide (a0_1 ≤ a1_1))) else (some false)) = some r := h
 clear h
 by_cases c3 : a0_0 ≥ a1_0
 ·rw [if_pos c3] at H
  have c3b0 : decide (a1_0 ≤ a0_0) = true := decide_eq_true c3
  clear c3
  obtain rfl := Option.some.inj H
  go_enter Try.func17,Try.ntmps17
  go_wp2_with (first | ((with_reducible refine gate_dst (N := 2) rfl ?_);refine box_event ?hg (N := 2) ?hd (cs := #[.int .i64 a0_0,.int .i64 a0_1]) (t := 34) ?hr ?_;(case hd => rfl);(case hg => rfl);(case hr => first | (go_simp;done) | (go_simp;rfl));intro gb197 hg w4 hbox hb;have n0_ := aM_ (bT_ (by repeat (first | (with_reducible first | exact HB.out | apply bA_ | apply bN_ | apply bD_) | exact HB.out)) hb);have n1_ := aM_ (hbox);have n2_ := aM_ ((by rw [hg];exact (below_size (by repeat (first | (with_reducible first | exact HB.out | apply bA_ | apply bN_ | apply bD_) | exact HB.out))) : w.heap.size ≤ gb197));have n3_ := aM_ ((by rw [hg];exact (below_size (by repeat (first | (with_reducible first | exact HB.out | apply bA_ | apply bN_ | apply bD_) | exact HB.out))) : w.heap.size ≤ gb197));clear HB;have HB := n0_;have BK197 := n1_;have GW197 := n2_;have GE197 := n3_;clear n0_ n1_ n2_ n3_;clear hb hbox hg) | ((with_reducible refine gate_dst (N := 3) rfl ?_);refine box_event ?hg (N := 3) ?hd (cs := #[.int .i64 a1_0,.int .i64 a1_1]) (t := 34) ?hr ?_;(case hd => rfl);(case hg => rfl);(case hr => first | (go_simp;done) | (go_simp;rfl));intro gb198 hg w5 hbox hb;have n0_ := aM_ (kB_ (g := gb197) (o := .cells #[.int .i64 a0_0,.int .i64 a0_1] 34 (0,0)) (by (with_reducible repeat (first | refine kN_ ?_ _ | refine kD_ ?_ | refine kA_ ?_ _));exact BK197.out) hb);have n1_ := aM_ (bT_ (by repeat (first | (with_reducible first | exact HB.out | apply bA_ | apply bN_ | apply bD_ | refine bS_ ?_ GE197.out) | exact HB.out)) hb);have n2_ := aM_ (hbox);have n3_ := aM_ ((by rw [hg];exact (below_size (by repeat (first | (with_reducible first | exact HB.out | apply bA_ | apply bN_ | apply bD_ | refine bS_ ?_ GE197.out) | exact HB.out))) : w.heap.size ≤ gb198));have n4_ := aM_ ((by rw [hg];exact (below_size (by repeat (first | (with_reducible first | exact HB.out | apply bA_ | apply bN_ | apply bD_ | refine bS_ ?_ GE197.out) | exact HB.out))) : w.heap.size ≤ gb198));have n5_ := aM_ ((by rw [hg];exact Nat.ne_of_lt (blk_lt (g := gb197) (o := .cells #[.int .i64 a0_0,.int .i64 a0_1] 34 (0,0)) (by (with_reducible repeat (first | refine kN_ ?_ _ | refine kD_ ?_ | refine kA_ ?_ _));exact BK197.out)) : gb197 ≠ gb198));have n6_ := aM_ ((by rw [hg];exact Nat.ne_of_gt (blk_lt (g := gb197) (o := .cells #[.int .i64 a0_0,.int .i64 a0_1] 34 (0,0)) (by (with_reducible repeat (first | refine kN_ ?_ _ | refine kD_ ?_ | refine kA_ ?_ _));exact BK197.out)) : gb198 ≠ gb197));clear BK197;clear HB;have BK197 := n0_;have HB := n1_;have BK198 := n2_;have GW198 := n3_;have GE198 := n4_;have NB197_198 := n5_;have NB198_197 := n6_;clear n0_ n1_ n2_ n3_ n4_ n5_ n6_;clear hb hbox hg;have hnb6 := NB197_198.out;have hnc6 := NB198_197.out;have hcz7_0 : w5.cell? ⟨gb197,0,none⟩ = some (.int .i64 a0_0) := (blk_cell BK197.out 0).trans rfl;have hcz7_1 : w5.cell? ⟨gb197,1,none⟩ = some (.int .i64 a0_1) := (blk_cell BK197.out 1).trans rfl;have hfz7_0 := blk_frozen BK197.out 0;have hfz7_1 := blk_frozen BK197.out 1;have hcz8_0 : w5.cell? ⟨gb198,0,none⟩ = some (.int .i64 a1_0) := (blk_cell BK198.out 0).trans rfl;have hcz8_1 : w5.cell? ⟨gb198,1,none⟩ = some (.int .i64 a1_1) := (blk_cell BK198.out 1).trans rfl;have hfz8_0 := blk_frozen BK198.out 0;have hfz8_1 := blk_frozen BK198.out 1))
  go_ret
  exact ⟨by first | rfl | (simp [*] <;> rfl),by repeat (first | (with_reducible first | exact HB.out | apply bA_ | apply bN_ | apply bD_ | refine bS_ ?_ GE197.out | refine bS_ ?_ GE198.out) | exact HB.out)⟩
 ·rw [if_neg c3] at H
  have c3b0 : decide (a1_0 ≤ a0_0) = false := decide_eq_false c3
  clear c3
  obtain rfl := Option.some.inj H
  go_enter Try.func17,Try.ntmps17
  go_wp2_with (first | ((with_reducible refine gate_dst (N := 2) rfl ?_);refine box_event ?hg (N := 2) ?hd (cs := #[.int .i64 a0_0,.int .i64 a0_1]) (t := 34) ?hr ?_;(case hd => rfl);(case hg => rfl);(case hr => first | (go_simp;done) | (go_simp;rfl));intro gb197 hg w9 hbox hb;have n0_ := aM_ (bT_ (by repeat (first | (with_reducible first | exact HB.out | apply bA_ | apply bN_ | apply bD_) | exact HB.out)) hb);have n1_ := aM_ (hbox);have n2_ := aM_ ((by rw [hg];exact (below_size (by repeat (first | (with_reducible first | exact HB.out | apply bA_ | apply bN_ | apply bD_) | exact HB.out))) : w.heap.size ≤ gb197));have n3_ := aM_ ((by rw [hg];exact (below_size (by repeat (first | (with_reducible first | exact HB.out | apply bA_ | apply bN_ | apply bD_) | exact HB.out))) : w.heap.size ≤ gb197));clear HB;have HB := n0_;have BK197 := n1_;have GW197 := n2_;have GE197 := n3_;clear n0_ n1_ n2_ n3_;clear hb hbox hg) | ((with_reducible refine gate_dst (N := 3) rfl ?_);refine box_event ?hg (N := 3) ?hd (cs := #[.int .i64 a1_0,.int .i64 a1_1]) (t := 34) ?hr ?_;(case hd => rfl);(case hg => rfl);(case hr => first | (go_simp;done) | (go_simp;rfl));intro gb198 hg w10 hbox hb;have n0_ := aM_ (kB_ (g := gb197) (o := .cells #[.int .i64 a0_0,.int .i64 a0_1] 34 (0,0)) (by (with_reducible repeat (first | refine kN_ ?_ _ | refine kD_ ?_ | refine kA_ ?_ _));exact BK197.out) hb);have n1_ := aM_ (bT_ (by repeat (first | (with_reducible first | exact HB.out | apply bA_ | apply bN_ | apply bD_ | refine bS_ ?_ GE197.out) | exact HB.out)) hb);have n2_ := aM_ (hbox);have n3_ := aM_ ((by rw [hg];exact (below_size (by repeat (first | (with_reducible first | exact HB.out | apply bA_ | apply bN_ | apply bD_ | refine bS_ ?_ GE197.out) | exact HB.out))) : w.heap.size ≤ gb198));have n4_ := aM_ ((by rw [hg];exact (below_size (by repeat (first | (with_reducible first | exact HB.out | apply bA_ | apply bN_ | apply bD_ | refine bS_ ?_ GE197.out) | exact HB.out))) : w.heap.size ≤ gb198));have n5_ := aM_ ((by rw [hg];exact Nat.ne_of_lt (blk_lt (g := gb197) (o := .cells #[.int .i64 a0_0,.int .i64 a0_1] 34 (0,0)) (by (with_reducible repeat (first | refine kN_ ?_ _ | refine kD_ ?_ | refine kA_ ?_ _));exact BK197.out)) : gb197 ≠ gb198));have n6_ := aM_ ((by rw [hg];exact Nat.ne_of_gt (blk_lt (g := gb197) (o := .cells #[.int .i64 a0_0,.int .i64 a0_1] 34 (0,0)) (by (with_reducible repeat (first | refine kN_ ?_ _ | refine kD_ ?_ | refine kA_ ?_ _));exact BK197.out)) : gb198 ≠ gb197));clear BK197;clear HB;have BK197 := n0_;have HB := n1_;have BK198 := n2_;have GW198 := n3_;have GE198 := n4_;have NB197_198 := n5_;have NB198_197 := n6_;clear n0_ n1_ n2_ n3_ n4_ n5_ n6_;clear hb hbox hg;have hnb11 := NB197_198.out;have hnc11 := NB198_197.out;have hcz12_0 : w10.cell? ⟨gb197,0,none⟩ = some (.int .i64 a0_0) := (blk_cell BK197.out 0).trans rfl;have hcz12_1 : w10.cell? ⟨gb197,1,none⟩ = some (.int .i64 a0_1) := (blk_cell BK197.out 1).trans rfl;have hfz12_0 := blk_frozen BK197.out 0;have hfz12_1 := blk_frozen BK197.out 1;have hcz13_0 : w10.cell? ⟨gb198,0,none⟩ = some (.int .i64 a1_0) := (blk_cell BK198.out 0).trans rfl;have hcz13_1 : w10.cell? ⟨gb198,1,none⟩ = some (.int .i64 a1_1) := (blk_cell BK198.out 1).trans rfl;have hfz13_0 := blk_frozen BK198.out 0;have hfz13_1 := blk_frozen BK198.out 1))
  go_ret
  exact ⟨by first | rfl | (simp [*] <;> rfl),by repeat (first | (with_reducible first | exact HB.out | apply bA_ | apply bN_ | apply bD_ | refine bS_ ?_ GE197.out | refine bS_ ?_ GE198.out) | exact HB.out)⟩

/-! ### gauge_Verdict: function 20 -/
mutual
def gauge_Verdict.j0 : Nat → Bool → Int → Int → Int → Int → Option (Int)
 | 0,_,_,_,_,_ => none
 | k + 1,x5,x200000,x200001,x201000,x201001 => if x5 = true then (some 0) else (if x200000 ≥ x201000 then (gauge_Verdict.j1 k (decide (x200001 ≤ x201001)) x200000 x200001 x201000 x201001) else (gauge_Verdict.j1 k false x200000 x200001 x201000 x201001))
def gauge_Verdict.j1 : Nat → Bool → Int → Int → Int → Int → Option (Int)
 | 0,_,_,_,_,_ => none
 | k + 1,x18,x200000,x200001,x201000,x201001 => if x18 = true then (some 1) else (if x200001 < x201000 then (some 2) else (if x200000 > x201001 then (some 2) else (some 3)))
end
def gauge_Verdict.f (k : Nat) (a0_0 : Int) (a0_1 : Int) (a1_0 : Int) (a1_1 : Int) : Option (Int) := if a0_0 > a0_1 then (gauge_Verdict.j0 k true a0_0 a0_1 a1_0 a1_1) else (gauge_Verdict.j0 k (decide (a1_0 > a1_1)) a0_0 a0_1 a1_0 a1_1)
theorem gauge_Verdict.mono_l : ∀ k,(∀ y0 y1 y2 y3 y4,LeO (gauge_Verdict.j0 k y0 y1 y2 y3 y4) (gauge_Verdict.j0 (k + 1) y0 y1 y2 y3 y4)) ∧ (∀ y0 y1 y2 y3 y4,LeO (gauge_Verdict.j1 k y0 y1 y2 y3 y4) (gauge_Verdict.j1 (k + 1) y0 y1 y2 y3 y4))
 | 0 => ⟨fun _ _ _ _ _ r h => by simp [gauge_Verdict.j0] at h,fun _ _ _ _ _ r h => by simp [gauge_Verdict.j1] at h⟩
 | k + 1 => by
  obtain ⟨ih0,ih1⟩ := gauge_Verdict.mono_l k
  refine ⟨?_,?_⟩
  ·intro y0 y1 y2 y3 y4
   unfold gauge_Verdict.j0
   repeat' first
   | (with_reducible exact ih0 _ _ _ _ _)
   | (with_reducible exact ih1 _ _ _ _ _)
   | (with_reducible exact LeO.refl _)
   | (with_reducible exact LeO.none _)
   | (with_reducible refine LeO.ite ?_ ?_)
   | (with_reducible refine LeO.bind ?_ (fun _ => ?_))
   | exact ih0 _ _ _ _ _
   | exact ih1 _ _ _ _ _
   | exact LeO.none _
   | refine LeO.ite ?_ ?_
   | refine LeO.bind ?_ (fun _ => ?_)
  ·intro y0 y1 y2 y3 y4
   unfold gauge_Verdict.j1
   repeat' first
   | (with_reducible exact ih0 _ _ _ _ _)
   | (with_reducible exact ih1 _ _ _ _ _)
   | (with_reducible exact LeO.refl _)
   | (with_reducible exact LeO.none _)
   | (with_reducible refine LeO.ite ?_ ?_)
   | (with_reducible refine LeO.bind ?_ (fun _ => ?_))
   | exact ih0 _ _ _ _ _
   | exact ih1 _ _ _ _ _
   | exact LeO.none _
   | refine LeO.ite ?_ ?_
   | refine LeO.bind ?_ (fun _ => ?_)
theorem gauge_Verdict.mono : ∀ a0 a1 a2 a3 k,LeO (gauge_Verdict.f k a0 a1 a2 a3) (gauge_Verdict.f (k + 1) a0 a1 a2 a3) := by
 intro a0 a1 a2 a3 k
 obtain ⟨ih0,ih1⟩ := gauge_Verdict.mono_l k
 unfold gauge_Verdict.f
 repeat' first
   | (with_reducible exact ih0 _ _ _ _ _)
   | (with_reducible exact ih1 _ _ _ _ _)
   | (with_reducible exact LeO.refl _)
   | (with_reducible exact LeO.none _)
   | (with_reducible refine LeO.ite ?_ ?_)
   | (with_reducible refine LeO.bind ?_ (fun _ => ?_))
   | exact ih0 _ _ _ _ _
   | exact ih1 _ _ _ _ _
   | exact LeO.none _
   | refine LeO.ite ?_ ?_
   | refine LeO.bind ?_ (fun _ => ?_)
set_option maxHeartbeats 8000000 in
set_option maxRecDepth 100000 in
theorem gauge_Verdict.calls (k : Nat) (a0_0 : Int) (a0_1 : Int) (a1_0 : Int) (a1_1 : Int) (r : Int) (w : World) (h : gauge_Verdict.f k a0_0 a0_1 a1_0 a1_1 = some r) :
  Calls Try.prog 20 #[.agg #[.int .i64 a0_0,.int .i64 a0_1],.agg #[.int .i64 a1_0,.int .i64 a1_1]] w fun e w' => e = .returned (.int .i64 r) ∧ Below w.heap.size w w' := by
 have hu34 := Try.underlying34
 have HB := aM_ (Below.refl w.heap.size w)
 have H : (if a0_0 > a0_1 then (gauge_Verdict.j0 k true a0_0 a0_1 a1_0 a1_1) else (gauge_Verdict.j0 k (decide (a1_0 > a1_1)) a0_0 a0_1 a1_0 a1_1)) = some r := h
 clear h
 have HC3 := aM_ H
 clear H
 go_enter Try.func20,Try.ntmps20
 go_upto_region 1 with (first | ((with_reducible refine gate_dst (N := 2) rfl ?_);refine box_event ?hg (N := 2) ?hd (cs := #[.int .i64 a0_0,.int .i64 a0_1]) (t := 34) ?hr ?_;(case hd => rfl);(case hg => rfl);(case hr => first | (go_simp;done) | (go_simp;rfl));intro gb199 hg w4 hbox hb;have n0_ := aM_ (bT_ (by repeat (first | (with_reducible first | exact HB.out | apply bA_ | apply bN_ | apply bD_) | exact HB.out)) hb);have n1_ := aM_ (hbox);have n2_ := aM_ ((by rw [hg];exact (below_size (by repeat (first | (with_reducible first | exact HB.out | apply bA_ | apply bN_ | apply bD_) | exact HB.out))) : w.heap.size ≤ gb199));have n3_ := aM_ ((by rw [hg];exact (below_size (by repeat (first | (with_reducible first | exact HB.out | apply bA_ | apply bN_ | apply bD_) | exact HB.out))) : w.heap.size ≤ gb199));clear HB;have HB := n0_;have BK199 := n1_;have GW199 := n2_;have GE199 := n3_;clear n0_ n1_ n2_ n3_;clear hb hbox hg) | ((with_reducible refine gate_dst (N := 3) rfl ?_);refine box_event ?hg (N := 3) ?hd (cs := #[.int .i64 a1_0,.int .i64 a1_1]) (t := 34) ?hr ?_;(case hd => rfl);(case hg => rfl);(case hr => first | (go_simp;done) | (go_simp;rfl));intro gb200 hg w5 hbox hb;have n0_ := aM_ (kB_ (g := gb199) (o := .cells #[.int .i64 a0_0,.int .i64 a0_1] 34 (0,0)) (by (with_reducible repeat (first | refine kN_ ?_ _ | refine kD_ ?_ | refine kA_ ?_ _));exact BK199.out) hb);have n1_ := aM_ (bT_ (by repeat (first | (with_reducible first | exact HB.out | apply bA_ | apply bN_ | apply bD_ | refine bS_ ?_ GE199.out) | exact HB.out)) hb);have n2_ := aM_ (hbox);have n3_ := aM_ ((by rw [hg];exact (below_size (by repeat (first | (with_reducible first | exact HB.out | apply bA_ | apply bN_ | apply bD_ | refine bS_ ?_ GE199.out) | exact HB.out))) : w.heap.size ≤ gb200));have n4_ := aM_ ((by rw [hg];exact (below_size (by repeat (first | (with_reducible first | exact HB.out | apply bA_ | apply bN_ | apply bD_ | refine bS_ ?_ GE199.out) | exact HB.out))) : w.heap.size ≤ gb200));have n5_ := aM_ ((by rw [hg];exact Nat.ne_of_lt (blk_lt (g := gb199) (o := .cells #[.int .i64 a0_0,.int .i64 a0_1] 34 (0,0)) (by (with_reducible repeat (first | refine kN_ ?_ _ | refine kD_ ?_ | refine kA_ ?_ _));exact BK199.out)) : gb199 ≠ gb200));have n6_ := aM_ ((by rw [hg];exact Nat.ne_of_gt (blk_lt (g := gb199) (o := .cells #[.int .i64 a0_0,.int .i64 a0_1] 34 (0,0)) (by (with_reducible repeat (first | refine kN_ ?_ _ | refine kD_ ?_ | refine kA_ ?_ _));exact BK199.out)) : gb200 ≠ gb199));clear BK199;clear HB;have BK199 := n0_;have HB := n1_;have BK200 := n2_;have GW200 := n3_;have GE200 := n4_;have NB199_200 := n5_;have NB200_199 := n6_;clear n0_ n1_ n2_ n3_ n4_ n5_ n6_;clear hb hbox hg))
 (try simp only [Act.put,sB_,sZ_,sS_])
 go_cut [5] (fun v5 wc => ∃ (kq : Nat) (x5_2 : Bool),v5 = .bool x5_2 ∧ Aside0 (gauge_Verdict.j0 kq x5_2 a0_0 a0_1 a1_0 a1_1 = some r) ∧ Aside0 (kq ≤ k) ∧ Aside0 (wc.heap[gb199]? = some (.cells #[.int .i64 a0_0,.int .i64 a0_1] 34 (0,0))) ∧ Aside0 (wc.heap[gb200]? = some (.cells #[.int .i64 a1_0,.int .i64 a1_1] 34 (0,0))) ∧ Aside0 (Below w.heap.size w wc))
 case first =>
  have H := HC3.out
  clear HC3
  by_cases c6 : a0_0 > a0_1
  ·rw [if_pos c6] at H
   have c6b0 : decide (a0_1 < a0_0) = true := decide_eq_true c6
   clear c6
   (first | rw [c6b0] | (simp only [i64_w,i32_w];rw [c6b0]) | skip)
   have H' := aM_ H
   clear H
   have hnb7 := NB199_200.out
   have hnc7 := NB200_199.out
   have hcz8_0 : w5.cell? ⟨gb199,0,none⟩ = some (.int .i64 a0_0) := (blk_cell BK199.out 0).trans rfl
   have hcz8_1 : w5.cell? ⟨gb199,1,none⟩ = some (.int .i64 a0_1) := (blk_cell BK199.out 1).trans rfl
   have hfz8_0 := blk_frozen BK199.out 0
   have hfz8_1 := blk_frozen BK199.out 1
   go_wp2
   go_meet
   case rel => exact ⟨_,(true),(by first | rfl | (simp;done) | (simp [*];done)),H',⟨by first | omega | exact Nat.le_refl _⟩,⟨by (with_reducible repeat (first | refine kN_ ?_ _ | refine kD_ ?_ | refine kA_ ?_ _));exact BK199.out⟩,⟨by (with_reducible repeat (first | refine kN_ ?_ _ | refine kD_ ?_ | refine kA_ ?_ _));exact BK200.out⟩,⟨by repeat (first | (with_reducible first | exact HB.out | apply bA_ | apply bN_ | apply bD_ | refine bS_ ?_ GE199.out | refine bS_ ?_ GE200.out) | exact HB.out)⟩⟩
  ·rw [if_neg c6] at H
   have c6b0 : decide (a0_1 < a0_0) = false := decide_eq_false c6
   clear c6
   (first | rw [c6b0] | (simp only [i64_w,i32_w];rw [c6b0]) | skip)
   have H' := aM_ H
   clear H
   have hnb9 := NB199_200.out
   have hnc9 := NB200_199.out
   have hcz10_0 : w5.cell? ⟨gb199,0,none⟩ = some (.int .i64 a0_0) := (blk_cell BK199.out 0).trans rfl
   have hcz10_1 : w5.cell? ⟨gb199,1,none⟩ = some (.int .i64 a0_1) := (blk_cell BK199.out 1).trans rfl
   have hfz10_0 := blk_frozen BK199.out 0
   have hfz10_1 := blk_frozen BK199.out 1
   have hcz11_0 : w5.cell? ⟨gb200,0,none⟩ = some (.int .i64 a1_0) := (blk_cell BK200.out 0).trans rfl
   have hcz11_1 : w5.cell? ⟨gb200,1,none⟩ = some (.int .i64 a1_1) := (blk_cell BK200.out 1).trans rfl
   have hfz11_0 := blk_frozen BK200.out 0
   have hfz11_1 := blk_frozen BK200.out 1
   go_wp2
   go_meet
   case rel => exact ⟨_,(decide (a1_0 > a1_1)),(by first | rfl | (simp;done) | (simp [*];done)),H',⟨by first | omega | exact Nat.le_refl _⟩,⟨by (with_reducible repeat (first | refine kN_ ?_ _ | refine kD_ ?_ | refine kA_ ?_ _));exact BK199.out⟩,⟨by (with_reducible repeat (first | refine kN_ ?_ _ | refine kD_ ?_ | refine kA_ ?_ _));exact BK200.out⟩,⟨by repeat (first | (with_reducible first | exact HB.out | apply bA_ | apply bN_ | apply bD_ | refine bS_ ?_ GE199.out | refine bS_ ?_ GE200.out) | exact HB.out)⟩⟩
 case rest =>
  clear HC3
  try clear c2
  try clear p2
  try clear c6
  try clear c6b0
  try clear c7
  try clear c9
  try clear hcz10_0
  try clear hcz10_1
  try clear hcz11_0
  try clear hcz11_1
  try clear hcz8_0
  try clear hcz8_1
  try clear hfz10_0
  try clear hfz10_1
  try clear hfz11_0
  try clear hfz11_1
  try clear hfz8_0
  try clear hfz8_1
  obtain ⟨kq,x5_2,rfl,HA,HJ2,BK199,BK200,HB⟩ := hcut
  cases kq with
  | zero => exact absurd HA.out (by simp [gauge_Verdict.j0])
  | succ kj2 =>
   have H := HA.out
   clear HA
   simp only [gauge_Verdict.j0] at H
   by_cases c12 : x5_2 = true
   ·subst c12
    have H1 : (some 0) = some r := by rw [if_pos rfl] at H;exact H
    clear H
    have H := H1
    clear H1
    obtain rfl := Option.some.inj H
    go_wp2
    go_ret
    exact ⟨by first | rfl | (simp [*] <;> rfl),by repeat (first | (with_reducible first | exact HB.out | apply bA_ | apply bN_ | apply bD_ | refine bS_ ?_ GE199.out | refine bS_ ?_ GE200.out) | exact HB.out)⟩
   ·replace c12 := Bool.eq_false_iff.mpr c12
    subst c12
    have H1 : (if a0_0 ≥ a1_0 then (gauge_Verdict.j1 kj2 (decide (a0_1 ≤ a1_1)) a0_0 a0_1 a1_0 a1_1) else (gauge_Verdict.j1 kj2 false a0_0 a0_1 a1_0 a1_1)) = some r := by rw [if_neg (show ¬ (false = true) by decide)] at H;exact H
    clear H
    have H := H1
    clear H1
    have HC13 := aM_ H
    clear H
    go_upto_region 3 with (fail)
    go_cut [18] (fun v18 wc => ∃ (kq : Nat) (x18_12 : Bool),v18 = .bool x18_12 ∧ Aside0 (gauge_Verdict.j1 kq x18_12 a0_0 a0_1 a1_0 a1_1 = some r) ∧ Aside0 (kq ≤ kj2) ∧ Aside0 (wc.heap[gb199]? = some (.cells #[.int .i64 a0_0,.int .i64 a0_1] 34 (0,0))) ∧ Aside0 (wc.heap[gb200]? = some (.cells #[.int .i64 a1_0,.int .i64 a1_1] 34 (0,0))) ∧ Aside0 (Below w.heap.size w wc))
    case first =>
     have H := HC13.out
     clear HC13
     by_cases c14 : a0_0 ≥ a1_0
     ·rw [if_pos c14] at H
      have c14b0 : decide (a1_0 ≤ a0_0) = true := decide_eq_true c14
      clear c14
      (first | rw [c14b0] | (simp only [i64_w,i32_w];rw [c14b0]) | skip)
      have H' := aM_ H
      clear H
      have hnb15 := NB199_200.out
      have hnc15 := NB200_199.out
      have hcz16_0 : wc.cell? ⟨gb199,0,none⟩ = some (.int .i64 a0_0) := (blk_cell BK199.out 0).trans rfl
      have hcz16_1 : wc.cell? ⟨gb199,1,none⟩ = some (.int .i64 a0_1) := (blk_cell BK199.out 1).trans rfl
      have hfz16_0 := blk_frozen BK199.out 0
      have hfz16_1 := blk_frozen BK199.out 1
      have hcz17_0 : wc.cell? ⟨gb200,0,none⟩ = some (.int .i64 a1_0) := (blk_cell BK200.out 0).trans rfl
      have hcz17_1 : wc.cell? ⟨gb200,1,none⟩ = some (.int .i64 a1_1) := (blk_cell BK200.out 1).trans rfl
      have hfz17_0 := blk_frozen BK200.out 0
      have hfz17_1 := blk_frozen BK200.out 1
      go_wp2
      go_meet
      case rel => exact ⟨_,(decide (a0_1 ≤ a1_1)),(by first | rfl | (simp;done) | (simp [*];done)),H',⟨by have := HJ2.out;first | omega | exact Nat.le_refl _⟩,⟨by (with_reducible repeat (first | refine kN_ ?_ _ | refine kD_ ?_ | refine kA_ ?_ _));exact BK199.out⟩,⟨by (with_reducible repeat (first | refine kN_ ?_ _ | refine kD_ ?_ | refine kA_ ?_ _));exact BK200.out⟩,⟨by repeat (first | (with_reducible first | exact HB.out | apply bA_ | apply bN_ | apply bD_ | refine bS_ ?_ GE199.out | refine bS_ ?_ GE200.out) | exact HB.out)⟩⟩
     ·rw [if_neg c14] at H
      have c14b0 : decide (a1_0 ≤ a0_0) = false := decide_eq_false c14
      clear c14
      (first | rw [c14b0] | (simp only [i64_w,i32_w];rw [c14b0]) | skip)
      have H' := aM_ H
      clear H
      have hnb18 := NB199_200.out
      have hnc18 := NB200_199.out
      have hcz19_0 : wc.cell? ⟨gb199,0,none⟩ = some (.int .i64 a0_0) := (blk_cell BK199.out 0).trans rfl
      have hcz19_1 : wc.cell? ⟨gb199,1,none⟩ = some (.int .i64 a0_1) := (blk_cell BK199.out 1).trans rfl
      have hfz19_0 := blk_frozen BK199.out 0
      have hfz19_1 := blk_frozen BK199.out 1
      have hcz20_0 : wc.cell? ⟨gb200,0,none⟩ = some (.int .i64 a1_0) := (blk_cell BK200.out 0).trans rfl
      have hcz20_1 : wc.cell? ⟨gb200,1,none⟩ = some (.int .i64 a1_1) := (blk_cell BK200.out 1).trans rfl
      have hfz20_0 := blk_frozen BK200.out 0
      have hfz20_1 := blk_frozen BK200.out 1
      go_wp2
      go_meet
      case rel => exact ⟨_,(false),(by first | rfl | (simp;done) | (simp [*];done)),H',⟨by have := HJ2.out;first | omega | exact Nat.le_refl _⟩,⟨by (with_reducible repeat (first | refine kN_ ?_ _ | refine kD_ ?_ | refine kA_ ?_ _));exact BK199.out⟩,⟨by (with_reducible repeat (first | refine kN_ ?_ _ | refine kD_ ?_ | refine kA_ ?_ _));exact BK200.out⟩,⟨by repeat (first | (with_reducible first | exact HB.out | apply bA_ | apply bN_ | apply bD_ | refine bS_ ?_ GE199.out | refine bS_ ?_ GE200.out) | exact HB.out)⟩⟩
    case rest =>
     clear HC13
     try clear c1
     try clear c2
     try clear p2
     try clear c6
     try clear c6b0
     try clear c7
     try clear c9
     try clear c12
     try clear c14
     try clear c14b0
     try clear c15
     try clear c18
     try clear c20
     try clear hcz10_0
     try clear hcz10_1
     try clear hcz11_0
     try clear hcz11_1
     try clear hcz16_0
     try clear hcz16_1
     try clear hcz17_0
     try clear hcz17_1
     try clear hcz19_0
     try clear hcz19_1
     try clear hcz20_0
     try clear hcz20_1
     try clear hcz8_0
     try clear hcz8_1
     try clear hfz10_0
     try clear hfz10_1
     try clear hfz11_0
     try clear hfz11_1
     try clear hfz16_0
     try clear hfz16_1
     try clear hfz17_0
     try clear hfz17_1
     try clear hfz19_0
     try clear hfz19_1
     try clear hfz20_0
     try clear hfz20_1
     try clear hfz8_0
     try clear hfz8_1
     try clear p2
     obtain ⟨kq,x18_12,rfl,HA,HJ12,BK199,BK200,HB⟩ := hcut
     cases kq with
     | zero => exact absurd HA.out (by simp [gauge_Verdict.j1])
     | succ kj12 =>
      have H := HA.out
      clear HA
      simp only [gauge_Verdict.j1] at H
      by_cases c21 : x18_12 = true
      ·subst c21
       have H1 : (some 1) = some r := by rw [if_pos rfl] at H;exact H
       clear H
       have H := H1
       clear H1
       obtain rfl := Option.some.inj H
       go_wp2
       go_ret
       exact ⟨by first | rfl | (simp [*] <;> rfl),by repeat (first | (with_reducible first | exact HB.out | apply bA_ | apply bN_ | apply bD_ | refine bS_ ?_ GE199.out | refine bS_ ?_ GE200.out) | exact HB.out)⟩
      ·replace c21 := Bool.eq_false_iff.mpr c21
       subst c21
       have H1 : (if a0_1 < a1_0 then (some 2) else (if a0_0 > a1_1 then (some 2) else (some 3))) = some r := by rw [if_neg (show ¬ (false = true) by decide)] at H;exact H
       clear H
       have H := H1
       clear H1
       by_cases c22 : a0_1 < a1_0
       ·rw [if_pos c22] at H
        have c22b0 : decide (a0_1 < a1_0) = true := decide_eq_true c22
        clear c22
        obtain rfl := Option.some.inj H
        have hnb23 := NB199_200.out
        have hnc23 := NB200_199.out
        have hcz24_0 : wc.cell? ⟨gb199,0,none⟩ = some (.int .i64 a0_0) := (blk_cell BK199.out 0).trans rfl
        have hcz24_1 : wc.cell? ⟨gb199,1,none⟩ = some (.int .i64 a0_1) := (blk_cell BK199.out 1).trans rfl
        have hfz24_0 := blk_frozen BK199.out 0
        have hfz24_1 := blk_frozen BK199.out 1
        have hcz25_0 : wc.cell? ⟨gb200,0,none⟩ = some (.int .i64 a1_0) := (blk_cell BK200.out 0).trans rfl
        have hcz25_1 : wc.cell? ⟨gb200,1,none⟩ = some (.int .i64 a1_1) := (blk_cell BK200.out 1).trans rfl
        have hfz25_0 := blk_frozen BK200.out 0
        have hfz25_1 := blk_frozen BK200.out 1
        go_wp2
        go_ret
        exact ⟨by first | rfl | (simp [*] <;> rfl),by repeat (first | (with_reducible first | exact HB.out | apply bA_ | apply bN_ | apply bD_ | refine bS_ ?_ GE199.out | refine bS_ ?_ GE200.out) | exact HB.out)⟩
       ·rw [if_neg c22] at H
        have c22b0 : decide (a0_1 < a1_0) = false := decide_eq_false c22
        clear c22
        by_cases c26 : a0_0 > a1_1
        ·rw [if_pos c26] at H
         have c26b0 : decide (a1_1 < a0_0) = true := decide_eq_true c26
         clear c26
         obtain rfl := Option.some.inj H
         have hnb27 := NB199_200.out
         have hnc27 := NB200_199.out
         have hcz28_0 : wc.cell? ⟨gb199,0,none⟩ = some (.int .i64 a0_0) := (blk_cell BK199.out 0).trans rfl
         have hcz28_1 : wc.cell? ⟨gb199,1,none⟩ = some (.int .i64 a0_1) := (blk_cell BK199.out 1).trans rfl
         have hfz28_0 := blk_frozen BK199.out 0
         have hfz28_1 := blk_frozen BK199.out 1
         have hcz29_0 : wc.cell? ⟨gb200,0,none⟩ = some (.int .i64 a1_0) := (blk_cell BK200.out 0).trans rfl
         have hcz29_1 : wc.cell? ⟨gb200,1,none⟩ = some (.int .i64 a1_1) := (blk_cell BK200.out 1).trans rfl
         have hfz29_0 := blk_frozen BK200.out 0
         have hfz29_1 := blk_frozen BK200.out 1
         go_wp2
         go_ret
         exact ⟨by first | rfl | (simp [*] <;> rfl),by repeat (first | (with_reducible first | exact HB.out | apply bA_ | apply bN_ | apply bD_ | refine bS_ ?_ GE199.out | refine bS_ ?_ GE200.out) | exact HB.out)⟩
        ·rw [if_neg c26] at H
         have c26b0 : decide (a1_1 < a0_0) = false := decide_eq_false c26
         clear c26
         obtain rfl := Option.some.inj H
         have hnb30 := NB199_200.out
         have hnc30 := NB200_199.out
         have hcz31_0 : wc.cell? ⟨gb199,0,none⟩ = some (.int .i64 a0_0) := (blk_cell BK199.out 0).trans rfl
         have hcz31_1 : wc.cell? ⟨gb199,1,none⟩ = some (.int .i64 a0_1) := (blk_cell BK199.out 1).trans rfl
         have hfz31_0 := blk_frozen BK199.out 0
         have hfz31_1 := blk_frozen BK199.out 1
         have hcz32_0 : wc.cell? ⟨gb200,0,none⟩ = some (.int .i64 a1_0) := (blk_cell BK200.out 0).trans rfl
         have hcz32_1 : wc.cell? ⟨gb200,1,none⟩ = some (.int .i64 a1_1) := (blk_cell BK200.out 1).trans rfl
         have hfz32_0 := blk_frozen BK200.out 0
         have hfz32_1 := blk_frozen BK200.out 1
         go_wp2
         go_ret
         exact ⟨by first | rfl | (simp [*] <;> rfl),by repeat (first | (with_reducible first | exact HB.out | apply bA_ | apply bN_ | apply bD_ | refine bS_ ?_ GE199.out | refine bS_ ?_ GE200.out) | exact HB.out)⟩

/-! ### L_span: function 24 -/
def L_span.f (a0 : Int) (a1 : Int) : Option (Int × Int) := some (a0,a1)
set_option maxHeartbeats 8000000 in
set_option maxRecDepth 100000 in
theorem L_span.calls (a0 : Int) (a1 : Int) (r1 : Int) (r2 : Int) (w : World) (h : L_span.f a0 a1 = some (r1,r2)) :
  Calls Try.prog 24 #[.int .i64 a0,.int .i64 a1] w fun e w' => e = .returned (.agg #[.int .i64 r1,.int .i64 r2]) ∧ Below w.heap.size w w' := by
 have hu34 := Try.underlying34
 have HB := aM_ (Below.refl w.heap.size w)
 have H : (some (a0,a1)) = some (r1,r2) := h
 clear h
 simp only [Option.some.injEq,Prod.mk.injEq] at H
 obtain ⟨rfl,rfl⟩ := H
 go_enter Try.func24,Try.ntmps24
 go_wp2_with (first | ((with_reducible refine gate_dst (N := 4) rfl ?_);refine box_event ?hg (N := 4) ?hd (cs := #[.int .i64 0,.int .i64 0]) (t := 34) ?hr ?_;(case hd => rfl);(case hg => rfl);(case hr => first | (go_simp;done) | (go_simp;rfl));intro gb201 hg w3 hbox hb;have n0_ := aM_ (bT_ (by repeat (first | (with_reducible first | exact HB.out | apply bA_ | apply bN_ | apply bD_) | exact HB.out)) hb);have n1_ := aM_ (hbox);have n2_ := aM_ ((by rw [hg];exact (below_size (by repeat (first | (with_reducible first | exact HB.out | apply bA_ | apply bN_ | apply bD_) | exact HB.out))) : w.heap.size ≤ gb201));have n3_ := aM_ ((by rw [hg];exact (below_size (by repeat (first | (with_reducible first | exact HB.out | apply bA_ | apply bN_ | apply bD_) | exact HB.out))) : w.heap.size ≤ gb201));clear HB;have HB := n0_;have BK201 := n1_;have GW201 := n2_;have GE201 := n3_;clear n0_ n1_ n2_ n3_;clear hb hbox hg;have hcz4_0 : w3.cell? ⟨gb201,0,none⟩ = some (.int .i64 0) := (blk_cell BK201.out 0).trans rfl;have hcz4_1 : w3.cell? ⟨gb201,1,none⟩ = some (.int .i64 0) := (blk_cell BK201.out 1).trans rfl;have hfz4_0 := blk_frozen BK201.out 0;have hfz4_1 := blk_frozen BK201.out 1))
 refine bodyPost_ret (results_cell_row rfl _ _ gb201 34 #[.int .i64 a0,.int .i64 a1] (0,0) _ rfl (by (with_reducible repeat (first | refine kN_ ?_ _ | refine kD_ ?_ | refine kA_ ?_ _));refine blk_put (cs := #[.int .i64 a0,.int .i64 0]) ?_ 1 _ rfl;(with_reducible repeat (first | refine kN_ ?_ _ | refine kD_ ?_ | refine kA_ ?_ _));refine blk_put (cs := #[.int .i64 0,.int .i64 0]) ?_ 0 _ rfl;(with_reducible repeat (first | refine kN_ ?_ _ | refine kD_ ?_ | refine kA_ ?_ _));exact BK201.out) Try.underlying34 rfl (by kernel_rfl)) rfl ?_
 exact ⟨by first | rfl | (simp [*] <;> rfl),by repeat (first | (with_reducible first | exact HB.out | apply bA_ | apply bN_ | apply bD_ | refine bS_ ?_ GE201.out) | exact HB.out)⟩

/-! ### L_bench: function 30 -/
def L_bench.f  : Option ((List (S49))) := (L_span.f 1000000 1000000).bind fun bt202 => ((L_span.f 990000 1010000).bind fun bt204 => ((L_span.f (-5) 5).bind fun bt206 => (some (([(⟨(⟨bt202.1,bt202.2⟩ : S34),(⟨0,0⟩ : S34),10,(-1),100⟩ : S49),(⟨(⟨bt204.1,bt204.2⟩ : S34),(⟨bt206.1,bt206.2⟩ : S34),1,0,50⟩ : S49)] : List (S49))))))
set_option maxHeartbeats 8000000 in
set_option maxRecDepth 100000 in
theorem L_bench.calls  (r : List (S49)) (w : World) (h : L_bench.f  = some r) :
  Calls Try.prog 30 #[] w fun e w' => ∃ v0_ : Value,e = .returned (v0_) ∧ Kd.R k49 49 w' w.heap.size (fun _ => True) v0_ r ∧ Below w.heap.size w w' := by
 have hu49 := Try.underlying49
 have HB := aM_ (Below.refl w.heap.size w)
 have H : ((L_span.f 1000000 1000000).bind fun bt202 => ((L_span.f 990000 1010000).bind fun bt204 => ((L_span.f (-5) 5).bind fun bt206 => (some (([(⟨(⟨bt202.1,bt202.2⟩ : S34),(⟨0,0⟩ : S34),10,(-1),100⟩ : S49),(⟨(⟨bt204.1,bt204.2⟩ : S34),(⟨bt206.1,bt206.2⟩ : S34),1,0,50⟩ : S49)] : List (S49))))))) = some r := h
 clear h
 replace H := oB_ H
 obtain ⟨⟨t202,t203⟩,A10,H⟩ := H
 replace H : ((L_span.f 990000 1010000).bind fun bt204 => ((L_span.f (-5) 5).bind fun bt206 => (some (([(⟨(⟨t202,t203⟩ : S34),(⟨0,0⟩ : S34),10,(-1),100⟩ : S49),(⟨(⟨bt204.1,bt204.2⟩ : S34),(⟨bt206.1,bt206.2⟩ : S34),1,0,50⟩ : S49)] : List (S49)))))) = some r := H
 have A1 := aM_ A10
 clear A10
 replace H := oB_ H
 obtain ⟨⟨t204,t205⟩,A20,H⟩ := H
 replace H : ((L_span.f (-5) 5).bind fun bt206 => (some (([(⟨(⟨t202,t203⟩ : S34),(⟨0,0⟩ : S34),10,(-1),100⟩ : S49),(⟨(⟨t204,t205⟩ : S34),(⟨bt206.1,bt206.2⟩ : S34),1,0,50⟩ : S49)] : List (S49))))) = some r := H
 have A2 := aM_ A20
 clear A20
 replace H := oB_ H
 obtain ⟨⟨t206,t207⟩,A30,H⟩ := H
 replace H : (some (([(⟨(⟨t202,t203⟩ : S34),(⟨0,0⟩ : S34),10,(-1),100⟩ : S49),(⟨(⟨t204,t205⟩ : S34),(⟨t206,t207⟩ : S34),1,0,50⟩ : S49)] : List (S49)))) = some r := H
 have A3 := aM_ A30
 clear A30
 obtain ⟨y208,hy208⟩ : ∃ y_ : List (S49),y_ = (([(⟨(⟨t202,t203⟩ : S34),(⟨0,0⟩ : S34),10,(-1),100⟩ : S49),(⟨(⟨t204,t205⟩ : S34),(⟨t206,t207⟩ : S34),1,0,50⟩ : S49)] : List (S49))) := ⟨_,rfl⟩
 replace H : (some y208) = some r := by first | (rw [hy208];with_reducible exact H) | (have H2_ := (Option.bind_some _ _).symm.trans H;rw [hy208];with_reducible exact H2_) | (have H2_ := (Option.bind_some _ _).symm.trans H;with_reducible exact H2_) | with_reducible exact H | (rw [hy208];exact H) | exact H
 have Ny208 := aM_ hy208
 clear hy208
 obtain rfl := Option.some.inj H
 go_enter Try.func30,Try.ntmps30
 go_wp2_with (first | ((with_reducible refine gate_callee (f := 24) rfl ?_);refine goesL_ (some 1) rfl rfl Try.func24 (by kernel_rfl) rfl #[.int .i64 1000000,.int .i64 1000000] rfl (by (try simp only [List.map_toArray,List.map_cons,List.map_nil]);first | done | rfl) ?_;(with_reducible refine (L_span.calls 1000000 1000000 t202 t203 _ A1.out).mono ?_);rintro e w4 ⟨rfl,hb⟩;refine ⟨_,rfl,?_⟩;have n0_ := aM_ (bT_ (by repeat (first | (with_reducible first | exact HB.out | apply bA_ | apply bN_ | apply bD_) | exact HB.out)) hb);clear HB;have HB := n0_;clear n0_;(try clear hb);(try clear hb2);(try clear hk);(try clear hi)) | ((with_reducible refine gate_callee (f := 24) rfl ?_);refine goesL_ (some 3) rfl rfl Try.func24 (by kernel_rfl) rfl #[.int .i64 990000,.int .i64 1010000] rfl (by (try simp only [List.map_toArray,List.map_cons,List.map_nil]);first | done | rfl) ?_;(with_reducible refine (L_span.calls 990000 1010000 t204 t205 _ A2.out).mono ?_);rintro e w5 ⟨rfl,hb⟩;refine ⟨_,rfl,?_⟩;have n0_ := aM_ (bT_ (by repeat (first | (with_reducible first | exact HB.out | apply bA_ | apply bN_ | apply bD_) | exact HB.out)) hb);clear HB;have HB := n0_;clear n0_;(try clear hb);(try clear hb2);(try clear hk);(try clear hi)) | ((with_reducible refine gate_callee (f := 24) rfl ?_);refine goesL_ (some 4) rfl rfl Try.func24 (by kernel_rfl) rfl #[.int .i64 (-5),.int .i64 5] rfl (by (try simp only [List.map_toArray,List.map_cons,List.map_nil]);first | done | rfl) ?_;(with_reducible refine (L_span.calls (-5) 5 t206 t207 _ A3.out).mono ?_);rintro e w6 ⟨rfl,hb⟩;refine ⟨_,rfl,?_⟩;have n0_ := aM_ (bT_ (by repeat (first | (with_reducible first | exact HB.out | apply bA_ | apply bN_ | apply bD_) | exact HB.out)) hb);clear HB;have HB := n0_;clear n0_;(try clear hb);(try clear hb2);(try clear hk);(try clear hi)) | ((with_reducible refine gate_dst (N := 6) rfl ?_);refine Kd.R_lit k49 _ 49 ?hg (N := 6) ?hd (xs := ([(⟨(⟨t202,t203⟩ : S34),(⟨0,0⟩ : S34),10,(-1),100⟩ : S49),(⟨(⟨t204,t205⟩ : S34),(⟨t206,t207⟩ : S34),1,0,50⟩ : S49)] : List (S49))) (inner := [.int .i64 t202,.int .i64 t203,.int .i64 0,.int .i64 0,.int .i64 10,.int .i64 (-1),.int .i64 100,.int .i64 t204,.int .i64 t205,.int .i64 t206,.int .i64 t207,.int .i64 1,.int .i64 0,.int .i64 50]) (ok := fun _ => True) (okp := fun _ => True) ?hr ?hp (fun _ hk => hk) trivial (Below.refl _ _) (Nat.le_refl _) (by simp) ?_;(case hd => rfl);(case hg => rfl);(case hr => first | (go_simp;done) | (go_simp;rfl));(case hp => exact (Reps.c7 (show Kd.M k49 _ _ _ (⟨(⟨t202,t203⟩ : S34),(⟨0,0⟩ : S34),10,(-1),100⟩ : S49) [.int .i64 t202,.int .i64 t203,.int .i64 0,.int .i64 0,.int .i64 10,.int .i64 (-1),.int .i64 100] from (k49_mkM _ _ _ (⟨(⟨t202,t203⟩ : S34),(⟨0,0⟩ : S34),10,(-1),100⟩ : S49) )) (Reps.c7 (show Kd.M k49 _ _ _ (⟨(⟨t204,t205⟩ : S34),(⟨t206,t207⟩ : S34),1,0,50⟩ : S49) [.int .i64 t204,.int .i64 t205,.int .i64 t206,.int .i64 t207,.int .i64 1,.int .i64 0,.int .i64 50] from (k49_mkM _ _ _ (⟨(⟨t204,t205⟩ : S34),(⟨t206,t207⟩ : S34),1,0,50⟩ : S49) )) (Reps.none _ _))));intro v209 w7 ho8 hb hg_ hnew_;clear hg_ hnew_;(first | rw [← Ny208.out] at ho8 | (simp only [Int.reduceToNat] at ho8;rw [← Ny208.out] at ho8));have n0_ := aM_ (Kd.R_lower ho8 (below_size (by repeat (first | (with_reducible first | exact HB.out | apply bA_ | apply bN_ | apply bD_) | exact HB.out))));have n1_ := aM_ (bT_ (by repeat (first | (with_reducible first | exact HB.out | apply bA_ | apply bN_ | apply bD_) | exact HB.out)) hb);clear HB;have HO210 := n0_;have HB := n1_;clear n0_ n1_;clear hb ho8))
 go_ret
 exact ⟨_,by first | rfl | (simp [*] <;> rfl),by (with_reducible repeat (first | apply Kd.R_alloc | apply Kd.R_drewN | apply Kd.R_drew));exact HO210.out,by repeat (first | (with_reducible first | exact HB.out | apply bA_ | apply bN_ | apply bD_) | exact HB.out)⟩

--HAND
/-! ### gauge.triangle,by hand: function 92 -/
def binom : Nat → Nat → Int
 | _,0 => 1
 | 0,_ + 1 => 0
 | n + 1,k + 1 => binom n k + binom n (k + 1)
theorem binom_zero (n : Nat) : binom n 0 = 1 := by cases n <;> rfl
theorem binom_above : ∀ (n k : Nat),n < k → binom n k = 0
 | 0,k + 1,_ => rfl
 | n + 1,k + 1,h => by simp only [binom];rw [binom_above n k (by omega),binom_above n (k + 1) (by omega)];rfl
theorem binom_bound : ∀ (n k : Nat),0 ≤ binom n k ∧ binom n k ≤ 2 ^ n
 | 0,0 => by decide
 | 0,k + 1 => by simp [binom]
 | n + 1,0 => by simp only [binom];exact ⟨by omega,by have := Int.pow_pos (n := 2) (m := n + 1) (by omega);omega⟩
 | n + 1,k + 1 => by
  have a := binom_bound n k
  have b := binom_bound n (k + 1)
  simp only [binom]
  rw [Int.pow_succ]
  omega
theorem binom_step : ∀ (n k : Nat),1 ≤ n → 1 ≤ k → binom n k = binom (n - 1) (k - 1) + binom (n - 1) k
 | n + 1,k + 1,_,_ => rfl
theorem pow_bound (n : Nat) (h : n ≤ 50) : (2 : Int) ^ n ≤ 1125899906842624 := by
 have : (2 : Nat) ^ n ≤ 2 ^ 50 := Nat.pow_le_pow_right (by omega) h
 have e : ((2 ^ n : Nat) : Int) = (2 : Int) ^ n := by push_cast;rfl
 rw [← e]
 have e2 : (2 : Nat) ^ 50 = 1125899906842624 := by decide
 omega
def triVal (n k j : Nat) : Int := if j / 51 < n ∨ (j / 51 = n ∧ j % 51 < k) then binom (j / 51) (j % 51) else 0
def triA (n k : Nat) : Array Value := ((List.range 2601).map fun j => Value.int .i64 (triVal n k j)).toArray
theorem triA_size (n k : Nat) : (triA n k).size = 2601 := by simp [triA]
theorem triA_get (n k j : Nat) (h : j < 2601) : (triA n k)[j]? = some (.int .i64 (triVal n k j)) := by simp [triA,h]
theorem triA_set (n k : Nat) (hn : n < 51) (hk : k < 51) : (triA n k).setIfInBounds (n * 51 + k) (.int .i64 (binom n k)) = triA n (k + 1) := by
 apply Array.ext_getElem?
 intro j
 rw [Array.getElem?_setIfInBounds]
 by_cases hj : j < 2601
 ·rw [triA_size,triA_get n (k + 1) j hj,triA_get n k j hj]
  unfold triVal
  by_cases e : n * 51 + k = j
  ·rw [if_pos e,if_pos (by omega),if_pos (by omega),show j / 51 = n by omega,show j % 51 = k by omega]
  ·rw [if_neg e]
   by_cases c : j / 51 < n ∨ (j / 51 = n ∧ j % 51 < k)
   ·rw [if_pos c,if_pos (by omega)]
   ·rw [if_neg c,if_neg (by omega)]
 ·rw [if_neg (by omega)]
  rw [Array.getElem?_eq_none (by rw [triA_size];omega),Array.getElem?_eq_none (by rw [triA_size];omega)]
theorem triA_row (n : Nat) : triA n (n + 1) = triA (n + 1) 0 := by
 unfold triA
 refine congrArg List.toArray (List.map_congr_left fun j _ => congrArg (Value.int .i64) ?_)
 unfold triVal
 by_cases c : j / 51 < n ∨ (j / 51 = n ∧ j % 51 < n + 1)
 ·rw [if_pos c,if_pos (by omega)]
 ·rw [if_neg c]
  by_cases c2 : j / 51 < n + 1 ∨ (j / 51 = n + 1 ∧ j % 51 < 0)
  ·rw [if_pos c2,binom_above _ _ (by omega)]
  ·rw [if_neg c2]
theorem triA_zero : triA 0 0 = Array.replicate 2601 (.int .i64 0) := by
 apply Array.ext_getElem?
 intro j
 by_cases hj : j < 2601
 ·rw [triA_get 0 0 j hj,Array.getElem?_replicate,if_pos hj]
  unfold triVal
  rw [if_neg (by omega)]
 ·rw [Array.getElem?_eq_none (by rw [triA_size];omega),Array.getElem?_eq_none (by simp;omega)]
def tableA : Array Value := triA 51 0
theorem tableA_get (n k : Nat) (hn : n < 51) (hk : k < 51) : tableA[n * 51 + k]? = some (.int .i64 (binom n k)) := by
 unfold tableA
 rw [triA_get _ _ _ (by omega)]
 unfold triVal
 rw [if_pos (by omega),show (n * 51 + k) / 51 = n by omega,show (n * 51 + k) % 51 = k by omega]
theorem below_row {B g : Nat} {w0 w : World} (hb : Below B w0 w) (hBg : B ≤ g) (cs : Array Value) : Below B w0 (w.setRow g cs) :=
 ⟨hb.os,hb.tape,hb.output,by rw [setRow_size];exact hb.size,fun k hk => (setRow_other w g k cs (by omega)).trans (hb.block k hk)⟩
theorem tableA_all : tableA.all (·.oneCell') = true := by
 unfold tableA triA
 rw [List.all_toArray,List.all_map]
 rw [List.all_eq_true]
 intro x _
 rfl
theorem infoTable : (Try.prog.info? 99).map (fun i => (i.zero,i.size)) = some (some (.agg (Array.replicate 2601 (.int .i64 0))),2601) := by kernel_rfl

theorem alloc_table {op : Oper} {a : Act} (w : World) (ho : op.op = .alloc 99) (hd : op.dst = some 0) (ht : a.tmps.getD 0 undef = undef) : (execOp a.eval op).run Try.prog w = .ok (.value (.pointer (some ⟨w.heap.size,0,none⟩))) (w.alloc (.cells (triA 0 0) 99 (0,0))) := by
 obtain ⟨i,hi,hz⟩ := Option.map_eq_some_iff.1 infoTable
 simp only [Prod.mk.injEq] at hz
 rw [triA_zero]
 simp [execOp,ho,hd,Instr.alloc,zeroValue,typeInfo,hi,hz.1,hz.2,go_sem]

set_option maxHeartbeats 4000000 in
set_option maxRecDepth 1000000 in
theorem gauge_triangle.calls (w : World) : Calls Try.prog 92 #[] w fun e w' => e = .returned (.agg tableA) ∧ Below w.heap.size w w' := by
 have HB0 := aM_ (Below.refl w.heap.size w)
 have hu85 := Try.underlying99
 have hu84 := Try.underlying98
 go_enter Try.func92,Try.ntmps92
 go_wp2_with (refine box_event ?hg (N := 0) ?hd (cs := triA 0 0) (t := 99) ?hr ?_;(case hd => rfl);(case hg => rfl);(case hr => exact alloc_table _ rfl rfl rfl);intro g hg w1 hbox hb)
 subst hg
 have HX := aM_ hbox
 have HB := aM_ hb
 clear hbox hb
 go_loopw [3] (fun s3 wr => ∃ n : Nat,s3 = .int .i64 n ∧ n ≤ 51 ∧ Aside0 (wr.heap[w.heap.size]? = some (.cells (triA n 0) 99 (0,0))) ∧ Aside0 (Below w.heap.size w wr)) (fun s3 _ => 51 - (intOf s3).toNat)
 case atStart => exact ⟨0,rfl,by omega,HX,HB⟩
 case round =>
  clear HX HB
  obtain ⟨n,rfl,hn,HX,HB⟩ := hrel
  by_cases hlt : n < 51
  ·have k0 : wr.cell? ⟨w.heap.size,n * 51,none⟩ = some (.int .i64 (triVal n 0 (n * 51))) := (blk_cell HX.out (n * 51)).trans (triA_get _ _ _ (by omega))
   have k1 := blk_frozen HX.out (n * 51)
   have d0 : decide ((n : Int) < 51) = true := decide_eq_true (by omega)
   go_wp2
   clear k0 k1
   obtain ⟨W1,hW1⟩ : ∃ W1,wr.setCell ⟨w.heap.size,n * 51,none⟩ (.int .i64 1) = W1 := ⟨_,rfl⟩
   have HX1 : Aside0 (W1.heap[w.heap.size]? = some (.cells (triA n 1) 99 (0,0))) := ⟨by
    rw [← hW1];exact blk_put HX.out (n * 51) _ (by have := triA_set n 0 hlt (by omega);rw [binom_zero] at this;exact this)⟩
   have HB1 : Aside0 (Below w.heap.size w W1) := ⟨by rw [← hW1];exact bS_ HB.out (Nat.le_refl _)⟩
   rw [hW1]
   clear hW1 HX HB
   go_loopw [2] (fun s2 wr => ∃ k : Nat,s2 = .int .i64 k ∧ 1 ≤ k ∧ k ≤ n + 1 ∧ Aside0 (wr.heap[w.heap.size]? = some (.cells (triA n k) 99 (0,0))) ∧ Aside0 (Below w.heap.size w wr)) (fun s2 _ => n + 1 - (intOf s2).toNat)
   case atStart => exact ⟨1,rfl,by omega,by omega,HX1,HB1⟩
   case round =>
    clear HX1 HB1
    obtain ⟨k,rfl,hk1,hk2,HX,HB⟩ := hrel
    by_cases hle : k ≤ n
    ·have q0 : wr.cell? ⟨w.heap.size,(n - 1) * 51 + (k - 1),none⟩ = some (.int .i64 (binom (n - 1) (k - 1))) := (blk_cell HX.out ((n - 1) * 51 + (k - 1))).trans (by
      rw [triA_get _ _ _ (by omega)];unfold triVal;rw [if_pos (by omega),show ((n - 1) * 51 + (k - 1)) / 51 = n - 1 by omega,show ((n - 1) * 51 + (k - 1)) % 51 = k - 1 by omega])
     have q1 : wr.cell? ⟨w.heap.size,(n - 1) * 51 + k,none⟩ = some (.int .i64 (binom (n - 1) k)) := (blk_cell HX.out ((n - 1) * 51 + k)).trans (by
      rw [triA_get _ _ _ (by omega)];unfold triVal;rw [if_pos (by omega),show ((n - 1) * 51 + k) / 51 = n - 1 by omega,show ((n - 1) * 51 + k) % 51 = k by omega])
     have q2 : wr.cell? ⟨w.heap.size,n * 51 + k,none⟩ = some (.int .i64 (triVal n k (n * 51 + k))) := (blk_cell HX.out _).trans (triA_get _ _ _ (by omega))
     have q3 := blk_frozen HX.out (n * 51 + k)
     have a0 := binom_bound (n - 1) (k - 1)
     have a1 := binom_bound (n - 1) k
     have a2 := pow_bound (n - 1) (by omega)
     have HS : Aside0 (binom n k = binom (n - 1) (k - 1) + binom (n - 1) k) := ⟨binom_step n k (by omega) (by omega)⟩
     have b0 := a0.1
     have b1 := a1.1
     have b2 : binom (n - 1) (k - 1) ≤ 1125899906842624 := by omega
     have b3 : binom (n - 1) k ≤ 1125899906842624 := by omega
     clear a0 a1 a2
     generalize binom (n - 1) (k - 1) = x at q0 b0 b2 HS
     generalize binom (n - 1) k = y at q1 b1 b3 HS
     go_wp2
     have w0 : IntKind.i64.wrap ((n : Int) - 1) = (n : Int) - 1 := IntWalk.i64_in _ (by omega)
     have w1 : IntKind.i64.wrap ((k : Int) - 1) = (k : Int) - 1 := IntWalk.i64_in _ (by omega)
     have w2 : IntKind.i64.wrap (x + y) = x + y := IntWalk.i64_in _ (by omega)
     have i0 : (n : Int) < 51 := by omega
     have i1 : (k : Int) < 51 := by omega
     have i2 : (n : Int) - 1 < 51 := by omega
     have i3 : (k : Int) - 1 < 51 := by omega
     have i4 : (0 : Int) ≤ (n : Int) - 1 := by omega
     have i5 : (0 : Int) ≤ (k : Int) - 1 := by omega
     have i6 : (1 : Int) ≤ (n : Int) := by omega
     have i7 : (1 : Int) ≤ (k : Int) := by omega
     have t0 : ((n : Int) - 1).toNat = n - 1 := by omega
     have t1 : ((k : Int) - 1).toNat = k - 1 := by omega
     go_still_tail 18,(by kernel_rfl)
     clear w0 w1 w2 t0 t1
     go_wp2
     go_roundw
     case rel => exact ⟨k + 1,by go_num,by omega,by omega,⟨kD_ (blk_put HX.out (n * 51 + k) _ (by have := triA_set n k hlt (by omega);rw [HS.out] at this;exact this))⟩,⟨bD_ (bS_ HB.out (Nat.le_refl _))⟩⟩
     case measure => simp [intOf];omega
    ·obtain rfl : k = n + 1 := by omega
     go_wp2
     go_roundw
     case rel => exact ⟨n + 1,by go_num,by omega,⟨by rw [← triA_row];exact HX.out⟩,HB⟩
     case measure => simp [intOf];omega
  ·obtain rfl : n = 51 := by omega
   have hsz : (Try.prog.info? 99).map (·.size) = some tableA.size := by
    obtain ⟨i,hi,hz⟩ := Option.map_eq_some_iff.1 infoTable
    simp only [Prod.mk.injEq] at hz
    rw [hi,show tableA.size = 2601 from triA_size _ _]
    simp [hz.2]
   have HT : Aside0 (wr.heap[w.heap.size]? = some (.cells tableA 99 (0,0))) := HX
   have HZ := aM_ hsz
   clear HX hsz
   have H1 : Aside0 (tableA.all (·.oneCell') = true) := ⟨tableA_all⟩
   go_wp2_with (first | (refine wpList_load_row rfl 99 _ rfl w.heap.size rfl 99 _ _ _ HT.out Try.underlying99 rfl HZ.out ?_) | (refine wpList_store_row rfl 99 _ _ rfl w.heap.size tableA rfl rfl 99 tableA HT.out HZ.out rfl H1.out ?_))
   exact bodyPost_ret (results_cell_row rfl _ _ w.heap.size 99 tableA (0,0) _ rfl (setRow_heap _ _ _ _ _ _ HT.out) Try.underlying99 rfl HZ.out) rfl ⟨rfl,below_row HB.out (Nat.le_refl _) _⟩

--HAND
/-! ### gauge.choose,by hand: function 71 -/
theorem sizeTable : (Try.prog.info? 99).map (·.size) = some tableA.size := by
 obtain ⟨i,hi,hz⟩ := Option.map_eq_some_iff.1 infoTable
 simp only [Prod.mk.injEq] at hz
 rw [hi,show tableA.size = 2601 from triA_size _ _]
 simp [hz.2]

set_option maxHeartbeats 4000000 in
set_option maxRecDepth 1000000 in
theorem gauge_choose.calls (w : World) : Calls Try.prog 71 #[] w fun e w' => e = .returned (.agg tableA) ∧ Below w.heap.size w w' := by
 have HB0 := aM_ (Below.refl w.heap.size w)
 have hu85 := Try.underlying99
 have HZ := aM_ sizeTable
 have H1 : Aside0 (tableA.all (·.oneCell') = true) := ⟨tableA_all⟩
 go_enter Try.func71,Try.ntmps71
 go_wp2_with (refine box_event ?hg (N := 0) ?hd (cs := triA 0 0) (t := 99) ?hr ?_;(case hd => rfl);(case hg => rfl);(case hr => exact alloc_table _ rfl rfl rfl);intro g hg w1 hbox hb)
 subst hg
 have HX := aM_ hbox
 have HB := aM_ hb
 clear hbox hb
 go_wp2_with (fail)
 (with_reducible refine (gauge_triangle.calls _).mono ?_)
 rintro e w2 ⟨rfl,hb2⟩
 have HX2 := aM_ (kB_ HX.out hb2)
 have HB2 := aM_ (bT_ HB.out hb2)
 clear hb2
 go_wp2_with (refine wpList_store_row rfl 99 _ _ rfl w.heap.size tableA rfl rfl 99 (triA 0 0) HX2.out HZ.out (by rw [triA_size];exact (triA_size _ _).symm) H1.out ?_)
 exact bodyPost_ret (results_cell_row rfl _ _ w.heap.size 99 tableA (0,0) _ rfl (setRow_heap _ _ _ _ _ _ HX2.out) Try.underlying99 rfl HZ.out) rfl ⟨rfl,below_row HB2.out (Nat.le_refl _) _⟩

end Go.Proofs.Ytdbpobadeibjaab.GE
