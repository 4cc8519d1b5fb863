-- written for this claim by a program of this session (wip/gp), over the kit's own printer; Lean checks it
import Derived.Test.YtdbpobadeibjaaaGEx0
import Derived.Test.YtdbpobadeibjaaaGEx16
import Derived.Test.YtdbpobadeibjaaaGEx36
namespace Go.Proofs.Ytdbpobadeibjaaa.GE
open Go.RowKit Go.Proofs.YtdbpobadeibjaaaW.PrintWords Go.Proofs.YtdbpobadeibjaaaW.PrintLast Go.Proofs.YtdbpobadeibjaaaW.PrintMore
attribute [local go_sem] max2_int min2_int max_two min_two max_three min_three max_four min_four
set_option linter.unusedVariables false
set_option linter.unusedSimpArgs false

/-! ### R_Aged: function 33 -/
def R_Aged.f (k : Nat) (a0_0 : Int) (a0_1 : Int) (a1_0 : Int) (a1_1 : Int) (a2 : Int) : Option (Int × Int × Int) := (R_checkAge.f k a0_0 a0_1 a1_0 a1_1).bind fun t484 => (if t484 = 0 then ((R_beyond.f a2 0 1000000).bind fun t485 => (if t485 = true then (some (0,0,2)) else ((R_aged.f a0_0 a0_1 a1_0 a1_1 a2).bind fun bt486 => (some (bt486.1,bt486.2,0))))) else (some (0,0,t484)))
set_option maxHeartbeats 8000000 in
set_option maxRecDepth 100000 in
theorem R_Aged.calls (k : Nat) (a0_0 : Int) (a0_1 : Int) (a1_0 : Int) (a1_1 : Int) (a2 : Int) (r1 : Int) (r2 : Int) (r3 : Int) (w : World) (h : R_Aged.f k a0_0 a0_1 a1_0 a1_1 a2 = some (r1,r2,r3)) :
  Calls Try.prog 33 #[.agg #[.int .i64 a0_0,.int .i64 a0_1],.agg #[.int .i64 a1_0,.int .i64 a1_1],.int .i64 a2] w fun e w' => e = .returned (.tuple #[.agg #[.int .i64 r1,.int .i64 r2],.int .i64 r3]) ∧ Below w.heap.size w w' := by
 have hu34 := Try.underlying34
 have HB := aM_ (Below.refl w.heap.size w)
 have H : ((R_checkAge.f k a0_0 a0_1 a1_0 a1_1).bind fun t484 => (if t484 = 0 then ((R_beyond.f a2 0 1000000).bind fun t485 => (if t485 = true then (some (0,0,2)) else ((R_aged.f a0_0 a0_1 a1_0 a1_1 a2).bind fun bt486 => (some (bt486.1,bt486.2,0))))) else (some (0,0,t484)))) = some (r1,r2,r3) := h
 clear h
 replace H := oB_ H
 obtain ⟨t484,A40,H⟩ := H
 replace H : (if t484 = 0 then ((R_beyond.f a2 0 1000000).bind fun t485 => (if t485 = true then (some (0,0,2)) else ((R_aged.f a0_0 a0_1 a1_0 a1_1 a2).bind fun bt486 => (some (bt486.1,bt486.2,0))))) else (some (0,0,t484))) = some (r1,r2,r3) := H
 have A4 := aM_ A40
 clear A40
 by_cases c5 : t484 = 0
 ·rw [if_pos c5] at H
  have c5b0 : (t484 == 0) = true := beq_iff_eq.mpr c5
  have c5b1 : (t484 != 0) = false := bne_eq_false_iff_eq.mpr c5
  clear c5
  replace H := oB_ H
  obtain ⟨t485,A60,H⟩ := H
  replace H : (if t485 = true then (some (0,0,2)) else ((R_aged.f a0_0 a0_1 a1_0 a1_1 a2).bind fun bt486 => (some (bt486.1,bt486.2,0)))) = some (r1,r2,r3) := H
  have A6 := aM_ A60
  clear A60
  by_cases c7 : t485 = true
  ·subst c7
   have H1 : (some (0,0,2)) = some (r1,r2,r3) := by rw [if_pos rfl] at H;exact H
   clear H
   have H := H1
   clear H1
   simp only [Option.some.injEq,Prod.mk.injEq] at H
   obtain ⟨rfl,rfl,rfl⟩ := H
   go_enter Try.func33,Try.ntmps33
   go_wp2_with (first | ((with_reducible refine gate_dst (N := 3) rfl ?_);refine box_event ?hg (N := 3) ?hd (cs := #[.int .i64 a0_0,.int .i64 a0_1]) (t := 34) ?hr ?_;(case hd => rfl);(case hg => rfl);(case hr => first | (go_simp;done) | (go_simp;rfl));intro gb481 hg w8 hbox hb;have n0_ := aM_ (bT_ (by repeat (first | (with_reducible first | exact HB.out | apply bA_ | apply bN_ | apply bD_) | exact HB.out)) hb);have n1_ := aM_ (hbox);have n2_ := aM_ ((by rw [hg];exact (below_size (by repeat (first | (with_reducible first | exact HB.out | apply bA_ | apply bN_ | apply bD_) | exact HB.out))) : w.heap.size ≤ gb481));have n3_ := aM_ ((by rw [hg];exact (below_size (by repeat (first | (with_reducible first | exact HB.out | apply bA_ | apply bN_ | apply bD_) | exact HB.out))) : w.heap.size ≤ gb481));clear HB;have HB := n0_;have BK481 := n1_;have GW481 := n2_;have GE481 := n3_;clear n0_ n1_ n2_ n3_;clear hb hbox hg) | ((with_reducible refine gate_dst (N := 4) rfl ?_);refine box_event ?hg (N := 4) ?hd (cs := #[.int .i64 a1_0,.int .i64 a1_1]) (t := 34) ?hr ?_;(case hd => rfl);(case hg => rfl);(case hr => first | (go_simp;done) | (go_simp;rfl));intro gb482 hg w9 hbox hb;have n0_ := aM_ (kB_ (g := gb481) (o := .cells #[.int .i64 a0_0,.int .i64 a0_1] 34 (0,0)) (by (with_reducible repeat (first | refine kN_ ?_ _ | refine kD_ ?_ | refine kA_ ?_ _));exact BK481.out) hb);have n1_ := aM_ (bT_ (by repeat (first | (with_reducible first | exact HB.out | apply bA_ | apply bN_ | apply bD_ | refine bS_ ?_ GE481.out) | exact HB.out)) hb);have n2_ := aM_ (hbox);have n3_ := aM_ ((by rw [hg];exact (below_size (by repeat (first | (with_reducible first | exact HB.out | apply bA_ | apply bN_ | apply bD_ | refine bS_ ?_ GE481.out) | exact HB.out))) : w.heap.size ≤ gb482));have n4_ := aM_ ((by rw [hg];exact (below_size (by repeat (first | (with_reducible first | exact HB.out | apply bA_ | apply bN_ | apply bD_ | refine bS_ ?_ GE481.out) | exact HB.out))) : w.heap.size ≤ gb482));have n5_ := aM_ ((by rw [hg];exact Nat.ne_of_lt (blk_lt (g := gb481) (o := .cells #[.int .i64 a0_0,.int .i64 a0_1] 34 (0,0)) (by (with_reducible repeat (first | refine kN_ ?_ _ | refine kD_ ?_ | refine kA_ ?_ _));exact BK481.out)) : gb481 ≠ gb482));have n6_ := aM_ ((by rw [hg];exact Nat.ne_of_gt (blk_lt (g := gb481) (o := .cells #[.int .i64 a0_0,.int .i64 a0_1] 34 (0,0)) (by (with_reducible repeat (first | refine kN_ ?_ _ | refine kD_ ?_ | refine kA_ ?_ _));exact BK481.out)) : gb482 ≠ gb481));clear BK481;clear HB;have BK481 := n0_;have HB := n1_;have BK482 := n2_;have GW482 := n3_;have GE482 := n4_;have NB481_482 := n5_;have NB482_481 := n6_;clear n0_ n1_ n2_ n3_ n4_ n5_ n6_;clear hb hbox hg) | ((with_reducible refine gate_dst (N := 6) rfl ?_);refine box_event ?hg (N := 6) ?hd (cs := #[.int .i64 0,.int .i64 0]) (t := 34) ?hr ?_;(case hd => rfl);(case hg => rfl);(case hr => first | (go_simp;done) | (go_simp;rfl));intro gb483 hg w10 hbox hb;have n0_ := aM_ (kB_ (g := gb481) (o := .cells #[.int .i64 a0_0,.int .i64 a0_1] 34 (0,0)) (by (with_reducible repeat (first | refine kN_ ?_ _ | refine kD_ ?_ | refine kA_ ?_ _));exact BK481.out) hb);have n1_ := aM_ (kB_ (g := gb482) (o := .cells #[.int .i64 a1_0,.int .i64 a1_1] 34 (0,0)) (by (with_reducible repeat (first | refine kN_ ?_ _ | refine kD_ ?_ | refine kA_ ?_ _));exact BK482.out) hb);have n2_ := aM_ (bT_ (by repeat (first | (with_reducible first | exact HB.out | apply bA_ | apply bN_ | apply bD_ | refine bS_ ?_ GE481.out | refine bS_ ?_ GE482.out) | exact HB.out)) hb);have n3_ := aM_ (hbox);have n4_ := aM_ ((by rw [hg];exact (below_size (by repeat (first | (with_reducible first | exact HB.out | apply bA_ | apply bN_ | apply bD_ | refine bS_ ?_ GE481.out | refine bS_ ?_ GE482.out) | exact HB.out))) : w.heap.size ≤ gb483));have n5_ := aM_ ((by rw [hg];exact (below_size (by repeat (first | (with_reducible first | exact HB.out | apply bA_ | apply bN_ | apply bD_ | refine bS_ ?_ GE481.out | refine bS_ ?_ GE482.out) | exact HB.out))) : w.heap.size ≤ gb483));have n6_ := aM_ ((by rw [hg];exact Nat.ne_of_lt (blk_lt (g := gb481) (o := .cells #[.int .i64 a0_0,.int .i64 a0_1] 34 (0,0)) (by (with_reducible repeat (first | refine kN_ ?_ _ | refine kD_ ?_ | refine kA_ ?_ _));exact BK481.out)) : gb481 ≠ gb483));have n7_ := aM_ ((by rw [hg];exact Nat.ne_of_gt (blk_lt (g := gb481) (o := .cells #[.int .i64 a0_0,.int .i64 a0_1] 34 (0,0)) (by (with_reducible repeat (first | refine kN_ ?_ _ | refine kD_ ?_ | refine kA_ ?_ _));exact BK481.out)) : gb483 ≠ gb481));have n8_ := aM_ ((by rw [hg];exact Nat.ne_of_lt (blk_lt (g := gb482) (o := .cells #[.int .i64 a1_0,.int .i64 a1_1] 34 (0,0)) (by (with_reducible repeat (first | refine kN_ ?_ _ | refine kD_ ?_ | refine kA_ ?_ _));exact BK482.out)) : gb482 ≠ gb483));have n9_ := aM_ ((by rw [hg];exact Nat.ne_of_gt (blk_lt (g := gb482) (o := .cells #[.int .i64 a1_0,.int .i64 a1_1] 34 (0,0)) (by (with_reducible repeat (first | refine kN_ ?_ _ | refine kD_ ?_ | refine kA_ ?_ _));exact BK482.out)) : gb483 ≠ gb482));clear BK481;clear BK482;clear HB;have BK481 := n0_;have BK482 := n1_;have HB := n2_;have BK483 := n3_;have GW483 := n4_;have GE483 := n5_;have NB481_483 := n6_;have NB483_481 := n7_;have NB482_483 := n8_;have NB483_482 := n9_;clear n0_ n1_ n2_ n3_ n4_ n5_ n6_ n7_ n8_ n9_;clear hb hbox hg;have hnb11 := NB481_482.out;have hnc11 := NB482_481.out;have hnb12 := NB481_483.out;have hnc12 := NB483_481.out;have hcz13_0 : w10.cell? ⟨gb481,0,none⟩ = some (.int .i64 a0_0) := (blk_cell BK481.out 0).trans rfl;have hcz13_1 : w10.cell? ⟨gb481,1,none⟩ = some (.int .i64 a0_1) := (blk_cell BK481.out 1).trans rfl;have hfz13_0 := blk_frozen BK481.out 0;have hfz13_1 := blk_frozen BK481.out 1;have hnb14 := NB482_483.out;have hnc14 := NB483_482.out;have hcz15_0 : w10.cell? ⟨gb482,0,none⟩ = some (.int .i64 a1_0) := (blk_cell BK482.out 0).trans rfl;have hcz15_1 : w10.cell? ⟨gb482,1,none⟩ = some (.int .i64 a1_1) := (blk_cell BK482.out 1).trans rfl;have hfz15_0 := blk_frozen BK482.out 0;have hfz15_1 := blk_frozen BK482.out 1) | ((with_reducible refine gate_callee (f := 65) rfl ?_);refine goesL_ (some 11) rfl rfl Try.func65 (by kernel_rfl) rfl #[.agg #[.int .i64 a0_0,.int .i64 a0_1],.agg #[.int .i64 a1_0,.int .i64 a1_1]] rfl (by (try simp only [List.map_toArray,List.map_cons,List.map_nil]);first | done | rfl) ?_;(with_reducible refine (R_checkAge.calls k a0_0 a0_1 a1_0 a1_1 t484 _ A4.out).mono ?_);rintro e w16 ⟨rfl,hb⟩;refine ⟨_,rfl,?_⟩;have n0_ := aM_ (kB_ (g := gb481) (o := .cells #[.int .i64 a0_0,.int .i64 a0_1] 34 (0,0)) (by (with_reducible repeat (first | refine kN_ ?_ _ | refine kD_ ?_ | refine kA_ ?_ _));exact BK481.out) hb);have n1_ := aM_ (kB_ (g := gb482) (o := .cells #[.int .i64 a1_0,.int .i64 a1_1] 34 (0,0)) (by (with_reducible repeat (first | refine kN_ ?_ _ | refine kD_ ?_ | refine kA_ ?_ _));exact BK482.out) hb);have n2_ := aM_ (kB_ (g := gb483) (o := .cells #[.int .i64 0,.int .i64 0] 34 (0,0)) (by (with_reducible repeat (first | refine kN_ ?_ _ | refine kD_ ?_ | refine kA_ ?_ _));exact BK483.out) hb);have n3_ := aM_ (bT_ (by repeat (first | (with_reducible first | exact HB.out | apply bA_ | apply bN_ | apply bD_ | refine bS_ ?_ GE481.out | refine bS_ ?_ GE482.out | refine bS_ ?_ GE483.out) | exact HB.out)) hb);clear BK481;clear BK482;clear BK483;clear HB;have BK481 := n0_;have BK482 := n1_;have BK483 := n2_;have HB := n3_;clear n0_ n1_ n2_ n3_;(try clear hb);(try clear hb2);(try clear hk);(try clear hi)) | ((with_reducible refine gate_callee (f := 56) rfl ?_);refine goesL_ (some 17) rfl rfl Try.func56 (by kernel_rfl) rfl #[.int .i64 a2,.int .i64 0,.int .i64 1000000] rfl (by (try simp only [List.map_toArray,List.map_cons,List.map_nil]);first | done | rfl) ?_;(with_reducible refine (R_beyond.calls a2 0 1000000 true _ A6.out).mono ?_);rintro e w' ⟨rfl,⟨nd,rfl⟩⟩;refine ⟨_,rfl,?_⟩;(try (rw [drewN_self w16];generalize hq_ : World.drewN w16 _ = w16;have n0_ : Aside0 (w16.heap[gb481]? = some (.cells #[.int .i64 a0_0,.int .i64 a0_1] 34 (0,0))) := ⟨by rw [← hq_];exact (by (with_reducible repeat (first | refine kN_ ?_ _ | refine kD_ ?_ | refine kA_ ?_ _));exact BK481.out)⟩;have n1_ : Aside0 (w16.heap[gb482]? = some (.cells #[.int .i64 a1_0,.int .i64 a1_1] 34 (0,0))) := ⟨by rw [← hq_];exact (by (with_reducible repeat (first | refine kN_ ?_ _ | refine kD_ ?_ | refine kA_ ?_ _));exact BK482.out)⟩;have n2_ : Aside0 (w16.heap[gb483]? = some (.cells #[.int .i64 0,.int .i64 0] 34 (0,0))) := ⟨by rw [← hq_];exact (by (with_reducible repeat (first | refine kN_ ?_ _ | refine kD_ ?_ | refine kA_ ?_ _));exact BK483.out)⟩;have n3_ : Aside0 (Below w.heap.size w w16) := ⟨by rw [← hq_];exact (by repeat (first | (with_reducible first | exact HB.out | apply bA_ | apply bN_ | apply bD_ | refine bS_ ?_ GE481.out | refine bS_ ?_ GE482.out | refine bS_ ?_ GE483.out) | exact HB.out))⟩;clear BK481 BK482 BK483 HB hq_;have BK481 := n0_;have BK482 := n1_;have BK483 := n2_;have HB := n3_;clear n0_ n1_ n2_ n3_));have hcz17_0 : w16.cell? ⟨gb483,0,none⟩ = some (.int .i64 0) := (blk_cell BK483.out 0).trans rfl;have hcz17_1 : w16.cell? ⟨gb483,1,none⟩ = some (.int .i64 0) := (blk_cell BK483.out 1).trans rfl;have hfz17_0 := blk_frozen BK483.out 0;have hfz17_1 := blk_frozen BK483.out 1))
   refine bodyPost_ret (results_ct rfl _ _ gb483 34 #[.int .i64 0,.int .i64 0] (0,0) _ rfl (by (with_reducible repeat (first | refine kN_ ?_ _ | refine kD_ ?_ | refine kA_ ?_ _));refine blk_put (cs := #[.int .i64 0,.int .i64 0]) ?_ 1 _ rfl;(with_reducible repeat (first | refine kN_ ?_ _ | refine kD_ ?_ | refine kA_ ?_ _));refine blk_put (cs := #[.int .i64 0,.int .i64 0]) ?_ 0 _ rfl;(with_reducible repeat (first | refine kN_ ?_ _ | refine kD_ ?_ | refine kA_ ?_ _));exact BK483.out) Try.underlying34 rfl (by kernel_rfl)) rfl ?_
   exact ⟨by first | rfl | (simp [*] <;> rfl),by repeat (first | (with_reducible first | exact HB.out | apply bA_ | apply bN_ | apply bD_ | refine bS_ ?_ GE481.out | refine bS_ ?_ GE482.out | refine bS_ ?_ GE483.out) | exact HB.out)⟩
  ·replace c7 := Bool.eq_false_iff.mpr c7
   subst c7
   have H1 : ((R_aged.f a0_0 a0_1 a1_0 a1_1 a2).bind fun bt486 => (some (bt486.1,bt486.2,0))) = some (r1,r2,r3) := by rw [if_neg (show ¬ (false = true) by decide)] at H;exact H
   clear H
   have H := H1
   clear H1
   replace H := oB_ H
   obtain ⟨⟨t486,t487⟩,A180,H⟩ := H
   replace H : (some (t486,t487,0)) = some (r1,r2,r3) := H
   have A18 := aM_ A180
   clear A180
   simp only [Option.some.injEq,Prod.mk.injEq] at H
   obtain ⟨rfl,rfl,rfl⟩ := H
   go_enter Try.func33,Try.ntmps33
   go_wp2_with (first | ((with_reducible refine gate_dst (N := 3) rfl ?_);refine box_event ?hg (N := 3) ?hd (cs := #[.int .i64 a0_0,.int .i64 a0_1]) (t := 34) ?hr ?_;(case hd => rfl);(case hg => rfl);(case hr => first | (go_simp;done) | (go_simp;rfl));intro gb481 hg w19 hbox hb;have n0_ := aM_ (bT_ (by repeat (first | (with_reducible first | exact HB.out | apply bA_ | apply bN_ | apply bD_) | exact HB.out)) hb);have n1_ := aM_ (hbox);have n2_ := aM_ ((by rw [hg];exact (below_size (by repeat (first | (with_reducible first | exact HB.out | apply bA_ | apply bN_ | apply bD_) | exact HB.out))) : w.heap.size ≤ gb481));have n3_ := aM_ ((by rw [hg];exact (below_size (by repeat (first | (with_reducible first | exact HB.out | apply bA_ | apply bN_ | apply bD_) | exact HB.out))) : w.heap.size ≤ gb481));clear HB;have HB := n0_;have BK481 := n1_;have GW481 := n2_;have GE481 := n3_;clear n0_ n1_ n2_ n3_;clear hb hbox hg) | ((with_reducible refine gate_dst (N := 4) rfl ?_);refine box_event ?hg (N := 4) ?hd (cs := #[.int .i64 a1_0,.int .i64 a1_1]) (t := 34) ?hr ?_;(case hd => rfl);(case hg => rfl);(case hr => first | (go_simp;done) | (go_simp;rfl));intro gb482 hg w20 hbox hb;have n0_ := aM_ (kB_ (g := gb481) (o := .cells #[.int .i64 a0_0,.int .i64 a0_1] 34 (0,0)) (by (with_reducible repeat (first | refine kN_ ?_ _ | refine kD_ ?_ | refine kA_ ?_ _));exact BK481.out) hb);have n1_ := aM_ (bT_ (by repeat (first | (with_reducible first | exact HB.out | apply bA_ | apply bN_ | apply bD_ | refine bS_ ?_ GE481.out) | exact HB.out)) hb);have n2_ := aM_ (hbox);have n3_ := aM_ ((by rw [hg];exact (below_size (by repeat (first | (with_reducible first | exact HB.out | apply bA_ | apply bN_ | apply bD_ | refine bS_ ?_ GE481.out) | exact HB.out))) : w.heap.size ≤ gb482));have n4_ := aM_ ((by rw [hg];exact (below_size (by repeat (first | (with_reducible first | exact HB.out | apply bA_ | apply bN_ | apply bD_ | refine bS_ ?_ GE481.out) | exact HB.out))) : w.heap.size ≤ gb482));have n5_ := aM_ ((by rw [hg];exact Nat.ne_of_lt (blk_lt (g := gb481) (o := .cells #[.int .i64 a0_0,.int .i64 a0_1] 34 (0,0)) (by (with_reducible repeat (first | refine kN_ ?_ _ | refine kD_ ?_ | refine kA_ ?_ _));exact BK481.out)) : gb481 ≠ gb482));have n6_ := aM_ ((by rw [hg];exact Nat.ne_of_gt (blk_lt (g := gb481) (o := .cells #[.int .i64 a0_0,.int .i64 a0_1] 34 (0,0)) (by (with_reducible repeat (first | refine kN_ ?_ _ | refine kD_ ?_ | refine kA_ ?_ _));exact BK481.out)) : gb482 ≠ gb481));clear BK481;clear HB;have BK481 := n0_;have HB := n1_;have BK482 := n2_;have GW482 := n3_;have GE482 := n4_;have NB481_482 := n5_;have NB482_481 := n6_;clear n0_ n1_ n2_ n3_ n4_ n5_ n6_;clear hb hbox hg) | ((with_reducible refine gate_dst (N := 6) rfl ?_);refine box_event ?hg (N := 6) ?hd (cs := #[.int .i64 0,.int .i64 0]) (t := 34) ?hr ?_;(case hd => rfl);(case hg => rfl);(case hr => first | (go_simp;done) | (go_simp;rfl));intro gb483 hg w21 hbox hb;have n0_ := aM_ (kB_ (g := gb481) (o := .cells #[.int .i64 a0_0,.int .i64 a0_1] 34 (0,0)) (by (with_reducible repeat (first | refine kN_ ?_ _ | refine kD_ ?_ | refine kA_ ?_ _));exact BK481.out) hb);have n1_ := aM_ (kB_ (g := gb482) (o := .cells #[.int .i64 a1_0,.int .i64 a1_1] 34 (0,0)) (by (with_reducible repeat (first | refine kN_ ?_ _ | refine kD_ ?_ | refine kA_ ?_ _));exact BK482.out) hb);have n2_ := aM_ (bT_ (by repeat (first | (with_reducible first | exact HB.out | apply bA_ | apply bN_ | apply bD_ | refine bS_ ?_ GE481.out | refine bS_ ?_ GE482.out) | exact HB.out)) hb);have n3_ := aM_ (hbox);have n4_ := aM_ ((by rw [hg];exact (below_size (by repeat (first | (with_reducible first | exact HB.out | apply bA_ | apply bN_ | apply bD_ | refine bS_ ?_ GE481.out | refine bS_ ?_ GE482.out) | exact HB.out))) : w.heap.size ≤ gb483));have n5_ := aM_ ((by rw [hg];exact (below_size (by repeat (first | (with_reducible first | exact HB.out | apply bA_ | apply bN_ | apply bD_ | refine bS_ ?_ GE481.out | refine bS_ ?_ GE482.out) | exact HB.out))) : w.heap.size ≤ gb483));have n6_ := aM_ ((by rw [hg];exact Nat.ne_of_lt (blk_lt (g := gb481) (o := .cells #[.int .i64 a0_0,.int .i64 a0_1] 34 (0,0)) (by (with_reducible repeat (first | refine kN_ ?_ _ | refine kD_ ?_ | refine kA_ ?_ _));exact BK481.out)) : gb481 ≠ gb483));have n7_ := aM_ ((by rw [hg];exact Nat.ne_of_gt (blk_lt (g := gb481) (o := .cells #[.int .i64 a0_0,.int .i64 a0_1] 34 (0,0)) (by (with_reducible repeat (first | refine kN_ ?_ _ | refine kD_ ?_ | refine kA_ ?_ _));exact BK481.out)) : gb483 ≠ gb481));have n8_ := aM_ ((by rw [hg];exact Nat.ne_of_lt (blk_lt (g := gb482) (o := .cells #[.int .i64 a1_0,.int .i64 a1_1] 34 (0,0)) (by (with_reducible repeat (first | refine kN_ ?_ _ | refine kD_ ?_ | refine kA_ ?_ _));exact BK482.out)) : gb482 ≠ gb483));have n9_ := aM_ ((by rw [hg];exact Nat.ne_of_gt (blk_lt (g := gb482) (o := .cells #[.int .i64 a1_0,.int .i64 a1_1] 34 (0,0)) (by (with_reducible repeat (first | refine kN_ ?_ _ | refine kD_ ?_ | refine kA_ ?_ _));exact BK482.out)) : gb483 ≠ gb482));clear BK481;clear BK482;clear HB;have BK481 := n0_;have BK482 := n1_;have HB := n2_;have BK483 := n3_;have GW483 := n4_;have GE483 := n5_;have NB481_483 := n6_;have NB483_481 := n7_;have NB482_483 := n8_;have NB483_482 := n9_;clear n0_ n1_ n2_ n3_ n4_ n5_ n6_ n7_ n8_ n9_;clear hb hbox hg;have hnb22 := NB481_482.out;have hnc22 := NB482_481.out;have hnb23 := NB481_483.out;have hnc23 := NB483_481.out;have hcz24_0 : w21.cell? ⟨gb481,0,none⟩ = some (.int .i64 a0_0) := (blk_cell BK481.out 0).trans rfl;have hcz24_1 : w21.cell? ⟨gb481,1,none⟩ = some (.int .i64 a0_1) := (blk_cell BK481.out 1).trans rfl;have hfz24_0 := blk_frozen BK481.out 0;have hfz24_1 := blk_frozen BK481.out 1;have hnb25 := NB482_483.out;have hnc25 := NB483_482.out;have hcz26_0 : w21.cell? ⟨gb482,0,none⟩ = some (.int .i64 a1_0) := (blk_cell BK482.out 0).trans rfl;have hcz26_1 : w21.cell? ⟨gb482,1,none⟩ = some (.int .i64 a1_1) := (blk_cell BK482.out 1).trans rfl;have hfz26_0 := blk_frozen BK482.out 0;have hfz26_1 := blk_frozen BK482.out 1) | ((with_reducible refine gate_callee (f := 65) rfl ?_);refine goesL_ (some 11) rfl rfl Try.func65 (by kernel_rfl) rfl #[.agg #[.int .i64 a0_0,.int .i64 a0_1],.agg #[.int .i64 a1_0,.int .i64 a1_1]] rfl (by (try simp only [List.map_toArray,List.map_cons,List.map_nil]);first | done | rfl) ?_;(with_reducible refine (R_checkAge.calls k a0_0 a0_1 a1_0 a1_1 t484 _ A4.out).mono ?_);rintro e w27 ⟨rfl,hb⟩;refine ⟨_,rfl,?_⟩;have n0_ := aM_ (kB_ (g := gb481) (o := .cells #[.int .i64 a0_0,.int .i64 a0_1] 34 (0,0)) (by (with_reducible repeat (first | refine kN_ ?_ _ | refine kD_ ?_ | refine kA_ ?_ _));exact BK481.out) hb);have n1_ := aM_ (kB_ (g := gb482) (o := .cells #[.int .i64 a1_0,.int .i64 a1_1] 34 (0,0)) (by (with_reducible repeat (first | refine kN_ ?_ _ | refine kD_ ?_ | refine kA_ ?_ _));exact BK482.out) hb);have n2_ := aM_ (kB_ (g := gb483) (o := .cells #[.int .i64 0,.int .i64 0] 34 (0,0)) (by (with_reducible repeat (first | refine kN_ ?_ _ | refine kD_ ?_ | refine kA_ ?_ _));exact BK483.out) hb);have n3_ := aM_ (bT_ (by repeat (first | (with_reducible first | exact HB.out | apply bA_ | apply bN_ | apply bD_ | refine bS_ ?_ GE481.out | refine bS_ ?_ GE482.out | refine bS_ ?_ GE483.out) | exact HB.out)) hb);clear BK481;clear BK482;clear BK483;clear HB;have BK481 := n0_;have BK482 := n1_;have BK483 := n2_;have HB := n3_;clear n0_ n1_ n2_ n3_;(try clear hb);(try clear hb2);(try clear hk);(try clear hi)) | ((with_reducible refine gate_callee (f := 56) rfl ?_);refine goesL_ (some 17) rfl rfl Try.func56 (by kernel_rfl) rfl #[.int .i64 a2,.int .i64 0,.int .i64 1000000] rfl (by (try simp only [List.map_toArray,List.map_cons,List.map_nil]);first | done | rfl) ?_;(with_reducible refine (R_beyond.calls a2 0 1000000 false _ A6.out).mono ?_);rintro e w' ⟨rfl,⟨nd,rfl⟩⟩;refine ⟨_,rfl,?_⟩;(try (rw [drewN_self w27];generalize hq_ : World.drewN w27 _ = w27;have n0_ : Aside0 (w27.heap[gb481]? = some (.cells #[.int .i64 a0_0,.int .i64 a0_1] 34 (0,0))) := ⟨by rw [← hq_];exact (by (with_reducible repeat (first | refine kN_ ?_ _ | refine kD_ ?_ | refine kA_ ?_ _));exact BK481.out)⟩;have n1_ : Aside0 (w27.heap[gb482]? = some (.cells #[.int .i64 a1_0,.int .i64 a1_1] 34 (0,0))) := ⟨by rw [← hq_];exact (by (with_reducible repeat (first | refine kN_ ?_ _ | refine kD_ ?_ | refine kA_ ?_ _));exact BK482.out)⟩;have n2_ : Aside0 (w27.heap[gb483]? = some (.cells #[.int .i64 0,.int .i64 0] 34 (0,0))) := ⟨by rw [← hq_];exact (by (with_reducible repeat (first | refine kN_ ?_ _ | refine kD_ ?_ | refine kA_ ?_ _));exact BK483.out)⟩;have n3_ : Aside0 (Below w.heap.size w w27) := ⟨by rw [← hq_];exact (by repeat (first | (with_reducible first | exact HB.out | apply bA_ | apply bN_ | apply bD_ | refine bS_ ?_ GE481.out | refine bS_ ?_ GE482.out | refine bS_ ?_ GE483.out) | exact HB.out))⟩;clear BK481 BK482 BK483 HB hq_;have BK481 := n0_;have BK482 := n1_;have BK483 := n2_;have HB := n3_;clear n0_ n1_ n2_ n3_));have hcz28_0 : w27.cell? ⟨gb481,0,none⟩ = some (.int .i64 a0_0) := (blk_cell BK481.out 0).trans rfl;have hcz28_1 : w27.cell? ⟨gb481,1,none⟩ = some (.int .i64 a0_1) := (blk_cell BK481.out 1).trans rfl;have hfz28_0 := blk_frozen BK481.out 0;have hfz28_1 := blk_frozen BK481.out 1;have hcz29_0 : w27.cell? ⟨gb482,0,none⟩ = some (.int .i64 a1_0) := (blk_cell BK482.out 0).trans rfl;have hcz29_1 : w27.cell? ⟨gb482,1,none⟩ = some (.int .i64 a1_1) := (blk_cell BK482.out 1).trans rfl;have hfz29_0 := blk_frozen BK482.out 0;have hfz29_1 := blk_frozen BK482.out 1) | ((with_reducible refine gate_callee (f := 66) rfl ?_);refine goesL_ (some 22) rfl rfl Try.func66 (by kernel_rfl) rfl #[.agg #[.int .i64 a0_0,.int .i64 a0_1],.agg #[.int .i64 a1_0,.int .i64 a1_1],.int .i64 a2] rfl (by (try simp only [List.map_toArray,List.map_cons,List.map_nil]);first | done | rfl) ?_;(with_reducible refine (R_aged.calls a0_0 a0_1 a1_0 a1_1 a2 t486 t487 _ A18.out).mono ?_);rintro e w30 ⟨rfl,hb⟩;refine ⟨_,rfl,?_⟩;have n0_ := aM_ (kB_ (g := gb481) (o := .cells #[.int .i64 a0_0,.int .i64 a0_1] 34 (0,0)) (by (with_reducible repeat (first | refine kN_ ?_ _ | refine kD_ ?_ | refine kA_ ?_ _));exact BK481.out) hb);have n1_ := aM_ (kB_ (g := gb482) (o := .cells #[.int .i64 a1_0,.int .i64 a1_1] 34 (0,0)) (by (with_reducible repeat (first | refine kN_ ?_ _ | refine kD_ ?_ | refine kA_ ?_ _));exact BK482.out) hb);have n2_ := aM_ (kB_ (g := gb483) (o := .cells #[.int .i64 0,.int .i64 0] 34 (0,0)) (by (with_reducible repeat (first | refine kN_ ?_ _ | refine kD_ ?_ | refine kA_ ?_ _));exact BK483.out) hb);have n3_ := aM_ (bT_ (by repeat (first | (with_reducible first | exact HB.out | apply bA_ | apply bN_ | apply bD_ | refine bS_ ?_ GE481.out | refine bS_ ?_ GE482.out | refine bS_ ?_ GE483.out) | exact HB.out)) hb);clear BK481;clear BK482;clear BK483;clear HB;have BK481 := n0_;have BK482 := n1_;have BK483 := n2_;have HB := n3_;clear n0_ n1_ n2_ n3_;(try clear hb);(try clear hb2);(try clear hk);(try clear hi);have hcz31_0 : w30.cell? ⟨gb483,0,none⟩ = some (.int .i64 0) := (blk_cell BK483.out 0).trans rfl;have hcz31_1 : w30.cell? ⟨gb483,1,none⟩ = some (.int .i64 0) := (blk_cell BK483.out 1).trans rfl;have hfz31_0 := blk_frozen BK483.out 0;have hfz31_1 := blk_frozen BK483.out 1))
   refine bodyPost_ret (results_ct rfl _ _ gb483 34 #[.int .i64 t486,.int .i64 t487] (0,0) _ rfl (by (with_reducible repeat (first | refine kN_ ?_ _ | refine kD_ ?_ | refine kA_ ?_ _));refine blk_put (cs := #[.int .i64 t486,.int .i64 0]) ?_ 1 _ rfl;(with_reducible repeat (first | refine kN_ ?_ _ | refine kD_ ?_ | refine kA_ ?_ _));refine blk_put (cs := #[.int .i64 0,.int .i64 0]) ?_ 0 _ rfl;(with_reducible repeat (first | refine kN_ ?_ _ | refine kD_ ?_ | refine kA_ ?_ _));exact BK483.out) Try.underlying34 rfl (by kernel_rfl)) rfl ?_
   exact ⟨by first | rfl | (simp [*] <;> rfl),by repeat (first | (with_reducible first | exact HB.out | apply bA_ | apply bN_ | apply bD_ | refine bS_ ?_ GE481.out | refine bS_ ?_ GE482.out | refine bS_ ?_ GE483.out) | exact HB.out)⟩
 ·rw [if_neg c5] at H
  have c5b0 : (t484 == 0) = false := beq_eq_false_iff_ne.mpr c5
  have c5b1 : (t484 != 0) = true := bne_iff_ne.mpr c5
  simp only [Option.some.injEq,Prod.mk.injEq] at H
  obtain ⟨rfl,rfl,rfl⟩ := H
  go_enter Try.func33,Try.ntmps33
  go_wp2_with (first | ((with_reducible refine gate_dst (N := 3) rfl ?_);refine box_event ?hg (N := 3) ?hd (cs := #[.int .i64 a0_0,.int .i64 a0_1]) (t := 34) ?hr ?_;(case hd => rfl);(case hg => rfl);(case hr => first | (go_simp;done) | (go_simp;rfl));intro gb481 hg w32 hbox hb;have n0_ := aM_ (bT_ (by repeat (first | (with_reducible first | exact HB.out | apply bA_ | apply bN_ | apply bD_) | exact HB.out)) hb);have n1_ := aM_ (hbox);have n2_ := aM_ ((by rw [hg];exact (below_size (by repeat (first | (with_reducible first | exact HB.out | apply bA_ | apply bN_ | apply bD_) | exact HB.out))) : w.heap.size ≤ gb481));have n3_ := aM_ ((by rw [hg];exact (below_size (by repeat (first | (with_reducible first | exact HB.out | apply bA_ | apply bN_ | apply bD_) | exact HB.out))) : w.heap.size ≤ gb481));clear HB;have HB := n0_;have BK481 := n1_;have GW481 := n2_;have GE481 := n3_;clear n0_ n1_ n2_ n3_;clear hb hbox hg) | ((with_reducible refine gate_dst (N := 4) rfl ?_);refine box_event ?hg (N := 4) ?hd (cs := #[.int .i64 a1_0,.int .i64 a1_1]) (t := 34) ?hr ?_;(case hd => rfl);(case hg => rfl);(case hr => first | (go_simp;done) | (go_simp;rfl));intro gb482 hg w33 hbox hb;have n0_ := aM_ (kB_ (g := gb481) (o := .cells #[.int .i64 a0_0,.int .i64 a0_1] 34 (0,0)) (by (with_reducible repeat (first | refine kN_ ?_ _ | refine kD_ ?_ | refine kA_ ?_ _));exact BK481.out) hb);have n1_ := aM_ (bT_ (by repeat (first | (with_reducible first | exact HB.out | apply bA_ | apply bN_ | apply bD_ | refine bS_ ?_ GE481.out) | exact HB.out)) hb);have n2_ := aM_ (hbox);have n3_ := aM_ ((by rw [hg];exact (below_size (by repeat (first | (with_reducible first | exact HB.out | apply bA_ | apply bN_ | apply bD_ | refine bS_ ?_ GE481.out) | exact HB.out))) : w.heap.size ≤ gb482));have n4_ := aM_ ((by rw [hg];exact (below_size (by repeat (first | (with_reducible first | exact HB.out | apply bA_ | apply bN_ | apply bD_ | refine bS_ ?_ GE481.out) | exact HB.out))) : w.heap.size ≤ gb482));have n5_ := aM_ ((by rw [hg];exact Nat.ne_of_lt (blk_lt (g := gb481) (o := .cells #[.int .i64 a0_0,.int .i64 a0_1] 34 (0,0)) (by (with_reducible repeat (first | refine kN_ ?_ _ | refine kD_ ?_ | refine kA_ ?_ _));exact BK481.out)) : gb481 ≠ gb482));have n6_ := aM_ ((by rw [hg];exact Nat.ne_of_gt (blk_lt (g := gb481) (o := .cells #[.int .i64 a0_0,.int .i64 a0_1] 34 (0,0)) (by (with_reducible repeat (first | refine kN_ ?_ _ | refine kD_ ?_ | refine kA_ ?_ _));exact BK481.out)) : gb482 ≠ gb481));clear BK481;clear HB;have BK481 := n0_;have HB := n1_;have BK482 := n2_;have GW482 := n3_;have GE482 := n4_;have NB481_482 := n5_;have NB482_481 := n6_;clear n0_ n1_ n2_ n3_ n4_ n5_ n6_;clear hb hbox hg) | ((with_reducible refine gate_dst (N := 6) rfl ?_);refine box_event ?hg (N := 6) ?hd (cs := #[.int .i64 0,.int .i64 0]) (t := 34) ?hr ?_;(case hd => rfl);(case hg => rfl);(case hr => first | (go_simp;done) | (go_simp;rfl));intro gb483 hg w34 hbox hb;have n0_ := aM_ (kB_ (g := gb481) (o := .cells #[.int .i64 a0_0,.int .i64 a0_1] 34 (0,0)) (by (with_reducible repeat (first | refine kN_ ?_ _ | refine kD_ ?_ | refine kA_ ?_ _));exact BK481.out) hb);have n1_ := aM_ (kB_ (g := gb482) (o := .cells #[.int .i64 a1_0,.int .i64 a1_1] 34 (0,0)) (by (with_reducible repeat (first | refine kN_ ?_ _ | refine kD_ ?_ | refine kA_ ?_ _));exact BK482.out) hb);have n2_ := aM_ (bT_ (by repeat (first | (with_reducible first | exact HB.out | apply bA_ | apply bN_ | apply bD_ | refine bS_ ?_ GE481.out | refine bS_ ?_ GE482.out) | exact HB.out)) hb);have n3_ := aM_ (hbox);have n4_ := aM_ ((by rw [hg];exact (below_size (by repeat (first | (with_reducible first | exact HB.out | apply bA_ | apply bN_ | apply bD_ | refine bS_ ?_ GE481.out | refine bS_ ?_ GE482.out) | exact HB.out))) : w.heap.size ≤ gb483));have n5_ := aM_ ((by rw [hg];exact (below_size (by repeat (first | (with_reducible first | exact HB.out | apply bA_ | apply bN_ | apply bD_ | refine bS_ ?_ GE481.out | refine bS_ ?_ GE482.out) | exact HB.out))) : w.heap.size ≤ gb483));have n6_ := aM_ ((by rw [hg];exact Nat.ne_of_lt (blk_lt (g := gb481) (o := .cells #[.int .i64 a0_0,.int .i64 a0_1] 34 (0,0)) (by (with_reducible repeat (first | refine kN_ ?_ _ | refine kD_ ?_ | refine kA_ ?_ _));exact BK481.out)) : gb481 ≠ gb483));have n7_ := aM_ ((by rw [hg];exact Nat.ne_of_gt (blk_lt (g := gb481) (o := .cells #[.int .i64 a0_0,.int .i64 a0_1] 34 (0,0)) (by (with_reducible repeat (first | refine kN_ ?_ _ | refine kD_ ?_ | refine kA_ ?_ _));exact BK481.out)) : gb483 ≠ gb481));have n8_ := aM_ ((by rw [hg];exact Nat.ne_of_lt (blk_lt (g := gb482) (o := .cells #[.int .i64 a1_0,.int .i64 a1_1] 34 (0,0)) (by (with_reducible repeat (first | refine kN_ ?_ _ | refine kD_ ?_ | refine kA_ ?_ _));exact BK482.out)) : gb482 ≠ gb483));have n9_ := aM_ ((by rw [hg];exact Nat.ne_of_gt (blk_lt (g := gb482) (o := .cells #[.int .i64 a1_0,.int .i64 a1_1] 34 (0,0)) (by (with_reducible repeat (first | refine kN_ ?_ _ | refine kD_ ?_ | refine kA_ ?_ _));exact BK482.out)) : gb483 ≠ gb482));clear BK481;clear BK482;clear HB;have BK481 := n0_;have BK482 := n1_;have HB := n2_;have BK483 := n3_;have GW483 := n4_;have GE483 := n5_;have NB481_483 := n6_;have NB483_481 := n7_;have NB482_483 := n8_;have NB483_482 := n9_;clear n0_ n1_ n2_ n3_ n4_ n5_ n6_ n7_ n8_ n9_;clear hb hbox hg;have hnb35 := NB481_482.out;have hnc35 := NB482_481.out;have hnb36 := NB481_483.out;have hnc36 := NB483_481.out;have hcz37_0 : w34.cell? ⟨gb481,0,none⟩ = some (.int .i64 a0_0) := (blk_cell BK481.out 0).trans rfl;have hcz37_1 : w34.cell? ⟨gb481,1,none⟩ = some (.int .i64 a0_1) := (blk_cell BK481.out 1).trans rfl;have hfz37_0 := blk_frozen BK481.out 0;have hfz37_1 := blk_frozen BK481.out 1;have hnb38 := NB482_483.out;have hnc38 := NB483_482.out;have hcz39_0 : w34.cell? ⟨gb482,0,none⟩ = some (.int .i64 a1_0) := (blk_cell BK482.out 0).trans rfl;have hcz39_1 : w34.cell? ⟨gb482,1,none⟩ = some (.int .i64 a1_1) := (blk_cell BK482.out 1).trans rfl;have hfz39_0 := blk_frozen BK482.out 0;have hfz39_1 := blk_frozen BK482.out 1) | ((with_reducible refine gate_callee (f := 65) rfl ?_);refine goesL_ (some 11) rfl rfl Try.func65 (by kernel_rfl) rfl #[.agg #[.int .i64 a0_0,.int .i64 a0_1],.agg #[.int .i64 a1_0,.int .i64 a1_1]] rfl (by (try simp only [List.map_toArray,List.map_cons,List.map_nil]);first | done | rfl) ?_;(with_reducible refine (R_checkAge.calls k a0_0 a0_1 a1_0 a1_1 t484 _ A4.out).mono ?_);rintro e w40 ⟨rfl,hb⟩;refine ⟨_,rfl,?_⟩;have n0_ := aM_ (kB_ (g := gb481) (o := .cells #[.int .i64 a0_0,.int .i64 a0_1] 34 (0,0)) (by (with_reducible repeat (first | refine kN_ ?_ _ | refine kD_ ?_ | refine kA_ ?_ _));exact BK481.out) hb);have n1_ := aM_ (kB_ (g := gb482) (o := .cells #[.int .i64 a1_0,.int .i64 a1_1] 34 (0,0)) (by (with_reducible repeat (first | refine kN_ ?_ _ | refine kD_ ?_ | refine kA_ ?_ _));exact BK482.out) hb);have n2_ := aM_ (kB_ (g := gb483) (o := .cells #[.int .i64 0,.int .i64 0] 34 (0,0)) (by (with_reducible repeat (first | refine kN_ ?_ _ | refine kD_ ?_ | refine kA_ ?_ _));exact BK483.out) hb);have n3_ := aM_ (bT_ (by repeat (first | (with_reducible first | exact HB.out | apply bA_ | apply bN_ | apply bD_ | refine bS_ ?_ GE481.out | refine bS_ ?_ GE482.out | refine bS_ ?_ GE483.out) | exact HB.out)) hb);clear BK481;clear BK482;clear BK483;clear HB;have BK481 := n0_;have BK482 := n1_;have BK483 := n2_;have HB := n3_;clear n0_ n1_ n2_ n3_;(try clear hb);(try clear hb2);(try clear hk);(try clear hi);have hcz41_0 : w40.cell? ⟨gb483,0,none⟩ = some (.int .i64 0) := (blk_cell BK483.out 0).trans rfl;have hcz41_1 : w40.cell? ⟨gb483,1,none⟩ = some (.int .i64 0) := (blk_cell BK483.out 1).trans rfl;have hfz41_0 := blk_frozen BK483.out 0;have hfz41_1 := blk_frozen BK483.out 1))
  refine bodyPost_ret (results_ct rfl _ _ gb483 34 #[.int .i64 0,.int .i64 0] (0,0) _ rfl (by (with_reducible repeat (first | refine kN_ ?_ _ | refine kD_ ?_ | refine kA_ ?_ _));refine blk_put (cs := #[.int .i64 0,.int .i64 0]) ?_ 1 _ rfl;(with_reducible repeat (first | refine kN_ ?_ _ | refine kD_ ?_ | refine kA_ ?_ _));refine blk_put (cs := #[.int .i64 0,.int .i64 0]) ?_ 0 _ rfl;(with_reducible repeat (first | refine kN_ ?_ _ | refine kD_ ?_ | refine kA_ ?_ _));exact BK483.out) Try.underlying34 rfl (by kernel_rfl)) rfl ?_
  exact ⟨by first | rfl | (simp [*] <;> rfl),by repeat (first | (with_reducible first | exact HB.out | apply bA_ | apply bN_ | apply bD_ | refine bS_ ?_ GE481.out | refine bS_ ?_ GE482.out | refine bS_ ?_ GE483.out) | exact HB.out)⟩

/-! ### R_Verdict: function 74 -/
mutual
def R_Verdict.j0 : Nat → Bool → Int → Int → Int → Int → Option (Int)
 | 0,_,_,_,_,_ => none
 | k + 1,x5,x489000,x489001,x490000,x490001 => if x5 = true then (some 0) else (if x489000 ≥ x490000 then (R_Verdict.j1 k (decide (x489001 ≤ x490001)) x489000 x489001 x490000 x490001) else (R_Verdict.j1 k false x489000 x489001 x490000 x490001))
def R_Verdict.j1 : Nat → Bool → Int → Int → Int → Int → Option (Int)
 | 0,_,_,_,_,_ => none
 | k + 1,x18,x489000,x489001,x490000,x490001 => if x18 = true then (some 1) else (if x489001 < x490000 then (some 2) else (if x489000 > x490001 then (some 2) else (some 3)))
end
def R_Verdict.f (k : Nat) (a0_0 : Int) (a0_1 : Int) (a1_0 : Int) (a1_1 : Int) : Option (Int) := if a0_0 > a0_1 then (R_Verdict.j0 k true a0_0 a0_1 a1_0 a1_1) else (R_Verdict.j0 k (decide (a1_0 > a1_1)) a0_0 a0_1 a1_0 a1_1)
set_option maxHeartbeats 8000000 in
set_option maxRecDepth 100000 in
theorem R_Verdict.calls (k : Nat) (a0_0 : Int) (a0_1 : Int) (a1_0 : Int) (a1_1 : Int) (r : Int) (w : World) (h : R_Verdict.f k a0_0 a0_1 a1_0 a1_1 = some r) :
  Calls Try.prog 74 #[.agg #[.int .i64 a0_0,.int .i64 a0_1],.agg #[.int .i64 a1_0,.int .i64 a1_1]] w fun e w' => e = .returned (.int .i64 r) ∧ Below w.heap.size w w' := by
 have hu34 := Try.underlying34
 have HB := aM_ (Below.refl w.heap.size w)
 have H : (if a0_0 > a0_1 then (R_Verdict.j0 k true a0_0 a0_1 a1_0 a1_1) else (R_Verdict.j0 k (decide (a1_0 > a1_1)) a0_0 a0_1 a1_0 a1_1)) = some r := h
 clear h
 have HC3 := aM_ H
 clear H
 go_enter Try.func74,Try.ntmps74
 go_upto_region 1 with (first | ((with_reducible refine gate_dst (N := 2) rfl ?_);refine box_event ?hg (N := 2) ?hd (cs := #[.int .i64 a0_0,.int .i64 a0_1]) (t := 34) ?hr ?_;(case hd => rfl);(case hg => rfl);(case hr => first | (go_simp;done) | (go_simp;rfl));intro gb488 hg w4 hbox hb;have n0_ := aM_ (bT_ (by repeat (first | (with_reducible first | exact HB.out | apply bA_ | apply bN_ | apply bD_) | exact HB.out)) hb);have n1_ := aM_ (hbox);have n2_ := aM_ ((by rw [hg];exact (below_size (by repeat (first | (with_reducible first | exact HB.out | apply bA_ | apply bN_ | apply bD_) | exact HB.out))) : w.heap.size ≤ gb488));have n3_ := aM_ ((by rw [hg];exact (below_size (by repeat (first | (with_reducible first | exact HB.out | apply bA_ | apply bN_ | apply bD_) | exact HB.out))) : w.heap.size ≤ gb488));clear HB;have HB := n0_;have BK488 := n1_;have GW488 := n2_;have GE488 := n3_;clear n0_ n1_ n2_ n3_;clear hb hbox hg) | ((with_reducible refine gate_dst (N := 3) rfl ?_);refine box_event ?hg (N := 3) ?hd (cs := #[.int .i64 a1_0,.int .i64 a1_1]) (t := 34) ?hr ?_;(case hd => rfl);(case hg => rfl);(case hr => first | (go_simp;done) | (go_simp;rfl));intro gb489 hg w5 hbox hb;have n0_ := aM_ (kB_ (g := gb488) (o := .cells #[.int .i64 a0_0,.int .i64 a0_1] 34 (0,0)) (by (with_reducible repeat (first | refine kN_ ?_ _ | refine kD_ ?_ | refine kA_ ?_ _));exact BK488.out) hb);have n1_ := aM_ (bT_ (by repeat (first | (with_reducible first | exact HB.out | apply bA_ | apply bN_ | apply bD_ | refine bS_ ?_ GE488.out) | exact HB.out)) hb);have n2_ := aM_ (hbox);have n3_ := aM_ ((by rw [hg];exact (below_size (by repeat (first | (with_reducible first | exact HB.out | apply bA_ | apply bN_ | apply bD_ | refine bS_ ?_ GE488.out) | exact HB.out))) : w.heap.size ≤ gb489));have n4_ := aM_ ((by rw [hg];exact (below_size (by repeat (first | (with_reducible first | exact HB.out | apply bA_ | apply bN_ | apply bD_ | refine bS_ ?_ GE488.out) | exact HB.out))) : w.heap.size ≤ gb489));have n5_ := aM_ ((by rw [hg];exact Nat.ne_of_lt (blk_lt (g := gb488) (o := .cells #[.int .i64 a0_0,.int .i64 a0_1] 34 (0,0)) (by (with_reducible repeat (first | refine kN_ ?_ _ | refine kD_ ?_ | refine kA_ ?_ _));exact BK488.out)) : gb488 ≠ gb489));have n6_ := aM_ ((by rw [hg];exact Nat.ne_of_gt (blk_lt (g := gb488) (o := .cells #[.int .i64 a0_0,.int .i64 a0_1] 34 (0,0)) (by (with_reducible repeat (first | refine kN_ ?_ _ | refine kD_ ?_ | refine kA_ ?_ _));exact BK488.out)) : gb489 ≠ gb488));clear BK488;clear HB;have BK488 := n0_;have HB := n1_;have BK489 := n2_;have GW489 := n3_;have GE489 := n4_;have NB488_489 := n5_;have NB489_488 := n6_;clear n0_ n1_ n2_ n3_ n4_ n5_ n6_;clear hb hbox hg))
 (try simp only [Act.put,sB_,sZ_,sS_])
 go_cut [5] (fun v5 wc => ∃ (kq : Nat) (x5_2 : Bool),v5 = .bool x5_2 ∧ Aside0 (R_Verdict.j0 kq x5_2 a0_0 a0_1 a1_0 a1_1 = some r) ∧ Aside0 (kq ≤ k) ∧ Aside0 (wc.heap[gb488]? = some (.cells #[.int .i64 a0_0,.int .i64 a0_1] 34 (0,0))) ∧ Aside0 (wc.heap[gb489]? = some (.cells #[.int .i64 a1_0,.int .i64 a1_1] 34 (0,0))) ∧ Aside0 (Below w.heap.size w wc))
 case first =>
  have H := HC3.out
  clear HC3
  by_cases c6 : a0_0 > a0_1
  ·rw [if_pos c6] at H
   have c6b0 : decide (a0_1 < a0_0) = true := decide_eq_true c6
   clear c6
   (first | rw [c6b0] | (simp only [i64_w,i32_w];rw [c6b0]) | skip)
   have H' := aM_ H
   clear H
   have hnb7 := NB488_489.out
   have hnc7 := NB489_488.out
   have hcz8_0 : w5.cell? ⟨gb488,0,none⟩ = some (.int .i64 a0_0) := (blk_cell BK488.out 0).trans rfl
   have hcz8_1 : w5.cell? ⟨gb488,1,none⟩ = some (.int .i64 a0_1) := (blk_cell BK488.out 1).trans rfl
   have hfz8_0 := blk_frozen BK488.out 0
   have hfz8_1 := blk_frozen BK488.out 1
   go_wp2
   go_meet
   case rel => exact ⟨_,(true),(by first | rfl | (simp;done) | (simp [*];done)),H',⟨by first | omega | exact Nat.le_refl _⟩,⟨by (with_reducible repeat (first | refine kN_ ?_ _ | refine kD_ ?_ | refine kA_ ?_ _));exact BK488.out⟩,⟨by (with_reducible repeat (first | refine kN_ ?_ _ | refine kD_ ?_ | refine kA_ ?_ _));exact BK489.out⟩,⟨by repeat (first | (with_reducible first | exact HB.out | apply bA_ | apply bN_ | apply bD_ | refine bS_ ?_ GE488.out | refine bS_ ?_ GE489.out) | exact HB.out)⟩⟩
  ·rw [if_neg c6] at H
   have c6b0 : decide (a0_1 < a0_0) = false := decide_eq_false c6
   clear c6
   (first | rw [c6b0] | (simp only [i64_w,i32_w];rw [c6b0]) | skip)
   have H' := aM_ H
   clear H
   have hnb9 := NB488_489.out
   have hnc9 := NB489_488.out
   have hcz10_0 : w5.cell? ⟨gb488,0,none⟩ = some (.int .i64 a0_0) := (blk_cell BK488.out 0).trans rfl
   have hcz10_1 : w5.cell? ⟨gb488,1,none⟩ = some (.int .i64 a0_1) := (blk_cell BK488.out 1).trans rfl
   have hfz10_0 := blk_frozen BK488.out 0
   have hfz10_1 := blk_frozen BK488.out 1
   have hcz11_0 : w5.cell? ⟨gb489,0,none⟩ = some (.int .i64 a1_0) := (blk_cell BK489.out 0).trans rfl
   have hcz11_1 : w5.cell? ⟨gb489,1,none⟩ = some (.int .i64 a1_1) := (blk_cell BK489.out 1).trans rfl
   have hfz11_0 := blk_frozen BK489.out 0
   have hfz11_1 := blk_frozen BK489.out 1
   go_wp2
   go_meet
   case rel => exact ⟨_,(decide (a1_0 > a1_1)),(by first | rfl | (simp;done) | (simp [*];done)),H',⟨by first | omega | exact Nat.le_refl _⟩,⟨by (with_reducible repeat (first | refine kN_ ?_ _ | refine kD_ ?_ | refine kA_ ?_ _));exact BK488.out⟩,⟨by (with_reducible repeat (first | refine kN_ ?_ _ | refine kD_ ?_ | refine kA_ ?_ _));exact BK489.out⟩,⟨by repeat (first | (with_reducible first | exact HB.out | apply bA_ | apply bN_ | apply bD_ | refine bS_ ?_ GE488.out | refine bS_ ?_ GE489.out) | exact HB.out)⟩⟩
 case rest =>
  clear HC3
  try clear p2
  try clear c6
  try clear c6b0
  try clear c7
  try clear c9
  try clear hcz10_0
  try clear hcz10_1
  try clear hcz11_0
  try clear hcz11_1
  try clear hcz8_0
  try clear hcz8_1
  try clear hfz10_0
  try clear hfz10_1
  try clear hfz11_0
  try clear hfz11_1
  try clear hfz8_0
  try clear hfz8_1
  obtain ⟨kq,x5_2,rfl,HA,HJ2,BK488,BK489,HB⟩ := hcut
  cases kq with
  | zero => exact absurd HA.out (by simp [R_Verdict.j0])
  | succ kj2 =>
   have H := HA.out
   clear HA
   simp only [R_Verdict.j0] at H
   by_cases c12 : x5_2 = true
   ·subst c12
    have H1 : (some 0) = some r := by rw [if_pos rfl] at H;exact H
    clear H
    have H := H1
    clear H1
    obtain rfl := Option.some.inj H
    go_wp2
    go_ret
    exact ⟨by first | rfl | (simp [*] <;> rfl),by repeat (first | (with_reducible first | exact HB.out | apply bA_ | apply bN_ | apply bD_ | refine bS_ ?_ GE488.out | refine bS_ ?_ GE489.out) | exact HB.out)⟩
   ·replace c12 := Bool.eq_false_iff.mpr c12
    subst c12
    have H1 : (if a0_0 ≥ a1_0 then (R_Verdict.j1 kj2 (decide (a0_1 ≤ a1_1)) a0_0 a0_1 a1_0 a1_1) else (R_Verdict.j1 kj2 false a0_0 a0_1 a1_0 a1_1)) = some r := by rw [if_neg (show ¬ (false = true) by decide)] at H;exact H
    clear H
    have H := H1
    clear H1
    have HC13 := aM_ H
    clear H
    go_upto_region 3 with (fail)
    go_cut [18] (fun v18 wc => ∃ (kq : Nat) (x18_12 : Bool),v18 = .bool x18_12 ∧ Aside0 (R_Verdict.j1 kq x18_12 a0_0 a0_1 a1_0 a1_1 = some r) ∧ Aside0 (kq ≤ kj2) ∧ Aside0 (wc.heap[gb488]? = some (.cells #[.int .i64 a0_0,.int .i64 a0_1] 34 (0,0))) ∧ Aside0 (wc.heap[gb489]? = some (.cells #[.int .i64 a1_0,.int .i64 a1_1] 34 (0,0))) ∧ Aside0 (Below w.heap.size w wc))
    case first =>
     have H := HC13.out
     clear HC13
     by_cases c14 : a0_0 ≥ a1_0
     ·rw [if_pos c14] at H
      have c14b0 : decide (a1_0 ≤ a0_0) = true := decide_eq_true c14
      clear c14
      (first | rw [c14b0] | (simp only [i64_w,i32_w];rw [c14b0]) | skip)
      have H' := aM_ H
      clear H
      have hnb15 := NB488_489.out
      have hnc15 := NB489_488.out
      have hcz16_0 : wc.cell? ⟨gb488,0,none⟩ = some (.int .i64 a0_0) := (blk_cell BK488.out 0).trans rfl
      have hcz16_1 : wc.cell? ⟨gb488,1,none⟩ = some (.int .i64 a0_1) := (blk_cell BK488.out 1).trans rfl
      have hfz16_0 := blk_frozen BK488.out 0
      have hfz16_1 := blk_frozen BK488.out 1
      have hcz17_0 : wc.cell? ⟨gb489,0,none⟩ = some (.int .i64 a1_0) := (blk_cell BK489.out 0).trans rfl
      have hcz17_1 : wc.cell? ⟨gb489,1,none⟩ = some (.int .i64 a1_1) := (blk_cell BK489.out 1).trans rfl
      have hfz17_0 := blk_frozen BK489.out 0
      have hfz17_1 := blk_frozen BK489.out 1
      go_wp2
      go_meet
      case rel => exact ⟨_,(decide (a0_1 ≤ a1_1)),(by first | rfl | (simp;done) | (simp [*];done)),H',⟨by have := HJ2.out;first | omega | exact Nat.le_refl _⟩,⟨by (with_reducible repeat (first | refine kN_ ?_ _ | refine kD_ ?_ | refine kA_ ?_ _));exact BK488.out⟩,⟨by (with_reducible repeat (first | refine kN_ ?_ _ | refine kD_ ?_ | refine kA_ ?_ _));exact BK489.out⟩,⟨by repeat (first | (with_reducible first | exact HB.out | apply bA_ | apply bN_ | apply bD_ | refine bS_ ?_ GE488.out | refine bS_ ?_ GE489.out) | exact HB.out)⟩⟩
     ·rw [if_neg c14] at H
      have c14b0 : decide (a1_0 ≤ a0_0) = false := decide_eq_false c14
      clear c14
      (first | rw [c14b0] | (simp only [i64_w,i32_w];rw [c14b0]) | skip)
      have H' := aM_ H
      clear H
      have hnb18 := NB488_489.out
      have hnc18 := NB489_488.out
      have hcz19_0 : wc.cell? ⟨gb488,0,none⟩ = some (.int .i64 a0_0) := (blk_cell BK488.out 0).trans rfl
      have hcz19_1 : wc.cell? ⟨gb488,1,none⟩ = some (.int .i64 a0_1) := (blk_cell BK488.out 1).trans rfl
      have hfz19_0 := blk_frozen BK488.out 0
      have hfz19_1 := blk_frozen BK488.out 1
      have hcz20_0 : wc.cell? ⟨gb489,0,none⟩ = some (.int .i64 a1_0) := (blk_cell BK489.out 0).trans rfl
      have hcz20_1 : wc.cell? ⟨gb489,1,none⟩ = some (.int .i64 a1_1) := (blk_cell BK489.out 1).trans rfl
      have hfz20_0 := blk_frozen BK489.out 0
      have hfz20_1 := blk_frozen BK489.out 1
      go_wp2
      go_meet
      case rel => exact ⟨_,(false),(by first | rfl | (simp;done) | (simp [*];done)),H',⟨by have := HJ2.out;first | omega | exact Nat.le_refl _⟩,⟨by (with_reducible repeat (first | refine kN_ ?_ _ | refine kD_ ?_ | refine kA_ ?_ _));exact BK488.out⟩,⟨by (with_reducible repeat (first | refine kN_ ?_ _ | refine kD_ ?_ | refine kA_ ?_ _));exact BK489.out⟩,⟨by repeat (first | (with_reducible first | exact HB.out | apply bA_ | apply bN_ | apply bD_ | refine bS_ ?_ GE488.out | refine bS_ ?_ GE489.out) | exact HB.out)⟩⟩
    case rest =>
     clear HC13
     try clear c1
     try clear p2
     try clear c6
     try clear c6b0
     try clear c7
     try clear c9
     try clear c12
     try clear c14
     try clear c14b0
     try clear c15
     try clear c18
     try clear hcz10_0
     try clear hcz10_1
     try clear hcz11_0
     try clear hcz11_1
     try clear hcz16_0
     try clear hcz16_1
     try clear hcz17_0
     try clear hcz17_1
     try clear hcz19_0
     try clear hcz19_1
     try clear hcz20_0
     try clear hcz20_1
     try clear hcz8_0
     try clear hcz8_1
     try clear hfz10_0
     try clear hfz10_1
     try clear hfz11_0
     try clear hfz11_1
     try clear hfz16_0
     try clear hfz16_1
     try clear hfz17_0
     try clear hfz17_1
     try clear hfz19_0
     try clear hfz19_1
     try clear hfz20_0
     try clear hfz20_1
     try clear hfz8_0
     try clear hfz8_1
     try clear p2
     obtain ⟨kq,x18_12,rfl,HA,HJ12,BK488,BK489,HB⟩ := hcut
     cases kq with
     | zero => exact absurd HA.out (by simp [R_Verdict.j1])
     | succ kj12 =>
      have H := HA.out
      clear HA
      simp only [R_Verdict.j1] at H
      by_cases c21 : x18_12 = true
      ·subst c21
       have H1 : (some 1) = some r := by rw [if_pos rfl] at H;exact H
       clear H
       have H := H1
       clear H1
       obtain rfl := Option.some.inj H
       go_wp2
       go_ret
       exact ⟨by first | rfl | (simp [*] <;> rfl),by repeat (first | (with_reducible first | exact HB.out | apply bA_ | apply bN_ | apply bD_ | refine bS_ ?_ GE488.out | refine bS_ ?_ GE489.out) | exact HB.out)⟩
      ·replace c21 := Bool.eq_false_iff.mpr c21
       subst c21
       have H1 : (if a0_1 < a1_0 then (some 2) else (if a0_0 > a1_1 then (some 2) else (some 3))) = some r := by rw [if_neg (show ¬ (false = true) by decide)] at H;exact H
       clear H
       have H := H1
       clear H1
       by_cases c22 : a0_1 < a1_0
       ·rw [if_pos c22] at H
        have c22b0 : decide (a0_1 < a1_0) = true := decide_eq_true c22
        clear c22
        obtain rfl := Option.some.inj H
        have hnb23 := NB488_489.out
        have hnc23 := NB489_488.out
        have hcz24_0 : wc.cell? ⟨gb488,0,none⟩ = some (.int .i64 a0_0) := (blk_cell BK488.out 0).trans rfl
        have hcz24_1 : wc.cell? ⟨gb488,1,none⟩ = some (.int .i64 a0_1) := (blk_cell BK488.out 1).trans rfl
        have hfz24_0 := blk_frozen BK488.out 0
        have hfz24_1 := blk_frozen BK488.out 1
        have hcz25_0 : wc.cell? ⟨gb489,0,none⟩ = some (.int .i64 a1_0) := (blk_cell BK489.out 0).trans rfl
        have hcz25_1 : wc.cell? ⟨gb489,1,none⟩ = some (.int .i64 a1_1) := (blk_cell BK489.out 1).trans rfl
        have hfz25_0 := blk_frozen BK489.out 0
        have hfz25_1 := blk_frozen BK489.out 1
        go_wp2
        go_ret
        exact ⟨by first | rfl | (simp [*] <;> rfl),by repeat (first | (with_reducible first | exact HB.out | apply bA_ | apply bN_ | apply bD_ | refine bS_ ?_ GE488.out | refine bS_ ?_ GE489.out) | exact HB.out)⟩
       ·rw [if_neg c22] at H
        have c22b0 : decide (a0_1 < a1_0) = false := decide_eq_false c22
        clear c22
        by_cases c26 : a0_0 > a1_1
        ·rw [if_pos c26] at H
         have c26b0 : decide (a1_1 < a0_0) = true := decide_eq_true c26
         clear c26
         obtain rfl := Option.some.inj H
         have hnb27 := NB488_489.out
         have hnc27 := NB489_488.out
         have hcz28_0 : wc.cell? ⟨gb488,0,none⟩ = some (.int .i64 a0_0) := (blk_cell BK488.out 0).trans rfl
         have hcz28_1 : wc.cell? ⟨gb488,1,none⟩ = some (.int .i64 a0_1) := (blk_cell BK488.out 1).trans rfl
         have hfz28_0 := blk_frozen BK488.out 0
         have hfz28_1 := blk_frozen BK488.out 1
         have hcz29_0 : wc.cell? ⟨gb489,0,none⟩ = some (.int .i64 a1_0) := (blk_cell BK489.out 0).trans rfl
         have hcz29_1 : wc.cell? ⟨gb489,1,none⟩ = some (.int .i64 a1_1) := (blk_cell BK489.out 1).trans rfl
         have hfz29_0 := blk_frozen BK489.out 0
         have hfz29_1 := blk_frozen BK489.out 1
         go_wp2
         go_ret
         exact ⟨by first | rfl | (simp [*] <;> rfl),by repeat (first | (with_reducible first | exact HB.out | apply bA_ | apply bN_ | apply bD_ | refine bS_ ?_ GE488.out | refine bS_ ?_ GE489.out) | exact HB.out)⟩
        ·rw [if_neg c26] at H
         have c26b0 : decide (a1_1 < a0_0) = false := decide_eq_false c26
         clear c26
         obtain rfl := Option.some.inj H
         have hnb30 := NB488_489.out
         have hnc30 := NB489_488.out
         have hcz31_0 : wc.cell? ⟨gb488,0,none⟩ = some (.int .i64 a0_0) := (blk_cell BK488.out 0).trans rfl
         have hcz31_1 : wc.cell? ⟨gb488,1,none⟩ = some (.int .i64 a0_1) := (blk_cell BK488.out 1).trans rfl
         have hfz31_0 := blk_frozen BK488.out 0
         have hfz31_1 := blk_frozen BK488.out 1
         have hcz32_0 : wc.cell? ⟨gb489,0,none⟩ = some (.int .i64 a1_0) := (blk_cell BK489.out 0).trans rfl
         have hcz32_1 : wc.cell? ⟨gb489,1,none⟩ = some (.int .i64 a1_1) := (blk_cell BK489.out 1).trans rfl
         have hfz32_0 := blk_frozen BK489.out 0
         have hfz32_1 := blk_frozen BK489.out 1
         go_wp2
         go_ret
         exact ⟨by first | rfl | (simp [*] <;> rfl),by repeat (first | (with_reducible first | exact HB.out | apply bA_ | apply bN_ | apply bD_ | refine bS_ ?_ GE488.out | refine bS_ ?_ GE489.out) | exact HB.out)⟩

end Go.Proofs.Ytdbpobadeibjaaa.GE
