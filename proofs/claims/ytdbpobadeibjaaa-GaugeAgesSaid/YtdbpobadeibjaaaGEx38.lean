-- written for this claim by a program of this session (wip/gp), over the kit's own printer; Lean checks it
import Derived.Test.YtdbpobadeibjaaaGEx0
import Derived.Test.YtdbpobadeibjaaaGEx17
import Derived.Test.YtdbpobadeibjaaaGEx36
import Derived.Test.YtdbpobadeibjaaaGEx37
namespace Go.Proofs.Ytdbpobadeibjaaa.GE
open Go.RowKit Go.Proofs.YtdbpobadeibjaaaW.PrintWords Go.Proofs.YtdbpobadeibjaaaW.PrintLast Go.Proofs.YtdbpobadeibjaaaW.PrintMore
attribute [local go_sem] max2_int min2_int max_two min_two max_three min_three max_four min_four
set_option linter.unusedVariables false
set_option linter.unusedSimpArgs false

/-! ### R_Keeps: function 35 -/
mutual
def R_Keeps.l0 : Nat → Bool → Bool → Int → Int → Int → Int → Int → Int → Int → Int → Int → Option (Int × Int × Int)
 | 0,_,_,_,_,_,_,_,_,_,_,_ => none
 | k + 1,x11,x12,x13,x491000,x491001,x492000,x492001,x493000,x493001,x497000,x497001 => if x13 ≤ 1000000 then (R_Keeps.j1 k x11 x13 x12 x491000 x491001 x492000 x492001 x493000 x493001 x497000 x497001) else (R_Keeps.j1 k x11 x13 false x491000 x491001 x492000 x492001 x493000 x493001 x497000 x497001)
def R_Keeps.j1 : Nat → Bool → Int → Bool → Int → Int → Int → Int → Int → Int → Int → Int → Option (Int × Int × Int)
 | 0,_,_,_,_,_,_,_,_,_,_,_ => none
 | k + 1,x11,x13,x33,x491000,x491001,x492000,x492001,x493000,x493001,x497000,x497001 => if x33 = true then ((R_aged.f x491000 x491001 x492000 x492001 x13).bind fun bt497 => ((R_Verdict.f k bt497.1 bt497.2 x493000 x493001).bind fun t499 => (if x11 = true then (R_Keeps.j2 k (t499 == 1) x13 t499 x491000 x491001 x492000 x492001 x493000 x493001 x497000 x497001) else (R_Keeps.j2 k false x13 t499 x491000 x491001 x492000 x492001 x493000 x493001 x497000 x497001)))) else (some (x497000,x497001,0))
def R_Keeps.j2 : Nat → Bool → Int → Int → Int → Int → Int → Int → Int → Int → Int → Int → Option (Int × Int × Int)
 | 0,_,_,_,_,_,_,_,_,_,_,_ => none
 | k + 1,x11,x13,x14,x491000,x491001,x492000,x492001,x493000,x493001,x497000,x497001 => if x11 = true then (if x14 = 2 then (R_Keeps.l0 k x11 (x14 != 2) (wrap64 (x13 + 1)) x491000 x491001 x492000 x492001 x493000 x493001 x13 x497001) else (R_Keeps.l0 k x11 (x14 != 2) (wrap64 (x13 + 1)) x491000 x491001 x492000 x492001 x493000 x493001 x13 x13)) else (if x14 = 2 then (R_Keeps.l0 k x11 (x14 != 2) (wrap64 (x13 + 1)) x491000 x491001 x492000 x492001 x493000 x493001 x497000 x497001) else (R_Keeps.l0 k x11 (x14 != 2) (wrap64 (x13 + 1)) x491000 x491001 x492000 x492001 x493000 x493001 x497000 x13))
end
def R_Keeps.f (k : Nat) (a0_0 : Int) (a0_1 : Int) (a1_0 : Int) (a1_1 : Int) (a2_0 : Int) (a2_1 : Int) : Option (Int × Int × Int) := (R_checkAge.f k a0_0 a0_1 a1_0 a1_1).bind fun t494 => (if t494 = 0 then ((R_checkRange.f k a2_0 a2_1 (-1000000000) 1000000000).bind fun t495 => (if t495 = 0 then (R_Keeps.l0 k true true 0 a0_0 a0_1 a1_0 a1_1 a2_0 a2_1 (-1) (-1)) else (some (0,0,t495)))) else (some (0,0,t494)))
set_option maxHeartbeats 8000000 in
set_option maxRecDepth 100000 in
theorem R_Keeps.calls (k : Nat) (a0_0 : Int) (a0_1 : Int) (a1_0 : Int) (a1_1 : Int) (a2_0 : Int) (a2_1 : Int) (r1 : Int) (r2 : Int) (r3 : Int) (w : World) (h : R_Keeps.f k a0_0 a0_1 a1_0 a1_1 a2_0 a2_1 = some (r1,r2,r3)) :
  Calls Try.prog 35 #[.agg #[.int .i64 a0_0,.int .i64 a0_1],.agg #[.int .i64 a1_0,.int .i64 a1_1],.agg #[.int .i64 a2_0,.int .i64 a2_1]] w fun e w' => e = .returned (.tuple #[.agg #[.int .i64 r1,.int .i64 r2],.int .i64 r3]) ∧ Below w.heap.size w w' := by
 have hu34 := Try.underlying34
 have HB := aM_ (Below.refl w.heap.size w)
 have H : ((R_checkAge.f k a0_0 a0_1 a1_0 a1_1).bind fun t494 => (if t494 = 0 then ((R_checkRange.f k a2_0 a2_1 (-1000000000) 1000000000).bind fun t495 => (if t495 = 0 then (R_Keeps.l0 k true true 0 a0_0 a0_1 a1_0 a1_1 a2_0 a2_1 (-1) (-1)) else (some (0,0,t495)))) else (some (0,0,t494)))) = some (r1,r2,r3) := h
 clear h
 replace H := oB_ H
 obtain ⟨t494,A40,H⟩ := H
 replace H : (if t494 = 0 then ((R_checkRange.f k a2_0 a2_1 (-1000000000) 1000000000).bind fun t495 => (if t495 = 0 then (R_Keeps.l0 k true true 0 a0_0 a0_1 a1_0 a1_1 a2_0 a2_1 (-1) (-1)) else (some (0,0,t495)))) else (some (0,0,t494))) = some (r1,r2,r3) := H
 have A4 := aM_ A40
 clear A40
 by_cases c5 : t494 = 0
 ·rw [if_pos c5] at H
  have c5b0 : (t494 == 0) = true := beq_iff_eq.mpr c5
  have c5b1 : (t494 != 0) = false := bne_eq_false_iff_eq.mpr c5
  clear c5
  replace H := oB_ H
  obtain ⟨t495,A60,H⟩ := H
  replace H : (if t495 = 0 then (R_Keeps.l0 k true true 0 a0_0 a0_1 a1_0 a1_1 a2_0 a2_1 (-1) (-1)) else (some (0,0,t495))) = some (r1,r2,r3) := H
  have A6 := aM_ A60
  clear A60
  by_cases c7 : t495 = 0
  ·rw [if_pos c7] at H
   have c7b0 : (t495 == 0) = true := beq_iff_eq.mpr c7
   have c7b1 : (t495 != 0) = false := bne_eq_false_iff_eq.mpr c7
   clear c7
   have H' := aM_ H
   clear H
   go_enter Try.func35,Try.ntmps35
   go_wp2_with (first | ((with_reducible refine gate_dst (N := 3) rfl ?_);refine box_event ?hg (N := 3) ?hd (cs := #[.int .i64 a0_0,.int .i64 a0_1]) (t := 34) ?hr ?_;(case hd => rfl);(case hg => rfl);(case hr => first | (go_simp;done) | (go_simp;rfl));intro gb490 hg w8 hbox hb;have n0_ := aM_ (bT_ (by repeat (first | (with_reducible first | exact HB.out | apply bA_ | apply bN_ | apply bD_) | exact HB.out)) hb);have n1_ := aM_ (hbox);have n2_ := aM_ ((by rw [hg];exact (below_size (by repeat (first | (with_reducible first | exact HB.out | apply bA_ | apply bN_ | apply bD_) | exact HB.out))) : w.heap.size ≤ gb490));have n3_ := aM_ ((by rw [hg];exact (below_size (by repeat (first | (with_reducible first | exact HB.out | apply bA_ | apply bN_ | apply bD_) | exact HB.out))) : w.heap.size ≤ gb490));clear HB;have HB := n0_;have BK490 := n1_;have GW490 := n2_;have GE490 := n3_;clear n0_ n1_ n2_ n3_;clear hb hbox hg) | ((with_reducible refine gate_dst (N := 4) rfl ?_);refine box_event ?hg (N := 4) ?hd (cs := #[.int .i64 a1_0,.int .i64 a1_1]) (t := 34) ?hr ?_;(case hd => rfl);(case hg => rfl);(case hr => first | (go_simp;done) | (go_simp;rfl));intro gb491 hg w9 hbox hb;have n0_ := aM_ (kB_ (g := gb490) (o := .cells #[.int .i64 a0_0,.int .i64 a0_1] 34 (0,0)) (by (with_reducible repeat (first | refine kN_ ?_ _ | refine kD_ ?_ | refine kA_ ?_ _));exact BK490.out) hb);have n1_ := aM_ (bT_ (by repeat (first | (with_reducible first | exact HB.out | apply bA_ | apply bN_ | apply bD_ | refine bS_ ?_ GE490.out) | exact HB.out)) hb);have n2_ := aM_ (hbox);have n3_ := aM_ ((by rw [hg];exact (below_size (by repeat (first | (with_reducible first | exact HB.out | apply bA_ | apply bN_ | apply bD_ | refine bS_ ?_ GE490.out) | exact HB.out))) : w.heap.size ≤ gb491));have n4_ := aM_ ((by rw [hg];exact (below_size (by repeat (first | (with_reducible first | exact HB.out | apply bA_ | apply bN_ | apply bD_ | refine bS_ ?_ GE490.out) | exact HB.out))) : w.heap.size ≤ gb491));have n5_ := aM_ ((by rw [hg];exact Nat.ne_of_lt (blk_lt (g := gb490) (o := .cells #[.int .i64 a0_0,.int .i64 a0_1] 34 (0,0)) (by (with_reducible repeat (first | refine kN_ ?_ _ | refine kD_ ?_ | refine kA_ ?_ _));exact BK490.out)) : gb490 ≠ gb491));have n6_ := aM_ ((by rw [hg];exact Nat.ne_of_gt (blk_lt (g := gb490) (o := .cells #[.int .i64 a0_0,.int .i64 a0_1] 34 (0,0)) (by (with_reducible repeat (first | refine kN_ ?_ _ | refine kD_ ?_ | refine kA_ ?_ _));exact BK490.out)) : gb491 ≠ gb490));clear BK490;clear HB;have BK490 := n0_;have HB := n1_;have BK491 := n2_;have GW491 := n3_;have GE491 := n4_;have NB490_491 := n5_;have NB491_490 := n6_;clear n0_ n1_ n2_ n3_ n4_ n5_ n6_;clear hb hbox hg) | ((with_reducible refine gate_dst (N := 5) rfl ?_);refine box_event ?hg (N := 5) ?hd (cs := #[.int .i64 a2_0,.int .i64 a2_1]) (t := 34) ?hr ?_;(case hd => rfl);(case hg => rfl);(case hr => first | (go_simp;done) | (go_simp;rfl));intro gb492 hg w10 hbox hb;have n0_ := aM_ (kB_ (g := gb490) (o := .cells #[.int .i64 a0_0,.int .i64 a0_1] 34 (0,0)) (by (with_reducible repeat (first | refine kN_ ?_ _ | refine kD_ ?_ | refine kA_ ?_ _));exact BK490.out) hb);have n1_ := aM_ (kB_ (g := gb491) (o := .cells #[.int .i64 a1_0,.int .i64 a1_1] 34 (0,0)) (by (with_reducible repeat (first | refine kN_ ?_ _ | refine kD_ ?_ | refine kA_ ?_ _));exact BK491.out) hb);have n2_ := aM_ (bT_ (by repeat (first | (with_reducible first | exact HB.out | apply bA_ | apply bN_ | apply bD_ | refine bS_ ?_ GE490.out | refine bS_ ?_ GE491.out) | exact HB.out)) hb);have n3_ := aM_ (hbox);have n4_ := aM_ ((by rw [hg];exact (below_size (by repeat (first | (with_reducible first | exact HB.out | apply bA_ | apply bN_ | apply bD_ | refine bS_ ?_ GE490.out | refine bS_ ?_ GE491.out) | exact HB.out))) : w.heap.size ≤ gb492));have n5_ := aM_ ((by rw [hg];exact (below_size (by repeat (first | (with_reducible first | exact HB.out | apply bA_ | apply bN_ | apply bD_ | refine bS_ ?_ GE490.out | refine bS_ ?_ GE491.out) | exact HB.out))) : w.heap.size ≤ gb492));have n6_ := aM_ ((by rw [hg];exact Nat.ne_of_lt (blk_lt (g := gb490) (o := .cells #[.int .i64 a0_0,.int .i64 a0_1] 34 (0,0)) (by (with_reducible repeat (first | refine kN_ ?_ _ | refine kD_ ?_ | refine kA_ ?_ _));exact BK490.out)) : gb490 ≠ gb492));have n7_ := aM_ ((by rw [hg];exact Nat.ne_of_gt (blk_lt (g := gb490) (o := .cells #[.int .i64 a0_0,.int .i64 a0_1] 34 (0,0)) (by (with_reducible repeat (first | refine kN_ ?_ _ | refine kD_ ?_ | refine kA_ ?_ _));exact BK490.out)) : gb492 ≠ gb490));have n8_ := aM_ ((by rw [hg];exact Nat.ne_of_lt (blk_lt (g := gb491) (o := .cells #[.int .i64 a1_0,.int .i64 a1_1] 34 (0,0)) (by (with_reducible repeat (first | refine kN_ ?_ _ | refine kD_ ?_ | refine kA_ ?_ _));exact BK491.out)) : gb491 ≠ gb492));have n9_ := aM_ ((by rw [hg];exact Nat.ne_of_gt (blk_lt (g := gb491) (o := .cells #[.int .i64 a1_0,.int .i64 a1_1] 34 (0,0)) (by (with_reducible repeat (first | refine kN_ ?_ _ | refine kD_ ?_ | refine kA_ ?_ _));exact BK491.out)) : gb492 ≠ gb491));clear BK490;clear BK491;clear HB;have BK490 := n0_;have BK491 := n1_;have HB := n2_;have BK492 := n3_;have GW492 := n4_;have GE492 := n5_;have NB490_492 := n6_;have NB492_490 := n7_;have NB491_492 := n8_;have NB492_491 := n9_;clear n0_ n1_ n2_ n3_ n4_ n5_ n6_ n7_ n8_ n9_;clear hb hbox hg) | ((with_reducible refine gate_dst (N := 6) rfl ?_);refine box_event ?hg (N := 6) ?hd (cs := #[.int .i64 0,.int .i64 0]) (t := 34) ?hr ?_;(case hd => rfl);(case hg => rfl);(case hr => first | (go_simp;done) | (go_simp;rfl));intro gb493 hg w11 hbox hb;have n0_ := aM_ (kB_ (g := gb490) (o := .cells #[.int .i64 a0_0,.int .i64 a0_1] 34 (0,0)) (by (with_reducible repeat (first | refine kN_ ?_ _ | refine kD_ ?_ | refine kA_ ?_ _));exact BK490.out) hb);have n1_ := aM_ (kB_ (g := gb491) (o := .cells #[.int .i64 a1_0,.int .i64 a1_1] 34 (0,0)) (by (with_reducible repeat (first | refine kN_ ?_ _ | refine kD_ ?_ | refine kA_ ?_ _));exact BK491.out) hb);have n2_ := aM_ (kB_ (g := gb492) (o := .cells #[.int .i64 a2_0,.int .i64 a2_1] 34 (0,0)) (by (with_reducible repeat (first | refine kN_ ?_ _ | refine kD_ ?_ | refine kA_ ?_ _));exact BK492.out) hb);have n3_ := aM_ (bT_ (by repeat (first | (with_reducible first | exact HB.out | apply bA_ | apply bN_ | apply bD_ | refine bS_ ?_ GE490.out | refine bS_ ?_ GE491.out | refine bS_ ?_ GE492.out) | exact HB.out)) hb);have n4_ := aM_ (hbox);have n5_ := aM_ ((by rw [hg];exact (below_size (by repeat (first | (with_reducible first | exact HB.out | apply bA_ | apply bN_ | apply bD_ | refine bS_ ?_ GE490.out | refine bS_ ?_ GE491.out | refine bS_ ?_ GE492.out) | exact HB.out))) : w.heap.size ≤ gb493));have n6_ := aM_ ((by rw [hg];exact (below_size (by repeat (first | (with_reducible first | exact HB.out | apply bA_ | apply bN_ | apply bD_ | refine bS_ ?_ GE490.out | refine bS_ ?_ GE491.out | refine bS_ ?_ GE492.out) | exact HB.out))) : w.heap.size ≤ gb493));have n7_ := aM_ ((by rw [hg];exact Nat.ne_of_lt (blk_lt (g := gb490) (o := .cells #[.int .i64 a0_0,.int .i64 a0_1] 34 (0,0)) (by (with_reducible repeat (first | refine kN_ ?_ _ | refine kD_ ?_ | refine kA_ ?_ _));exact BK490.out)) : gb490 ≠ gb493));have n8_ := aM_ ((by rw [hg];exact Nat.ne_of_gt (blk_lt (g := gb490) (o := .cells #[.int .i64 a0_0,.int .i64 a0_1] 34 (0,0)) (by (with_reducible repeat (first | refine kN_ ?_ _ | refine kD_ ?_ | refine kA_ ?_ _));exact BK490.out)) : gb493 ≠ gb490));have n9_ := aM_ ((by rw [hg];exact Nat.ne_of_lt (blk_lt (g := gb491) (o := .cells #[.int .i64 a1_0,.int .i64 a1_1] 34 (0,0)) (by (with_reducible repeat (first | refine kN_ ?_ _ | refine kD_ ?_ | refine kA_ ?_ _));exact BK491.out)) : gb491 ≠ gb493));have n10_ := aM_ ((by rw [hg];exact Nat.ne_of_gt (blk_lt (g := gb491) (o := .cells #[.int .i64 a1_0,.int .i64 a1_1] 34 (0,0)) (by (with_reducible repeat (first | refine kN_ ?_ _ | refine kD_ ?_ | refine kA_ ?_ _));exact BK491.out)) : gb493 ≠ gb491));have n11_ := aM_ ((by rw [hg];exact Nat.ne_of_lt (blk_lt (g := gb492) (o := .cells #[.int .i64 a2_0,.int .i64 a2_1] 34 (0,0)) (by (with_reducible repeat (first | refine kN_ ?_ _ | refine kD_ ?_ | refine kA_ ?_ _));exact BK492.out)) : gb492 ≠ gb493));have n12_ := aM_ ((by rw [hg];exact Nat.ne_of_gt (blk_lt (g := gb492) (o := .cells #[.int .i64 a2_0,.int .i64 a2_1] 34 (0,0)) (by (with_reducible repeat (first | refine kN_ ?_ _ | refine kD_ ?_ | refine kA_ ?_ _));exact BK492.out)) : gb493 ≠ gb492));clear BK490;clear BK491;clear BK492;clear HB;have BK490 := n0_;have BK491 := n1_;have BK492 := n2_;have HB := n3_;have BK493 := n4_;have GW493 := n5_;have GE493 := n6_;have NB490_493 := n7_;have NB493_490 := n8_;have NB491_493 := n9_;have NB493_491 := n10_;have NB492_493 := n11_;have NB493_492 := n12_;clear n0_ n1_ n2_ n3_ n4_ n5_ n6_ n7_ n8_ n9_ n10_ n11_ n12_;clear hb hbox hg;have hnb12 := NB490_491.out;have hnc12 := NB491_490.out;have hnb13 := NB490_492.out;have hnc13 := NB492_490.out;have hnb14 := NB490_493.out;have hnc14 := NB493_490.out;have hcz15_0 : w11.cell? ⟨gb490,0,none⟩ = some (.int .i64 a0_0) := (blk_cell BK490.out 0).trans rfl;have hcz15_1 : w11.cell? ⟨gb490,1,none⟩ = some (.int .i64 a0_1) := (blk_cell BK490.out 1).trans rfl;have hfz15_0 := blk_frozen BK490.out 0;have hfz15_1 := blk_frozen BK490.out 1;have hnb16 := NB491_492.out;have hnc16 := NB492_491.out;have hnb17 := NB491_493.out;have hnc17 := NB493_491.out;have hcz18_0 : w11.cell? ⟨gb491,0,none⟩ = some (.int .i64 a1_0) := (blk_cell BK491.out 0).trans rfl;have hcz18_1 : w11.cell? ⟨gb491,1,none⟩ = some (.int .i64 a1_1) := (blk_cell BK491.out 1).trans rfl;have hfz18_0 := blk_frozen BK491.out 0;have hfz18_1 := blk_frozen BK491.out 1) | ((with_reducible refine gate_callee (f := 65) rfl ?_);refine goesL_ (some 17) rfl rfl Try.func65 (by kernel_rfl) rfl #[.agg #[.int .i64 a0_0,.int .i64 a0_1],.agg #[.int .i64 a1_0,.int .i64 a1_1]] rfl (by (try simp only [List.map_toArray,List.map_cons,List.map_nil]);first | done | rfl) ?_;(with_reducible refine (R_checkAge.calls k a0_0 a0_1 a1_0 a1_1 t494 _ A4.out).mono ?_);rintro e w19 ⟨rfl,hb⟩;refine ⟨_,rfl,?_⟩;have n0_ := aM_ (kB_ (g := gb490) (o := .cells #[.int .i64 a0_0,.int .i64 a0_1] 34 (0,0)) (by (with_reducible repeat (first | refine kN_ ?_ _ | refine kD_ ?_ | refine kA_ ?_ _));exact BK490.out) hb);have n1_ := aM_ (kB_ (g := gb491) (o := .cells #[.int .i64 a1_0,.int .i64 a1_1] 34 (0,0)) (by (with_reducible repeat (first | refine kN_ ?_ _ | refine kD_ ?_ | refine kA_ ?_ _));exact BK491.out) hb);have n2_ := aM_ (kB_ (g := gb492) (o := .cells #[.int .i64 a2_0,.int .i64 a2_1] 34 (0,0)) (by (with_reducible repeat (first | refine kN_ ?_ _ | refine kD_ ?_ | refine kA_ ?_ _));exact BK492.out) hb);have n3_ := aM_ (kB_ (g := gb493) (o := .cells #[.int .i64 0,.int .i64 0] 34 (0,0)) (by (with_reducible repeat (first | refine kN_ ?_ _ | refine kD_ ?_ | refine kA_ ?_ _));exact BK493.out) hb);have n4_ := aM_ (bT_ (by repeat (first | (with_reducible first | exact HB.out | apply bA_ | apply bN_ | apply bD_ | refine bS_ ?_ GE490.out | refine bS_ ?_ GE491.out | refine bS_ ?_ GE492.out | refine bS_ ?_ GE493.out) | exact HB.out)) hb);clear BK490;clear BK491;clear BK492;clear BK493;clear HB;have BK490 := n0_;have BK491 := n1_;have BK492 := n2_;have BK493 := n3_;have HB := n4_;clear n0_ n1_ n2_ n3_ n4_;(try clear hb);(try clear hb2);(try clear hk);(try clear hi);have hnb20 := NB492_493.out;have hnc20 := NB493_492.out;have hcz21_0 : w19.cell? ⟨gb492,0,none⟩ = some (.int .i64 a2_0) := (blk_cell BK492.out 0).trans rfl;have hcz21_1 : w19.cell? ⟨gb492,1,none⟩ = some (.int .i64 a2_1) := (blk_cell BK492.out 1).trans rfl;have hfz21_0 := blk_frozen BK492.out 0;have hfz21_1 := blk_frozen BK492.out 1) | ((with_reducible refine gate_callee (f := 73) rfl ?_);refine goesL_ (some 23) rfl rfl Try.func73 (by kernel_rfl) rfl #[.agg #[.int .i64 a2_0,.int .i64 a2_1],.int .i64 (-1000000000),.int .i64 1000000000] rfl (by (try simp only [List.map_toArray,List.map_cons,List.map_nil]);first | done | rfl) ?_;(with_reducible refine (R_checkRange.calls k a2_0 a2_1 (-1000000000) 1000000000 t495 _ A6.out).mono ?_);rintro e w22 ⟨rfl,hb⟩;refine ⟨_,rfl,?_⟩;have n0_ := aM_ (kB_ (g := gb490) (o := .cells #[.int .i64 a0_0,.int .i64 a0_1] 34 (0,0)) (by (with_reducible repeat (first | refine kN_ ?_ _ | refine kD_ ?_ | refine kA_ ?_ _));exact BK490.out) hb);have n1_ := aM_ (kB_ (g := gb491) (o := .cells #[.int .i64 a1_0,.int .i64 a1_1] 34 (0,0)) (by (with_reducible repeat (first | refine kN_ ?_ _ | refine kD_ ?_ | refine kA_ ?_ _));exact BK491.out) hb);have n2_ := aM_ (kB_ (g := gb492) (o := .cells #[.int .i64 a2_0,.int .i64 a2_1] 34 (0,0)) (by (with_reducible repeat (first | refine kN_ ?_ _ | refine kD_ ?_ | refine kA_ ?_ _));exact BK492.out) hb);have n3_ := aM_ (kB_ (g := gb493) (o := .cells #[.int .i64 0,.int .i64 0] 34 (0,0)) (by (with_reducible repeat (first | refine kN_ ?_ _ | refine kD_ ?_ | refine kA_ ?_ _));exact BK493.out) hb);have n4_ := aM_ (bT_ (by repeat (first | (with_reducible first | exact HB.out | apply bA_ | apply bN_ | apply bD_ | refine bS_ ?_ GE490.out | refine bS_ ?_ GE491.out | refine bS_ ?_ GE492.out | refine bS_ ?_ GE493.out) | exact HB.out)) hb);clear BK490;clear BK491;clear BK492;clear BK493;clear HB;have BK490 := n0_;have BK491 := n1_;have BK492 := n2_;have BK493 := n3_;have HB := n4_;clear n0_ n1_ n2_ n3_ n4_;(try clear hb);(try clear hb2);(try clear hk);(try clear hi)) | ((with_reducible refine gate_dst (N := 10) rfl ?_);refine box_event ?hg (N := 10) ?hd (cs := #[.int .i64 0,.int .i64 0]) (t := 34) ?hr ?_;(case hd => rfl);(case hg => rfl);(case hr => first | (go_simp;done) | (go_simp;rfl));intro gb496 hg w23 hbox hb;have n0_ := aM_ (kB_ (g := gb490) (o := .cells #[.int .i64 a0_0,.int .i64 a0_1] 34 (0,0)) (by (with_reducible repeat (first | refine kN_ ?_ _ | refine kD_ ?_ | refine kA_ ?_ _));exact BK490.out) hb);have n1_ := aM_ (kB_ (g := gb491) (o := .cells #[.int .i64 a1_0,.int .i64 a1_1] 34 (0,0)) (by (with_reducible repeat (first | refine kN_ ?_ _ | refine kD_ ?_ | refine kA_ ?_ _));exact BK491.out) hb);have n2_ := aM_ (kB_ (g := gb492) (o := .cells #[.int .i64 a2_0,.int .i64 a2_1] 34 (0,0)) (by (with_reducible repeat (first | refine kN_ ?_ _ | refine kD_ ?_ | refine kA_ ?_ _));exact BK492.out) hb);have n3_ := aM_ (kB_ (g := gb493) (o := .cells #[.int .i64 0,.int .i64 0] 34 (0,0)) (by (with_reducible repeat (first | refine kN_ ?_ _ | refine kD_ ?_ | refine kA_ ?_ _));exact BK493.out) hb);have n4_ := aM_ (bT_ (by repeat (first | (with_reducible first | exact HB.out | apply bA_ | apply bN_ | apply bD_ | refine bS_ ?_ GE490.out | refine bS_ ?_ GE491.out | refine bS_ ?_ GE492.out | refine bS_ ?_ GE493.out) | exact HB.out)) hb);have n5_ := aM_ (hbox);have n6_ := aM_ ((by rw [hg];exact (below_size (by repeat (first | (with_reducible first | exact HB.out | apply bA_ | apply bN_ | apply bD_ | refine bS_ ?_ GE490.out | refine bS_ ?_ GE491.out | refine bS_ ?_ GE492.out | refine bS_ ?_ GE493.out) | exact HB.out))) : w.heap.size ≤ gb496));have n7_ := aM_ ((by rw [hg];exact (below_size (by repeat (first | (with_reducible first | exact HB.out | apply bA_ | apply bN_ | apply bD_ | refine bS_ ?_ GE490.out | refine bS_ ?_ GE491.out | refine bS_ ?_ GE492.out | refine bS_ ?_ GE493.out) | exact HB.out))) : w.heap.size ≤ gb496));have n8_ := aM_ ((by rw [hg];exact Nat.ne_of_lt (blk_lt (g := gb490) (o := .cells #[.int .i64 a0_0,.int .i64 a0_1] 34 (0,0)) (by (with_reducible repeat (first | refine kN_ ?_ _ | refine kD_ ?_ | refine kA_ ?_ _));exact BK490.out)) : gb490 ≠ gb496));have n9_ := aM_ ((by rw [hg];exact Nat.ne_of_gt (blk_lt (g := gb490) (o := .cells #[.int .i64 a0_0,.int .i64 a0_1] 34 (0,0)) (by (with_reducible repeat (first | refine kN_ ?_ _ | refine kD_ ?_ | refine kA_ ?_ _));exact BK490.out)) : gb496 ≠ gb490));have n10_ := aM_ ((by rw [hg];exact Nat.ne_of_lt (blk_lt (g := gb491) (o := .cells #[.int .i64 a1_0,.int .i64 a1_1] 34 (0,0)) (by (with_reducible repeat (first | refine kN_ ?_ _ | refine kD_ ?_ | refine kA_ ?_ _));exact BK491.out)) : gb491 ≠ gb496));have n11_ := aM_ ((by rw [hg];exact Nat.ne_of_gt (blk_lt (g := gb491) (o := .cells #[.int .i64 a1_0,.int .i64 a1_1] 34 (0,0)) (by (with_reducible repeat (first | refine kN_ ?_ _ | refine kD_ ?_ | refine kA_ ?_ _));exact BK491.out)) : gb496 ≠ gb491));have n12_ := aM_ ((by rw [hg];exact Nat.ne_of_lt (blk_lt (g := gb492) (o := .cells #[.int .i64 a2_0,.int .i64 a2_1] 34 (0,0)) (by (with_reducible repeat (first | refine kN_ ?_ _ | refine kD_ ?_ | refine kA_ ?_ _));exact BK492.out)) : gb492 ≠ gb496));have n13_ := aM_ ((by rw [hg];exact Nat.ne_of_gt (blk_lt (g := gb492) (o := .cells #[.int .i64 a2_0,.int .i64 a2_1] 34 (0,0)) (by (with_reducible repeat (first | refine kN_ ?_ _ | refine kD_ ?_ | refine kA_ ?_ _));exact BK492.out)) : gb496 ≠ gb492));have n14_ := aM_ ((by rw [hg];exact Nat.ne_of_lt (blk_lt (g := gb493) (o := .cells #[.int .i64 0,.int .i64 0] 34 (0,0)) (by (with_reducible repeat (first | refine kN_ ?_ _ | refine kD_ ?_ | refine kA_ ?_ _));exact BK493.out)) : gb493 ≠ gb496));have n15_ := aM_ ((by rw [hg];exact Nat.ne_of_gt (blk_lt (g := gb493) (o := .cells #[.int .i64 0,.int .i64 0] 34 (0,0)) (by (with_reducible repeat (first | refine kN_ ?_ _ | refine kD_ ?_ | refine kA_ ?_ _));exact BK493.out)) : gb496 ≠ gb493));clear BK490;clear BK491;clear BK492;clear BK493;clear HB;have BK490 := n0_;have BK491 := n1_;have BK492 := n2_;have BK493 := n3_;have HB := n4_;have BK496 := n5_;have GW496 := n6_;have GE496 := n7_;have NB490_496 := n8_;have NB496_490 := n9_;have NB491_496 := n10_;have NB496_491 := n11_;have NB492_496 := n12_;have NB496_492 := n13_;have NB493_496 := n14_;have NB496_493 := n15_;clear n0_ n1_ n2_ n3_ n4_ n5_ n6_ n7_ n8_ n9_ n10_ n11_ n12_ n13_ n14_ n15_;clear hb hbox hg;have hnb24 := NB496_490.out;have hnc24 := NB490_496.out;have hnb25 := NB496_491.out;have hnc25 := NB491_496.out;have hnb26 := NB496_492.out;have hnc26 := NB492_496.out;have hnb27 := NB496_493.out;have hnc27 := NB493_496.out;have hcz28_0 : w23.cell? ⟨gb496,0,none⟩ = some (.int .i64 0) := (blk_cell BK496.out 0).trans rfl;have hcz28_1 : w23.cell? ⟨gb496,1,none⟩ = some (.int .i64 0) := (blk_cell BK496.out 1).trans rfl;have hfz28_0 := blk_frozen BK496.out 0;have hfz28_1 := blk_frozen BK496.out 1))
   go_loopg [11,12,13] k (fun kq v11 v12 v13 w' => ∃ (x11_1 : Bool) (x12_1 : Bool) (x13_1 : Int) (x497000_1 : Int) (x497001_1 : Int),v11 = .bool x11_1 ∧ v12 = .bool x12_1 ∧ v13 = .int .i64 x13_1 ∧ Aside0 (R_Keeps.l0 kq x11_1 x12_1 x13_1 a0_0 a0_1 a1_0 a1_1 a2_0 a2_1 x497000_1 x497001_1 = some (r1,r2,r3)) ∧ Aside0 (kq ≤ k) ∧ Aside0 (w'.heap[gb490]? = some (.cells #[.int .i64 a0_0,.int .i64 a0_1] 34 (0,0))) ∧ Aside0 (w'.heap[gb491]? = some (.cells #[.int .i64 a1_0,.int .i64 a1_1] 34 (0,0))) ∧ Aside0 (w'.heap[gb492]? = some (.cells #[.int .i64 a2_0,.int .i64 a2_1] 34 (0,0))) ∧ Aside0 (w'.heap[gb493]? = some (.cells #[.int .i64 0,.int .i64 0] 34 (0,0))) ∧ Aside0 (w'.heap[gb496]? = some (.cells #[.int .i64 x497000_1,.int .i64 x497001_1] 34 (0,0))) ∧ Aside0 (Below w.heap.size w w'))
   case atStart => exact ⟨(true),(true),(0),((-1)),((-1)),(by first | rfl | (simp;done) | (simp [*];done)),(by first | rfl | (simp;done) | (simp [*];done)),(by first | rfl | (simp;done) | (simp [*];done)),H',⟨Nat.le_refl _⟩,⟨by (with_reducible repeat (first | refine kN_ ?_ _ | refine kD_ ?_ | refine kA_ ?_ _));refine blk_far ?_ NB490_496.out _;(with_reducible repeat (first | refine kN_ ?_ _ | refine kD_ ?_ | refine kA_ ?_ _));refine blk_far ?_ NB490_496.out _;(with_reducible repeat (first | refine kN_ ?_ _ | refine kD_ ?_ | refine kA_ ?_ _));exact BK490.out⟩,⟨by (with_reducible repeat (first | refine kN_ ?_ _ | refine kD_ ?_ | refine kA_ ?_ _));refine blk_far ?_ NB491_496.out _;(with_reducible repeat (first | refine kN_ ?_ _ | refine kD_ ?_ | refine kA_ ?_ _));refine blk_far ?_ NB491_496.out _;(with_reducible repeat (first | refine kN_ ?_ _ | refine kD_ ?_ | refine kA_ ?_ _));exact BK491.out⟩,⟨by (with_reducible repeat (first | refine kN_ ?_ _ | refine kD_ ?_ | refine kA_ ?_ _));refine blk_far ?_ NB492_496.out _;(with_reducible repeat (first | refine kN_ ?_ _ | refine kD_ ?_ | refine kA_ ?_ _));refine blk_far ?_ NB492_496.out _;(with_reducible repeat (first | refine kN_ ?_ _ | refine kD_ ?_ | refine kA_ ?_ _));exact BK492.out⟩,⟨by (with_reducible repeat (first | refine kN_ ?_ _ | refine kD_ ?_ | refine kA_ ?_ _));refine blk_far ?_ NB493_496.out _;(with_reducible repeat (first | refine kN_ ?_ _ | refine kD_ ?_ | refine kA_ ?_ _));refine blk_far ?_ NB493_496.out _;(with_reducible repeat (first | refine kN_ ?_ _ | refine kD_ ?_ | refine kA_ ?_ _));exact BK493.out⟩,⟨by (with_reducible repeat (first | refine kN_ ?_ _ | refine kD_ ?_ | refine kA_ ?_ _));refine blk_put (cs := #[.int .i64 (-1),.int .i64 0]) ?_ 1 _ rfl;(with_reducible repeat (first | refine kN_ ?_ _ | refine kD_ ?_ | refine kA_ ?_ _));refine blk_put (cs := #[.int .i64 0,.int .i64 0]) ?_ 0 _ rfl;(with_reducible repeat (first | refine kN_ ?_ _ | refine kD_ ?_ | refine kA_ ?_ _));exact BK496.out⟩,⟨by repeat (first | (with_reducible first | exact HB.out | apply bA_ | apply bN_ | apply bD_ | refine bS_ ?_ GE490.out | refine bS_ ?_ GE491.out | refine bS_ ?_ GE492.out | refine bS_ ?_ GE493.out | refine bS_ ?_ GE496.out) | exact HB.out)⟩⟩
   case round =>
    clear H'
    try clear c1
    try clear c2
    try clear p2
    try clear c3
    try clear c5
    try clear c5b0
    try clear c5b1
    try clear c6
    try clear c7
    try clear c7b0
    try clear c7b1
    try clear c12
    try clear c13
    try clear c14
    try clear c16
    try clear c17
    try clear c20
    try clear c24
    try clear c25
    try clear c26
    try clear c27
    try clear hcz15_0
    try clear hcz15_1
    try clear hcz18_0
    try clear hcz18_1
    try clear hcz21_0
    try clear hcz21_1
    try clear hcz28_0
    try clear hcz28_1
    try clear hfz15_0
    try clear hfz15_1
    try clear hfz18_0
    try clear hfz18_1
    try clear hfz21_0
    try clear hfz21_1
    try clear hfz28_0
    try clear hfz28_1
    obtain ⟨x11_1,x12_1,x13_1,x497000_1,x497001_1,rfl,rfl,rfl,HA,HK1,BK490,BK491,BK492,BK493,BK496,HB⟩ := hrel
    cases gk with
    | zero => exact absurd HA.out (by simp [R_Keeps.l0])
    | succ k1 =>
     have H := HA.out
     clear HA
     simp only [R_Keeps.l0] at H
     have HC29 := aM_ H
     clear H
     go_upto_region 10 with (fail)
     go_cut [33] (fun v33 wc => ∃ (kq : Nat) (x33_28 : Bool),v33 = .bool x33_28 ∧ Aside0 (R_Keeps.j1 kq x11_1 x13_1 x33_28 a0_0 a0_1 a1_0 a1_1 a2_0 a2_1 x497000_1 x497001_1 = some (r1,r2,r3)) ∧ Aside0 (kq ≤ k1) ∧ Aside0 (wc.heap[gb490]? = some (.cells #[.int .i64 a0_0,.int .i64 a0_1] 34 (0,0))) ∧ Aside0 (wc.heap[gb491]? = some (.cells #[.int .i64 a1_0,.int .i64 a1_1] 34 (0,0))) ∧ Aside0 (wc.heap[gb492]? = some (.cells #[.int .i64 a2_0,.int .i64 a2_1] 34 (0,0))) ∧ Aside0 (wc.heap[gb493]? = some (.cells #[.int .i64 0,.int .i64 0] 34 (0,0))) ∧ Aside0 (wc.heap[gb496]? = some (.cells #[.int .i64 x497000_1,.int .i64 x497001_1] 34 (0,0))) ∧ Aside0 (Below w.heap.size w wc))
     case first =>
      have H := HC29.out
      clear HC29
      by_cases c30 : x13_1 ≤ 1000000
      ·rw [if_pos c30] at H
       have c30b0 : decide (x13_1 ≤ 1000000) = true := decide_eq_true c30
       clear c30
       (first | rw [c30b0] | (simp only [i64_w,i32_w];rw [c30b0]) | skip)
       have H' := aM_ H
       clear H
       go_wp2
       go_meet
       case rel => exact ⟨_,(x12_1),(by first | rfl | (simp;done) | (simp [*];done)),H',⟨by have := HK1.out;first | omega | exact Nat.le_refl _⟩,⟨by (with_reducible repeat (first | refine kN_ ?_ _ | refine kD_ ?_ | refine kA_ ?_ _));exact BK490.out⟩,⟨by (with_reducible repeat (first | refine kN_ ?_ _ | refine kD_ ?_ | refine kA_ ?_ _));exact BK491.out⟩,⟨by (with_reducible repeat (first | refine kN_ ?_ _ | refine kD_ ?_ | refine kA_ ?_ _));exact BK492.out⟩,⟨by (with_reducible repeat (first | refine kN_ ?_ _ | refine kD_ ?_ | refine kA_ ?_ _));exact BK493.out⟩,⟨by (with_reducible repeat (first | refine kN_ ?_ _ | refine kD_ ?_ | refine kA_ ?_ _));exact BK496.out⟩,⟨by repeat (first | (with_reducible first | exact HB.out | apply bA_ | apply bN_ | apply bD_ | refine bS_ ?_ GE490.out | refine bS_ ?_ GE491.out | refine bS_ ?_ GE492.out | refine bS_ ?_ GE493.out | refine bS_ ?_ GE496.out) | exact HB.out)⟩⟩
      ·rw [if_neg c30] at H
       have c30b0 : decide (x13_1 ≤ 1000000) = false := decide_eq_false c30
       clear c30
       (first | rw [c30b0] | (simp only [i64_w,i32_w];rw [c30b0]) | skip)
       have H' := aM_ H
       clear H
       go_wp2
       go_meet
       case rel => exact ⟨_,(false),(by first | rfl | (simp;done) | (simp [*];done)),H',⟨by have := HK1.out;first | omega | exact Nat.le_refl _⟩,⟨by (with_reducible repeat (first | refine kN_ ?_ _ | refine kD_ ?_ | refine kA_ ?_ _));exact BK490.out⟩,⟨by (with_reducible repeat (first | refine kN_ ?_ _ | refine kD_ ?_ | refine kA_ ?_ _));exact BK491.out⟩,⟨by (with_reducible repeat (first | refine kN_ ?_ _ | refine kD_ ?_ | refine kA_ ?_ _));exact BK492.out⟩,⟨by (with_reducible repeat (first | refine kN_ ?_ _ | refine kD_ ?_ | refine kA_ ?_ _));exact BK493.out⟩,⟨by (with_reducible repeat (first | refine kN_ ?_ _ | refine kD_ ?_ | refine kA_ ?_ _));exact BK496.out⟩,⟨by repeat (first | (with_reducible first | exact HB.out | apply bA_ | apply bN_ | apply bD_ | refine bS_ ?_ GE490.out | refine bS_ ?_ GE491.out | refine bS_ ?_ GE492.out | refine bS_ ?_ GE493.out | refine bS_ ?_ GE496.out) | exact HB.out)⟩⟩
     case rest =>
      clear HC29
      try clear c1
      try clear c2
      try clear p2
      try clear c3
      try clear c5
      try clear c5b0
      try clear c5b1
      try clear c6
      try clear c7
      try clear c7b0
      try clear c7b1
      try clear c12
      try clear c13
      try clear c14
      try clear c16
      try clear c17
      try clear c20
      try clear c24
      try clear c25
      try clear c26
      try clear c27
      try clear c30
      try clear c30b0
      try clear hcz15_0
      try clear hcz15_1
      try clear hcz18_0
      try clear hcz18_1
      try clear hcz21_0
      try clear hcz21_1
      try clear hcz28_0
      try clear hcz28_1
      try clear hfz15_0
      try clear hfz15_1
      try clear hfz18_0
      try clear hfz18_1
      try clear hfz21_0
      try clear hfz21_1
      try clear hfz28_0
      try clear hfz28_1
      try clear p2
      obtain ⟨kq,x33_28,rfl,HA,HJ28,BK490,BK491,BK492,BK493,BK496,HB⟩ := hcut
      cases kq with
      | zero => exact absurd HA.out (by simp [R_Keeps.j1])
      | succ kj28 =>
       have H := HA.out
       clear HA
       simp only [R_Keeps.j1] at H
       by_cases c31 : x33_28 = true
       ·subst c31
        have H1 : ((R_aged.f a0_0 a0_1 a1_0 a1_1 x13_1).bind fun bt497 => ((R_Verdict.f kj28 bt497.1 bt497.2 a2_0 a2_1).bind fun t499 => (if x11_1 = true then (R_Keeps.j2 kj28 (t499 == 1) x13_1 t499 a0_0 a0_1 a1_0 a1_1 a2_0 a2_1 x497000_1 x497001_1) else (R_Keeps.j2 kj28 false x13_1 t499 a0_0 a0_1 a1_0 a1_1 a2_0 a2_1 x497000_1 x497001_1)))) = some (r1,r2,r3) := by rw [if_pos rfl] at H;exact H
        clear H
        have H := H1
        clear H1
        replace H := oB_ H
        obtain ⟨⟨t497,t498⟩,A320,H⟩ := H
        replace H : ((R_Verdict.f kj28 t497 t498 a2_0 a2_1).bind fun t499 => (if x11_1 = true then (R_Keeps.j2 kj28 (t499 == 1) x13_1 t499 a0_0 a0_1 a1_0 a1_1 a2_0 a2_1 x497000_1 x497001_1) else (R_Keeps.j2 kj28 false x13_1 t499 a0_0 a0_1 a1_0 a1_1 a2_0 a2_1 x497000_1 x497001_1))) = some (r1,r2,r3) := H
        have A32 := aM_ A320
        clear A320
        replace H := oB_ H
        obtain ⟨t499,A330,H⟩ := H
        replace H : (if x11_1 = true then (R_Keeps.j2 kj28 (t499 == 1) x13_1 t499 a0_0 a0_1 a1_0 a1_1 a2_0 a2_1 x497000_1 x497001_1) else (R_Keeps.j2 kj28 false x13_1 t499 a0_0 a0_1 a1_0 a1_1 a2_0 a2_1 x497000_1 x497001_1)) = some (r1,r2,r3) := H
        have A33 := aM_ A330
        clear A330
        have HC34 := aM_ H
        clear H
        try go_wp2
        have n0_ := aM_ (kD_ BK490.out)
        have n1_ := aM_ (kD_ BK491.out)
        have n2_ := aM_ (kD_ BK492.out)
        have n3_ := aM_ (kD_ BK493.out)
        have n4_ := aM_ (kD_ BK496.out)
        have n5_ := aM_ (bD_ HB.out)
        clear BK490
        clear BK491
        clear BK492
        clear BK493
        clear BK496
        clear HB
        have BK490 := n0_
        have BK491 := n1_
        have BK492 := n2_
        have BK493 := n3_
        have BK496 := n4_
        have HB := n5_
        clear n0_ n1_ n2_ n3_ n4_ n5_
        refine start_ (n := 7) (S := fun w' => w'.cell? ⟨gb490,0,none⟩ = some (.int .i64 a0_0) ∧ w'.cell? ⟨gb490,1,none⟩ = some (.int .i64 a0_1) ∧ w'.cell? ⟨gb491,0,none⟩ = some (.int .i64 a1_0) ∧ w'.cell? ⟨gb491,1,none⟩ = some (.int .i64 a1_1) ∧ w'.cell? ⟨gb492,0,none⟩ = some (.int .i64 a2_0) ∧ w'.cell? ⟨gb492,1,none⟩ = some (.int .i64 a2_1)) (ds := []) #[false,false,false,false,false,false,false] (by kernel_rfl) rfl rfl ⟨(blk_cell BK490.out 0).trans rfl,(blk_cell BK490.out 1).trans rfl,(blk_cell BK491.out 0).trans rfl,(blk_cell BK491.out 1).trans rfl,(blk_cell BK492.out 0).trans rfl,(blk_cell BK492.out 1).trans rfl⟩ (fun hHeld => ?_)
        generalize wc.drew = w35 at BK490 BK491 BK492 BK493 BK496 HB hHeld ⊢
        refine pure_ (i := 2) (N := some 38) (v := ?_) (a' := ?_) #[false,false,true,false,false,false,false] rfl rfl (by kernel_rfl) (fun _ _ _ h => h) (Or.inl ⟨by rfl,?_⟩) ?_ ?_
        rotate_left
        ·intro w'
         go_simp
         with_reducible rfl
        rotate_left
        ·simp only [Act.put,sB_,sZ_,sS_,i64_w,i32_w]
         rfl
        refine take_ (i := 0) (N := some 36) (v := ?_) (a' := ?_) #[true,false,true,false,false,false,false] rfl rfl (by kernel_rfl) (fun _ _ _ h => h) (Or.inl ⟨by rfl,?_⟩) hHeld ?_ ?_
        rotate_left
        ·rintro w' ⟨s0,s1,s2,s3,s4,s5⟩
         go_simp
         with_reducible rfl
        rotate_left
        ·simp only [Act.put,sB_,sZ_,sS_,i64_w,i32_w]
         rfl
        refine take_ (i := 1) (N := some 37) (v := ?_) (a' := ?_) #[true,true,true,false,false,false,false] rfl rfl (by kernel_rfl) (fun _ _ _ h => h) (Or.inl ⟨by rfl,?_⟩) hHeld ?_ ?_
        rotate_left
        ·rintro w' ⟨s0,s1,s2,s3,s4,s5⟩
         go_simp
         with_reducible rfl
        rotate_left
        ·simp only [Act.put,sB_,sZ_,sS_,i64_w,i32_w]
         rfl
        refine take_ (i := 4) (N := some 40) (v := ?_) (a' := ?_) #[true,true,true,false,true,false,false] rfl rfl (by kernel_rfl) (fun _ _ _ h => h) (Or.inl ⟨by rfl,?_⟩) hHeld ?_ ?_
        rotate_left
        ·rintro w' ⟨s0,s1,s2,s3,s4,s5⟩
         go_simp
         with_reducible rfl
        rotate_left
        ·simp only [Act.put,sB_,sZ_,sS_,i64_w,i32_w]
         rfl
        refine one_ (i := 3) (N := some 39) #[true,true,true,true,true,false,false] rfl rfl (by kernel_rfl) (by decide) (fun K hK => ?_)
        refine goes_ Try.func66 (by kernel_rfl) rfl #[.agg #[.int .i64 a0_0,.int .i64 a0_1],.agg #[.int .i64 a1_0,.int .i64 a1_1],.int .i64 x13_1] (by rfl) rfl rfl (by (try simp only [List.map_toArray,List.map_cons,List.map_nil]);first | done | rfl) ?_
        with_reducible refine (R_aged.calls a0_0 a0_1 a1_0 a1_1 x13_1 t497 t498 _ A32.out).mono ?_
        rintro e w36 ⟨rfl,hb⟩
        refine ⟨_,rfl,?_⟩
        have n0_ := aM_ (kB_ (g := gb490) (o := .cells #[.int .i64 a0_0,.int .i64 a0_1] 34 (0,0)) (by (with_reducible repeat (first | refine kN_ ?_ _ | refine kD_ ?_ | refine kA_ ?_ _));exact BK490.out) hb)
        have n1_ := aM_ (kB_ (g := gb491) (o := .cells #[.int .i64 a1_0,.int .i64 a1_1] 34 (0,0)) (by (with_reducible repeat (first | refine kN_ ?_ _ | refine kD_ ?_ | refine kA_ ?_ _));exact BK491.out) hb)
        have n2_ := aM_ (kB_ (g := gb492) (o := .cells #[.int .i64 a2_0,.int .i64 a2_1] 34 (0,0)) (by (with_reducible repeat (first | refine kN_ ?_ _ | refine kD_ ?_ | refine kA_ ?_ _));exact BK492.out) hb)
        have n3_ := aM_ (kB_ (g := gb493) (o := .cells #[.int .i64 0,.int .i64 0] 34 (0,0)) (by (with_reducible repeat (first | refine kN_ ?_ _ | refine kD_ ?_ | refine kA_ ?_ _));exact BK493.out) hb)
        have n4_ := aM_ (kB_ (g := gb496) (o := .cells #[.int .i64 x497000_1,.int .i64 x497001_1] 34 (0,0)) (by (with_reducible repeat (first | refine kN_ ?_ _ | refine kD_ ?_ | refine kA_ ?_ _));exact BK496.out) hb)
        have n5_ := aM_ (bT_ (by repeat (first | (with_reducible first | exact HB.out | apply bA_ | apply bN_ | apply bD_ | refine bS_ ?_ GE490.out | refine bS_ ?_ GE491.out | refine bS_ ?_ GE492.out | refine bS_ ?_ GE493.out | refine bS_ ?_ GE496.out) | exact HB.out)) hb)
        clear BK490
        clear BK491
        clear BK492
        clear BK493
        clear BK496
        clear HB
        have BK490 := n0_
        have BK491 := n1_
        have BK492 := n2_
        have BK493 := n3_
        have BK496 := n4_
        have HB := n5_
        clear n0_ n1_ n2_ n3_ n4_ n5_
        (try clear hb)
        (try clear hb2)
        (try clear hk)
        (try clear hi)
        refine hK.out _ _ ⟨(blk_cell BK490.out 0).trans rfl,(blk_cell BK490.out 1).trans rfl,(blk_cell BK491.out 0).trans rfl,(blk_cell BK491.out 1).trans rfl,(blk_cell BK492.out 0).trans rfl,(blk_cell BK492.out 1).trans rfl⟩ (fun hHeld => ?_)
        clear hK K
        refine norm_ (a' := ?_) ?_ ?_
        rotate_left
        ·show Act.put _ (some 39) _ = _
         simp only [Act.put,sB_,sZ_,sS_,i64_w,i32_w]
         rfl
        refine one_ (i := 5) (N := some 41) #[true,true,true,true,true,true,false] rfl rfl (by kernel_rfl) (by decide) (fun K hK => ?_)
        refine goes_ Try.func74 (by kernel_rfl) rfl #[.agg #[.int .i64 t497,.int .i64 t498],.agg #[.int .i64 a2_0,.int .i64 a2_1]] (by rfl) rfl rfl (by (try simp only [List.map_toArray,List.map_cons,List.map_nil]);first | done | rfl) ?_
        with_reducible refine (R_Verdict.calls kj28 t497 t498 a2_0 a2_1 t499 _ A33.out).mono ?_
        rintro e w37 ⟨rfl,hb⟩
        refine ⟨_,rfl,?_⟩
        have n0_ := aM_ (kB_ (g := gb490) (o := .cells #[.int .i64 a0_0,.int .i64 a0_1] 34 (0,0)) (by (with_reducible repeat (first | refine kN_ ?_ _ | refine kD_ ?_ | refine kA_ ?_ _));exact BK490.out) hb)
        have n1_ := aM_ (kB_ (g := gb491) (o := .cells #[.int .i64 a1_0,.int .i64 a1_1] 34 (0,0)) (by (with_reducible repeat (first | refine kN_ ?_ _ | refine kD_ ?_ | refine kA_ ?_ _));exact BK491.out) hb)
        have n2_ := aM_ (kB_ (g := gb492) (o := .cells #[.int .i64 a2_0,.int .i64 a2_1] 34 (0,0)) (by (with_reducible repeat (first | refine kN_ ?_ _ | refine kD_ ?_ | refine kA_ ?_ _));exact BK492.out) hb)
        have n3_ := aM_ (kB_ (g := gb493) (o := .cells #[.int .i64 0,.int .i64 0] 34 (0,0)) (by (with_reducible repeat (first | refine kN_ ?_ _ | refine kD_ ?_ | refine kA_ ?_ _));exact BK493.out) hb)
        have n4_ := aM_ (kB_ (g := gb496) (o := .cells #[.int .i64 x497000_1,.int .i64 x497001_1] 34 (0,0)) (by (with_reducible repeat (first | refine kN_ ?_ _ | refine kD_ ?_ | refine kA_ ?_ _));exact BK496.out) hb)
        have n5_ := aM_ (bT_ (by repeat (first | (with_reducible first | exact HB.out | apply bA_ | apply bN_ | apply bD_ | refine bS_ ?_ GE490.out | refine bS_ ?_ GE491.out | refine bS_ ?_ GE492.out | refine bS_ ?_ GE493.out | refine bS_ ?_ GE496.out) | exact HB.out)) hb)
        clear BK490
        clear BK491
        clear BK492
        clear BK493
        clear BK496
        clear HB
        have BK490 := n0_
        have BK491 := n1_
        have BK492 := n2_
        have BK493 := n3_
        have BK496 := n4_
        have HB := n5_
        clear n0_ n1_ n2_ n3_ n4_ n5_
        (try clear hb)
        (try clear hb2)
        (try clear hk)
        (try clear hi)
        refine hK.out _ _ ⟨(blk_cell BK490.out 0).trans rfl,(blk_cell BK490.out 1).trans rfl,(blk_cell BK491.out 0).trans rfl,(blk_cell BK491.out 1).trans rfl,(blk_cell BK492.out 0).trans rfl,(blk_cell BK492.out 1).trans rfl⟩ (fun hHeld => ?_)
        clear hK K
        refine norm_ (a' := ?_) ?_ ?_
        rotate_left
        ·show Act.put _ (some 41) _ = _
         simp only [Act.put,sB_,sZ_,sS_,i64_w,i32_w]
         rfl
        refine pure_ (i := 6) (N := some 14) (v := ?_) (a' := ?_) #[true,true,true,true,true,true,true] rfl rfl (by kernel_rfl) (fun _ _ _ h => h) (Or.inl ⟨by rfl,?_⟩) ?_ ?_
        rotate_left
        ·intro w'
         go_simp
         with_reducible rfl
        rotate_left
        ·simp only [Act.put,sB_,sZ_,sS_,i64_w,i32_w]
         rfl
        refine done_ (by kernel_rfl) ?_
        go_upto_region 13 with (fail)
        go_cut [11] (fun v11 wc => ∃ (kq : Nat) (x11_33 : Bool),v11 = .bool x11_33 ∧ Aside0 (R_Keeps.j2 kq x11_33 x13_1 t499 a0_0 a0_1 a1_0 a1_1 a2_0 a2_1 x497000_1 x497001_1 = some (r1,r2,r3)) ∧ Aside0 (kq ≤ kj28) ∧ Aside0 (wc.heap[gb490]? = some (.cells #[.int .i64 a0_0,.int .i64 a0_1] 34 (0,0))) ∧ Aside0 (wc.heap[gb491]? = some (.cells #[.int .i64 a1_0,.int .i64 a1_1] 34 (0,0))) ∧ Aside0 (wc.heap[gb492]? = some (.cells #[.int .i64 a2_0,.int .i64 a2_1] 34 (0,0))) ∧ Aside0 (wc.heap[gb493]? = some (.cells #[.int .i64 0,.int .i64 0] 34 (0,0))) ∧ Aside0 (wc.heap[gb496]? = some (.cells #[.int .i64 x497000_1,.int .i64 x497001_1] 34 (0,0))) ∧ Aside0 (Below w.heap.size w wc))
        case first =>
         have H := HC34.out
         clear HC34
         by_cases c38 : x11_1 = true
         ·subst c38
          have H1 : (R_Keeps.j2 kj28 (t499 == 1) x13_1 t499 a0_0 a0_1 a1_0 a1_1 a2_0 a2_1 x497000_1 x497001_1) = some (r1,r2,r3) := by rw [if_pos rfl] at H;exact H
          clear H
          have H := H1
          clear H1
          have H' := aM_ H
          clear H
          go_wp2
          go_meet
          case rel => exact ⟨_,((t499 == 1)),(by first | rfl | (simp;done) | (simp [*];done)),H',⟨by have := HK1.out;have := HJ28.out;first | omega | exact Nat.le_refl _⟩,⟨by (with_reducible repeat (first | refine kN_ ?_ _ | refine kD_ ?_ | refine kA_ ?_ _));exact BK490.out⟩,⟨by (with_reducible repeat (first | refine kN_ ?_ _ | refine kD_ ?_ | refine kA_ ?_ _));exact BK491.out⟩,⟨by (with_reducible repeat (first | refine kN_ ?_ _ | refine kD_ ?_ | refine kA_ ?_ _));exact BK492.out⟩,⟨by (with_reducible repeat (first | refine kN_ ?_ _ | refine kD_ ?_ | refine kA_ ?_ _));exact BK493.out⟩,⟨by (with_reducible repeat (first | refine kN_ ?_ _ | refine kD_ ?_ | refine kA_ ?_ _));exact BK496.out⟩,⟨by repeat (first | (with_reducible first | exact HB.out | apply bA_ | apply bN_ | apply bD_ | refine bS_ ?_ GE490.out | refine bS_ ?_ GE491.out | refine bS_ ?_ GE492.out | refine bS_ ?_ GE493.out | refine bS_ ?_ GE496.out) | exact HB.out)⟩⟩
         ·replace c38 := Bool.eq_false_iff.mpr c38
          subst c38
          have H1 : (R_Keeps.j2 kj28 false x13_1 t499 a0_0 a0_1 a1_0 a1_1 a2_0 a2_1 x497000_1 x497001_1) = some (r1,r2,r3) := by rw [if_neg (show ¬ (false = true) by decide)] at H;exact H
          clear H
          have H := H1
          clear H1
          have H' := aM_ H
          clear H
          go_wp2
          go_meet
          case rel => exact ⟨_,(false),(by first | rfl | (simp;done) | (simp [*];done)),H',⟨by have := HK1.out;have := HJ28.out;first | omega | exact Nat.le_refl _⟩,⟨by (with_reducible repeat (first | refine kN_ ?_ _ | refine kD_ ?_ | refine kA_ ?_ _));exact BK490.out⟩,⟨by (with_reducible repeat (first | refine kN_ ?_ _ | refine kD_ ?_ | refine kA_ ?_ _));exact BK491.out⟩,⟨by (with_reducible repeat (first | refine kN_ ?_ _ | refine kD_ ?_ | refine kA_ ?_ _));exact BK492.out⟩,⟨by (with_reducible repeat (first | refine kN_ ?_ _ | refine kD_ ?_ | refine kA_ ?_ _));exact BK493.out⟩,⟨by (with_reducible repeat (first | refine kN_ ?_ _ | refine kD_ ?_ | refine kA_ ?_ _));exact BK496.out⟩,⟨by repeat (first | (with_reducible first | exact HB.out | apply bA_ | apply bN_ | apply bD_ | refine bS_ ?_ GE490.out | refine bS_ ?_ GE491.out | refine bS_ ?_ GE492.out | refine bS_ ?_ GE493.out | refine bS_ ?_ GE496.out) | exact HB.out)⟩⟩
        case rest =>
         clear HC34
         try clear c1
         try clear c2
         try clear p2
         try clear c3
         try clear c5
         try clear c5b0
         try clear c5b1
         try clear c6
         try clear c7
         try clear c7b0
         try clear c7b1
         try clear c12
         try clear c13
         try clear c14
         try clear c16
         try clear c17
         try clear c20
         try clear c24
         try clear c25
         try clear c26
         try clear c27
         try clear c30
         try clear c30b0
         try clear c31
         try clear c35
         try clear c38
         try clear hcz15_0
         try clear hcz15_1
         try clear hcz18_0
         try clear hcz18_1
         try clear hcz21_0
         try clear hcz21_1
         try clear hcz28_0
         try clear hcz28_1
         try clear hfz15_0
         try clear hfz15_1
         try clear hfz18_0
         try clear hfz18_1
         try clear hfz21_0
         try clear hfz21_1
         try clear hfz28_0
         try clear hfz28_1
         try clear p2
         obtain ⟨kq,x11_33,rfl,HA,HJ33,BK490,BK491,BK492,BK493,BK496,HB⟩ := hcut
         cases kq with
         | zero => exact absurd HA.out (by simp [R_Keeps.j2])
         | succ kj33 =>
          have H := HA.out
          clear HA
          simp only [R_Keeps.j2] at H
          by_cases c39 : x11_33 = true
          ·subst c39
           have H1 : (if t499 = 2 then (R_Keeps.l0 kj33 true (t499 != 2) (wrap64 (x13_1 + 1)) a0_0 a0_1 a1_0 a1_1 a2_0 a2_1 x13_1 x497001_1) else (R_Keeps.l0 kj33 true (t499 != 2) (wrap64 (x13_1 + 1)) a0_0 a0_1 a1_0 a1_1 a2_0 a2_1 x13_1 x13_1)) = some (r1,r2,r3) := by rw [if_pos rfl] at H;exact H
           clear H
           have H := H1
           clear H1
           by_cases c40 : t499 = 2
           ·rw [if_pos c40] at H
            have c40b0 : (t499 == 2) = true := beq_iff_eq.mpr c40
            have c40b1 : (t499 != 2) = false := bne_eq_false_iff_eq.mpr c40
            clear c40
            have H' := aM_ H
            clear H
            have hnb41 := NB496_490.out
            have hnc41 := NB490_496.out
            have hnb42 := NB496_491.out
            have hnc42 := NB491_496.out
            have hnb43 := NB496_492.out
            have hnc43 := NB492_496.out
            have hnb44 := NB496_493.out
            have hnc44 := NB493_496.out
            have hcz45_0 : wc.cell? ⟨gb496,0,none⟩ = some (.int .i64 x497000_1) := (blk_cell BK496.out 0).trans rfl
            have hcz45_1 : wc.cell? ⟨gb496,1,none⟩ = some (.int .i64 x497001_1) := (blk_cell BK496.out 1).trans rfl
            have hfz45_0 := blk_frozen BK496.out 0
            have hfz45_1 := blk_frozen BK496.out 1
            go_wp2
            go_roundg kj33
            case measure => have := HK1.out;have := HJ28.out;have := HJ33.out;omega
            case rel => exact ⟨(true),((t499 != 2)),(wrap64 (x13_1 + 1)),(x13_1),(x497001_1),(by first | rfl | (simp;done) | (simp [*];done)),(by first | rfl | (simp;done) | (simp [*];done)),(by first | rfl | (simp;done) | (simp [*];done)),H',⟨by have := HK1.out;have := HJ28.out;have := HJ33.out;omega⟩,⟨by (with_reducible repeat (first | refine kN_ ?_ _ | refine kD_ ?_ | refine kA_ ?_ _));refine blk_far ?_ NB490_496.out _;(with_reducible repeat (first | refine kN_ ?_ _ | refine kD_ ?_ | refine kA_ ?_ _));exact BK490.out⟩,⟨by (with_reducible repeat (first | refine kN_ ?_ _ | refine kD_ ?_ | refine kA_ ?_ _));refine blk_far ?_ NB491_496.out _;(with_reducible repeat (first | refine kN_ ?_ _ | refine kD_ ?_ | refine kA_ ?_ _));exact BK491.out⟩,⟨by (with_reducible repeat (first | refine kN_ ?_ _ | refine kD_ ?_ | refine kA_ ?_ _));refine blk_far ?_ NB492_496.out _;(with_reducible repeat (first | refine kN_ ?_ _ | refine kD_ ?_ | refine kA_ ?_ _));exact BK492.out⟩,⟨by (with_reducible repeat (first | refine kN_ ?_ _ | refine kD_ ?_ | refine kA_ ?_ _));refine blk_far ?_ NB493_496.out _;(with_reducible repeat (first | refine kN_ ?_ _ | refine kD_ ?_ | refine kA_ ?_ _));exact BK493.out⟩,⟨by (with_reducible repeat (first | refine kN_ ?_ _ | refine kD_ ?_ | refine kA_ ?_ _));refine blk_put (cs := #[.int .i64 x497000_1,.int .i64 x497001_1]) ?_ 0 _ rfl;(with_reducible repeat (first | refine kN_ ?_ _ | refine kD_ ?_ | refine kA_ ?_ _));exact BK496.out⟩,⟨by repeat (first | (with_reducible first | exact HB.out | apply bA_ | apply bN_ | apply bD_ | refine bS_ ?_ GE490.out | refine bS_ ?_ GE491.out | refine bS_ ?_ GE492.out | refine bS_ ?_ GE493.out | refine bS_ ?_ GE496.out) | exact HB.out)⟩⟩
           ·rw [if_neg c40] at H
            have c40b0 : (t499 == 2) = false := beq_eq_false_iff_ne.mpr c40
            have c40b1 : (t499 != 2) = true := bne_iff_ne.mpr c40
            have H' := aM_ H
            clear H
            have hnb46 := NB496_490.out
            have hnc46 := NB490_496.out
            have hnb47 := NB496_491.out
            have hnc47 := NB491_496.out
            have hnb48 := NB496_492.out
            have hnc48 := NB492_496.out
            have hnb49 := NB496_493.out
            have hnc49 := NB493_496.out
            have hcz50_0 : wc.cell? ⟨gb496,0,none⟩ = some (.int .i64 x497000_1) := (blk_cell BK496.out 0).trans rfl
            have hcz50_1 : wc.cell? ⟨gb496,1,none⟩ = some (.int .i64 x497001_1) := (blk_cell BK496.out 1).trans rfl
            have hfz50_0 := blk_frozen BK496.out 0
            have hfz50_1 := blk_frozen BK496.out 1
            go_wp2
            go_roundg kj33
            case measure => have := HK1.out;have := HJ28.out;have := HJ33.out;omega
            case rel => exact ⟨(true),((t499 != 2)),(wrap64 (x13_1 + 1)),(x13_1),(x13_1),(by first | rfl | (simp;done) | (simp [*];done)),(by first | rfl | (simp;done) | (simp [*];done)),(by first | rfl | (simp;done) | (simp [*];done)),H',⟨by have := HK1.out;have := HJ28.out;have := HJ33.out;omega⟩,⟨by (with_reducible repeat (first | refine kN_ ?_ _ | refine kD_ ?_ | refine kA_ ?_ _));refine blk_far ?_ NB490_496.out _;(with_reducible repeat (first | refine kN_ ?_ _ | refine kD_ ?_ | refine kA_ ?_ _));refine blk_far ?_ NB490_496.out _;(with_reducible repeat (first | refine kN_ ?_ _ | refine kD_ ?_ | refine kA_ ?_ _));exact BK490.out⟩,⟨by (with_reducible repeat (first | refine kN_ ?_ _ | refine kD_ ?_ | refine kA_ ?_ _));refine blk_far ?_ NB491_496.out _;(with_reducible repeat (first | refine kN_ ?_ _ | refine kD_ ?_ | refine kA_ ?_ _));refine blk_far ?_ NB491_496.out _;(with_reducible repeat (first | refine kN_ ?_ _ | refine kD_ ?_ | refine kA_ ?_ _));exact BK491.out⟩,⟨by (with_reducible repeat (first | refine kN_ ?_ _ | refine kD_ ?_ | refine kA_ ?_ _));refine blk_far ?_ NB492_496.out _;(with_reducible repeat (first | refine kN_ ?_ _ | refine kD_ ?_ | refine kA_ ?_ _));refine blk_far ?_ NB492_496.out _;(with_reducible repeat (first | refine kN_ ?_ _ | refine kD_ ?_ | refine kA_ ?_ _));exact BK492.out⟩,⟨by (with_reducible repeat (first | refine kN_ ?_ _ | refine kD_ ?_ | refine kA_ ?_ _));refine blk_far ?_ NB493_496.out _;(with_reducible repeat (first | refine kN_ ?_ _ | refine kD_ ?_ | refine kA_ ?_ _));refine blk_far ?_ NB493_496.out _;(with_reducible repeat (first | refine kN_ ?_ _ | refine kD_ ?_ | refine kA_ ?_ _));exact BK493.out⟩,⟨by (with_reducible repeat (first | refine kN_ ?_ _ | refine kD_ ?_ | refine kA_ ?_ _));refine blk_put (cs := #[.int .i64 x13_1,.int .i64 x497001_1]) ?_ 1 _ rfl;(with_reducible repeat (first | refine kN_ ?_ _ | refine kD_ ?_ | refine kA_ ?_ _));refine blk_put (cs := #[.int .i64 x497000_1,.int .i64 x497001_1]) ?_ 0 _ rfl;(with_reducible repeat (first | refine kN_ ?_ _ | refine kD_ ?_ | refine kA_ ?_ _));exact BK496.out⟩,⟨by repeat (first | (with_reducible first | exact HB.out | apply bA_ | apply bN_ | apply bD_ | refine bS_ ?_ GE490.out | refine bS_ ?_ GE491.out | refine bS_ ?_ GE492.out | refine bS_ ?_ GE493.out | refine bS_ ?_ GE496.out) | exact HB.out)⟩⟩
          ·replace c39 := Bool.eq_false_iff.mpr c39
           subst c39
           have H1 : (if t499 = 2 then (R_Keeps.l0 kj33 false (t499 != 2) (wrap64 (x13_1 + 1)) a0_0 a0_1 a1_0 a1_1 a2_0 a2_1 x497000_1 x497001_1) else (R_Keeps.l0 kj33 false (t499 != 2) (wrap64 (x13_1 + 1)) a0_0 a0_1 a1_0 a1_1 a2_0 a2_1 x497000_1 x13_1)) = some (r1,r2,r3) := by rw [if_neg (show ¬ (false = true) by decide)] at H;exact H
           clear H
           have H := H1
           clear H1
           by_cases c51 : t499 = 2
           ·rw [if_pos c51] at H
            have c51b0 : (t499 == 2) = true := beq_iff_eq.mpr c51
            have c51b1 : (t499 != 2) = false := bne_eq_false_iff_eq.mpr c51
            clear c51
            have H' := aM_ H
            clear H
            go_wp2
            go_roundg kj33
            case measure => have := HK1.out;have := HJ28.out;have := HJ33.out;omega
            case rel => exact ⟨(false),((t499 != 2)),(wrap64 (x13_1 + 1)),(x497000_1),(x497001_1),(by first | rfl | (simp;done) | (simp [*];done)),(by first | rfl | (simp;done) | (simp [*];done)),(by first | rfl | (simp;done) | (simp [*];done)),H',⟨by have := HK1.out;have := HJ28.out;have := HJ33.out;omega⟩,⟨by (with_reducible repeat (first | refine kN_ ?_ _ | refine kD_ ?_ | refine kA_ ?_ _));exact BK490.out⟩,⟨by (with_reducible repeat (first | refine kN_ ?_ _ | refine kD_ ?_ | refine kA_ ?_ _));exact BK491.out⟩,⟨by (with_reducible repeat (first | refine kN_ ?_ _ | refine kD_ ?_ | refine kA_ ?_ _));exact BK492.out⟩,⟨by (with_reducible repeat (first | refine kN_ ?_ _ | refine kD_ ?_ | refine kA_ ?_ _));exact BK493.out⟩,⟨by (with_reducible repeat (first | refine kN_ ?_ _ | refine kD_ ?_ | refine kA_ ?_ _));exact BK496.out⟩,⟨by repeat (first | (with_reducible first | exact HB.out | apply bA_ | apply bN_ | apply bD_ | refine bS_ ?_ GE490.out | refine bS_ ?_ GE491.out | refine bS_ ?_ GE492.out | refine bS_ ?_ GE493.out | refine bS_ ?_ GE496.out) | exact HB.out)⟩⟩
           ·rw [if_neg c51] at H
            have c51b0 : (t499 == 2) = false := beq_eq_false_iff_ne.mpr c51
            have c51b1 : (t499 != 2) = true := bne_iff_ne.mpr c51
            have H' := aM_ H
            clear H
            have hnb52 := NB496_490.out
            have hnc52 := NB490_496.out
            have hnb53 := NB496_491.out
            have hnc53 := NB491_496.out
            have hnb54 := NB496_492.out
            have hnc54 := NB492_496.out
            have hnb55 := NB496_493.out
            have hnc55 := NB493_496.out
            have hcz56_0 : wc.cell? ⟨gb496,0,none⟩ = some (.int .i64 x497000_1) := (blk_cell BK496.out 0).trans rfl
            have hcz56_1 : wc.cell? ⟨gb496,1,none⟩ = some (.int .i64 x497001_1) := (blk_cell BK496.out 1).trans rfl
            have hfz56_0 := blk_frozen BK496.out 0
            have hfz56_1 := blk_frozen BK496.out 1
            go_wp2
            go_roundg kj33
            case measure => have := HK1.out;have := HJ28.out;have := HJ33.out;omega
            case rel => exact ⟨(false),((t499 != 2)),(wrap64 (x13_1 + 1)),(x497000_1),(x13_1),(by first | rfl | (simp;done) | (simp [*];done)),(by first | rfl | (simp;done) | (simp [*];done)),(by first | rfl | (simp;done) | (simp [*];done)),H',⟨by have := HK1.out;have := HJ28.out;have := HJ33.out;omega⟩,⟨by (with_reducible repeat (first | refine kN_ ?_ _ | refine kD_ ?_ | refine kA_ ?_ _));refine blk_far ?_ NB490_496.out _;(with_reducible repeat (first | refine kN_ ?_ _ | refine kD_ ?_ | refine kA_ ?_ _));exact BK490.out⟩,⟨by (with_reducible repeat (first | refine kN_ ?_ _ | refine kD_ ?_ | refine kA_ ?_ _));refine blk_far ?_ NB491_496.out _;(with_reducible repeat (first | refine kN_ ?_ _ | refine kD_ ?_ | refine kA_ ?_ _));exact BK491.out⟩,⟨by (with_reducible repeat (first | refine kN_ ?_ _ | refine kD_ ?_ | refine kA_ ?_ _));refine blk_far ?_ NB492_496.out _;(with_reducible repeat (first | refine kN_ ?_ _ | refine kD_ ?_ | refine kA_ ?_ _));exact BK492.out⟩,⟨by (with_reducible repeat (first | refine kN_ ?_ _ | refine kD_ ?_ | refine kA_ ?_ _));refine blk_far ?_ NB493_496.out _;(with_reducible repeat (first | refine kN_ ?_ _ | refine kD_ ?_ | refine kA_ ?_ _));exact BK493.out⟩,⟨by (with_reducible repeat (first | refine kN_ ?_ _ | refine kD_ ?_ | refine kA_ ?_ _));refine blk_put (cs := #[.int .i64 x497000_1,.int .i64 x497001_1]) ?_ 1 _ rfl;(with_reducible repeat (first | refine kN_ ?_ _ | refine kD_ ?_ | refine kA_ ?_ _));exact BK496.out⟩,⟨by repeat (first | (with_reducible first | exact HB.out | apply bA_ | apply bN_ | apply bD_ | refine bS_ ?_ GE490.out | refine bS_ ?_ GE491.out | refine bS_ ?_ GE492.out | refine bS_ ?_ GE493.out | refine bS_ ?_ GE496.out) | exact HB.out)⟩⟩
       ·replace c31 := Bool.eq_false_iff.mpr c31
        subst c31
        have H1 : (some (x497000_1,x497001_1,0)) = some (r1,r2,r3) := by rw [if_neg (show ¬ (false = true) by decide)] at H;exact H
        clear H
        have H := H1
        clear H1
        simp only [Option.some.injEq,Prod.mk.injEq] at H
        obtain ⟨rfl,rfl,rfl⟩ := H
        have hnb57 := NB496_490.out
        have hnc57 := NB490_496.out
        have hnb58 := NB496_491.out
        have hnc58 := NB491_496.out
        have hnb59 := NB496_492.out
        have hnc59 := NB492_496.out
        have hnb60 := NB496_493.out
        have hnc60 := NB493_496.out
        have hcz61_0 : wc.cell? ⟨gb496,0,none⟩ = some (.int .i64 x497000_1) := (blk_cell BK496.out 0).trans rfl
        have hcz61_1 : wc.cell? ⟨gb496,1,none⟩ = some (.int .i64 x497001_1) := (blk_cell BK496.out 1).trans rfl
        have hfz61_0 := blk_frozen BK496.out 0
        have hfz61_1 := blk_frozen BK496.out 1
        have hnb62 := NB493_490.out
        have hnc62 := NB490_493.out
        have hnb63 := NB493_491.out
        have hnc63 := NB491_493.out
        have hnb64 := NB493_492.out
        have hnc64 := NB492_493.out
        have hcz65_0 : wc.cell? ⟨gb493,0,none⟩ = some (.int .i64 0) := (blk_cell BK493.out 0).trans rfl
        have hcz65_1 : wc.cell? ⟨gb493,1,none⟩ = some (.int .i64 0) := (blk_cell BK493.out 1).trans rfl
        have hfz65_0 := blk_frozen BK493.out 0
        have hfz65_1 := blk_frozen BK493.out 1
        go_wp2
        refine bodyPost_ret (results_ct rfl _ _ gb493 34 #[.int .i64 x497000_1,.int .i64 x497001_1] (0,0) _ rfl (by (with_reducible repeat (first | refine kN_ ?_ _ | refine kD_ ?_ | refine kA_ ?_ _));refine blk_put (cs := #[.int .i64 x497000_1,.int .i64 0]) ?_ 1 _ rfl;(with_reducible repeat (first | refine kN_ ?_ _ | refine kD_ ?_ | refine kA_ ?_ _));refine blk_put (cs := #[.int .i64 0,.int .i64 0]) ?_ 0 _ rfl;(with_reducible repeat (first | refine kN_ ?_ _ | refine kD_ ?_ | refine kA_ ?_ _));exact BK493.out) Try.underlying34 rfl (by kernel_rfl)) rfl ?_
        exact ⟨by first | rfl | (simp [*] <;> rfl),by repeat (first | (with_reducible first | exact HB.out | apply bA_ | apply bN_ | apply bD_ | refine bS_ ?_ GE490.out | refine bS_ ?_ GE491.out | refine bS_ ?_ GE492.out | refine bS_ ?_ GE493.out | refine bS_ ?_ GE496.out) | exact HB.out)⟩
  ·rw [if_neg c7] at H
   have c7b0 : (t495 == 0) = false := beq_eq_false_iff_ne.mpr c7
   have c7b1 : (t495 != 0) = true := bne_iff_ne.mpr c7
   simp only [Option.some.injEq,Prod.mk.injEq] at H
   obtain ⟨rfl,rfl,rfl⟩ := H
   go_enter Try.func35,Try.ntmps35
   go_wp2_with (first | ((with_reducible refine gate_dst (N := 3) rfl ?_);refine box_event ?hg (N := 3) ?hd (cs := #[.int .i64 a0_0,.int .i64 a0_1]) (t := 34) ?hr ?_;(case hd => rfl);(case hg => rfl);(case hr => first | (go_simp;done) | (go_simp;rfl));intro gb490 hg w66 hbox hb;have n0_ := aM_ (bT_ (by repeat (first | (with_reducible first | exact HB.out | apply bA_ | apply bN_ | apply bD_) | exact HB.out)) hb);have n1_ := aM_ (hbox);have n2_ := aM_ ((by rw [hg];exact (below_size (by repeat (first | (with_reducible first | exact HB.out | apply bA_ | apply bN_ | apply bD_) | exact HB.out))) : w.heap.size ≤ gb490));have n3_ := aM_ ((by rw [hg];exact (below_size (by repeat (first | (with_reducible first | exact HB.out | apply bA_ | apply bN_ | apply bD_) | exact HB.out))) : w.heap.size ≤ gb490));clear HB;have HB := n0_;have BK490 := n1_;have GW490 := n2_;have GE490 := n3_;clear n0_ n1_ n2_ n3_;clear hb hbox hg) | ((with_reducible refine gate_dst (N := 4) rfl ?_);refine box_event ?hg (N := 4) ?hd (cs := #[.int .i64 a1_0,.int .i64 a1_1]) (t := 34) ?hr ?_;(case hd => rfl);(case hg => rfl);(case hr => first | (go_simp;done) | (go_simp;rfl));intro gb491 hg w67 hbox hb;have n0_ := aM_ (kB_ (g := gb490) (o := .cells #[.int .i64 a0_0,.int .i64 a0_1] 34 (0,0)) (by (with_reducible repeat (first | refine kN_ ?_ _ | refine kD_ ?_ | refine kA_ ?_ _));exact BK490.out) hb);have n1_ := aM_ (bT_ (by repeat (first | (with_reducible first | exact HB.out | apply bA_ | apply bN_ | apply bD_ | refine bS_ ?_ GE490.out) | exact HB.out)) hb);have n2_ := aM_ (hbox);have n3_ := aM_ ((by rw [hg];exact (below_size (by repeat (first | (with_reducible first | exact HB.out | apply bA_ | apply bN_ | apply bD_ | refine bS_ ?_ GE490.out) | exact HB.out))) : w.heap.size ≤ gb491));have n4_ := aM_ ((by rw [hg];exact (below_size (by repeat (first | (with_reducible first | exact HB.out | apply bA_ | apply bN_ | apply bD_ | refine bS_ ?_ GE490.out) | exact HB.out))) : w.heap.size ≤ gb491));have n5_ := aM_ ((by rw [hg];exact Nat.ne_of_lt (blk_lt (g := gb490) (o := .cells #[.int .i64 a0_0,.int .i64 a0_1] 34 (0,0)) (by (with_reducible repeat (first | refine kN_ ?_ _ | refine kD_ ?_ | refine kA_ ?_ _));exact BK490.out)) : gb490 ≠ gb491));have n6_ := aM_ ((by rw [hg];exact Nat.ne_of_gt (blk_lt (g := gb490) (o := .cells #[.int .i64 a0_0,.int .i64 a0_1] 34 (0,0)) (by (with_reducible repeat (first | refine kN_ ?_ _ | refine kD_ ?_ | refine kA_ ?_ _));exact BK490.out)) : gb491 ≠ gb490));clear BK490;clear HB;have BK490 := n0_;have HB := n1_;have BK491 := n2_;have GW491 := n3_;have GE491 := n4_;have NB490_491 := n5_;have NB491_490 := n6_;clear n0_ n1_ n2_ n3_ n4_ n5_ n6_;clear hb hbox hg) | ((with_reducible refine gate_dst (N := 5) rfl ?_);refine box_event ?hg (N := 5) ?hd (cs := #[.int .i64 a2_0,.int .i64 a2_1]) (t := 34) ?hr ?_;(case hd => rfl);(case hg => rfl);(case hr => first | (go_simp;done) | (go_simp;rfl));intro gb492 hg w68 hbox hb;have n0_ := aM_ (kB_ (g := gb490) (o := .cells #[.int .i64 a0_0,.int .i64 a0_1] 34 (0,0)) (by (with_reducible repeat (first | refine kN_ ?_ _ | refine kD_ ?_ | refine kA_ ?_ _));exact BK490.out) hb);have n1_ := aM_ (kB_ (g := gb491) (o := .cells #[.int .i64 a1_0,.int .i64 a1_1] 34 (0,0)) (by (with_reducible repeat (first | refine kN_ ?_ _ | refine kD_ ?_ | refine kA_ ?_ _));exact BK491.out) hb);have n2_ := aM_ (bT_ (by repeat (first | (with_reducible first | exact HB.out | apply bA_ | apply bN_ | apply bD_ | refine bS_ ?_ GE490.out | refine bS_ ?_ GE491.out) | exact HB.out)) hb);have n3_ := aM_ (hbox);have n4_ := aM_ ((by rw [hg];exact (below_size (by repeat (first | (with_reducible first | exact HB.out | apply bA_ | apply bN_ | apply bD_ | refine bS_ ?_ GE490.out | refine bS_ ?_ GE491.out) | exact HB.out))) : w.heap.size ≤ gb492));have n5_ := aM_ ((by rw [hg];exact (below_size (by repeat (first | (with_reducible first | exact HB.out | apply bA_ | apply bN_ | apply bD_ | refine bS_ ?_ GE490.out | refine bS_ ?_ GE491.out) | exact HB.out))) : w.heap.size ≤ gb492));have n6_ := aM_ ((by rw [hg];exact Nat.ne_of_lt (blk_lt (g := gb490) (o := .cells #[.int .i64 a0_0,.int .i64 a0_1] 34 (0,0)) (by (with_reducible repeat (first | refine kN_ ?_ _ | refine kD_ ?_ | refine kA_ ?_ _));exact BK490.out)) : gb490 ≠ gb492));have n7_ := aM_ ((by rw [hg];exact Nat.ne_of_gt (blk_lt (g := gb490) (o := .cells #[.int .i64 a0_0,.int .i64 a0_1] 34 (0,0)) (by (with_reducible repeat (first | refine kN_ ?_ _ | refine kD_ ?_ | refine kA_ ?_ _));exact BK490.out)) : gb492 ≠ gb490));have n8_ := aM_ ((by rw [hg];exact Nat.ne_of_lt (blk_lt (g := gb491) (o := .cells #[.int .i64 a1_0,.int .i64 a1_1] 34 (0,0)) (by (with_reducible repeat (first | refine kN_ ?_ _ | refine kD_ ?_ | refine kA_ ?_ _));exact BK491.out)) : gb491 ≠ gb492));have n9_ := aM_ ((by rw [hg];exact Nat.ne_of_gt (blk_lt (g := gb491) (o := .cells #[.int .i64 a1_0,.int .i64 a1_1] 34 (0,0)) (by (with_reducible repeat (first | refine kN_ ?_ _ | refine kD_ ?_ | refine kA_ ?_ _));exact BK491.out)) : gb492 ≠ gb491));clear BK490;clear BK491;clear HB;have BK490 := n0_;have BK491 := n1_;have HB := n2_;have BK492 := n3_;have GW492 := n4_;have GE492 := n5_;have NB490_492 := n6_;have NB492_490 := n7_;have NB491_492 := n8_;have NB492_491 := n9_;clear n0_ n1_ n2_ n3_ n4_ n5_ n6_ n7_ n8_ n9_;clear hb hbox hg) | ((with_reducible refine gate_dst (N := 6) rfl ?_);refine box_event ?hg (N := 6) ?hd (cs := #[.int .i64 0,.int .i64 0]) (t := 34) ?hr ?_;(case hd => rfl);(case hg => rfl);(case hr => first | (go_simp;done) | (go_simp;rfl));intro gb493 hg w69 hbox hb;have n0_ := aM_ (kB_ (g := gb490) (o := .cells #[.int .i64 a0_0,.int .i64 a0_1] 34 (0,0)) (by (with_reducible repeat (first | refine kN_ ?_ _ | refine kD_ ?_ | refine kA_ ?_ _));exact BK490.out) hb);have n1_ := aM_ (kB_ (g := gb491) (o := .cells #[.int .i64 a1_0,.int .i64 a1_1] 34 (0,0)) (by (with_reducible repeat (first | refine kN_ ?_ _ | refine kD_ ?_ | refine kA_ ?_ _));exact BK491.out) hb);have n2_ := aM_ (kB_ (g := gb492) (o := .cells #[.int .i64 a2_0,.int .i64 a2_1] 34 (0,0)) (by (with_reducible repeat (first | refine kN_ ?_ _ | refine kD_ ?_ | refine kA_ ?_ _));exact BK492.out) hb);have n3_ := aM_ (bT_ (by repeat (first | (with_reducible first | exact HB.out | apply bA_ | apply bN_ | apply bD_ | refine bS_ ?_ GE490.out | refine bS_ ?_ GE491.out | refine bS_ ?_ GE492.out) | exact HB.out)) hb);have n4_ := aM_ (hbox);have n5_ := aM_ ((by rw [hg];exact (below_size (by repeat (first | (with_reducible first | exact HB.out | apply bA_ | apply bN_ | apply bD_ | refine bS_ ?_ GE490.out | refine bS_ ?_ GE491.out | refine bS_ ?_ GE492.out) | exact HB.out))) : w.heap.size ≤ gb493));have n6_ := aM_ ((by rw [hg];exact (below_size (by repeat (first | (with_reducible first | exact HB.out | apply bA_ | apply bN_ | apply bD_ | refine bS_ ?_ GE490.out | refine bS_ ?_ GE491.out | refine bS_ ?_ GE492.out) | exact HB.out))) : w.heap.size ≤ gb493));have n7_ := aM_ ((by rw [hg];exact Nat.ne_of_lt (blk_lt (g := gb490) (o := .cells #[.int .i64 a0_0,.int .i64 a0_1] 34 (0,0)) (by (with_reducible repeat (first | refine kN_ ?_ _ | refine kD_ ?_ | refine kA_ ?_ _));exact BK490.out)) : gb490 ≠ gb493));have n8_ := aM_ ((by rw [hg];exact Nat.ne_of_gt (blk_lt (g := gb490) (o := .cells #[.int .i64 a0_0,.int .i64 a0_1] 34 (0,0)) (by (with_reducible repeat (first | refine kN_ ?_ _ | refine kD_ ?_ | refine kA_ ?_ _));exact BK490.out)) : gb493 ≠ gb490));have n9_ := aM_ ((by rw [hg];exact Nat.ne_of_lt (blk_lt (g := gb491) (o := .cells #[.int .i64 a1_0,.int .i64 a1_1] 34 (0,0)) (by (with_reducible repeat (first | refine kN_ ?_ _ | refine kD_ ?_ | refine kA_ ?_ _));exact BK491.out)) : gb491 ≠ gb493));have n10_ := aM_ ((by rw [hg];exact Nat.ne_of_gt (blk_lt (g := gb491) (o := .cells #[.int .i64 a1_0,.int .i64 a1_1] 34 (0,0)) (by (with_reducible repeat (first | refine kN_ ?_ _ | refine kD_ ?_ | refine kA_ ?_ _));exact BK491.out)) : gb493 ≠ gb491));have n11_ := aM_ ((by rw [hg];exact Nat.ne_of_lt (blk_lt (g := gb492) (o := .cells #[.int .i64 a2_0,.int .i64 a2_1] 34 (0,0)) (by (with_reducible repeat (first | refine kN_ ?_ _ | refine kD_ ?_ | refine kA_ ?_ _));exact BK492.out)) : gb492 ≠ gb493));have n12_ := aM_ ((by rw [hg];exact Nat.ne_of_gt (blk_lt (g := gb492) (o := .cells #[.int .i64 a2_0,.int .i64 a2_1] 34 (0,0)) (by (with_reducible repeat (first | refine kN_ ?_ _ | refine kD_ ?_ | refine kA_ ?_ _));exact BK492.out)) : gb493 ≠ gb492));clear BK490;clear BK491;clear BK492;clear HB;have BK490 := n0_;have BK491 := n1_;have BK492 := n2_;have HB := n3_;have BK493 := n4_;have GW493 := n5_;have GE493 := n6_;have NB490_493 := n7_;have NB493_490 := n8_;have NB491_493 := n9_;have NB493_491 := n10_;have NB492_493 := n11_;have NB493_492 := n12_;clear n0_ n1_ n2_ n3_ n4_ n5_ n6_ n7_ n8_ n9_ n10_ n11_ n12_;clear hb hbox hg;have hnb70 := NB490_491.out;have hnc70 := NB491_490.out;have hnb71 := NB490_492.out;have hnc71 := NB492_490.out;have hnb72 := NB490_493.out;have hnc72 := NB493_490.out;have hcz73_0 : w69.cell? ⟨gb490,0,none⟩ = some (.int .i64 a0_0) := (blk_cell BK490.out 0).trans rfl;have hcz73_1 : w69.cell? ⟨gb490,1,none⟩ = some (.int .i64 a0_1) := (blk_cell BK490.out 1).trans rfl;have hfz73_0 := blk_frozen BK490.out 0;have hfz73_1 := blk_frozen BK490.out 1;have hnb74 := NB491_492.out;have hnc74 := NB492_491.out;have hnb75 := NB491_493.out;have hnc75 := NB493_491.out;have hcz76_0 : w69.cell? ⟨gb491,0,none⟩ = some (.int .i64 a1_0) := (blk_cell BK491.out 0).trans rfl;have hcz76_1 : w69.cell? ⟨gb491,1,none⟩ = some (.int .i64 a1_1) := (blk_cell BK491.out 1).trans rfl;have hfz76_0 := blk_frozen BK491.out 0;have hfz76_1 := blk_frozen BK491.out 1) | ((with_reducible refine gate_callee (f := 65) rfl ?_);refine goesL_ (some 17) rfl rfl Try.func65 (by kernel_rfl) rfl #[.agg #[.int .i64 a0_0,.int .i64 a0_1],.agg #[.int .i64 a1_0,.int .i64 a1_1]] rfl (by (try simp only [List.map_toArray,List.map_cons,List.map_nil]);first | done | rfl) ?_;(with_reducible refine (R_checkAge.calls k a0_0 a0_1 a1_0 a1_1 t494 _ A4.out).mono ?_);rintro e w77 ⟨rfl,hb⟩;refine ⟨_,rfl,?_⟩;have n0_ := aM_ (kB_ (g := gb490) (o := .cells #[.int .i64 a0_0,.int .i64 a0_1] 34 (0,0)) (by (with_reducible repeat (first | refine kN_ ?_ _ | refine kD_ ?_ | refine kA_ ?_ _));exact BK490.out) hb);have n1_ := aM_ (kB_ (g := gb491) (o := .cells #[.int .i64 a1_0,.int .i64 a1_1] 34 (0,0)) (by (with_reducible repeat (first | refine kN_ ?_ _ | refine kD_ ?_ | refine kA_ ?_ _));exact BK491.out) hb);have n2_ := aM_ (kB_ (g := gb492) (o := .cells #[.int .i64 a2_0,.int .i64 a2_1] 34 (0,0)) (by (with_reducible repeat (first | refine kN_ ?_ _ | refine kD_ ?_ | refine kA_ ?_ _));exact BK492.out) hb);have n3_ := aM_ (kB_ (g := gb493) (o := .cells #[.int .i64 0,.int .i64 0] 34 (0,0)) (by (with_reducible repeat (first | refine kN_ ?_ _ | refine kD_ ?_ | refine kA_ ?_ _));exact BK493.out) hb);have n4_ := aM_ (bT_ (by repeat (first | (with_reducible first | exact HB.out | apply bA_ | apply bN_ | apply bD_ | refine bS_ ?_ GE490.out | refine bS_ ?_ GE491.out | refine bS_ ?_ GE492.out | refine bS_ ?_ GE493.out) | exact HB.out)) hb);clear BK490;clear BK491;clear BK492;clear BK493;clear HB;have BK490 := n0_;have BK491 := n1_;have BK492 := n2_;have BK493 := n3_;have HB := n4_;clear n0_ n1_ n2_ n3_ n4_;(try clear hb);(try clear hb2);(try clear hk);(try clear hi);have hnb78 := NB492_493.out;have hnc78 := NB493_492.out;have hcz79_0 : w77.cell? ⟨gb492,0,none⟩ = some (.int .i64 a2_0) := (blk_cell BK492.out 0).trans rfl;have hcz79_1 : w77.cell? ⟨gb492,1,none⟩ = some (.int .i64 a2_1) := (blk_cell BK492.out 1).trans rfl;have hfz79_0 := blk_frozen BK492.out 0;have hfz79_1 := blk_frozen BK492.out 1) | ((with_reducible refine gate_callee (f := 73) rfl ?_);refine goesL_ (some 23) rfl rfl Try.func73 (by kernel_rfl) rfl #[.agg #[.int .i64 a2_0,.int .i64 a2_1],.int .i64 (-1000000000),.int .i64 1000000000] rfl (by (try simp only [List.map_toArray,List.map_cons,List.map_nil]);first | done | rfl) ?_;(with_reducible refine (R_checkRange.calls k a2_0 a2_1 (-1000000000) 1000000000 t495 _ A6.out).mono ?_);rintro e w80 ⟨rfl,hb⟩;refine ⟨_,rfl,?_⟩;have n0_ := aM_ (kB_ (g := gb490) (o := .cells #[.int .i64 a0_0,.int .i64 a0_1] 34 (0,0)) (by (with_reducible repeat (first | refine kN_ ?_ _ | refine kD_ ?_ | refine kA_ ?_ _));exact BK490.out) hb);have n1_ := aM_ (kB_ (g := gb491) (o := .cells #[.int .i64 a1_0,.int .i64 a1_1] 34 (0,0)) (by (with_reducible repeat (first | refine kN_ ?_ _ | refine kD_ ?_ | refine kA_ ?_ _));exact BK491.out) hb);have n2_ := aM_ (kB_ (g := gb492) (o := .cells #[.int .i64 a2_0,.int .i64 a2_1] 34 (0,0)) (by (with_reducible repeat (first | refine kN_ ?_ _ | refine kD_ ?_ | refine kA_ ?_ _));exact BK492.out) hb);have n3_ := aM_ (kB_ (g := gb493) (o := .cells #[.int .i64 0,.int .i64 0] 34 (0,0)) (by (with_reducible repeat (first | refine kN_ ?_ _ | refine kD_ ?_ | refine kA_ ?_ _));exact BK493.out) hb);have n4_ := aM_ (bT_ (by repeat (first | (with_reducible first | exact HB.out | apply bA_ | apply bN_ | apply bD_ | refine bS_ ?_ GE490.out | refine bS_ ?_ GE491.out | refine bS_ ?_ GE492.out | refine bS_ ?_ GE493.out) | exact HB.out)) hb);clear BK490;clear BK491;clear BK492;clear BK493;clear HB;have BK490 := n0_;have BK491 := n1_;have BK492 := n2_;have BK493 := n3_;have HB := n4_;clear n0_ n1_ n2_ n3_ n4_;(try clear hb);(try clear hb2);(try clear hk);(try clear hi);have hcz81_0 : w80.cell? ⟨gb493,0,none⟩ = some (.int .i64 0) := (blk_cell BK493.out 0).trans rfl;have hcz81_1 : w80.cell? ⟨gb493,1,none⟩ = some (.int .i64 0) := (blk_cell BK493.out 1).trans rfl;have hfz81_0 := blk_frozen BK493.out 0;have hfz81_1 := blk_frozen BK493.out 1))
   refine bodyPost_ret (results_ct rfl _ _ gb493 34 #[.int .i64 0,.int .i64 0] (0,0) _ rfl (by (with_reducible repeat (first | refine kN_ ?_ _ | refine kD_ ?_ | refine kA_ ?_ _));refine blk_put (cs := #[.int .i64 0,.int .i64 0]) ?_ 1 _ rfl;(with_reducible repeat (first | refine kN_ ?_ _ | refine kD_ ?_ | refine kA_ ?_ _));refine blk_put (cs := #[.int .i64 0,.int .i64 0]) ?_ 0 _ rfl;(with_reducible repeat (first | refine kN_ ?_ _ | refine kD_ ?_ | refine kA_ ?_ _));exact BK493.out) Try.underlying34 rfl (by kernel_rfl)) rfl ?_
   exact ⟨by first | rfl | (simp [*] <;> rfl),by repeat (first | (with_reducible first | exact HB.out | apply bA_ | apply bN_ | apply bD_ | refine bS_ ?_ GE490.out | refine bS_ ?_ GE491.out | refine bS_ ?_ GE492.out | refine bS_ ?_ GE493.out) | exact HB.out)⟩
 ·rw [if_neg c5] at H
  have c5b0 : (t494 == 0) = false := beq_eq_false_iff_ne.mpr c5
  have c5b1 : (t494 != 0) = true := bne_iff_ne.mpr c5
  simp only [Option.some.injEq,Prod.mk.injEq] at H
  obtain ⟨rfl,rfl,rfl⟩ := H
  go_enter Try.func35,Try.ntmps35
  go_wp2_with (first | ((with_reducible refine gate_dst (N := 3) rfl ?_);refine box_event ?hg (N := 3) ?hd (cs := #[.int .i64 a0_0,.int .i64 a0_1]) (t := 34) ?hr ?_;(case hd => rfl);(case hg => rfl);(case hr => first | (go_simp;done) | (go_simp;rfl));intro gb490 hg w82 hbox hb;have n0_ := aM_ (bT_ (by repeat (first | (with_reducible first | exact HB.out | apply bA_ | apply bN_ | apply bD_) | exact HB.out)) hb);have n1_ := aM_ (hbox);have n2_ := aM_ ((by rw [hg];exact (below_size (by repeat (first | (with_reducible first | exact HB.out | apply bA_ | apply bN_ | apply bD_) | exact HB.out))) : w.heap.size ≤ gb490));have n3_ := aM_ ((by rw [hg];exact (below_size (by repeat (first | (with_reducible first | exact HB.out | apply bA_ | apply bN_ | apply bD_) | exact HB.out))) : w.heap.size ≤ gb490));clear HB;have HB := n0_;have BK490 := n1_;have GW490 := n2_;have GE490 := n3_;clear n0_ n1_ n2_ n3_;clear hb hbox hg) | ((with_reducible refine gate_dst (N := 4) rfl ?_);refine box_event ?hg (N := 4) ?hd (cs := #[.int .i64 a1_0,.int .i64 a1_1]) (t := 34) ?hr ?_;(case hd => rfl);(case hg => rfl);(case hr => first | (go_simp;done) | (go_simp;rfl));intro gb491 hg w83 hbox hb;have n0_ := aM_ (kB_ (g := gb490) (o := .cells #[.int .i64 a0_0,.int .i64 a0_1] 34 (0,0)) (by (with_reducible repeat (first | refine kN_ ?_ _ | refine kD_ ?_ | refine kA_ ?_ _));exact BK490.out) hb);have n1_ := aM_ (bT_ (by repeat (first | (with_reducible first | exact HB.out | apply bA_ | apply bN_ | apply bD_ | refine bS_ ?_ GE490.out) | exact HB.out)) hb);have n2_ := aM_ (hbox);have n3_ := aM_ ((by rw [hg];exact (below_size (by repeat (first | (with_reducible first | exact HB.out | apply bA_ | apply bN_ | apply bD_ | refine bS_ ?_ GE490.out) | exact HB.out))) : w.heap.size ≤ gb491));have n4_ := aM_ ((by rw [hg];exact (below_size (by repeat (first | (with_reducible first | exact HB.out | apply bA_ | apply bN_ | apply bD_ | refine bS_ ?_ GE490.out) | exact HB.out))) : w.heap.size ≤ gb491));have n5_ := aM_ ((by rw [hg];exact Nat.ne_of_lt (blk_lt (g := gb490) (o := .cells #[.int .i64 a0_0,.int .i64 a0_1] 34 (0,0)) (by (with_reducible repeat (first | refine kN_ ?_ _ | refine kD_ ?_ | refine kA_ ?_ _));exact BK490.out)) : gb490 ≠ gb491));have n6_ := aM_ ((by rw [hg];exact Nat.ne_of_gt (blk_lt (g := gb490) (o := .cells #[.int .i64 a0_0,.int .i64 a0_1] 34 (0,0)) (by (with_reducible repeat (first | refine kN_ ?_ _ | refine kD_ ?_ | refine kA_ ?_ _));exact BK490.out)) : gb491 ≠ gb490));clear BK490;clear HB;have BK490 := n0_;have HB := n1_;have BK491 := n2_;have GW491 := n3_;have GE491 := n4_;have NB490_491 := n5_;have NB491_490 := n6_;clear n0_ n1_ n2_ n3_ n4_ n5_ n6_;clear hb hbox hg) | ((with_reducible refine gate_dst (N := 5) rfl ?_);refine box_event ?hg (N := 5) ?hd (cs := #[.int .i64 a2_0,.int .i64 a2_1]) (t := 34) ?hr ?_;(case hd => rfl);(case hg => rfl);(case hr => first | (go_simp;done) | (go_simp;rfl));intro gb492 hg w84 hbox hb;have n0_ := aM_ (kB_ (g := gb490) (o := .cells #[.int .i64 a0_0,.int .i64 a0_1] 34 (0,0)) (by (with_reducible repeat (first | refine kN_ ?_ _ | refine kD_ ?_ | refine kA_ ?_ _));exact BK490.out) hb);have n1_ := aM_ (kB_ (g := gb491) (o := .cells #[.int .i64 a1_0,.int .i64 a1_1] 34 (0,0)) (by (with_reducible repeat (first | refine kN_ ?_ _ | refine kD_ ?_ | refine kA_ ?_ _));exact BK491.out) hb);have n2_ := aM_ (bT_ (by repeat (first | (with_reducible first | exact HB.out | apply bA_ | apply bN_ | apply bD_ | refine bS_ ?_ GE490.out | refine bS_ ?_ GE491.out) | exact HB.out)) hb);have n3_ := aM_ (hbox);have n4_ := aM_ ((by rw [hg];exact (below_size (by repeat (first | (with_reducible first | exact HB.out | apply bA_ | apply bN_ | apply bD_ | refine bS_ ?_ GE490.out | refine bS_ ?_ GE491.out) | exact HB.out))) : w.heap.size ≤ gb492));have n5_ := aM_ ((by rw [hg];exact (below_size (by repeat (first | (with_reducible first | exact HB.out | apply bA_ | apply bN_ | apply bD_ | refine bS_ ?_ GE490.out | refine bS_ ?_ GE491.out) | exact HB.out))) : w.heap.size ≤ gb492));have n6_ := aM_ ((by rw [hg];exact Nat.ne_of_lt (blk_lt (g := gb490) (o := .cells #[.int .i64 a0_0,.int .i64 a0_1] 34 (0,0)) (by (with_reducible repeat (first | refine kN_ ?_ _ | refine kD_ ?_ | refine kA_ ?_ _));exact BK490.out)) : gb490 ≠ gb492));have n7_ := aM_ ((by rw [hg];exact Nat.ne_of_gt (blk_lt (g := gb490) (o := .cells #[.int .i64 a0_0,.int .i64 a0_1] 34 (0,0)) (by (with_reducible repeat (first | refine kN_ ?_ _ | refine kD_ ?_ | refine kA_ ?_ _));exact BK490.out)) : gb492 ≠ gb490));have n8_ := aM_ ((by rw [hg];exact Nat.ne_of_lt (blk_lt (g := gb491) (o := .cells #[.int .i64 a1_0,.int .i64 a1_1] 34 (0,0)) (by (with_reducible repeat (first | refine kN_ ?_ _ | refine kD_ ?_ | refine kA_ ?_ _));exact BK491.out)) : gb491 ≠ gb492));have n9_ := aM_ ((by rw [hg];exact Nat.ne_of_gt (blk_lt (g := gb491) (o := .cells #[.int .i64 a1_0,.int .i64 a1_1] 34 (0,0)) (by (with_reducible repeat (first | refine kN_ ?_ _ | refine kD_ ?_ | refine kA_ ?_ _));exact BK491.out)) : gb492 ≠ gb491));clear BK490;clear BK491;clear HB;have BK490 := n0_;have BK491 := n1_;have HB := n2_;have BK492 := n3_;have GW492 := n4_;have GE492 := n5_;have NB490_492 := n6_;have NB492_490 := n7_;have NB491_492 := n8_;have NB492_491 := n9_;clear n0_ n1_ n2_ n3_ n4_ n5_ n6_ n7_ n8_ n9_;clear hb hbox hg) | ((with_reducible refine gate_dst (N := 6) rfl ?_);refine box_event ?hg (N := 6) ?hd (cs := #[.int .i64 0,.int .i64 0]) (t := 34) ?hr ?_;(case hd => rfl);(case hg => rfl);(case hr => first | (go_simp;done) | (go_simp;rfl));intro gb493 hg w85 hbox hb;have n0_ := aM_ (kB_ (g := gb490) (o := .cells #[.int .i64 a0_0,.int .i64 a0_1] 34 (0,0)) (by (with_reducible repeat (first | refine kN_ ?_ _ | refine kD_ ?_ | refine kA_ ?_ _));exact BK490.out) hb);have n1_ := aM_ (kB_ (g := gb491) (o := .cells #[.int .i64 a1_0,.int .i64 a1_1] 34 (0,0)) (by (with_reducible repeat (first | refine kN_ ?_ _ | refine kD_ ?_ | refine kA_ ?_ _));exact BK491.out) hb);have n2_ := aM_ (kB_ (g := gb492) (o := .cells #[.int .i64 a2_0,.int .i64 a2_1] 34 (0,0)) (by (with_reducible repeat (first | refine kN_ ?_ _ | refine kD_ ?_ | refine kA_ ?_ _));exact BK492.out) hb);have n3_ := aM_ (bT_ (by repeat (first | (with_reducible first | exact HB.out | apply bA_ | apply bN_ | apply bD_ | refine bS_ ?_ GE490.out | refine bS_ ?_ GE491.out | refine bS_ ?_ GE492.out) | exact HB.out)) hb);have n4_ := aM_ (hbox);have n5_ := aM_ ((by rw [hg];exact (below_size (by repeat (first | (with_reducible first | exact HB.out | apply bA_ | apply bN_ | apply bD_ | refine bS_ ?_ GE490.out | refine bS_ ?_ GE491.out | refine bS_ ?_ GE492.out) | exact HB.out))) : w.heap.size ≤ gb493));have n6_ := aM_ ((by rw [hg];exact (below_size (by repeat (first | (with_reducible first | exact HB.out | apply bA_ | apply bN_ | apply bD_ | refine bS_ ?_ GE490.out | refine bS_ ?_ GE491.out | refine bS_ ?_ GE492.out) | exact HB.out))) : w.heap.size ≤ gb493));have n7_ := aM_ ((by rw [hg];exact Nat.ne_of_lt (blk_lt (g := gb490) (o := .cells #[.int .i64 a0_0,.int .i64 a0_1] 34 (0,0)) (by (with_reducible repeat (first | refine kN_ ?_ _ | refine kD_ ?_ | refine kA_ ?_ _));exact BK490.out)) : gb490 ≠ gb493));have n8_ := aM_ ((by rw [hg];exact Nat.ne_of_gt (blk_lt (g := gb490) (o := .cells #[.int .i64 a0_0,.int .i64 a0_1] 34 (0,0)) (by (with_reducible repeat (first | refine kN_ ?_ _ | refine kD_ ?_ | refine kA_ ?_ _));exact BK490.out)) : gb493 ≠ gb490));have n9_ := aM_ ((by rw [hg];exact Nat.ne_of_lt (blk_lt (g := gb491) (o := .cells #[.int .i64 a1_0,.int .i64 a1_1] 34 (0,0)) (by (with_reducible repeat (first | refine kN_ ?_ _ | refine kD_ ?_ | refine kA_ ?_ _));exact BK491.out)) : gb491 ≠ gb493));have n10_ := aM_ ((by rw [hg];exact Nat.ne_of_gt (blk_lt (g := gb491) (o := .cells #[.int .i64 a1_0,.int .i64 a1_1] 34 (0,0)) (by (with_reducible repeat (first | refine kN_ ?_ _ | refine kD_ ?_ | refine kA_ ?_ _));exact BK491.out)) : gb493 ≠ gb491));have n11_ := aM_ ((by rw [hg];exact Nat.ne_of_lt (blk_lt (g := gb492) (o := .cells #[.int .i64 a2_0,.int .i64 a2_1] 34 (0,0)) (by (with_reducible repeat (first | refine kN_ ?_ _ | refine kD_ ?_ | refine kA_ ?_ _));exact BK492.out)) : gb492 ≠ gb493));have n12_ := aM_ ((by rw [hg];exact Nat.ne_of_gt (blk_lt (g := gb492) (o := .cells #[.int .i64 a2_0,.int .i64 a2_1] 34 (0,0)) (by (with_reducible repeat (first | refine kN_ ?_ _ | refine kD_ ?_ | refine kA_ ?_ _));exact BK492.out)) : gb493 ≠ gb492));clear BK490;clear BK491;clear BK492;clear HB;have BK490 := n0_;have BK491 := n1_;have BK492 := n2_;have HB := n3_;have BK493 := n4_;have GW493 := n5_;have GE493 := n6_;have NB490_493 := n7_;have NB493_490 := n8_;have NB491_493 := n9_;have NB493_491 := n10_;have NB492_493 := n11_;have NB493_492 := n12_;clear n0_ n1_ n2_ n3_ n4_ n5_ n6_ n7_ n8_ n9_ n10_ n11_ n12_;clear hb hbox hg;have hnb86 := NB490_491.out;have hnc86 := NB491_490.out;have hnb87 := NB490_492.out;have hnc87 := NB492_490.out;have hnb88 := NB490_493.out;have hnc88 := NB493_490.out;have hcz89_0 : w85.cell? ⟨gb490,0,none⟩ = some (.int .i64 a0_0) := (blk_cell BK490.out 0).trans rfl;have hcz89_1 : w85.cell? ⟨gb490,1,none⟩ = some (.int .i64 a0_1) := (blk_cell BK490.out 1).trans rfl;have hfz89_0 := blk_frozen BK490.out 0;have hfz89_1 := blk_frozen BK490.out 1;have hnb90 := NB491_492.out;have hnc90 := NB492_491.out;have hnb91 := NB491_493.out;have hnc91 := NB493_491.out;have hcz92_0 : w85.cell? ⟨gb491,0,none⟩ = some (.int .i64 a1_0) := (blk_cell BK491.out 0).trans rfl;have hcz92_1 : w85.cell? ⟨gb491,1,none⟩ = some (.int .i64 a1_1) := (blk_cell BK491.out 1).trans rfl;have hfz92_0 := blk_frozen BK491.out 0;have hfz92_1 := blk_frozen BK491.out 1) | ((with_reducible refine gate_callee (f := 65) rfl ?_);refine goesL_ (some 17) rfl rfl Try.func65 (by kernel_rfl) rfl #[.agg #[.int .i64 a0_0,.int .i64 a0_1],.agg #[.int .i64 a1_0,.int .i64 a1_1]] rfl (by (try simp only [List.map_toArray,List.map_cons,List.map_nil]);first | done | rfl) ?_;(with_reducible refine (R_checkAge.calls k a0_0 a0_1 a1_0 a1_1 t494 _ A4.out).mono ?_);rintro e w93 ⟨rfl,hb⟩;refine ⟨_,rfl,?_⟩;have n0_ := aM_ (kB_ (g := gb490) (o := .cells #[.int .i64 a0_0,.int .i64 a0_1] 34 (0,0)) (by (with_reducible repeat (first | refine kN_ ?_ _ | refine kD_ ?_ | refine kA_ ?_ _));exact BK490.out) hb);have n1_ := aM_ (kB_ (g := gb491) (o := .cells #[.int .i64 a1_0,.int .i64 a1_1] 34 (0,0)) (by (with_reducible repeat (first | refine kN_ ?_ _ | refine kD_ ?_ | refine kA_ ?_ _));exact BK491.out) hb);have n2_ := aM_ (kB_ (g := gb492) (o := .cells #[.int .i64 a2_0,.int .i64 a2_1] 34 (0,0)) (by (with_reducible repeat (first | refine kN_ ?_ _ | refine kD_ ?_ | refine kA_ ?_ _));exact BK492.out) hb);have n3_ := aM_ (kB_ (g := gb493) (o := .cells #[.int .i64 0,.int .i64 0] 34 (0,0)) (by (with_reducible repeat (first | refine kN_ ?_ _ | refine kD_ ?_ | refine kA_ ?_ _));exact BK493.out) hb);have n4_ := aM_ (bT_ (by repeat (first | (with_reducible first | exact HB.out | apply bA_ | apply bN_ | apply bD_ | refine bS_ ?_ GE490.out | refine bS_ ?_ GE491.out | refine bS_ ?_ GE492.out | refine bS_ ?_ GE493.out) | exact HB.out)) hb);clear BK490;clear BK491;clear BK492;clear BK493;clear HB;have BK490 := n0_;have BK491 := n1_;have BK492 := n2_;have BK493 := n3_;have HB := n4_;clear n0_ n1_ n2_ n3_ n4_;(try clear hb);(try clear hb2);(try clear hk);(try clear hi);have hnb94 := NB493_492.out;have hnc94 := NB492_493.out;have hcz95_0 : w93.cell? ⟨gb493,0,none⟩ = some (.int .i64 0) := (blk_cell BK493.out 0).trans rfl;have hcz95_1 : w93.cell? ⟨gb493,1,none⟩ = some (.int .i64 0) := (blk_cell BK493.out 1).trans rfl;have hfz95_0 := blk_frozen BK493.out 0;have hfz95_1 := blk_frozen BK493.out 1))
  refine bodyPost_ret (results_ct rfl _ _ gb493 34 #[.int .i64 0,.int .i64 0] (0,0) _ rfl (by (with_reducible repeat (first | refine kN_ ?_ _ | refine kD_ ?_ | refine kA_ ?_ _));refine blk_put (cs := #[.int .i64 0,.int .i64 0]) ?_ 1 _ rfl;(with_reducible repeat (first | refine kN_ ?_ _ | refine kD_ ?_ | refine kA_ ?_ _));refine blk_put (cs := #[.int .i64 0,.int .i64 0]) ?_ 0 _ rfl;(with_reducible repeat (first | refine kN_ ?_ _ | refine kD_ ?_ | refine kA_ ?_ _));exact BK493.out) Try.underlying34 rfl (by kernel_rfl)) rfl ?_
  exact ⟨by first | rfl | (simp [*] <;> rfl),by repeat (first | (with_reducible first | exact HB.out | apply bA_ | apply bN_ | apply bD_ | refine bS_ ?_ GE490.out | refine bS_ ?_ GE491.out | refine bS_ ?_ GE492.out | refine bS_ ?_ GE493.out) | exact HB.out)⟩

end Go.Proofs.Ytdbpobadeibjaaa.GE
