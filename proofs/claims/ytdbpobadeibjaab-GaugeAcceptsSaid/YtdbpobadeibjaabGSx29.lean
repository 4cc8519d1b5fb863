-- written for this claim by a program of this session (wip/gp), over the kit's own printer; Lean checks it
import Derived.Test.YtdbpobadeibjaabGSx0
import Derived.Test.YtdbpobadeibjaabGSx5
import Derived.Test.YtdbpobadeibjaabGSx7
import Derived.Test.YtdbpobadeibjaabGSx8
import Derived.Test.YtdbpobadeibjaabGSx28
namespace Go.Proofs.Ytdbpobadeibjaab.GS
open Go.RowKit Go.Proofs.YtdbpobadeibjaabW.PrintWords Go.Proofs.YtdbpobadeibjaabW.PrintLast Go.Proofs.YtdbpobadeibjaabW.PrintMore
attribute [local go_sem] max2_int min2_int max_two min_two max_three min_three max_four min_four
set_option linter.unusedVariables false
set_option linter.unusedSimpArgs false

/-! ### R_Accept: function 23 -/
mutual
def R_Accept.l0 : Nat → List (S49) → Int → Int → Int → Int → Int → Int → Int → Option (Int × Int × Int)
 | 0,_,_,_,_,_,_,_,_ => none
 | k + 1,x0,x1,x9,x10,x11,x12,x452000,x452001 => if x11 < x12 then ((R_Down.f (wrap64 (x11 + x12)) 2).bind fun t456 => ((R_accepted.f k x0 x1 (wrap64 (t456 * x9)) x452000 x452001).bind fun bt457 => (if bt457.2.1 = true then (R_Accept.l0 k x0 x1 x9 x10 (wrap64 (t456 + 1)) x12 x452000 x452001) else (R_Accept.l0 k x0 x1 x9 x10 x11 t456 x452000 x452001)))) else (R_Accept.l1 k x0 x1 x9 x11 (wrap64 ((wrap64 (-x10)) - 1)) x10 x452000 x452001)
def R_Accept.l1 : Nat → List (S49) → Int → Int → Int → Int → Int → Int → Int → Option (Int × Int × Int)
 | 0,_,_,_,_,_,_,_,_ => none
 | k + 1,x0,x1,x9,x11,x17,x18,x452000,x452001 => if x17 < x18 then ((R_Up.f (wrap64 (x17 + x18)) 2).bind fun t460 => ((R_accepted.f k x0 x1 (wrap64 (t460 * x9)) x452000 x452001).bind fun bt461 => (if bt461.2.2 = true then (R_Accept.l1 k x0 x1 x9 x11 x17 (wrap64 (t460 - 1)) x452000 x452001) else (R_Accept.l1 k x0 x1 x9 x11 t460 x18 x452000 x452001)))) else (R_Accept.l2 k x0 x1 x9 x11 x18 x452000 x452001)
def R_Accept.j3 : Nat → List (S49) → Int → Int → Int → Int → Int → Int → Option (Int × Int × Int)
 | 0,_,_,_,_,_,_,_ => none
 | k + 1,x0,x1,x9,x11,x18,x452000,x452001 => R_Accept.l3 k x0 x1 x9 x11 x18 x452000 x452001
def R_Accept.l3 : Nat → List (S49) → Int → Int → Int → Int → Int → Int → Option (Int × Int × Int)
 | 0,_,_,_,_,_,_,_ => none
 | k + 1,x0,x1,x9,x11,x18,x452000,x452001 => if x11 ≤ x18 then ((R_accepted.f k x0 x1 (wrap64 (x18 * x9)) x452000 x452001).bind fun bt467 => (if bt467.1 = true then (if x11 > x18 then (some (0,0,10)) else (some (wrap64 (x11 * x9),wrap64 (x18 * x9),0))) else (R_Accept.l3 k x0 x1 x9 x11 (wrap64 (x18 - 1)) x452000 x452001))) else (if x11 > x18 then (some (0,0,10)) else (some (wrap64 (x11 * x9),wrap64 (x18 * x9),0)))
def R_Accept.l2 : Nat → List (S49) → Int → Int → Int → Int → Int → Int → Option (Int × Int × Int)
 | 0,_,_,_,_,_,_,_ => none
 | k + 1,x0,x1,x9,x11,x18,x452000,x452001 => if x11 ≤ x18 then ((R_accepted.f k x0 x1 (wrap64 (x11 * x9)) x452000 x452001).bind fun bt464 => (if bt464.1 = true then (R_Accept.j3 k x0 x1 x9 x11 x18 x452000 x452001) else (R_Accept.l2 k x0 x1 x9 (wrap64 (x11 + 1)) x18 x452000 x452001))) else (R_Accept.j3 k x0 x1 x9 x11 x18 x452000 x452001)
end
def R_Accept.f (k : Nat) (l0 : List (S49)) (a1 : Int) (a2_0 : Int) (a2_1 : Int) : Option (Int × Int × Int) := (R_Check.f k l0).bind fun t453 => (if t453 = 0 then ((R_beyond.f a1 0 (wrap64 ((l0.length : Int) - 1))).bind fun t454 => (if t454 = true then (some (0,0,7)) else (if a2_0 > a2_1 then (some (0,0,11)) else (if 0 ≤ a1 then (if a1 < (l0.length : Int) then (if ((rd_T49 l0 a1).f2) = 0 then (none) else (R_Accept.l0 k l0 a1 ((rd_T49 l0 a1).f2) (wrap64 (Int.tdiv (1000000000 : Int) ((rd_T49 l0 a1).f2))) (wrap64 (-(wrap64 (Int.tdiv (1000000000 : Int) ((rd_T49 l0 a1).f2))))) (wrap64 ((wrap64 (Int.tdiv (1000000000 : Int) ((rd_T49 l0 a1).f2))) + 1)) a2_0 a2_1)) else (none)) else (none))))) else (some (0,0,t453)))
set_option maxHeartbeats 8000000 in
set_option maxRecDepth 100000 in
theorem R_Accept.calls (k : Nat) (A0 : Option Addr) (c0 : Nat) (l0 : List (S49)) (a1 : Int) (a2_0 : Int) (a2_1 : Int) (r1 : Int) (r2 : Int) (r3 : Int) (w : World) (hr0 : Kd.C k49 w A0 l0.length l0) (hc0 : l0.length ≤ c0) (h : R_Accept.f k l0 a1 a2_0 a2_1 = some (r1,r2,r3)) :
  Calls Try.prog 23 #[.slice A0 l0.length c0,.int .i64 a1,.agg #[.int .i64 a2_0,.int .i64 a2_1]] w fun e w' => e = .returned (.tuple #[.agg #[.int .i64 r1,.int .i64 r2],.int .i64 r3]) ∧ Below w.heap.size w w' := by
 have hu34 := Try.underlying34
 have HR0 := aM_ hr0
 have HC0 := aM_ hc0
 clear hr0 hc0
 have HB := aM_ (Below.refl w.heap.size w)
 have H : ((R_Check.f k l0).bind fun t453 => (if t453 = 0 then ((R_beyond.f a1 0 (wrap64 ((l0.length : Int) - 1))).bind fun t454 => (if t454 = true then (some (0,0,7)) else (if a2_0 > a2_1 then (some (0,0,11)) else (if 0 ≤ a1 then (if a1 < (l0.length : Int) then (if ((rd_T49 l0 a1).f2) = 0 then (none) else (R_Accept.l0 k l0 a1 ((rd_T49 l0 a1).f2) (wrap64 (Int.tdiv (1000000000 : Int) ((rd_T49 l0 a1).f2))) (wrap64 (-(wrap64 (Int.tdiv (1000000000 : Int) ((rd_T49 l0 a1).f2))))) (wrap64 ((wrap64 (Int.tdiv (1000000000 : Int) ((rd_T49 l0 a1).f2))) + 1)) a2_0 a2_1)) else (none)) else (none))))) else (some (0,0,t453)))) = some (r1,r2,r3) := h
 clear h
 replace H := oB_ H
 obtain ⟨t453,A40,H⟩ := H
 replace H : (if t453 = 0 then ((R_beyond.f a1 0 (wrap64 ((l0.length : Int) - 1))).bind fun t454 => (if t454 = true then (some (0,0,7)) else (if a2_0 > a2_1 then (some (0,0,11)) else (if 0 ≤ a1 then (if a1 < (l0.length : Int) then (if ((rd_T49 l0 a1).f2) = 0 then (none) else (R_Accept.l0 k l0 a1 ((rd_T49 l0 a1).f2) (wrap64 (Int.tdiv (1000000000 : Int) ((rd_T49 l0 a1).f2))) (wrap64 (-(wrap64 (Int.tdiv (1000000000 : Int) ((rd_T49 l0 a1).f2))))) (wrap64 ((wrap64 (Int.tdiv (1000000000 : Int) ((rd_T49 l0 a1).f2))) + 1)) a2_0 a2_1)) else (none)) else (none))))) else (some (0,0,t453))) = some (r1,r2,r3) := H
 have A4 := aM_ A40
 clear A40
 by_cases c5 : t453 = 0
 ·rw [if_pos c5] at H
  have c5b0 : (t453 == 0) = true := beq_iff_eq.mpr c5
  have c5b1 : (t453 != 0) = false := bne_eq_false_iff_eq.mpr c5
  clear c5
  replace H := oB_ H
  obtain ⟨t454,A60,H⟩ := H
  replace H : (if t454 = true then (some (0,0,7)) else (if a2_0 > a2_1 then (some (0,0,11)) else (if 0 ≤ a1 then (if a1 < (l0.length : Int) then (if ((rd_T49 l0 a1).f2) = 0 then (none) else (R_Accept.l0 k l0 a1 ((rd_T49 l0 a1).f2) (wrap64 (Int.tdiv (1000000000 : Int) ((rd_T49 l0 a1).f2))) (wrap64 (-(wrap64 (Int.tdiv (1000000000 : Int) ((rd_T49 l0 a1).f2))))) (wrap64 ((wrap64 (Int.tdiv (1000000000 : Int) ((rd_T49 l0 a1).f2))) + 1)) a2_0 a2_1)) else (none)) else (none)))) = some (r1,r2,r3) := H
  have A6 := aM_ A60
  clear A60
  by_cases c7 : t454 = true
  ·subst c7
   have H1 : (some (0,0,7)) = some (r1,r2,r3) := by rw [if_pos rfl] at H;exact H
   clear H
   have H := H1
   clear H1
   simp only [Option.some.injEq,Prod.mk.injEq] at H
   obtain ⟨rfl,rfl,rfl⟩ := H
   go_enter Try.func23,Try.ntmps23
   go_wp2_with (first | ((with_reducible refine gate_dst (N := 5) rfl ?_);refine box_event ?hg (N := 5) ?hd (cs := #[.int .i64 a2_0,.int .i64 a2_1]) (t := 34) ?hr ?_;(case hd => rfl);(case hg => rfl);(case hr => first | (go_simp;done) | (go_simp;rfl));intro gb451 hg w8 hbox hb;have n0_ := aM_ (bT_ (by exact lb_ HB) hb);have n1_ := aM_ (hbox);have n2_ := aM_ ((by rw [hg];exact (below_size (by exact lb_ HB)) : w.heap.size ≤ gb451));have n3_ := aM_ ((by rw [hg];exact (below_size (by exact lb_ HB)) : w.heap.size ≤ gb451));clear HB;have HB := n0_;have BK451 := n1_;have GW451 := n2_;have GE451 := n3_;have := Ge_.mk n3_.out;clear n0_ n1_ n2_ n3_;clear hb hbox hg) | ((with_reducible refine gate_dst (N := 6) rfl ?_);refine box_event ?hg (N := 6) ?hd (cs := #[.int .i64 0,.int .i64 0]) (t := 34) ?hr ?_;(case hd => rfl);(case hg => rfl);(case hr => first | (go_simp;done) | (go_simp;rfl));intro gb452 hg w9 hbox hb;have n0_ := aM_ (kB_ (g := gb451) (o := .cells #[.int .i64 a2_0,.int .i64 a2_1] 34 (0,0)) (by exact lk_ BK451) hb);have n1_ := aM_ (bT_ (by exact lb_ HB) hb);have n2_ := aM_ (hbox);have n3_ := aM_ ((by rw [hg];exact (below_size (by exact lb_ HB)) : w.heap.size ≤ gb452));have n4_ := aM_ ((by rw [hg];exact (below_size (by exact lb_ HB)) : w.heap.size ≤ gb452));have n5_ := aM_ ((by rw [hg];exact Nat.ne_of_lt (blk_lt (g := gb451) (o := .cells #[.int .i64 a2_0,.int .i64 a2_1] 34 (0,0)) (by exact lk_ BK451)) : gb451 ≠ gb452));have n6_ := aM_ ((by rw [hg];exact Nat.ne_of_gt (blk_lt (g := gb451) (o := .cells #[.int .i64 a2_0,.int .i64 a2_1] 34 (0,0)) (by exact lk_ BK451)) : gb452 ≠ gb451));clear BK451;clear HB;have BK451 := n0_;have HB := n1_;have BK452 := n2_;have GW452 := n3_;have GE452 := n4_;have := Ge_.mk n4_.out;have NB451_452 := n5_;have NB452_451 := n6_;clear n0_ n1_ n2_ n3_ n4_ n5_ n6_;clear hb hbox hg) | ((with_reducible refine gate_callee (f := 48) rfl ?_);refine goesL_ (some 30) rfl rfl Try.func48 (by kernel_rfl) rfl #[.slice A0 l0.length c0] rfl (by (try simp only [List.map_toArray,List.map_cons,List.map_nil]);first | done | rfl) ?_;(with_reducible refine (R_Check.calls k _ _ l0 t453 _ ?side1 ?side2 A4.out).mono ?_);(case side1 => exact Kd.C_below HR0.out (lb_ HB));(case side2 => exact HC0.out);rintro e w10 ⟨rfl,hb⟩;refine ⟨_,rfl,?_⟩;have n0_ := aM_ (kB_ (g := gb451) (o := .cells #[.int .i64 a2_0,.int .i64 a2_1] 34 (0,0)) (by exact lk_ BK451) hb);have n1_ := aM_ (kB_ (g := gb452) (o := .cells #[.int .i64 0,.int .i64 0] 34 (0,0)) (by exact lk_ BK452) hb);have n2_ := aM_ (bT_ (by exact lb_ HB) hb);clear BK451;clear BK452;clear HB;have BK451 := n0_;have BK452 := n1_;have HB := n2_;clear n0_ n1_ n2_;(try clear hb);(try clear hb2);(try clear hk);(try clear hi)) | ((with_reducible refine gate_callee (f := 49) rfl ?_);refine goesL_ (some 39) rfl rfl Try.func49 (by kernel_rfl) rfl #[.int .i64 a1,.int .i64 0,.int .i64 (wrap64 ((l0.length : Int) - 1))] rfl (by (try simp only [List.map_toArray,List.map_cons,List.map_nil]);first | done | rfl) ?_;(with_reducible refine (R_beyond.calls a1 0 (wrap64 ((l0.length : Int) - 1)) true _ A6.out).mono ?_);rintro e w' ⟨rfl,⟨nd,rfl⟩⟩;refine ⟨_,rfl,?_⟩;(try (rw [drewN_self w10];generalize hq_ : World.drewN w10 _ = w10;have n0_ : Aside0 (w10.heap[gb451]? = some (.cells #[.int .i64 a2_0,.int .i64 a2_1] 34 (0,0))) := ⟨by rw [← hq_];exact (by exact lk_ BK451)⟩;have n1_ : Aside0 (w10.heap[gb452]? = some (.cells #[.int .i64 0,.int .i64 0] 34 (0,0))) := ⟨by rw [← hq_];exact (by exact lk_ BK452)⟩;have n2_ : Aside0 (Below w.heap.size w w10) := ⟨by rw [← hq_];exact (by exact lb_ HB)⟩;clear BK451 BK452 HB hq_;have BK451 := n0_;have BK452 := n1_;have HB := n2_;clear n0_ n1_ n2_));have hnb11 := NB452_451.out;have hnc11 := NB451_452.out;have hcz12_0 : w10.cell? ⟨gb452,0,none⟩ = some (.int .i64 0) := (blk_cell BK452.out 0).trans rfl;have hcz12_1 : w10.cell? ⟨gb452,1,none⟩ = some (.int .i64 0) := (blk_cell BK452.out 1).trans rfl;have hfz12_0 := blk_frozen BK452.out 0;have hfz12_1 := blk_frozen BK452.out 1))
   refine bodyPost_ret (results_ct rfl _ _ gb452 34 #[.int .i64 0,.int .i64 0] (0,0) _ rfl (by (with_reducible repeat (first | refine kN_ ?_ _ | refine kD_ ?_ | refine kA_ ?_ _));refine blk_put (cs := #[.int .i64 0,.int .i64 0]) ?_ 1 _ rfl;(with_reducible repeat (first | refine kN_ ?_ _ | refine kD_ ?_ | refine kA_ ?_ _));refine blk_put (cs := #[.int .i64 0,.int .i64 0]) ?_ 0 _ rfl;exact lk_ BK452) Try.underlying34 rfl (by kernel_rfl)) rfl ?_
   exact ⟨by first | rfl | (simp [*] <;> rfl),by exact lb_ HB⟩
  ·replace c7 := Bool.eq_false_iff.mpr c7
   subst c7
   have H1 : (if a2_0 > a2_1 then (some (0,0,11)) else (if 0 ≤ a1 then (if a1 < (l0.length : Int) then (if ((rd_T49 l0 a1).f2) = 0 then (none) else (R_Accept.l0 k l0 a1 ((rd_T49 l0 a1).f2) (wrap64 (Int.tdiv (1000000000 : Int) ((rd_T49 l0 a1).f2))) (wrap64 (-(wrap64 (Int.tdiv (1000000000 : Int) ((rd_T49 l0 a1).f2))))) (wrap64 ((wrap64 (Int.tdiv (1000000000 : Int) ((rd_T49 l0 a1).f2))) + 1)) a2_0 a2_1)) else (none)) else (none))) = some (r1,r2,r3) := by rw [if_neg (show ¬ (false = true) by decide)] at H;exact H
   clear H
   have H := H1
   clear H1
   by_cases c13 : a2_0 > a2_1
   ·rw [if_pos c13] at H
    have c13b0 : decide (a2_1 < a2_0) = true := decide_eq_true c13
    clear c13
    simp only [Option.some.injEq,Prod.mk.injEq] at H
    obtain ⟨rfl,rfl,rfl⟩ := H
    go_enter Try.func23,Try.ntmps23
    go_wp2_with (first | ((with_reducible refine gate_dst (N := 5) rfl ?_);refine box_event ?hg (N := 5) ?hd (cs := #[.int .i64 a2_0,.int .i64 a2_1]) (t := 34) ?hr ?_;(case hd => rfl);(case hg => rfl);(case hr => first | (go_simp;done) | (go_simp;rfl));intro gb451 hg w14 hbox hb;have n0_ := aM_ (bT_ (by exact lb_ HB) hb);have n1_ := aM_ (hbox);have n2_ := aM_ ((by rw [hg];exact (below_size (by exact lb_ HB)) : w.heap.size ≤ gb451));have n3_ := aM_ ((by rw [hg];exact (below_size (by exact lb_ HB)) : w.heap.size ≤ gb451));clear HB;have HB := n0_;have BK451 := n1_;have GW451 := n2_;have GE451 := n3_;have := Ge_.mk n3_.out;clear n0_ n1_ n2_ n3_;clear hb hbox hg) | ((with_reducible refine gate_dst (N := 6) rfl ?_);refine box_event ?hg (N := 6) ?hd (cs := #[.int .i64 0,.int .i64 0]) (t := 34) ?hr ?_;(case hd => rfl);(case hg => rfl);(case hr => first | (go_simp;done) | (go_simp;rfl));intro gb452 hg w15 hbox hb;have n0_ := aM_ (kB_ (g := gb451) (o := .cells #[.int .i64 a2_0,.int .i64 a2_1] 34 (0,0)) (by exact lk_ BK451) hb);have n1_ := aM_ (bT_ (by exact lb_ HB) hb);have n2_ := aM_ (hbox);have n3_ := aM_ ((by rw [hg];exact (below_size (by exact lb_ HB)) : w.heap.size ≤ gb452));have n4_ := aM_ ((by rw [hg];exact (below_size (by exact lb_ HB)) : w.heap.size ≤ gb452));have n5_ := aM_ ((by rw [hg];exact Nat.ne_of_lt (blk_lt (g := gb451) (o := .cells #[.int .i64 a2_0,.int .i64 a2_1] 34 (0,0)) (by exact lk_ BK451)) : gb451 ≠ gb452));have n6_ := aM_ ((by rw [hg];exact Nat.ne_of_gt (blk_lt (g := gb451) (o := .cells #[.int .i64 a2_0,.int .i64 a2_1] 34 (0,0)) (by exact lk_ BK451)) : gb452 ≠ gb451));clear BK451;clear HB;have BK451 := n0_;have HB := n1_;have BK452 := n2_;have GW452 := n3_;have GE452 := n4_;have := Ge_.mk n4_.out;have NB451_452 := n5_;have NB452_451 := n6_;clear n0_ n1_ n2_ n3_ n4_ n5_ n6_;clear hb hbox hg) | ((with_reducible refine gate_callee (f := 48) rfl ?_);refine goesL_ (some 30) rfl rfl Try.func48 (by kernel_rfl) rfl #[.slice A0 l0.length c0] rfl (by (try simp only [List.map_toArray,List.map_cons,List.map_nil]);first | done | rfl) ?_;(with_reducible refine (R_Check.calls k _ _ l0 t453 _ ?side1 ?side2 A4.out).mono ?_);(case side1 => exact Kd.C_below HR0.out (lb_ HB));(case side2 => exact HC0.out);rintro e w16 ⟨rfl,hb⟩;refine ⟨_,rfl,?_⟩;have n0_ := aM_ (kB_ (g := gb451) (o := .cells #[.int .i64 a2_0,.int .i64 a2_1] 34 (0,0)) (by exact lk_ BK451) hb);have n1_ := aM_ (kB_ (g := gb452) (o := .cells #[.int .i64 0,.int .i64 0] 34 (0,0)) (by exact lk_ BK452) hb);have n2_ := aM_ (bT_ (by exact lb_ HB) hb);clear BK451;clear BK452;clear HB;have BK451 := n0_;have BK452 := n1_;have HB := n2_;clear n0_ n1_ n2_;(try clear hb);(try clear hb2);(try clear hk);(try clear hi)) | ((with_reducible refine gate_callee (f := 49) rfl ?_);refine goesL_ (some 39) rfl rfl Try.func49 (by kernel_rfl) rfl #[.int .i64 a1,.int .i64 0,.int .i64 (wrap64 ((l0.length : Int) - 1))] rfl (by (try simp only [List.map_toArray,List.map_cons,List.map_nil]);first | done | rfl) ?_;(with_reducible refine (R_beyond.calls a1 0 (wrap64 ((l0.length : Int) - 1)) false _ A6.out).mono ?_);rintro e w' ⟨rfl,⟨nd,rfl⟩⟩;refine ⟨_,rfl,?_⟩;(try (rw [drewN_self w16];generalize hq_ : World.drewN w16 _ = w16;have n0_ : Aside0 (w16.heap[gb451]? = some (.cells #[.int .i64 a2_0,.int .i64 a2_1] 34 (0,0))) := ⟨by rw [← hq_];exact (by exact lk_ BK451)⟩;have n1_ : Aside0 (w16.heap[gb452]? = some (.cells #[.int .i64 0,.int .i64 0] 34 (0,0))) := ⟨by rw [← hq_];exact (by exact lk_ BK452)⟩;have n2_ : Aside0 (Below w.heap.size w w16) := ⟨by rw [← hq_];exact (by exact lb_ HB)⟩;clear BK451 BK452 HB hq_;have BK451 := n0_;have BK452 := n1_;have HB := n2_;clear n0_ n1_ n2_));have hnb17 := NB451_452.out;have hnc17 := NB452_451.out;have hcz18_0 : w16.cell? ⟨gb451,0,none⟩ = some (.int .i64 a2_0) := (blk_cell BK451.out 0).trans rfl;have hcz18_1 : w16.cell? ⟨gb451,1,none⟩ = some (.int .i64 a2_1) := (blk_cell BK451.out 1).trans rfl;have hfz18_0 := blk_frozen BK451.out 0;have hfz18_1 := blk_frozen BK451.out 1;have hcz19_0 : w16.cell? ⟨gb452,0,none⟩ = some (.int .i64 0) := (blk_cell BK452.out 0).trans rfl;have hcz19_1 : w16.cell? ⟨gb452,1,none⟩ = some (.int .i64 0) := (blk_cell BK452.out 1).trans rfl;have hfz19_0 := blk_frozen BK452.out 0;have hfz19_1 := blk_frozen BK452.out 1))
    refine bodyPost_ret (results_ct rfl _ _ gb452 34 #[.int .i64 0,.int .i64 0] (0,0) _ rfl (by (with_reducible repeat (first | refine kN_ ?_ _ | refine kD_ ?_ | refine kA_ ?_ _));refine blk_put (cs := #[.int .i64 0,.int .i64 0]) ?_ 1 _ rfl;(with_reducible repeat (first | refine kN_ ?_ _ | refine kD_ ?_ | refine kA_ ?_ _));refine blk_put (cs := #[.int .i64 0,.int .i64 0]) ?_ 0 _ rfl;exact lk_ BK452) Try.underlying34 rfl (by kernel_rfl)) rfl ?_
    exact ⟨by first | rfl | (simp [*] <;> rfl),by exact lb_ HB⟩
   ·rw [if_neg c13] at H
    have c13b0 : decide (a2_1 < a2_0) = false := decide_eq_false c13
    clear c13
    by_cases c20 : 0 ≤ a1
    ·rw [if_pos c20] at H
     have c20b0 : decide (0 ≤ a1) = true := decide_eq_true c20
     clear c20
     by_cases c21 : a1 < (l0.length : Int)
     ·rw [if_pos c21] at H
      have c21b0 : decide (a1 < (l0.length : Int)) = true := decide_eq_true c21
      clear c21
      by_cases c22 : ((rd_T49 l0 a1).f2) = 0
      ·rw [if_pos c22] at H
       exact absurd H (by simp)
      ·rw [if_neg c22] at H
       have c22b0 : (((rd_T49 l0 a1).f2) == 0) = false := beq_eq_false_iff_ne.mpr c22
       have c22b1 : (((rd_T49 l0 a1).f2) != 0) = true := bne_iff_ne.mpr c22
       have H' := aM_ H
       clear H
       go_enter Try.func23,Try.ntmps23
       go_wp2_with (first | ((with_reducible refine gate_dst (N := 5) rfl ?_);refine box_event ?hg (N := 5) ?hd (cs := #[.int .i64 a2_0,.int .i64 a2_1]) (t := 34) ?hr ?_;(case hd => rfl);(case hg => rfl);(case hr => first | (go_simp;done) | (go_simp;rfl));intro gb451 hg w23 hbox hb;have n0_ := aM_ (bT_ (by exact lb_ HB) hb);have n1_ := aM_ (hbox);have n2_ := aM_ ((by rw [hg];exact (below_size (by exact lb_ HB)) : w.heap.size ≤ gb451));have n3_ := aM_ ((by rw [hg];exact (below_size (by exact lb_ HB)) : w.heap.size ≤ gb451));clear HB;have HB := n0_;have BK451 := n1_;have GW451 := n2_;have GE451 := n3_;have := Ge_.mk n3_.out;clear n0_ n1_ n2_ n3_;clear hb hbox hg) | ((with_reducible refine gate_dst (N := 6) rfl ?_);refine box_event ?hg (N := 6) ?hd (cs := #[.int .i64 0,.int .i64 0]) (t := 34) ?hr ?_;(case hd => rfl);(case hg => rfl);(case hr => first | (go_simp;done) | (go_simp;rfl));intro gb452 hg w24 hbox hb;have n0_ := aM_ (kB_ (g := gb451) (o := .cells #[.int .i64 a2_0,.int .i64 a2_1] 34 (0,0)) (by exact lk_ BK451) hb);have n1_ := aM_ (bT_ (by exact lb_ HB) hb);have n2_ := aM_ (hbox);have n3_ := aM_ ((by rw [hg];exact (below_size (by exact lb_ HB)) : w.heap.size ≤ gb452));have n4_ := aM_ ((by rw [hg];exact (below_size (by exact lb_ HB)) : w.heap.size ≤ gb452));have n5_ := aM_ ((by rw [hg];exact Nat.ne_of_lt (blk_lt (g := gb451) (o := .cells #[.int .i64 a2_0,.int .i64 a2_1] 34 (0,0)) (by exact lk_ BK451)) : gb451 ≠ gb452));have n6_ := aM_ ((by rw [hg];exact Nat.ne_of_gt (blk_lt (g := gb451) (o := .cells #[.int .i64 a2_0,.int .i64 a2_1] 34 (0,0)) (by exact lk_ BK451)) : gb452 ≠ gb451));clear BK451;clear HB;have BK451 := n0_;have HB := n1_;have BK452 := n2_;have GW452 := n3_;have GE452 := n4_;have := Ge_.mk n4_.out;have NB451_452 := n5_;have NB452_451 := n6_;clear n0_ n1_ n2_ n3_ n4_ n5_ n6_;clear hb hbox hg) | ((with_reducible refine gate_callee (f := 48) rfl ?_);refine goesL_ (some 30) rfl rfl Try.func48 (by kernel_rfl) rfl #[.slice A0 l0.length c0] rfl (by (try simp only [List.map_toArray,List.map_cons,List.map_nil]);first | done | rfl) ?_;(with_reducible refine (R_Check.calls k _ _ l0 t453 _ ?side1 ?side2 A4.out).mono ?_);(case side1 => exact Kd.C_below HR0.out (lb_ HB));(case side2 => exact HC0.out);rintro e w25 ⟨rfl,hb⟩;refine ⟨_,rfl,?_⟩;have n0_ := aM_ (kB_ (g := gb451) (o := .cells #[.int .i64 a2_0,.int .i64 a2_1] 34 (0,0)) (by exact lk_ BK451) hb);have n1_ := aM_ (kB_ (g := gb452) (o := .cells #[.int .i64 0,.int .i64 0] 34 (0,0)) (by exact lk_ BK452) hb);have n2_ := aM_ (bT_ (by exact lb_ HB) hb);clear BK451;clear BK452;clear HB;have BK451 := n0_;have BK452 := n1_;have HB := n2_;clear n0_ n1_ n2_;(try clear hb);(try clear hb2);(try clear hk);(try clear hi)) | ((with_reducible refine gate_callee (f := 49) rfl ?_);refine goesL_ (some 39) rfl rfl Try.func49 (by kernel_rfl) rfl #[.int .i64 a1,.int .i64 0,.int .i64 (wrap64 ((l0.length : Int) - 1))] rfl (by (try simp only [List.map_toArray,List.map_cons,List.map_nil]);first | done | rfl) ?_;(with_reducible refine (R_beyond.calls a1 0 (wrap64 ((l0.length : Int) - 1)) false _ A6.out).mono ?_);rintro e w' ⟨rfl,⟨nd,rfl⟩⟩;refine ⟨_,rfl,?_⟩;have hnb26 := NB451_452.out;have hnc26 := NB452_451.out;have hcz27_0 : w25.cell? ⟨gb451,0,none⟩ = some (.int .i64 a2_0) := (blk_cell BK451.out 0).trans rfl;have hcz27_1 : w25.cell? ⟨gb451,1,none⟩ = some (.int .i64 a2_1) := (blk_cell BK451.out 1).trans rfl;have hfz27_0 := blk_frozen BK451.out 0;have hfz27_1 := blk_frozen BK451.out 1;have p455 : 0 ≤ (a1 : Int) := of_decide_eq_true (by first | (with_reducible assumption) | assumption);have q455 : a1 < (l0.length : Int) := of_decide_eq_true (by first | (with_reducible assumption) | assumption);obtain ⟨ad455,e455,hx455_0,hx455_1,hx455_2,hx455_3,hx455_4,hx455_5,hx455_6⟩ := at_T49 HR0.out a1 p455 q455;cases e455;replace hx455_0 := (HB.out.cell (World.block_lt_of_cell? w _ hx455_0)).trans hx455_0;replace hx455_1 := (HB.out.cell (World.block_lt_of_cell? w _ hx455_1)).trans hx455_1;replace hx455_2 := (HB.out.cell (World.block_lt_of_cell? w _ hx455_2)).trans hx455_2;replace hx455_3 := (HB.out.cell (World.block_lt_of_cell? w _ hx455_3)).trans hx455_3;replace hx455_4 := (HB.out.cell (World.block_lt_of_cell? w _ hx455_4)).trans hx455_4;replace hx455_5 := (HB.out.cell (World.block_lt_of_cell? w _ hx455_5)).trans hx455_5;replace hx455_6 := (HB.out.cell (World.block_lt_of_cell? w _ hx455_6)).trans hx455_6;replace p455 := eq_true p455;replace q455 := eq_true q455))
       go_loopg [11,12] k (fun kq v11 v12 w' => ∃ (x11_1 : Int) (x12_1 : Int),v11 = .int .i64 x11_1 ∧ v12 = .int .i64 x12_1 ∧ Aside0 (R_Accept.l0 kq l0 a1 ((rd_T49 l0 a1).f2) (wrap64 (Int.tdiv (1000000000 : Int) ((rd_T49 l0 a1).f2))) x11_1 x12_1 a2_0 a2_1 = some (r1,r2,r3)) ∧ Aside0 (kq ≤ k) ∧ Aside0 (w'.heap[gb451]? = some (.cells #[.int .i64 a2_0,.int .i64 a2_1] 34 (0,0))) ∧ Aside0 (w'.heap[gb452]? = some (.cells #[.int .i64 0,.int .i64 0] 34 (0,0))) ∧ Aside0 (Below w.heap.size w w'))
       case atStart => exact ⟨(wrap64 (-(wrap64 (Int.tdiv (1000000000 : Int) ((rd_T49 l0 a1).f2))))),(wrap64 ((wrap64 (Int.tdiv (1000000000 : Int) ((rd_T49 l0 a1).f2))) + 1)),(by first | rfl | (simp;done) | (simp [*];done)),(by first | rfl | (simp;done) | (simp [*];done)),H',⟨Nat.le_refl _⟩,⟨by exact lk_ BK451⟩,⟨by exact lk_ BK452⟩,⟨by exact lb_ HB⟩⟩
       case round =>
        clear H'
        try clear c1
        try clear c2
        try clear p2
        try clear c4
        try clear p4
        try clear q4
        try clear hx4
        try clear c5
        try clear c5b0
        try clear c5b1
        try clear p6
        try clear c7
        try clear c11
        try clear c13
        try clear c13b0
        try clear c17
        try clear c20
        try clear c20b0
        try clear c21
        try clear c21b0
        try clear c22
        try clear c22b0
        try clear c22b1
        try clear c23
        try clear c26
        try clear hcz12_0
        try clear hcz12_1
        try clear hcz18_0
        try clear hcz18_1
        try clear hcz19_0
        try clear hcz19_1
        try clear hcz27_0
        try clear hcz27_1
        try clear hfz12_0
        try clear hfz12_1
        try clear hfz18_0
        try clear hfz18_1
        try clear hfz19_0
        try clear hfz19_1
        try clear hfz27_0
        try clear hfz27_1
        try clear hx455_0
        try clear hx455_1
        try clear hx455_2
        try clear hx455_3
        try clear hx455_4
        try clear hx455_5
        try clear hx455_6
        try clear p455
        try clear q455
        obtain ⟨x11_1,x12_1,rfl,rfl,HA,HK1,BK451,BK452,HB⟩ := hrel
        cases gk with
        | zero => exact absurd HA.out (by simp [R_Accept.l0])
        | succ k1 =>
         have H := HA.out
         clear HA
         simp only [R_Accept.l0] at H
         by_cases c28 : x11_1 < x12_1
         ·rw [if_pos c28] at H
          have c28b0 : decide (x11_1 < x12_1) = true := decide_eq_true c28
          clear c28
          replace H := oB_ H
          obtain ⟨t456,A290,H⟩ := H
          replace H : ((R_accepted.f k1 l0 a1 (wrap64 (t456 * ((rd_T49 l0 a1).f2))) a2_0 a2_1).bind fun bt457 => (if bt457.2.1 = true then (R_Accept.l0 k1 l0 a1 ((rd_T49 l0 a1).f2) (wrap64 (Int.tdiv (1000000000 : Int) ((rd_T49 l0 a1).f2))) (wrap64 (t456 + 1)) x12_1 a2_0 a2_1) else (R_Accept.l0 k1 l0 a1 ((rd_T49 l0 a1).f2) (wrap64 (Int.tdiv (1000000000 : Int) ((rd_T49 l0 a1).f2))) x11_1 t456 a2_0 a2_1))) = some (r1,r2,r3) := H
          have A29 := aM_ A290
          clear A290
          replace H := oB_ H
          obtain ⟨⟨t457,t458,t459⟩,A300,H⟩ := H
          replace H : (if t458 = true then (R_Accept.l0 k1 l0 a1 ((rd_T49 l0 a1).f2) (wrap64 (Int.tdiv (1000000000 : Int) ((rd_T49 l0 a1).f2))) (wrap64 (t456 + 1)) x12_1 a2_0 a2_1) else (R_Accept.l0 k1 l0 a1 ((rd_T49 l0 a1).f2) (wrap64 (Int.tdiv (1000000000 : Int) ((rd_T49 l0 a1).f2))) x11_1 t456 a2_0 a2_1)) = some (r1,r2,r3) := H
          have A30 := aM_ A300
          clear A300
          by_cases c31 : t458 = true
          ·subst c31
           have H1 : (R_Accept.l0 k1 l0 a1 ((rd_T49 l0 a1).f2) (wrap64 (Int.tdiv (1000000000 : Int) ((rd_T49 l0 a1).f2))) (wrap64 (t456 + 1)) x12_1 a2_0 a2_1) = some (r1,r2,r3) := by rw [if_pos rfl] at H;exact H
           clear H
           have H := H1
           clear H1
           have H' := aM_ H
           clear H
           go_wp2_with (first | ((with_reducible refine gate_callee (f := 42) rfl ?_);refine goesL_ (some 64) rfl rfl Try.func42 (by kernel_rfl) rfl #[.int .i64 (wrap64 (x11_1 + x12_1)),.int .i64 2] rfl (by (try simp only [List.map_toArray,List.map_cons,List.map_nil]);first | done | rfl) ?_;(with_reducible refine (R_Down.calls (wrap64 (x11_1 + x12_1)) 2 t456 _ A29.out).mono ?_);rintro e w' ⟨rfl,⟨nd,rfl⟩⟩;refine ⟨_,rfl,?_⟩;have hnb32 := NB451_452.out;have hnc32 := NB452_451.out;have hcz33_0 : wr.cell? ⟨gb451,0,none⟩ = some (.int .i64 a2_0) := (blk_cell BK451.out 0).trans rfl;have hcz33_1 : wr.cell? ⟨gb451,1,none⟩ = some (.int .i64 a2_1) := (blk_cell BK451.out 1).trans rfl;have hfz33_0 := blk_frozen BK451.out 0;have hfz33_1 := blk_frozen BK451.out 1) | ((with_reducible refine gate_callee (f := 55) rfl ?_);refine goesL_ (some 72) rfl rfl Try.func55 (by kernel_rfl) rfl #[.slice (some ad455) l0.length c0,.int .i64 a1,.int .i64 (wrap64 (t456 * ((rd_T49 l0 a1).f2))),.agg #[.int .i64 a2_0,.int .i64 a2_1]] rfl (by (try simp only [List.map_toArray,List.map_cons,List.map_nil]);first | done | rfl) ?_;(with_reducible refine (R_accepted.calls k1 _ _ l0 a1 (wrap64 (t456 * ((rd_T49 l0 a1).f2))) a2_0 a2_1 t457 true t459 _ ?side1 ?side2 A30.out).mono ?_);(case side1 => repeat (first | exact (Kd.C_below HR0.out (by exact lb_ HB)) | (with_reducible refine Kd.C_alloc ?_ _) | (with_reducible refine Kd.C_drewN ?_ _) | (with_reducible refine Kd.C_drew ?_)));(case side2 => exact HC0.out);rintro e w34 ⟨rfl,hb⟩;refine ⟨_,rfl,?_⟩;have n0_ := aM_ (kB_ (g := gb451) (o := .cells #[.int .i64 a2_0,.int .i64 a2_1] 34 (0,0)) (by exact lk_ BK451) hb);have n1_ := aM_ (kB_ (g := gb452) (o := .cells #[.int .i64 0,.int .i64 0] 34 (0,0)) (by exact lk_ BK452) hb);have n2_ := aM_ (bT_ (by exact lb_ HB) hb);clear BK451;clear BK452;clear HB;have BK451 := n0_;have BK452 := n1_;have HB := n2_;clear n0_ n1_ n2_;(try clear hb);(try clear hb2);(try clear hk);(try clear hi)))
           go_roundg k1
           case measure => have := HK1.out;omega
           case rel => exact ⟨(wrap64 (t456 + 1)),(x12_1),(by first | rfl | (simp;done) | (simp [*];done)),(by first | rfl | (simp;done) | (simp [*];done)),H',⟨by have := HK1.out;omega⟩,⟨by exact lk_ BK451⟩,⟨by exact lk_ BK452⟩,⟨by exact lb_ HB⟩⟩
          ·replace c31 := Bool.eq_false_iff.mpr c31
           subst c31
           have H1 : (R_Accept.l0 k1 l0 a1 ((rd_T49 l0 a1).f2) (wrap64 (Int.tdiv (1000000000 : Int) ((rd_T49 l0 a1).f2))) x11_1 t456 a2_0 a2_1) = some (r1,r2,r3) := by rw [if_neg (show ¬ (false = true) by decide)] at H;exact H
           clear H
           have H := H1
           clear H1
           have H' := aM_ H
           clear H
           go_wp2_with (first | ((with_reducible refine gate_callee (f := 42) rfl ?_);refine goesL_ (some 64) rfl rfl Try.func42 (by kernel_rfl) rfl #[.int .i64 (wrap64 (x11_1 + x12_1)),.int .i64 2] rfl (by (try simp only [List.map_toArray,List.map_cons,List.map_nil]);first | done | rfl) ?_;(with_reducible refine (R_Down.calls (wrap64 (x11_1 + x12_1)) 2 t456 _ A29.out).mono ?_);rintro e w' ⟨rfl,⟨nd,rfl⟩⟩;refine ⟨_,rfl,?_⟩;have hnb35 := NB451_452.out;have hnc35 := NB452_451.out;have hcz36_0 : wr.cell? ⟨gb451,0,none⟩ = some (.int .i64 a2_0) := (blk_cell BK451.out 0).trans rfl;have hcz36_1 : wr.cell? ⟨gb451,1,none⟩ = some (.int .i64 a2_1) := (blk_cell BK451.out 1).trans rfl;have hfz36_0 := blk_frozen BK451.out 0;have hfz36_1 := blk_frozen BK451.out 1) | ((with_reducible refine gate_callee (f := 55) rfl ?_);refine goesL_ (some 72) rfl rfl Try.func55 (by kernel_rfl) rfl #[.slice (some ad455) l0.length c0,.int .i64 a1,.int .i64 (wrap64 (t456 * ((rd_T49 l0 a1).f2))),.agg #[.int .i64 a2_0,.int .i64 a2_1]] rfl (by (try simp only [List.map_toArray,List.map_cons,List.map_nil]);first | done | rfl) ?_;(with_reducible refine (R_accepted.calls k1 _ _ l0 a1 (wrap64 (t456 * ((rd_T49 l0 a1).f2))) a2_0 a2_1 t457 false t459 _ ?side1 ?side2 A30.out).mono ?_);(case side1 => repeat (first | exact (Kd.C_below HR0.out (by exact lb_ HB)) | (with_reducible refine Kd.C_alloc ?_ _) | (with_reducible refine Kd.C_drewN ?_ _) | (with_reducible refine Kd.C_drew ?_)));(case side2 => exact HC0.out);rintro e w37 ⟨rfl,hb⟩;refine ⟨_,rfl,?_⟩;have n0_ := aM_ (kB_ (g := gb451) (o := .cells #[.int .i64 a2_0,.int .i64 a2_1] 34 (0,0)) (by exact lk_ BK451) hb);have n1_ := aM_ (kB_ (g := gb452) (o := .cells #[.int .i64 0,.int .i64 0] 34 (0,0)) (by exact lk_ BK452) hb);have n2_ := aM_ (bT_ (by exact lb_ HB) hb);clear BK451;clear BK452;clear HB;have BK451 := n0_;have BK452 := n1_;have HB := n2_;clear n0_ n1_ n2_;(try clear hb);(try clear hb2);(try clear hk);(try clear hi)))
           go_roundg k1
           case measure => have := HK1.out;omega
           case rel => exact ⟨(x11_1),(t456),(by first | rfl | (simp;done) | (simp [*];done)),(by first | rfl | (simp;done) | (simp [*];done)),H',⟨by have := HK1.out;omega⟩,⟨by exact lk_ BK451⟩,⟨by exact lk_ BK452⟩,⟨by exact lb_ HB⟩⟩
         ·rw [if_neg c28] at H
          have c28b0 : decide (x11_1 < x12_1) = false := decide_eq_false c28
          clear c28
          have H' := aM_ H
          clear H
          go_wp2
          go_loopg [17,18] k1 (fun kq v17 v18 w' => ∃ (x17_2 : Int) (x18_2 : Int),v17 = .int .i64 x17_2 ∧ v18 = .int .i64 x18_2 ∧ Aside0 (R_Accept.l1 kq l0 a1 ((rd_T49 l0 a1).f2) x11_1 x17_2 x18_2 a2_0 a2_1 = some (r1,r2,r3)) ∧ Aside0 (kq ≤ k1) ∧ Aside0 (w'.heap[gb451]? = some (.cells #[.int .i64 a2_0,.int .i64 a2_1] 34 (0,0))) ∧ Aside0 (w'.heap[gb452]? = some (.cells #[.int .i64 0,.int .i64 0] 34 (0,0))) ∧ Aside0 (Below w.heap.size w w'))
          case atStart => exact ⟨(wrap64 ((wrap64 (-(wrap64 (Int.tdiv (1000000000 : Int) ((rd_T49 l0 a1).f2))))) - 1)),((wrap64 (Int.tdiv (1000000000 : Int) ((rd_T49 l0 a1).f2)))),(by first | rfl | (simp;done) | (simp [*];done)),(by first | rfl | (simp;done) | (simp [*];done)),H',⟨Nat.le_refl _⟩,⟨by exact lk_ BK451⟩,⟨by exact lk_ BK452⟩,⟨by exact lb_ HB⟩⟩
          case round =>
           clear H'
           try clear c1
           try clear c2
           try clear p2
           try clear c3
           try clear c4
           try clear p4
           try clear q4
           try clear hx4
           try clear c5
           try clear c5b0
           try clear c5b1
           try clear p6
           try clear c7
           try clear c11
           try clear c13
           try clear c13b0
           try clear c17
           try clear c20
           try clear c20b0
           try clear c21
           try clear c21b0
           try clear c22
           try clear c22b0
           try clear c22b1
           try clear c23
           try clear c26
           try clear c28
           try clear c28b0
           try clear c31
           try clear c32
           try clear c35
           try clear hcz12_0
           try clear hcz12_1
           try clear hcz18_0
           try clear hcz18_1
           try clear hcz19_0
           try clear hcz19_1
           try clear hcz27_0
           try clear hcz27_1
           try clear hcz33_0
           try clear hcz33_1
           try clear hcz36_0
           try clear hcz36_1
           try clear hfz12_0
           try clear hfz12_1
           try clear hfz18_0
           try clear hfz18_1
           try clear hfz19_0
           try clear hfz19_1
           try clear hfz27_0
           try clear hfz27_1
           try clear hfz33_0
           try clear hfz33_1
           try clear hfz36_0
           try clear hfz36_1
           try clear hx455_0
           try clear hx455_1
           try clear hx455_2
           try clear hx455_3
           try clear hx455_4
           try clear hx455_5
           try clear hx455_6
           try clear p2
           try clear p4
           try clear p455
           try clear p6
           try clear q4
           try clear q455
           obtain ⟨x17_2,x18_2,rfl,rfl,HA,HK2,BK451,BK452,HB⟩ := hrel
           cases gk with
           | zero => exact absurd HA.out (by simp [R_Accept.l1])
           | succ k2 =>
            have H := HA.out
            clear HA
            simp only [R_Accept.l1] at H
            by_cases c38 : x17_2 < x18_2
            ·rw [if_pos c38] at H
             have c38b0 : decide (x17_2 < x18_2) = true := decide_eq_true c38
             clear c38
             replace H := oB_ H
             obtain ⟨t460,A390,H⟩ := H
             replace H : ((R_accepted.f k2 l0 a1 (wrap64 (t460 * ((rd_T49 l0 a1).f2))) a2_0 a2_1).bind fun bt461 => (if bt461.2.2 = true then (R_Accept.l1 k2 l0 a1 ((rd_T49 l0 a1).f2) x11_1 x17_2 (wrap64 (t460 - 1)) a2_0 a2_1) else (R_Accept.l1 k2 l0 a1 ((rd_T49 l0 a1).f2) x11_1 t460 x18_2 a2_0 a2_1))) = some (r1,r2,r3) := H
             have A39 := aM_ A390
             clear A390
             replace H := oB_ H
             obtain ⟨⟨t461,t462,t463⟩,A400,H⟩ := H
             replace H : (if t463 = true then (R_Accept.l1 k2 l0 a1 ((rd_T49 l0 a1).f2) x11_1 x17_2 (wrap64 (t460 - 1)) a2_0 a2_1) else (R_Accept.l1 k2 l0 a1 ((rd_T49 l0 a1).f2) x11_1 t460 x18_2 a2_0 a2_1)) = some (r1,r2,r3) := H
             have A40 := aM_ A400
             clear A400
             by_cases c41 : t463 = true
             ·subst c41
              have H1 : (R_Accept.l1 k2 l0 a1 ((rd_T49 l0 a1).f2) x11_1 x17_2 (wrap64 (t460 - 1)) a2_0 a2_1) = some (r1,r2,r3) := by rw [if_pos rfl] at H;exact H
              clear H
              have H := H1
              clear H1
              have H' := aM_ H
              clear H
              go_wp2_with (first | ((with_reducible refine gate_callee (f := 56) rfl ?_);refine goesL_ (some 90) rfl rfl Try.func56 (by kernel_rfl) rfl #[.int .i64 (wrap64 (x17_2 + x18_2)),.int .i64 2] rfl (by (try simp only [List.map_toArray,List.map_cons,List.map_nil]);first | done | rfl) ?_;(with_reducible refine (R_Up.calls (wrap64 (x17_2 + x18_2)) 2 t460 _ A39.out).mono ?_);rintro e w' ⟨rfl,⟨nd,rfl⟩⟩;refine ⟨_,rfl,?_⟩;have hnb42 := NB451_452.out;have hnc42 := NB452_451.out;have hcz43_0 : wr.cell? ⟨gb451,0,none⟩ = some (.int .i64 a2_0) := (blk_cell BK451.out 0).trans rfl;have hcz43_1 : wr.cell? ⟨gb451,1,none⟩ = some (.int .i64 a2_1) := (blk_cell BK451.out 1).trans rfl;have hfz43_0 := blk_frozen BK451.out 0;have hfz43_1 := blk_frozen BK451.out 1) | ((with_reducible refine gate_callee (f := 55) rfl ?_);refine goesL_ (some 98) rfl rfl Try.func55 (by kernel_rfl) rfl #[.slice (some ad455) l0.length c0,.int .i64 a1,.int .i64 (wrap64 (t460 * ((rd_T49 l0 a1).f2))),.agg #[.int .i64 a2_0,.int .i64 a2_1]] rfl (by (try simp only [List.map_toArray,List.map_cons,List.map_nil]);first | done | rfl) ?_;(with_reducible refine (R_accepted.calls k2 _ _ l0 a1 (wrap64 (t460 * ((rd_T49 l0 a1).f2))) a2_0 a2_1 t461 t462 true _ ?side1 ?side2 A40.out).mono ?_);(case side1 => repeat (first | exact (Kd.C_below HR0.out (by exact lb_ HB)) | (with_reducible refine Kd.C_alloc ?_ _) | (with_reducible refine Kd.C_drewN ?_ _) | (with_reducible refine Kd.C_drew ?_)));(case side2 => exact HC0.out);rintro e w44 ⟨rfl,hb⟩;refine ⟨_,rfl,?_⟩;have n0_ := aM_ (kB_ (g := gb451) (o := .cells #[.int .i64 a2_0,.int .i64 a2_1] 34 (0,0)) (by exact lk_ BK451) hb);have n1_ := aM_ (kB_ (g := gb452) (o := .cells #[.int .i64 0,.int .i64 0] 34 (0,0)) (by exact lk_ BK452) hb);have n2_ := aM_ (bT_ (by exact lb_ HB) hb);clear BK451;clear BK452;clear HB;have BK451 := n0_;have BK452 := n1_;have HB := n2_;clear n0_ n1_ n2_;(try clear hb);(try clear hb2);(try clear hk);(try clear hi)))
              go_roundg k2
              case measure => have := HK1.out;have := HK2.out;omega
              case rel => exact ⟨(x17_2),(wrap64 (t460 - 1)),(by first | rfl | (simp;done) | (simp [*];done)),(by first | rfl | (simp;done) | (simp [*];done)),H',⟨by have := HK1.out;have := HK2.out;omega⟩,⟨by exact lk_ BK451⟩,⟨by exact lk_ BK452⟩,⟨by exact lb_ HB⟩⟩
             ·replace c41 := Bool.eq_false_iff.mpr c41
              subst c41
              have H1 : (R_Accept.l1 k2 l0 a1 ((rd_T49 l0 a1).f2) x11_1 t460 x18_2 a2_0 a2_1) = some (r1,r2,r3) := by rw [if_neg (show ¬ (false = true) by decide)] at H;exact H
              clear H
              have H := H1
              clear H1
              have H' := aM_ H
              clear H
              go_wp2_with (first | ((with_reducible refine gate_callee (f := 56) rfl ?_);refine goesL_ (some 90) rfl rfl Try.func56 (by kernel_rfl) rfl #[.int .i64 (wrap64 (x17_2 + x18_2)),.int .i64 2] rfl (by (try simp only [List.map_toArray,List.map_cons,List.map_nil]);first | done | rfl) ?_;(with_reducible refine (R_Up.calls (wrap64 (x17_2 + x18_2)) 2 t460 _ A39.out).mono ?_);rintro e w' ⟨rfl,⟨nd,rfl⟩⟩;refine ⟨_,rfl,?_⟩;have hnb45 := NB451_452.out;have hnc45 := NB452_451.out;have hcz46_0 : wr.cell? ⟨gb451,0,none⟩ = some (.int .i64 a2_0) := (blk_cell BK451.out 0).trans rfl;have hcz46_1 : wr.cell? ⟨gb451,1,none⟩ = some (.int .i64 a2_1) := (blk_cell BK451.out 1).trans rfl;have hfz46_0 := blk_frozen BK451.out 0;have hfz46_1 := blk_frozen BK451.out 1) | ((with_reducible refine gate_callee (f := 55) rfl ?_);refine goesL_ (some 98) rfl rfl Try.func55 (by kernel_rfl) rfl #[.slice (some ad455) l0.length c0,.int .i64 a1,.int .i64 (wrap64 (t460 * ((rd_T49 l0 a1).f2))),.agg #[.int .i64 a2_0,.int .i64 a2_1]] rfl (by (try simp only [List.map_toArray,List.map_cons,List.map_nil]);first | done | rfl) ?_;(with_reducible refine (R_accepted.calls k2 _ _ l0 a1 (wrap64 (t460 * ((rd_T49 l0 a1).f2))) a2_0 a2_1 t461 t462 false _ ?side1 ?side2 A40.out).mono ?_);(case side1 => repeat (first | exact (Kd.C_below HR0.out (by exact lb_ HB)) | (with_reducible refine Kd.C_alloc ?_ _) | (with_reducible refine Kd.C_drewN ?_ _) | (with_reducible refine Kd.C_drew ?_)));(case side2 => exact HC0.out);rintro e w47 ⟨rfl,hb⟩;refine ⟨_,rfl,?_⟩;have n0_ := aM_ (kB_ (g := gb451) (o := .cells #[.int .i64 a2_0,.int .i64 a2_1] 34 (0,0)) (by exact lk_ BK451) hb);have n1_ := aM_ (kB_ (g := gb452) (o := .cells #[.int .i64 0,.int .i64 0] 34 (0,0)) (by exact lk_ BK452) hb);have n2_ := aM_ (bT_ (by exact lb_ HB) hb);clear BK451;clear BK452;clear HB;have BK451 := n0_;have BK452 := n1_;have HB := n2_;clear n0_ n1_ n2_;(try clear hb);(try clear hb2);(try clear hk);(try clear hi)))
              go_roundg k2
              case measure => have := HK1.out;have := HK2.out;omega
              case rel => exact ⟨(t460),(x18_2),(by first | rfl | (simp;done) | (simp [*];done)),(by first | rfl | (simp;done) | (simp [*];done)),H',⟨by have := HK1.out;have := HK2.out;omega⟩,⟨by exact lk_ BK451⟩,⟨by exact lk_ BK452⟩,⟨by exact lb_ HB⟩⟩
            ·rw [if_neg c38] at H
             have c38b0 : decide (x17_2 < x18_2) = false := decide_eq_false c38
             clear c38
             have HC48 := aM_ H
             clear H
             go_upto_block 4 with (fail)
             go_cut [11] (fun v11 wc => ∃ (kq : Nat) (x11_47 : Int),v11 = .int .i64 x11_47 ∧ Aside0 (R_Accept.j3 kq l0 a1 ((rd_T49 l0 a1).f2) x11_47 x18_2 a2_0 a2_1 = some (r1,r2,r3)) ∧ Aside0 (kq ≤ k2) ∧ Aside0 (wc.heap[gb451]? = some (.cells #[.int .i64 a2_0,.int .i64 a2_1] 34 (0,0))) ∧ Aside0 (wc.heap[gb452]? = some (.cells #[.int .i64 0,.int .i64 0] 34 (0,0))) ∧ Aside0 (Below w.heap.size w wc))
             case first =>
              have H := HC48.out
              clear HC48
              have H' := aM_ H
              clear H
              go_wp2
              go_loopg [11] k2 (fun kq v11 w' => ∃ (x11_3 : Int),v11 = .int .i64 x11_3 ∧ Aside0 (R_Accept.l2 kq l0 a1 ((rd_T49 l0 a1).f2) x11_3 x18_2 a2_0 a2_1 = some (r1,r2,r3)) ∧ Aside0 (kq ≤ k2) ∧ Aside0 (w'.heap[gb451]? = some (.cells #[.int .i64 a2_0,.int .i64 a2_1] 34 (0,0))) ∧ Aside0 (w'.heap[gb452]? = some (.cells #[.int .i64 0,.int .i64 0] 34 (0,0))) ∧ Aside0 (Below w.heap.size w w'))
              case atStart => exact ⟨(x11_1),(by first | rfl | (simp;done) | (simp [*];done)),H',⟨Nat.le_refl _⟩,⟨by exact lk_ BK451⟩,⟨by exact lk_ BK452⟩,⟨by exact lb_ HB⟩⟩
              case round =>
               clear H'
               try clear c1
               try clear c2
               try clear p2
               try clear c3
               try clear c4
               try clear p4
               try clear q4
               try clear hx4
               try clear c5
               try clear c5b0
               try clear c5b1
               try clear p6
               try clear c7
               try clear c11
               try clear c13
               try clear c13b0
               try clear c17
               try clear c20
               try clear c20b0
               try clear c21
               try clear c21b0
               try clear c22
               try clear c22b0
               try clear c22b1
               try clear c23
               try clear c26
               try clear c28
               try clear c28b0
               try clear c31
               try clear c32
               try clear c35
               try clear c38
               try clear c38b0
               try clear c41
               try clear c42
               try clear c45
               try clear p45
               try clear q45
               try clear hx45
               try clear c48
               try clear hcz12_0
               try clear hcz12_1
               try clear hcz18_0
               try clear hcz18_1
               try clear hcz19_0
               try clear hcz19_1
               try clear hcz27_0
               try clear hcz27_1
               try clear hcz33_0
               try clear hcz33_1
               try clear hcz36_0
               try clear hcz36_1
               try clear hcz43_0
               try clear hcz43_1
               try clear hcz46_0
               try clear hcz46_1
               try clear hfz12_0
               try clear hfz12_1
               try clear hfz18_0
               try clear hfz18_1
               try clear hfz19_0
               try clear hfz19_1
               try clear hfz27_0
               try clear hfz27_1
               try clear hfz33_0
               try clear hfz33_1
               try clear hfz36_0
               try clear hfz36_1
               try clear hfz43_0
               try clear hfz43_1
               try clear hfz46_0
               try clear hfz46_1
               try clear hx455_0
               try clear hx455_1
               try clear hx455_2
               try clear hx455_3
               try clear hx455_4
               try clear hx455_5
               try clear hx455_6
               try clear p2
               try clear p4
               try clear p455
               try clear p6
               try clear q4
               try clear q455
               obtain ⟨x11_3,rfl,HA,HK3,BK451,BK452,HB⟩ := hrel
               cases gk with
               | zero => exact absurd HA.out (by simp [R_Accept.l2])
               | succ k3 =>
                have H := HA.out
                clear HA
                simp only [R_Accept.l2] at H
                by_cases c49 : x11_3 ≤ x18_2
                ·rw [if_pos c49] at H
                 have c49b0 : decide (x11_3 ≤ x18_2) = true := decide_eq_true c49
                 clear c49
                 (first | rw [c49b0] | (simp only [i64_w,i32_w];rw [c49b0]) | skip)
                 replace H := oB_ H
                 obtain ⟨⟨t464,t465,t466⟩,A500,H⟩ := H
                 replace H : (if t464 = true then (R_Accept.j3 k3 l0 a1 ((rd_T49 l0 a1).f2) x11_3 x18_2 a2_0 a2_1) else (R_Accept.l2 k3 l0 a1 ((rd_T49 l0 a1).f2) (wrap64 (x11_3 + 1)) x18_2 a2_0 a2_1)) = some (r1,r2,r3) := H
                 have A50 := aM_ A500
                 clear A500
                 by_cases c51 : t464 = true
                 ·subst c51
                  have H1 : (R_Accept.j3 k3 l0 a1 ((rd_T49 l0 a1).f2) x11_3 x18_2 a2_0 a2_1) = some (r1,r2,r3) := by rw [if_pos rfl] at H;exact H
                  clear H
                  have H := H1
                  clear H1
                  have H' := aM_ H
                  clear H
                  have hnb52 := NB451_452.out
                  have hnc52 := NB452_451.out
                  have hcz53_0 : wr.cell? ⟨gb451,0,none⟩ = some (.int .i64 a2_0) := (blk_cell BK451.out 0).trans rfl
                  have hcz53_1 : wr.cell? ⟨gb451,1,none⟩ = some (.int .i64 a2_1) := (blk_cell BK451.out 1).trans rfl
                  have hfz53_0 := blk_frozen BK451.out 0
                  have hfz53_1 := blk_frozen BK451.out 1
                  go_wp2_with (first | ((with_reducible refine gate_callee (f := 55) rfl ?_);refine goesL_ (some 116) rfl rfl Try.func55 (by kernel_rfl) rfl #[.slice (some ad455) l0.length c0,.int .i64 a1,.int .i64 (wrap64 (x11_3 * ((rd_T49 l0 a1).f2))),.agg #[.int .i64 a2_0,.int .i64 a2_1]] rfl (by (try simp only [List.map_toArray,List.map_cons,List.map_nil]);first | done | rfl) ?_;(with_reducible refine (R_accepted.calls k3 _ _ l0 a1 (wrap64 (x11_3 * ((rd_T49 l0 a1).f2))) a2_0 a2_1 true t465 t466 _ ?side1 ?side2 A50.out).mono ?_);(case side1 => exact Kd.C_below HR0.out (lb_ HB));(case side2 => exact HC0.out);rintro e w54 ⟨rfl,hb⟩;refine ⟨_,rfl,?_⟩;have n0_ := aM_ (kB_ (g := gb451) (o := .cells #[.int .i64 a2_0,.int .i64 a2_1] 34 (0,0)) (by exact lk_ BK451) hb);have n1_ := aM_ (kB_ (g := gb452) (o := .cells #[.int .i64 0,.int .i64 0] 34 (0,0)) (by exact lk_ BK452) hb);have n2_ := aM_ (bT_ (by exact lb_ HB) hb);clear BK451;clear BK452;clear HB;have BK451 := n0_;have BK452 := n1_;have HB := n2_;clear n0_ n1_ n2_;(try clear hb);(try clear hb2);(try clear hk);(try clear hi)))
                  go_meet
                  case rel => exact ⟨_,(x11_3),(by first | rfl | (simp;done) | (simp [*];done)),H',⟨by have := HK1.out;have := HK2.out;have := HK3.out;first | omega | exact Nat.le_refl _⟩,⟨by exact lk_ BK451⟩,⟨by exact lk_ BK452⟩,⟨by exact lb_ HB⟩⟩
                 ·replace c51 := Bool.eq_false_iff.mpr c51
                  subst c51
                  have H1 : (R_Accept.l2 k3 l0 a1 ((rd_T49 l0 a1).f2) (wrap64 (x11_3 + 1)) x18_2 a2_0 a2_1) = some (r1,r2,r3) := by rw [if_neg (show ¬ (false = true) by decide)] at H;exact H
                  clear H
                  have H := H1
                  clear H1
                  have H' := aM_ H
                  clear H
                  have hnb55 := NB451_452.out
                  have hnc55 := NB452_451.out
                  have hcz56_0 : wr.cell? ⟨gb451,0,none⟩ = some (.int .i64 a2_0) := (blk_cell BK451.out 0).trans rfl
                  have hcz56_1 : wr.cell? ⟨gb451,1,none⟩ = some (.int .i64 a2_1) := (blk_cell BK451.out 1).trans rfl
                  have hfz56_0 := blk_frozen BK451.out 0
                  have hfz56_1 := blk_frozen BK451.out 1
                  go_wp2_with (first | ((with_reducible refine gate_callee (f := 55) rfl ?_);refine goesL_ (some 116) rfl rfl Try.func55 (by kernel_rfl) rfl #[.slice (some ad455) l0.length c0,.int .i64 a1,.int .i64 (wrap64 (x11_3 * ((rd_T49 l0 a1).f2))),.agg #[.int .i64 a2_0,.int .i64 a2_1]] rfl (by (try simp only [List.map_toArray,List.map_cons,List.map_nil]);first | done | rfl) ?_;(with_reducible refine (R_accepted.calls k3 _ _ l0 a1 (wrap64 (x11_3 * ((rd_T49 l0 a1).f2))) a2_0 a2_1 false t465 t466 _ ?side1 ?side2 A50.out).mono ?_);(case side1 => exact Kd.C_below HR0.out (lb_ HB));(case side2 => exact HC0.out);rintro e w57 ⟨rfl,hb⟩;refine ⟨_,rfl,?_⟩;have n0_ := aM_ (kB_ (g := gb451) (o := .cells #[.int .i64 a2_0,.int .i64 a2_1] 34 (0,0)) (by exact lk_ BK451) hb);have n1_ := aM_ (kB_ (g := gb452) (o := .cells #[.int .i64 0,.int .i64 0] 34 (0,0)) (by exact lk_ BK452) hb);have n2_ := aM_ (bT_ (by exact lb_ HB) hb);clear BK451;clear BK452;clear HB;have BK451 := n0_;have BK452 := n1_;have HB := n2_;clear n0_ n1_ n2_;(try clear hb);(try clear hb2);(try clear hk);(try clear hi)))
                  go_roundg k3
                  case measure => have := HK1.out;have := HK2.out;have := HK3.out;omega
                  case rel => exact ⟨(wrap64 (x11_3 + 1)),(by first | rfl | (simp;done) | (simp [*];done)),H',⟨by have := HK1.out;have := HK2.out;have := HK3.out;omega⟩,⟨by exact lk_ BK451⟩,⟨by exact lk_ BK452⟩,⟨by exact lb_ HB⟩⟩
                ·rw [if_neg c49] at H
                 have c49b0 : decide (x11_3 ≤ x18_2) = false := decide_eq_false c49
                 clear c49
                 (first | rw [c49b0] | (simp only [i64_w,i32_w];rw [c49b0]) | skip)
                 have H' := aM_ H
                 clear H
                 go_wp2
                 go_meet
                 case rel => exact ⟨_,(x11_3),(by first | rfl | (simp;done) | (simp [*];done)),H',⟨by have := HK1.out;have := HK2.out;have := HK3.out;first | omega | exact Nat.le_refl _⟩,⟨by exact lk_ BK451⟩,⟨by exact lk_ BK452⟩,⟨by exact lb_ HB⟩⟩
             case rest =>
              clear HC48
              try clear c1
              try clear c2
              try clear p2
              try clear c3
              try clear c4
              try clear p4
              try clear q4
              try clear hx4
              try clear c5
              try clear c5b0
              try clear c5b1
              try clear p6
              try clear c7
              try clear c11
              try clear c13
              try clear c13b0
              try clear c17
              try clear c20
              try clear c20b0
              try clear c21
              try clear c21b0
              try clear c22
              try clear c22b0
              try clear c22b1
              try clear c23
              try clear c26
              try clear c28
              try clear c28b0
              try clear c31
              try clear c32
              try clear c35
              try clear c38
              try clear c38b0
              try clear c41
              try clear c42
              try clear c45
              try clear p45
              try clear q45
              try clear hx45
              try clear c48
              try clear c49
              try clear c49b0
              try clear c51
              try clear c52
              try clear c55
              try clear c56
              try clear hcz12_0
              try clear hcz12_1
              try clear hcz18_0
              try clear hcz18_1
              try clear hcz19_0
              try clear hcz19_1
              try clear hcz27_0
              try clear hcz27_1
              try clear hcz33_0
              try clear hcz33_1
              try clear hcz36_0
              try clear hcz36_1
              try clear hcz43_0
              try clear hcz43_1
              try clear hcz46_0
              try clear hcz46_1
              try clear hcz53_0
              try clear hcz53_1
              try clear hcz56_0
              try clear hcz56_1
              try clear hfz12_0
              try clear hfz12_1
              try clear hfz18_0
              try clear hfz18_1
              try clear hfz19_0
              try clear hfz19_1
              try clear hfz27_0
              try clear hfz27_1
              try clear hfz33_0
              try clear hfz33_1
              try clear hfz36_0
              try clear hfz36_1
              try clear hfz43_0
              try clear hfz43_1
              try clear hfz46_0
              try clear hfz46_1
              try clear hfz53_0
              try clear hfz53_1
              try clear hfz56_0
              try clear hfz56_1
              try clear hx455_0
              try clear hx455_1
              try clear hx455_2
              try clear hx455_3
              try clear hx455_4
              try clear hx455_5
              try clear hx455_6
              try clear p2
              try clear p4
              try clear p45
              try clear p455
              try clear p6
              try clear q4
              try clear q45
              try clear q455
              obtain ⟨kq,x11_47,rfl,HA,HJ47,BK451,BK452,HB⟩ := hcut
              cases kq with
              | zero => exact absurd HA.out (by simp [R_Accept.j3])
              | succ kj47 =>
               have H := HA.out
               clear HA
               simp only [R_Accept.j3] at H
               have H' := aM_ H
               clear H
               go_wp2
               go_loopg [18] kj47 (fun kq v18 w' => ∃ (x18_4 : Int),v18 = .int .i64 x18_4 ∧ Aside0 (R_Accept.l3 kq l0 a1 ((rd_T49 l0 a1).f2) x11_47 x18_4 a2_0 a2_1 = some (r1,r2,r3)) ∧ Aside0 (kq ≤ kj47) ∧ Aside0 (w'.heap[gb451]? = some (.cells #[.int .i64 a2_0,.int .i64 a2_1] 34 (0,0))) ∧ Aside0 (w'.heap[gb452]? = some (.cells #[.int .i64 0,.int .i64 0] 34 (0,0))) ∧ Aside0 (Below w.heap.size w w'))
               case atStart => exact ⟨(x18_2),(by first | rfl | (simp;done) | (simp [*];done)),H',⟨Nat.le_refl _⟩,⟨by exact lk_ BK451⟩,⟨by exact lk_ BK452⟩,⟨by exact lb_ HB⟩⟩
               case round =>
                clear H'
                try clear c1
                try clear c2
                try clear p2
                try clear c3
                try clear c4
                try clear p4
                try clear q4
                try clear hx4
                try clear c5
                try clear c5b0
                try clear c5b1
                try clear p6
                try clear c7
                try clear c11
                try clear c13
                try clear c13b0
                try clear c17
                try clear c20
                try clear c20b0
                try clear c21
                try clear c21b0
                try clear c22
                try clear c22b0
                try clear c22b1
                try clear c23
                try clear c26
                try clear c28
                try clear c28b0
                try clear c31
                try clear c32
                try clear c35
                try clear c38
                try clear c38b0
                try clear c41
                try clear c42
                try clear c45
                try clear p45
                try clear q45
                try clear hx45
                try clear c48
                try clear c49
                try clear c49b0
                try clear c51
                try clear c52
                try clear c55
                try clear c56
                try clear hcz12_0
                try clear hcz12_1
                try clear hcz18_0
                try clear hcz18_1
                try clear hcz19_0
                try clear hcz19_1
                try clear hcz27_0
                try clear hcz27_1
                try clear hcz33_0
                try clear hcz33_1
                try clear hcz36_0
                try clear hcz36_1
                try clear hcz43_0
                try clear hcz43_1
                try clear hcz46_0
                try clear hcz46_1
                try clear hcz53_0
                try clear hcz53_1
                try clear hcz56_0
                try clear hcz56_1
                try clear hfz12_0
                try clear hfz12_1
                try clear hfz18_0
                try clear hfz18_1
                try clear hfz19_0
                try clear hfz19_1
                try clear hfz27_0
                try clear hfz27_1
                try clear hfz33_0
                try clear hfz33_1
                try clear hfz36_0
                try clear hfz36_1
                try clear hfz43_0
                try clear hfz43_1
                try clear hfz46_0
                try clear hfz46_1
                try clear hfz53_0
                try clear hfz53_1
                try clear hfz56_0
                try clear hfz56_1
                try clear hx455_0
                try clear hx455_1
                try clear hx455_2
                try clear hx455_3
                try clear hx455_4
                try clear hx455_5
                try clear hx455_6
                try clear p2
                try clear p4
                try clear p45
                try clear p455
                try clear p6
                try clear q4
                try clear q45
                try clear q455
                obtain ⟨x18_4,rfl,HA,HK4,BK451,BK452,HB⟩ := hrel
                cases gk with
                | zero => exact absurd HA.out (by simp [R_Accept.l3])
                | succ k4 =>
                 have H := HA.out
                 clear HA
                 simp only [R_Accept.l3] at H
                 by_cases c58 : x11_47 ≤ x18_4
                 ·rw [if_pos c58] at H
                  have c58b0 : decide (x11_47 ≤ x18_4) = true := decide_eq_true c58
                  clear c58
                  replace H := oB_ H
                  obtain ⟨⟨t467,t468,t469⟩,A590,H⟩ := H
                  replace H : (if t467 = true then (if x11_47 > x18_4 then (some (0,0,10)) else (some (wrap64 (x11_47 * ((rd_T49 l0 a1).f2)),wrap64 (x18_4 * ((rd_T49 l0 a1).f2)),0))) else (R_Accept.l3 k4 l0 a1 ((rd_T49 l0 a1).f2) x11_47 (wrap64 (x18_4 - 1)) a2_0 a2_1)) = some (r1,r2,r3) := H
                  have A59 := aM_ A590
                  clear A590
                  by_cases c60 : t467 = true
                  ·subst c60
                   have H1 : (if x11_47 > x18_4 then (some (0,0,10)) else (some (wrap64 (x11_47 * ((rd_T49 l0 a1).f2)),wrap64 (x18_4 * ((rd_T49 l0 a1).f2)),0))) = some (r1,r2,r3) := by rw [if_pos rfl] at H;exact H
                   clear H
                   have H := H1
                   clear H1
                   by_cases c61 : x11_47 > x18_4
                   ·rw [if_pos c61] at H
                    have c61b0 : decide (x18_4 < x11_47) = true := decide_eq_true c61
                    clear c61
                    simp only [Option.some.injEq,Prod.mk.injEq] at H
                    obtain ⟨rfl,rfl,rfl⟩ := H
                    have hnb62 := NB451_452.out
                    have hnc62 := NB452_451.out
                    have hcz63_0 : wr.cell? ⟨gb451,0,none⟩ = some (.int .i64 a2_0) := (blk_cell BK451.out 0).trans rfl
                    have hcz63_1 : wr.cell? ⟨gb451,1,none⟩ = some (.int .i64 a2_1) := (blk_cell BK451.out 1).trans rfl
                    have hfz63_0 := blk_frozen BK451.out 0
                    have hfz63_1 := blk_frozen BK451.out 1
                    go_wp2_with (first | ((with_reducible refine gate_callee (f := 55) rfl ?_);refine goesL_ (some 133) rfl rfl Try.func55 (by kernel_rfl) rfl #[.slice (some ad455) l0.length c0,.int .i64 a1,.int .i64 (wrap64 (x18_4 * ((rd_T49 l0 a1).f2))),.agg #[.int .i64 a2_0,.int .i64 a2_1]] rfl (by (try simp only [List.map_toArray,List.map_cons,List.map_nil]);first | done | rfl) ?_;(with_reducible refine (R_accepted.calls k4 _ _ l0 a1 (wrap64 (x18_4 * ((rd_T49 l0 a1).f2))) a2_0 a2_1 true t468 t469 _ ?side1 ?side2 A59.out).mono ?_);(case side1 => exact Kd.C_below HR0.out (lb_ HB));(case side2 => exact HC0.out);rintro e w64 ⟨rfl,hb⟩;refine ⟨_,rfl,?_⟩;have n0_ := aM_ (kB_ (g := gb451) (o := .cells #[.int .i64 a2_0,.int .i64 a2_1] 34 (0,0)) (by exact lk_ BK451) hb);have n1_ := aM_ (kB_ (g := gb452) (o := .cells #[.int .i64 0,.int .i64 0] 34 (0,0)) (by exact lk_ BK452) hb);have n2_ := aM_ (bT_ (by exact lb_ HB) hb);clear BK451;clear BK452;clear HB;have BK451 := n0_;have BK452 := n1_;have HB := n2_;clear n0_ n1_ n2_;(try clear hb);(try clear hb2);(try clear hk);(try clear hi);have hcz65_0 : w64.cell? ⟨gb452,0,none⟩ = some (.int .i64 0) := (blk_cell BK452.out 0).trans rfl;have hcz65_1 : w64.cell? ⟨gb452,1,none⟩ = some (.int .i64 0) := (blk_cell BK452.out 1).trans rfl;have hfz65_0 := blk_frozen BK452.out 0;have hfz65_1 := blk_frozen BK452.out 1))
                    refine bodyPost_ret (results_ct rfl _ _ gb452 34 #[.int .i64 0,.int .i64 0] (0,0) _ rfl (by (with_reducible repeat (first | refine kN_ ?_ _ | refine kD_ ?_ | refine kA_ ?_ _));refine blk_put (cs := #[.int .i64 0,.int .i64 0]) ?_ 1 _ rfl;(with_reducible repeat (first | refine kN_ ?_ _ | refine kD_ ?_ | refine kA_ ?_ _));refine blk_put (cs := #[.int .i64 0,.int .i64 0]) ?_ 0 _ rfl;exact lk_ BK452) Try.underlying34 rfl (by kernel_rfl)) rfl ?_
                    exact ⟨by first | rfl | (simp [*] <;> rfl),by exact lb_ HB⟩
                   ·rw [if_neg c61] at H
                    have c61b0 : decide (x18_4 < x11_47) = false := decide_eq_false c61
                    clear c61
                    simp only [Option.some.injEq,Prod.mk.injEq] at H
                    obtain ⟨rfl,rfl,rfl⟩ := H
                    have hnb66 := NB451_452.out
                    have hnc66 := NB452_451.out
                    have hcz67_0 : wr.cell? ⟨gb451,0,none⟩ = some (.int .i64 a2_0) := (blk_cell BK451.out 0).trans rfl
                    have hcz67_1 : wr.cell? ⟨gb451,1,none⟩ = some (.int .i64 a2_1) := (blk_cell BK451.out 1).trans rfl
                    have hfz67_0 := blk_frozen BK451.out 0
                    have hfz67_1 := blk_frozen BK451.out 1
                    go_wp2_with (first | ((with_reducible refine gate_callee (f := 55) rfl ?_);refine goesL_ (some 133) rfl rfl Try.func55 (by kernel_rfl) rfl #[.slice (some ad455) l0.length c0,.int .i64 a1,.int .i64 (wrap64 (x18_4 * ((rd_T49 l0 a1).f2))),.agg #[.int .i64 a2_0,.int .i64 a2_1]] rfl (by (try simp only [List.map_toArray,List.map_cons,List.map_nil]);first | done | rfl) ?_;(with_reducible refine (R_accepted.calls k4 _ _ l0 a1 (wrap64 (x18_4 * ((rd_T49 l0 a1).f2))) a2_0 a2_1 true t468 t469 _ ?side1 ?side2 A59.out).mono ?_);(case side1 => exact Kd.C_below HR0.out (lb_ HB));(case side2 => exact HC0.out);rintro e w68 ⟨rfl,hb⟩;refine ⟨_,rfl,?_⟩;have n0_ := aM_ (kB_ (g := gb451) (o := .cells #[.int .i64 a2_0,.int .i64 a2_1] 34 (0,0)) (by exact lk_ BK451) hb);have n1_ := aM_ (kB_ (g := gb452) (o := .cells #[.int .i64 0,.int .i64 0] 34 (0,0)) (by exact lk_ BK452) hb);have n2_ := aM_ (bT_ (by exact lb_ HB) hb);clear BK451;clear BK452;clear HB;have BK451 := n0_;have BK452 := n1_;have HB := n2_;clear n0_ n1_ n2_;(try clear hb);(try clear hb2);(try clear hk);(try clear hi);have hcz69_0 : w68.cell? ⟨gb452,0,none⟩ = some (.int .i64 0) := (blk_cell BK452.out 0).trans rfl;have hcz69_1 : w68.cell? ⟨gb452,1,none⟩ = some (.int .i64 0) := (blk_cell BK452.out 1).trans rfl;have hfz69_0 := blk_frozen BK452.out 0;have hfz69_1 := blk_frozen BK452.out 1))
                    refine bodyPost_ret (results_ct rfl _ _ gb452 34 #[.int .i64 (wrap64 (x11_47 * ((rd_T49 l0 a1).f2))),.int .i64 (wrap64 (x18_4 * ((rd_T49 l0 a1).f2)))] (0,0) _ rfl (by (with_reducible repeat (first | refine kN_ ?_ _ | refine kD_ ?_ | refine kA_ ?_ _));refine blk_put (cs := #[.int .i64 (wrap64 (x11_47 * ((rd_T49 l0 a1).f2))),.int .i64 0]) ?_ 1 _ rfl;(with_reducible repeat (first | refine kN_ ?_ _ | refine kD_ ?_ | refine kA_ ?_ _));refine blk_put (cs := #[.int .i64 0,.int .i64 0]) ?_ 0 _ rfl;exact lk_ BK452) Try.underlying34 rfl (by kernel_rfl)) rfl ?_
                    exact ⟨by first | rfl | (simp [*] <;> rfl),by exact lb_ HB⟩
                  ·replace c60 := Bool.eq_false_iff.mpr c60
                   subst c60
                   have H1 : (R_Accept.l3 k4 l0 a1 ((rd_T49 l0 a1).f2) x11_47 (wrap64 (x18_4 - 1)) a2_0 a2_1) = some (r1,r2,r3) := by rw [if_neg (show ¬ (false = true) by decide)] at H;exact H
                   clear H
                   have H := H1
                   clear H1
                   have H' := aM_ H
                   clear H
                   have hnb70 := NB451_452.out
                   have hnc70 := NB452_451.out
                   have hcz71_0 : wr.cell? ⟨gb451,0,none⟩ = some (.int .i64 a2_0) := (blk_cell BK451.out 0).trans rfl
                   have hcz71_1 : wr.cell? ⟨gb451,1,none⟩ = some (.int .i64 a2_1) := (blk_cell BK451.out 1).trans rfl
                   have hfz71_0 := blk_frozen BK451.out 0
                   have hfz71_1 := blk_frozen BK451.out 1
                   go_wp2_with (first | ((with_reducible refine gate_callee (f := 55) rfl ?_);refine goesL_ (some 133) rfl rfl Try.func55 (by kernel_rfl) rfl #[.slice (some ad455) l0.length c0,.int .i64 a1,.int .i64 (wrap64 (x18_4 * ((rd_T49 l0 a1).f2))),.agg #[.int .i64 a2_0,.int .i64 a2_1]] rfl (by (try simp only [List.map_toArray,List.map_cons,List.map_nil]);first | done | rfl) ?_;(with_reducible refine (R_accepted.calls k4 _ _ l0 a1 (wrap64 (x18_4 * ((rd_T49 l0 a1).f2))) a2_0 a2_1 false t468 t469 _ ?side1 ?side2 A59.out).mono ?_);(case side1 => exact Kd.C_below HR0.out (lb_ HB));(case side2 => exact HC0.out);rintro e w72 ⟨rfl,hb⟩;refine ⟨_,rfl,?_⟩;have n0_ := aM_ (kB_ (g := gb451) (o := .cells #[.int .i64 a2_0,.int .i64 a2_1] 34 (0,0)) (by exact lk_ BK451) hb);have n1_ := aM_ (kB_ (g := gb452) (o := .cells #[.int .i64 0,.int .i64 0] 34 (0,0)) (by exact lk_ BK452) hb);have n2_ := aM_ (bT_ (by exact lb_ HB) hb);clear BK451;clear BK452;clear HB;have BK451 := n0_;have BK452 := n1_;have HB := n2_;clear n0_ n1_ n2_;(try clear hb);(try clear hb2);(try clear hk);(try clear hi)))
                   go_roundg k4
                   case measure => have := HK1.out;have := HK2.out;have := HJ47.out;have := HK4.out;omega
                   case rel => exact ⟨(wrap64 (x18_4 - 1)),(by first | rfl | (simp;done) | (simp [*];done)),H',⟨by have := HK1.out;have := HK2.out;have := HJ47.out;have := HK4.out;omega⟩,⟨by exact lk_ BK451⟩,⟨by exact lk_ BK452⟩,⟨by exact lb_ HB⟩⟩
                 ·rw [if_neg c58] at H
                  have c58b0 : decide (x11_47 ≤ x18_4) = false := decide_eq_false c58
                  clear c58
                  by_cases c73 : x11_47 > x18_4
                  ·rw [if_pos c73] at H
                   have c73b0 : decide (x18_4 < x11_47) = true := decide_eq_true c73
                   clear c73
                   simp only [Option.some.injEq,Prod.mk.injEq] at H
                   obtain ⟨rfl,rfl,rfl⟩ := H
                   have hnb74 := NB452_451.out
                   have hnc74 := NB451_452.out
                   have hcz75_0 : wr.cell? ⟨gb452,0,none⟩ = some (.int .i64 0) := (blk_cell BK452.out 0).trans rfl
                   have hcz75_1 : wr.cell? ⟨gb452,1,none⟩ = some (.int .i64 0) := (blk_cell BK452.out 1).trans rfl
                   have hfz75_0 := blk_frozen BK452.out 0
                   have hfz75_1 := blk_frozen BK452.out 1
                   go_wp2
                   refine bodyPost_ret (results_ct rfl _ _ gb452 34 #[.int .i64 0,.int .i64 0] (0,0) _ rfl (by (with_reducible repeat (first | refine kN_ ?_ _ | refine kD_ ?_ | refine kA_ ?_ _));refine blk_put (cs := #[.int .i64 0,.int .i64 0]) ?_ 1 _ rfl;(with_reducible repeat (first | refine kN_ ?_ _ | refine kD_ ?_ | refine kA_ ?_ _));refine blk_put (cs := #[.int .i64 0,.int .i64 0]) ?_ 0 _ rfl;exact lk_ BK452) Try.underlying34 rfl (by kernel_rfl)) rfl ?_
                   exact ⟨by first | rfl | (simp [*] <;> rfl),by exact lb_ HB⟩
                  ·rw [if_neg c73] at H
                   have c73b0 : decide (x18_4 < x11_47) = false := decide_eq_false c73
                   clear c73
                   simp only [Option.some.injEq,Prod.mk.injEq] at H
                   obtain ⟨rfl,rfl,rfl⟩ := H
                   have hnb76 := NB452_451.out
                   have hnc76 := NB451_452.out
                   have hcz77_0 : wr.cell? ⟨gb452,0,none⟩ = some (.int .i64 0) := (blk_cell BK452.out 0).trans rfl
                   have hcz77_1 : wr.cell? ⟨gb452,1,none⟩ = some (.int .i64 0) := (blk_cell BK452.out 1).trans rfl
                   have hfz77_0 := blk_frozen BK452.out 0
                   have hfz77_1 := blk_frozen BK452.out 1
                   go_wp2
                   refine bodyPost_ret (results_ct rfl _ _ gb452 34 #[.int .i64 (wrap64 (x11_47 * ((rd_T49 l0 a1).f2))),.int .i64 (wrap64 (x18_4 * ((rd_T49 l0 a1).f2)))] (0,0) _ rfl (by (with_reducible repeat (first | refine kN_ ?_ _ | refine kD_ ?_ | refine kA_ ?_ _));refine blk_put (cs := #[.int .i64 (wrap64 (x11_47 * ((rd_T49 l0 a1).f2))),.int .i64 0]) ?_ 1 _ rfl;(with_reducible repeat (first | refine kN_ ?_ _ | refine kD_ ?_ | refine kA_ ?_ _));refine blk_put (cs := #[.int .i64 0,.int .i64 0]) ?_ 0 _ rfl;exact lk_ BK452) Try.underlying34 rfl (by kernel_rfl)) rfl ?_
                   exact ⟨by first | rfl | (simp [*] <;> rfl),by exact lb_ HB⟩
     ·rw [if_neg c21] at H
      exact absurd H (by simp)
    ·rw [if_neg c20] at H
     exact absurd H (by simp)
 ·rw [if_neg c5] at H
  have c5b0 : (t453 == 0) = false := beq_eq_false_iff_ne.mpr c5
  have c5b1 : (t453 != 0) = true := bne_iff_ne.mpr c5
  simp only [Option.some.injEq,Prod.mk.injEq] at H
  obtain ⟨rfl,rfl,rfl⟩ := H
  go_enter Try.func23,Try.ntmps23
  go_wp2_with (first | ((with_reducible refine gate_dst (N := 5) rfl ?_);refine box_event ?hg (N := 5) ?hd (cs := #[.int .i64 a2_0,.int .i64 a2_1]) (t := 34) ?hr ?_;(case hd => rfl);(case hg => rfl);(case hr => first | (go_simp;done) | (go_simp;rfl));intro gb451 hg w78 hbox hb;have n0_ := aM_ (bT_ (by exact lb_ HB) hb);have n1_ := aM_ (hbox);have n2_ := aM_ ((by rw [hg];exact (below_size (by exact lb_ HB)) : w.heap.size ≤ gb451));have n3_ := aM_ ((by rw [hg];exact (below_size (by exact lb_ HB)) : w.heap.size ≤ gb451));clear HB;have HB := n0_;have BK451 := n1_;have GW451 := n2_;have GE451 := n3_;have := Ge_.mk n3_.out;clear n0_ n1_ n2_ n3_;clear hb hbox hg) | ((with_reducible refine gate_dst (N := 6) rfl ?_);refine box_event ?hg (N := 6) ?hd (cs := #[.int .i64 0,.int .i64 0]) (t := 34) ?hr ?_;(case hd => rfl);(case hg => rfl);(case hr => first | (go_simp;done) | (go_simp;rfl));intro gb452 hg w79 hbox hb;have n0_ := aM_ (kB_ (g := gb451) (o := .cells #[.int .i64 a2_0,.int .i64 a2_1] 34 (0,0)) (by exact lk_ BK451) hb);have n1_ := aM_ (bT_ (by exact lb_ HB) hb);have n2_ := aM_ (hbox);have n3_ := aM_ ((by rw [hg];exact (below_size (by exact lb_ HB)) : w.heap.size ≤ gb452));have n4_ := aM_ ((by rw [hg];exact (below_size (by exact lb_ HB)) : w.heap.size ≤ gb452));have n5_ := aM_ ((by rw [hg];exact Nat.ne_of_lt (blk_lt (g := gb451) (o := .cells #[.int .i64 a2_0,.int .i64 a2_1] 34 (0,0)) (by exact lk_ BK451)) : gb451 ≠ gb452));have n6_ := aM_ ((by rw [hg];exact Nat.ne_of_gt (blk_lt (g := gb451) (o := .cells #[.int .i64 a2_0,.int .i64 a2_1] 34 (0,0)) (by exact lk_ BK451)) : gb452 ≠ gb451));clear BK451;clear HB;have BK451 := n0_;have HB := n1_;have BK452 := n2_;have GW452 := n3_;have GE452 := n4_;have := Ge_.mk n4_.out;have NB451_452 := n5_;have NB452_451 := n6_;clear n0_ n1_ n2_ n3_ n4_ n5_ n6_;clear hb hbox hg) | ((with_reducible refine gate_callee (f := 48) rfl ?_);refine goesL_ (some 30) rfl rfl Try.func48 (by kernel_rfl) rfl #[.slice A0 l0.length c0] rfl (by (try simp only [List.map_toArray,List.map_cons,List.map_nil]);first | done | rfl) ?_;(with_reducible refine (R_Check.calls k _ _ l0 t453 _ ?side1 ?side2 A4.out).mono ?_);(case side1 => exact Kd.C_below HR0.out (lb_ HB));(case side2 => exact HC0.out);rintro e w80 ⟨rfl,hb⟩;refine ⟨_,rfl,?_⟩;have n0_ := aM_ (kB_ (g := gb451) (o := .cells #[.int .i64 a2_0,.int .i64 a2_1] 34 (0,0)) (by exact lk_ BK451) hb);have n1_ := aM_ (kB_ (g := gb452) (o := .cells #[.int .i64 0,.int .i64 0] 34 (0,0)) (by exact lk_ BK452) hb);have n2_ := aM_ (bT_ (by exact lb_ HB) hb);clear BK451;clear BK452;clear HB;have BK451 := n0_;have BK452 := n1_;have HB := n2_;clear n0_ n1_ n2_;(try clear hb);(try clear hb2);(try clear hk);(try clear hi);have hnb81 := NB452_451.out;have hnc81 := NB451_452.out;have hcz82_0 : w80.cell? ⟨gb452,0,none⟩ = some (.int .i64 0) := (blk_cell BK452.out 0).trans rfl;have hcz82_1 : w80.cell? ⟨gb452,1,none⟩ = some (.int .i64 0) := (blk_cell BK452.out 1).trans rfl;have hfz82_0 := blk_frozen BK452.out 0;have hfz82_1 := blk_frozen BK452.out 1))
  refine bodyPost_ret (results_ct rfl _ _ gb452 34 #[.int .i64 0,.int .i64 0] (0,0) _ rfl (by (with_reducible repeat (first | refine kN_ ?_ _ | refine kD_ ?_ | refine kA_ ?_ _));refine blk_put (cs := #[.int .i64 0,.int .i64 0]) ?_ 1 _ rfl;(with_reducible repeat (first | refine kN_ ?_ _ | refine kD_ ?_ | refine kA_ ?_ _));refine blk_put (cs := #[.int .i64 0,.int .i64 0]) ?_ 0 _ rfl;exact lk_ BK452) Try.underlying34 rfl (by kernel_rfl)) rfl ?_
  exact ⟨by first | rfl | (simp [*] <;> rfl),by exact lb_ HB⟩

end Go.Proofs.Ytdbpobadeibjaab.GS
