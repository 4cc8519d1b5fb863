-- written for this claim by a program of this session (wip/gp), over the kit's own printer; Lean checks it
import Derived.Test.YtdbpobadeibjaabGEx0
import Derived.Test.YtdbpobadeibjaabGEx10
import Derived.Test.YtdbpobadeibjaabGEx15
import Derived.Test.YtdbpobadeibjaabGEx16
namespace Go.Proofs.Ytdbpobadeibjaab.GE
open Go.RowKit Go.Proofs.YtdbpobadeibjaabW.PrintWords Go.Proofs.YtdbpobadeibjaabW.PrintLast Go.Proofs.YtdbpobadeibjaabW.PrintMore
attribute [local go_sem] max2_int min2_int max_two min_two max_three min_three max_four min_four
set_option linter.unusedVariables false
set_option linter.unusedSimpArgs false

/-! ### gauge_test: function 59 -/
def gauge_test.l0 : Nat → List (S49) → Int → List (S32) → List (S32) → Int → Int → Int → Int → Option (Int × Int)
 | 0,_,_,_,_,_,_,_,_ => none
 | k + 1,x0,x1,x3,x24,x25,x26,x336000,x336001 => if x26 < x25 then (if 0 ≤ x26 then (if x26 < (x24.length : Int) then ((gauge_outside.f ((rd_T32 x24 x26).f0) 0 (wrap64 ((x0.length : Int) - 1))).bind fun t338 => (if t338 = true then (some (0,7)) else (if 0 ≤ ((rd_T32 x24 x26).f0) then (if ((rd_T32 x24 x26).f0) < (x0.length : Int) then (if ((rd_T49 x0 ((rd_T32 x24 x26).f0)).f4) < x1 then (some (0,10)) else (gauge_test.l0 k x0 x1 x3 x24 x25 (wrap64 (x26 + 1)) x336000 x336001)) else (none)) else (none)))) else (none)) else (none)) else (if (x3.length : Int) = 0 then (some (3,0)) else ((gauge_Together.f k x0 x3).bind fun bt340 => (if bt340.2.2 = 0 then ((gauge_Verdict.f k bt340.1 bt340.2.1 x336000 x336001).bind fun t344 => (some (t344,0))) else (some (0,bt340.2.2)))))
def gauge_test.f (k : Nat) (l0 : List (S49)) (a1 : Int) (a2_0 : Int) (a2_1 : Int) (l3 : List (S32)) : Option (Int × Int) := if a2_0 > a2_1 then (some (0,11)) else (if (l3.length : Int) > 10 then (some (0,8)) else (gauge_test.l0 k l0 a1 l3 l3 (l3.length : Int) 0 a2_0 a2_1))
set_option maxHeartbeats 8000000 in
set_option maxRecDepth 100000 in
theorem gauge_test.calls (k : Nat) (A0 : Option Addr) (c0 : Nat) (l0 : List (S49)) (a1 : Int) (a2_0 : Int) (a2_1 : Int) (A3 : Option Addr) (c3 : Nat) (l3 : List (S32)) (r1 : Int) (r2 : Int) (w : World) (hr0 : Kd.C k49 w A0 l0.length l0) (hc0 : l0.length ≤ c0) (hr3 : Kd.C k32 w A3 l3.length l3) (hc3 : l3.length ≤ c3) (h : gauge_test.f k l0 a1 a2_0 a2_1 l3 = some (r1,r2)) :
  Calls Try.prog 59 #[.slice A0 l0.length c0,.int .i64 a1,.agg #[.int .i64 a2_0,.int .i64 a2_1],.slice A3 l3.length c3] w fun e w' => e = .returned (.tuple #[.int .i64 r1,.int .i64 r2]) ∧ Below w.heap.size w w' := by
 have hu34 := Try.underlying34
 have hu32 := Try.underlying32
 have HR0 := aM_ hr0
 have HC0 := aM_ hc0
 clear hr0 hc0
 have HR3 := aM_ hr3
 have HC3 := aM_ hc3
 clear hr3 hc3
 have HB := aM_ (Below.refl w.heap.size w)
 have H : (if a2_0 > a2_1 then (some (0,11)) else (if (l3.length : Int) > 10 then (some (0,8)) else (gauge_test.l0 k l0 a1 l3 l3 (l3.length : Int) 0 a2_0 a2_1))) = some (r1,r2) := h
 clear h
 by_cases c5 : a2_0 > a2_1
 ·rw [if_pos c5] at H
  have c5b0 : decide (a2_1 < a2_0) = true := decide_eq_true c5
  clear c5
  simp only [Option.some.injEq,Prod.mk.injEq] at H
  obtain ⟨rfl,rfl⟩ := H
  go_enter Try.func59,Try.ntmps59
  go_wp2_with (first | ((with_reducible refine gate_dst (N := 6) rfl ?_);refine box_event ?hg (N := 6) ?hd (cs := #[.int .i64 a2_0,.int .i64 a2_1]) (t := 34) ?hr ?_;(case hd => rfl);(case hg => rfl);(case hr => first | (go_simp;done) | (go_simp;rfl));intro gb335 hg w6 hbox hb;have n0_ := aM_ (bT_ (by repeat (first | (with_reducible first | exact HB.out | apply bA_ | apply bN_ | apply bD_) | exact HB.out)) hb);have n1_ := aM_ (hbox);have n2_ := aM_ ((by rw [hg];exact (below_size (by repeat (first | (with_reducible first | exact HB.out | apply bA_ | apply bN_ | apply bD_) | exact HB.out))) : w.heap.size ≤ gb335));have n3_ := aM_ ((by rw [hg];exact (below_size (by repeat (first | (with_reducible first | exact HB.out | apply bA_ | apply bN_ | apply bD_) | exact HB.out))) : w.heap.size ≤ gb335));clear HB;have HB := n0_;have BK335 := n1_;have GW335 := n2_;have GE335 := n3_;clear n0_ n1_ n2_ n3_;clear hb hbox hg;have hcz7_0 : w6.cell? ⟨gb335,0,none⟩ = some (.int .i64 a2_0) := (blk_cell BK335.out 0).trans rfl;have hcz7_1 : w6.cell? ⟨gb335,1,none⟩ = some (.int .i64 a2_1) := (blk_cell BK335.out 1).trans rfl;have hfz7_0 := blk_frozen BK335.out 0;have hfz7_1 := blk_frozen BK335.out 1))
  go_ret2
  exact ⟨by first | rfl | (simp [*] <;> rfl),by repeat (first | (with_reducible first | exact HB.out | apply bA_ | apply bN_ | apply bD_ | refine bS_ ?_ GE335.out) | exact HB.out)⟩
 ·rw [if_neg c5] at H
  have c5b0 : decide (a2_1 < a2_0) = false := decide_eq_false c5
  clear c5
  by_cases c8 : (l3.length : Int) > 10
  ·rw [if_pos c8] at H
   have c8b0 : decide (10 < (l3.length : Int)) = true := decide_eq_true c8
   have c8b1 : decide (10 < l3.length) = true := decide_eq_true (by omega)
   clear c8
   simp only [Option.some.injEq,Prod.mk.injEq] at H
   obtain ⟨rfl,rfl⟩ := H
   go_enter Try.func59,Try.ntmps59
   go_wp2_with (first | ((with_reducible refine gate_dst (N := 6) rfl ?_);refine box_event ?hg (N := 6) ?hd (cs := #[.int .i64 a2_0,.int .i64 a2_1]) (t := 34) ?hr ?_;(case hd => rfl);(case hg => rfl);(case hr => first | (go_simp;done) | (go_simp;rfl));intro gb335 hg w9 hbox hb;have n0_ := aM_ (bT_ (by repeat (first | (with_reducible first | exact HB.out | apply bA_ | apply bN_ | apply bD_) | exact HB.out)) hb);have n1_ := aM_ (hbox);have n2_ := aM_ ((by rw [hg];exact (below_size (by repeat (first | (with_reducible first | exact HB.out | apply bA_ | apply bN_ | apply bD_) | exact HB.out))) : w.heap.size ≤ gb335));have n3_ := aM_ ((by rw [hg];exact (below_size (by repeat (first | (with_reducible first | exact HB.out | apply bA_ | apply bN_ | apply bD_) | exact HB.out))) : w.heap.size ≤ gb335));clear HB;have HB := n0_;have BK335 := n1_;have GW335 := n2_;have GE335 := n3_;clear n0_ n1_ n2_ n3_;clear hb hbox hg;have hcz10_0 : w9.cell? ⟨gb335,0,none⟩ = some (.int .i64 a2_0) := (blk_cell BK335.out 0).trans rfl;have hcz10_1 : w9.cell? ⟨gb335,1,none⟩ = some (.int .i64 a2_1) := (blk_cell BK335.out 1).trans rfl;have hfz10_0 := blk_frozen BK335.out 0;have hfz10_1 := blk_frozen BK335.out 1))
   go_ret2
   exact ⟨by first | rfl | (simp [*] <;> rfl),by repeat (first | (with_reducible first | exact HB.out | apply bA_ | apply bN_ | apply bD_ | refine bS_ ?_ GE335.out) | exact HB.out)⟩
  ·rw [if_neg c8] at H
   have c8b0 : decide (10 < (l3.length : Int)) = false := decide_eq_false c8
   have c8b1 : decide (10 < l3.length) = false := decide_eq_false (by omega)
   clear c8
   have H' := aM_ H
   clear H
   go_enter Try.func59,Try.ntmps59
   go_wp2_with (first | ((with_reducible refine gate_dst (N := 6) rfl ?_);refine box_event ?hg (N := 6) ?hd (cs := #[.int .i64 a2_0,.int .i64 a2_1]) (t := 34) ?hr ?_;(case hd => rfl);(case hg => rfl);(case hr => first | (go_simp;done) | (go_simp;rfl));intro gb335 hg w11 hbox hb;have n0_ := aM_ (bT_ (by repeat (first | (with_reducible first | exact HB.out | apply bA_ | apply bN_ | apply bD_) | exact HB.out)) hb);have n1_ := aM_ (hbox);have n2_ := aM_ ((by rw [hg];exact (below_size (by repeat (first | (with_reducible first | exact HB.out | apply bA_ | apply bN_ | apply bD_) | exact HB.out))) : w.heap.size ≤ gb335));have n3_ := aM_ ((by rw [hg];exact (below_size (by repeat (first | (with_reducible first | exact HB.out | apply bA_ | apply bN_ | apply bD_) | exact HB.out))) : w.heap.size ≤ gb335));clear HB;have HB := n0_;have BK335 := n1_;have GW335 := n2_;have GE335 := n3_;clear n0_ n1_ n2_ n3_;clear hb hbox hg;have hcz12_0 : w11.cell? ⟨gb335,0,none⟩ = some (.int .i64 a2_0) := (blk_cell BK335.out 0).trans rfl;have hcz12_1 : w11.cell? ⟨gb335,1,none⟩ = some (.int .i64 a2_1) := (blk_cell BK335.out 1).trans rfl;have hfz12_0 := blk_frozen BK335.out 0;have hfz12_1 := blk_frozen BK335.out 1))
   go_loopg [26] k (fun kq v26 w' => ∃ (x26_1 : Int),v26 = .int .i64 x26_1 ∧ Aside0 (gauge_test.l0 kq l0 a1 l3 l3 (l3.length : Int) x26_1 a2_0 a2_1 = some (r1,r2)) ∧ Aside0 (kq ≤ k) ∧ Aside0 (w'.heap[gb335]? = some (.cells #[.int .i64 a2_0,.int .i64 a2_1] 34 (0,0))) ∧ Aside0 (Below w.heap.size w w'))
   case atStart => exact ⟨(0),(by first | rfl | (simp;done) | (simp [*];done)),H',⟨Nat.le_refl _⟩,⟨by (with_reducible repeat (first | refine kN_ ?_ _ | refine kD_ ?_ | refine kA_ ?_ _));exact BK335.out⟩,⟨by repeat (first | (with_reducible first | exact HB.out | apply bA_ | apply bN_ | apply bD_ | refine bS_ ?_ GE335.out) | exact HB.out)⟩⟩
   case round =>
    clear H'
    try clear p2
    try clear c3
    try clear c5
    try clear c5b0
    try clear c8
    try clear c8b0
    try clear c8b1
    try clear hcz10_0
    try clear hcz10_1
    try clear hcz12_0
    try clear hcz12_1
    try clear hcz7_0
    try clear hcz7_1
    try clear hfz10_0
    try clear hfz10_1
    try clear hfz12_0
    try clear hfz12_1
    try clear hfz7_0
    try clear hfz7_1
    obtain ⟨x26_1,rfl,HA,HK1,BK335,HB⟩ := hrel
    cases gk with
    | zero => exact absurd HA.out (by simp [gauge_test.l0])
    | succ k1 =>
     have H := HA.out
     clear HA
     simp only [gauge_test.l0] at H
     by_cases c13 : x26_1 < (l3.length : Int)
     ·rw [if_pos c13] at H
      have c13b0 : decide (x26_1 < (l3.length : Int)) = true := decide_eq_true c13
      clear c13
      by_cases c14 : 0 ≤ x26_1
      ·rw [if_pos c14] at H
       have c14b0 : decide (0 ≤ x26_1) = true := decide_eq_true c14
       clear c14
       by_cases c15 : x26_1 < (l3.length : Int)
       ·rw [if_pos c15] at H
        have c15b0 : decide (x26_1 < (l3.length : Int)) = true := decide_eq_true c15
        clear c15
        replace H := oB_ H
        obtain ⟨t338,A160,H⟩ := H
        replace H : (if t338 = true then (some (0,7)) else (if 0 ≤ ((rd_T32 l3 x26_1).f0) then (if ((rd_T32 l3 x26_1).f0) < (l0.length : Int) then (if ((rd_T49 l0 ((rd_T32 l3 x26_1).f0)).f4) < a1 then (some (0,10)) else (gauge_test.l0 k1 l0 a1 l3 l3 (l3.length : Int) (wrap64 (x26_1 + 1)) a2_0 a2_1)) else (none)) else (none))) = some (r1,r2) := H
        have A16 := aM_ A160
        clear A160
        by_cases c17 : t338 = true
        ·subst c17
         have H1 : (some (0,7)) = some (r1,r2) := by rw [if_pos rfl] at H;exact H
         clear H
         have H := H1
         clear H1
         simp only [Option.some.injEq,Prod.mk.injEq] at H
         obtain ⟨rfl,rfl⟩ := H
         have p336 : 0 ≤ (x26_1 : Int) := of_decide_eq_true (by first | (with_reducible assumption) | assumption)
         have q336 : x26_1 < (l3.length : Int) := of_decide_eq_true (by first | (with_reducible assumption) | assumption)
         obtain ⟨ad336,e336,hx336_0,hx336_1⟩ := at_T32 HR3.out x26_1 p336 q336
         cases e336
         replace hx336_0 := (HB.out.cell (World.block_lt_of_cell? w _ hx336_0)).trans hx336_0
         replace hx336_1 := (HB.out.cell (World.block_lt_of_cell? w _ hx336_1)).trans hx336_1
         replace p336 := eq_true p336
         replace q336 := eq_true q336
         go_wp2_with (first | ((with_reducible refine gate_dst (N := 11) rfl ?_);refine box_event ?hg (N := 11) ?hd (cs := #[.int .i64 0,.int .i64 0]) (t := 32) ?hr ?_;(case hd => rfl);(case hg => rfl);(case hr => first | (go_simp;done) | (go_simp;rfl));intro gb337 hg w18 hbox hb;have n0_ := aM_ (kB_ (g := gb335) (o := .cells #[.int .i64 a2_0,.int .i64 a2_1] 34 (0,0)) (by (with_reducible repeat (first | refine kN_ ?_ _ | refine kD_ ?_ | refine kA_ ?_ _));exact BK335.out) hb);have n1_ := aM_ (bT_ (by repeat (first | (with_reducible first | exact HB.out | apply bA_ | apply bN_ | apply bD_ | refine bS_ ?_ GE335.out) | exact HB.out)) hb);have n2_ := aM_ (hbox);have n3_ := aM_ ((by rw [hg];exact (below_size (by repeat (first | (with_reducible first | exact HB.out | apply bA_ | apply bN_ | apply bD_ | refine bS_ ?_ GE335.out) | exact HB.out))) : w.heap.size ≤ gb337));have n4_ := aM_ ((by rw [hg];exact (below_size (by repeat (first | (with_reducible first | exact HB.out | apply bA_ | apply bN_ | apply bD_ | refine bS_ ?_ GE335.out) | exact HB.out))) : w.heap.size ≤ gb337));have n5_ := aM_ ((by rw [hg];exact Nat.ne_of_lt (blk_lt (g := gb335) (o := .cells #[.int .i64 a2_0,.int .i64 a2_1] 34 (0,0)) (by (with_reducible repeat (first | refine kN_ ?_ _ | refine kD_ ?_ | refine kA_ ?_ _));exact BK335.out)) : gb335 ≠ gb337));have n6_ := aM_ ((by rw [hg];exact Nat.ne_of_gt (blk_lt (g := gb335) (o := .cells #[.int .i64 a2_0,.int .i64 a2_1] 34 (0,0)) (by (with_reducible repeat (first | refine kN_ ?_ _ | refine kD_ ?_ | refine kA_ ?_ _));exact BK335.out)) : gb337 ≠ gb335));clear BK335;clear HB;have BK335 := n0_;have HB := n1_;have BK337 := n2_;have GW337 := n3_;have GE337 := n4_;have NB335_337 := n5_;have NB337_335 := n6_;clear n0_ n1_ n2_ n3_ n4_ n5_ n6_;clear hb hbox hg;have hnb19 := NB337_335.out;have hnc19 := NB335_337.out;have hcz20_0 : w18.cell? ⟨gb337,0,none⟩ = some (.int .i64 0) := (blk_cell BK337.out 0).trans rfl;have hcz20_1 : w18.cell? ⟨gb337,1,none⟩ = some (.int .i64 0) := (blk_cell BK337.out 1).trans rfl;have hfz20_0 := blk_frozen BK337.out 0;have hfz20_1 := blk_frozen BK337.out 1) | ((with_reducible refine gate_callee (f := 44) rfl ?_);refine goesL_ (some 36) rfl rfl Try.func44 (by kernel_rfl) rfl #[.int .i64 ((rd_T32 l3 x26_1).f0),.int .i64 0,.int .i64 (wrap64 ((l0.length : Int) - 1))] rfl (by (try simp only [List.map_toArray,List.map_cons,List.map_nil]);first | done | rfl) ?_;(with_reducible refine (gauge_outside.calls ((rd_T32 l3 x26_1).f0) 0 (wrap64 ((l0.length : Int) - 1)) true _ A16.out).mono ?_);rintro e w' ⟨rfl,⟨nd,rfl⟩⟩;refine ⟨_,rfl,?_⟩))
         go_ret2
         exact ⟨by first | rfl | (simp [*] <;> rfl),by repeat (first | (with_reducible first | exact HB.out | apply bA_ | apply bN_ | apply bD_ | refine bS_ ?_ GE335.out | refine bS_ ?_ GE337.out) | exact HB.out)⟩
        ·replace c17 := Bool.eq_false_iff.mpr c17
         subst c17
         have H1 : (if 0 ≤ ((rd_T32 l3 x26_1).f0) then (if ((rd_T32 l3 x26_1).f0) < (l0.length : Int) then (if ((rd_T49 l0 ((rd_T32 l3 x26_1).f0)).f4) < a1 then (some (0,10)) else (gauge_test.l0 k1 l0 a1 l3 l3 (l3.length : Int) (wrap64 (x26_1 + 1)) a2_0 a2_1)) else (none)) else (none)) = some (r1,r2) := by rw [if_neg (show ¬ (false = true) by decide)] at H;exact H
         clear H
         have H := H1
         clear H1
         by_cases c21 : 0 ≤ ((rd_T32 l3 x26_1).f0)
         ·rw [if_pos c21] at H
          have c21b0 : decide (0 ≤ ((rd_T32 l3 x26_1).f0)) = true := decide_eq_true c21
          clear c21
          by_cases c22 : ((rd_T32 l3 x26_1).f0) < (l0.length : Int)
          ·rw [if_pos c22] at H
           have c22b0 : decide (((rd_T32 l3 x26_1).f0) < (l0.length : Int)) = true := decide_eq_true c22
           clear c22
           by_cases c23 : ((rd_T49 l0 ((rd_T32 l3 x26_1).f0)).f4) < a1
           ·rw [if_pos c23] at H
            have c23b0 : decide (((rd_T49 l0 ((rd_T32 l3 x26_1).f0)).f4) < a1) = true := decide_eq_true c23
            clear c23
            simp only [Option.some.injEq,Prod.mk.injEq] at H
            obtain ⟨rfl,rfl⟩ := H
            have p336 : 0 ≤ (x26_1 : Int) := of_decide_eq_true (by first | (with_reducible assumption) | assumption)
            have q336 : x26_1 < (l3.length : Int) := of_decide_eq_true (by first | (with_reducible assumption) | assumption)
            obtain ⟨ad336,e336,hx336_0,hx336_1⟩ := at_T32 HR3.out x26_1 p336 q336
            cases e336
            replace hx336_0 := (HB.out.cell (World.block_lt_of_cell? w _ hx336_0)).trans hx336_0
            replace hx336_1 := (HB.out.cell (World.block_lt_of_cell? w _ hx336_1)).trans hx336_1
            replace p336 := eq_true p336
            replace q336 := eq_true q336
            go_wp2_with (first | ((with_reducible refine gate_dst (N := 11) rfl ?_);refine box_event ?hg (N := 11) ?hd (cs := #[.int .i64 0,.int .i64 0]) (t := 32) ?hr ?_;(case hd => rfl);(case hg => rfl);(case hr => first | (go_simp;done) | (go_simp;rfl));intro gb337 hg w24 hbox hb;have n0_ := aM_ (kB_ (g := gb335) (o := .cells #[.int .i64 a2_0,.int .i64 a2_1] 34 (0,0)) (by (with_reducible repeat (first | refine kN_ ?_ _ | refine kD_ ?_ | refine kA_ ?_ _));exact BK335.out) hb);have n1_ := aM_ (bT_ (by repeat (first | (with_reducible first | exact HB.out | apply bA_ | apply bN_ | apply bD_ | refine bS_ ?_ GE335.out) | exact HB.out)) hb);have n2_ := aM_ (hbox);have n3_ := aM_ ((by rw [hg];exact (below_size (by repeat (first | (with_reducible first | exact HB.out | apply bA_ | apply bN_ | apply bD_ | refine bS_ ?_ GE335.out) | exact HB.out))) : w.heap.size ≤ gb337));have n4_ := aM_ ((by rw [hg];exact (below_size (by repeat (first | (with_reducible first | exact HB.out | apply bA_ | apply bN_ | apply bD_ | refine bS_ ?_ GE335.out) | exact HB.out))) : w.heap.size ≤ gb337));have n5_ := aM_ ((by rw [hg];exact Nat.ne_of_lt (blk_lt (g := gb335) (o := .cells #[.int .i64 a2_0,.int .i64 a2_1] 34 (0,0)) (by (with_reducible repeat (first | refine kN_ ?_ _ | refine kD_ ?_ | refine kA_ ?_ _));exact BK335.out)) : gb335 ≠ gb337));have n6_ := aM_ ((by rw [hg];exact Nat.ne_of_gt (blk_lt (g := gb335) (o := .cells #[.int .i64 a2_0,.int .i64 a2_1] 34 (0,0)) (by (with_reducible repeat (first | refine kN_ ?_ _ | refine kD_ ?_ | refine kA_ ?_ _));exact BK335.out)) : gb337 ≠ gb335));clear BK335;clear HB;have BK335 := n0_;have HB := n1_;have BK337 := n2_;have GW337 := n3_;have GE337 := n4_;have NB335_337 := n5_;have NB337_335 := n6_;clear n0_ n1_ n2_ n3_ n4_ n5_ n6_;clear hb hbox hg;have hnb25 := NB337_335.out;have hnc25 := NB335_337.out;have hcz26_0 : w24.cell? ⟨gb337,0,none⟩ = some (.int .i64 0) := (blk_cell BK337.out 0).trans rfl;have hcz26_1 : w24.cell? ⟨gb337,1,none⟩ = some (.int .i64 0) := (blk_cell BK337.out 1).trans rfl;have hfz26_0 := blk_frozen BK337.out 0;have hfz26_1 := blk_frozen BK337.out 1) | ((with_reducible refine gate_callee (f := 44) rfl ?_);refine goesL_ (some 36) rfl rfl Try.func44 (by kernel_rfl) rfl #[.int .i64 ((rd_T32 l3 x26_1).f0),.int .i64 0,.int .i64 (wrap64 ((l0.length : Int) - 1))] rfl (by (try simp only [List.map_toArray,List.map_cons,List.map_nil]);first | done | rfl) ?_;(with_reducible refine (gauge_outside.calls ((rd_T32 l3 x26_1).f0) 0 (wrap64 ((l0.length : Int) - 1)) false _ A16.out).mono ?_);rintro e w' ⟨rfl,⟨nd,rfl⟩⟩;refine ⟨_,rfl,?_⟩;have p339 : 0 ≤ (((rd_T32 l3 x26_1).f0) : Int) := of_decide_eq_true (by first | (with_reducible assumption) | assumption);have q339 : ((rd_T32 l3 x26_1).f0) < (l0.length : Int) := of_decide_eq_true (by first | (with_reducible assumption) | assumption);obtain ⟨ad339,e339,hx339_0,hx339_1,hx339_2,hx339_3,hx339_4,hx339_5,hx339_6⟩ := at_T49 HR0.out ((rd_T32 l3 x26_1).f0) p339 q339;cases e339;have hn339_0 : ad339.block ≠ gb337 := Nat.ne_of_lt (Nat.lt_of_lt_of_le (by have := World.block_lt_of_cell? _ _ hx339_0;first | rwa [add_block] at this | exact this) GW337.out);have hn339_1 : ad339.block ≠ gb337 := Nat.ne_of_lt (Nat.lt_of_lt_of_le (by have := World.block_lt_of_cell? _ _ hx339_0;first | rwa [add_block] at this | exact this) GW337.out);replace hx339_0 := (HB.out.cell (World.block_lt_of_cell? w _ hx339_0)).trans hx339_0;replace hx339_1 := (HB.out.cell (World.block_lt_of_cell? w _ hx339_1)).trans hx339_1;replace hx339_2 := (HB.out.cell (World.block_lt_of_cell? w _ hx339_2)).trans hx339_2;replace hx339_3 := (HB.out.cell (World.block_lt_of_cell? w _ hx339_3)).trans hx339_3;replace hx339_4 := (HB.out.cell (World.block_lt_of_cell? w _ hx339_4)).trans hx339_4;replace hx339_5 := (HB.out.cell (World.block_lt_of_cell? w _ hx339_5)).trans hx339_5;replace hx339_6 := (HB.out.cell (World.block_lt_of_cell? w _ hx339_6)).trans hx339_6;replace hx339_0 := (cell_far (p := ⟨gb337,0,none⟩) (by first | (rw [add_block];exact hn339_0) | (show (Addr.add _ _).block ≠ _;rw [add_block];exact hn339_0) | exact hn339_0) (.int .i64 ((rd_T32 l3 x26_1).f0))).trans hx339_0;replace hx339_1 := (cell_far (p := ⟨gb337,0,none⟩) (by first | (rw [add_block];exact hn339_0) | (show (Addr.add _ _).block ≠ _;rw [add_block];exact hn339_0) | exact hn339_0) (.int .i64 ((rd_T32 l3 x26_1).f0))).trans hx339_1;replace hx339_2 := (cell_far (p := ⟨gb337,0,none⟩) (by first | (rw [add_block];exact hn339_0) | (show (Addr.add _ _).block ≠ _;rw [add_block];exact hn339_0) | exact hn339_0) (.int .i64 ((rd_T32 l3 x26_1).f0))).trans hx339_2;replace hx339_3 := (cell_far (p := ⟨gb337,0,none⟩) (by first | (rw [add_block];exact hn339_0) | (show (Addr.add _ _).block ≠ _;rw [add_block];exact hn339_0) | exact hn339_0) (.int .i64 ((rd_T32 l3 x26_1).f0))).trans hx339_3;replace hx339_4 := (cell_far (p := ⟨gb337,0,none⟩) (by first | (rw [add_block];exact hn339_0) | (show (Addr.add _ _).block ≠ _;rw [add_block];exact hn339_0) | exact hn339_0) (.int .i64 ((rd_T32 l3 x26_1).f0))).trans hx339_4;replace hx339_5 := (cell_far (p := ⟨gb337,0,none⟩) (by first | (rw [add_block];exact hn339_0) | (show (Addr.add _ _).block ≠ _;rw [add_block];exact hn339_0) | exact hn339_0) (.int .i64 ((rd_T32 l3 x26_1).f0))).trans hx339_5;replace hx339_6 := (cell_far (p := ⟨gb337,0,none⟩) (by first | (rw [add_block];exact hn339_0) | (show (Addr.add _ _).block ≠ _;rw [add_block];exact hn339_0) | exact hn339_0) (.int .i64 ((rd_T32 l3 x26_1).f0))).trans hx339_6;replace hx339_0 := (cell_far (p := ⟨gb337,1,none⟩) (by first | (rw [add_block];exact hn339_1) | (show (Addr.add _ _).block ≠ _;rw [add_block];exact hn339_1) | exact hn339_1) (.int .i64 ((rd_T32 l3 x26_1).f1))).trans hx339_0;replace hx339_1 := (cell_far (p := ⟨gb337,1,none⟩) (by first | (rw [add_block];exact hn339_1) | (show (Addr.add _ _).block ≠ _;rw [add_block];exact hn339_1) | exact hn339_1) (.int .i64 ((rd_T32 l3 x26_1).f1))).trans hx339_1;replace hx339_2 := (cell_far (p := ⟨gb337,1,none⟩) (by first | (rw [add_block];exact hn339_1) | (show (Addr.add _ _).block ≠ _;rw [add_block];exact hn339_1) | exact hn339_1) (.int .i64 ((rd_T32 l3 x26_1).f1))).trans hx339_2;replace hx339_3 := (cell_far (p := ⟨gb337,1,none⟩) (by first | (rw [add_block];exact hn339_1) | (show (Addr.add _ _).block ≠ _;rw [add_block];exact hn339_1) | exact hn339_1) (.int .i64 ((rd_T32 l3 x26_1).f1))).trans hx339_3;replace hx339_4 := (cell_far (p := ⟨gb337,1,none⟩) (by first | (rw [add_block];exact hn339_1) | (show (Addr.add _ _).block ≠ _;rw [add_block];exact hn339_1) | exact hn339_1) (.int .i64 ((rd_T32 l3 x26_1).f1))).trans hx339_4;replace hx339_5 := (cell_far (p := ⟨gb337,1,none⟩) (by first | (rw [add_block];exact hn339_1) | (show (Addr.add _ _).block ≠ _;rw [add_block];exact hn339_1) | exact hn339_1) (.int .i64 ((rd_T32 l3 x26_1).f1))).trans hx339_5;replace hx339_6 := (cell_far (p := ⟨gb337,1,none⟩) (by first | (rw [add_block];exact hn339_1) | (show (Addr.add _ _).block ≠ _;rw [add_block];exact hn339_1) | exact hn339_1) (.int .i64 ((rd_T32 l3 x26_1).f1))).trans hx339_6;clear hn339_0;clear hn339_1;replace p339 := eq_true p339;replace q339 := eq_true q339))
            go_ret2
            exact ⟨by first | rfl | (simp [*] <;> rfl),by repeat (first | (with_reducible first | exact HB.out | apply bA_ | apply bN_ | apply bD_ | refine bS_ ?_ GE335.out | refine bS_ ?_ GE337.out) | exact HB.out)⟩
           ·rw [if_neg c23] at H
            have c23b0 : decide (((rd_T49 l0 ((rd_T32 l3 x26_1).f0)).f4) < a1) = false := decide_eq_false c23
            clear c23
            have H' := aM_ H
            clear H
            have p336 : 0 ≤ (x26_1 : Int) := of_decide_eq_true (by first | (with_reducible assumption) | assumption)
            have q336 : x26_1 < (l3.length : Int) := of_decide_eq_true (by first | (with_reducible assumption) | assumption)
            obtain ⟨ad336,e336,hx336_0,hx336_1⟩ := at_T32 HR3.out x26_1 p336 q336
            cases e336
            replace hx336_0 := (HB.out.cell (World.block_lt_of_cell? w _ hx336_0)).trans hx336_0
            replace hx336_1 := (HB.out.cell (World.block_lt_of_cell? w _ hx336_1)).trans hx336_1
            replace p336 := eq_true p336
            replace q336 := eq_true q336
            go_wp2_with (first | ((with_reducible refine gate_dst (N := 11) rfl ?_);refine box_event ?hg (N := 11) ?hd (cs := #[.int .i64 0,.int .i64 0]) (t := 32) ?hr ?_;(case hd => rfl);(case hg => rfl);(case hr => first | (go_simp;done) | (go_simp;rfl));intro gb337 hg w27 hbox hb;have n0_ := aM_ (kB_ (g := gb335) (o := .cells #[.int .i64 a2_0,.int .i64 a2_1] 34 (0,0)) (by (with_reducible repeat (first | refine kN_ ?_ _ | refine kD_ ?_ | refine kA_ ?_ _));exact BK335.out) hb);have n1_ := aM_ (bT_ (by repeat (first | (with_reducible first | exact HB.out | apply bA_ | apply bN_ | apply bD_ | refine bS_ ?_ GE335.out) | exact HB.out)) hb);have n2_ := aM_ (hbox);have n3_ := aM_ ((by rw [hg];exact (below_size (by repeat (first | (with_reducible first | exact HB.out | apply bA_ | apply bN_ | apply bD_ | refine bS_ ?_ GE335.out) | exact HB.out))) : w.heap.size ≤ gb337));have n4_ := aM_ ((by rw [hg];exact (below_size (by repeat (first | (with_reducible first | exact HB.out | apply bA_ | apply bN_ | apply bD_ | refine bS_ ?_ GE335.out) | exact HB.out))) : w.heap.size ≤ gb337));have n5_ := aM_ ((by rw [hg];exact Nat.ne_of_lt (blk_lt (g := gb335) (o := .cells #[.int .i64 a2_0,.int .i64 a2_1] 34 (0,0)) (by (with_reducible repeat (first | refine kN_ ?_ _ | refine kD_ ?_ | refine kA_ ?_ _));exact BK335.out)) : gb335 ≠ gb337));have n6_ := aM_ ((by rw [hg];exact Nat.ne_of_gt (blk_lt (g := gb335) (o := .cells #[.int .i64 a2_0,.int .i64 a2_1] 34 (0,0)) (by (with_reducible repeat (first | refine kN_ ?_ _ | refine kD_ ?_ | refine kA_ ?_ _));exact BK335.out)) : gb337 ≠ gb335));clear BK335;clear HB;have BK335 := n0_;have HB := n1_;have BK337 := n2_;have GW337 := n3_;have GE337 := n4_;have NB335_337 := n5_;have NB337_335 := n6_;clear n0_ n1_ n2_ n3_ n4_ n5_ n6_;clear hb hbox hg;have hnb28 := NB337_335.out;have hnc28 := NB335_337.out;have hcz29_0 : w27.cell? ⟨gb337,0,none⟩ = some (.int .i64 0) := (blk_cell BK337.out 0).trans rfl;have hcz29_1 : w27.cell? ⟨gb337,1,none⟩ = some (.int .i64 0) := (blk_cell BK337.out 1).trans rfl;have hfz29_0 := blk_frozen BK337.out 0;have hfz29_1 := blk_frozen BK337.out 1) | ((with_reducible refine gate_callee (f := 44) rfl ?_);refine goesL_ (some 36) rfl rfl Try.func44 (by kernel_rfl) rfl #[.int .i64 ((rd_T32 l3 x26_1).f0),.int .i64 0,.int .i64 (wrap64 ((l0.length : Int) - 1))] rfl (by (try simp only [List.map_toArray,List.map_cons,List.map_nil]);first | done | rfl) ?_;(with_reducible refine (gauge_outside.calls ((rd_T32 l3 x26_1).f0) 0 (wrap64 ((l0.length : Int) - 1)) false _ A16.out).mono ?_);rintro e w' ⟨rfl,⟨nd,rfl⟩⟩;refine ⟨_,rfl,?_⟩;have p339 : 0 ≤ (((rd_T32 l3 x26_1).f0) : Int) := of_decide_eq_true (by first | (with_reducible assumption) | assumption);have q339 : ((rd_T32 l3 x26_1).f0) < (l0.length : Int) := of_decide_eq_true (by first | (with_reducible assumption) | assumption);obtain ⟨ad339,e339,hx339_0,hx339_1,hx339_2,hx339_3,hx339_4,hx339_5,hx339_6⟩ := at_T49 HR0.out ((rd_T32 l3 x26_1).f0) p339 q339;cases e339;have hn339_0 : ad339.block ≠ gb337 := Nat.ne_of_lt (Nat.lt_of_lt_of_le (by have := World.block_lt_of_cell? _ _ hx339_0;first | rwa [add_block] at this | exact this) GW337.out);have hn339_1 : ad339.block ≠ gb337 := Nat.ne_of_lt (Nat.lt_of_lt_of_le (by have := World.block_lt_of_cell? _ _ hx339_0;first | rwa [add_block] at this | exact this) GW337.out);replace hx339_0 := (HB.out.cell (World.block_lt_of_cell? w _ hx339_0)).trans hx339_0;replace hx339_1 := (HB.out.cell (World.block_lt_of_cell? w _ hx339_1)).trans hx339_1;replace hx339_2 := (HB.out.cell (World.block_lt_of_cell? w _ hx339_2)).trans hx339_2;replace hx339_3 := (HB.out.cell (World.block_lt_of_cell? w _ hx339_3)).trans hx339_3;replace hx339_4 := (HB.out.cell (World.block_lt_of_cell? w _ hx339_4)).trans hx339_4;replace hx339_5 := (HB.out.cell (World.block_lt_of_cell? w _ hx339_5)).trans hx339_5;replace hx339_6 := (HB.out.cell (World.block_lt_of_cell? w _ hx339_6)).trans hx339_6;replace hx339_0 := (cell_far (p := ⟨gb337,0,none⟩) (by first | (rw [add_block];exact hn339_0) | (show (Addr.add _ _).block ≠ _;rw [add_block];exact hn339_0) | exact hn339_0) (.int .i64 ((rd_T32 l3 x26_1).f0))).trans hx339_0;replace hx339_1 := (cell_far (p := ⟨gb337,0,none⟩) (by first | (rw [add_block];exact hn339_0) | (show (Addr.add _ _).block ≠ _;rw [add_block];exact hn339_0) | exact hn339_0) (.int .i64 ((rd_T32 l3 x26_1).f0))).trans hx339_1;replace hx339_2 := (cell_far (p := ⟨gb337,0,none⟩) (by first | (rw [add_block];exact hn339_0) | (show (Addr.add _ _).block ≠ _;rw [add_block];exact hn339_0) | exact hn339_0) (.int .i64 ((rd_T32 l3 x26_1).f0))).trans hx339_2;replace hx339_3 := (cell_far (p := ⟨gb337,0,none⟩) (by first | (rw [add_block];exact hn339_0) | (show (Addr.add _ _).block ≠ _;rw [add_block];exact hn339_0) | exact hn339_0) (.int .i64 ((rd_T32 l3 x26_1).f0))).trans hx339_3;replace hx339_4 := (cell_far (p := ⟨gb337,0,none⟩) (by first | (rw [add_block];exact hn339_0) | (show (Addr.add _ _).block ≠ _;rw [add_block];exact hn339_0) | exact hn339_0) (.int .i64 ((rd_T32 l3 x26_1).f0))).trans hx339_4;replace hx339_5 := (cell_far (p := ⟨gb337,0,none⟩) (by first | (rw [add_block];exact hn339_0) | (show (Addr.add _ _).block ≠ _;rw [add_block];exact hn339_0) | exact hn339_0) (.int .i64 ((rd_T32 l3 x26_1).f0))).trans hx339_5;replace hx339_6 := (cell_far (p := ⟨gb337,0,none⟩) (by first | (rw [add_block];exact hn339_0) | (show (Addr.add _ _).block ≠ _;rw [add_block];exact hn339_0) | exact hn339_0) (.int .i64 ((rd_T32 l3 x26_1).f0))).trans hx339_6;replace hx339_0 := (cell_far (p := ⟨gb337,1,none⟩) (by first | (rw [add_block];exact hn339_1) | (show (Addr.add _ _).block ≠ _;rw [add_block];exact hn339_1) | exact hn339_1) (.int .i64 ((rd_T32 l3 x26_1).f1))).trans hx339_0;replace hx339_1 := (cell_far (p := ⟨gb337,1,none⟩) (by first | (rw [add_block];exact hn339_1) | (show (Addr.add _ _).block ≠ _;rw [add_block];exact hn339_1) | exact hn339_1) (.int .i64 ((rd_T32 l3 x26_1).f1))).trans hx339_1;replace hx339_2 := (cell_far (p := ⟨gb337,1,none⟩) (by first | (rw [add_block];exact hn339_1) | (show (Addr.add _ _).block ≠ _;rw [add_block];exact hn339_1) | exact hn339_1) (.int .i64 ((rd_T32 l3 x26_1).f1))).trans hx339_2;replace hx339_3 := (cell_far (p := ⟨gb337,1,none⟩) (by first | (rw [add_block];exact hn339_1) | (show (Addr.add _ _).block ≠ _;rw [add_block];exact hn339_1) | exact hn339_1) (.int .i64 ((rd_T32 l3 x26_1).f1))).trans hx339_3;replace hx339_4 := (cell_far (p := ⟨gb337,1,none⟩) (by first | (rw [add_block];exact hn339_1) | (show (Addr.add _ _).block ≠ _;rw [add_block];exact hn339_1) | exact hn339_1) (.int .i64 ((rd_T32 l3 x26_1).f1))).trans hx339_4;replace hx339_5 := (cell_far (p := ⟨gb337,1,none⟩) (by first | (rw [add_block];exact hn339_1) | (show (Addr.add _ _).block ≠ _;rw [add_block];exact hn339_1) | exact hn339_1) (.int .i64 ((rd_T32 l3 x26_1).f1))).trans hx339_5;replace hx339_6 := (cell_far (p := ⟨gb337,1,none⟩) (by first | (rw [add_block];exact hn339_1) | (show (Addr.add _ _).block ≠ _;rw [add_block];exact hn339_1) | exact hn339_1) (.int .i64 ((rd_T32 l3 x26_1).f1))).trans hx339_6;clear hn339_0;clear hn339_1;replace p339 := eq_true p339;replace q339 := eq_true q339))
            go_roundg k1
            case measure => have := HK1.out;omega
            case rel => exact ⟨(wrap64 (x26_1 + 1)),(by first | rfl | (simp;done) | (simp [*];done)),H',⟨by have := HK1.out;omega⟩,⟨by (with_reducible repeat (first | refine kN_ ?_ _ | refine kD_ ?_ | refine kA_ ?_ _));refine blk_far ?_ NB335_337.out _;(with_reducible repeat (first | refine kN_ ?_ _ | refine kD_ ?_ | refine kA_ ?_ _));refine blk_far ?_ NB335_337.out _;(with_reducible repeat (first | refine kN_ ?_ _ | refine kD_ ?_ | refine kA_ ?_ _));exact BK335.out⟩,⟨by repeat (first | (with_reducible first | exact HB.out | apply bA_ | apply bN_ | apply bD_ | refine bS_ ?_ GE335.out | refine bS_ ?_ GE337.out) | exact HB.out)⟩⟩
          ·rw [if_neg c22] at H
           exact absurd H (by simp)
         ·rw [if_neg c21] at H
          exact absurd H (by simp)
       ·rw [if_neg c15] at H
        exact absurd H (by simp)
      ·rw [if_neg c14] at H
       exact absurd H (by simp)
     ·rw [if_neg c13] at H
      have c13b0 : decide (x26_1 < (l3.length : Int)) = false := decide_eq_false c13
      clear c13
      by_cases c30 : (l3.length : Int) = 0
      ·rw [if_pos c30] at H
       have c30b0 : ((l3.length : Int) == 0) = true := beq_iff_eq.mpr c30
       have c30b1 : ((l3.length : Int) != 0) = false := bne_eq_false_iff_eq.mpr c30
       clear c30
       simp only [Option.some.injEq,Prod.mk.injEq] at H
       obtain ⟨rfl,rfl⟩ := H
       go_wp2
       go_ret2
       exact ⟨by first | rfl | (simp [*] <;> rfl),by repeat (first | (with_reducible first | exact HB.out | apply bA_ | apply bN_ | apply bD_ | refine bS_ ?_ GE335.out) | exact HB.out)⟩
      ·rw [if_neg c30] at H
       have c30b0 : ((l3.length : Int) == 0) = false := beq_eq_false_iff_ne.mpr c30
       have c30b1 : ((l3.length : Int) != 0) = true := bne_iff_ne.mpr c30
       have c30b2 : ¬ (l3 = []) := fun h_ => c30 (by rw [h_];rfl)
       replace H := oB_ H
       obtain ⟨⟨t340,t341,t342⟩,A310,H⟩ := H
       replace H : (if t342 = 0 then ((gauge_Verdict.f k1 t340 t341 a2_0 a2_1).bind fun t344 => (some (t344,0))) else (some (0,t342))) = some (r1,r2) := H
       have A31 := aM_ A310
       clear A310
       by_cases c32 : t342 = 0
       ·rw [if_pos c32] at H
        have c32b0 : (t342 == 0) = true := beq_iff_eq.mpr c32
        have c32b1 : (t342 != 0) = false := bne_eq_false_iff_eq.mpr c32
        clear c32
        replace H := oB_ H
        obtain ⟨t344,A330,H⟩ := H
        replace H : (some (t344,0)) = some (r1,r2) := H
        have A33 := aM_ A330
        clear A330
        simp only [Option.some.injEq,Prod.mk.injEq] at H
        obtain ⟨rfl,rfl⟩ := H
        go_wp2_with (first | ((with_reducible refine gate_callee (f := 15) rfl ?_);refine goesL_ (some 53) rfl rfl Try.func15 (by kernel_rfl) rfl #[.slice A0 l0.length c0,.slice A3 l3.length c3] rfl (by (try simp only [List.map_toArray,List.map_cons,List.map_nil]);first | done | rfl) ?_;(with_reducible refine (gauge_Together.calls k1 _ _ l0 _ _ l3 t340 t341 t342 _ ?side1 ?side2 ?side3 ?side4 A31.out).mono ?_);(case side1 => repeat (first | exact (Kd.C_below HR0.out HB.out) | (with_reducible refine Kd.C_alloc ?_ _) | (with_reducible refine Kd.C_drewN ?_ _) | (with_reducible refine Kd.C_drew ?_)));(case side2 => exact HC0.out);(case side3 => repeat (first | exact (Kd.C_below HR3.out HB.out) | (with_reducible refine Kd.C_alloc ?_ _) | (with_reducible refine Kd.C_drewN ?_ _) | (with_reducible refine Kd.C_drew ?_)));(case side4 => exact HC3.out);rintro e w34 ⟨rfl,hb⟩;refine ⟨_,rfl,?_⟩;have n0_ := aM_ (kB_ (g := gb335) (o := .cells #[.int .i64 a2_0,.int .i64 a2_1] 34 (0,0)) (by (with_reducible repeat (first | refine kN_ ?_ _ | refine kD_ ?_ | refine kA_ ?_ _));exact BK335.out) hb);have n1_ := aM_ (bT_ (by repeat (first | (with_reducible first | exact HB.out | apply bA_ | apply bN_ | apply bD_ | refine bS_ ?_ GE335.out) | exact HB.out)) hb);clear BK335;clear HB;have BK335 := n0_;have HB := n1_;clear n0_ n1_;(try clear hb);(try clear hb2);(try clear hk);(try clear hi)) | ((with_reducible refine gate_dst (N := 12) rfl ?_);refine box_event ?hg (N := 12) ?hd (cs := #[.int .i64 0,.int .i64 0]) (t := 34) ?hr ?_;(case hd => rfl);(case hg => rfl);(case hr => first | (go_simp;done) | (go_simp;rfl));intro gb343 hg w35 hbox hb;have n0_ := aM_ (kB_ (g := gb335) (o := .cells #[.int .i64 a2_0,.int .i64 a2_1] 34 (0,0)) (by (with_reducible repeat (first | refine kN_ ?_ _ | refine kD_ ?_ | refine kA_ ?_ _));exact BK335.out) hb);have n1_ := aM_ (bT_ (by repeat (first | (with_reducible first | exact HB.out | apply bA_ | apply bN_ | apply bD_ | refine bS_ ?_ GE335.out) | exact HB.out)) hb);have n2_ := aM_ (hbox);have n3_ := aM_ ((by rw [hg];exact (below_size (by repeat (first | (with_reducible first | exact HB.out | apply bA_ | apply bN_ | apply bD_ | refine bS_ ?_ GE335.out) | exact HB.out))) : w.heap.size ≤ gb343));have n4_ := aM_ ((by rw [hg];exact (below_size (by repeat (first | (with_reducible first | exact HB.out | apply bA_ | apply bN_ | apply bD_ | refine bS_ ?_ GE335.out) | exact HB.out))) : w.heap.size ≤ gb343));have n5_ := aM_ ((by rw [hg];exact Nat.ne_of_lt (blk_lt (g := gb335) (o := .cells #[.int .i64 a2_0,.int .i64 a2_1] 34 (0,0)) (by (with_reducible repeat (first | refine kN_ ?_ _ | refine kD_ ?_ | refine kA_ ?_ _));exact BK335.out)) : gb335 ≠ gb343));have n6_ := aM_ ((by rw [hg];exact Nat.ne_of_gt (blk_lt (g := gb335) (o := .cells #[.int .i64 a2_0,.int .i64 a2_1] 34 (0,0)) (by (with_reducible repeat (first | refine kN_ ?_ _ | refine kD_ ?_ | refine kA_ ?_ _));exact BK335.out)) : gb343 ≠ gb335));clear BK335;clear HB;have BK335 := n0_;have HB := n1_;have BK343 := n2_;have GW343 := n3_;have GE343 := n4_;have NB335_343 := n5_;have NB343_335 := n6_;clear n0_ n1_ n2_ n3_ n4_ n5_ n6_;clear hb hbox hg;have hnb36 := NB343_335.out;have hnc36 := NB335_343.out;have hcz37_0 : w35.cell? ⟨gb343,0,none⟩ = some (.int .i64 0) := (blk_cell BK343.out 0).trans rfl;have hcz37_1 : w35.cell? ⟨gb343,1,none⟩ = some (.int .i64 0) := (blk_cell BK343.out 1).trans rfl;have hfz37_0 := blk_frozen BK343.out 0;have hfz37_1 := blk_frozen BK343.out 1;have hcz38_0 : w35.cell? ⟨gb335,0,none⟩ = some (.int .i64 a2_0) := (blk_cell BK335.out 0).trans rfl;have hcz38_1 : w35.cell? ⟨gb335,1,none⟩ = some (.int .i64 a2_1) := (blk_cell BK335.out 1).trans rfl;have hfz38_0 := blk_frozen BK335.out 0;have hfz38_1 := blk_frozen BK335.out 1) | ((with_reducible refine gate_callee (f := 20) rfl ?_);refine goesL_ (some 61) rfl rfl Try.func20 (by kernel_rfl) rfl #[.agg #[.int .i64 t340,.int .i64 t341],.agg #[.int .i64 a2_0,.int .i64 a2_1]] rfl (by (try simp only [List.map_toArray,List.map_cons,List.map_nil]);first | done | rfl) ?_;(with_reducible refine (gauge_Verdict.calls k1 t340 t341 a2_0 a2_1 t344 _ A33.out).mono ?_);rintro e w39 ⟨rfl,hb⟩;refine ⟨_,rfl,?_⟩;have n0_ := aM_ (kB_ (g := gb335) (o := .cells #[.int .i64 a2_0,.int .i64 a2_1] 34 (0,0)) (by (with_reducible repeat (first | refine kN_ ?_ _ | refine kD_ ?_ | refine kA_ ?_ _));refine blk_far ?_ NB335_343.out _;(with_reducible repeat (first | refine kN_ ?_ _ | refine kD_ ?_ | refine kA_ ?_ _));refine blk_far ?_ NB335_343.out _;(with_reducible repeat (first | refine kN_ ?_ _ | refine kD_ ?_ | refine kA_ ?_ _));exact BK335.out) hb);have n1_ := aM_ (kB_ (g := gb343) (o := .cells #[.int .i64 t340,.int .i64 t341] 34 (0,0)) (by (with_reducible repeat (first | refine kN_ ?_ _ | refine kD_ ?_ | refine kA_ ?_ _));refine blk_put (cs := #[.int .i64 t340,.int .i64 0]) ?_ 1 _ rfl;(with_reducible repeat (first | refine kN_ ?_ _ | refine kD_ ?_ | refine kA_ ?_ _));refine blk_put (cs := #[.int .i64 0,.int .i64 0]) ?_ 0 _ rfl;(with_reducible repeat (first | refine kN_ ?_ _ | refine kD_ ?_ | refine kA_ ?_ _));exact BK343.out) hb);have n2_ := aM_ (bT_ (by repeat (first | (with_reducible first | exact HB.out | apply bA_ | apply bN_ | apply bD_ | refine bS_ ?_ GE335.out | refine bS_ ?_ GE343.out) | exact HB.out)) hb);clear BK335;clear BK343;clear HB;have BK335 := n0_;have BK343 := n1_;have HB := n2_;clear n0_ n1_ n2_;(try clear hb);(try clear hb2);(try clear hk);(try clear hi)))
        go_ret2
        exact ⟨by first | rfl | (simp [*] <;> rfl),by repeat (first | (with_reducible first | exact HB.out | apply bA_ | apply bN_ | apply bD_ | refine bS_ ?_ GE335.out | refine bS_ ?_ GE343.out) | exact HB.out)⟩
       ·rw [if_neg c32] at H
        have c32b0 : (t342 == 0) = false := beq_eq_false_iff_ne.mpr c32
        have c32b1 : (t342 != 0) = true := bne_iff_ne.mpr c32
        simp only [Option.some.injEq,Prod.mk.injEq] at H
        obtain ⟨rfl,rfl⟩ := H
        go_wp2_with (first | ((with_reducible refine gate_callee (f := 15) rfl ?_);refine goesL_ (some 53) rfl rfl Try.func15 (by kernel_rfl) rfl #[.slice A0 l0.length c0,.slice A3 l3.length c3] rfl (by (try simp only [List.map_toArray,List.map_cons,List.map_nil]);first | done | rfl) ?_;(with_reducible refine (gauge_Together.calls k1 _ _ l0 _ _ l3 t340 t341 t342 _ ?side1 ?side2 ?side3 ?side4 A31.out).mono ?_);(case side1 => repeat (first | exact (Kd.C_below HR0.out HB.out) | (with_reducible refine Kd.C_alloc ?_ _) | (with_reducible refine Kd.C_drewN ?_ _) | (with_reducible refine Kd.C_drew ?_)));(case side2 => exact HC0.out);(case side3 => repeat (first | exact (Kd.C_below HR3.out HB.out) | (with_reducible refine Kd.C_alloc ?_ _) | (with_reducible refine Kd.C_drewN ?_ _) | (with_reducible refine Kd.C_drew ?_)));(case side4 => exact HC3.out);rintro e w40 ⟨rfl,hb⟩;refine ⟨_,rfl,?_⟩;have n0_ := aM_ (kB_ (g := gb335) (o := .cells #[.int .i64 a2_0,.int .i64 a2_1] 34 (0,0)) (by (with_reducible repeat (first | refine kN_ ?_ _ | refine kD_ ?_ | refine kA_ ?_ _));exact BK335.out) hb);have n1_ := aM_ (bT_ (by repeat (first | (with_reducible first | exact HB.out | apply bA_ | apply bN_ | apply bD_ | refine bS_ ?_ GE335.out) | exact HB.out)) hb);clear BK335;clear HB;have BK335 := n0_;have HB := n1_;clear n0_ n1_;(try clear hb);(try clear hb2);(try clear hk);(try clear hi)) | ((with_reducible refine gate_dst (N := 12) rfl ?_);refine box_event ?hg (N := 12) ?hd (cs := #[.int .i64 0,.int .i64 0]) (t := 34) ?hr ?_;(case hd => rfl);(case hg => rfl);(case hr => first | (go_simp;done) | (go_simp;rfl));intro gb343 hg w41 hbox hb;have n0_ := aM_ (kB_ (g := gb335) (o := .cells #[.int .i64 a2_0,.int .i64 a2_1] 34 (0,0)) (by (with_reducible repeat (first | refine kN_ ?_ _ | refine kD_ ?_ | refine kA_ ?_ _));exact BK335.out) hb);have n1_ := aM_ (bT_ (by repeat (first | (with_reducible first | exact HB.out | apply bA_ | apply bN_ | apply bD_ | refine bS_ ?_ GE335.out) | exact HB.out)) hb);have n2_ := aM_ (hbox);have n3_ := aM_ ((by rw [hg];exact (below_size (by repeat (first | (with_reducible first | exact HB.out | apply bA_ | apply bN_ | apply bD_ | refine bS_ ?_ GE335.out) | exact HB.out))) : w.heap.size ≤ gb343));have n4_ := aM_ ((by rw [hg];exact (below_size (by repeat (first | (with_reducible first | exact HB.out | apply bA_ | apply bN_ | apply bD_ | refine bS_ ?_ GE335.out) | exact HB.out))) : w.heap.size ≤ gb343));have n5_ := aM_ ((by rw [hg];exact Nat.ne_of_lt (blk_lt (g := gb335) (o := .cells #[.int .i64 a2_0,.int .i64 a2_1] 34 (0,0)) (by (with_reducible repeat (first | refine kN_ ?_ _ | refine kD_ ?_ | refine kA_ ?_ _));exact BK335.out)) : gb335 ≠ gb343));have n6_ := aM_ ((by rw [hg];exact Nat.ne_of_gt (blk_lt (g := gb335) (o := .cells #[.int .i64 a2_0,.int .i64 a2_1] 34 (0,0)) (by (with_reducible repeat (first | refine kN_ ?_ _ | refine kD_ ?_ | refine kA_ ?_ _));exact BK335.out)) : gb343 ≠ gb335));clear BK335;clear HB;have BK335 := n0_;have HB := n1_;have BK343 := n2_;have GW343 := n3_;have GE343 := n4_;have NB335_343 := n5_;have NB343_335 := n6_;clear n0_ n1_ n2_ n3_ n4_ n5_ n6_;clear hb hbox hg;have hnb42 := NB343_335.out;have hnc42 := NB335_343.out;have hcz43_0 : w41.cell? ⟨gb343,0,none⟩ = some (.int .i64 0) := (blk_cell BK343.out 0).trans rfl;have hcz43_1 : w41.cell? ⟨gb343,1,none⟩ = some (.int .i64 0) := (blk_cell BK343.out 1).trans rfl;have hfz43_0 := blk_frozen BK343.out 0;have hfz43_1 := blk_frozen BK343.out 1))
        go_ret2
        exact ⟨by first | rfl | (simp [*] <;> rfl),by repeat (first | (with_reducible first | exact HB.out | apply bA_ | apply bN_ | apply bD_ | refine bS_ ?_ GE335.out | refine bS_ ?_ GE343.out) | exact HB.out)⟩

end Go.Proofs.Ytdbpobadeibjaab.GE
