-- written for this claim by a program of this session (wip/gp), over the kit's own printer; Lean checks it
import Derived.Test.YtdbpobadeibjaaaGEx0
import Derived.Test.YtdbpobadeibjaaaGEx17
import Derived.Test.YtdbpobadeibjaaaGEx30
namespace Go.Proofs.Ytdbpobadeibjaaa.GE
open Go.RowKit Go.Proofs.YtdbpobadeibjaaaW.PrintWords Go.Proofs.YtdbpobadeibjaaaW.PrintLast Go.Proofs.YtdbpobadeibjaaaW.PrintMore
attribute [local go_sem] max2_int min2_int max_two min_two max_three min_three max_four min_four
set_option linter.unusedVariables false
set_option linter.unusedSimpArgs false

/-! ### R_before: function 57 -/
def R_before.l0 : Nat → List (S36) → List Int → Bool → Int → Int → Int → Option (Int × Int × Bool)
 | 0,_,_,_,_,_,_ => none
 | k + 1,x0,x10,x12,x13,x398000,x398001 => if x13 < (x10.length : Int) then (if 0 ≤ x13 then (if 0 ≤ (rd x10 x13) then (if (rd x10 x13) < (x0.length : Int) then ((R_least.f k ((rd_T36 x0 (rd x10 x13)).f0.f0) ((rd_T36 x0 (rd x10 x13)).f0.f1) ((rd_T36 x0 (rd x10 x13)).f1.f0) ((rd_T36 x0 (rd x10 x13)).f1.f1) ((rd_T36 x0 (rd x10 x13)).f2) ((rd_T36 x0 (rd x10 x13)).f3) ((rd_T36 x0 (rd x10 x13)).f4) x398000).bind fun t404 => ((R_most.f k ((rd_T36 x0 (rd x10 x13)).f0.f0) ((rd_T36 x0 (rd x10 x13)).f0.f1) ((rd_T36 x0 (rd x10 x13)).f1.f0) ((rd_T36 x0 (rd x10 x13)).f1.f1) ((rd_T36 x0 (rd x10 x13)).f2) ((rd_T36 x0 (rd x10 x13)).f3) ((rd_T36 x0 (rd x10 x13)).f4) x398001).bind fun t407 => (if x12 = true then (R_before.l0 k x0 x10 (decide (t404 ≤ t407)) (wrap64 (x13 + 1)) t404 t407) else (R_before.l0 k x0 x10 false (wrap64 (x13 + 1)) t404 t407)))) else (none)) else (none)) else (none)) else (if x12 = true then (some (mx x398000 (-1000000000),mn x398001 1000000000,decide ((mx x398000 (-1000000000)) ≤ (mn x398001 1000000000)))) else (some (mx x398000 (-1000000000),mn x398001 1000000000,false)))
def R_before.f (k : Nat) (l0 : List (S36)) (a1 : Int) (a2 : Int) : Option (Int × Int × Bool) := if 0 ≤ a1 then (if a1 < (l0.length : Int) then ((R_chain.f k l0 a1).bind fun bt398 => (R_before.l0 k l0 bt398.1 true 0 (wrap64 (a2 - (wrap64 (Int.tdiv ((rd_T36 l0 a1).f2) 2)))) (wrap64 (a2 + (wrap64 (Int.tdiv ((rd_T36 l0 a1).f2) 2)))))) else (none)) else (none)
def R_before.T8 : Bool × List (List Nat × List Nat) := (true,[([],[]),([],[]),([],[]),([1,2],[1,2]),([3],[3]),([0,4],[0,4]),([5],[5]),([],[]),([7],[7]),([6,8],[6,8]),([],[]),([],[]),([],[]),([11,12],[11,12]),([13],[13]),([10,14],[10,14]),([15],[15]),([],[]),([17],[17]),([16,18,9],[16,18]),([9,19],[9,19]),([20,19,0,1,2,3,4,5,6,7,8,9,10,11,12,13,14,15,16,17,18,19,20],[20])])
def R_before.B8 : List Nat := [0,0,0,6,14,31,63,0,128,511,0,0,0,6144,14336,31744,64512,0,131072,524287,1048575,2097151]
theorem R_before.tab8 : rtab .any (opsOf Try.f57 8) = R_before.T8 := by kernel_rfl
theorem R_before.bits8 : waitsOk R_before.T8.2 R_before.B8 = true := by kernel_rfl
def R_before.T11 : Bool × List (List Nat × List Nat) := (true,[([],[]),([],[]),([1],[1]),([2],[2]),([3,2],[2,3]),([2],[2]),([5,2],[2,5]),([4,6,2],[2,4,6]),([2,7],[2,7]),([0,2,0],[0]),([8,9,0,1,2,3,4,5,6,7,8,9],[8])])
def R_before.B11 : List Nat := [0,0,2,6,14,6,38,126,254,7,1023]
theorem R_before.tab11 : rtab .any (opsOf Try.f57 11) = R_before.T11 := by kernel_rfl
theorem R_before.bits11 : waitsOk R_before.T11.2 R_before.B11 = true := by kernel_rfl
set_option maxHeartbeats 8000000 in
set_option maxRecDepth 100000 in
theorem R_before.calls (k : Nat) (A0 : Option Addr) (c0 : Nat) (l0 : List (S36)) (a1 : Int) (a2 : Int) (r1 : Int) (r2 : Int) (r3 : Bool) (w : World) (hr0 : Kd.C k36 w A0 l0.length l0) (hc0 : l0.length ≤ c0) (h : R_before.f k l0 a1 a2 = some (r1,r2,r3)) :
  Calls Try.prog 57 #[.slice A0 l0.length c0,.int .i64 a1,.int .i64 a2] w fun e w' => e = .returned (.tuple #[.agg #[.int .i64 r1,.int .i64 r2],.bool r3]) ∧ Below w.heap.size w w' := by
 have hu34 := Try.underlying34
 have hu36 := Try.underlying36
 have HR0 := aM_ hr0
 have HC0 := aM_ hc0
 clear hr0 hc0
 have HB := aM_ (Below.refl w.heap.size w)
 have H : (if 0 ≤ a1 then (if a1 < (l0.length : Int) then ((R_chain.f k l0 a1).bind fun bt398 => (R_before.l0 k l0 bt398.1 true 0 (wrap64 (a2 - (wrap64 (Int.tdiv ((rd_T36 l0 a1).f2) 2)))) (wrap64 (a2 + (wrap64 (Int.tdiv ((rd_T36 l0 a1).f2) 2)))))) else (none)) else (none)) = some (r1,r2,r3) := h
 clear h
 by_cases c4 : 0 ≤ a1
 ·rw [if_pos c4] at H
  have c4b0 : decide (0 ≤ a1) = true := decide_eq_true c4
  clear c4
  by_cases c5 : a1 < (l0.length : Int)
  ·rw [if_pos c5] at H
   have c5b0 : decide (a1 < (l0.length : Int)) = true := decide_eq_true c5
   clear c5
   replace H := oB_ H
   obtain ⟨⟨t398,t399⟩,A60,H⟩ := H
   replace H : (R_before.l0 k l0 t398 true 0 (wrap64 (a2 - (wrap64 (Int.tdiv ((rd_T36 l0 a1).f2) 2)))) (wrap64 (a2 + (wrap64 (Int.tdiv ((rd_T36 l0 a1).f2) 2))))) = some (r1,r2,r3) := H
   have A6 := aM_ A60
   clear A60
   have H' := aM_ H
   clear H
   go_enter Try.func57,Try.ntmps57
   go_wp2_with (first | ((with_reducible refine gate_dst (N := 6) rfl ?_);refine box_event ?hg (N := 6) ?hd (cs := #[.int .i64 0,.int .i64 0]) (t := 34) ?hr ?_;(case hd => rfl);(case hg => rfl);(case hr => first | (go_simp;done) | (go_simp;rfl));intro gb395 hg w7 hbox hb;have n0_ := aM_ (bT_ (by repeat (first | (with_reducible first | exact HB.out | apply bA_ | apply bN_ | apply bD_) | exact HB.out)) hb);have n1_ := aM_ (hbox);have n2_ := aM_ ((by rw [hg];exact (below_size (by repeat (first | (with_reducible first | exact HB.out | apply bA_ | apply bN_ | apply bD_) | exact HB.out))) : w.heap.size ≤ gb395));have n3_ := aM_ ((by rw [hg];exact (below_size (by repeat (first | (with_reducible first | exact HB.out | apply bA_ | apply bN_ | apply bD_) | exact HB.out))) : w.heap.size ≤ gb395));clear HB;have HB := n0_;have BK395 := n1_;have GW395 := n2_;have GE395 := n3_;clear n0_ n1_ n2_ n3_;clear hb hbox hg;have p396 : 0 ≤ (a1 : Int) := of_decide_eq_true (by first | (with_reducible assumption) | assumption);have q396 : a1 < (l0.length : Int) := of_decide_eq_true (by first | (with_reducible assumption) | assumption);obtain ⟨ad396,e396,hx396_0,hx396_1,hx396_2,hx396_3,hx396_4,hx396_5,hx396_6⟩ := at_T36 HR0.out a1 p396 q396;cases e396;replace hx396_0 := (HB.out.cell (World.block_lt_of_cell? w _ hx396_0)).trans hx396_0;replace hx396_1 := (HB.out.cell (World.block_lt_of_cell? w _ hx396_1)).trans hx396_1;replace hx396_2 := (HB.out.cell (World.block_lt_of_cell? w _ hx396_2)).trans hx396_2;replace hx396_3 := (HB.out.cell (World.block_lt_of_cell? w _ hx396_3)).trans hx396_3;replace hx396_4 := (HB.out.cell (World.block_lt_of_cell? w _ hx396_4)).trans hx396_4;replace hx396_5 := (HB.out.cell (World.block_lt_of_cell? w _ hx396_5)).trans hx396_5;replace hx396_6 := (HB.out.cell (World.block_lt_of_cell? w _ hx396_6)).trans hx396_6;replace p396 := eq_true p396;replace q396 := eq_true q396) | ((with_reducible refine gate_dst (N := 9) rfl ?_);refine box_event ?hg (N := 9) ?hd (cs := #[.int .i64 0,.int .i64 0]) (t := 34) ?hr ?_;(case hd => rfl);(case hg => rfl);(case hr => first | (go_simp;done) | (go_simp;rfl));intro gb397 hg w8 hbox hb;have n0_ := aM_ (kB_ (g := gb395) (o := .cells #[.int .i64 0,.int .i64 0] 34 (0,0)) (by (with_reducible repeat (first | refine kN_ ?_ _ | refine kD_ ?_ | refine kA_ ?_ _));exact BK395.out) hb);have n1_ := aM_ (bT_ (by repeat (first | (with_reducible first | exact HB.out | apply bA_ | apply bN_ | apply bD_ | refine bS_ ?_ GE395.out) | exact HB.out)) hb);have n2_ := aM_ (hbox);have n3_ := aM_ ((by rw [hg];exact (below_size (by repeat (first | (with_reducible first | exact HB.out | apply bA_ | apply bN_ | apply bD_ | refine bS_ ?_ GE395.out) | exact HB.out))) : w.heap.size ≤ gb397));have n4_ := aM_ ((by rw [hg];exact (below_size (by repeat (first | (with_reducible first | exact HB.out | apply bA_ | apply bN_ | apply bD_ | refine bS_ ?_ GE395.out) | exact HB.out))) : w.heap.size ≤ gb397));have n5_ := aM_ ((by rw [hg];exact Nat.ne_of_lt (blk_lt (g := gb395) (o := .cells #[.int .i64 0,.int .i64 0] 34 (0,0)) (by (with_reducible repeat (first | refine kN_ ?_ _ | refine kD_ ?_ | refine kA_ ?_ _));exact BK395.out)) : gb395 ≠ gb397));have n6_ := aM_ ((by rw [hg];exact Nat.ne_of_gt (blk_lt (g := gb395) (o := .cells #[.int .i64 0,.int .i64 0] 34 (0,0)) (by (with_reducible repeat (first | refine kN_ ?_ _ | refine kD_ ?_ | refine kA_ ?_ _));exact BK395.out)) : gb397 ≠ gb395));clear BK395;clear HB;have BK395 := n0_;have HB := n1_;have BK397 := n2_;have GW397 := n3_;have GE397 := n4_;have NB395_397 := n5_;have NB397_395 := n6_;clear n0_ n1_ n2_ n3_ n4_ n5_ n6_;clear hb hbox hg;have hnb9 := NB397_395.out;have hnc9 := NB395_397.out;have hcz10_0 : w8.cell? ⟨gb397,0,none⟩ = some (.int .i64 0) := (blk_cell BK397.out 0).trans rfl;have hcz10_1 : w8.cell? ⟨gb397,1,none⟩ = some (.int .i64 0) := (blk_cell BK397.out 1).trans rfl;have hfz10_0 := blk_frozen BK397.out 0;have hfz10_1 := blk_frozen BK397.out 1) | ((with_reducible refine gate_callee (f := 78) rfl ?_);refine goesL_ (some 30) rfl rfl Try.func78 (by kernel_rfl) rfl #[.slice (some ad396) l0.length c0,.int .i64 a1] rfl (by (try simp only [List.map_toArray,List.map_cons,List.map_nil]);first | done | rfl) ?_;(with_reducible refine (R_chain.calls k _ _ l0 a1 t398 t399 _ ?side1 ?side2 A6.out).mono ?_);(case side1 => exact Kd.C_below HR0.out (by repeat (first | (with_reducible first | exact HB.out | apply bA_ | apply bN_ | apply bD_ | refine bS_ ?_ GE395.out | refine bS_ ?_ GE397.out) | exact HB.out)));(case side2 => exact HC0.out);rintro e w11 ⟨v400,rfl,ho0,hb⟩;refine ⟨_,rfl,?_⟩;have n0_ := aM_ (Kd.R_lower ho0 (below_size (by repeat (first | (with_reducible first | exact HB.out | apply bA_ | apply bN_ | apply bD_ | refine bS_ ?_ GE395.out | refine bS_ ?_ GE397.out) | exact HB.out))));have n1_ := aM_ (kB_ (g := gb395) (o := .cells #[.int .i64 0,.int .i64 0] 34 (0,0)) (by (with_reducible repeat (first | refine kN_ ?_ _ | refine kD_ ?_ | refine kA_ ?_ _));refine blk_far ?_ NB395_397.out _;(with_reducible repeat (first | refine kN_ ?_ _ | refine kD_ ?_ | refine kA_ ?_ _));refine blk_far ?_ NB395_397.out _;(with_reducible repeat (first | refine kN_ ?_ _ | refine kD_ ?_ | refine kA_ ?_ _));exact BK395.out) hb);have n2_ := aM_ (kB_ (g := gb397) (o := .cells #[.int .i64 (wrap64 (a2 - (wrap64 (Int.tdiv ((rd_T36 l0 a1).f2) 2)))),.int .i64 (wrap64 (a2 + (wrap64 (Int.tdiv ((rd_T36 l0 a1).f2) 2))))] 34 (0,0)) (by (with_reducible repeat (first | refine kN_ ?_ _ | refine kD_ ?_ | refine kA_ ?_ _));refine blk_put (cs := #[.int .i64 (wrap64 (a2 - (wrap64 (Int.tdiv ((rd_T36 l0 a1).f2) 2)))),.int .i64 0]) ?_ 1 _ rfl;(with_reducible repeat (first | refine kN_ ?_ _ | refine kD_ ?_ | refine kA_ ?_ _));refine blk_put (cs := #[.int .i64 0,.int .i64 0]) ?_ 0 _ rfl;(with_reducible repeat (first | refine kN_ ?_ _ | refine kD_ ?_ | refine kA_ ?_ _));exact BK397.out) hb);have n3_ := aM_ (bT_ (by repeat (first | (with_reducible first | exact HB.out | apply bA_ | apply bN_ | apply bD_ | refine bS_ ?_ GE395.out | refine bS_ ?_ GE397.out) | exact HB.out)) hb);clear BK395;clear BK397;clear HB;have HO401 := n0_;have BK395 := n1_;have BK397 := n2_;have HB := n3_;clear n0_ n1_ n2_ n3_;(try clear hb);(try clear hb2);(try clear hk);(try clear hi);(try clear ho0)))
   go_loopg [12,13] k (fun kq v12 v13 w' => ∃ (x12_1 : Bool) (x13_1 : Int) (x398000_1 : Int) (x398001_1 : Int),v12 = .bool x12_1 ∧ v13 = .int .i64 x13_1 ∧ Aside0 (R_before.l0 kq l0 t398 x12_1 x13_1 x398000_1 x398001_1 = some (r1,r2,r3)) ∧ Aside0 (kq ≤ k) ∧ Aside0 (Kd.R (Kd.int .i64) 3 w' w.heap.size (fun _ => True) v400 t398) ∧ Aside0 (w'.heap[gb395]? = some (.cells #[.int .i64 0,.int .i64 0] 34 (0,0))) ∧ Aside0 (w'.heap[gb397]? = some (.cells #[.int .i64 x398000_1,.int .i64 x398001_1] 34 (0,0))) ∧ Aside0 (Below w.heap.size w w'))
   case atStart => exact ⟨(true),(0),(wrap64 (a2 - (wrap64 (Int.tdiv ((rd_T36 l0 a1).f2) 2)))),(wrap64 (a2 + (wrap64 (Int.tdiv ((rd_T36 l0 a1).f2) 2)))),(by first | rfl | (simp;done) | (simp [*];done)),(by first | rfl | (simp;done) | (simp [*];done)),H',⟨Nat.le_refl _⟩,⟨by (with_reducible repeat (first | apply Kd.R_alloc | apply Kd.R_drewN | apply Kd.R_drew));exact HO401.out⟩,⟨by (with_reducible repeat (first | refine kN_ ?_ _ | refine kD_ ?_ | refine kA_ ?_ _));exact BK395.out⟩,⟨by (with_reducible repeat (first | refine kN_ ?_ _ | refine kD_ ?_ | refine kA_ ?_ _));exact BK397.out⟩,⟨by repeat (first | (with_reducible first | exact HB.out | apply bA_ | apply bN_ | apply bD_ | refine bS_ ?_ GE395.out | refine bS_ ?_ GE397.out) | exact HB.out)⟩⟩
   case round =>
    clear H'
    try clear p2
    try clear p3
    try clear q3
    try clear hx3
    try clear c4
    try clear c4b0
    try clear c5
    try clear c5b0
    try clear p6
    try clear c7
    try clear c9
    try clear hcz10_0
    try clear hcz10_1
    try clear hfz10_0
    try clear hfz10_1
    try clear hx396_0
    try clear hx396_1
    try clear hx396_2
    try clear hx396_3
    try clear hx396_4
    try clear hx396_5
    try clear hx396_6
    try clear p396
    try clear q396
    obtain ⟨x12_1,x13_1,x398000_1,x398001_1,rfl,rfl,HA,HK1,HO_10,BK395,BK397,HB⟩ := hrel
    cases gk with
    | zero => exact absurd HA.out (by simp [R_before.l0])
    | succ k1 =>
     have H := HA.out
     clear HA
     simp only [R_before.l0] at H
     by_cases c12 : x13_1 < (t398.length : Int)
     ·rw [if_pos c12] at H
      have c12b0 : decide (x13_1 < (t398.length : Int)) = true := decide_eq_true c12
      clear c12
      by_cases c13 : 0 ≤ x13_1
      ·rw [if_pos c13] at H
       have c13b0 : decide (0 ≤ x13_1) = true := decide_eq_true c13
       clear c13
       by_cases c14 : 0 ≤ (rd t398 x13_1)
       ·rw [if_pos c14] at H
        have c14b0 : decide (0 ≤ (rd t398 x13_1)) = true := decide_eq_true c14
        clear c14
        by_cases c15 : (rd t398 x13_1) < (l0.length : Int)
        ·rw [if_pos c15] at H
         have c15b0 : decide ((rd t398 x13_1) < (l0.length : Int)) = true := decide_eq_true c15
         clear c15
         replace H := oB_ H
         obtain ⟨t404,A160,H⟩ := H
         replace H : ((R_most.f k1 ((rd_T36 l0 (rd t398 x13_1)).f0.f0) ((rd_T36 l0 (rd t398 x13_1)).f0.f1) ((rd_T36 l0 (rd t398 x13_1)).f1.f0) ((rd_T36 l0 (rd t398 x13_1)).f1.f1) ((rd_T36 l0 (rd t398 x13_1)).f2) ((rd_T36 l0 (rd t398 x13_1)).f3) ((rd_T36 l0 (rd t398 x13_1)).f4) x398001_1).bind fun t407 => (if x12_1 = true then (R_before.l0 k1 l0 t398 (decide (t404 ≤ t407)) (wrap64 (x13_1 + 1)) t404 t407) else (R_before.l0 k1 l0 t398 false (wrap64 (x13_1 + 1)) t404 t407))) = some (r1,r2,r3) := H
         have A16 := aM_ A160
         clear A160
         replace H := oB_ H
         obtain ⟨t407,A170,H⟩ := H
         replace H : (if x12_1 = true then (R_before.l0 k1 l0 t398 (decide (t404 ≤ t407)) (wrap64 (x13_1 + 1)) t404 t407) else (R_before.l0 k1 l0 t398 false (wrap64 (x13_1 + 1)) t404 t407)) = some (r1,r2,r3) := H
         have A17 := aM_ A170
         clear A170
         by_cases c18 : x12_1 = true
         ·subst c18
          have H1 : (R_before.l0 k1 l0 t398 (decide (t404 ≤ t407)) (wrap64 (x13_1 + 1)) t404 t407) = some (r1,r2,r3) := by rw [if_pos rfl] at H;exact H
          clear H
          have H := H1
          clear H1
          have H' := aM_ H
          clear H
          obtain ⟨Ao19,co19,eo19⟩ := Kd.R_slice HO_10.out
          subst eo19
          try go_wp2
          have n0_ := aM_ (Kd.R_drew HO_10.out)
          have n1_ := aM_ (kD_ BK395.out)
          have n2_ := aM_ (kD_ BK397.out)
          have n3_ := aM_ (bD_ HB.out)
          clear HO_10
          clear BK395
          clear BK397
          clear HB
          have HO_10 := n0_
          have BK395 := n1_
          have BK397 := n2_
          have HB := n3_
          clear n0_ n1_ n2_ n3_
          have p402 : 0 ≤ (x13_1 : Int) := of_decide_eq_true (by first | (with_reducible assumption) | assumption)
          have q402 : x13_1 < (t398.length : Int) := of_decide_eq_true (by first | (with_reducible assumption) | assumption)
          obtain ⟨ad402,e402,hx402_0⟩ := Kd.at_int (Kd.R_reads' HO_10.out).2.2 x13_1 p402 q402
          cases e402
          replace p402 := eq_true p402
          replace q402 := eq_true q402
          have p403 : 0 ≤ ((rd t398 x13_1) : Int) := of_decide_eq_true (by first | (with_reducible assumption) | assumption)
          have q403 : (rd t398 x13_1) < (l0.length : Int) := of_decide_eq_true (by first | (with_reducible assumption) | assumption)
          obtain ⟨ad403,e403,hx403_0,hx403_1,hx403_2,hx403_3,hx403_4,hx403_5,hx403_6⟩ := at_T36 HR0.out (rd t398 x13_1) p403 q403
          have hw403_6 := hx403_6
          have hw403_5 := hx403_5
          have hw403_4 := hx403_4
          have hw403_3 := hx403_3
          have hw403_2 := hx403_2
          have hw403_1 := hx403_1
          have hw403_0 := hx403_0
          obtain rfl : ad396 = ad403 := (by injection e403)
          replace hx403_0 := (HB.out.cell (World.block_lt_of_cell? w _ hx403_0)).trans hx403_0
          replace hx403_1 := (HB.out.cell (World.block_lt_of_cell? w _ hx403_1)).trans hx403_1
          replace hx403_2 := (HB.out.cell (World.block_lt_of_cell? w _ hx403_2)).trans hx403_2
          replace hx403_3 := (HB.out.cell (World.block_lt_of_cell? w _ hx403_3)).trans hx403_3
          replace hx403_4 := (HB.out.cell (World.block_lt_of_cell? w _ hx403_4)).trans hx403_4
          replace hx403_5 := (HB.out.cell (World.block_lt_of_cell? w _ hx403_5)).trans hx403_5
          replace hx403_6 := (HB.out.cell (World.block_lt_of_cell? w _ hx403_6)).trans hx403_6
          replace p403 := eq_true p403
          replace q403 := eq_true q403
          have p405 : 0 ≤ (x13_1 : Int) := of_decide_eq_true (by first | (with_reducible assumption) | assumption)
          have q405 : x13_1 < (t398.length : Int) := of_decide_eq_true (by first | (with_reducible assumption) | assumption)
          obtain ⟨ad405,e405,hx405_0⟩ := Kd.at_int (Kd.R_reads' HO_10.out).2.2 x13_1 p405 q405
          obtain rfl : ad402 = ad405 := (by injection e405)
          replace p405 := eq_true p405
          replace q405 := eq_true q405
          have p406 : 0 ≤ ((rd t398 x13_1) : Int) := of_decide_eq_true (by first | (with_reducible assumption) | assumption)
          have q406 : (rd t398 x13_1) < (l0.length : Int) := of_decide_eq_true (by first | (with_reducible assumption) | assumption)
          obtain ⟨ad406,e406,hx406_0,hx406_1,hx406_2,hx406_3,hx406_4,hx406_5,hx406_6⟩ := at_T36 HR0.out (rd t398 x13_1) p406 q406
          have hw406_6 := hx406_6
          have hw406_5 := hx406_5
          have hw406_4 := hx406_4
          have hw406_3 := hx406_3
          have hw406_2 := hx406_2
          have hw406_1 := hx406_1
          have hw406_0 := hx406_0
          obtain rfl : ad396 = ad406 := (by injection e406)
          replace hx406_0 := (HB.out.cell (World.block_lt_of_cell? w _ hx406_0)).trans hx406_0
          replace hx406_1 := (HB.out.cell (World.block_lt_of_cell? w _ hx406_1)).trans hx406_1
          replace hx406_2 := (HB.out.cell (World.block_lt_of_cell? w _ hx406_2)).trans hx406_2
          replace hx406_3 := (HB.out.cell (World.block_lt_of_cell? w _ hx406_3)).trans hx406_3
          replace hx406_4 := (HB.out.cell (World.block_lt_of_cell? w _ hx406_4)).trans hx406_4
          replace hx406_5 := (HB.out.cell (World.block_lt_of_cell? w _ hx406_5)).trans hx406_5
          replace hx406_6 := (HB.out.cell (World.block_lt_of_cell? w _ hx406_6)).trans hx406_6
          replace p406 := eq_true p406
          replace q406 := eq_true q406
          refine start_ (n := 22) (S := fun w' => w'.cell? ⟨gb397,0,none⟩ = some (.int .i64 x398000_1) ∧ w'.cell? ⟨gb397,1,none⟩ = some (.int .i64 x398001_1) ∧ w'.cell? (ad402.add (x13_1).toNat) = some (.int .i64 (rd t398 x13_1)) ∧ w'.cell? (ad396.add (((rd t398 x13_1)).toNat * 7)) = some (.int .i64 ((rd_T36 l0 (rd t398 x13_1)).f0.f0)) ∧ w'.cell? ⟨(ad396.add (((rd t398 x13_1)).toNat * 7)).block,(ad396.add (((rd t398 x13_1)).toNat * 7)).off + 1,none⟩ = some (.int .i64 ((rd_T36 l0 (rd t398 x13_1)).f0.f1)) ∧ w'.cell? ⟨(ad396.add (((rd t398 x13_1)).toNat * 7)).block,(ad396.add (((rd t398 x13_1)).toNat * 7)).off + 2,none⟩ = some (.int .i64 ((rd_T36 l0 (rd t398 x13_1)).f1.f0)) ∧ w'.cell? ⟨(ad396.add (((rd t398 x13_1)).toNat * 7)).block,(ad396.add (((rd t398 x13_1)).toNat * 7)).off + 3,none⟩ = some (.int .i64 ((rd_T36 l0 (rd t398 x13_1)).f1.f1)) ∧ w'.cell? ⟨(ad396.add (((rd t398 x13_1)).toNat * 7)).block,(ad396.add (((rd t398 x13_1)).toNat * 7)).off + 4,none⟩ = some (.int .i64 ((rd_T36 l0 (rd t398 x13_1)).f2)) ∧ w'.cell? ⟨(ad396.add (((rd t398 x13_1)).toNat * 7)).block,(ad396.add (((rd t398 x13_1)).toNat * 7)).off + 5,none⟩ = some (.int .i64 ((rd_T36 l0 (rd t398 x13_1)).f3)) ∧ w'.cell? ⟨(ad396.add (((rd t398 x13_1)).toNat * 7)).block,(ad396.add (((rd t398 x13_1)).toNat * 7)).off + 6,none⟩ = some (.int .i64 ((rd_T36 l0 (rd t398 x13_1)).f4)) ∧ w'.cell? (ad402.add (x13_1).toNat) = some (.int .i64 (rd t398 x13_1)) ∧ w'.cell? (ad396.add (((rd t398 x13_1)).toNat * 7)) = some (.int .i64 ((rd_T36 l0 (rd t398 x13_1)).f0.f0)) ∧ w'.cell? ⟨(ad396.add (((rd t398 x13_1)).toNat * 7)).block,(ad396.add (((rd t398 x13_1)).toNat * 7)).off + 1,none⟩ = some (.int .i64 ((rd_T36 l0 (rd t398 x13_1)).f0.f1)) ∧ w'.cell? ⟨(ad396.add (((rd t398 x13_1)).toNat * 7)).block,(ad396.add (((rd t398 x13_1)).toNat * 7)).off + 2,none⟩ = some (.int .i64 ((rd_T36 l0 (rd t398 x13_1)).f1.f0)) ∧ w'.cell? ⟨(ad396.add (((rd t398 x13_1)).toNat * 7)).block,(ad396.add (((rd t398 x13_1)).toNat * 7)).off + 3,none⟩ = some (.int .i64 ((rd_T36 l0 (rd t398 x13_1)).f1.f1)) ∧ w'.cell? ⟨(ad396.add (((rd t398 x13_1)).toNat * 7)).block,(ad396.add (((rd t398 x13_1)).toNat * 7)).off + 4,none⟩ = some (.int .i64 ((rd_T36 l0 (rd t398 x13_1)).f2)) ∧ w'.cell? ⟨(ad396.add (((rd t398 x13_1)).toNat * 7)).block,(ad396.add (((rd t398 x13_1)).toNat * 7)).off + 5,none⟩ = some (.int .i64 ((rd_T36 l0 (rd t398 x13_1)).f3)) ∧ w'.cell? ⟨(ad396.add (((rd t398 x13_1)).toNat * 7)).block,(ad396.add (((rd t398 x13_1)).toNat * 7)).off + 6,none⟩ = some (.int .i64 ((rd_T36 l0 (rd t398 x13_1)).f4))) (ds := [21]) #[false,false,false,false,false,false,false,false,false,false,false,false,false,false,false,false,false,false,false,false,false,false] (by kernel_rfl) rfl rfl ⟨(blk_cell BK397.out 0).trans rfl,(blk_cell BK397.out 1).trans rfl,hx402_0,((HB.out.cell (World.block_lt_of_cell? w _ hw403_0)).trans hw403_0),((HB.out.cell (World.block_lt_of_cell? w _ hw403_1)).trans hw403_1),((HB.out.cell (World.block_lt_of_cell? w _ hw403_2)).trans hw403_2),((HB.out.cell (World.block_lt_of_cell? w _ hw403_3)).trans hw403_3),((HB.out.cell (World.block_lt_of_cell? w _ hw403_4)).trans hw403_4),((HB.out.cell (World.block_lt_of_cell? w _ hw403_5)).trans hw403_5),((HB.out.cell (World.block_lt_of_cell? w _ hw403_6)).trans hw403_6),hx405_0,((HB.out.cell (World.block_lt_of_cell? w _ hw406_0)).trans hw406_0),((HB.out.cell (World.block_lt_of_cell? w _ hw406_1)).trans hw406_1),((HB.out.cell (World.block_lt_of_cell? w _ hw406_2)).trans hw406_2),((HB.out.cell (World.block_lt_of_cell? w _ hw406_3)).trans hw406_3),((HB.out.cell (World.block_lt_of_cell? w _ hw406_4)).trans hw406_4),((HB.out.cell (World.block_lt_of_cell? w _ hw406_5)).trans hw406_5),((HB.out.cell (World.block_lt_of_cell? w _ hw406_6)).trans hw406_6)⟩ (fun hHeld => ?_);refine with_tabW R_before.tab8 R_before.bits8 (fun HT_ HW_ => ?_)
          generalize wr.drew = w20 at HO_10 BK395 BK397 HB hx402_0 hx403_0 hx403_1 hx403_2 hx403_3 hx403_4 hx403_5 hx403_6 hx405_0 hx406_0 hx406_1 hx406_2 hx406_3 hx406_4 hx406_5 hx406_6 hHeld ⊢
          refine pure_ (i := 0) (N := some 39) (v := ?_) (a' := ?_) #[true,false,false,false,false,false,false,false,false,false,false,false,false,false,false,false,false,false,false,false,false,false] rfl rfl (any_of HT_.out (by kernel_rfl)) (fun _ _ _ h => h) (Or.inl ⟨by rfl,?_⟩) ?_ ?_
          rotate_left
          ·intro w'
           go_simp
           with_reducible rfl
          rotate_left
          ·simp only [Act.put,sB_,sZ_,sS_,i64_w,i32_w]
           rfl
          refine pure_ (i := 1) (N := some 40) (v := ?_) (a' := ?_) #[true,true,false,false,false,false,false,false,false,false,false,false,false,false,false,false,false,false,false,false,false,false] rfl rfl (any_of HT_.out (by kernel_rfl)) (fun _ _ _ h => h) (Or.inl ⟨by rfl,?_⟩) ?_ ?_
          rotate_left
          ·intro w'
           go_simp
           with_reducible rfl
          rotate_left
          ·simp only [Act.put,sB_,sZ_,sS_,i64_w,i32_w]
           rfl
          refine pure_ (i := 2) (N := some 41) (v := ?_) (a' := ?_) #[true,true,true,false,false,false,false,false,false,false,false,false,false,false,false,false,false,false,false,false,false,false] rfl rfl (any_of HT_.out (by kernel_rfl)) (fun _ _ _ h => h) (Or.inl ⟨by rfl,?_⟩) ?_ ?_
          rotate_left
          ·intro w'
           go_simp
           with_reducible rfl
          rotate_left
          ·simp only [Act.put,sB_,sZ_,sS_,i64_w,i32_w]
           rfl
          refine pure_ (i := 3) (N := some 42) (v := ?_) (a' := ?_) #[true,true,true,true,false,false,false,false,false,false,false,false,false,false,false,false,false,false,false,false,false,false] rfl rfl (any_of HT_.out (by kernel_rfl)) (fun _ _ _ h => h) (Or.inl ⟨by rfl,?_⟩) ?_ ?_
          rotate_left
          ·intro w'
           go_simp
           with_reducible rfl
          rotate_left
          ·simp only [Act.put,sB_,sZ_,sS_,i64_w,i32_w]
           rfl
          refine pure_ (i := 7) (N := some 46) (v := ?_) (a' := ?_) #[true,true,true,true,false,false,false,true,false,false,false,false,false,false,false,false,false,false,false,false,false,false] rfl rfl (any_of HT_.out (by kernel_rfl)) (fun _ _ _ h => h) (Or.inl ⟨by rfl,?_⟩) ?_ ?_
          rotate_left
          ·intro w'
           go_simp
           with_reducible rfl
          rotate_left
          ·simp only [Act.put,sB_,sZ_,sS_,i64_w,i32_w]
           rfl
          refine pure_ (i := 10) (N := some 49) (v := ?_) (a' := ?_) #[true,true,true,true,false,false,false,true,false,false,true,false,false,false,false,false,false,false,false,false,false,false] rfl rfl (any_of HT_.out (by kernel_rfl)) (fun _ _ _ h => h) (Or.inl ⟨by rfl,?_⟩) ?_ ?_
          rotate_left
          ·intro w'
           go_simp
           with_reducible rfl
          rotate_left
          ·simp only [Act.put,sB_,sZ_,sS_,i64_w,i32_w]
           rfl
          refine pure_ (i := 11) (N := some 50) (v := ?_) (a' := ?_) #[true,true,true,true,false,false,false,true,false,false,true,true,false,false,false,false,false,false,false,false,false,false] rfl rfl (any_of HT_.out (by kernel_rfl)) (fun _ _ _ h => h) (Or.inl ⟨by rfl,?_⟩) ?_ ?_
          rotate_left
          ·intro w'
           go_simp
           with_reducible rfl
          rotate_left
          ·simp only [Act.put,sB_,sZ_,sS_,i64_w,i32_w]
           rfl
          refine pure_ (i := 12) (N := some 51) (v := ?_) (a' := ?_) #[true,true,true,true,false,false,false,true,false,false,true,true,true,false,false,false,false,false,false,false,false,false] rfl rfl (any_of HT_.out (by kernel_rfl)) (fun _ _ _ h => h) (Or.inl ⟨by rfl,?_⟩) ?_ ?_
          rotate_left
          ·intro w'
           go_simp
           with_reducible rfl
          rotate_left
          ·simp only [Act.put,sB_,sZ_,sS_,i64_w,i32_w]
           rfl
          refine pure_ (i := 13) (N := some 52) (v := ?_) (a' := ?_) #[true,true,true,true,false,false,false,true,false,false,true,true,true,true,false,false,false,false,false,false,false,false] rfl rfl (any_of HT_.out (by kernel_rfl)) (fun _ _ _ h => h) (Or.inl ⟨by rfl,?_⟩) ?_ ?_
          rotate_left
          ·intro w'
           go_simp
           with_reducible rfl
          rotate_left
          ·simp only [Act.put,sB_,sZ_,sS_,i64_w,i32_w]
           rfl
          refine pure_ (i := 17) (N := some 56) (v := ?_) (a' := ?_) #[true,true,true,true,false,false,false,true,false,false,true,true,true,true,false,false,false,true,false,false,false,false] rfl rfl (any_of HT_.out (by kernel_rfl)) (fun _ _ _ h => h) (Or.inl ⟨by rfl,?_⟩) ?_ ?_
          rotate_left
          ·intro w'
           go_simp
           with_reducible rfl
          rotate_left
          ·simp only [Act.put,sB_,sZ_,sS_,i64_w,i32_w]
           rfl
          refine take_ (i := 4) (N := some 43) (v := ?_) (a' := ?_) #[true,true,true,true,true,false,false,true,false,false,true,true,true,true,false,false,false,true,false,false,false,false] rfl rfl (take_ofW HT_.out HW_.out (by kernel_rfl)) (fun _ _ _ h => h) (Or.inl ⟨by rfl,?_⟩) hHeld ?_ ?_
          rotate_left
          ·rintro w' ⟨s0,s1,s2,s3,s4,s5,s6,s7,s8,s9,s10,s11,s12,s13,s14,s15,s16,s17⟩
           go_simp
           with_reducible rfl
          rotate_left
          ·simp only [Act.put,sB_,sZ_,sS_,i64_w,i32_w]
           rfl
          refine pure_ (i := 5) (N := some 44) (v := ?_) (a' := ?_) #[true,true,true,true,true,true,false,true,false,false,true,true,true,true,false,false,false,true,false,false,false,false] rfl rfl (any_of HT_.out (by kernel_rfl)) (fun _ _ _ h => h) (Or.inl ⟨by rfl,?_⟩) ?_ ?_
          rotate_left
          ·intro w'
           go_simp
           with_reducible rfl
          rotate_left
          ·simp only [Act.put,sB_,sZ_,sS_,i64_w,i32_w]
           rfl
          refine take_ (i := 6) (N := some 45) (v := ?_) (a' := ?_) #[true,true,true,true,true,true,true,true,false,false,true,true,true,true,false,false,false,true,false,false,false,false] rfl rfl (take_ofW HT_.out HW_.out (by kernel_rfl)) (fun _ _ _ h => h) (Or.inl ⟨by rfl,?_⟩) hHeld ?_ ?_
          rotate_left
          ·rintro w' ⟨s0,s1,s2,s3,s4,s5,s6,s7,s8,s9,s10,s11,s12,s13,s14,s15,s16,s17⟩
           go_simp
           with_reducible rfl
          rotate_left
          ·simp only [Act.put,sB_,sZ_,sS_,i64_w,i32_w]
           rfl
          refine take_ (i := 8) (N := some 47) (v := ?_) (a' := ?_) #[true,true,true,true,true,true,true,true,true,false,true,true,true,true,false,false,false,true,false,false,false,false] rfl rfl (take_ofW HT_.out HW_.out (by kernel_rfl)) (fun _ _ _ h => h) (Or.inl ⟨by rfl,?_⟩) hHeld ?_ ?_
          rotate_left
          ·rintro w' ⟨s0,s1,s2,s3,s4,s5,s6,s7,s8,s9,s10,s11,s12,s13,s14,s15,s16,s17⟩
           go_simp
           with_reducible rfl
          rotate_left
          ·simp only [Act.put,sB_,sZ_,sS_,i64_w,i32_w]
           rfl
          refine take_ (i := 14) (N := some 53) (v := ?_) (a' := ?_) #[true,true,true,true,true,true,true,true,true,false,true,true,true,true,true,false,false,true,false,false,false,false] rfl rfl (take_ofW HT_.out HW_.out (by kernel_rfl)) (fun _ _ _ h => h) (Or.inl ⟨by rfl,?_⟩) hHeld ?_ ?_
          rotate_left
          ·rintro w' ⟨s0,s1,s2,s3,s4,s5,s6,s7,s8,s9,s10,s11,s12,s13,s14,s15,s16,s17⟩
           go_simp
           with_reducible rfl
          rotate_left
          ·simp only [Act.put,sB_,sZ_,sS_,i64_w,i32_w]
           rfl
          refine pure_ (i := 15) (N := some 54) (v := ?_) (a' := ?_) #[true,true,true,true,true,true,true,true,true,false,true,true,true,true,true,true,false,true,false,false,false,false] rfl rfl (any_of HT_.out (by kernel_rfl)) (fun _ _ _ h => h) (Or.inl ⟨by rfl,?_⟩) ?_ ?_
          rotate_left
          ·intro w'
           go_simp
           with_reducible rfl
          rotate_left
          ·simp only [Act.put,sB_,sZ_,sS_,i64_w,i32_w]
           rfl
          refine take_ (i := 16) (N := some 55) (v := ?_) (a' := ?_) #[true,true,true,true,true,true,true,true,true,false,true,true,true,true,true,true,true,true,false,false,false,false] rfl rfl (take_ofW HT_.out HW_.out (by kernel_rfl)) (fun _ _ _ h => h) (Or.inl ⟨by rfl,?_⟩) hHeld ?_ ?_
          rotate_left
          ·rintro w' ⟨s0,s1,s2,s3,s4,s5,s6,s7,s8,s9,s10,s11,s12,s13,s14,s15,s16,s17⟩
           go_simp
           with_reducible rfl
          rotate_left
          ·simp only [Act.put,sB_,sZ_,sS_,i64_w,i32_w]
           rfl
          refine take_ (i := 18) (N := some 57) (v := ?_) (a' := ?_) #[true,true,true,true,true,true,true,true,true,false,true,true,true,true,true,true,true,true,true,false,false,false] rfl rfl (take_ofW HT_.out HW_.out (by kernel_rfl)) (fun _ _ _ h => h) (Or.inl ⟨by rfl,?_⟩) hHeld ?_ ?_
          rotate_left
          ·rintro w' ⟨s0,s1,s2,s3,s4,s5,s6,s7,s8,s9,s10,s11,s12,s13,s14,s15,s16,s17⟩
           go_simp
           with_reducible rfl
          rotate_left
          ·simp only [Act.put,sB_,sZ_,sS_,i64_w,i32_w]
           rfl
          refine one_ (i := 9) (N := some 48) #[true,true,true,true,true,true,true,true,true,true,true,true,true,true,true,true,true,true,true,false,false,false] rfl rfl (one_of HT_.out (by kernel_rfl)) (by decide) (fun K hK => ?_)
          refine goes_ Try.func84 (by kernel_rfl) rfl #[.agg #[.int .i64 ((rd_T36 l0 (rd t398 x13_1)).f0.f0),.int .i64 ((rd_T36 l0 (rd t398 x13_1)).f0.f1),.int .i64 ((rd_T36 l0 (rd t398 x13_1)).f1.f0),.int .i64 ((rd_T36 l0 (rd t398 x13_1)).f1.f1),.int .i64 ((rd_T36 l0 (rd t398 x13_1)).f2),.int .i64 ((rd_T36 l0 (rd t398 x13_1)).f3),.int .i64 ((rd_T36 l0 (rd t398 x13_1)).f4)],.int .i64 x398000_1] (by rfl) rfl rfl (by (try simp only [List.map_toArray,List.map_cons,List.map_nil]);first | done | rfl) ?_
          with_reducible refine (R_least.calls k1 ((rd_T36 l0 (rd t398 x13_1)).f0.f0) ((rd_T36 l0 (rd t398 x13_1)).f0.f1) ((rd_T36 l0 (rd t398 x13_1)).f1.f0) ((rd_T36 l0 (rd t398 x13_1)).f1.f1) ((rd_T36 l0 (rd t398 x13_1)).f2) ((rd_T36 l0 (rd t398 x13_1)).f3) ((rd_T36 l0 (rd t398 x13_1)).f4) x398000_1 t404 _ A16.out).mono ?_
          rintro e w21 ⟨rfl,hb⟩
          have HS2_ := (hb.cell (World.block_lt_of_cell? _ _ (hHeld.2.2.1))).trans (hHeld.2.2.1)
          have HS10_ := (hb.cell (World.block_lt_of_cell? _ _ (hHeld.2.2.2.2.2.2.2.2.2.2.1))).trans (hHeld.2.2.2.2.2.2.2.2.2.2.1)
          refine ⟨_,rfl,?_⟩
          have n0_ := aM_ (Kd.R_below (by (with_reducible repeat (first | apply Kd.R_alloc | apply Kd.R_drewN | apply Kd.R_drew));exact HO_10.out) hb)
          have n1_ := aM_ (kB_ (g := gb395) (o := .cells #[.int .i64 0,.int .i64 0] 34 (0,0)) (by (with_reducible repeat (first | refine kN_ ?_ _ | refine kD_ ?_ | refine kA_ ?_ _));exact BK395.out) hb)
          have n2_ := aM_ (kB_ (g := gb397) (o := .cells #[.int .i64 x398000_1,.int .i64 x398001_1] 34 (0,0)) (by (with_reducible repeat (first | refine kN_ ?_ _ | refine kD_ ?_ | refine kA_ ?_ _));exact BK397.out) hb)
          have n3_ := aM_ (bT_ (by repeat (first | (with_reducible first | exact HB.out | apply bA_ | apply bN_ | apply bD_ | refine bS_ ?_ GE395.out | refine bS_ ?_ GE397.out) | exact HB.out)) hb)
          clear HO_10
          clear BK395
          clear BK397
          clear HB
          have HO_10 := n0_
          have BK395 := n1_
          have BK397 := n2_
          have HB := n3_
          clear n0_ n1_ n2_ n3_
          (try clear hb)
          (try clear hb2)
          (try clear hk)
          (try clear hi)
          refine hK.out _ _ ⟨(blk_cell BK397.out 0).trans rfl,(blk_cell BK397.out 1).trans rfl,HS2_,((HB.out.cell (World.block_lt_of_cell? w _ hw403_0)).trans hw403_0),((HB.out.cell (World.block_lt_of_cell? w _ hw403_1)).trans hw403_1),((HB.out.cell (World.block_lt_of_cell? w _ hw403_2)).trans hw403_2),((HB.out.cell (World.block_lt_of_cell? w _ hw403_3)).trans hw403_3),((HB.out.cell (World.block_lt_of_cell? w _ hw403_4)).trans hw403_4),((HB.out.cell (World.block_lt_of_cell? w _ hw403_5)).trans hw403_5),((HB.out.cell (World.block_lt_of_cell? w _ hw403_6)).trans hw403_6),HS10_,((HB.out.cell (World.block_lt_of_cell? w _ hw406_0)).trans hw406_0),((HB.out.cell (World.block_lt_of_cell? w _ hw406_1)).trans hw406_1),((HB.out.cell (World.block_lt_of_cell? w _ hw406_2)).trans hw406_2),((HB.out.cell (World.block_lt_of_cell? w _ hw406_3)).trans hw406_3),((HB.out.cell (World.block_lt_of_cell? w _ hw406_4)).trans hw406_4),((HB.out.cell (World.block_lt_of_cell? w _ hw406_5)).trans hw406_5),((HB.out.cell (World.block_lt_of_cell? w _ hw406_6)).trans hw406_6)⟩ (fun hHeld => ?_)
          clear hK K
          refine norm_ (a' := ?_) ?_ ?_
          rotate_left
          ·show Act.put _ (some 48) _ = _
           simp only [Act.put,sB_,sZ_,sS_,i64_w,i32_w]
           rfl
          refine one_ (i := 19) (N := some 58) #[true,true,true,true,true,true,true,true,true,true,true,true,true,true,true,true,true,true,true,true,false,false] rfl rfl (one_of HT_.out (by kernel_rfl)) (by decide) (fun K hK => ?_)
          refine goes_ Try.func85 (by kernel_rfl) rfl #[.agg #[.int .i64 ((rd_T36 l0 (rd t398 x13_1)).f0.f0),.int .i64 ((rd_T36 l0 (rd t398 x13_1)).f0.f1),.int .i64 ((rd_T36 l0 (rd t398 x13_1)).f1.f0),.int .i64 ((rd_T36 l0 (rd t398 x13_1)).f1.f1),.int .i64 ((rd_T36 l0 (rd t398 x13_1)).f2),.int .i64 ((rd_T36 l0 (rd t398 x13_1)).f3),.int .i64 ((rd_T36 l0 (rd t398 x13_1)).f4)],.int .i64 x398001_1] (by rfl) rfl rfl (by (try simp only [List.map_toArray,List.map_cons,List.map_nil]);first | done | rfl) ?_
          with_reducible refine (R_most.calls k1 ((rd_T36 l0 (rd t398 x13_1)).f0.f0) ((rd_T36 l0 (rd t398 x13_1)).f0.f1) ((rd_T36 l0 (rd t398 x13_1)).f1.f0) ((rd_T36 l0 (rd t398 x13_1)).f1.f1) ((rd_T36 l0 (rd t398 x13_1)).f2) ((rd_T36 l0 (rd t398 x13_1)).f3) ((rd_T36 l0 (rd t398 x13_1)).f4) x398001_1 t407 _ A17.out).mono ?_
          rintro e w22 ⟨rfl,hb⟩
          have HS2_ := (hb.cell (World.block_lt_of_cell? _ _ (hHeld.2.2.1))).trans (hHeld.2.2.1)
          have HS10_ := (hb.cell (World.block_lt_of_cell? _ _ (hHeld.2.2.2.2.2.2.2.2.2.2.1))).trans (hHeld.2.2.2.2.2.2.2.2.2.2.1)
          refine ⟨_,rfl,?_⟩
          have n0_ := aM_ (Kd.R_below (by (with_reducible repeat (first | apply Kd.R_alloc | apply Kd.R_drewN | apply Kd.R_drew));exact HO_10.out) hb)
          have n1_ := aM_ (kB_ (g := gb395) (o := .cells #[.int .i64 0,.int .i64 0] 34 (0,0)) (by (with_reducible repeat (first | refine kN_ ?_ _ | refine kD_ ?_ | refine kA_ ?_ _));exact BK395.out) hb)
          have n2_ := aM_ (kB_ (g := gb397) (o := .cells #[.int .i64 x398000_1,.int .i64 x398001_1] 34 (0,0)) (by (with_reducible repeat (first | refine kN_ ?_ _ | refine kD_ ?_ | refine kA_ ?_ _));exact BK397.out) hb)
          have n3_ := aM_ (bT_ (by repeat (first | (with_reducible first | exact HB.out | apply bA_ | apply bN_ | apply bD_ | refine bS_ ?_ GE395.out | refine bS_ ?_ GE397.out) | exact HB.out)) hb)
          clear HO_10
          clear BK395
          clear BK397
          clear HB
          have HO_10 := n0_
          have BK395 := n1_
          have BK397 := n2_
          have HB := n3_
          clear n0_ n1_ n2_ n3_
          (try clear hb)
          (try clear hb2)
          (try clear hk)
          (try clear hi)
          refine hK.out _ _ ⟨(blk_cell BK397.out 0).trans rfl,(blk_cell BK397.out 1).trans rfl,HS2_,((HB.out.cell (World.block_lt_of_cell? w _ hw403_0)).trans hw403_0),((HB.out.cell (World.block_lt_of_cell? w _ hw403_1)).trans hw403_1),((HB.out.cell (World.block_lt_of_cell? w _ hw403_2)).trans hw403_2),((HB.out.cell (World.block_lt_of_cell? w _ hw403_3)).trans hw403_3),((HB.out.cell (World.block_lt_of_cell? w _ hw403_4)).trans hw403_4),((HB.out.cell (World.block_lt_of_cell? w _ hw403_5)).trans hw403_5),((HB.out.cell (World.block_lt_of_cell? w _ hw403_6)).trans hw403_6),HS10_,((HB.out.cell (World.block_lt_of_cell? w _ hw406_0)).trans hw406_0),((HB.out.cell (World.block_lt_of_cell? w _ hw406_1)).trans hw406_1),((HB.out.cell (World.block_lt_of_cell? w _ hw406_2)).trans hw406_2),((HB.out.cell (World.block_lt_of_cell? w _ hw406_3)).trans hw406_3),((HB.out.cell (World.block_lt_of_cell? w _ hw406_4)).trans hw406_4),((HB.out.cell (World.block_lt_of_cell? w _ hw406_5)).trans hw406_5),((HB.out.cell (World.block_lt_of_cell? w _ hw406_6)).trans hw406_6)⟩ (fun hHeld => ?_)
          clear hK K
          refine norm_ (a' := ?_) ?_ ?_
          rotate_left
          ·show Act.put _ (some 58) _ = _
           simp only [Act.put,sB_,sZ_,sS_,i64_w,i32_w]
           rfl
          refine pure_ (i := 20) (N := some 59) (v := ?_) (a' := ?_) #[true,true,true,true,true,true,true,true,true,true,true,true,true,true,true,true,true,true,true,true,true,false] rfl rfl (any_of HT_.out (by kernel_rfl)) (fun _ _ _ h => h) (Or.inl ⟨by rfl,?_⟩) ?_ ?_
          rotate_left
          ·intro w'
           go_simp
           with_reducible rfl
          rotate_left
          ·simp only [Act.put,sB_,sZ_,sS_,i64_w,i32_w]
           rfl
          refine last_ (i := 21) (N := none) #[true,true,true,true,true,true,true,true,true,true,true,true,true,true,true,true,true,true,true,true,true,true] rfl rfl (one_of HT_.out (by kernel_rfl)) (by decide) (fun K hK => ?_)
          have hs23 : w22.cell? ⟨gb397,0,none⟩ = some (.int .i64 x398000_1) := (blk_cell BK397.out 0).trans rfl
          have hfs23 := blk_frozen BK397.out 0
          have hns23_0 := NB395_397.out
          have hms23_0 := NB397_395.out
          have hs24 : w22.cell? ⟨gb397,1,none⟩ = some (.int .i64 x398001_1) := (blk_cell BK397.out 1).trans rfl
          have hfs24 := blk_frozen BK397.out 1
          have hns24_0 := NB395_397.out
          have hms24_0 := NB397_395.out
          refine skip_ (w1 := ?_) (by rfl) rfl ?_ ?_
          rotate_left
          ·go_simp
           rfl
          refine hK.out _ _ ?_
          clear hK K
          refine done_ (done_of HT_.out (by kernel_rfl)) ?_
          have hnb25 := NB397_395.out
          have hnc25 := NB395_397.out
          have hcz26_0 : w22.cell? ⟨gb397,0,none⟩ = some (.int .i64 x398000_1) := (blk_cell BK397.out 0).trans rfl
          have hcz26_1 : w22.cell? ⟨gb397,1,none⟩ = some (.int .i64 x398001_1) := (blk_cell BK397.out 1).trans rfl
          have hfz26_0 := blk_frozen BK397.out 0
          have hfz26_1 := blk_frozen BK397.out 1
          try go_wp2
          go_roundg k1
          case measure => have := HK1.out;omega
          case rel => exact ⟨(decide (t404 ≤ t407)),(wrap64 (x13_1 + 1)),(t404),(t407),(by first | rfl | (simp;done) | (simp [*];done)),(by first | rfl | (simp;done) | (simp [*];done)),H',⟨by have := HK1.out;omega⟩,⟨by (with_reducible repeat (first | apply Kd.R_alloc | apply Kd.R_drewN | apply Kd.R_drew));exact Kd.R_mono (Kd.R_far (p := ⟨gb397,1,none⟩) (Kd.R_far (p := ⟨gb397,0,none⟩) (Kd.R_types HO_10.out BK397.out (by decide)) (fun _ hk => hk.2) (.int .i64 t404)) (fun _ hk => hk.2) (.int .i64 t407)) (fun _ hk => trivial)⟩,⟨by (with_reducible repeat (first | refine kN_ ?_ _ | refine kD_ ?_ | refine kA_ ?_ _));refine blk_far ?_ NB395_397.out _;(with_reducible repeat (first | refine kN_ ?_ _ | refine kD_ ?_ | refine kA_ ?_ _));refine blk_far ?_ NB395_397.out _;(with_reducible repeat (first | refine kN_ ?_ _ | refine kD_ ?_ | refine kA_ ?_ _));exact BK395.out⟩,⟨by (with_reducible repeat (first | refine kN_ ?_ _ | refine kD_ ?_ | refine kA_ ?_ _));refine blk_put (cs := #[.int .i64 t404,.int .i64 x398001_1]) ?_ 1 _ rfl;(with_reducible repeat (first | refine kN_ ?_ _ | refine kD_ ?_ | refine kA_ ?_ _));refine blk_put (cs := #[.int .i64 x398000_1,.int .i64 x398001_1]) ?_ 0 _ rfl;(with_reducible repeat (first | refine kN_ ?_ _ | refine kD_ ?_ | refine kA_ ?_ _));exact BK397.out⟩,⟨by repeat (first | (with_reducible first | exact HB.out | apply bA_ | apply bN_ | apply bD_ | refine bS_ ?_ GE395.out | refine bS_ ?_ GE397.out) | exact HB.out)⟩⟩
         ·replace c18 := Bool.eq_false_iff.mpr c18
          subst c18
          have H1 : (R_before.l0 k1 l0 t398 false (wrap64 (x13_1 + 1)) t404 t407) = some (r1,r2,r3) := by rw [if_neg (show ¬ (false = true) by decide)] at H;exact H
          clear H
          have H := H1
          clear H1
          have H' := aM_ H
          clear H
          obtain ⟨Ao27,co27,eo27⟩ := Kd.R_slice HO_10.out
          subst eo27
          try go_wp2
          have n0_ := aM_ (Kd.R_drew HO_10.out)
          have n1_ := aM_ (kD_ BK395.out)
          have n2_ := aM_ (kD_ BK397.out)
          have n3_ := aM_ (bD_ HB.out)
          clear HO_10
          clear BK395
          clear BK397
          clear HB
          have HO_10 := n0_
          have BK395 := n1_
          have BK397 := n2_
          have HB := n3_
          clear n0_ n1_ n2_ n3_
          have p402 : 0 ≤ (x13_1 : Int) := of_decide_eq_true (by first | (with_reducible assumption) | assumption)
          have q402 : x13_1 < (t398.length : Int) := of_decide_eq_true (by first | (with_reducible assumption) | assumption)
          obtain ⟨ad402,e402,hx402_0⟩ := Kd.at_int (Kd.R_reads' HO_10.out).2.2 x13_1 p402 q402
          cases e402
          replace p402 := eq_true p402
          replace q402 := eq_true q402
          have p403 : 0 ≤ ((rd t398 x13_1) : Int) := of_decide_eq_true (by first | (with_reducible assumption) | assumption)
          have q403 : (rd t398 x13_1) < (l0.length : Int) := of_decide_eq_true (by first | (with_reducible assumption) | assumption)
          obtain ⟨ad403,e403,hx403_0,hx403_1,hx403_2,hx403_3,hx403_4,hx403_5,hx403_6⟩ := at_T36 HR0.out (rd t398 x13_1) p403 q403
          have hw403_6 := hx403_6
          have hw403_5 := hx403_5
          have hw403_4 := hx403_4
          have hw403_3 := hx403_3
          have hw403_2 := hx403_2
          have hw403_1 := hx403_1
          have hw403_0 := hx403_0
          obtain rfl : ad396 = ad403 := (by injection e403)
          replace hx403_0 := (HB.out.cell (World.block_lt_of_cell? w _ hx403_0)).trans hx403_0
          replace hx403_1 := (HB.out.cell (World.block_lt_of_cell? w _ hx403_1)).trans hx403_1
          replace hx403_2 := (HB.out.cell (World.block_lt_of_cell? w _ hx403_2)).trans hx403_2
          replace hx403_3 := (HB.out.cell (World.block_lt_of_cell? w _ hx403_3)).trans hx403_3
          replace hx403_4 := (HB.out.cell (World.block_lt_of_cell? w _ hx403_4)).trans hx403_4
          replace hx403_5 := (HB.out.cell (World.block_lt_of_cell? w _ hx403_5)).trans hx403_5
          replace hx403_6 := (HB.out.cell (World.block_lt_of_cell? w _ hx403_6)).trans hx403_6
          replace p403 := eq_true p403
          replace q403 := eq_true q403
          have p405 : 0 ≤ (x13_1 : Int) := of_decide_eq_true (by first | (with_reducible assumption) | assumption)
          have q405 : x13_1 < (t398.length : Int) := of_decide_eq_true (by first | (with_reducible assumption) | assumption)
          obtain ⟨ad405,e405,hx405_0⟩ := Kd.at_int (Kd.R_reads' HO_10.out).2.2 x13_1 p405 q405
          obtain rfl : ad402 = ad405 := (by injection e405)
          replace p405 := eq_true p405
          replace q405 := eq_true q405
          have p406 : 0 ≤ ((rd t398 x13_1) : Int) := of_decide_eq_true (by first | (with_reducible assumption) | assumption)
          have q406 : (rd t398 x13_1) < (l0.length : Int) := of_decide_eq_true (by first | (with_reducible assumption) | assumption)
          obtain ⟨ad406,e406,hx406_0,hx406_1,hx406_2,hx406_3,hx406_4,hx406_5,hx406_6⟩ := at_T36 HR0.out (rd t398 x13_1) p406 q406
          have hw406_6 := hx406_6
          have hw406_5 := hx406_5
          have hw406_4 := hx406_4
          have hw406_3 := hx406_3
          have hw406_2 := hx406_2
          have hw406_1 := hx406_1
          have hw406_0 := hx406_0
          obtain rfl : ad396 = ad406 := (by injection e406)
          replace hx406_0 := (HB.out.cell (World.block_lt_of_cell? w _ hx406_0)).trans hx406_0
          replace hx406_1 := (HB.out.cell (World.block_lt_of_cell? w _ hx406_1)).trans hx406_1
          replace hx406_2 := (HB.out.cell (World.block_lt_of_cell? w _ hx406_2)).trans hx406_2
          replace hx406_3 := (HB.out.cell (World.block_lt_of_cell? w _ hx406_3)).trans hx406_3
          replace hx406_4 := (HB.out.cell (World.block_lt_of_cell? w _ hx406_4)).trans hx406_4
          replace hx406_5 := (HB.out.cell (World.block_lt_of_cell? w _ hx406_5)).trans hx406_5
          replace hx406_6 := (HB.out.cell (World.block_lt_of_cell? w _ hx406_6)).trans hx406_6
          replace p406 := eq_true p406
          replace q406 := eq_true q406
          refine start_ (n := 22) (S := fun w' => w'.cell? ⟨gb397,0,none⟩ = some (.int .i64 x398000_1) ∧ w'.cell? ⟨gb397,1,none⟩ = some (.int .i64 x398001_1) ∧ w'.cell? (ad402.add (x13_1).toNat) = some (.int .i64 (rd t398 x13_1)) ∧ w'.cell? (ad396.add (((rd t398 x13_1)).toNat * 7)) = some (.int .i64 ((rd_T36 l0 (rd t398 x13_1)).f0.f0)) ∧ w'.cell? ⟨(ad396.add (((rd t398 x13_1)).toNat * 7)).block,(ad396.add (((rd t398 x13_1)).toNat * 7)).off + 1,none⟩ = some (.int .i64 ((rd_T36 l0 (rd t398 x13_1)).f0.f1)) ∧ w'.cell? ⟨(ad396.add (((rd t398 x13_1)).toNat * 7)).block,(ad396.add (((rd t398 x13_1)).toNat * 7)).off + 2,none⟩ = some (.int .i64 ((rd_T36 l0 (rd t398 x13_1)).f1.f0)) ∧ w'.cell? ⟨(ad396.add (((rd t398 x13_1)).toNat * 7)).block,(ad396.add (((rd t398 x13_1)).toNat * 7)).off + 3,none⟩ = some (.int .i64 ((rd_T36 l0 (rd t398 x13_1)).f1.f1)) ∧ w'.cell? ⟨(ad396.add (((rd t398 x13_1)).toNat * 7)).block,(ad396.add (((rd t398 x13_1)).toNat * 7)).off + 4,none⟩ = some (.int .i64 ((rd_T36 l0 (rd t398 x13_1)).f2)) ∧ w'.cell? ⟨(ad396.add (((rd t398 x13_1)).toNat * 7)).block,(ad396.add (((rd t398 x13_1)).toNat * 7)).off + 5,none⟩ = some (.int .i64 ((rd_T36 l0 (rd t398 x13_1)).f3)) ∧ w'.cell? ⟨(ad396.add (((rd t398 x13_1)).toNat * 7)).block,(ad396.add (((rd t398 x13_1)).toNat * 7)).off + 6,none⟩ = some (.int .i64 ((rd_T36 l0 (rd t398 x13_1)).f4)) ∧ w'.cell? (ad402.add (x13_1).toNat) = some (.int .i64 (rd t398 x13_1)) ∧ w'.cell? (ad396.add (((rd t398 x13_1)).toNat * 7)) = some (.int .i64 ((rd_T36 l0 (rd t398 x13_1)).f0.f0)) ∧ w'.cell? ⟨(ad396.add (((rd t398 x13_1)).toNat * 7)).block,(ad396.add (((rd t398 x13_1)).toNat * 7)).off + 1,none⟩ = some (.int .i64 ((rd_T36 l0 (rd t398 x13_1)).f0.f1)) ∧ w'.cell? ⟨(ad396.add (((rd t398 x13_1)).toNat * 7)).block,(ad396.add (((rd t398 x13_1)).toNat * 7)).off + 2,none⟩ = some (.int .i64 ((rd_T36 l0 (rd t398 x13_1)).f1.f0)) ∧ w'.cell? ⟨(ad396.add (((rd t398 x13_1)).toNat * 7)).block,(ad396.add (((rd t398 x13_1)).toNat * 7)).off + 3,none⟩ = some (.int .i64 ((rd_T36 l0 (rd t398 x13_1)).f1.f1)) ∧ w'.cell? ⟨(ad396.add (((rd t398 x13_1)).toNat * 7)).block,(ad396.add (((rd t398 x13_1)).toNat * 7)).off + 4,none⟩ = some (.int .i64 ((rd_T36 l0 (rd t398 x13_1)).f2)) ∧ w'.cell? ⟨(ad396.add (((rd t398 x13_1)).toNat * 7)).block,(ad396.add (((rd t398 x13_1)).toNat * 7)).off + 5,none⟩ = some (.int .i64 ((rd_T36 l0 (rd t398 x13_1)).f3)) ∧ w'.cell? ⟨(ad396.add (((rd t398 x13_1)).toNat * 7)).block,(ad396.add (((rd t398 x13_1)).toNat * 7)).off + 6,none⟩ = some (.int .i64 ((rd_T36 l0 (rd t398 x13_1)).f4))) (ds := [21]) #[false,false,false,false,false,false,false,false,false,false,false,false,false,false,false,false,false,false,false,false,false,false] (by kernel_rfl) rfl rfl ⟨(blk_cell BK397.out 0).trans rfl,(blk_cell BK397.out 1).trans rfl,hx402_0,((HB.out.cell (World.block_lt_of_cell? w _ hw403_0)).trans hw403_0),((HB.out.cell (World.block_lt_of_cell? w _ hw403_1)).trans hw403_1),((HB.out.cell (World.block_lt_of_cell? w _ hw403_2)).trans hw403_2),((HB.out.cell (World.block_lt_of_cell? w _ hw403_3)).trans hw403_3),((HB.out.cell (World.block_lt_of_cell? w _ hw403_4)).trans hw403_4),((HB.out.cell (World.block_lt_of_cell? w _ hw403_5)).trans hw403_5),((HB.out.cell (World.block_lt_of_cell? w _ hw403_6)).trans hw403_6),hx405_0,((HB.out.cell (World.block_lt_of_cell? w _ hw406_0)).trans hw406_0),((HB.out.cell (World.block_lt_of_cell? w _ hw406_1)).trans hw406_1),((HB.out.cell (World.block_lt_of_cell? w _ hw406_2)).trans hw406_2),((HB.out.cell (World.block_lt_of_cell? w _ hw406_3)).trans hw406_3),((HB.out.cell (World.block_lt_of_cell? w _ hw406_4)).trans hw406_4),((HB.out.cell (World.block_lt_of_cell? w _ hw406_5)).trans hw406_5),((HB.out.cell (World.block_lt_of_cell? w _ hw406_6)).trans hw406_6)⟩ (fun hHeld => ?_);refine with_tabW R_before.tab8 R_before.bits8 (fun HT_ HW_ => ?_)
          generalize wr.drew = w28 at HO_10 BK395 BK397 HB hx402_0 hx403_0 hx403_1 hx403_2 hx403_3 hx403_4 hx403_5 hx403_6 hx405_0 hx406_0 hx406_1 hx406_2 hx406_3 hx406_4 hx406_5 hx406_6 hHeld ⊢
          refine pure_ (i := 0) (N := some 39) (v := ?_) (a' := ?_) #[true,false,false,false,false,false,false,false,false,false,false,false,false,false,false,false,false,false,false,false,false,false] rfl rfl (any_of HT_.out (by kernel_rfl)) (fun _ _ _ h => h) (Or.inl ⟨by rfl,?_⟩) ?_ ?_
          rotate_left
          ·intro w'
           go_simp
           with_reducible rfl
          rotate_left
          ·simp only [Act.put,sB_,sZ_,sS_,i64_w,i32_w]
           rfl
          refine pure_ (i := 1) (N := some 40) (v := ?_) (a' := ?_) #[true,true,false,false,false,false,false,false,false,false,false,false,false,false,false,false,false,false,false,false,false,false] rfl rfl (any_of HT_.out (by kernel_rfl)) (fun _ _ _ h => h) (Or.inl ⟨by rfl,?_⟩) ?_ ?_
          rotate_left
          ·intro w'
           go_simp
           with_reducible rfl
          rotate_left
          ·simp only [Act.put,sB_,sZ_,sS_,i64_w,i32_w]
           rfl
          refine pure_ (i := 2) (N := some 41) (v := ?_) (a' := ?_) #[true,true,true,false,false,false,false,false,false,false,false,false,false,false,false,false,false,false,false,false,false,false] rfl rfl (any_of HT_.out (by kernel_rfl)) (fun _ _ _ h => h) (Or.inl ⟨by rfl,?_⟩) ?_ ?_
          rotate_left
          ·intro w'
           go_simp
           with_reducible rfl
          rotate_left
          ·simp only [Act.put,sB_,sZ_,sS_,i64_w,i32_w]
           rfl
          refine pure_ (i := 3) (N := some 42) (v := ?_) (a' := ?_) #[true,true,true,true,false,false,false,false,false,false,false,false,false,false,false,false,false,false,false,false,false,false] rfl rfl (any_of HT_.out (by kernel_rfl)) (fun _ _ _ h => h) (Or.inl ⟨by rfl,?_⟩) ?_ ?_
          rotate_left
          ·intro w'
           go_simp
           with_reducible rfl
          rotate_left
          ·simp only [Act.put,sB_,sZ_,sS_,i64_w,i32_w]
           rfl
          refine pure_ (i := 7) (N := some 46) (v := ?_) (a' := ?_) #[true,true,true,true,false,false,false,true,false,false,false,false,false,false,false,false,false,false,false,false,false,false] rfl rfl (any_of HT_.out (by kernel_rfl)) (fun _ _ _ h => h) (Or.inl ⟨by rfl,?_⟩) ?_ ?_
          rotate_left
          ·intro w'
           go_simp
           with_reducible rfl
          rotate_left
          ·simp only [Act.put,sB_,sZ_,sS_,i64_w,i32_w]
           rfl
          refine pure_ (i := 10) (N := some 49) (v := ?_) (a' := ?_) #[true,true,true,true,false,false,false,true,false,false,true,false,false,false,false,false,false,false,false,false,false,false] rfl rfl (any_of HT_.out (by kernel_rfl)) (fun _ _ _ h => h) (Or.inl ⟨by rfl,?_⟩) ?_ ?_
          rotate_left
          ·intro w'
           go_simp
           with_reducible rfl
          rotate_left
          ·simp only [Act.put,sB_,sZ_,sS_,i64_w,i32_w]
           rfl
          refine pure_ (i := 11) (N := some 50) (v := ?_) (a' := ?_) #[true,true,true,true,false,false,false,true,false,false,true,true,false,false,false,false,false,false,false,false,false,false] rfl rfl (any_of HT_.out (by kernel_rfl)) (fun _ _ _ h => h) (Or.inl ⟨by rfl,?_⟩) ?_ ?_
          rotate_left
          ·intro w'
           go_simp
           with_reducible rfl
          rotate_left
          ·simp only [Act.put,sB_,sZ_,sS_,i64_w,i32_w]
           rfl
          refine pure_ (i := 12) (N := some 51) (v := ?_) (a' := ?_) #[true,true,true,true,false,false,false,true,false,false,true,true,true,false,false,false,false,false,false,false,false,false] rfl rfl (any_of HT_.out (by kernel_rfl)) (fun _ _ _ h => h) (Or.inl ⟨by rfl,?_⟩) ?_ ?_
          rotate_left
          ·intro w'
           go_simp
           with_reducible rfl
          rotate_left
          ·simp only [Act.put,sB_,sZ_,sS_,i64_w,i32_w]
           rfl
          refine pure_ (i := 13) (N := some 52) (v := ?_) (a' := ?_) #[true,true,true,true,false,false,false,true,false,false,true,true,true,true,false,false,false,false,false,false,false,false] rfl rfl (any_of HT_.out (by kernel_rfl)) (fun _ _ _ h => h) (Or.inl ⟨by rfl,?_⟩) ?_ ?_
          rotate_left
          ·intro w'
           go_simp
           with_reducible rfl
          rotate_left
          ·simp only [Act.put,sB_,sZ_,sS_,i64_w,i32_w]
           rfl
          refine pure_ (i := 17) (N := some 56) (v := ?_) (a' := ?_) #[true,true,true,true,false,false,false,true,false,false,true,true,true,true,false,false,false,true,false,false,false,false] rfl rfl (any_of HT_.out (by kernel_rfl)) (fun _ _ _ h => h) (Or.inl ⟨by rfl,?_⟩) ?_ ?_
          rotate_left
          ·intro w'
           go_simp
           with_reducible rfl
          rotate_left
          ·simp only [Act.put,sB_,sZ_,sS_,i64_w,i32_w]
           rfl
          refine take_ (i := 4) (N := some 43) (v := ?_) (a' := ?_) #[true,true,true,true,true,false,false,true,false,false,true,true,true,true,false,false,false,true,false,false,false,false] rfl rfl (take_ofW HT_.out HW_.out (by kernel_rfl)) (fun _ _ _ h => h) (Or.inl ⟨by rfl,?_⟩) hHeld ?_ ?_
          rotate_left
          ·rintro w' ⟨s0,s1,s2,s3,s4,s5,s6,s7,s8,s9,s10,s11,s12,s13,s14,s15,s16,s17⟩
           go_simp
           with_reducible rfl
          rotate_left
          ·simp only [Act.put,sB_,sZ_,sS_,i64_w,i32_w]
           rfl
          refine pure_ (i := 5) (N := some 44) (v := ?_) (a' := ?_) #[true,true,true,true,true,true,false,true,false,false,true,true,true,true,false,false,false,true,false,false,false,false] rfl rfl (any_of HT_.out (by kernel_rfl)) (fun _ _ _ h => h) (Or.inl ⟨by rfl,?_⟩) ?_ ?_
          rotate_left
          ·intro w'
           go_simp
           with_reducible rfl
          rotate_left
          ·simp only [Act.put,sB_,sZ_,sS_,i64_w,i32_w]
           rfl
          refine take_ (i := 6) (N := some 45) (v := ?_) (a' := ?_) #[true,true,true,true,true,true,true,true,false,false,true,true,true,true,false,false,false,true,false,false,false,false] rfl rfl (take_ofW HT_.out HW_.out (by kernel_rfl)) (fun _ _ _ h => h) (Or.inl ⟨by rfl,?_⟩) hHeld ?_ ?_
          rotate_left
          ·rintro w' ⟨s0,s1,s2,s3,s4,s5,s6,s7,s8,s9,s10,s11,s12,s13,s14,s15,s16,s17⟩
           go_simp
           with_reducible rfl
          rotate_left
          ·simp only [Act.put,sB_,sZ_,sS_,i64_w,i32_w]
           rfl
          refine take_ (i := 8) (N := some 47) (v := ?_) (a' := ?_) #[true,true,true,true,true,true,true,true,true,false,true,true,true,true,false,false,false,true,false,false,false,false] rfl rfl (take_ofW HT_.out HW_.out (by kernel_rfl)) (fun _ _ _ h => h) (Or.inl ⟨by rfl,?_⟩) hHeld ?_ ?_
          rotate_left
          ·rintro w' ⟨s0,s1,s2,s3,s4,s5,s6,s7,s8,s9,s10,s11,s12,s13,s14,s15,s16,s17⟩
           go_simp
           with_reducible rfl
          rotate_left
          ·simp only [Act.put,sB_,sZ_,sS_,i64_w,i32_w]
           rfl
          refine take_ (i := 14) (N := some 53) (v := ?_) (a' := ?_) #[true,true,true,true,true,true,true,true,true,false,true,true,true,true,true,false,false,true,false,false,false,false] rfl rfl (take_ofW HT_.out HW_.out (by kernel_rfl)) (fun _ _ _ h => h) (Or.inl ⟨by rfl,?_⟩) hHeld ?_ ?_
          rotate_left
          ·rintro w' ⟨s0,s1,s2,s3,s4,s5,s6,s7,s8,s9,s10,s11,s12,s13,s14,s15,s16,s17⟩
           go_simp
           with_reducible rfl
          rotate_left
          ·simp only [Act.put,sB_,sZ_,sS_,i64_w,i32_w]
           rfl
          refine pure_ (i := 15) (N := some 54) (v := ?_) (a' := ?_) #[true,true,true,true,true,true,true,true,true,false,true,true,true,true,true,true,false,true,false,false,false,false] rfl rfl (any_of HT_.out (by kernel_rfl)) (fun _ _ _ h => h) (Or.inl ⟨by rfl,?_⟩) ?_ ?_
          rotate_left
          ·intro w'
           go_simp
           with_reducible rfl
          rotate_left
          ·simp only [Act.put,sB_,sZ_,sS_,i64_w,i32_w]
           rfl
          refine take_ (i := 16) (N := some 55) (v := ?_) (a' := ?_) #[true,true,true,true,true,true,true,true,true,false,true,true,true,true,true,true,true,true,false,false,false,false] rfl rfl (take_ofW HT_.out HW_.out (by kernel_rfl)) (fun _ _ _ h => h) (Or.inl ⟨by rfl,?_⟩) hHeld ?_ ?_
          rotate_left
          ·rintro w' ⟨s0,s1,s2,s3,s4,s5,s6,s7,s8,s9,s10,s11,s12,s13,s14,s15,s16,s17⟩
           go_simp
           with_reducible rfl
          rotate_left
          ·simp only [Act.put,sB_,sZ_,sS_,i64_w,i32_w]
           rfl
          refine take_ (i := 18) (N := some 57) (v := ?_) (a' := ?_) #[true,true,true,true,true,true,true,true,true,false,true,true,true,true,true,true,true,true,true,false,false,false] rfl rfl (take_ofW HT_.out HW_.out (by kernel_rfl)) (fun _ _ _ h => h) (Or.inl ⟨by rfl,?_⟩) hHeld ?_ ?_
          rotate_left
          ·rintro w' ⟨s0,s1,s2,s3,s4,s5,s6,s7,s8,s9,s10,s11,s12,s13,s14,s15,s16,s17⟩
           go_simp
           with_reducible rfl
          rotate_left
          ·simp only [Act.put,sB_,sZ_,sS_,i64_w,i32_w]
           rfl
          refine one_ (i := 9) (N := some 48) #[true,true,true,true,true,true,true,true,true,true,true,true,true,true,true,true,true,true,true,false,false,false] rfl rfl (one_of HT_.out (by kernel_rfl)) (by decide) (fun K hK => ?_)
          refine goes_ Try.func84 (by kernel_rfl) rfl #[.agg #[.int .i64 ((rd_T36 l0 (rd t398 x13_1)).f0.f0),.int .i64 ((rd_T36 l0 (rd t398 x13_1)).f0.f1),.int .i64 ((rd_T36 l0 (rd t398 x13_1)).f1.f0),.int .i64 ((rd_T36 l0 (rd t398 x13_1)).f1.f1),.int .i64 ((rd_T36 l0 (rd t398 x13_1)).f2),.int .i64 ((rd_T36 l0 (rd t398 x13_1)).f3),.int .i64 ((rd_T36 l0 (rd t398 x13_1)).f4)],.int .i64 x398000_1] (by rfl) rfl rfl (by (try simp only [List.map_toArray,List.map_cons,List.map_nil]);first | done | rfl) ?_
          with_reducible refine (R_least.calls k1 ((rd_T36 l0 (rd t398 x13_1)).f0.f0) ((rd_T36 l0 (rd t398 x13_1)).f0.f1) ((rd_T36 l0 (rd t398 x13_1)).f1.f0) ((rd_T36 l0 (rd t398 x13_1)).f1.f1) ((rd_T36 l0 (rd t398 x13_1)).f2) ((rd_T36 l0 (rd t398 x13_1)).f3) ((rd_T36 l0 (rd t398 x13_1)).f4) x398000_1 t404 _ A16.out).mono ?_
          rintro e w29 ⟨rfl,hb⟩
          have HS2_ := (hb.cell (World.block_lt_of_cell? _ _ (hHeld.2.2.1))).trans (hHeld.2.2.1)
          have HS10_ := (hb.cell (World.block_lt_of_cell? _ _ (hHeld.2.2.2.2.2.2.2.2.2.2.1))).trans (hHeld.2.2.2.2.2.2.2.2.2.2.1)
          refine ⟨_,rfl,?_⟩
          have n0_ := aM_ (Kd.R_below (by (with_reducible repeat (first | apply Kd.R_alloc | apply Kd.R_drewN | apply Kd.R_drew));exact HO_10.out) hb)
          have n1_ := aM_ (kB_ (g := gb395) (o := .cells #[.int .i64 0,.int .i64 0] 34 (0,0)) (by (with_reducible repeat (first | refine kN_ ?_ _ | refine kD_ ?_ | refine kA_ ?_ _));exact BK395.out) hb)
          have n2_ := aM_ (kB_ (g := gb397) (o := .cells #[.int .i64 x398000_1,.int .i64 x398001_1] 34 (0,0)) (by (with_reducible repeat (first | refine kN_ ?_ _ | refine kD_ ?_ | refine kA_ ?_ _));exact BK397.out) hb)
          have n3_ := aM_ (bT_ (by repeat (first | (with_reducible first | exact HB.out | apply bA_ | apply bN_ | apply bD_ | refine bS_ ?_ GE395.out | refine bS_ ?_ GE397.out) | exact HB.out)) hb)
          clear HO_10
          clear BK395
          clear BK397
          clear HB
          have HO_10 := n0_
          have BK395 := n1_
          have BK397 := n2_
          have HB := n3_
          clear n0_ n1_ n2_ n3_
          (try clear hb)
          (try clear hb2)
          (try clear hk)
          (try clear hi)
          refine hK.out _ _ ⟨(blk_cell BK397.out 0).trans rfl,(blk_cell BK397.out 1).trans rfl,HS2_,((HB.out.cell (World.block_lt_of_cell? w _ hw403_0)).trans hw403_0),((HB.out.cell (World.block_lt_of_cell? w _ hw403_1)).trans hw403_1),((HB.out.cell (World.block_lt_of_cell? w _ hw403_2)).trans hw403_2),((HB.out.cell (World.block_lt_of_cell? w _ hw403_3)).trans hw403_3),((HB.out.cell (World.block_lt_of_cell? w _ hw403_4)).trans hw403_4),((HB.out.cell (World.block_lt_of_cell? w _ hw403_5)).trans hw403_5),((HB.out.cell (World.block_lt_of_cell? w _ hw403_6)).trans hw403_6),HS10_,((HB.out.cell (World.block_lt_of_cell? w _ hw406_0)).trans hw406_0),((HB.out.cell (World.block_lt_of_cell? w _ hw406_1)).trans hw406_1),((HB.out.cell (World.block_lt_of_cell? w _ hw406_2)).trans hw406_2),((HB.out.cell (World.block_lt_of_cell? w _ hw406_3)).trans hw406_3),((HB.out.cell (World.block_lt_of_cell? w _ hw406_4)).trans hw406_4),((HB.out.cell (World.block_lt_of_cell? w _ hw406_5)).trans hw406_5),((HB.out.cell (World.block_lt_of_cell? w _ hw406_6)).trans hw406_6)⟩ (fun hHeld => ?_)
          clear hK K
          refine norm_ (a' := ?_) ?_ ?_
          rotate_left
          ·show Act.put _ (some 48) _ = _
           simp only [Act.put,sB_,sZ_,sS_,i64_w,i32_w]
           rfl
          refine one_ (i := 19) (N := some 58) #[true,true,true,true,true,true,true,true,true,true,true,true,true,true,true,true,true,true,true,true,false,false] rfl rfl (one_of HT_.out (by kernel_rfl)) (by decide) (fun K hK => ?_)
          refine goes_ Try.func85 (by kernel_rfl) rfl #[.agg #[.int .i64 ((rd_T36 l0 (rd t398 x13_1)).f0.f0),.int .i64 ((rd_T36 l0 (rd t398 x13_1)).f0.f1),.int .i64 ((rd_T36 l0 (rd t398 x13_1)).f1.f0),.int .i64 ((rd_T36 l0 (rd t398 x13_1)).f1.f1),.int .i64 ((rd_T36 l0 (rd t398 x13_1)).f2),.int .i64 ((rd_T36 l0 (rd t398 x13_1)).f3),.int .i64 ((rd_T36 l0 (rd t398 x13_1)).f4)],.int .i64 x398001_1] (by rfl) rfl rfl (by (try simp only [List.map_toArray,List.map_cons,List.map_nil]);first | done | rfl) ?_
          with_reducible refine (R_most.calls k1 ((rd_T36 l0 (rd t398 x13_1)).f0.f0) ((rd_T36 l0 (rd t398 x13_1)).f0.f1) ((rd_T36 l0 (rd t398 x13_1)).f1.f0) ((rd_T36 l0 (rd t398 x13_1)).f1.f1) ((rd_T36 l0 (rd t398 x13_1)).f2) ((rd_T36 l0 (rd t398 x13_1)).f3) ((rd_T36 l0 (rd t398 x13_1)).f4) x398001_1 t407 _ A17.out).mono ?_
          rintro e w30 ⟨rfl,hb⟩
          have HS2_ := (hb.cell (World.block_lt_of_cell? _ _ (hHeld.2.2.1))).trans (hHeld.2.2.1)
          have HS10_ := (hb.cell (World.block_lt_of_cell? _ _ (hHeld.2.2.2.2.2.2.2.2.2.2.1))).trans (hHeld.2.2.2.2.2.2.2.2.2.2.1)
          refine ⟨_,rfl,?_⟩
          have n0_ := aM_ (Kd.R_below (by (with_reducible repeat (first | apply Kd.R_alloc | apply Kd.R_drewN | apply Kd.R_drew));exact HO_10.out) hb)
          have n1_ := aM_ (kB_ (g := gb395) (o := .cells #[.int .i64 0,.int .i64 0] 34 (0,0)) (by (with_reducible repeat (first | refine kN_ ?_ _ | refine kD_ ?_ | refine kA_ ?_ _));exact BK395.out) hb)
          have n2_ := aM_ (kB_ (g := gb397) (o := .cells #[.int .i64 x398000_1,.int .i64 x398001_1] 34 (0,0)) (by (with_reducible repeat (first | refine kN_ ?_ _ | refine kD_ ?_ | refine kA_ ?_ _));exact BK397.out) hb)
          have n3_ := aM_ (bT_ (by repeat (first | (with_reducible first | exact HB.out | apply bA_ | apply bN_ | apply bD_ | refine bS_ ?_ GE395.out | refine bS_ ?_ GE397.out) | exact HB.out)) hb)
          clear HO_10
          clear BK395
          clear BK397
          clear HB
          have HO_10 := n0_
          have BK395 := n1_
          have BK397 := n2_
          have HB := n3_
          clear n0_ n1_ n2_ n3_
          (try clear hb)
          (try clear hb2)
          (try clear hk)
          (try clear hi)
          refine hK.out _ _ ⟨(blk_cell BK397.out 0).trans rfl,(blk_cell BK397.out 1).trans rfl,HS2_,((HB.out.cell (World.block_lt_of_cell? w _ hw403_0)).trans hw403_0),((HB.out.cell (World.block_lt_of_cell? w _ hw403_1)).trans hw403_1),((HB.out.cell (World.block_lt_of_cell? w _ hw403_2)).trans hw403_2),((HB.out.cell (World.block_lt_of_cell? w _ hw403_3)).trans hw403_3),((HB.out.cell (World.block_lt_of_cell? w _ hw403_4)).trans hw403_4),((HB.out.cell (World.block_lt_of_cell? w _ hw403_5)).trans hw403_5),((HB.out.cell (World.block_lt_of_cell? w _ hw403_6)).trans hw403_6),HS10_,((HB.out.cell (World.block_lt_of_cell? w _ hw406_0)).trans hw406_0),((HB.out.cell (World.block_lt_of_cell? w _ hw406_1)).trans hw406_1),((HB.out.cell (World.block_lt_of_cell? w _ hw406_2)).trans hw406_2),((HB.out.cell (World.block_lt_of_cell? w _ hw406_3)).trans hw406_3),((HB.out.cell (World.block_lt_of_cell? w _ hw406_4)).trans hw406_4),((HB.out.cell (World.block_lt_of_cell? w _ hw406_5)).trans hw406_5),((HB.out.cell (World.block_lt_of_cell? w _ hw406_6)).trans hw406_6)⟩ (fun hHeld => ?_)
          clear hK K
          refine norm_ (a' := ?_) ?_ ?_
          rotate_left
          ·show Act.put _ (some 58) _ = _
           simp only [Act.put,sB_,sZ_,sS_,i64_w,i32_w]
           rfl
          refine pure_ (i := 20) (N := some 59) (v := ?_) (a' := ?_) #[true,true,true,true,true,true,true,true,true,true,true,true,true,true,true,true,true,true,true,true,true,false] rfl rfl (any_of HT_.out (by kernel_rfl)) (fun _ _ _ h => h) (Or.inl ⟨by rfl,?_⟩) ?_ ?_
          rotate_left
          ·intro w'
           go_simp
           with_reducible rfl
          rotate_left
          ·simp only [Act.put,sB_,sZ_,sS_,i64_w,i32_w]
           rfl
          refine last_ (i := 21) (N := none) #[true,true,true,true,true,true,true,true,true,true,true,true,true,true,true,true,true,true,true,true,true,true] rfl rfl (one_of HT_.out (by kernel_rfl)) (by decide) (fun K hK => ?_)
          have hs31 : w30.cell? ⟨gb397,0,none⟩ = some (.int .i64 x398000_1) := (blk_cell BK397.out 0).trans rfl
          have hfs31 := blk_frozen BK397.out 0
          have hns31_0 := NB395_397.out
          have hms31_0 := NB397_395.out
          have hs32 : w30.cell? ⟨gb397,1,none⟩ = some (.int .i64 x398001_1) := (blk_cell BK397.out 1).trans rfl
          have hfs32 := blk_frozen BK397.out 1
          have hns32_0 := NB395_397.out
          have hms32_0 := NB397_395.out
          refine skip_ (w1 := ?_) (by rfl) rfl ?_ ?_
          rotate_left
          ·go_simp
           rfl
          refine hK.out _ _ ?_
          clear hK K
          refine done_ (done_of HT_.out (by kernel_rfl)) ?_
          try go_wp2
          go_roundg k1
          case measure => have := HK1.out;omega
          case rel => exact ⟨(false),(wrap64 (x13_1 + 1)),(t404),(t407),(by first | rfl | (simp;done) | (simp [*];done)),(by first | rfl | (simp;done) | (simp [*];done)),H',⟨by have := HK1.out;omega⟩,⟨by (with_reducible repeat (first | apply Kd.R_alloc | apply Kd.R_drewN | apply Kd.R_drew));exact Kd.R_mono (Kd.R_far (p := ⟨gb397,1,none⟩) (Kd.R_far (p := ⟨gb397,0,none⟩) (Kd.R_types HO_10.out BK397.out (by decide)) (fun _ hk => hk.2) (.int .i64 t404)) (fun _ hk => hk.2) (.int .i64 t407)) (fun _ hk => trivial)⟩,⟨by (with_reducible repeat (first | refine kN_ ?_ _ | refine kD_ ?_ | refine kA_ ?_ _));refine blk_far ?_ NB395_397.out _;(with_reducible repeat (first | refine kN_ ?_ _ | refine kD_ ?_ | refine kA_ ?_ _));refine blk_far ?_ NB395_397.out _;(with_reducible repeat (first | refine kN_ ?_ _ | refine kD_ ?_ | refine kA_ ?_ _));exact BK395.out⟩,⟨by (with_reducible repeat (first | refine kN_ ?_ _ | refine kD_ ?_ | refine kA_ ?_ _));refine blk_put (cs := #[.int .i64 t404,.int .i64 x398001_1]) ?_ 1 _ rfl;(with_reducible repeat (first | refine kN_ ?_ _ | refine kD_ ?_ | refine kA_ ?_ _));refine blk_put (cs := #[.int .i64 x398000_1,.int .i64 x398001_1]) ?_ 0 _ rfl;(with_reducible repeat (first | refine kN_ ?_ _ | refine kD_ ?_ | refine kA_ ?_ _));exact BK397.out⟩,⟨by repeat (first | (with_reducible first | exact HB.out | apply bA_ | apply bN_ | apply bD_ | refine bS_ ?_ GE395.out | refine bS_ ?_ GE397.out) | exact HB.out)⟩⟩
        ·rw [if_neg c15] at H
         exact absurd H (by simp)
       ·rw [if_neg c14] at H
        exact absurd H (by simp)
      ·rw [if_neg c13] at H
       exact absurd H (by simp)
     ·rw [if_neg c12] at H
      have c12b0 : decide (x13_1 < (t398.length : Int)) = false := decide_eq_false c12
      clear c12
      obtain ⟨ji33,hji33⟩ : ∃ j_ : Int,(mx x398000_1 (-1000000000)) = j_ := ⟨_,rfl⟩
      replace H : (if x12_1 = true then (some (ji33,mn x398001_1 1000000000,decide ((ji33) ≤ (mn x398001_1 1000000000)))) else (some (ji33,mn x398001_1 1000000000,false))) = some (r1,r2,r3) := by first | (rw [hji33] at H;exact H) | (simp only [hji33] at H ⊢;exact H)
      have hji33_ : (if x398000_1 < (-1000000000) then (-1000000000) else x398000_1) = ji33 := hji33
      obtain ⟨ji34,hji34⟩ : ∃ j_ : Int,(mn x398001_1 1000000000) = j_ := ⟨_,rfl⟩
      replace H : (if x12_1 = true then (some (ji33,ji34,decide ((ji33) ≤ (ji34)))) else (some (ji33,ji34,false))) = some (r1,r2,r3) := by first | (rw [hji34] at H;exact H) | (simp only [hji34] at H ⊢;exact H)
      have hji34_ : (if 1000000000 < x398001_1 then 1000000000 else x398001_1) = ji34 := hji34
      by_cases c35 : x12_1 = true
      ·subst c35
       have H1 : (some (ji33,ji34,decide ((ji33) ≤ (ji34)))) = some (r1,r2,r3) := by rw [if_pos rfl] at H;exact H
       clear H
       have H := H1
       clear H1
       simp only [Option.some.injEq,Prod.mk.injEq] at H
       obtain ⟨rfl,rfl,rfl⟩ := H
       obtain ⟨Ao36,co36,eo36⟩ := Kd.R_slice HO_10.out
       subst eo36
       have hnb37 := NB397_395.out
       have hnc37 := NB395_397.out
       have hcz38_0 : wr.cell? ⟨gb397,0,none⟩ = some (.int .i64 x398000_1) := (blk_cell BK397.out 0).trans rfl
       have hcz38_1 : wr.cell? ⟨gb397,1,none⟩ = some (.int .i64 x398001_1) := (blk_cell BK397.out 1).trans rfl
       have hfz38_0 := blk_frozen BK397.out 0
       have hfz38_1 := blk_frozen BK397.out 1
       try go_wp2
       have n0_ : Aside0 (Kd.R (Kd.int .i64) 3 ((wr.setCell ⟨gb397,0,none⟩ (.int .i64 ji33)).setCell ⟨gb397,1,none⟩ (.int .i64 ji34)) w.heap.size (fun _ => True) (.slice Ao36 t398.length co36) t398) := ⟨by (with_reducible repeat (first | apply Kd.R_alloc | apply Kd.R_drewN | apply Kd.R_drew));exact Kd.R_mono (Kd.R_far (p := ⟨gb397,1,none⟩) (Kd.R_far (p := ⟨gb397,0,none⟩) (Kd.R_types HO_10.out BK397.out (by decide)) (fun _ hk => hk.2) (.int .i64 ji33)) (fun _ hk => hk.2) (.int .i64 ji34)) (fun _ hk => trivial)⟩
       have n1_ : Aside0 (((wr.setCell ⟨gb397,0,none⟩ (.int .i64 ji33)).setCell ⟨gb397,1,none⟩ (.int .i64 ji34)).heap[gb395]? = some (.cells #[.int .i64 0,.int .i64 0] 34 (0,0))) := ⟨by (with_reducible repeat (first | refine kN_ ?_ _ | refine kD_ ?_ | refine kA_ ?_ _));refine blk_far ?_ NB395_397.out _;(with_reducible repeat (first | refine kN_ ?_ _ | refine kD_ ?_ | refine kA_ ?_ _));refine blk_far ?_ NB395_397.out _;(with_reducible repeat (first | refine kN_ ?_ _ | refine kD_ ?_ | refine kA_ ?_ _));exact BK395.out⟩
       have n2_ : Aside0 (((wr.setCell ⟨gb397,0,none⟩ (.int .i64 ji33)).setCell ⟨gb397,1,none⟩ (.int .i64 ji34)).heap[gb397]? = some (.cells #[.int .i64 ji33,.int .i64 ji34] 34 (0,0))) := ⟨by (with_reducible repeat (first | refine kN_ ?_ _ | refine kD_ ?_ | refine kA_ ?_ _));refine blk_put (cs := #[.int .i64 ji33,.int .i64 x398001_1]) ?_ 1 _ rfl;(with_reducible repeat (first | refine kN_ ?_ _ | refine kD_ ?_ | refine kA_ ?_ _));refine blk_put (cs := #[.int .i64 x398000_1,.int .i64 x398001_1]) ?_ 0 _ rfl;(with_reducible repeat (first | refine kN_ ?_ _ | refine kD_ ?_ | refine kA_ ?_ _));exact BK397.out⟩
       have n3_ : Aside0 (Below w.heap.size w ((wr.setCell ⟨gb397,0,none⟩ (.int .i64 ji33)).setCell ⟨gb397,1,none⟩ (.int .i64 ji34))) := ⟨by repeat (first | (with_reducible first | exact HB.out | apply bA_ | apply bN_ | apply bD_ | refine bS_ ?_ GE395.out | refine bS_ ?_ GE397.out) | exact HB.out)⟩
       (try clear HO_10)
       (try clear BK395)
       (try clear BK397)
       (try clear HB)
       generalize ((wr.setCell ⟨gb397,0,none⟩ (.int .i64 ji33)).setCell ⟨gb397,1,none⟩ (.int .i64 ji34)) = w39 at n0_ n1_ n2_ n3_ ⊢
       have HO_10 := n0_
       have BK395 := n1_
       have BK397 := n2_
       have HB := n3_
       clear n0_ n1_ n2_ n3_
       have n0_ := aM_ (Kd.R_drew HO_10.out)
       have n1_ := aM_ (kD_ BK395.out)
       have n2_ := aM_ (kD_ BK397.out)
       have n3_ := aM_ (bD_ HB.out)
       clear HO_10
       clear BK395
       clear BK397
       clear HB
       have HO_10 := n0_
       have BK395 := n1_
       have BK397 := n2_
       have HB := n3_
       clear n0_ n1_ n2_ n3_
       refine start_ (n := 11) (S := fun w' => w'.cell? ⟨gb397,0,none⟩ = some (.int .i64 ji33) ∧ w'.cell? ⟨gb397,1,none⟩ = some (.int .i64 ji34)) (ds := []) #[false,false,false,false,false,false,false,false,false,false,false] (by kernel_rfl) rfl rfl ⟨(blk_cell BK397.out 0).trans rfl,(blk_cell BK397.out 1).trans rfl⟩ (fun hHeld => ?_);refine with_tabW R_before.tab11 R_before.bits11 (fun HT_ HW_ => ?_)
       generalize w39.drew = w40 at HO_10 BK395 BK397 HB hHeld ⊢
       refine pure_ (i := 1) (N := some 76) (v := ?_) (a' := ?_) #[false,true,false,false,false,false,false,false,false,false,false] rfl rfl (any_of HT_.out (by kernel_rfl)) (fun _ _ _ h => h) (Or.inl ⟨by rfl,?_⟩) ?_ ?_
       rotate_left
       ·intro w'
        go_simp
        with_reducible rfl
       rotate_left
       ·simp only [Act.put,sB_,sZ_,sS_,i64_w,i32_w]
        rfl
       refine pure_ (i := 2) (N := some 77) (v := ?_) (a' := ?_) #[false,true,true,false,false,false,false,false,false,false,false] rfl rfl (any_of HT_.out (by kernel_rfl)) (fun _ _ _ h => h) (Or.inl ⟨by rfl,?_⟩) ?_ ?_
       rotate_left
       ·intro w'
        go_simp
        with_reducible rfl
       rotate_left
       ·simp only [Act.put,sB_,sZ_,sS_,i64_w,i32_w]
        rfl
       refine pure_ (i := 3) (N := some 78) (v := ?_) (a' := ?_) #[false,true,true,true,false,false,false,false,false,false,false] rfl rfl (any_of HT_.out (by kernel_rfl)) (fun _ _ _ h => h) (Or.inl ⟨by rfl,?_⟩) ?_ ?_
       rotate_left
       ·intro w'
        go_simp
        with_reducible rfl
       rotate_left
       ·simp only [Act.put,sB_,sZ_,sS_,i64_w,i32_w]
        rfl
       refine pure_ (i := 5) (N := some 80) (v := ?_) (a' := ?_) #[false,true,true,true,false,true,false,false,false,false,false] rfl rfl (any_of HT_.out (by kernel_rfl)) (fun _ _ _ h => h) (Or.inl ⟨by rfl,?_⟩) ?_ ?_
       rotate_left
       ·intro w'
        go_simp
        with_reducible rfl
       rotate_left
       ·simp only [Act.put,sB_,sZ_,sS_,i64_w,i32_w]
        rfl
       refine take_ (i := 0) (N := some 75) (v := ?_) (a' := ?_) #[true,true,true,true,false,true,false,false,false,false,false] rfl rfl (take_ofW HT_.out HW_.out (by kernel_rfl)) (fun _ _ _ h => h) (Or.inl ⟨by rfl,?_⟩) hHeld ?_ ?_
       rotate_left
       ·rintro w' ⟨s0,s1⟩
        go_simp
        with_reducible rfl
       rotate_left
       ·simp only [Act.put,sB_,sZ_,sS_,i64_w,i32_w]
        rfl
       refine take_ (i := 4) (N := some 79) (v := ?_) (a' := ?_) #[true,true,true,true,true,true,false,false,false,false,false] rfl rfl (take_ofW HT_.out HW_.out (by kernel_rfl)) (fun _ _ _ h => h) (Or.inl ⟨by rfl,?_⟩) hHeld ?_ ?_
       rotate_left
       ·rintro w' ⟨s0,s1⟩
        go_simp
        with_reducible rfl
       rotate_left
       ·simp only [Act.put,sB_,sZ_,sS_,i64_w,i32_w]
        rfl
       refine take_ (i := 6) (N := some 81) (v := ?_) (a' := ?_) #[true,true,true,true,true,true,true,false,false,false,false] rfl rfl (take_ofW HT_.out HW_.out (by kernel_rfl)) (fun _ _ _ h => h) (Or.inl ⟨by rfl,?_⟩) hHeld ?_ ?_
       rotate_left
       ·rintro w' ⟨s0,s1⟩
        go_simp
        with_reducible rfl
       rotate_left
       ·simp only [Act.put,sB_,sZ_,sS_,i64_w,i32_w]
        rfl
       refine pure_ (i := 7) (N := some 82) (v := ?_) (a' := ?_) #[true,true,true,true,true,true,true,true,false,false,false] rfl rfl (any_of HT_.out (by kernel_rfl)) (fun _ _ _ h => h) (Or.inl ⟨by rfl,?_⟩) ?_ ?_
       rotate_left
       ·intro w'
        go_simp
        with_reducible rfl
       rotate_left
       ·simp only [Act.put,sB_,sZ_,sS_,i64_w,i32_w]
        rfl
       refine pure_ (i := 8) (N := some 83) (v := ?_) (a' := ?_) #[true,true,true,true,true,true,true,true,true,false,false] rfl rfl (any_of HT_.out (by kernel_rfl)) (fun _ _ _ h => h) (Or.inl ⟨by rfl,?_⟩) ?_ ?_
       rotate_left
       ·intro w'
        go_simp
        with_reducible rfl
       rotate_left
       ·simp only [Act.put,sB_,sZ_,sS_,i64_w,i32_w]
        rfl
       refine one_ (i := 9) (N := none) #[true,true,true,true,true,true,true,true,true,true,false] rfl rfl (one_of HT_.out (by kernel_rfl)) (by decide) (fun K hK => ?_)
       have hs41 : w40.cell? ⟨gb395,0,none⟩ = some (.int .i64 0) := (blk_cell BK395.out 0).trans rfl
       have hfs41 := blk_frozen BK395.out 0
       have hns41_1 := NB397_395.out
       have hms41_1 := NB395_397.out
       have hs42 : w40.cell? ⟨gb395,1,none⟩ = some (.int .i64 0) := (blk_cell BK395.out 1).trans rfl
       have hfs42 := blk_frozen BK395.out 1
       have hns42_1 := NB397_395.out
       have hms42_1 := NB395_397.out
       refine skip_ (w1 := ?_) (by rfl) rfl ?_ ?_
       rotate_left
       ·go_simp
        rfl
       refine hK.out _ _ ⟨((cell_far (p := ⟨gb395,_,none⟩) NB397_395.out _).trans (((cell_far (p := ⟨gb395,_,none⟩) NB397_395.out _).trans (hHeld.1)))),((cell_far (p := ⟨gb395,_,none⟩) NB397_395.out _).trans (((cell_far (p := ⟨gb395,_,none⟩) NB397_395.out _).trans (hHeld.2))))⟩ (fun hHeld => ?_)
       clear hK K
       refine pure_ (i := 10) (N := some 7) (v := ?_) (a' := ?_) #[true,true,true,true,true,true,true,true,true,true,true] rfl rfl (any_of HT_.out (by kernel_rfl)) (fun _ _ _ h => h) (Or.inl ⟨by rfl,?_⟩) ?_ ?_
       rotate_left
       ·intro w'
        go_simp
        with_reducible rfl
       rotate_left
       ·simp only [Act.put,sB_,sZ_,sS_,i64_w,i32_w]
        rfl
       refine done_ (done_of HT_.out (by kernel_rfl)) ?_
       try go_wp2
       refine bodyPost_ret (results_ct rfl _ _ gb395 34 #[.int .i64 ji33,.int .i64 ji34] (0,0) _ rfl (by (with_reducible repeat (first | refine kN_ ?_ _ | refine kD_ ?_ | refine kA_ ?_ _));refine blk_put (cs := #[.int .i64 ji33,.int .i64 0]) ?_ 1 _ rfl;(with_reducible repeat (first | refine kN_ ?_ _ | refine kD_ ?_ | refine kA_ ?_ _));refine blk_put (cs := #[.int .i64 0,.int .i64 0]) ?_ 0 _ rfl;(with_reducible repeat (first | refine kN_ ?_ _ | refine kD_ ?_ | refine kA_ ?_ _));exact BK395.out) Try.underlying34 rfl (by kernel_rfl)) rfl ?_
       exact ⟨by first | rfl | (simp [errW_none,errW_some] <;> rfl) | (simp only [← hji33,← hji34];first | rfl | (simp [errW_none,errW_some] <;> rfl)) | (simp [*,errW_none,errW_some] <;> rfl),by repeat (first | (with_reducible first | exact HB.out | apply bA_ | apply bN_ | apply bD_ | refine bS_ ?_ GE395.out | refine bS_ ?_ GE397.out) | exact HB.out)⟩
      ·replace c35 := Bool.eq_false_iff.mpr c35
       subst c35
       have H1 : (some (ji33,ji34,false)) = some (r1,r2,r3) := by rw [if_neg (show ¬ (false = true) by decide)] at H;exact H
       clear H
       have H := H1
       clear H1
       simp only [Option.some.injEq,Prod.mk.injEq] at H
       obtain ⟨rfl,rfl,rfl⟩ := H
       obtain ⟨Ao43,co43,eo43⟩ := Kd.R_slice HO_10.out
       subst eo43
       have hnb44 := NB397_395.out
       have hnc44 := NB395_397.out
       have hcz45_0 : wr.cell? ⟨gb397,0,none⟩ = some (.int .i64 x398000_1) := (blk_cell BK397.out 0).trans rfl
       have hcz45_1 : wr.cell? ⟨gb397,1,none⟩ = some (.int .i64 x398001_1) := (blk_cell BK397.out 1).trans rfl
       have hfz45_0 := blk_frozen BK397.out 0
       have hfz45_1 := blk_frozen BK397.out 1
       try go_wp2
       have n0_ : Aside0 (Kd.R (Kd.int .i64) 3 ((wr.setCell ⟨gb397,0,none⟩ (.int .i64 ji33)).setCell ⟨gb397,1,none⟩ (.int .i64 ji34)) w.heap.size (fun _ => True) (.slice Ao43 t398.length co43) t398) := ⟨by (with_reducible repeat (first | apply Kd.R_alloc | apply Kd.R_drewN | apply Kd.R_drew));exact Kd.R_mono (Kd.R_far (p := ⟨gb397,1,none⟩) (Kd.R_far (p := ⟨gb397,0,none⟩) (Kd.R_types HO_10.out BK397.out (by decide)) (fun _ hk => hk.2) (.int .i64 ji33)) (fun _ hk => hk.2) (.int .i64 ji34)) (fun _ hk => trivial)⟩
       have n1_ : Aside0 (((wr.setCell ⟨gb397,0,none⟩ (.int .i64 ji33)).setCell ⟨gb397,1,none⟩ (.int .i64 ji34)).heap[gb395]? = some (.cells #[.int .i64 0,.int .i64 0] 34 (0,0))) := ⟨by (with_reducible repeat (first | refine kN_ ?_ _ | refine kD_ ?_ | refine kA_ ?_ _));refine blk_far ?_ NB395_397.out _;(with_reducible repeat (first | refine kN_ ?_ _ | refine kD_ ?_ | refine kA_ ?_ _));refine blk_far ?_ NB395_397.out _;(with_reducible repeat (first | refine kN_ ?_ _ | refine kD_ ?_ | refine kA_ ?_ _));exact BK395.out⟩
       have n2_ : Aside0 (((wr.setCell ⟨gb397,0,none⟩ (.int .i64 ji33)).setCell ⟨gb397,1,none⟩ (.int .i64 ji34)).heap[gb397]? = some (.cells #[.int .i64 ji33,.int .i64 ji34] 34 (0,0))) := ⟨by (with_reducible repeat (first | refine kN_ ?_ _ | refine kD_ ?_ | refine kA_ ?_ _));refine blk_put (cs := #[.int .i64 ji33,.int .i64 x398001_1]) ?_ 1 _ rfl;(with_reducible repeat (first | refine kN_ ?_ _ | refine kD_ ?_ | refine kA_ ?_ _));refine blk_put (cs := #[.int .i64 x398000_1,.int .i64 x398001_1]) ?_ 0 _ rfl;(with_reducible repeat (first | refine kN_ ?_ _ | refine kD_ ?_ | refine kA_ ?_ _));exact BK397.out⟩
       have n3_ : Aside0 (Below w.heap.size w ((wr.setCell ⟨gb397,0,none⟩ (.int .i64 ji33)).setCell ⟨gb397,1,none⟩ (.int .i64 ji34))) := ⟨by repeat (first | (with_reducible first | exact HB.out | apply bA_ | apply bN_ | apply bD_ | refine bS_ ?_ GE395.out | refine bS_ ?_ GE397.out) | exact HB.out)⟩
       (try clear HO_10)
       (try clear BK395)
       (try clear BK397)
       (try clear HB)
       generalize ((wr.setCell ⟨gb397,0,none⟩ (.int .i64 ji33)).setCell ⟨gb397,1,none⟩ (.int .i64 ji34)) = w46 at n0_ n1_ n2_ n3_ ⊢
       have HO_10 := n0_
       have BK395 := n1_
       have BK397 := n2_
       have HB := n3_
       clear n0_ n1_ n2_ n3_
       have n0_ := aM_ (Kd.R_drew HO_10.out)
       have n1_ := aM_ (kD_ BK395.out)
       have n2_ := aM_ (kD_ BK397.out)
       have n3_ := aM_ (bD_ HB.out)
       clear HO_10
       clear BK395
       clear BK397
       clear HB
       have HO_10 := n0_
       have BK395 := n1_
       have BK397 := n2_
       have HB := n3_
       clear n0_ n1_ n2_ n3_
       refine start_ (n := 11) (S := fun w' => w'.cell? ⟨gb397,0,none⟩ = some (.int .i64 ji33) ∧ w'.cell? ⟨gb397,1,none⟩ = some (.int .i64 ji34)) (ds := []) #[false,false,false,false,false,false,false,false,false,false,false] (by kernel_rfl) rfl rfl ⟨(blk_cell BK397.out 0).trans rfl,(blk_cell BK397.out 1).trans rfl⟩ (fun hHeld => ?_);refine with_tabW R_before.tab11 R_before.bits11 (fun HT_ HW_ => ?_)
       generalize w46.drew = w47 at HO_10 BK395 BK397 HB hHeld ⊢
       refine pure_ (i := 1) (N := some 76) (v := ?_) (a' := ?_) #[false,true,false,false,false,false,false,false,false,false,false] rfl rfl (any_of HT_.out (by kernel_rfl)) (fun _ _ _ h => h) (Or.inl ⟨by rfl,?_⟩) ?_ ?_
       rotate_left
       ·intro w'
        go_simp
        with_reducible rfl
       rotate_left
       ·simp only [Act.put,sB_,sZ_,sS_,i64_w,i32_w]
        rfl
       refine pure_ (i := 2) (N := some 77) (v := ?_) (a' := ?_) #[false,true,true,false,false,false,false,false,false,false,false] rfl rfl (any_of HT_.out (by kernel_rfl)) (fun _ _ _ h => h) (Or.inl ⟨by rfl,?_⟩) ?_ ?_
       rotate_left
       ·intro w'
        go_simp
        with_reducible rfl
       rotate_left
       ·simp only [Act.put,sB_,sZ_,sS_,i64_w,i32_w]
        rfl
       refine pure_ (i := 3) (N := some 78) (v := undef) (a' := ?_) #[false,true,true,true,false,false,false,false,false,false,false] rfl rfl (any_of HT_.out (by kernel_rfl)) (fun _ _ _ h => h) (Or.inr ⟨by rfl,rfl⟩) ?_ ?_
       rotate_left
       ·simp only [Act.put,sB_,sZ_,sS_,i64_w,i32_w]
        rfl
       refine pure_ (i := 4) (N := some 79) (v := undef) (a' := ?_) #[false,true,true,true,true,false,false,false,false,false,false] rfl rfl (any_of HT_.out (by kernel_rfl)) (fun _ _ _ h => h) (Or.inr ⟨by rfl,rfl⟩) ?_ ?_
       rotate_left
       ·simp only [Act.put,sB_,sZ_,sS_,i64_w,i32_w]
        rfl
       refine pure_ (i := 5) (N := some 80) (v := undef) (a' := ?_) #[false,true,true,true,true,true,false,false,false,false,false] rfl rfl (any_of HT_.out (by kernel_rfl)) (fun _ _ _ h => h) (Or.inr ⟨by rfl,rfl⟩) ?_ ?_
       rotate_left
       ·simp only [Act.put,sB_,sZ_,sS_,i64_w,i32_w]
        rfl
       refine pure_ (i := 6) (N := some 81) (v := undef) (a' := ?_) #[false,true,true,true,true,true,true,false,false,false,false] rfl rfl (any_of HT_.out (by kernel_rfl)) (fun _ _ _ h => h) (Or.inr ⟨by rfl,rfl⟩) ?_ ?_
       rotate_left
       ·simp only [Act.put,sB_,sZ_,sS_,i64_w,i32_w]
        rfl
       refine pure_ (i := 7) (N := some 82) (v := undef) (a' := ?_) #[false,true,true,true,true,true,true,true,false,false,false] rfl rfl (any_of HT_.out (by kernel_rfl)) (fun _ _ _ h => h) (Or.inr ⟨by rfl,rfl⟩) ?_ ?_
       rotate_left
       ·simp only [Act.put,sB_,sZ_,sS_,i64_w,i32_w]
        rfl
       refine pure_ (i := 8) (N := some 83) (v := ?_) (a' := ?_) #[false,true,true,true,true,true,true,true,true,false,false] rfl rfl (any_of HT_.out (by kernel_rfl)) (fun _ _ _ h => h) (Or.inl ⟨by rfl,?_⟩) ?_ ?_
       rotate_left
       ·intro w'
        go_simp
        with_reducible rfl
       rotate_left
       ·simp only [Act.put,sB_,sZ_,sS_,i64_w,i32_w]
        rfl
       refine take_ (i := 0) (N := some 75) (v := ?_) (a' := ?_) #[true,true,true,true,true,true,true,true,true,false,false] rfl rfl (take_ofW HT_.out HW_.out (by kernel_rfl)) (fun _ _ _ h => h) (Or.inl ⟨by rfl,?_⟩) hHeld ?_ ?_
       rotate_left
       ·rintro w' ⟨s0,s1⟩
        go_simp
        with_reducible rfl
       rotate_left
       ·simp only [Act.put,sB_,sZ_,sS_,i64_w,i32_w]
        rfl
       refine one_ (i := 9) (N := none) #[true,true,true,true,true,true,true,true,true,true,false] rfl rfl (one_of HT_.out (by kernel_rfl)) (by decide) (fun K hK => ?_)
       have hs48 : w47.cell? ⟨gb395,0,none⟩ = some (.int .i64 0) := (blk_cell BK395.out 0).trans rfl
       have hfs48 := blk_frozen BK395.out 0
       have hns48_1 := NB397_395.out
       have hms48_1 := NB395_397.out
       have hs49 : w47.cell? ⟨gb395,1,none⟩ = some (.int .i64 0) := (blk_cell BK395.out 1).trans rfl
       have hfs49 := blk_frozen BK395.out 1
       have hns49_1 := NB397_395.out
       have hms49_1 := NB395_397.out
       refine skip_ (w1 := ?_) (by rfl) rfl ?_ ?_
       rotate_left
       ·go_simp
        rfl
       refine hK.out _ _ ⟨((cell_far (p := ⟨gb395,_,none⟩) NB397_395.out _).trans (((cell_far (p := ⟨gb395,_,none⟩) NB397_395.out _).trans (hHeld.1)))),((cell_far (p := ⟨gb395,_,none⟩) NB397_395.out _).trans (((cell_far (p := ⟨gb395,_,none⟩) NB397_395.out _).trans (hHeld.2))))⟩ (fun hHeld => ?_)
       clear hK K
       refine pure_ (i := 10) (N := some 7) (v := ?_) (a' := ?_) #[true,true,true,true,true,true,true,true,true,true,true] rfl rfl (any_of HT_.out (by kernel_rfl)) (fun _ _ _ h => h) (Or.inl ⟨by rfl,?_⟩) ?_ ?_
       rotate_left
       ·intro w'
        go_simp
        with_reducible rfl
       rotate_left
       ·simp only [Act.put,sB_,sZ_,sS_,i64_w,i32_w]
        rfl
       refine done_ (done_of HT_.out (by kernel_rfl)) ?_
       try go_wp2
       refine bodyPost_ret (results_ct rfl _ _ gb395 34 #[.int .i64 ji33,.int .i64 ji34] (0,0) _ rfl (by (with_reducible repeat (first | refine kN_ ?_ _ | refine kD_ ?_ | refine kA_ ?_ _));refine blk_put (cs := #[.int .i64 ji33,.int .i64 0]) ?_ 1 _ rfl;(with_reducible repeat (first | refine kN_ ?_ _ | refine kD_ ?_ | refine kA_ ?_ _));refine blk_put (cs := #[.int .i64 0,.int .i64 0]) ?_ 0 _ rfl;(with_reducible repeat (first | refine kN_ ?_ _ | refine kD_ ?_ | refine kA_ ?_ _));exact BK395.out) Try.underlying34 rfl (by kernel_rfl)) rfl ?_
       exact ⟨by first | rfl | (simp [errW_none,errW_some] <;> rfl) | (simp only [← hji33,← hji34];first | rfl | (simp [errW_none,errW_some] <;> rfl)) | (simp [*,errW_none,errW_some] <;> rfl),by repeat (first | (with_reducible first | exact HB.out | apply bA_ | apply bN_ | apply bD_ | refine bS_ ?_ GE395.out | refine bS_ ?_ GE397.out) | exact HB.out)⟩
  ·rw [if_neg c5] at H
   exact absurd H (by simp)
 ·rw [if_neg c4] at H
  exact absurd H (by simp)

end Go.Proofs.Ytdbpobadeibjaaa.GE
