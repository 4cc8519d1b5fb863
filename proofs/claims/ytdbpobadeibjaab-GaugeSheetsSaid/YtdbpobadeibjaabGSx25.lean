-- written for this claim by a program of this session (wip/gp), over the kit's own printer; Lean checks it
import Derived.Test.YtdbpobadeibjaabGSx0
import Derived.Test.YtdbpobadeibjaabGSx6
import Derived.Test.YtdbpobadeibjaabGSx24
namespace Go.Proofs.Ytdbpobadeibjaab.GS
open Go.RowKit Go.Proofs.YtdbpobadeibjaabW.PrintWords Go.Proofs.YtdbpobadeibjaabW.PrintLast Go.Proofs.YtdbpobadeibjaabW.PrintMore
attribute [local go_sem] max2_int min2_int max_two min_two max_three min_three max_four min_four
set_option linter.unusedVariables false
set_option linter.unusedSimpArgs false

/-! ### R_before: function 50 -/
def R_before.l0 : Nat → List (S49) → List Int → Bool → Int → Int → Int → Option (Int × Int × Bool)
 | 0,_,_,_,_,_,_ => none
 | k + 1,x0,x10,x12,x13,x425000,x425001 => if x13 < (x10.length : Int) then (if 0 ≤ x13 then (if 0 ≤ (rd x10 x13) then (if (rd x10 x13) < (x0.length : Int) then ((R_least.f k ((rd_T49 x0 (rd x10 x13)).f0.f0) ((rd_T49 x0 (rd x10 x13)).f0.f1) ((rd_T49 x0 (rd x10 x13)).f1.f0) ((rd_T49 x0 (rd x10 x13)).f1.f1) ((rd_T49 x0 (rd x10 x13)).f2) ((rd_T49 x0 (rd x10 x13)).f3) ((rd_T49 x0 (rd x10 x13)).f4) x425000).bind fun t431 => ((R_most.f k ((rd_T49 x0 (rd x10 x13)).f0.f0) ((rd_T49 x0 (rd x10 x13)).f0.f1) ((rd_T49 x0 (rd x10 x13)).f1.f0) ((rd_T49 x0 (rd x10 x13)).f1.f1) ((rd_T49 x0 (rd x10 x13)).f2) ((rd_T49 x0 (rd x10 x13)).f3) ((rd_T49 x0 (rd x10 x13)).f4) x425001).bind fun t434 => (if x12 = true then (R_before.l0 k x0 x10 (decide (t431 ≤ t434)) (wrap64 (x13 + 1)) t431 t434) else (R_before.l0 k x0 x10 false (wrap64 (x13 + 1)) t431 t434)))) else (none)) else (none)) else (none)) else (if x12 = true then (some (mx x425000 (-1000000000),mn x425001 1000000000,decide ((mx x425000 (-1000000000)) ≤ (mn x425001 1000000000)))) else (some (mx x425000 (-1000000000),mn x425001 1000000000,false)))
def R_before.f (k : Nat) (l0 : List (S49)) (a1 : Int) (a2 : Int) : Option (Int × Int × Bool) := if 0 ≤ a1 then (if a1 < (l0.length : Int) then ((R_chain.f k l0 a1).bind fun bt425 => (R_before.l0 k l0 bt425.1 true 0 (wrap64 (a2 - (wrap64 (Int.tdiv ((rd_T49 l0 a1).f2) 2)))) (wrap64 (a2 + (wrap64 (Int.tdiv ((rd_T49 l0 a1).f2) 2)))))) else (none)) else (none)
def R_before.T8 : Bool × List (List Nat × List Nat) := (true,[([],[]),([],[]),([],[]),([1,2],[1,2]),([3],[3]),([0,4],[0,4]),([5],[5]),([],[]),([7],[7]),([6,8],[6,8]),([],[]),([],[]),([],[]),([11,12],[11,12]),([13],[13]),([10,14],[10,14]),([15],[15]),([],[]),([17],[17]),([16,18,9],[16,18]),([9,19],[9,19]),([20,19,0,1,2,3,4,5,6,7,8,9,10,11,12,13,14,15,16,17,18,19,20],[20])])
def R_before.B8 : List Nat := [0,0,0,6,14,31,63,0,128,511,0,0,0,6144,14336,31744,64512,0,131072,524287,1048575,2097151]
theorem R_before.tab8 : rtab .any (opsOf Try.f50 8) = R_before.T8 := by kernel_rfl
theorem R_before.bits8 : waitsOk R_before.T8.2 R_before.B8 = true := by kernel_rfl
def R_before.T11 : Bool × List (List Nat × List Nat) := (true,[([],[]),([],[]),([1],[1]),([2],[2]),([3,2],[2,3]),([2],[2]),([5,2],[2,5]),([4,6,2],[2,4,6]),([2,7],[2,7]),([0,2,0],[0]),([8,9,0,1,2,3,4,5,6,7,8,9],[8])])
def R_before.B11 : List Nat := [0,0,2,6,14,6,38,126,254,7,1023]
theorem R_before.tab11 : rtab .any (opsOf Try.f50 11) = R_before.T11 := by kernel_rfl
theorem R_before.bits11 : waitsOk R_before.T11.2 R_before.B11 = true := by kernel_rfl
set_option maxHeartbeats 8000000 in
set_option maxRecDepth 100000 in
theorem R_before.calls (k : Nat) (A0 : Option Addr) (c0 : Nat) (l0 : List (S49)) (a1 : Int) (a2 : Int) (r1 : Int) (r2 : Int) (r3 : Bool) (w : World) (hr0 : Kd.C k49 w A0 l0.length l0) (hc0 : l0.length ≤ c0) (h : R_before.f k l0 a1 a2 = some (r1,r2,r3)) :
  Calls Try.prog 50 #[.slice A0 l0.length c0,.int .i64 a1,.int .i64 a2] w fun e w' => e = .returned (.tuple #[.agg #[.int .i64 r1,.int .i64 r2],.bool r3]) ∧ Below w.heap.size w w' := by
 have hu34 := Try.underlying34
 have hu49 := Try.underlying49
 have HR0 := aM_ hr0
 have HC0 := aM_ hc0
 clear hr0 hc0
 have HB := aM_ (Below.refl w.heap.size w)
 have H : (if 0 ≤ a1 then (if a1 < (l0.length : Int) then ((R_chain.f k l0 a1).bind fun bt425 => (R_before.l0 k l0 bt425.1 true 0 (wrap64 (a2 - (wrap64 (Int.tdiv ((rd_T49 l0 a1).f2) 2)))) (wrap64 (a2 + (wrap64 (Int.tdiv ((rd_T49 l0 a1).f2) 2)))))) else (none)) else (none)) = some (r1,r2,r3) := h
 clear h
 by_cases c4 : 0 ≤ a1
 ·rw [if_pos c4] at H
  have c4b0 : decide (0 ≤ a1) = true := decide_eq_true c4
  clear c4
  by_cases c5 : a1 < (l0.length : Int)
  ·rw [if_pos c5] at H
   have c5b0 : decide (a1 < (l0.length : Int)) = true := decide_eq_true c5
   clear c5
   replace H := oB_ H
   obtain ⟨⟨t425,t426⟩,A60,H⟩ := H
   replace H : (R_before.l0 k l0 t425 true 0 (wrap64 (a2 - (wrap64 (Int.tdiv ((rd_T49 l0 a1).f2) 2)))) (wrap64 (a2 + (wrap64 (Int.tdiv ((rd_T49 l0 a1).f2) 2))))) = some (r1,r2,r3) := H
   have A6 := aM_ A60
   clear A60
   have H' := aM_ H
   clear H
   go_enter Try.func50,Try.ntmps50
   go_wp2_with (first | ((with_reducible refine gate_dst (N := 6) rfl ?_);refine box_event ?hg (N := 6) ?hd (cs := #[.int .i64 0,.int .i64 0]) (t := 34) ?hr ?_;(case hd => rfl);(case hg => rfl);(case hr => first | (go_simp;done) | (go_simp;rfl));intro gb422 hg w7 hbox hb;have n0_ := aM_ (bT_ (by exact lb_ HB) hb);have n1_ := aM_ (hbox);have n2_ := aM_ ((by rw [hg];exact (below_size (by exact lb_ HB)) : w.heap.size ≤ gb422));have n3_ := aM_ ((by rw [hg];exact (below_size (by exact lb_ HB)) : w.heap.size ≤ gb422));clear HB;have HB := n0_;have BK422 := n1_;have GW422 := n2_;have GE422 := n3_;have := Ge_.mk n3_.out;clear n0_ n1_ n2_ n3_;clear hb hbox hg;have p423 : 0 ≤ (a1 : Int) := of_decide_eq_true (by first | (with_reducible assumption) | assumption);have q423 : a1 < (l0.length : Int) := of_decide_eq_true (by first | (with_reducible assumption) | assumption);obtain ⟨ad423,e423,hx423_0,hx423_1,hx423_2,hx423_3,hx423_4,hx423_5,hx423_6⟩ := at_T49 HR0.out a1 p423 q423;cases e423;replace hx423_0 := (HB.out.cell (World.block_lt_of_cell? w _ hx423_0)).trans hx423_0;replace hx423_1 := (HB.out.cell (World.block_lt_of_cell? w _ hx423_1)).trans hx423_1;replace hx423_2 := (HB.out.cell (World.block_lt_of_cell? w _ hx423_2)).trans hx423_2;replace hx423_3 := (HB.out.cell (World.block_lt_of_cell? w _ hx423_3)).trans hx423_3;replace hx423_4 := (HB.out.cell (World.block_lt_of_cell? w _ hx423_4)).trans hx423_4;replace hx423_5 := (HB.out.cell (World.block_lt_of_cell? w _ hx423_5)).trans hx423_5;replace hx423_6 := (HB.out.cell (World.block_lt_of_cell? w _ hx423_6)).trans hx423_6;replace p423 := eq_true p423;replace q423 := eq_true q423) | ((with_reducible refine gate_dst (N := 9) rfl ?_);refine box_event ?hg (N := 9) ?hd (cs := #[.int .i64 0,.int .i64 0]) (t := 34) ?hr ?_;(case hd => rfl);(case hg => rfl);(case hr => first | (go_simp;done) | (go_simp;rfl));intro gb424 hg w8 hbox hb;have n0_ := aM_ (kB_ (g := gb422) (o := .cells #[.int .i64 0,.int .i64 0] 34 (0,0)) (by exact lk_ BK422) hb);have n1_ := aM_ (bT_ (by exact lb_ HB) hb);have n2_ := aM_ (hbox);have n3_ := aM_ ((by rw [hg];exact (below_size (by exact lb_ HB)) : w.heap.size ≤ gb424));have n4_ := aM_ ((by rw [hg];exact (below_size (by exact lb_ HB)) : w.heap.size ≤ gb424));have n5_ := aM_ ((by rw [hg];exact Nat.ne_of_lt (blk_lt (g := gb422) (o := .cells #[.int .i64 0,.int .i64 0] 34 (0,0)) (by exact lk_ BK422)) : gb422 ≠ gb424));have n6_ := aM_ ((by rw [hg];exact Nat.ne_of_gt (blk_lt (g := gb422) (o := .cells #[.int .i64 0,.int .i64 0] 34 (0,0)) (by exact lk_ BK422)) : gb424 ≠ gb422));clear BK422;clear HB;have BK422 := n0_;have HB := n1_;have BK424 := n2_;have GW424 := n3_;have GE424 := n4_;have := Ge_.mk n4_.out;have NB422_424 := n5_;have NB424_422 := n6_;clear n0_ n1_ n2_ n3_ n4_ n5_ n6_;clear hb hbox hg;have hnb9 := NB424_422.out;have hnc9 := NB422_424.out;have hcz10_0 : w8.cell? ⟨gb424,0,none⟩ = some (.int .i64 0) := (blk_cell BK424.out 0).trans rfl;have hcz10_1 : w8.cell? ⟨gb424,1,none⟩ = some (.int .i64 0) := (blk_cell BK424.out 1).trans rfl;have hfz10_0 := blk_frozen BK424.out 0;have hfz10_1 := blk_frozen BK424.out 1) | ((with_reducible refine gate_callee (f := 69) rfl ?_);refine goesL_ (some 30) rfl rfl Try.func69 (by kernel_rfl) rfl #[.slice (some ad423) l0.length c0,.int .i64 a1] rfl (by (try simp only [List.map_toArray,List.map_cons,List.map_nil]);first | done | rfl) ?_;(with_reducible refine (R_chain.calls k _ _ l0 a1 t425 t426 _ ?side1 ?side2 A6.out).mono ?_);(case side1 => exact Kd.C_below HR0.out (by exact lb_ HB));(case side2 => exact HC0.out);rintro e w11 ⟨v427,rfl,ho0,hb⟩;refine ⟨_,rfl,?_⟩;have n0_ := aM_ (Kd.R_lower ho0 (below_size (by exact lb_ HB)));have n1_ := aM_ (kB_ (g := gb422) (o := .cells #[.int .i64 0,.int .i64 0] 34 (0,0)) (by (with_reducible repeat (first | refine kN_ ?_ _ | refine kD_ ?_ | refine kA_ ?_ _));refine blk_far ?_ NB422_424.out _;(with_reducible repeat (first | refine kN_ ?_ _ | refine kD_ ?_ | refine kA_ ?_ _));refine blk_far ?_ NB422_424.out _;exact lk_ BK422) hb);have n2_ := aM_ (kB_ (g := gb424) (o := .cells #[.int .i64 (wrap64 (a2 - (wrap64 (Int.tdiv ((rd_T49 l0 a1).f2) 2)))),.int .i64 (wrap64 (a2 + (wrap64 (Int.tdiv ((rd_T49 l0 a1).f2) 2))))] 34 (0,0)) (by (with_reducible repeat (first | refine kN_ ?_ _ | refine kD_ ?_ | refine kA_ ?_ _));refine blk_put (cs := #[.int .i64 (wrap64 (a2 - (wrap64 (Int.tdiv ((rd_T49 l0 a1).f2) 2)))),.int .i64 0]) ?_ 1 _ rfl;(with_reducible repeat (first | refine kN_ ?_ _ | refine kD_ ?_ | refine kA_ ?_ _));refine blk_put (cs := #[.int .i64 0,.int .i64 0]) ?_ 0 _ rfl;exact lk_ BK424) hb);have n3_ := aM_ (bT_ (by exact lb_ HB) hb);clear BK422;clear BK424;clear HB;have HO428 := n0_;have BK422 := n1_;have BK424 := n2_;have HB := n3_;clear n0_ n1_ n2_ n3_;(try clear hb);(try clear hb2);(try clear hk);(try clear hi);(try clear ho0)))
   go_loopg [12,13] k (fun kq v12 v13 w' => ∃ (x12_1 : Bool) (x13_1 : Int) (x425000_1 : Int) (x425001_1 : Int),v12 = .bool x12_1 ∧ v13 = .int .i64 x13_1 ∧ Aside0 (R_before.l0 kq l0 t425 x12_1 x13_1 x425000_1 x425001_1 = some (r1,r2,r3)) ∧ Aside0 (kq ≤ k) ∧ Aside0 (Kd.R (Kd.int .i64) 3 w' w.heap.size (fun _ => True) v427 t425) ∧ Aside0 (w'.heap[gb422]? = some (.cells #[.int .i64 0,.int .i64 0] 34 (0,0))) ∧ Aside0 (w'.heap[gb424]? = some (.cells #[.int .i64 x425000_1,.int .i64 x425001_1] 34 (0,0))) ∧ Aside0 (Below w.heap.size w w'))
   case atStart => exact ⟨(true),(0),(wrap64 (a2 - (wrap64 (Int.tdiv ((rd_T49 l0 a1).f2) 2)))),(wrap64 (a2 + (wrap64 (Int.tdiv ((rd_T49 l0 a1).f2) 2)))),(by first | rfl | (simp;done) | (simp [*];done)),(by first | rfl | (simp;done) | (simp [*];done)),H',⟨Nat.le_refl _⟩,⟨by exact lo_ HO428⟩,⟨by exact lk_ BK422⟩,⟨by exact lk_ BK424⟩,⟨by exact lb_ HB⟩⟩
   case round =>
    clear H'
    try clear p2
    try clear c4
    try clear c4b0
    try clear p4
    try clear q4
    try clear hx4
    try clear c5
    try clear c5b0
    try clear c6
    try clear p6
    try clear c9
    try clear hcz10_0
    try clear hcz10_1
    try clear hfz10_0
    try clear hfz10_1
    try clear hx423_0
    try clear hx423_1
    try clear hx423_2
    try clear hx423_3
    try clear hx423_4
    try clear hx423_5
    try clear hx423_6
    try clear p423
    try clear q423
    obtain ⟨x12_1,x13_1,x425000_1,x425001_1,rfl,rfl,HA,HK1,HO_10,BK422,BK424,HB⟩ := hrel
    cases gk with
    | zero => exact absurd HA.out (by simp [R_before.l0])
    | succ k1 =>
     have H := HA.out
     clear HA
     simp only [R_before.l0] at H
     by_cases c12 : x13_1 < (t425.length : Int)
     ·rw [if_pos c12] at H
      have c12b0 : decide (x13_1 < (t425.length : Int)) = true := decide_eq_true c12
      clear c12
      by_cases c13 : 0 ≤ x13_1
      ·rw [if_pos c13] at H
       have c13b0 : decide (0 ≤ x13_1) = true := decide_eq_true c13
       clear c13
       by_cases c14 : 0 ≤ (rd t425 x13_1)
       ·rw [if_pos c14] at H
        have c14b0 : decide (0 ≤ (rd t425 x13_1)) = true := decide_eq_true c14
        clear c14
        by_cases c15 : (rd t425 x13_1) < (l0.length : Int)
        ·rw [if_pos c15] at H
         have c15b0 : decide ((rd t425 x13_1) < (l0.length : Int)) = true := decide_eq_true c15
         clear c15
         replace H := oB_ H
         obtain ⟨t431,A160,H⟩ := H
         replace H : ((R_most.f k1 ((rd_T49 l0 (rd t425 x13_1)).f0.f0) ((rd_T49 l0 (rd t425 x13_1)).f0.f1) ((rd_T49 l0 (rd t425 x13_1)).f1.f0) ((rd_T49 l0 (rd t425 x13_1)).f1.f1) ((rd_T49 l0 (rd t425 x13_1)).f2) ((rd_T49 l0 (rd t425 x13_1)).f3) ((rd_T49 l0 (rd t425 x13_1)).f4) x425001_1).bind fun t434 => (if x12_1 = true then (R_before.l0 k1 l0 t425 (decide (t431 ≤ t434)) (wrap64 (x13_1 + 1)) t431 t434) else (R_before.l0 k1 l0 t425 false (wrap64 (x13_1 + 1)) t431 t434))) = some (r1,r2,r3) := H
         have A16 := aM_ A160
         clear A160
         replace H := oB_ H
         obtain ⟨t434,A170,H⟩ := H
         replace H : (if x12_1 = true then (R_before.l0 k1 l0 t425 (decide (t431 ≤ t434)) (wrap64 (x13_1 + 1)) t431 t434) else (R_before.l0 k1 l0 t425 false (wrap64 (x13_1 + 1)) t431 t434)) = some (r1,r2,r3) := H
         have A17 := aM_ A170
         clear A170
         by_cases c18 : x12_1 = true
         ·subst c18
          have H1 : (R_before.l0 k1 l0 t425 (decide (t431 ≤ t434)) (wrap64 (x13_1 + 1)) t431 t434) = some (r1,r2,r3) := by rw [if_pos rfl] at H;exact H
          clear H
          have H := H1
          clear H1
          have H' := aM_ H
          clear H
          obtain ⟨Ao19,co19,eo19⟩ := Kd.R_slice HO_10.out
          subst eo19
          try go_wp2
          have n0_ := aM_ (Kd.R_drew HO_10.out)
          have n1_ := aM_ (kD_ BK422.out)
          have n2_ := aM_ (kD_ BK424.out)
          have n3_ := aM_ (bD_ HB.out)
          clear HO_10
          clear BK422
          clear BK424
          clear HB
          have HO_10 := n0_
          have BK422 := n1_
          have BK424 := n2_
          have HB := n3_
          clear n0_ n1_ n2_ n3_
          have p429 : 0 ≤ (x13_1 : Int) := of_decide_eq_true (by first | (with_reducible assumption) | assumption)
          have q429 : x13_1 < (t425.length : Int) := of_decide_eq_true (by first | (with_reducible assumption) | assumption)
          obtain ⟨ad429,e429,hx429_0⟩ := Kd.at_int (Kd.R_reads' HO_10.out).2.2 x13_1 p429 q429
          cases e429
          replace p429 := eq_true p429
          replace q429 := eq_true q429
          have p430 : 0 ≤ ((rd t425 x13_1) : Int) := of_decide_eq_true (by first | (with_reducible assumption) | assumption)
          have q430 : (rd t425 x13_1) < (l0.length : Int) := of_decide_eq_true (by first | (with_reducible assumption) | assumption)
          obtain ⟨ad430,e430,hx430_0,hx430_1,hx430_2,hx430_3,hx430_4,hx430_5,hx430_6⟩ := at_T49 HR0.out (rd t425 x13_1) p430 q430
          have hw430_6 := hx430_6
          have hw430_5 := hx430_5
          have hw430_4 := hx430_4
          have hw430_3 := hx430_3
          have hw430_2 := hx430_2
          have hw430_1 := hx430_1
          have hw430_0 := hx430_0
          obtain rfl : ad423 = ad430 := (by injection e430)
          replace hx430_0 := (HB.out.cell (World.block_lt_of_cell? w _ hx430_0)).trans hx430_0
          replace hx430_1 := (HB.out.cell (World.block_lt_of_cell? w _ hx430_1)).trans hx430_1
          replace hx430_2 := (HB.out.cell (World.block_lt_of_cell? w _ hx430_2)).trans hx430_2
          replace hx430_3 := (HB.out.cell (World.block_lt_of_cell? w _ hx430_3)).trans hx430_3
          replace hx430_4 := (HB.out.cell (World.block_lt_of_cell? w _ hx430_4)).trans hx430_4
          replace hx430_5 := (HB.out.cell (World.block_lt_of_cell? w _ hx430_5)).trans hx430_5
          replace hx430_6 := (HB.out.cell (World.block_lt_of_cell? w _ hx430_6)).trans hx430_6
          replace p430 := eq_true p430
          replace q430 := eq_true q430
          have p432 : 0 ≤ (x13_1 : Int) := of_decide_eq_true (by first | (with_reducible assumption) | assumption)
          have q432 : x13_1 < (t425.length : Int) := of_decide_eq_true (by first | (with_reducible assumption) | assumption)
          obtain ⟨ad432,e432,hx432_0⟩ := Kd.at_int (Kd.R_reads' HO_10.out).2.2 x13_1 p432 q432
          obtain rfl : ad429 = ad432 := (by injection e432)
          replace p432 := eq_true p432
          replace q432 := eq_true q432
          have p433 : 0 ≤ ((rd t425 x13_1) : Int) := of_decide_eq_true (by first | (with_reducible assumption) | assumption)
          have q433 : (rd t425 x13_1) < (l0.length : Int) := of_decide_eq_true (by first | (with_reducible assumption) | assumption)
          obtain ⟨ad433,e433,hx433_0,hx433_1,hx433_2,hx433_3,hx433_4,hx433_5,hx433_6⟩ := at_T49 HR0.out (rd t425 x13_1) p433 q433
          have hw433_6 := hx433_6
          have hw433_5 := hx433_5
          have hw433_4 := hx433_4
          have hw433_3 := hx433_3
          have hw433_2 := hx433_2
          have hw433_1 := hx433_1
          have hw433_0 := hx433_0
          obtain rfl : ad423 = ad433 := (by injection e433)
          replace hx433_0 := (HB.out.cell (World.block_lt_of_cell? w _ hx433_0)).trans hx433_0
          replace hx433_1 := (HB.out.cell (World.block_lt_of_cell? w _ hx433_1)).trans hx433_1
          replace hx433_2 := (HB.out.cell (World.block_lt_of_cell? w _ hx433_2)).trans hx433_2
          replace hx433_3 := (HB.out.cell (World.block_lt_of_cell? w _ hx433_3)).trans hx433_3
          replace hx433_4 := (HB.out.cell (World.block_lt_of_cell? w _ hx433_4)).trans hx433_4
          replace hx433_5 := (HB.out.cell (World.block_lt_of_cell? w _ hx433_5)).trans hx433_5
          replace hx433_6 := (HB.out.cell (World.block_lt_of_cell? w _ hx433_6)).trans hx433_6
          replace p433 := eq_true p433
          replace q433 := eq_true q433
          refine start_ (n := 22) (S := fun w' => w'.cell? ⟨gb424,0,none⟩ = some (.int .i64 x425000_1) ∧ w'.cell? ⟨gb424,1,none⟩ = some (.int .i64 x425001_1) ∧ w'.cell? (ad429.add (x13_1).toNat) = some (.int .i64 (rd t425 x13_1)) ∧ w'.cell? (ad423.add (((rd t425 x13_1)).toNat * 7)) = some (.int .i64 ((rd_T49 l0 (rd t425 x13_1)).f0.f0)) ∧ w'.cell? ⟨(ad423.add (((rd t425 x13_1)).toNat * 7)).block,(ad423.add (((rd t425 x13_1)).toNat * 7)).off + 1,none⟩ = some (.int .i64 ((rd_T49 l0 (rd t425 x13_1)).f0.f1)) ∧ w'.cell? ⟨(ad423.add (((rd t425 x13_1)).toNat * 7)).block,(ad423.add (((rd t425 x13_1)).toNat * 7)).off + 2,none⟩ = some (.int .i64 ((rd_T49 l0 (rd t425 x13_1)).f1.f0)) ∧ w'.cell? ⟨(ad423.add (((rd t425 x13_1)).toNat * 7)).block,(ad423.add (((rd t425 x13_1)).toNat * 7)).off + 3,none⟩ = some (.int .i64 ((rd_T49 l0 (rd t425 x13_1)).f1.f1)) ∧ w'.cell? ⟨(ad423.add (((rd t425 x13_1)).toNat * 7)).block,(ad423.add (((rd t425 x13_1)).toNat * 7)).off + 4,none⟩ = some (.int .i64 ((rd_T49 l0 (rd t425 x13_1)).f2)) ∧ w'.cell? ⟨(ad423.add (((rd t425 x13_1)).toNat * 7)).block,(ad423.add (((rd t425 x13_1)).toNat * 7)).off + 5,none⟩ = some (.int .i64 ((rd_T49 l0 (rd t425 x13_1)).f3)) ∧ w'.cell? ⟨(ad423.add (((rd t425 x13_1)).toNat * 7)).block,(ad423.add (((rd t425 x13_1)).toNat * 7)).off + 6,none⟩ = some (.int .i64 ((rd_T49 l0 (rd t425 x13_1)).f4)) ∧ w'.cell? (ad429.add (x13_1).toNat) = some (.int .i64 (rd t425 x13_1)) ∧ w'.cell? (ad423.add (((rd t425 x13_1)).toNat * 7)) = some (.int .i64 ((rd_T49 l0 (rd t425 x13_1)).f0.f0)) ∧ w'.cell? ⟨(ad423.add (((rd t425 x13_1)).toNat * 7)).block,(ad423.add (((rd t425 x13_1)).toNat * 7)).off + 1,none⟩ = some (.int .i64 ((rd_T49 l0 (rd t425 x13_1)).f0.f1)) ∧ w'.cell? ⟨(ad423.add (((rd t425 x13_1)).toNat * 7)).block,(ad423.add (((rd t425 x13_1)).toNat * 7)).off + 2,none⟩ = some (.int .i64 ((rd_T49 l0 (rd t425 x13_1)).f1.f0)) ∧ w'.cell? ⟨(ad423.add (((rd t425 x13_1)).toNat * 7)).block,(ad423.add (((rd t425 x13_1)).toNat * 7)).off + 3,none⟩ = some (.int .i64 ((rd_T49 l0 (rd t425 x13_1)).f1.f1)) ∧ w'.cell? ⟨(ad423.add (((rd t425 x13_1)).toNat * 7)).block,(ad423.add (((rd t425 x13_1)).toNat * 7)).off + 4,none⟩ = some (.int .i64 ((rd_T49 l0 (rd t425 x13_1)).f2)) ∧ w'.cell? ⟨(ad423.add (((rd t425 x13_1)).toNat * 7)).block,(ad423.add (((rd t425 x13_1)).toNat * 7)).off + 5,none⟩ = some (.int .i64 ((rd_T49 l0 (rd t425 x13_1)).f3)) ∧ w'.cell? ⟨(ad423.add (((rd t425 x13_1)).toNat * 7)).block,(ad423.add (((rd t425 x13_1)).toNat * 7)).off + 6,none⟩ = some (.int .i64 ((rd_T49 l0 (rd t425 x13_1)).f4))) (ds := [21]) #[false,false,false,false,false,false,false,false,false,false,false,false,false,false,false,false,false,false,false,false,false,false] (by kernel_rfl) rfl rfl ⟨(blk_cell BK424.out 0).trans rfl,(blk_cell BK424.out 1).trans rfl,hx429_0,((HB.out.cell (World.block_lt_of_cell? w _ hw430_0)).trans hw430_0),((HB.out.cell (World.block_lt_of_cell? w _ hw430_1)).trans hw430_1),((HB.out.cell (World.block_lt_of_cell? w _ hw430_2)).trans hw430_2),((HB.out.cell (World.block_lt_of_cell? w _ hw430_3)).trans hw430_3),((HB.out.cell (World.block_lt_of_cell? w _ hw430_4)).trans hw430_4),((HB.out.cell (World.block_lt_of_cell? w _ hw430_5)).trans hw430_5),((HB.out.cell (World.block_lt_of_cell? w _ hw430_6)).trans hw430_6),hx432_0,((HB.out.cell (World.block_lt_of_cell? w _ hw433_0)).trans hw433_0),((HB.out.cell (World.block_lt_of_cell? w _ hw433_1)).trans hw433_1),((HB.out.cell (World.block_lt_of_cell? w _ hw433_2)).trans hw433_2),((HB.out.cell (World.block_lt_of_cell? w _ hw433_3)).trans hw433_3),((HB.out.cell (World.block_lt_of_cell? w _ hw433_4)).trans hw433_4),((HB.out.cell (World.block_lt_of_cell? w _ hw433_5)).trans hw433_5),((HB.out.cell (World.block_lt_of_cell? w _ hw433_6)).trans hw433_6)⟩ (fun hHeld => ?_);refine with_tabW R_before.tab8 R_before.bits8 (fun HT_ HW_ => ?_)
          generalize wr.drew = w20 at HO_10 BK422 BK424 HB hx429_0 hx430_0 hx430_1 hx430_2 hx430_3 hx430_4 hx430_5 hx430_6 hx432_0 hx433_0 hx433_1 hx433_2 hx433_3 hx433_4 hx433_5 hx433_6 hHeld ⊢
          refine pure_ (i := 0) (N := some 39) (v := ?_) (a' := ?_) #[true,false,false,false,false,false,false,false,false,false,false,false,false,false,false,false,false,false,false,false,false,false] rfl rfl (any_of HT_.out (by kernel_rfl)) (fun _ _ _ h => h) (Or.inl ⟨by rfl,?_⟩) ?_ ?_
          rotate_left
          ·intro w'
           go_simp
           with_reducible rfl
          rotate_left
          ·simp only [Act.put,sB_,sZ_,sS_,i64_w,i32_w]
           rfl
          refine pure_ (i := 1) (N := some 40) (v := ?_) (a' := ?_) #[true,true,false,false,false,false,false,false,false,false,false,false,false,false,false,false,false,false,false,false,false,false] rfl rfl (any_of HT_.out (by kernel_rfl)) (fun _ _ _ h => h) (Or.inl ⟨by rfl,?_⟩) ?_ ?_
          rotate_left
          ·intro w'
           go_simp
           with_reducible rfl
          rotate_left
          ·simp only [Act.put,sB_,sZ_,sS_,i64_w,i32_w]
           rfl
          refine pure_ (i := 2) (N := some 41) (v := ?_) (a' := ?_) #[true,true,true,false,false,false,false,false,false,false,false,false,false,false,false,false,false,false,false,false,false,false] rfl rfl (any_of HT_.out (by kernel_rfl)) (fun _ _ _ h => h) (Or.inl ⟨by rfl,?_⟩) ?_ ?_
          rotate_left
          ·intro w'
           go_simp
           with_reducible rfl
          rotate_left
          ·simp only [Act.put,sB_,sZ_,sS_,i64_w,i32_w]
           rfl
          refine pure_ (i := 3) (N := some 42) (v := ?_) (a' := ?_) #[true,true,true,true,false,false,false,false,false,false,false,false,false,false,false,false,false,false,false,false,false,false] rfl rfl (any_of HT_.out (by kernel_rfl)) (fun _ _ _ h => h) (Or.inl ⟨by rfl,?_⟩) ?_ ?_
          rotate_left
          ·intro w'
           go_simp
           with_reducible rfl
          rotate_left
          ·simp only [Act.put,sB_,sZ_,sS_,i64_w,i32_w]
           rfl
          refine pure_ (i := 7) (N := some 46) (v := ?_) (a' := ?_) #[true,true,true,true,false,false,false,true,false,false,false,false,false,false,false,false,false,false,false,false,false,false] rfl rfl (any_of HT_.out (by kernel_rfl)) (fun _ _ _ h => h) (Or.inl ⟨by rfl,?_⟩) ?_ ?_
          rotate_left
          ·intro w'
           go_simp
           with_reducible rfl
          rotate_left
          ·simp only [Act.put,sB_,sZ_,sS_,i64_w,i32_w]
           rfl
          refine pure_ (i := 10) (N := some 49) (v := ?_) (a' := ?_) #[true,true,true,true,false,false,false,true,false,false,true,false,false,false,false,false,false,false,false,false,false,false] rfl rfl (any_of HT_.out (by kernel_rfl)) (fun _ _ _ h => h) (Or.inl ⟨by rfl,?_⟩) ?_ ?_
          rotate_left
          ·intro w'
           go_simp
           with_reducible rfl
          rotate_left
          ·simp only [Act.put,sB_,sZ_,sS_,i64_w,i32_w]
           rfl
          refine pure_ (i := 11) (N := some 50) (v := ?_) (a' := ?_) #[true,true,true,true,false,false,false,true,false,false,true,true,false,false,false,false,false,false,false,false,false,false] rfl rfl (any_of HT_.out (by kernel_rfl)) (fun _ _ _ h => h) (Or.inl ⟨by rfl,?_⟩) ?_ ?_
          rotate_left
          ·intro w'
           go_simp
           with_reducible rfl
          rotate_left
          ·simp only [Act.put,sB_,sZ_,sS_,i64_w,i32_w]
           rfl
          refine pure_ (i := 12) (N := some 51) (v := ?_) (a' := ?_) #[true,true,true,true,false,false,false,true,false,false,true,true,true,false,false,false,false,false,false,false,false,false] rfl rfl (any_of HT_.out (by kernel_rfl)) (fun _ _ _ h => h) (Or.inl ⟨by rfl,?_⟩) ?_ ?_
          rotate_left
          ·intro w'
           go_simp
           with_reducible rfl
          rotate_left
          ·simp only [Act.put,sB_,sZ_,sS_,i64_w,i32_w]
           rfl
          refine pure_ (i := 13) (N := some 52) (v := ?_) (a' := ?_) #[true,true,true,true,false,false,false,true,false,false,true,true,true,true,false,false,false,false,false,false,false,false] rfl rfl (any_of HT_.out (by kernel_rfl)) (fun _ _ _ h => h) (Or.inl ⟨by rfl,?_⟩) ?_ ?_
          rotate_left
          ·intro w'
           go_simp
           with_reducible rfl
          rotate_left
          ·simp only [Act.put,sB_,sZ_,sS_,i64_w,i32_w]
           rfl
          refine pure_ (i := 17) (N := some 56) (v := ?_) (a' := ?_) #[true,true,true,true,false,false,false,true,false,false,true,true,true,true,false,false,false,true,false,false,false,false] rfl rfl (any_of HT_.out (by kernel_rfl)) (fun _ _ _ h => h) (Or.inl ⟨by rfl,?_⟩) ?_ ?_
          rotate_left
          ·intro w'
           go_simp
           with_reducible rfl
          rotate_left
          ·simp only [Act.put,sB_,sZ_,sS_,i64_w,i32_w]
           rfl
          refine take_ (i := 4) (N := some 43) (v := ?_) (a' := ?_) #[true,true,true,true,true,false,false,true,false,false,true,true,true,true,false,false,false,true,false,false,false,false] rfl rfl (take_ofW HT_.out HW_.out (by kernel_rfl)) (fun _ _ _ h => h) (Or.inl ⟨by rfl,?_⟩) hHeld ?_ ?_
          rotate_left
          ·rintro w' ⟨s0,s1,s2,s3,s4,s5,s6,s7,s8,s9,s10,s11,s12,s13,s14,s15,s16,s17⟩
           go_simp
           with_reducible rfl
          rotate_left
          ·simp only [Act.put,sB_,sZ_,sS_,i64_w,i32_w]
           rfl
          refine pure_ (i := 5) (N := some 44) (v := ?_) (a' := ?_) #[true,true,true,true,true,true,false,true,false,false,true,true,true,true,false,false,false,true,false,false,false,false] rfl rfl (any_of HT_.out (by kernel_rfl)) (fun _ _ _ h => h) (Or.inl ⟨by rfl,?_⟩) ?_ ?_
          rotate_left
          ·intro w'
           go_simp
           with_reducible rfl
          rotate_left
          ·simp only [Act.put,sB_,sZ_,sS_,i64_w,i32_w]
           rfl
          refine take_ (i := 6) (N := some 45) (v := ?_) (a' := ?_) #[true,true,true,true,true,true,true,true,false,false,true,true,true,true,false,false,false,true,false,false,false,false] rfl rfl (take_ofW HT_.out HW_.out (by kernel_rfl)) (fun _ _ _ h => h) (Or.inl ⟨by rfl,?_⟩) hHeld ?_ ?_
          rotate_left
          ·rintro w' ⟨s0,s1,s2,s3,s4,s5,s6,s7,s8,s9,s10,s11,s12,s13,s14,s15,s16,s17⟩
           go_simp
           with_reducible rfl
          rotate_left
          ·simp only [Act.put,sB_,sZ_,sS_,i64_w,i32_w]
           rfl
          refine take_ (i := 8) (N := some 47) (v := ?_) (a' := ?_) #[true,true,true,true,true,true,true,true,true,false,true,true,true,true,false,false,false,true,false,false,false,false] rfl rfl (take_ofW HT_.out HW_.out (by kernel_rfl)) (fun _ _ _ h => h) (Or.inl ⟨by rfl,?_⟩) hHeld ?_ ?_
          rotate_left
          ·rintro w' ⟨s0,s1,s2,s3,s4,s5,s6,s7,s8,s9,s10,s11,s12,s13,s14,s15,s16,s17⟩
           go_simp
           with_reducible rfl
          rotate_left
          ·simp only [Act.put,sB_,sZ_,sS_,i64_w,i32_w]
           rfl
          refine take_ (i := 14) (N := some 53) (v := ?_) (a' := ?_) #[true,true,true,true,true,true,true,true,true,false,true,true,true,true,true,false,false,true,false,false,false,false] rfl rfl (take_ofW HT_.out HW_.out (by kernel_rfl)) (fun _ _ _ h => h) (Or.inl ⟨by rfl,?_⟩) hHeld ?_ ?_
          rotate_left
          ·rintro w' ⟨s0,s1,s2,s3,s4,s5,s6,s7,s8,s9,s10,s11,s12,s13,s14,s15,s16,s17⟩
           go_simp
           with_reducible rfl
          rotate_left
          ·simp only [Act.put,sB_,sZ_,sS_,i64_w,i32_w]
           rfl
          refine pure_ (i := 15) (N := some 54) (v := ?_) (a' := ?_) #[true,true,true,true,true,true,true,true,true,false,true,true,true,true,true,true,false,true,false,false,false,false] rfl rfl (any_of HT_.out (by kernel_rfl)) (fun _ _ _ h => h) (Or.inl ⟨by rfl,?_⟩) ?_ ?_
          rotate_left
          ·intro w'
           go_simp
           with_reducible rfl
          rotate_left
          ·simp only [Act.put,sB_,sZ_,sS_,i64_w,i32_w]
           rfl
          refine take_ (i := 16) (N := some 55) (v := ?_) (a' := ?_) #[true,true,true,true,true,true,true,true,true,false,true,true,true,true,true,true,true,true,false,false,false,false] rfl rfl (take_ofW HT_.out HW_.out (by kernel_rfl)) (fun _ _ _ h => h) (Or.inl ⟨by rfl,?_⟩) hHeld ?_ ?_
          rotate_left
          ·rintro w' ⟨s0,s1,s2,s3,s4,s5,s6,s7,s8,s9,s10,s11,s12,s13,s14,s15,s16,s17⟩
           go_simp
           with_reducible rfl
          rotate_left
          ·simp only [Act.put,sB_,sZ_,sS_,i64_w,i32_w]
           rfl
          refine take_ (i := 18) (N := some 57) (v := ?_) (a' := ?_) #[true,true,true,true,true,true,true,true,true,false,true,true,true,true,true,true,true,true,true,false,false,false] rfl rfl (take_ofW HT_.out HW_.out (by kernel_rfl)) (fun _ _ _ h => h) (Or.inl ⟨by rfl,?_⟩) hHeld ?_ ?_
          rotate_left
          ·rintro w' ⟨s0,s1,s2,s3,s4,s5,s6,s7,s8,s9,s10,s11,s12,s13,s14,s15,s16,s17⟩
           go_simp
           with_reducible rfl
          rotate_left
          ·simp only [Act.put,sB_,sZ_,sS_,i64_w,i32_w]
           rfl
          refine one_ (i := 9) (N := some 48) #[true,true,true,true,true,true,true,true,true,true,true,true,true,true,true,true,true,true,true,false,false,false] rfl rfl (one_of HT_.out (by kernel_rfl)) (by decide) (fun K hK => ?_)
          refine goes_ Try.func82 (by kernel_rfl) rfl #[.agg #[.int .i64 ((rd_T49 l0 (rd t425 x13_1)).f0.f0),.int .i64 ((rd_T49 l0 (rd t425 x13_1)).f0.f1),.int .i64 ((rd_T49 l0 (rd t425 x13_1)).f1.f0),.int .i64 ((rd_T49 l0 (rd t425 x13_1)).f1.f1),.int .i64 ((rd_T49 l0 (rd t425 x13_1)).f2),.int .i64 ((rd_T49 l0 (rd t425 x13_1)).f3),.int .i64 ((rd_T49 l0 (rd t425 x13_1)).f4)],.int .i64 x425000_1] (by rfl) rfl rfl (by (try simp only [List.map_toArray,List.map_cons,List.map_nil]);first | done | rfl) ?_
          with_reducible refine (R_least.calls k1 ((rd_T49 l0 (rd t425 x13_1)).f0.f0) ((rd_T49 l0 (rd t425 x13_1)).f0.f1) ((rd_T49 l0 (rd t425 x13_1)).f1.f0) ((rd_T49 l0 (rd t425 x13_1)).f1.f1) ((rd_T49 l0 (rd t425 x13_1)).f2) ((rd_T49 l0 (rd t425 x13_1)).f3) ((rd_T49 l0 (rd t425 x13_1)).f4) x425000_1 t431 _ A16.out).mono ?_
          rintro e w21 ⟨rfl,hb⟩
          have HS2_ := (hb.cell (World.block_lt_of_cell? _ _ (hHeld.2.2.1))).trans (hHeld.2.2.1)
          have HS10_ := (hb.cell (World.block_lt_of_cell? _ _ (hHeld.2.2.2.2.2.2.2.2.2.2.1))).trans (hHeld.2.2.2.2.2.2.2.2.2.2.1)
          refine ⟨_,rfl,?_⟩
          have n0_ := aM_ (Kd.R_below (by exact lo_ HO_10) hb)
          have n1_ := aM_ (kB_ (g := gb422) (o := .cells #[.int .i64 0,.int .i64 0] 34 (0,0)) (by exact lk_ BK422) hb)
          have n2_ := aM_ (kB_ (g := gb424) (o := .cells #[.int .i64 x425000_1,.int .i64 x425001_1] 34 (0,0)) (by exact lk_ BK424) hb)
          have n3_ := aM_ (bT_ (by exact lb_ HB) hb)
          clear HO_10
          clear BK422
          clear BK424
          clear HB
          have HO_10 := n0_
          have BK422 := n1_
          have BK424 := n2_
          have HB := n3_
          clear n0_ n1_ n2_ n3_
          (try clear hb)
          (try clear hb2)
          (try clear hk)
          (try clear hi)
          refine hK.out _ _ ⟨(blk_cell BK424.out 0).trans rfl,(blk_cell BK424.out 1).trans rfl,HS2_,((HB.out.cell (World.block_lt_of_cell? w _ hw430_0)).trans hw430_0),((HB.out.cell (World.block_lt_of_cell? w _ hw430_1)).trans hw430_1),((HB.out.cell (World.block_lt_of_cell? w _ hw430_2)).trans hw430_2),((HB.out.cell (World.block_lt_of_cell? w _ hw430_3)).trans hw430_3),((HB.out.cell (World.block_lt_of_cell? w _ hw430_4)).trans hw430_4),((HB.out.cell (World.block_lt_of_cell? w _ hw430_5)).trans hw430_5),((HB.out.cell (World.block_lt_of_cell? w _ hw430_6)).trans hw430_6),HS10_,((HB.out.cell (World.block_lt_of_cell? w _ hw433_0)).trans hw433_0),((HB.out.cell (World.block_lt_of_cell? w _ hw433_1)).trans hw433_1),((HB.out.cell (World.block_lt_of_cell? w _ hw433_2)).trans hw433_2),((HB.out.cell (World.block_lt_of_cell? w _ hw433_3)).trans hw433_3),((HB.out.cell (World.block_lt_of_cell? w _ hw433_4)).trans hw433_4),((HB.out.cell (World.block_lt_of_cell? w _ hw433_5)).trans hw433_5),((HB.out.cell (World.block_lt_of_cell? w _ hw433_6)).trans hw433_6)⟩ (fun hHeld => ?_)
          clear hK K
          refine norm_ (a' := ?_) ?_ ?_
          rotate_left
          ·show Act.put _ (some 48) _ = _
           simp only [Act.put,sB_,sZ_,sS_,i64_w,i32_w]
           rfl
          refine one_ (i := 19) (N := some 58) #[true,true,true,true,true,true,true,true,true,true,true,true,true,true,true,true,true,true,true,true,false,false] rfl rfl (one_of HT_.out (by kernel_rfl)) (by decide) (fun K hK => ?_)
          refine goes_ Try.func83 (by kernel_rfl) rfl #[.agg #[.int .i64 ((rd_T49 l0 (rd t425 x13_1)).f0.f0),.int .i64 ((rd_T49 l0 (rd t425 x13_1)).f0.f1),.int .i64 ((rd_T49 l0 (rd t425 x13_1)).f1.f0),.int .i64 ((rd_T49 l0 (rd t425 x13_1)).f1.f1),.int .i64 ((rd_T49 l0 (rd t425 x13_1)).f2),.int .i64 ((rd_T49 l0 (rd t425 x13_1)).f3),.int .i64 ((rd_T49 l0 (rd t425 x13_1)).f4)],.int .i64 x425001_1] (by rfl) rfl rfl (by (try simp only [List.map_toArray,List.map_cons,List.map_nil]);first | done | rfl) ?_
          with_reducible refine (R_most.calls k1 ((rd_T49 l0 (rd t425 x13_1)).f0.f0) ((rd_T49 l0 (rd t425 x13_1)).f0.f1) ((rd_T49 l0 (rd t425 x13_1)).f1.f0) ((rd_T49 l0 (rd t425 x13_1)).f1.f1) ((rd_T49 l0 (rd t425 x13_1)).f2) ((rd_T49 l0 (rd t425 x13_1)).f3) ((rd_T49 l0 (rd t425 x13_1)).f4) x425001_1 t434 _ A17.out).mono ?_
          rintro e w22 ⟨rfl,hb⟩
          have HS2_ := (hb.cell (World.block_lt_of_cell? _ _ (hHeld.2.2.1))).trans (hHeld.2.2.1)
          have HS10_ := (hb.cell (World.block_lt_of_cell? _ _ (hHeld.2.2.2.2.2.2.2.2.2.2.1))).trans (hHeld.2.2.2.2.2.2.2.2.2.2.1)
          refine ⟨_,rfl,?_⟩
          have n0_ := aM_ (Kd.R_below (by exact lo_ HO_10) hb)
          have n1_ := aM_ (kB_ (g := gb422) (o := .cells #[.int .i64 0,.int .i64 0] 34 (0,0)) (by exact lk_ BK422) hb)
          have n2_ := aM_ (kB_ (g := gb424) (o := .cells #[.int .i64 x425000_1,.int .i64 x425001_1] 34 (0,0)) (by exact lk_ BK424) hb)
          have n3_ := aM_ (bT_ (by exact lb_ HB) hb)
          clear HO_10
          clear BK422
          clear BK424
          clear HB
          have HO_10 := n0_
          have BK422 := n1_
          have BK424 := n2_
          have HB := n3_
          clear n0_ n1_ n2_ n3_
          (try clear hb)
          (try clear hb2)
          (try clear hk)
          (try clear hi)
          refine hK.out _ _ ⟨(blk_cell BK424.out 0).trans rfl,(blk_cell BK424.out 1).trans rfl,HS2_,((HB.out.cell (World.block_lt_of_cell? w _ hw430_0)).trans hw430_0),((HB.out.cell (World.block_lt_of_cell? w _ hw430_1)).trans hw430_1),((HB.out.cell (World.block_lt_of_cell? w _ hw430_2)).trans hw430_2),((HB.out.cell (World.block_lt_of_cell? w _ hw430_3)).trans hw430_3),((HB.out.cell (World.block_lt_of_cell? w _ hw430_4)).trans hw430_4),((HB.out.cell (World.block_lt_of_cell? w _ hw430_5)).trans hw430_5),((HB.out.cell (World.block_lt_of_cell? w _ hw430_6)).trans hw430_6),HS10_,((HB.out.cell (World.block_lt_of_cell? w _ hw433_0)).trans hw433_0),((HB.out.cell (World.block_lt_of_cell? w _ hw433_1)).trans hw433_1),((HB.out.cell (World.block_lt_of_cell? w _ hw433_2)).trans hw433_2),((HB.out.cell (World.block_lt_of_cell? w _ hw433_3)).trans hw433_3),((HB.out.cell (World.block_lt_of_cell? w _ hw433_4)).trans hw433_4),((HB.out.cell (World.block_lt_of_cell? w _ hw433_5)).trans hw433_5),((HB.out.cell (World.block_lt_of_cell? w _ hw433_6)).trans hw433_6)⟩ (fun hHeld => ?_)
          clear hK K
          refine norm_ (a' := ?_) ?_ ?_
          rotate_left
          ·show Act.put _ (some 58) _ = _
           simp only [Act.put,sB_,sZ_,sS_,i64_w,i32_w]
           rfl
          refine pure_ (i := 20) (N := some 59) (v := ?_) (a' := ?_) #[true,true,true,true,true,true,true,true,true,true,true,true,true,true,true,true,true,true,true,true,true,false] rfl rfl (any_of HT_.out (by kernel_rfl)) (fun _ _ _ h => h) (Or.inl ⟨by rfl,?_⟩) ?_ ?_
          rotate_left
          ·intro w'
           go_simp
           with_reducible rfl
          rotate_left
          ·simp only [Act.put,sB_,sZ_,sS_,i64_w,i32_w]
           rfl
          refine last_ (i := 21) (N := none) #[true,true,true,true,true,true,true,true,true,true,true,true,true,true,true,true,true,true,true,true,true,true] rfl rfl (one_of HT_.out (by kernel_rfl)) (by decide) (fun K hK => ?_)
          have hs23 : w22.cell? ⟨gb424,0,none⟩ = some (.int .i64 x425000_1) := (blk_cell BK424.out 0).trans rfl
          have hfs23 := blk_frozen BK424.out 0
          have hns23_0 := NB422_424.out
          have hms23_0 := NB424_422.out
          have hs24 : w22.cell? ⟨gb424,1,none⟩ = some (.int .i64 x425001_1) := (blk_cell BK424.out 1).trans rfl
          have hfs24 := blk_frozen BK424.out 1
          have hns24_0 := NB422_424.out
          have hms24_0 := NB424_422.out
          refine skip_ (w1 := ?_) (by rfl) rfl ?_ ?_
          rotate_left
          ·go_simp
           rfl
          refine hK.out _ _ ?_
          clear hK K
          refine done_ (done_of HT_.out (by kernel_rfl)) ?_
          have hnb25 := NB424_422.out
          have hnc25 := NB422_424.out
          have hcz26_0 : w22.cell? ⟨gb424,0,none⟩ = some (.int .i64 x425000_1) := (blk_cell BK424.out 0).trans rfl
          have hcz26_1 : w22.cell? ⟨gb424,1,none⟩ = some (.int .i64 x425001_1) := (blk_cell BK424.out 1).trans rfl
          have hfz26_0 := blk_frozen BK424.out 0
          have hfz26_1 := blk_frozen BK424.out 1
          try go_wp2
          go_roundg k1
          case measure => have := HK1.out;omega
          case rel => exact ⟨(decide (t431 ≤ t434)),(wrap64 (x13_1 + 1)),(t431),(t434),(by first | rfl | (simp;done) | (simp [*];done)),(by first | rfl | (simp;done) | (simp [*];done)),H',⟨by have := HK1.out;omega⟩,⟨by (with_reducible repeat (first | apply Kd.R_alloc | apply Kd.R_drewN | apply Kd.R_drew));exact Kd.R_mono (Kd.R_far (p := ⟨gb424,1,none⟩) (Kd.R_far (p := ⟨gb424,0,none⟩) (Kd.R_types HO_10.out BK424.out (by decide)) (fun _ hk => hk.2) (.int .i64 t431)) (fun _ hk => hk.2) (.int .i64 t434)) (fun _ hk => trivial)⟩,⟨by (with_reducible repeat (first | refine kN_ ?_ _ | refine kD_ ?_ | refine kA_ ?_ _));refine blk_far ?_ NB422_424.out _;(with_reducible repeat (first | refine kN_ ?_ _ | refine kD_ ?_ | refine kA_ ?_ _));refine blk_far ?_ NB422_424.out _;exact lk_ BK422⟩,⟨by (with_reducible repeat (first | refine kN_ ?_ _ | refine kD_ ?_ | refine kA_ ?_ _));refine blk_put (cs := #[.int .i64 t431,.int .i64 x425001_1]) ?_ 1 _ rfl;(with_reducible repeat (first | refine kN_ ?_ _ | refine kD_ ?_ | refine kA_ ?_ _));refine blk_put (cs := #[.int .i64 x425000_1,.int .i64 x425001_1]) ?_ 0 _ rfl;exact lk_ BK424⟩,⟨by exact lb_ HB⟩⟩
         ·replace c18 := Bool.eq_false_iff.mpr c18
          subst c18
          have H1 : (R_before.l0 k1 l0 t425 false (wrap64 (x13_1 + 1)) t431 t434) = some (r1,r2,r3) := by rw [if_neg (show ¬ (false = true) by decide)] at H;exact H
          clear H
          have H := H1
          clear H1
          have H' := aM_ H
          clear H
          obtain ⟨Ao27,co27,eo27⟩ := Kd.R_slice HO_10.out
          subst eo27
          try go_wp2
          have n0_ := aM_ (Kd.R_drew HO_10.out)
          have n1_ := aM_ (kD_ BK422.out)
          have n2_ := aM_ (kD_ BK424.out)
          have n3_ := aM_ (bD_ HB.out)
          clear HO_10
          clear BK422
          clear BK424
          clear HB
          have HO_10 := n0_
          have BK422 := n1_
          have BK424 := n2_
          have HB := n3_
          clear n0_ n1_ n2_ n3_
          have p429 : 0 ≤ (x13_1 : Int) := of_decide_eq_true (by first | (with_reducible assumption) | assumption)
          have q429 : x13_1 < (t425.length : Int) := of_decide_eq_true (by first | (with_reducible assumption) | assumption)
          obtain ⟨ad429,e429,hx429_0⟩ := Kd.at_int (Kd.R_reads' HO_10.out).2.2 x13_1 p429 q429
          cases e429
          replace p429 := eq_true p429
          replace q429 := eq_true q429
          have p430 : 0 ≤ ((rd t425 x13_1) : Int) := of_decide_eq_true (by first | (with_reducible assumption) | assumption)
          have q430 : (rd t425 x13_1) < (l0.length : Int) := of_decide_eq_true (by first | (with_reducible assumption) | assumption)
          obtain ⟨ad430,e430,hx430_0,hx430_1,hx430_2,hx430_3,hx430_4,hx430_5,hx430_6⟩ := at_T49 HR0.out (rd t425 x13_1) p430 q430
          have hw430_6 := hx430_6
          have hw430_5 := hx430_5
          have hw430_4 := hx430_4
          have hw430_3 := hx430_3
          have hw430_2 := hx430_2
          have hw430_1 := hx430_1
          have hw430_0 := hx430_0
          obtain rfl : ad423 = ad430 := (by injection e430)
          replace hx430_0 := (HB.out.cell (World.block_lt_of_cell? w _ hx430_0)).trans hx430_0
          replace hx430_1 := (HB.out.cell (World.block_lt_of_cell? w _ hx430_1)).trans hx430_1
          replace hx430_2 := (HB.out.cell (World.block_lt_of_cell? w _ hx430_2)).trans hx430_2
          replace hx430_3 := (HB.out.cell (World.block_lt_of_cell? w _ hx430_3)).trans hx430_3
          replace hx430_4 := (HB.out.cell (World.block_lt_of_cell? w _ hx430_4)).trans hx430_4
          replace hx430_5 := (HB.out.cell (World.block_lt_of_cell? w _ hx430_5)).trans hx430_5
          replace hx430_6 := (HB.out.cell (World.block_lt_of_cell? w _ hx430_6)).trans hx430_6
          replace p430 := eq_true p430
          replace q430 := eq_true q430
          have p432 : 0 ≤ (x13_1 : Int) := of_decide_eq_true (by first | (with_reducible assumption) | assumption)
          have q432 : x13_1 < (t425.length : Int) := of_decide_eq_true (by first | (with_reducible assumption) | assumption)
          obtain ⟨ad432,e432,hx432_0⟩ := Kd.at_int (Kd.R_reads' HO_10.out).2.2 x13_1 p432 q432
          obtain rfl : ad429 = ad432 := (by injection e432)
          replace p432 := eq_true p432
          replace q432 := eq_true q432
          have p433 : 0 ≤ ((rd t425 x13_1) : Int) := of_decide_eq_true (by first | (with_reducible assumption) | assumption)
          have q433 : (rd t425 x13_1) < (l0.length : Int) := of_decide_eq_true (by first | (with_reducible assumption) | assumption)
          obtain ⟨ad433,e433,hx433_0,hx433_1,hx433_2,hx433_3,hx433_4,hx433_5,hx433_6⟩ := at_T49 HR0.out (rd t425 x13_1) p433 q433
          have hw433_6 := hx433_6
          have hw433_5 := hx433_5
          have hw433_4 := hx433_4
          have hw433_3 := hx433_3
          have hw433_2 := hx433_2
          have hw433_1 := hx433_1
          have hw433_0 := hx433_0
          obtain rfl : ad423 = ad433 := (by injection e433)
          replace hx433_0 := (HB.out.cell (World.block_lt_of_cell? w _ hx433_0)).trans hx433_0
          replace hx433_1 := (HB.out.cell (World.block_lt_of_cell? w _ hx433_1)).trans hx433_1
          replace hx433_2 := (HB.out.cell (World.block_lt_of_cell? w _ hx433_2)).trans hx433_2
          replace hx433_3 := (HB.out.cell (World.block_lt_of_cell? w _ hx433_3)).trans hx433_3
          replace hx433_4 := (HB.out.cell (World.block_lt_of_cell? w _ hx433_4)).trans hx433_4
          replace hx433_5 := (HB.out.cell (World.block_lt_of_cell? w _ hx433_5)).trans hx433_5
          replace hx433_6 := (HB.out.cell (World.block_lt_of_cell? w _ hx433_6)).trans hx433_6
          replace p433 := eq_true p433
          replace q433 := eq_true q433
          refine start_ (n := 22) (S := fun w' => w'.cell? ⟨gb424,0,none⟩ = some (.int .i64 x425000_1) ∧ w'.cell? ⟨gb424,1,none⟩ = some (.int .i64 x425001_1) ∧ w'.cell? (ad429.add (x13_1).toNat) = some (.int .i64 (rd t425 x13_1)) ∧ w'.cell? (ad423.add (((rd t425 x13_1)).toNat * 7)) = some (.int .i64 ((rd_T49 l0 (rd t425 x13_1)).f0.f0)) ∧ w'.cell? ⟨(ad423.add (((rd t425 x13_1)).toNat * 7)).block,(ad423.add (((rd t425 x13_1)).toNat * 7)).off + 1,none⟩ = some (.int .i64 ((rd_T49 l0 (rd t425 x13_1)).f0.f1)) ∧ w'.cell? ⟨(ad423.add (((rd t425 x13_1)).toNat * 7)).block,(ad423.add (((rd t425 x13_1)).toNat * 7)).off + 2,none⟩ = some (.int .i64 ((rd_T49 l0 (rd t425 x13_1)).f1.f0)) ∧ w'.cell? ⟨(ad423.add (((rd t425 x13_1)).toNat * 7)).block,(ad423.add (((rd t425 x13_1)).toNat * 7)).off + 3,none⟩ = some (.int .i64 ((rd_T49 l0 (rd t425 x13_1)).f1.f1)) ∧ w'.cell? ⟨(ad423.add (((rd t425 x13_1)).toNat * 7)).block,(ad423.add (((rd t425 x13_1)).toNat * 7)).off + 4,none⟩ = some (.int .i64 ((rd_T49 l0 (rd t425 x13_1)).f2)) ∧ w'.cell? ⟨(ad423.add (((rd t425 x13_1)).toNat * 7)).block,(ad423.add (((rd t425 x13_1)).toNat * 7)).off + 5,none⟩ = some (.int .i64 ((rd_T49 l0 (rd t425 x13_1)).f3)) ∧ w'.cell? ⟨(ad423.add (((rd t425 x13_1)).toNat * 7)).block,(ad423.add (((rd t425 x13_1)).toNat * 7)).off + 6,none⟩ = some (.int .i64 ((rd_T49 l0 (rd t425 x13_1)).f4)) ∧ w'.cell? (ad429.add (x13_1).toNat) = some (.int .i64 (rd t425 x13_1)) ∧ w'.cell? (ad423.add (((rd t425 x13_1)).toNat * 7)) = some (.int .i64 ((rd_T49 l0 (rd t425 x13_1)).f0.f0)) ∧ w'.cell? ⟨(ad423.add (((rd t425 x13_1)).toNat * 7)).block,(ad423.add (((rd t425 x13_1)).toNat * 7)).off + 1,none⟩ = some (.int .i64 ((rd_T49 l0 (rd t425 x13_1)).f0.f1)) ∧ w'.cell? ⟨(ad423.add (((rd t425 x13_1)).toNat * 7)).block,(ad423.add (((rd t425 x13_1)).toNat * 7)).off + 2,none⟩ = some (.int .i64 ((rd_T49 l0 (rd t425 x13_1)).f1.f0)) ∧ w'.cell? ⟨(ad423.add (((rd t425 x13_1)).toNat * 7)).block,(ad423.add (((rd t425 x13_1)).toNat * 7)).off + 3,none⟩ = some (.int .i64 ((rd_T49 l0 (rd t425 x13_1)).f1.f1)) ∧ w'.cell? ⟨(ad423.add (((rd t425 x13_1)).toNat * 7)).block,(ad423.add (((rd t425 x13_1)).toNat * 7)).off + 4,none⟩ = some (.int .i64 ((rd_T49 l0 (rd t425 x13_1)).f2)) ∧ w'.cell? ⟨(ad423.add (((rd t425 x13_1)).toNat * 7)).block,(ad423.add (((rd t425 x13_1)).toNat * 7)).off + 5,none⟩ = some (.int .i64 ((rd_T49 l0 (rd t425 x13_1)).f3)) ∧ w'.cell? ⟨(ad423.add (((rd t425 x13_1)).toNat * 7)).block,(ad423.add (((rd t425 x13_1)).toNat * 7)).off + 6,none⟩ = some (.int .i64 ((rd_T49 l0 (rd t425 x13_1)).f4))) (ds := [21]) #[false,false,false,false,false,false,false,false,false,false,false,false,false,false,false,false,false,false,false,false,false,false] (by kernel_rfl) rfl rfl ⟨(blk_cell BK424.out 0).trans rfl,(blk_cell BK424.out 1).trans rfl,hx429_0,((HB.out.cell (World.block_lt_of_cell? w _ hw430_0)).trans hw430_0),((HB.out.cell (World.block_lt_of_cell? w _ hw430_1)).trans hw430_1),((HB.out.cell (World.block_lt_of_cell? w _ hw430_2)).trans hw430_2),((HB.out.cell (World.block_lt_of_cell? w _ hw430_3)).trans hw430_3),((HB.out.cell (World.block_lt_of_cell? w _ hw430_4)).trans hw430_4),((HB.out.cell (World.block_lt_of_cell? w _ hw430_5)).trans hw430_5),((HB.out.cell (World.block_lt_of_cell? w _ hw430_6)).trans hw430_6),hx432_0,((HB.out.cell (World.block_lt_of_cell? w _ hw433_0)).trans hw433_0),((HB.out.cell (World.block_lt_of_cell? w _ hw433_1)).trans hw433_1),((HB.out.cell (World.block_lt_of_cell? w _ hw433_2)).trans hw433_2),((HB.out.cell (World.block_lt_of_cell? w _ hw433_3)).trans hw433_3),((HB.out.cell (World.block_lt_of_cell? w _ hw433_4)).trans hw433_4),((HB.out.cell (World.block_lt_of_cell? w _ hw433_5)).trans hw433_5),((HB.out.cell (World.block_lt_of_cell? w _ hw433_6)).trans hw433_6)⟩ (fun hHeld => ?_);refine with_tabW R_before.tab8 R_before.bits8 (fun HT_ HW_ => ?_)
          generalize wr.drew = w28 at HO_10 BK422 BK424 HB hx429_0 hx430_0 hx430_1 hx430_2 hx430_3 hx430_4 hx430_5 hx430_6 hx432_0 hx433_0 hx433_1 hx433_2 hx433_3 hx433_4 hx433_5 hx433_6 hHeld ⊢
          refine pure_ (i := 0) (N := some 39) (v := ?_) (a' := ?_) #[true,false,false,false,false,false,false,false,false,false,false,false,false,false,false,false,false,false,false,false,false,false] rfl rfl (any_of HT_.out (by kernel_rfl)) (fun _ _ _ h => h) (Or.inl ⟨by rfl,?_⟩) ?_ ?_
          rotate_left
          ·intro w'
           go_simp
           with_reducible rfl
          rotate_left
          ·simp only [Act.put,sB_,sZ_,sS_,i64_w,i32_w]
           rfl
          refine pure_ (i := 1) (N := some 40) (v := ?_) (a' := ?_) #[true,true,false,false,false,false,false,false,false,false,false,false,false,false,false,false,false,false,false,false,false,false] rfl rfl (any_of HT_.out (by kernel_rfl)) (fun _ _ _ h => h) (Or.inl ⟨by rfl,?_⟩) ?_ ?_
          rotate_left
          ·intro w'
           go_simp
           with_reducible rfl
          rotate_left
          ·simp only [Act.put,sB_,sZ_,sS_,i64_w,i32_w]
           rfl
          refine pure_ (i := 2) (N := some 41) (v := ?_) (a' := ?_) #[true,true,true,false,false,false,false,false,false,false,false,false,false,false,false,false,false,false,false,false,false,false] rfl rfl (any_of HT_.out (by kernel_rfl)) (fun _ _ _ h => h) (Or.inl ⟨by rfl,?_⟩) ?_ ?_
          rotate_left
          ·intro w'
           go_simp
           with_reducible rfl
          rotate_left
          ·simp only [Act.put,sB_,sZ_,sS_,i64_w,i32_w]
           rfl
          refine pure_ (i := 3) (N := some 42) (v := ?_) (a' := ?_) #[true,true,true,true,false,false,false,false,false,false,false,false,false,false,false,false,false,false,false,false,false,false] rfl rfl (any_of HT_.out (by kernel_rfl)) (fun _ _ _ h => h) (Or.inl ⟨by rfl,?_⟩) ?_ ?_
          rotate_left
          ·intro w'
           go_simp
           with_reducible rfl
          rotate_left
          ·simp only [Act.put,sB_,sZ_,sS_,i64_w,i32_w]
           rfl
          refine pure_ (i := 7) (N := some 46) (v := ?_) (a' := ?_) #[true,true,true,true,false,false,false,true,false,false,false,false,false,false,false,false,false,false,false,false,false,false] rfl rfl (any_of HT_.out (by kernel_rfl)) (fun _ _ _ h => h) (Or.inl ⟨by rfl,?_⟩) ?_ ?_
          rotate_left
          ·intro w'
           go_simp
           with_reducible rfl
          rotate_left
          ·simp only [Act.put,sB_,sZ_,sS_,i64_w,i32_w]
           rfl
          refine pure_ (i := 10) (N := some 49) (v := ?_) (a' := ?_) #[true,true,true,true,false,false,false,true,false,false,true,false,false,false,false,false,false,false,false,false,false,false] rfl rfl (any_of HT_.out (by kernel_rfl)) (fun _ _ _ h => h) (Or.inl ⟨by rfl,?_⟩) ?_ ?_
          rotate_left
          ·intro w'
           go_simp
           with_reducible rfl
          rotate_left
          ·simp only [Act.put,sB_,sZ_,sS_,i64_w,i32_w]
           rfl
          refine pure_ (i := 11) (N := some 50) (v := ?_) (a' := ?_) #[true,true,true,true,false,false,false,true,false,false,true,true,false,false,false,false,false,false,false,false,false,false] rfl rfl (any_of HT_.out (by kernel_rfl)) (fun _ _ _ h => h) (Or.inl ⟨by rfl,?_⟩) ?_ ?_
          rotate_left
          ·intro w'
           go_simp
           with_reducible rfl
          rotate_left
          ·simp only [Act.put,sB_,sZ_,sS_,i64_w,i32_w]
           rfl
          refine pure_ (i := 12) (N := some 51) (v := ?_) (a' := ?_) #[true,true,true,true,false,false,false,true,false,false,true,true,true,false,false,false,false,false,false,false,false,false] rfl rfl (any_of HT_.out (by kernel_rfl)) (fun _ _ _ h => h) (Or.inl ⟨by rfl,?_⟩) ?_ ?_
          rotate_left
          ·intro w'
           go_simp
           with_reducible rfl
          rotate_left
          ·simp only [Act.put,sB_,sZ_,sS_,i64_w,i32_w]
           rfl
          refine pure_ (i := 13) (N := some 52) (v := ?_) (a' := ?_) #[true,true,true,true,false,false,false,true,false,false,true,true,true,true,false,false,false,false,false,false,false,false] rfl rfl (any_of HT_.out (by kernel_rfl)) (fun _ _ _ h => h) (Or.inl ⟨by rfl,?_⟩) ?_ ?_
          rotate_left
          ·intro w'
           go_simp
           with_reducible rfl
          rotate_left
          ·simp only [Act.put,sB_,sZ_,sS_,i64_w,i32_w]
           rfl
          refine pure_ (i := 17) (N := some 56) (v := ?_) (a' := ?_) #[true,true,true,true,false,false,false,true,false,false,true,true,true,true,false,false,false,true,false,false,false,false] rfl rfl (any_of HT_.out (by kernel_rfl)) (fun _ _ _ h => h) (Or.inl ⟨by rfl,?_⟩) ?_ ?_
          rotate_left
          ·intro w'
           go_simp
           with_reducible rfl
          rotate_left
          ·simp only [Act.put,sB_,sZ_,sS_,i64_w,i32_w]
           rfl
          refine take_ (i := 4) (N := some 43) (v := ?_) (a' := ?_) #[true,true,true,true,true,false,false,true,false,false,true,true,true,true,false,false,false,true,false,false,false,false] rfl rfl (take_ofW HT_.out HW_.out (by kernel_rfl)) (fun _ _ _ h => h) (Or.inl ⟨by rfl,?_⟩) hHeld ?_ ?_
          rotate_left
          ·rintro w' ⟨s0,s1,s2,s3,s4,s5,s6,s7,s8,s9,s10,s11,s12,s13,s14,s15,s16,s17⟩
           go_simp
           with_reducible rfl
          rotate_left
          ·simp only [Act.put,sB_,sZ_,sS_,i64_w,i32_w]
           rfl
          refine pure_ (i := 5) (N := some 44) (v := ?_) (a' := ?_) #[true,true,true,true,true,true,false,true,false,false,true,true,true,true,false,false,false,true,false,false,false,false] rfl rfl (any_of HT_.out (by kernel_rfl)) (fun _ _ _ h => h) (Or.inl ⟨by rfl,?_⟩) ?_ ?_
          rotate_left
          ·intro w'
           go_simp
           with_reducible rfl
          rotate_left
          ·simp only [Act.put,sB_,sZ_,sS_,i64_w,i32_w]
           rfl
          refine take_ (i := 6) (N := some 45) (v := ?_) (a' := ?_) #[true,true,true,true,true,true,true,true,false,false,true,true,true,true,false,false,false,true,false,false,false,false] rfl rfl (take_ofW HT_.out HW_.out (by kernel_rfl)) (fun _ _ _ h => h) (Or.inl ⟨by rfl,?_⟩) hHeld ?_ ?_
          rotate_left
          ·rintro w' ⟨s0,s1,s2,s3,s4,s5,s6,s7,s8,s9,s10,s11,s12,s13,s14,s15,s16,s17⟩
           go_simp
           with_reducible rfl
          rotate_left
          ·simp only [Act.put,sB_,sZ_,sS_,i64_w,i32_w]
           rfl
          refine take_ (i := 8) (N := some 47) (v := ?_) (a' := ?_) #[true,true,true,true,true,true,true,true,true,false,true,true,true,true,false,false,false,true,false,false,false,false] rfl rfl (take_ofW HT_.out HW_.out (by kernel_rfl)) (fun _ _ _ h => h) (Or.inl ⟨by rfl,?_⟩) hHeld ?_ ?_
          rotate_left
          ·rintro w' ⟨s0,s1,s2,s3,s4,s5,s6,s7,s8,s9,s10,s11,s12,s13,s14,s15,s16,s17⟩
           go_simp
           with_reducible rfl
          rotate_left
          ·simp only [Act.put,sB_,sZ_,sS_,i64_w,i32_w]
           rfl
          refine take_ (i := 14) (N := some 53) (v := ?_) (a' := ?_) #[true,true,true,true,true,true,true,true,true,false,true,true,true,true,true,false,false,true,false,false,false,false] rfl rfl (take_ofW HT_.out HW_.out (by kernel_rfl)) (fun _ _ _ h => h) (Or.inl ⟨by rfl,?_⟩) hHeld ?_ ?_
          rotate_left
          ·rintro w' ⟨s0,s1,s2,s3,s4,s5,s6,s7,s8,s9,s10,s11,s12,s13,s14,s15,s16,s17⟩
           go_simp
           with_reducible rfl
          rotate_left
          ·simp only [Act.put,sB_,sZ_,sS_,i64_w,i32_w]
           rfl
          refine pure_ (i := 15) (N := some 54) (v := ?_) (a' := ?_) #[true,true,true,true,true,true,true,true,true,false,true,true,true,true,true,true,false,true,false,false,false,false] rfl rfl (any_of HT_.out (by kernel_rfl)) (fun _ _ _ h => h) (Or.inl ⟨by rfl,?_⟩) ?_ ?_
          rotate_left
          ·intro w'
           go_simp
           with_reducible rfl
          rotate_left
          ·simp only [Act.put,sB_,sZ_,sS_,i64_w,i32_w]
           rfl
          refine take_ (i := 16) (N := some 55) (v := ?_) (a' := ?_) #[true,true,true,true,true,true,true,true,true,false,true,true,true,true,true,true,true,true,false,false,false,false] rfl rfl (take_ofW HT_.out HW_.out (by kernel_rfl)) (fun _ _ _ h => h) (Or.inl ⟨by rfl,?_⟩) hHeld ?_ ?_
          rotate_left
          ·rintro w' ⟨s0,s1,s2,s3,s4,s5,s6,s7,s8,s9,s10,s11,s12,s13,s14,s15,s16,s17⟩
           go_simp
           with_reducible rfl
          rotate_left
          ·simp only [Act.put,sB_,sZ_,sS_,i64_w,i32_w]
           rfl
          refine take_ (i := 18) (N := some 57) (v := ?_) (a' := ?_) #[true,true,true,true,true,true,true,true,true,false,true,true,true,true,true,true,true,true,true,false,false,false] rfl rfl (take_ofW HT_.out HW_.out (by kernel_rfl)) (fun _ _ _ h => h) (Or.inl ⟨by rfl,?_⟩) hHeld ?_ ?_
          rotate_left
          ·rintro w' ⟨s0,s1,s2,s3,s4,s5,s6,s7,s8,s9,s10,s11,s12,s13,s14,s15,s16,s17⟩
           go_simp
           with_reducible rfl
          rotate_left
          ·simp only [Act.put,sB_,sZ_,sS_,i64_w,i32_w]
           rfl
          refine one_ (i := 9) (N := some 48) #[true,true,true,true,true,true,true,true,true,true,true,true,true,true,true,true,true,true,true,false,false,false] rfl rfl (one_of HT_.out (by kernel_rfl)) (by decide) (fun K hK => ?_)
          refine goes_ Try.func82 (by kernel_rfl) rfl #[.agg #[.int .i64 ((rd_T49 l0 (rd t425 x13_1)).f0.f0),.int .i64 ((rd_T49 l0 (rd t425 x13_1)).f0.f1),.int .i64 ((rd_T49 l0 (rd t425 x13_1)).f1.f0),.int .i64 ((rd_T49 l0 (rd t425 x13_1)).f1.f1),.int .i64 ((rd_T49 l0 (rd t425 x13_1)).f2),.int .i64 ((rd_T49 l0 (rd t425 x13_1)).f3),.int .i64 ((rd_T49 l0 (rd t425 x13_1)).f4)],.int .i64 x425000_1] (by rfl) rfl rfl (by (try simp only [List.map_toArray,List.map_cons,List.map_nil]);first | done | rfl) ?_
          with_reducible refine (R_least.calls k1 ((rd_T49 l0 (rd t425 x13_1)).f0.f0) ((rd_T49 l0 (rd t425 x13_1)).f0.f1) ((rd_T49 l0 (rd t425 x13_1)).f1.f0) ((rd_T49 l0 (rd t425 x13_1)).f1.f1) ((rd_T49 l0 (rd t425 x13_1)).f2) ((rd_T49 l0 (rd t425 x13_1)).f3) ((rd_T49 l0 (rd t425 x13_1)).f4) x425000_1 t431 _ A16.out).mono ?_
          rintro e w29 ⟨rfl,hb⟩
          have HS2_ := (hb.cell (World.block_lt_of_cell? _ _ (hHeld.2.2.1))).trans (hHeld.2.2.1)
          have HS10_ := (hb.cell (World.block_lt_of_cell? _ _ (hHeld.2.2.2.2.2.2.2.2.2.2.1))).trans (hHeld.2.2.2.2.2.2.2.2.2.2.1)
          refine ⟨_,rfl,?_⟩
          have n0_ := aM_ (Kd.R_below (by exact lo_ HO_10) hb)
          have n1_ := aM_ (kB_ (g := gb422) (o := .cells #[.int .i64 0,.int .i64 0] 34 (0,0)) (by exact lk_ BK422) hb)
          have n2_ := aM_ (kB_ (g := gb424) (o := .cells #[.int .i64 x425000_1,.int .i64 x425001_1] 34 (0,0)) (by exact lk_ BK424) hb)
          have n3_ := aM_ (bT_ (by exact lb_ HB) hb)
          clear HO_10
          clear BK422
          clear BK424
          clear HB
          have HO_10 := n0_
          have BK422 := n1_
          have BK424 := n2_
          have HB := n3_
          clear n0_ n1_ n2_ n3_
          (try clear hb)
          (try clear hb2)
          (try clear hk)
          (try clear hi)
          refine hK.out _ _ ⟨(blk_cell BK424.out 0).trans rfl,(blk_cell BK424.out 1).trans rfl,HS2_,((HB.out.cell (World.block_lt_of_cell? w _ hw430_0)).trans hw430_0),((HB.out.cell (World.block_lt_of_cell? w _ hw430_1)).trans hw430_1),((HB.out.cell (World.block_lt_of_cell? w _ hw430_2)).trans hw430_2),((HB.out.cell (World.block_lt_of_cell? w _ hw430_3)).trans hw430_3),((HB.out.cell (World.block_lt_of_cell? w _ hw430_4)).trans hw430_4),((HB.out.cell (World.block_lt_of_cell? w _ hw430_5)).trans hw430_5),((HB.out.cell (World.block_lt_of_cell? w _ hw430_6)).trans hw430_6),HS10_,((HB.out.cell (World.block_lt_of_cell? w _ hw433_0)).trans hw433_0),((HB.out.cell (World.block_lt_of_cell? w _ hw433_1)).trans hw433_1),((HB.out.cell (World.block_lt_of_cell? w _ hw433_2)).trans hw433_2),((HB.out.cell (World.block_lt_of_cell? w _ hw433_3)).trans hw433_3),((HB.out.cell (World.block_lt_of_cell? w _ hw433_4)).trans hw433_4),((HB.out.cell (World.block_lt_of_cell? w _ hw433_5)).trans hw433_5),((HB.out.cell (World.block_lt_of_cell? w _ hw433_6)).trans hw433_6)⟩ (fun hHeld => ?_)
          clear hK K
          refine norm_ (a' := ?_) ?_ ?_
          rotate_left
          ·show Act.put _ (some 48) _ = _
           simp only [Act.put,sB_,sZ_,sS_,i64_w,i32_w]
           rfl
          refine one_ (i := 19) (N := some 58) #[true,true,true,true,true,true,true,true,true,true,true,true,true,true,true,true,true,true,true,true,false,false] rfl rfl (one_of HT_.out (by kernel_rfl)) (by decide) (fun K hK => ?_)
          refine goes_ Try.func83 (by kernel_rfl) rfl #[.agg #[.int .i64 ((rd_T49 l0 (rd t425 x13_1)).f0.f0),.int .i64 ((rd_T49 l0 (rd t425 x13_1)).f0.f1),.int .i64 ((rd_T49 l0 (rd t425 x13_1)).f1.f0),.int .i64 ((rd_T49 l0 (rd t425 x13_1)).f1.f1),.int .i64 ((rd_T49 l0 (rd t425 x13_1)).f2),.int .i64 ((rd_T49 l0 (rd t425 x13_1)).f3),.int .i64 ((rd_T49 l0 (rd t425 x13_1)).f4)],.int .i64 x425001_1] (by rfl) rfl rfl (by (try simp only [List.map_toArray,List.map_cons,List.map_nil]);first | done | rfl) ?_
          with_reducible refine (R_most.calls k1 ((rd_T49 l0 (rd t425 x13_1)).f0.f0) ((rd_T49 l0 (rd t425 x13_1)).f0.f1) ((rd_T49 l0 (rd t425 x13_1)).f1.f0) ((rd_T49 l0 (rd t425 x13_1)).f1.f1) ((rd_T49 l0 (rd t425 x13_1)).f2) ((rd_T49 l0 (rd t425 x13_1)).f3) ((rd_T49 l0 (rd t425 x13_1)).f4) x425001_1 t434 _ A17.out).mono ?_
          rintro e w30 ⟨rfl,hb⟩
          have HS2_ := (hb.cell (World.block_lt_of_cell? _ _ (hHeld.2.2.1))).trans (hHeld.2.2.1)
          have HS10_ := (hb.cell (World.block_lt_of_cell? _ _ (hHeld.2.2.2.2.2.2.2.2.2.2.1))).trans (hHeld.2.2.2.2.2.2.2.2.2.2.1)
          refine ⟨_,rfl,?_⟩
          have n0_ := aM_ (Kd.R_below (by exact lo_ HO_10) hb)
          have n1_ := aM_ (kB_ (g := gb422) (o := .cells #[.int .i64 0,.int .i64 0] 34 (0,0)) (by exact lk_ BK422) hb)
          have n2_ := aM_ (kB_ (g := gb424) (o := .cells #[.int .i64 x425000_1,.int .i64 x425001_1] 34 (0,0)) (by exact lk_ BK424) hb)
          have n3_ := aM_ (bT_ (by exact lb_ HB) hb)
          clear HO_10
          clear BK422
          clear BK424
          clear HB
          have HO_10 := n0_
          have BK422 := n1_
          have BK424 := n2_
          have HB := n3_
          clear n0_ n1_ n2_ n3_
          (try clear hb)
          (try clear hb2)
          (try clear hk)
          (try clear hi)
          refine hK.out _ _ ⟨(blk_cell BK424.out 0).trans rfl,(blk_cell BK424.out 1).trans rfl,HS2_,((HB.out.cell (World.block_lt_of_cell? w _ hw430_0)).trans hw430_0),((HB.out.cell (World.block_lt_of_cell? w _ hw430_1)).trans hw430_1),((HB.out.cell (World.block_lt_of_cell? w _ hw430_2)).trans hw430_2),((HB.out.cell (World.block_lt_of_cell? w _ hw430_3)).trans hw430_3),((HB.out.cell (World.block_lt_of_cell? w _ hw430_4)).trans hw430_4),((HB.out.cell (World.block_lt_of_cell? w _ hw430_5)).trans hw430_5),((HB.out.cell (World.block_lt_of_cell? w _ hw430_6)).trans hw430_6),HS10_,((HB.out.cell (World.block_lt_of_cell? w _ hw433_0)).trans hw433_0),((HB.out.cell (World.block_lt_of_cell? w _ hw433_1)).trans hw433_1),((HB.out.cell (World.block_lt_of_cell? w _ hw433_2)).trans hw433_2),((HB.out.cell (World.block_lt_of_cell? w _ hw433_3)).trans hw433_3),((HB.out.cell (World.block_lt_of_cell? w _ hw433_4)).trans hw433_4),((HB.out.cell (World.block_lt_of_cell? w _ hw433_5)).trans hw433_5),((HB.out.cell (World.block_lt_of_cell? w _ hw433_6)).trans hw433_6)⟩ (fun hHeld => ?_)
          clear hK K
          refine norm_ (a' := ?_) ?_ ?_
          rotate_left
          ·show Act.put _ (some 58) _ = _
           simp only [Act.put,sB_,sZ_,sS_,i64_w,i32_w]
           rfl
          refine pure_ (i := 20) (N := some 59) (v := ?_) (a' := ?_) #[true,true,true,true,true,true,true,true,true,true,true,true,true,true,true,true,true,true,true,true,true,false] rfl rfl (any_of HT_.out (by kernel_rfl)) (fun _ _ _ h => h) (Or.inl ⟨by rfl,?_⟩) ?_ ?_
          rotate_left
          ·intro w'
           go_simp
           with_reducible rfl
          rotate_left
          ·simp only [Act.put,sB_,sZ_,sS_,i64_w,i32_w]
           rfl
          refine last_ (i := 21) (N := none) #[true,true,true,true,true,true,true,true,true,true,true,true,true,true,true,true,true,true,true,true,true,true] rfl rfl (one_of HT_.out (by kernel_rfl)) (by decide) (fun K hK => ?_)
          have hs31 : w30.cell? ⟨gb424,0,none⟩ = some (.int .i64 x425000_1) := (blk_cell BK424.out 0).trans rfl
          have hfs31 := blk_frozen BK424.out 0
          have hns31_0 := NB422_424.out
          have hms31_0 := NB424_422.out
          have hs32 : w30.cell? ⟨gb424,1,none⟩ = some (.int .i64 x425001_1) := (blk_cell BK424.out 1).trans rfl
          have hfs32 := blk_frozen BK424.out 1
          have hns32_0 := NB422_424.out
          have hms32_0 := NB424_422.out
          refine skip_ (w1 := ?_) (by rfl) rfl ?_ ?_
          rotate_left
          ·go_simp
           rfl
          refine hK.out _ _ ?_
          clear hK K
          refine done_ (done_of HT_.out (by kernel_rfl)) ?_
          try go_wp2
          go_roundg k1
          case measure => have := HK1.out;omega
          case rel => exact ⟨(false),(wrap64 (x13_1 + 1)),(t431),(t434),(by first | rfl | (simp;done) | (simp [*];done)),(by first | rfl | (simp;done) | (simp [*];done)),H',⟨by have := HK1.out;omega⟩,⟨by (with_reducible repeat (first | apply Kd.R_alloc | apply Kd.R_drewN | apply Kd.R_drew));exact Kd.R_mono (Kd.R_far (p := ⟨gb424,1,none⟩) (Kd.R_far (p := ⟨gb424,0,none⟩) (Kd.R_types HO_10.out BK424.out (by decide)) (fun _ hk => hk.2) (.int .i64 t431)) (fun _ hk => hk.2) (.int .i64 t434)) (fun _ hk => trivial)⟩,⟨by (with_reducible repeat (first | refine kN_ ?_ _ | refine kD_ ?_ | refine kA_ ?_ _));refine blk_far ?_ NB422_424.out _;(with_reducible repeat (first | refine kN_ ?_ _ | refine kD_ ?_ | refine kA_ ?_ _));refine blk_far ?_ NB422_424.out _;exact lk_ BK422⟩,⟨by (with_reducible repeat (first | refine kN_ ?_ _ | refine kD_ ?_ | refine kA_ ?_ _));refine blk_put (cs := #[.int .i64 t431,.int .i64 x425001_1]) ?_ 1 _ rfl;(with_reducible repeat (first | refine kN_ ?_ _ | refine kD_ ?_ | refine kA_ ?_ _));refine blk_put (cs := #[.int .i64 x425000_1,.int .i64 x425001_1]) ?_ 0 _ rfl;exact lk_ BK424⟩,⟨by exact lb_ HB⟩⟩
        ·rw [if_neg c15] at H
         exact absurd H (by simp)
       ·rw [if_neg c14] at H
        exact absurd H (by simp)
      ·rw [if_neg c13] at H
       exact absurd H (by simp)
     ·rw [if_neg c12] at H
      have c12b0 : decide (x13_1 < (t425.length : Int)) = false := decide_eq_false c12
      clear c12
      obtain ⟨ji33,hji33⟩ : ∃ j_ : Int,(mx x425000_1 (-1000000000)) = j_ := ⟨_,rfl⟩
      replace H : (if x12_1 = true then (some (ji33,mn x425001_1 1000000000,decide ((ji33) ≤ (mn x425001_1 1000000000)))) else (some (ji33,mn x425001_1 1000000000,false))) = some (r1,r2,r3) := by first | (rw [hji33] at H;exact H) | (simp only [hji33] at H ⊢;exact H)
      have hji33_ : (if x425000_1 < (-1000000000) then (-1000000000) else x425000_1) = ji33 := hji33
      obtain ⟨ji34,hji34⟩ : ∃ j_ : Int,(mn x425001_1 1000000000) = j_ := ⟨_,rfl⟩
      replace H : (if x12_1 = true then (some (ji33,ji34,decide ((ji33) ≤ (ji34)))) else (some (ji33,ji34,false))) = some (r1,r2,r3) := by first | (rw [hji34] at H;exact H) | (simp only [hji34] at H ⊢;exact H)
      have hji34_ : (if 1000000000 < x425001_1 then 1000000000 else x425001_1) = ji34 := hji34
      by_cases c35 : x12_1 = true
      ·subst c35
       have H1 : (some (ji33,ji34,decide ((ji33) ≤ (ji34)))) = some (r1,r2,r3) := by rw [if_pos rfl] at H;exact H
       clear H
       have H := H1
       clear H1
       simp only [Option.some.injEq,Prod.mk.injEq] at H
       obtain ⟨rfl,rfl,rfl⟩ := H
       obtain ⟨Ao36,co36,eo36⟩ := Kd.R_slice HO_10.out
       subst eo36
       have hnb37 := NB424_422.out
       have hnc37 := NB422_424.out
       have hcz38_0 : wr.cell? ⟨gb424,0,none⟩ = some (.int .i64 x425000_1) := (blk_cell BK424.out 0).trans rfl
       have hcz38_1 : wr.cell? ⟨gb424,1,none⟩ = some (.int .i64 x425001_1) := (blk_cell BK424.out 1).trans rfl
       have hfz38_0 := blk_frozen BK424.out 0
       have hfz38_1 := blk_frozen BK424.out 1
       try go_wp2
       have n0_ : Aside0 (Kd.R (Kd.int .i64) 3 ((wr.setCell ⟨gb424,0,none⟩ (.int .i64 ji33)).setCell ⟨gb424,1,none⟩ (.int .i64 ji34)) w.heap.size (fun _ => True) (.slice Ao36 t425.length co36) t425) := ⟨by (with_reducible repeat (first | apply Kd.R_alloc | apply Kd.R_drewN | apply Kd.R_drew));exact Kd.R_mono (Kd.R_far (p := ⟨gb424,1,none⟩) (Kd.R_far (p := ⟨gb424,0,none⟩) (Kd.R_types HO_10.out BK424.out (by decide)) (fun _ hk => hk.2) (.int .i64 ji33)) (fun _ hk => hk.2) (.int .i64 ji34)) (fun _ hk => trivial)⟩
       have n1_ : Aside0 (((wr.setCell ⟨gb424,0,none⟩ (.int .i64 ji33)).setCell ⟨gb424,1,none⟩ (.int .i64 ji34)).heap[gb422]? = some (.cells #[.int .i64 0,.int .i64 0] 34 (0,0))) := ⟨by (with_reducible repeat (first | refine kN_ ?_ _ | refine kD_ ?_ | refine kA_ ?_ _));refine blk_far ?_ NB422_424.out _;(with_reducible repeat (first | refine kN_ ?_ _ | refine kD_ ?_ | refine kA_ ?_ _));refine blk_far ?_ NB422_424.out _;exact lk_ BK422⟩
       have n2_ : Aside0 (((wr.setCell ⟨gb424,0,none⟩ (.int .i64 ji33)).setCell ⟨gb424,1,none⟩ (.int .i64 ji34)).heap[gb424]? = some (.cells #[.int .i64 ji33,.int .i64 ji34] 34 (0,0))) := ⟨by (with_reducible repeat (first | refine kN_ ?_ _ | refine kD_ ?_ | refine kA_ ?_ _));refine blk_put (cs := #[.int .i64 ji33,.int .i64 x425001_1]) ?_ 1 _ rfl;(with_reducible repeat (first | refine kN_ ?_ _ | refine kD_ ?_ | refine kA_ ?_ _));refine blk_put (cs := #[.int .i64 x425000_1,.int .i64 x425001_1]) ?_ 0 _ rfl;exact lk_ BK424⟩
       have n3_ : Aside0 (Below w.heap.size w ((wr.setCell ⟨gb424,0,none⟩ (.int .i64 ji33)).setCell ⟨gb424,1,none⟩ (.int .i64 ji34))) := ⟨by exact lb_ HB⟩
       (try clear HO_10)
       (try clear BK422)
       (try clear BK424)
       (try clear HB)
       generalize ((wr.setCell ⟨gb424,0,none⟩ (.int .i64 ji33)).setCell ⟨gb424,1,none⟩ (.int .i64 ji34)) = w39 at n0_ n1_ n2_ n3_ ⊢
       have HO_10 := n0_
       have BK422 := n1_
       have BK424 := n2_
       have HB := n3_
       clear n0_ n1_ n2_ n3_
       have n0_ := aM_ (Kd.R_drew HO_10.out)
       have n1_ := aM_ (kD_ BK422.out)
       have n2_ := aM_ (kD_ BK424.out)
       have n3_ := aM_ (bD_ HB.out)
       clear HO_10
       clear BK422
       clear BK424
       clear HB
       have HO_10 := n0_
       have BK422 := n1_
       have BK424 := n2_
       have HB := n3_
       clear n0_ n1_ n2_ n3_
       refine start_ (n := 11) (S := fun w' => w'.cell? ⟨gb424,0,none⟩ = some (.int .i64 ji33) ∧ w'.cell? ⟨gb424,1,none⟩ = some (.int .i64 ji34)) (ds := []) #[false,false,false,false,false,false,false,false,false,false,false] (by kernel_rfl) rfl rfl ⟨(blk_cell BK424.out 0).trans rfl,(blk_cell BK424.out 1).trans rfl⟩ (fun hHeld => ?_);refine with_tabW R_before.tab11 R_before.bits11 (fun HT_ HW_ => ?_)
       generalize w39.drew = w40 at HO_10 BK422 BK424 HB hHeld ⊢
       refine pure_ (i := 1) (N := some 76) (v := ?_) (a' := ?_) #[false,true,false,false,false,false,false,false,false,false,false] rfl rfl (any_of HT_.out (by kernel_rfl)) (fun _ _ _ h => h) (Or.inl ⟨by rfl,?_⟩) ?_ ?_
       rotate_left
       ·intro w'
        go_simp
        with_reducible rfl
       rotate_left
       ·simp only [Act.put,sB_,sZ_,sS_,i64_w,i32_w]
        rfl
       refine pure_ (i := 2) (N := some 77) (v := ?_) (a' := ?_) #[false,true,true,false,false,false,false,false,false,false,false] rfl rfl (any_of HT_.out (by kernel_rfl)) (fun _ _ _ h => h) (Or.inl ⟨by rfl,?_⟩) ?_ ?_
       rotate_left
       ·intro w'
        go_simp
        with_reducible rfl
       rotate_left
       ·simp only [Act.put,sB_,sZ_,sS_,i64_w,i32_w]
        rfl
       refine pure_ (i := 3) (N := some 78) (v := ?_) (a' := ?_) #[false,true,true,true,false,false,false,false,false,false,false] rfl rfl (any_of HT_.out (by kernel_rfl)) (fun _ _ _ h => h) (Or.inl ⟨by rfl,?_⟩) ?_ ?_
       rotate_left
       ·intro w'
        go_simp
        with_reducible rfl
       rotate_left
       ·simp only [Act.put,sB_,sZ_,sS_,i64_w,i32_w]
        rfl
       refine pure_ (i := 5) (N := some 80) (v := ?_) (a' := ?_) #[false,true,true,true,false,true,false,false,false,false,false] rfl rfl (any_of HT_.out (by kernel_rfl)) (fun _ _ _ h => h) (Or.inl ⟨by rfl,?_⟩) ?_ ?_
       rotate_left
       ·intro w'
        go_simp
        with_reducible rfl
       rotate_left
       ·simp only [Act.put,sB_,sZ_,sS_,i64_w,i32_w]
        rfl
       refine take_ (i := 0) (N := some 75) (v := ?_) (a' := ?_) #[true,true,true,true,false,true,false,false,false,false,false] rfl rfl (take_ofW HT_.out HW_.out (by kernel_rfl)) (fun _ _ _ h => h) (Or.inl ⟨by rfl,?_⟩) hHeld ?_ ?_
       rotate_left
       ·rintro w' ⟨s0,s1⟩
        go_simp
        with_reducible rfl
       rotate_left
       ·simp only [Act.put,sB_,sZ_,sS_,i64_w,i32_w]
        rfl
       refine take_ (i := 4) (N := some 79) (v := ?_) (a' := ?_) #[true,true,true,true,true,true,false,false,false,false,false] rfl rfl (take_ofW HT_.out HW_.out (by kernel_rfl)) (fun _ _ _ h => h) (Or.inl ⟨by rfl,?_⟩) hHeld ?_ ?_
       rotate_left
       ·rintro w' ⟨s0,s1⟩
        go_simp
        with_reducible rfl
       rotate_left
       ·simp only [Act.put,sB_,sZ_,sS_,i64_w,i32_w]
        rfl
       refine take_ (i := 6) (N := some 81) (v := ?_) (a' := ?_) #[true,true,true,true,true,true,true,false,false,false,false] rfl rfl (take_ofW HT_.out HW_.out (by kernel_rfl)) (fun _ _ _ h => h) (Or.inl ⟨by rfl,?_⟩) hHeld ?_ ?_
       rotate_left
       ·rintro w' ⟨s0,s1⟩
        go_simp
        with_reducible rfl
       rotate_left
       ·simp only [Act.put,sB_,sZ_,sS_,i64_w,i32_w]
        rfl
       refine pure_ (i := 7) (N := some 82) (v := ?_) (a' := ?_) #[true,true,true,true,true,true,true,true,false,false,false] rfl rfl (any_of HT_.out (by kernel_rfl)) (fun _ _ _ h => h) (Or.inl ⟨by rfl,?_⟩) ?_ ?_
       rotate_left
       ·intro w'
        go_simp
        with_reducible rfl
       rotate_left
       ·simp only [Act.put,sB_,sZ_,sS_,i64_w,i32_w]
        rfl
       refine pure_ (i := 8) (N := some 83) (v := ?_) (a' := ?_) #[true,true,true,true,true,true,true,true,true,false,false] rfl rfl (any_of HT_.out (by kernel_rfl)) (fun _ _ _ h => h) (Or.inl ⟨by rfl,?_⟩) ?_ ?_
       rotate_left
       ·intro w'
        go_simp
        with_reducible rfl
       rotate_left
       ·simp only [Act.put,sB_,sZ_,sS_,i64_w,i32_w]
        rfl
       refine one_ (i := 9) (N := none) #[true,true,true,true,true,true,true,true,true,true,false] rfl rfl (one_of HT_.out (by kernel_rfl)) (by decide) (fun K hK => ?_)
       have hs41 : w40.cell? ⟨gb422,0,none⟩ = some (.int .i64 0) := (blk_cell BK422.out 0).trans rfl
       have hfs41 := blk_frozen BK422.out 0
       have hns41_1 := NB424_422.out
       have hms41_1 := NB422_424.out
       have hs42 : w40.cell? ⟨gb422,1,none⟩ = some (.int .i64 0) := (blk_cell BK422.out 1).trans rfl
       have hfs42 := blk_frozen BK422.out 1
       have hns42_1 := NB424_422.out
       have hms42_1 := NB422_424.out
       refine skip_ (w1 := ?_) (by rfl) rfl ?_ ?_
       rotate_left
       ·go_simp
        rfl
       refine hK.out _ _ ⟨((cell_far (p := ⟨gb422,_,none⟩) NB424_422.out _).trans (((cell_far (p := ⟨gb422,_,none⟩) NB424_422.out _).trans (hHeld.1)))),((cell_far (p := ⟨gb422,_,none⟩) NB424_422.out _).trans (((cell_far (p := ⟨gb422,_,none⟩) NB424_422.out _).trans (hHeld.2))))⟩ (fun hHeld => ?_)
       clear hK K
       refine pure_ (i := 10) (N := some 7) (v := ?_) (a' := ?_) #[true,true,true,true,true,true,true,true,true,true,true] rfl rfl (any_of HT_.out (by kernel_rfl)) (fun _ _ _ h => h) (Or.inl ⟨by rfl,?_⟩) ?_ ?_
       rotate_left
       ·intro w'
        go_simp
        with_reducible rfl
       rotate_left
       ·simp only [Act.put,sB_,sZ_,sS_,i64_w,i32_w]
        rfl
       refine done_ (done_of HT_.out (by kernel_rfl)) ?_
       try go_wp2
       refine bodyPost_ret (results_ct rfl _ _ gb422 34 #[.int .i64 ji33,.int .i64 ji34] (0,0) _ rfl (by (with_reducible repeat (first | refine kN_ ?_ _ | refine kD_ ?_ | refine kA_ ?_ _));refine blk_put (cs := #[.int .i64 ji33,.int .i64 0]) ?_ 1 _ rfl;(with_reducible repeat (first | refine kN_ ?_ _ | refine kD_ ?_ | refine kA_ ?_ _));refine blk_put (cs := #[.int .i64 0,.int .i64 0]) ?_ 0 _ rfl;exact lk_ BK422) Try.underlying34 rfl (by kernel_rfl)) rfl ?_
       exact ⟨by first | rfl | (simp [errW_none,errW_some] <;> rfl) | (simp only [← hji33,← hji34];first | rfl | (simp [errW_none,errW_some] <;> rfl)) | (simp [*,errW_none,errW_some] <;> rfl),by exact lb_ HB⟩
      ·replace c35 := Bool.eq_false_iff.mpr c35
       subst c35
       have H1 : (some (ji33,ji34,false)) = some (r1,r2,r3) := by rw [if_neg (show ¬ (false = true) by decide)] at H;exact H
       clear H
       have H := H1
       clear H1
       simp only [Option.some.injEq,Prod.mk.injEq] at H
       obtain ⟨rfl,rfl,rfl⟩ := H
       obtain ⟨Ao43,co43,eo43⟩ := Kd.R_slice HO_10.out
       subst eo43
       have hnb44 := NB424_422.out
       have hnc44 := NB422_424.out
       have hcz45_0 : wr.cell? ⟨gb424,0,none⟩ = some (.int .i64 x425000_1) := (blk_cell BK424.out 0).trans rfl
       have hcz45_1 : wr.cell? ⟨gb424,1,none⟩ = some (.int .i64 x425001_1) := (blk_cell BK424.out 1).trans rfl
       have hfz45_0 := blk_frozen BK424.out 0
       have hfz45_1 := blk_frozen BK424.out 1
       try go_wp2
       have n0_ : Aside0 (Kd.R (Kd.int .i64) 3 ((wr.setCell ⟨gb424,0,none⟩ (.int .i64 ji33)).setCell ⟨gb424,1,none⟩ (.int .i64 ji34)) w.heap.size (fun _ => True) (.slice Ao43 t425.length co43) t425) := ⟨by (with_reducible repeat (first | apply Kd.R_alloc | apply Kd.R_drewN | apply Kd.R_drew));exact Kd.R_mono (Kd.R_far (p := ⟨gb424,1,none⟩) (Kd.R_far (p := ⟨gb424,0,none⟩) (Kd.R_types HO_10.out BK424.out (by decide)) (fun _ hk => hk.2) (.int .i64 ji33)) (fun _ hk => hk.2) (.int .i64 ji34)) (fun _ hk => trivial)⟩
       have n1_ : Aside0 (((wr.setCell ⟨gb424,0,none⟩ (.int .i64 ji33)).setCell ⟨gb424,1,none⟩ (.int .i64 ji34)).heap[gb422]? = some (.cells #[.int .i64 0,.int .i64 0] 34 (0,0))) := ⟨by (with_reducible repeat (first | refine kN_ ?_ _ | refine kD_ ?_ | refine kA_ ?_ _));refine blk_far ?_ NB422_424.out _;(with_reducible repeat (first | refine kN_ ?_ _ | refine kD_ ?_ | refine kA_ ?_ _));refine blk_far ?_ NB422_424.out _;exact lk_ BK422⟩
       have n2_ : Aside0 (((wr.setCell ⟨gb424,0,none⟩ (.int .i64 ji33)).setCell ⟨gb424,1,none⟩ (.int .i64 ji34)).heap[gb424]? = some (.cells #[.int .i64 ji33,.int .i64 ji34] 34 (0,0))) := ⟨by (with_reducible repeat (first | refine kN_ ?_ _ | refine kD_ ?_ | refine kA_ ?_ _));refine blk_put (cs := #[.int .i64 ji33,.int .i64 x425001_1]) ?_ 1 _ rfl;(with_reducible repeat (first | refine kN_ ?_ _ | refine kD_ ?_ | refine kA_ ?_ _));refine blk_put (cs := #[.int .i64 x425000_1,.int .i64 x425001_1]) ?_ 0 _ rfl;exact lk_ BK424⟩
       have n3_ : Aside0 (Below w.heap.size w ((wr.setCell ⟨gb424,0,none⟩ (.int .i64 ji33)).setCell ⟨gb424,1,none⟩ (.int .i64 ji34))) := ⟨by exact lb_ HB⟩
       (try clear HO_10)
       (try clear BK422)
       (try clear BK424)
       (try clear HB)
       generalize ((wr.setCell ⟨gb424,0,none⟩ (.int .i64 ji33)).setCell ⟨gb424,1,none⟩ (.int .i64 ji34)) = w46 at n0_ n1_ n2_ n3_ ⊢
       have HO_10 := n0_
       have BK422 := n1_
       have BK424 := n2_
       have HB := n3_
       clear n0_ n1_ n2_ n3_
       have n0_ := aM_ (Kd.R_drew HO_10.out)
       have n1_ := aM_ (kD_ BK422.out)
       have n2_ := aM_ (kD_ BK424.out)
       have n3_ := aM_ (bD_ HB.out)
       clear HO_10
       clear BK422
       clear BK424
       clear HB
       have HO_10 := n0_
       have BK422 := n1_
       have BK424 := n2_
       have HB := n3_
       clear n0_ n1_ n2_ n3_
       refine start_ (n := 11) (S := fun w' => w'.cell? ⟨gb424,0,none⟩ = some (.int .i64 ji33) ∧ w'.cell? ⟨gb424,1,none⟩ = some (.int .i64 ji34)) (ds := []) #[false,false,false,false,false,false,false,false,false,false,false] (by kernel_rfl) rfl rfl ⟨(blk_cell BK424.out 0).trans rfl,(blk_cell BK424.out 1).trans rfl⟩ (fun hHeld => ?_);refine with_tabW R_before.tab11 R_before.bits11 (fun HT_ HW_ => ?_)
       generalize w46.drew = w47 at HO_10 BK422 BK424 HB hHeld ⊢
       refine pure_ (i := 1) (N := some 76) (v := ?_) (a' := ?_) #[false,true,false,false,false,false,false,false,false,false,false] rfl rfl (any_of HT_.out (by kernel_rfl)) (fun _ _ _ h => h) (Or.inl ⟨by rfl,?_⟩) ?_ ?_
       rotate_left
       ·intro w'
        go_simp
        with_reducible rfl
       rotate_left
       ·simp only [Act.put,sB_,sZ_,sS_,i64_w,i32_w]
        rfl
       refine pure_ (i := 2) (N := some 77) (v := ?_) (a' := ?_) #[false,true,true,false,false,false,false,false,false,false,false] rfl rfl (any_of HT_.out (by kernel_rfl)) (fun _ _ _ h => h) (Or.inl ⟨by rfl,?_⟩) ?_ ?_
       rotate_left
       ·intro w'
        go_simp
        with_reducible rfl
       rotate_left
       ·simp only [Act.put,sB_,sZ_,sS_,i64_w,i32_w]
        rfl
       refine pure_ (i := 3) (N := some 78) (v := undef) (a' := ?_) #[false,true,true,true,false,false,false,false,false,false,false] rfl rfl (any_of HT_.out (by kernel_rfl)) (fun _ _ _ h => h) (Or.inr ⟨by rfl,rfl⟩) ?_ ?_
       rotate_left
       ·simp only [Act.put,sB_,sZ_,sS_,i64_w,i32_w]
        rfl
       refine pure_ (i := 4) (N := some 79) (v := undef) (a' := ?_) #[false,true,true,true,true,false,false,false,false,false,false] rfl rfl (any_of HT_.out (by kernel_rfl)) (fun _ _ _ h => h) (Or.inr ⟨by rfl,rfl⟩) ?_ ?_
       rotate_left
       ·simp only [Act.put,sB_,sZ_,sS_,i64_w,i32_w]
        rfl
       refine pure_ (i := 5) (N := some 80) (v := undef) (a' := ?_) #[false,true,true,true,true,true,false,false,false,false,false] rfl rfl (any_of HT_.out (by kernel_rfl)) (fun _ _ _ h => h) (Or.inr ⟨by rfl,rfl⟩) ?_ ?_
       rotate_left
       ·simp only [Act.put,sB_,sZ_,sS_,i64_w,i32_w]
        rfl
       refine pure_ (i := 6) (N := some 81) (v := undef) (a' := ?_) #[false,true,true,true,true,true,true,false,false,false,false] rfl rfl (any_of HT_.out (by kernel_rfl)) (fun _ _ _ h => h) (Or.inr ⟨by rfl,rfl⟩) ?_ ?_
       rotate_left
       ·simp only [Act.put,sB_,sZ_,sS_,i64_w,i32_w]
        rfl
       refine pure_ (i := 7) (N := some 82) (v := undef) (a' := ?_) #[false,true,true,true,true,true,true,true,false,false,false] rfl rfl (any_of HT_.out (by kernel_rfl)) (fun _ _ _ h => h) (Or.inr ⟨by rfl,rfl⟩) ?_ ?_
       rotate_left
       ·simp only [Act.put,sB_,sZ_,sS_,i64_w,i32_w]
        rfl
       refine pure_ (i := 8) (N := some 83) (v := ?_) (a' := ?_) #[false,true,true,true,true,true,true,true,true,false,false] rfl rfl (any_of HT_.out (by kernel_rfl)) (fun _ _ _ h => h) (Or.inl ⟨by rfl,?_⟩) ?_ ?_
       rotate_left
       ·intro w'
        go_simp
        with_reducible rfl
       rotate_left
       ·simp only [Act.put,sB_,sZ_,sS_,i64_w,i32_w]
        rfl
       refine take_ (i := 0) (N := some 75) (v := ?_) (a' := ?_) #[true,true,true,true,true,true,true,true,true,false,false] rfl rfl (take_ofW HT_.out HW_.out (by kernel_rfl)) (fun _ _ _ h => h) (Or.inl ⟨by rfl,?_⟩) hHeld ?_ ?_
       rotate_left
       ·rintro w' ⟨s0,s1⟩
        go_simp
        with_reducible rfl
       rotate_left
       ·simp only [Act.put,sB_,sZ_,sS_,i64_w,i32_w]
        rfl
       refine one_ (i := 9) (N := none) #[true,true,true,true,true,true,true,true,true,true,false] rfl rfl (one_of HT_.out (by kernel_rfl)) (by decide) (fun K hK => ?_)
       have hs48 : w47.cell? ⟨gb422,0,none⟩ = some (.int .i64 0) := (blk_cell BK422.out 0).trans rfl
       have hfs48 := blk_frozen BK422.out 0
       have hns48_1 := NB424_422.out
       have hms48_1 := NB422_424.out
       have hs49 : w47.cell? ⟨gb422,1,none⟩ = some (.int .i64 0) := (blk_cell BK422.out 1).trans rfl
       have hfs49 := blk_frozen BK422.out 1
       have hns49_1 := NB424_422.out
       have hms49_1 := NB422_424.out
       refine skip_ (w1 := ?_) (by rfl) rfl ?_ ?_
       rotate_left
       ·go_simp
        rfl
       refine hK.out _ _ ⟨((cell_far (p := ⟨gb422,_,none⟩) NB424_422.out _).trans (((cell_far (p := ⟨gb422,_,none⟩) NB424_422.out _).trans (hHeld.1)))),((cell_far (p := ⟨gb422,_,none⟩) NB424_422.out _).trans (((cell_far (p := ⟨gb422,_,none⟩) NB424_422.out _).trans (hHeld.2))))⟩ (fun hHeld => ?_)
       clear hK K
       refine pure_ (i := 10) (N := some 7) (v := ?_) (a' := ?_) #[true,true,true,true,true,true,true,true,true,true,true] rfl rfl (any_of HT_.out (by kernel_rfl)) (fun _ _ _ h => h) (Or.inl ⟨by rfl,?_⟩) ?_ ?_
       rotate_left
       ·intro w'
        go_simp
        with_reducible rfl
       rotate_left
       ·simp only [Act.put,sB_,sZ_,sS_,i64_w,i32_w]
        rfl
       refine done_ (done_of HT_.out (by kernel_rfl)) ?_
       try go_wp2
       refine bodyPost_ret (results_ct rfl _ _ gb422 34 #[.int .i64 ji33,.int .i64 ji34] (0,0) _ rfl (by (with_reducible repeat (first | refine kN_ ?_ _ | refine kD_ ?_ | refine kA_ ?_ _));refine blk_put (cs := #[.int .i64 ji33,.int .i64 0]) ?_ 1 _ rfl;(with_reducible repeat (first | refine kN_ ?_ _ | refine kD_ ?_ | refine kA_ ?_ _));refine blk_put (cs := #[.int .i64 0,.int .i64 0]) ?_ 0 _ rfl;exact lk_ BK422) Try.underlying34 rfl (by kernel_rfl)) rfl ?_
       exact ⟨by first | rfl | (simp [errW_none,errW_some] <;> rfl) | (simp only [← hji33,← hji34];first | rfl | (simp [errW_none,errW_some] <;> rfl)) | (simp [*,errW_none,errW_some] <;> rfl),by exact lb_ HB⟩
  ·rw [if_neg c5] at H
   exact absurd H (by simp)
 ·rw [if_neg c4] at H
  exact absurd H (by simp)

end Go.Proofs.Ytdbpobadeibjaab.GS
