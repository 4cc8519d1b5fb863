-- written for this claim by a program of this session (wip/gp), over the kit's own printer; Lean checks it
import Derived.Test.YtdbpobadeibjaabGSx0
import Derived.Test.YtdbpobadeibjaabGSx7
import Derived.Test.YtdbpobadeibjaabGSx26
namespace Go.Proofs.Ytdbpobadeibjaab.GS
open Go.RowKit Go.Proofs.YtdbpobadeibjaabW.PrintWords Go.Proofs.YtdbpobadeibjaabW.PrintLast Go.Proofs.YtdbpobadeibjaabW.PrintMore
attribute [local go_sem] max2_int min2_int max_two min_two max_three min_three max_four min_four
set_option linter.unusedVariables false
set_option linter.unusedSimpArgs false

/-! ### R_Together: function 85 -/
def R_Together.l0 : Nat → List (S49) → List (S32) → Int → Int → Int → Option (Int × Int × Int)
 | 0,_,_,_,_,_ => none
 | k + 1,x0,x1,x8,x520000,x520001 => if x8 < (x1.length : Int) then (if 0 ≤ x8 then ((R_True.f k x0 ((rd_T32 x1 x8).f0) ((rd_T32 x1 x8).f1)).bind fun bt522 => (if bt522.2.2 = 0 then (R_Together.l0 k x0 x1 (wrap64 (x8 + 1)) (mx x520000 bt522.1) (mn x520001 bt522.2.1)) else (some (0,0,bt522.2.2)))) else (none)) else (if x520000 > x520001 then (some (0,0,12)) else (some (x520000,x520001,0)))
def R_Together.f (k : Nat) (l0 : List (S49)) (l1 : List (S32)) : Option (Int × Int × Int) := (R_Check.f k l0).bind fun t518 => (if t518 = 0 then (if (l1.length : Int) = 0 then (some (0,0,6)) else (if (l1.length : Int) > 10 then (some (0,0,8)) else (R_Together.l0 k l0 l1 0 (-1000000000) 1000000000))) else (some (0,0,t518)))
def R_Together.T12 : Bool × List (List Nat × List Nat) := (true,[([],[]),([],[]),([],[]),([1,2],[1,2]),([3],[3]),([4],[4]),([],[]),([],[]),([6,7],[6,7]),([8],[8]),([9],[9]),([0,5,10],[0,5,10]),([11],[11]),([12],[12]),([12],[12]),([],[]),([15,13,11,0,1,2,3,4,5,6,7,8,9,10,11,12,13,15],[13,15]),([14,16,0,1,2,3,4,5,6,7,8,9,10,11,12,13,14,15,16],[14])])
def R_Together.B12 : List Nat := [0,0,0,6,14,30,0,0,192,448,960,2047,4095,8191,8191,0,49151,131071]
theorem R_Together.tab12 : rtab .any (opsOf Try.f85 12) = R_Together.T12 := by kernel_rfl
theorem R_Together.bits12 : waitsOk R_Together.T12.2 R_Together.B12 = true := by kernel_rfl
set_option maxHeartbeats 8000000 in
set_option maxRecDepth 100000 in
theorem R_Together.calls (k : Nat) (A0 : Option Addr) (c0 : Nat) (l0 : List (S49)) (A1 : Option Addr) (c1 : Nat) (l1 : List (S32)) (r1 : Int) (r2 : Int) (r3 : Int) (w : World) (hr0 : Kd.C k49 w A0 l0.length l0) (hc0 : l0.length ≤ c0) (hr1 : Kd.C k32 w A1 l1.length l1) (hc1 : l1.length ≤ c1) (h : R_Together.f k l0 l1 = some (r1,r2,r3)) :
  Calls Try.prog 85 #[.slice A0 l0.length c0,.slice A1 l1.length c1] w fun e w' => e = .returned (.tuple #[.agg #[.int .i64 r1,.int .i64 r2],.int .i64 r3]) ∧ Below w.heap.size w w' := by
 have hu34 := Try.underlying34
 have HR0 := aM_ hr0
 have HC0 := aM_ hc0
 clear hr0 hc0
 have HR1 := aM_ hr1
 have HC1 := aM_ hc1
 clear hr1 hc1
 have HB := aM_ (Below.refl w.heap.size w)
 have H : ((R_Check.f k l0).bind fun t518 => (if t518 = 0 then (if (l1.length : Int) = 0 then (some (0,0,6)) else (if (l1.length : Int) > 10 then (some (0,0,8)) else (R_Together.l0 k l0 l1 0 (-1000000000) 1000000000))) else (some (0,0,t518)))) = some (r1,r2,r3) := h
 clear h
 replace H := oB_ H
 obtain ⟨t518,A30,H⟩ := H
 replace H : (if t518 = 0 then (if (l1.length : Int) = 0 then (some (0,0,6)) else (if (l1.length : Int) > 10 then (some (0,0,8)) else (R_Together.l0 k l0 l1 0 (-1000000000) 1000000000))) else (some (0,0,t518))) = some (r1,r2,r3) := H
 have A3 := aM_ A30
 clear A30
 by_cases c4 : t518 = 0
 ·rw [if_pos c4] at H
  have c4b0 : (t518 == 0) = true := beq_iff_eq.mpr c4
  have c4b1 : (t518 != 0) = false := bne_eq_false_iff_eq.mpr c4
  clear c4
  by_cases c5 : (l1.length : Int) = 0
  ·rw [if_pos c5] at H
   have c5b0 : ((l1.length : Int) == 0) = true := beq_iff_eq.mpr c5
   have c5b1 : ((l1.length : Int) != 0) = false := bne_eq_false_iff_eq.mpr c5
   clear c5
   simp only [Option.some.injEq,Prod.mk.injEq] at H
   obtain ⟨rfl,rfl,rfl⟩ := H
   go_enter Try.func85,Try.ntmps85
   go_wp2_with (first | ((with_reducible refine gate_dst (N := 4) rfl ?_);refine box_event ?hg (N := 4) ?hd (cs := #[.int .i64 0,.int .i64 0]) (t := 34) ?hr ?_;(case hd => rfl);(case hg => rfl);(case hr => first | (go_simp;done) | (go_simp;rfl));intro gb517 hg w6 hbox hb;have n0_ := aM_ (bT_ (by exact lb_ HB) hb);have n1_ := aM_ (hbox);have n2_ := aM_ ((by rw [hg];exact (below_size (by exact lb_ HB)) : w.heap.size ≤ gb517));have n3_ := aM_ ((by rw [hg];exact (below_size (by exact lb_ HB)) : w.heap.size ≤ gb517));clear HB;have HB := n0_;have BK517 := n1_;have GW517 := n2_;have GE517 := n3_;have := Ge_.mk n3_.out;clear n0_ n1_ n2_ n3_;clear hb hbox hg) | ((with_reducible refine gate_callee (f := 48) rfl ?_);refine goesL_ (some 12) rfl rfl Try.func48 (by kernel_rfl) rfl #[.slice A0 l0.length c0] rfl (by (try simp only [List.map_toArray,List.map_cons,List.map_nil]);first | done | rfl) ?_;(with_reducible refine (R_Check.calls k _ _ l0 t518 _ ?side1 ?side2 A3.out).mono ?_);(case side1 => exact Kd.C_below HR0.out (lb_ HB));(case side2 => exact HC0.out);rintro e w7 ⟨rfl,hb⟩;refine ⟨_,rfl,?_⟩;have n0_ := aM_ (kB_ (g := gb517) (o := .cells #[.int .i64 0,.int .i64 0] 34 (0,0)) (by exact lk_ BK517) hb);have n1_ := aM_ (bT_ (by exact lb_ HB) hb);clear BK517;clear HB;have BK517 := n0_;have HB := n1_;clear n0_ n1_;(try clear hb);(try clear hb2);(try clear hk);(try clear hi);have hcz8_0 : w7.cell? ⟨gb517,0,none⟩ = some (.int .i64 0) := (blk_cell BK517.out 0).trans rfl;have hcz8_1 : w7.cell? ⟨gb517,1,none⟩ = some (.int .i64 0) := (blk_cell BK517.out 1).trans rfl;have hfz8_0 := blk_frozen BK517.out 0;have hfz8_1 := blk_frozen BK517.out 1))
   refine bodyPost_ret (results_ct rfl _ _ gb517 34 #[.int .i64 0,.int .i64 0] (0,0) _ rfl (by (with_reducible repeat (first | refine kN_ ?_ _ | refine kD_ ?_ | refine kA_ ?_ _));refine blk_put (cs := #[.int .i64 0,.int .i64 0]) ?_ 1 _ rfl;(with_reducible repeat (first | refine kN_ ?_ _ | refine kD_ ?_ | refine kA_ ?_ _));refine blk_put (cs := #[.int .i64 0,.int .i64 0]) ?_ 0 _ rfl;exact lk_ BK517) Try.underlying34 rfl (by kernel_rfl)) rfl ?_
   exact ⟨by first | rfl | (simp [*] <;> rfl),by exact lb_ HB⟩
  ·rw [if_neg c5] at H
   have c5b0 : ((l1.length : Int) == 0) = false := beq_eq_false_iff_ne.mpr c5
   have c5b1 : ((l1.length : Int) != 0) = true := bne_iff_ne.mpr c5
   have c5b2 : ¬ (l1 = []) := fun h_ => c5 (by rw [h_];rfl)
   by_cases c9 : (l1.length : Int) > 10
   ·rw [if_pos c9] at H
    have c9b0 : decide (10 < (l1.length : Int)) = true := decide_eq_true c9
    have c9b1 : decide (10 < l1.length) = true := decide_eq_true (by omega)
    clear c9
    simp only [Option.some.injEq,Prod.mk.injEq] at H
    obtain ⟨rfl,rfl,rfl⟩ := H
    go_enter Try.func85,Try.ntmps85
    go_wp2_with (first | ((with_reducible refine gate_dst (N := 4) rfl ?_);refine box_event ?hg (N := 4) ?hd (cs := #[.int .i64 0,.int .i64 0]) (t := 34) ?hr ?_;(case hd => rfl);(case hg => rfl);(case hr => first | (go_simp;done) | (go_simp;rfl));intro gb517 hg w10 hbox hb;have n0_ := aM_ (bT_ (by exact lb_ HB) hb);have n1_ := aM_ (hbox);have n2_ := aM_ ((by rw [hg];exact (below_size (by exact lb_ HB)) : w.heap.size ≤ gb517));have n3_ := aM_ ((by rw [hg];exact (below_size (by exact lb_ HB)) : w.heap.size ≤ gb517));clear HB;have HB := n0_;have BK517 := n1_;have GW517 := n2_;have GE517 := n3_;have := Ge_.mk n3_.out;clear n0_ n1_ n2_ n3_;clear hb hbox hg) | ((with_reducible refine gate_callee (f := 48) rfl ?_);refine goesL_ (some 12) rfl rfl Try.func48 (by kernel_rfl) rfl #[.slice A0 l0.length c0] rfl (by (try simp only [List.map_toArray,List.map_cons,List.map_nil]);first | done | rfl) ?_;(with_reducible refine (R_Check.calls k _ _ l0 t518 _ ?side1 ?side2 A3.out).mono ?_);(case side1 => exact Kd.C_below HR0.out (lb_ HB));(case side2 => exact HC0.out);rintro e w11 ⟨rfl,hb⟩;refine ⟨_,rfl,?_⟩;have n0_ := aM_ (kB_ (g := gb517) (o := .cells #[.int .i64 0,.int .i64 0] 34 (0,0)) (by exact lk_ BK517) hb);have n1_ := aM_ (bT_ (by exact lb_ HB) hb);clear BK517;clear HB;have BK517 := n0_;have HB := n1_;clear n0_ n1_;(try clear hb);(try clear hb2);(try clear hk);(try clear hi);have hcz12_0 : w11.cell? ⟨gb517,0,none⟩ = some (.int .i64 0) := (blk_cell BK517.out 0).trans rfl;have hcz12_1 : w11.cell? ⟨gb517,1,none⟩ = some (.int .i64 0) := (blk_cell BK517.out 1).trans rfl;have hfz12_0 := blk_frozen BK517.out 0;have hfz12_1 := blk_frozen BK517.out 1))
    refine bodyPost_ret (results_ct rfl _ _ gb517 34 #[.int .i64 0,.int .i64 0] (0,0) _ rfl (by (with_reducible repeat (first | refine kN_ ?_ _ | refine kD_ ?_ | refine kA_ ?_ _));refine blk_put (cs := #[.int .i64 0,.int .i64 0]) ?_ 1 _ rfl;(with_reducible repeat (first | refine kN_ ?_ _ | refine kD_ ?_ | refine kA_ ?_ _));refine blk_put (cs := #[.int .i64 0,.int .i64 0]) ?_ 0 _ rfl;exact lk_ BK517) Try.underlying34 rfl (by kernel_rfl)) rfl ?_
    exact ⟨by first | rfl | (simp [*] <;> rfl),by exact lb_ HB⟩
   ·rw [if_neg c9] at H
    have c9b0 : decide (10 < (l1.length : Int)) = false := decide_eq_false c9
    have c9b1 : decide (10 < l1.length) = false := decide_eq_false (by omega)
    clear c9
    have H' := aM_ H
    clear H
    go_enter Try.func85,Try.ntmps85
    go_wp2_with (first | ((with_reducible refine gate_dst (N := 4) rfl ?_);refine box_event ?hg (N := 4) ?hd (cs := #[.int .i64 0,.int .i64 0]) (t := 34) ?hr ?_;(case hd => rfl);(case hg => rfl);(case hr => first | (go_simp;done) | (go_simp;rfl));intro gb517 hg w13 hbox hb;have n0_ := aM_ (bT_ (by exact lb_ HB) hb);have n1_ := aM_ (hbox);have n2_ := aM_ ((by rw [hg];exact (below_size (by exact lb_ HB)) : w.heap.size ≤ gb517));have n3_ := aM_ ((by rw [hg];exact (below_size (by exact lb_ HB)) : w.heap.size ≤ gb517));clear HB;have HB := n0_;have BK517 := n1_;have GW517 := n2_;have GE517 := n3_;have := Ge_.mk n3_.out;clear n0_ n1_ n2_ n3_;clear hb hbox hg) | ((with_reducible refine gate_callee (f := 48) rfl ?_);refine goesL_ (some 12) rfl rfl Try.func48 (by kernel_rfl) rfl #[.slice A0 l0.length c0] rfl (by (try simp only [List.map_toArray,List.map_cons,List.map_nil]);first | done | rfl) ?_;(with_reducible refine (R_Check.calls k _ _ l0 t518 _ ?side1 ?side2 A3.out).mono ?_);(case side1 => exact Kd.C_below HR0.out (lb_ HB));(case side2 => exact HC0.out);rintro e w14 ⟨rfl,hb⟩;refine ⟨_,rfl,?_⟩;have n0_ := aM_ (kB_ (g := gb517) (o := .cells #[.int .i64 0,.int .i64 0] 34 (0,0)) (by exact lk_ BK517) hb);have n1_ := aM_ (bT_ (by exact lb_ HB) hb);clear BK517;clear HB;have BK517 := n0_;have HB := n1_;clear n0_ n1_;(try clear hb);(try clear hb2);(try clear hk);(try clear hi)) | ((with_reducible refine gate_dst (N := 7) rfl ?_);refine box_event ?hg (N := 7) ?hd (cs := #[.int .i64 0,.int .i64 0]) (t := 34) ?hr ?_;(case hd => rfl);(case hg => rfl);(case hr => first | (go_simp;done) | (go_simp;rfl));intro gb519 hg w15 hbox hb;have n0_ := aM_ (kB_ (g := gb517) (o := .cells #[.int .i64 0,.int .i64 0] 34 (0,0)) (by exact lk_ BK517) hb);have n1_ := aM_ (bT_ (by exact lb_ HB) hb);have n2_ := aM_ (hbox);have n3_ := aM_ ((by rw [hg];exact (below_size (by exact lb_ HB)) : w.heap.size ≤ gb519));have n4_ := aM_ ((by rw [hg];exact (below_size (by exact lb_ HB)) : w.heap.size ≤ gb519));have n5_ := aM_ ((by rw [hg];exact Nat.ne_of_lt (blk_lt (g := gb517) (o := .cells #[.int .i64 0,.int .i64 0] 34 (0,0)) (by exact lk_ BK517)) : gb517 ≠ gb519));have n6_ := aM_ ((by rw [hg];exact Nat.ne_of_gt (blk_lt (g := gb517) (o := .cells #[.int .i64 0,.int .i64 0] 34 (0,0)) (by exact lk_ BK517)) : gb519 ≠ gb517));clear BK517;clear HB;have BK517 := n0_;have HB := n1_;have BK519 := n2_;have GW519 := n3_;have GE519 := n4_;have := Ge_.mk n4_.out;have NB517_519 := n5_;have NB519_517 := n6_;clear n0_ n1_ n2_ n3_ n4_ n5_ n6_;clear hb hbox hg;have hnb16 := NB519_517.out;have hnc16 := NB517_519.out;have hcz17_0 : w15.cell? ⟨gb519,0,none⟩ = some (.int .i64 0) := (blk_cell BK519.out 0).trans rfl;have hcz17_1 : w15.cell? ⟨gb519,1,none⟩ = some (.int .i64 0) := (blk_cell BK519.out 1).trans rfl;have hfz17_0 := blk_frozen BK519.out 0;have hfz17_1 := blk_frozen BK519.out 1))
    go_loopg [8] k (fun kq v8 w' => ∃ (x8_1 : Int) (x518000_1 : Int) (x518001_1 : Int) (x520000_1 : Int) (x520001_1 : Int),v8 = .int .i64 x8_1 ∧ Aside0 (R_Together.l0 kq l0 l1 x8_1 x520000_1 x520001_1 = some (r1,r2,r3)) ∧ Aside0 (kq ≤ k) ∧ Aside0 (w'.heap[gb517]? = some (.cells #[.int .i64 x518000_1,.int .i64 x518001_1] 34 (0,0))) ∧ Aside0 (w'.heap[gb519]? = some (.cells #[.int .i64 x520000_1,.int .i64 x520001_1] 34 (0,0))) ∧ Aside0 (Below w.heap.size w w'))
    case atStart => exact ⟨(0),(0),(0),((-1000000000)),(1000000000),(by first | rfl | (simp;done) | (simp [*];done)),H',⟨Nat.le_refl _⟩,⟨by (with_reducible repeat (first | refine kN_ ?_ _ | refine kD_ ?_ | refine kA_ ?_ _));refine blk_far ?_ NB517_519.out _;(with_reducible repeat (first | refine kN_ ?_ _ | refine kD_ ?_ | refine kA_ ?_ _));refine blk_far ?_ NB517_519.out _;exact lk_ BK517⟩,⟨by (with_reducible repeat (first | refine kN_ ?_ _ | refine kD_ ?_ | refine kA_ ?_ _));refine blk_put (cs := #[.int .i64 (-1000000000),.int .i64 0]) ?_ 1 _ rfl;(with_reducible repeat (first | refine kN_ ?_ _ | refine kD_ ?_ | refine kA_ ?_ _));refine blk_put (cs := #[.int .i64 0,.int .i64 0]) ?_ 0 _ rfl;exact lk_ BK519⟩,⟨by exact lb_ HB⟩⟩
    case round =>
     clear H'
     try clear c1
     try clear p2
     try clear c4
     try clear c4b0
     try clear c4b1
     try clear c5
     try clear c5b0
     try clear c5b1
     try clear c5b2
     try clear c8
     try clear c9
     try clear c9b0
     try clear c9b1
     try clear c16
     try clear hcz12_0
     try clear hcz12_1
     try clear hcz17_0
     try clear hcz17_1
     try clear hcz8_0
     try clear hcz8_1
     try clear hfz12_0
     try clear hfz12_1
     try clear hfz17_0
     try clear hfz17_1
     try clear hfz8_0
     try clear hfz8_1
     obtain ⟨x8_1,x518000_1,x518001_1,x520000_1,x520001_1,rfl,HA,HK1,BK517,BK519,HB⟩ := hrel
     cases gk with
     | zero => exact absurd HA.out (by simp [R_Together.l0])
     | succ k1 =>
      have H := HA.out
      clear HA
      simp only [R_Together.l0] at H
      by_cases c18 : x8_1 < (l1.length : Int)
      ·rw [if_pos c18] at H
       have c18b0 : decide (x8_1 < (l1.length : Int)) = true := decide_eq_true c18
       clear c18
       by_cases c19 : 0 ≤ x8_1
       ·rw [if_pos c19] at H
        have c19b0 : decide (0 ≤ x8_1) = true := decide_eq_true c19
        clear c19
        replace H := oB_ H
        obtain ⟨⟨t522,t523,t524⟩,A200,H⟩ := H
        replace H : (if t524 = 0 then (R_Together.l0 k1 l0 l1 (wrap64 (x8_1 + 1)) (mx x520000_1 t522) (mn x520001_1 t523)) else (some (0,0,t524))) = some (r1,r2,r3) := H
        have A20 := aM_ A200
        clear A200
        by_cases c21 : t524 = 0
        ·rw [if_pos c21] at H
         have c21b0 : (t524 == 0) = true := beq_iff_eq.mpr c21
         have c21b1 : (t524 != 0) = false := bne_eq_false_iff_eq.mpr c21
         clear c21
         obtain ⟨ji22,hji22⟩ : ∃ j_ : Int,(mx x520000_1 t522) = j_ := ⟨_,rfl⟩
         replace H : (R_Together.l0 k1 l0 l1 (wrap64 (x8_1 + 1)) ji22 (mn x520001_1 t523)) = some (r1,r2,r3) := by first | (rw [hji22] at H;exact H) | (simp only [hji22] at H ⊢;exact H)
         (try rw [hji22] at A20)
         have hji22_ : (if x520000_1 < t522 then t522 else x520000_1) = ji22 := hji22
         obtain ⟨ji23,hji23⟩ : ∃ j_ : Int,(mn x520001_1 t523) = j_ := ⟨_,rfl⟩
         replace H : (R_Together.l0 k1 l0 l1 (wrap64 (x8_1 + 1)) ji22 ji23) = some (r1,r2,r3) := by first | (rw [hji23] at H;exact H) | (simp only [hji23] at H ⊢;exact H)
         (try rw [hji23] at A20)
         have hji23_ : (if t523 < x520001_1 then t523 else x520001_1) = ji23 := hji23
         have H' := aM_ H
         clear H
         try go_wp2
         have n0_ := aM_ (kD_ BK517.out)
         have n1_ := aM_ (kD_ BK519.out)
         have n2_ := aM_ (bD_ HB.out)
         clear BK517
         clear BK519
         clear HB
         have BK517 := n0_
         have BK519 := n1_
         have HB := n2_
         clear n0_ n1_ n2_
         have p520 : 0 ≤ (x8_1 : Int) := of_decide_eq_true (by first | (with_reducible assumption) | assumption)
         have q520 : x8_1 < (l1.length : Int) := of_decide_eq_true (by first | (with_reducible assumption) | assumption)
         obtain ⟨ad520,e520,hx520_0,hx520_1⟩ := at_T32 HR1.out x8_1 p520 q520
         have hw520_1 := hx520_1
         have hw520_0 := hx520_0
         cases e520
         replace hx520_0 := (HB.out.cell (World.block_lt_of_cell? w _ hx520_0)).trans hx520_0
         replace hx520_1 := (HB.out.cell (World.block_lt_of_cell? w _ hx520_1)).trans hx520_1
         replace p520 := eq_true p520
         replace q520 := eq_true q520
         have p521 : 0 ≤ (x8_1 : Int) := of_decide_eq_true (by first | (with_reducible assumption) | assumption)
         have q521 : x8_1 < (l1.length : Int) := of_decide_eq_true (by first | (with_reducible assumption) | assumption)
         obtain ⟨ad521,e521,hx521_0,hx521_1⟩ := at_T32 HR1.out x8_1 p521 q521
         have hw521_1 := hx521_1
         have hw521_0 := hx521_0
         obtain rfl : ad520 = ad521 := (by injection e521)
         replace hx521_0 := (HB.out.cell (World.block_lt_of_cell? w _ hx521_0)).trans hx521_0
         replace hx521_1 := (HB.out.cell (World.block_lt_of_cell? w _ hx521_1)).trans hx521_1
         replace p521 := eq_true p521
         replace q521 := eq_true q521
         refine start_ (n := 18) (S := fun w' => w'.cell? (ad520.add ((x8_1).toNat * 2)) = some (.int .i64 ((rd_T32 l1 x8_1).f0)) ∧ w'.cell? ⟨(ad520.add ((x8_1).toNat * 2)).block,(ad520.add ((x8_1).toNat * 2)).off + 1,none⟩ = some (.int .i64 ((rd_T32 l1 x8_1).f1)) ∧ w'.cell? (ad520.add ((x8_1).toNat * 2)) = some (.int .i64 ((rd_T32 l1 x8_1).f0)) ∧ w'.cell? ⟨(ad520.add ((x8_1).toNat * 2)).block,(ad520.add ((x8_1).toNat * 2)).off + 1,none⟩ = some (.int .i64 ((rd_T32 l1 x8_1).f1))) (ds := []) #[false,false,false,false,false,false,false,false,false,false,false,false,false,false,false,false,false,false] (by kernel_rfl) rfl rfl ⟨((HB.out.cell (World.block_lt_of_cell? w _ hw520_0)).trans hw520_0),((HB.out.cell (World.block_lt_of_cell? w _ hw520_1)).trans hw520_1),((HB.out.cell (World.block_lt_of_cell? w _ hw521_0)).trans hw521_0),((HB.out.cell (World.block_lt_of_cell? w _ hw521_1)).trans hw521_1)⟩ (fun hHeld => ?_);refine with_tabW R_Together.tab12 R_Together.bits12 (fun HT_ HW_ => ?_)
         generalize wr.drew = w24 at BK517 BK519 HB hx520_0 hx520_1 hx521_0 hx521_1 hHeld ⊢
         refine pure_ (i := 0) (N := some 33) (v := ?_) (a' := ?_) #[true,false,false,false,false,false,false,false,false,false,false,false,false,false,false,false,false,false] rfl rfl (any_of HT_.out (by kernel_rfl)) (fun _ _ _ h => h) (Or.inl ⟨by rfl,?_⟩) ?_ ?_
         rotate_left
         ·intro w'
          go_simp
          with_reducible rfl
         rotate_left
         ·simp only [Act.put,sB_,sZ_,sS_,i64_w,i32_w]
          rfl
         refine pure_ (i := 1) (N := some 34) (v := ?_) (a' := ?_) #[true,true,false,false,false,false,false,false,false,false,false,false,false,false,false,false,false,false] rfl rfl (any_of HT_.out (by kernel_rfl)) (fun _ _ _ h => h) (Or.inl ⟨by rfl,?_⟩) ?_ ?_
         rotate_left
         ·intro w'
          go_simp
          with_reducible rfl
         rotate_left
         ·simp only [Act.put,sB_,sZ_,sS_,i64_w,i32_w]
          rfl
         refine pure_ (i := 2) (N := some 35) (v := ?_) (a' := ?_) #[true,true,true,false,false,false,false,false,false,false,false,false,false,false,false,false,false,false] rfl rfl (any_of HT_.out (by kernel_rfl)) (fun _ _ _ h => h) (Or.inl ⟨by rfl,?_⟩) ?_ ?_
         rotate_left
         ·intro w'
          go_simp
          with_reducible rfl
         rotate_left
         ·simp only [Act.put,sB_,sZ_,sS_,i64_w,i32_w]
          rfl
         refine pure_ (i := 3) (N := some 36) (v := ?_) (a' := ?_) #[true,true,true,true,false,false,false,false,false,false,false,false,false,false,false,false,false,false] rfl rfl (any_of HT_.out (by kernel_rfl)) (fun _ _ _ h => h) (Or.inl ⟨by rfl,?_⟩) ?_ ?_
         rotate_left
         ·intro w'
          go_simp
          with_reducible rfl
         rotate_left
         ·simp only [Act.put,sB_,sZ_,sS_,i64_w,i32_w]
          rfl
         refine pure_ (i := 4) (N := some 37) (v := ?_) (a' := ?_) #[true,true,true,true,true,false,false,false,false,false,false,false,false,false,false,false,false,false] rfl rfl (any_of HT_.out (by kernel_rfl)) (fun _ _ _ h => h) (Or.inl ⟨by rfl,?_⟩) ?_ ?_
         rotate_left
         ·intro w'
          go_simp
          with_reducible rfl
         rotate_left
         ·simp only [Act.put,sB_,sZ_,sS_,i64_w,i32_w]
          rfl
         refine pure_ (i := 6) (N := some 39) (v := ?_) (a' := ?_) #[true,true,true,true,true,false,true,false,false,false,false,false,false,false,false,false,false,false] rfl rfl (any_of HT_.out (by kernel_rfl)) (fun _ _ _ h => h) (Or.inl ⟨by rfl,?_⟩) ?_ ?_
         rotate_left
         ·intro w'
          go_simp
          with_reducible rfl
         rotate_left
         ·simp only [Act.put,sB_,sZ_,sS_,i64_w,i32_w]
          rfl
         refine pure_ (i := 7) (N := some 40) (v := ?_) (a' := ?_) #[true,true,true,true,true,false,true,true,false,false,false,false,false,false,false,false,false,false] rfl rfl (any_of HT_.out (by kernel_rfl)) (fun _ _ _ h => h) (Or.inl ⟨by rfl,?_⟩) ?_ ?_
         rotate_left
         ·intro w'
          go_simp
          with_reducible rfl
         rotate_left
         ·simp only [Act.put,sB_,sZ_,sS_,i64_w,i32_w]
          rfl
         refine pure_ (i := 8) (N := some 41) (v := ?_) (a' := ?_) #[true,true,true,true,true,false,true,true,true,false,false,false,false,false,false,false,false,false] rfl rfl (any_of HT_.out (by kernel_rfl)) (fun _ _ _ h => h) (Or.inl ⟨by rfl,?_⟩) ?_ ?_
         rotate_left
         ·intro w'
          go_simp
          with_reducible rfl
         rotate_left
         ·simp only [Act.put,sB_,sZ_,sS_,i64_w,i32_w]
          rfl
         refine pure_ (i := 9) (N := some 42) (v := ?_) (a' := ?_) #[true,true,true,true,true,false,true,true,true,true,false,false,false,false,false,false,false,false] rfl rfl (any_of HT_.out (by kernel_rfl)) (fun _ _ _ h => h) (Or.inl ⟨by rfl,?_⟩) ?_ ?_
         rotate_left
         ·intro w'
          go_simp
          with_reducible rfl
         rotate_left
         ·simp only [Act.put,sB_,sZ_,sS_,i64_w,i32_w]
          rfl
         refine take_ (i := 5) (N := some 38) (v := ?_) (a' := ?_) #[true,true,true,true,true,true,true,true,true,true,false,false,false,false,false,false,false,false] rfl rfl (take_ofW HT_.out HW_.out (by kernel_rfl)) (fun _ _ _ h => h) (Or.inl ⟨by rfl,?_⟩) hHeld ?_ ?_
         rotate_left
         ·rintro w' ⟨s0,s1,s2,s3⟩
          go_simp
          with_reducible rfl
         rotate_left
         ·simp only [Act.put,sB_,sZ_,sS_,i64_w,i32_w]
          rfl
         refine take_ (i := 10) (N := some 43) (v := ?_) (a' := ?_) #[true,true,true,true,true,true,true,true,true,true,true,false,false,false,false,false,false,false] rfl rfl (take_ofW HT_.out HW_.out (by kernel_rfl)) (fun _ _ _ h => h) (Or.inl ⟨by rfl,?_⟩) hHeld ?_ ?_
         rotate_left
         ·rintro w' ⟨s0,s1,s2,s3⟩
          go_simp
          with_reducible rfl
         rotate_left
         ·simp only [Act.put,sB_,sZ_,sS_,i64_w,i32_w]
          rfl
         refine join_ (σ := Nat) 2 #[true,true,true,true,true,true,true,true,true,true,true,true,true,true,true,true,false,false] (fun s_ => [(44,.tuple #[.agg #[.int .i64 t522,.int .i64 t523],.int .i64 t524]),(9,.pointer (some ⟨s_,0,none⟩)),(32,.tuple #[.agg #[.int .i64 t522,.int .i64 t523],.int .i64 t524]),(45,.agg #[.int .i64 t522,.int .i64 t523]),(46,.int .i64 t524)]) (fun s_ w' => (w'.cell? (ad520.add ((x8_1).toNat * 2)) = some (.int .i64 ((rd_T32 l1 x8_1).f0)) ∧ w'.cell? ⟨(ad520.add ((x8_1).toNat * 2)).block,(ad520.add ((x8_1).toNat * 2)).off + 1,none⟩ = some (.int .i64 ((rd_T32 l1 x8_1).f1)) ∧ w'.cell? (ad520.add ((x8_1).toNat * 2)) = some (.int .i64 ((rd_T32 l1 x8_1).f0)) ∧ w'.cell? ⟨(ad520.add ((x8_1).toNat * 2)).block,(ad520.add ((x8_1).toNat * 2)).off + 1,none⟩ = some (.int .i64 ((rd_T32 l1 x8_1).f1))) ∧ (w'.heap[gb517]? = some (.cells #[.int .i64 x518000_1,.int .i64 x518001_1] 34 (0,0))) ∧ (w'.heap[gb519]? = some (.cells #[.int .i64 x520000_1,.int .i64 x520001_1] 34 (0,0))) ∧ (w'.heap[s_]? = some (.cells #[.int .i64 0,.int .i64 0] 34 (0,0))) ∧ (w.heap.size ≤ s_) ∧ (w.heap.size ≤ s_) ∧ (gb517 ≠ s_) ∧ (s_ ≠ gb517) ∧ (gb519 ≠ s_) ∧ (s_ ≠ gb519) ∧ (Below w.heap.size w w')) ?_ ?_
         rotate_left
         ·intro hCont
          refine two_ (i := 11) (j := 15) (Ni := some 44) (Nj := some 9) #[true,true,true,true,true,true,true,true,true,true,true,true,false,false,false,false,false,false] #[true,true,true,true,true,true,true,true,true,true,true,false,false,false,false,true,false,false] rfl rfl rfl rfl (two_of HT_.out (by kernel_rfl)) (by decide) (by decide) (fun K hK => ?_) (fun K hK => ?_)
          ·skip
           refine goes_ Try.func19 (by kernel_rfl) rfl #[.slice A0 l0.length c0,.int .i64 ((rd_T32 l1 x8_1).f0),.int .i64 ((rd_T32 l1 x8_1).f1)] (by rfl) rfl rfl (by (try simp only [List.map_toArray,List.map_cons,List.map_nil]);first | done | rfl) ?_
           with_reducible refine (R_True.calls k1 _ _ l0 ((rd_T32 l1 x8_1).f0) ((rd_T32 l1 x8_1).f1) t522 t523 t524 _ ?side1 ?side2 A20.out).mono ?_
           (case side1 => exact Kd.C_below HR0.out (lb_ HB))
           (case side2 => exact HC0.out)
           rintro e w25 ⟨rfl,hb⟩
           refine ⟨_,rfl,?_⟩
           have n0_ := aM_ (kB_ (g := gb517) (o := .cells #[.int .i64 x518000_1,.int .i64 x518001_1] 34 (0,0)) (by exact lk_ BK517) hb)
           have n1_ := aM_ (kB_ (g := gb519) (o := .cells #[.int .i64 x520000_1,.int .i64 x520001_1] 34 (0,0)) (by exact lk_ BK519) hb)
           have n2_ := aM_ (bT_ (by exact lb_ HB) hb)
           clear BK517
           clear BK519
           clear HB
           have BK517 := n0_
           have BK519 := n1_
           have HB := n2_
           clear n0_ n1_ n2_
           (try clear hb)
           (try clear hb2)
           (try clear hk)
           (try clear hi)
           refine hK.out _ _ ⟨((HB.out.cell (World.block_lt_of_cell? w _ hw520_0)).trans hw520_0),((HB.out.cell (World.block_lt_of_cell? w _ hw520_1)).trans hw520_1),((HB.out.cell (World.block_lt_of_cell? w _ hw521_0)).trans hw521_0),((HB.out.cell (World.block_lt_of_cell? w _ hw521_1)).trans hw521_1)⟩ (fun hHeld => ?_)
           clear hK K
           refine norm_ (a' := ?_) ?_ ?_
           rotate_left
           ·show Act.put _ (some 44) _ = _
            simp only [Act.put,sB_,sZ_,sS_,i64_w,i32_w]
            rfl
           refine pure_ (i := 12) (N := some 32) (v := ?_) (a' := ?_) #[true,true,true,true,true,true,true,true,true,true,true,true,true,false,false,false,false,false] rfl rfl (any_of HT_.out (by kernel_rfl)) (fun _ _ _ h => h) (Or.inl ⟨by rfl,?_⟩) ?_ ?_
           rotate_left
           ·intro w'
            go_simp
            with_reducible rfl
           rotate_left
           ·simp only [Act.put,sB_,sZ_,sS_,i64_w,i32_w]
            rfl
           refine pure_ (i := 13) (N := some 45) (v := ?_) (a' := ?_) #[true,true,true,true,true,true,true,true,true,true,true,true,true,true,false,false,false,false] rfl rfl (any_of HT_.out (by kernel_rfl)) (fun _ _ _ h => h) (Or.inl ⟨by rfl,?_⟩) ?_ ?_
           rotate_left
           ·intro w'
            go_simp
            with_reducible rfl
           rotate_left
           ·simp only [Act.put,sB_,sZ_,sS_,i64_w,i32_w]
            rfl
           refine pure_ (i := 14) (N := some 46) (v := ?_) (a' := ?_) #[true,true,true,true,true,true,true,true,true,true,true,true,true,true,true,false,false,false] rfl rfl (any_of HT_.out (by kernel_rfl)) (fun _ _ _ h => h) (Or.inl ⟨by rfl,?_⟩) ?_ ?_
           rotate_left
           ·intro w'
            go_simp
            with_reducible rfl
           rotate_left
           ·simp only [Act.put,sB_,sZ_,sS_,i64_w,i32_w]
            rfl
           refine one_ (i := 15) (N := some 9) #[true,true,true,true,true,true,true,true,true,true,true,true,true,true,true,true,false,false] rfl rfl (one_of HT_.out (by kernel_rfl)) (by decide) (fun K hK => ?_)
           refine box_step ?hg (N := 9) ?hd (cs := #[.int .i64 0,.int .i64 0]) (t := 34) ?hr ?_;(case hd => rfl);(case hg => rfl);(case hr => first | (go_simp;done) | (go_simp;rfl))
           intro gb525 hg w26 hbox hb
           have n0_ := aM_ (kB_ (g := gb517) (o := .cells #[.int .i64 x518000_1,.int .i64 x518001_1] 34 (0,0)) (by exact lk_ BK517) hb)
           have n1_ := aM_ (kB_ (g := gb519) (o := .cells #[.int .i64 x520000_1,.int .i64 x520001_1] 34 (0,0)) (by exact lk_ BK519) hb)
           have n2_ := aM_ (bT_ (by exact lb_ HB) hb)
           have n3_ := aM_ (hbox)
           have n4_ := aM_ ((by rw [hg];exact (below_size (by exact lb_ HB)) : w.heap.size ≤ gb525))
           have n5_ := aM_ ((by rw [hg];exact (below_size (by exact lb_ HB)) : w.heap.size ≤ gb525))
           have n6_ := aM_ ((by rw [hg];exact Nat.ne_of_lt (blk_lt (g := gb517) (o := .cells #[.int .i64 x518000_1,.int .i64 x518001_1] 34 (0,0)) (by exact lk_ BK517)) : gb517 ≠ gb525))
           have n7_ := aM_ ((by rw [hg];exact Nat.ne_of_gt (blk_lt (g := gb517) (o := .cells #[.int .i64 x518000_1,.int .i64 x518001_1] 34 (0,0)) (by exact lk_ BK517)) : gb525 ≠ gb517))
           have n8_ := aM_ ((by rw [hg];exact Nat.ne_of_lt (blk_lt (g := gb519) (o := .cells #[.int .i64 x520000_1,.int .i64 x520001_1] 34 (0,0)) (by exact lk_ BK519)) : gb519 ≠ gb525))
           have n9_ := aM_ ((by rw [hg];exact Nat.ne_of_gt (blk_lt (g := gb519) (o := .cells #[.int .i64 x520000_1,.int .i64 x520001_1] 34 (0,0)) (by exact lk_ BK519)) : gb525 ≠ gb519))
           clear BK517
           clear BK519
           clear HB
           have BK517 := n0_
           have BK519 := n1_
           have HB := n2_
           have BK525 := n3_
           have GW525 := n4_
           have GE525 := n5_
           have := Ge_.mk n5_.out
           have NB517_525 := n6_
           have NB525_517 := n7_
           have NB519_525 := n8_
           have NB525_519 := n9_
           clear n0_ n1_ n2_ n3_ n4_ n5_ n6_ n7_ n8_ n9_
           clear hb hbox hg
           refine hK.out _ _ ⟨((HB.out.cell (World.block_lt_of_cell? w _ hw520_0)).trans hw520_0),((HB.out.cell (World.block_lt_of_cell? w _ hw520_1)).trans hw520_1),((HB.out.cell (World.block_lt_of_cell? w _ hw521_0)).trans hw521_0),((HB.out.cell (World.block_lt_of_cell? w _ hw521_1)).trans hw521_1)⟩ (fun hHeld => ?_)
           clear hK K
           refine norm_ (a' := ?_) ?_ ?_
           rotate_left
           ·show Act.put _ (some 9) _ = _
            simp only [Act.put,sB_,sZ_,sS_,i64_w,i32_w]
            rfl
           exact norm_ (by simp only [putAll,Act.put,sB_,sZ_,sS_]) (hCont (gb525) _ ⟨hHeld,(by exact lk_ BK517),(by exact lk_ BK519),(by exact lk_ BK525),GW525.out,GE525.out,NB517_525.out,NB525_517.out,NB519_525.out,NB525_519.out,(by exact lb_ HB)⟩)
          ·skip
           refine box_step ?hg (N := 9) ?hd (cs := #[.int .i64 0,.int .i64 0]) (t := 34) ?hr ?_;(case hd => rfl);(case hg => rfl);(case hr => first | (go_simp;done) | (go_simp;rfl))
           intro gb525 hg w25 hbox hb
           have n0_ := aM_ (kB_ (g := gb517) (o := .cells #[.int .i64 x518000_1,.int .i64 x518001_1] 34 (0,0)) (by exact lk_ BK517) hb)
           have n1_ := aM_ (kB_ (g := gb519) (o := .cells #[.int .i64 x520000_1,.int .i64 x520001_1] 34 (0,0)) (by exact lk_ BK519) hb)
           have n2_ := aM_ (bT_ (by exact lb_ HB) hb)
           have n3_ := aM_ (hbox)
           have n4_ := aM_ ((by rw [hg];exact (below_size (by exact lb_ HB)) : w.heap.size ≤ gb525))
           have n5_ := aM_ ((by rw [hg];exact (below_size (by exact lb_ HB)) : w.heap.size ≤ gb525))
           have n6_ := aM_ ((by rw [hg];exact Nat.ne_of_lt (blk_lt (g := gb517) (o := .cells #[.int .i64 x518000_1,.int .i64 x518001_1] 34 (0,0)) (by exact lk_ BK517)) : gb517 ≠ gb525))
           have n7_ := aM_ ((by rw [hg];exact Nat.ne_of_gt (blk_lt (g := gb517) (o := .cells #[.int .i64 x518000_1,.int .i64 x518001_1] 34 (0,0)) (by exact lk_ BK517)) : gb525 ≠ gb517))
           have n8_ := aM_ ((by rw [hg];exact Nat.ne_of_lt (blk_lt (g := gb519) (o := .cells #[.int .i64 x520000_1,.int .i64 x520001_1] 34 (0,0)) (by exact lk_ BK519)) : gb519 ≠ gb525))
           have n9_ := aM_ ((by rw [hg];exact Nat.ne_of_gt (blk_lt (g := gb519) (o := .cells #[.int .i64 x520000_1,.int .i64 x520001_1] 34 (0,0)) (by exact lk_ BK519)) : gb525 ≠ gb519))
           clear BK517
           clear BK519
           clear HB
           have BK517 := n0_
           have BK519 := n1_
           have HB := n2_
           have BK525 := n3_
           have GW525 := n4_
           have GE525 := n5_
           have := Ge_.mk n5_.out
           have NB517_525 := n6_
           have NB525_517 := n7_
           have NB519_525 := n8_
           have NB525_519 := n9_
           clear n0_ n1_ n2_ n3_ n4_ n5_ n6_ n7_ n8_ n9_
           clear hb hbox hg
           refine hK.out _ _ ⟨((HB.out.cell (World.block_lt_of_cell? w _ hw520_0)).trans hw520_0),((HB.out.cell (World.block_lt_of_cell? w _ hw520_1)).trans hw520_1),((HB.out.cell (World.block_lt_of_cell? w _ hw521_0)).trans hw521_0),((HB.out.cell (World.block_lt_of_cell? w _ hw521_1)).trans hw521_1)⟩ (fun hHeld => ?_)
           clear hK K
           refine norm_ (a' := ?_) ?_ ?_
           rotate_left
           ·show Act.put _ (some 9) _ = _
            simp only [Act.put,sB_,sZ_,sS_,i64_w,i32_w]
            rfl
           refine one_ (i := 11) (N := some 44) #[true,true,true,true,true,true,true,true,true,true,true,true,false,false,false,true,false,false] rfl rfl (one_of HT_.out (by kernel_rfl)) (by decide) (fun K hK => ?_)
           refine goes_ Try.func19 (by kernel_rfl) rfl #[.slice A0 l0.length c0,.int .i64 ((rd_T32 l1 x8_1).f0),.int .i64 ((rd_T32 l1 x8_1).f1)] (by rfl) rfl rfl (by (try simp only [List.map_toArray,List.map_cons,List.map_nil]);first | done | rfl) ?_
           with_reducible refine (R_True.calls k1 _ _ l0 ((rd_T32 l1 x8_1).f0) ((rd_T32 l1 x8_1).f1) t522 t523 t524 _ ?side1 ?side2 A20.out).mono ?_
           (case side1 => exact Kd.C_below HR0.out (lb_ HB))
           (case side2 => exact HC0.out)
           rintro e w26 ⟨rfl,hb⟩
           refine ⟨_,rfl,?_⟩
           have n0_ := aM_ (kB_ (g := gb517) (o := .cells #[.int .i64 x518000_1,.int .i64 x518001_1] 34 (0,0)) (by exact lk_ BK517) hb)
           have n1_ := aM_ (kB_ (g := gb519) (o := .cells #[.int .i64 x520000_1,.int .i64 x520001_1] 34 (0,0)) (by exact lk_ BK519) hb)
           have n2_ := aM_ (kB_ (g := gb525) (o := .cells #[.int .i64 0,.int .i64 0] 34 (0,0)) (by exact lk_ BK525) hb)
           have n3_ := aM_ (bT_ (by exact lb_ HB) hb)
           clear BK517
           clear BK519
           clear BK525
           clear HB
           have BK517 := n0_
           have BK519 := n1_
           have BK525 := n2_
           have HB := n3_
           clear n0_ n1_ n2_ n3_
           (try clear hb)
           (try clear hb2)
           (try clear hk)
           (try clear hi)
           refine hK.out _ _ ⟨((HB.out.cell (World.block_lt_of_cell? w _ hw520_0)).trans hw520_0),((HB.out.cell (World.block_lt_of_cell? w _ hw520_1)).trans hw520_1),((HB.out.cell (World.block_lt_of_cell? w _ hw521_0)).trans hw521_0),((HB.out.cell (World.block_lt_of_cell? w _ hw521_1)).trans hw521_1)⟩ (fun hHeld => ?_)
           clear hK K
           refine norm_ (a' := ?_) ?_ ?_
           rotate_left
           ·show Act.put _ (some 44) _ = _
            simp only [Act.put,sB_,sZ_,sS_,i64_w,i32_w]
            rfl
           refine pure_ (i := 12) (N := some 32) (v := ?_) (a' := ?_) #[true,true,true,true,true,true,true,true,true,true,true,true,true,false,false,true,false,false] rfl rfl (any_of HT_.out (by kernel_rfl)) (fun _ _ _ h => h) (Or.inl ⟨by rfl,?_⟩) ?_ ?_
           rotate_left
           ·intro w'
            go_simp
            with_reducible rfl
           rotate_left
           ·simp only [Act.put,sB_,sZ_,sS_,i64_w,i32_w]
            rfl
           refine pure_ (i := 13) (N := some 45) (v := ?_) (a' := ?_) #[true,true,true,true,true,true,true,true,true,true,true,true,true,true,false,true,false,false] rfl rfl (any_of HT_.out (by kernel_rfl)) (fun _ _ _ h => h) (Or.inl ⟨by rfl,?_⟩) ?_ ?_
           rotate_left
           ·intro w'
            go_simp
            with_reducible rfl
           rotate_left
           ·simp only [Act.put,sB_,sZ_,sS_,i64_w,i32_w]
            rfl
           refine pure_ (i := 14) (N := some 46) (v := ?_) (a' := ?_) #[true,true,true,true,true,true,true,true,true,true,true,true,true,true,true,true,false,false] rfl rfl (any_of HT_.out (by kernel_rfl)) (fun _ _ _ h => h) (Or.inl ⟨by rfl,?_⟩) ?_ ?_
           rotate_left
           ·intro w'
            go_simp
            with_reducible rfl
           rotate_left
           ·simp only [Act.put,sB_,sZ_,sS_,i64_w,i32_w]
            rfl
           exact norm_ (by simp only [putAll,Act.put,sB_,sZ_,sS_]) (hCont (gb525) _ ⟨hHeld,(by exact lk_ BK517),(by exact lk_ BK519),(by exact lk_ BK525),GW525.out,GE525.out,NB517_525.out,NB525_517.out,NB519_525.out,NB525_519.out,(by exact lb_ HB)⟩)
         rintro gb525 w27 ⟨hS_,h0_,h1_,h2_,h3_,h4_,h5_,h6_,h7_,h8_,h9_⟩
         have n0_ : Aside0 (w27.heap[gb517]? = some (.cells #[.int .i64 x518000_1,.int .i64 x518001_1] 34 (0,0))) := ⟨h0_⟩
         have n1_ : Aside0 (w27.heap[gb519]? = some (.cells #[.int .i64 x520000_1,.int .i64 x520001_1] 34 (0,0))) := ⟨h1_⟩
         have n2_ : Aside0 (w27.heap[gb525]? = some (.cells #[.int .i64 0,.int .i64 0] 34 (0,0))) := ⟨h2_⟩
         have n3_ : Aside0 (w.heap.size ≤ gb525) := ⟨h3_⟩
         have n4_ : Aside0 (w.heap.size ≤ gb525) := ⟨h4_⟩
         have n5_ : Aside0 (gb517 ≠ gb525) := ⟨h5_⟩
         have n6_ : Aside0 (gb525 ≠ gb517) := ⟨h6_⟩
         have n7_ : Aside0 (gb519 ≠ gb525) := ⟨h7_⟩
         have n8_ : Aside0 (gb525 ≠ gb519) := ⟨h8_⟩
         have n9_ : Aside0 (Below w.heap.size w w27) := ⟨h9_⟩
         clear BK517
         clear BK519
         clear HB
         clear h0_ h1_ h2_ h3_ h4_ h5_ h6_ h7_ h8_ h9_
         have BK517 := n0_
         have BK519 := n1_
         have BK525 := n2_
         have GW525 := n3_
         have GE525 := n4_
         have := Ge_.mk n4_.out
         have NB517_525 := n5_
         have NB525_517 := n6_
         have NB519_525 := n7_
         have NB525_519 := n8_
         have HB := n9_
         clear n0_ n1_ n2_ n3_ n4_ n5_ n6_ n7_ n8_ n9_
         have hHeld : w27.cell? (ad520.add ((x8_1).toNat * 2)) = some (.int .i64 ((rd_T32 l1 x8_1).f0)) ∧ w27.cell? ⟨(ad520.add ((x8_1).toNat * 2)).block,(ad520.add ((x8_1).toNat * 2)).off + 1,none⟩ = some (.int .i64 ((rd_T32 l1 x8_1).f1)) ∧ w27.cell? (ad520.add ((x8_1).toNat * 2)) = some (.int .i64 ((rd_T32 l1 x8_1).f0)) ∧ w27.cell? ⟨(ad520.add ((x8_1).toNat * 2)).block,(ad520.add ((x8_1).toNat * 2)).off + 1,none⟩ = some (.int .i64 ((rd_T32 l1 x8_1).f1)) := hS_
         refine norm_ (a' := ?_) ?_ ?_
         rotate_left
         ·simp only [putAll,Act.put,sB_,sZ_,sS_]
          rfl
         refine one_ (i := 16) (N := none) #[true,true,true,true,true,true,true,true,true,true,true,true,true,true,true,true,true,false] rfl rfl (one_of HT_.out (by kernel_rfl)) (by decide) (fun K hK => ?_)
         have hs28 : w27.cell? ⟨gb525,0,none⟩ = some (.int .i64 0) := (blk_cell BK525.out 0).trans rfl
         have hfs28 := blk_frozen BK525.out 0
         have hns28_0 := NB517_525.out
         have hns28_1 := NB519_525.out
         have hms28_0 := NB525_517.out
         have hms28_1 := NB525_519.out
         have hs29 : w27.cell? ⟨gb525,1,none⟩ = some (.int .i64 0) := (blk_cell BK525.out 1).trans rfl
         have hfs29 := blk_frozen BK525.out 1
         have hns29_0 := NB517_525.out
         have hns29_1 := NB519_525.out
         have hms29_0 := NB525_517.out
         have hms29_1 := NB525_519.out
         refine skip_ (w1 := ?_) (by rfl) rfl ?_ ?_
         rotate_left
         ·go_simp
          rfl
         refine hK.out _ _ ⟨((cell_far (p := ⟨gb525,_,none⟩) (by first | exact Nat.ne_of_lt (Nat.lt_of_lt_of_le (by have := World.block_lt_of_cell? _ _ hw520_0;first | rwa [add_block] at this | exact this) GW525.out) | (rw [add_block];exact Nat.ne_of_lt (Nat.lt_of_lt_of_le (by have := World.block_lt_of_cell? _ _ hw520_0;first | rwa [add_block] at this | exact this) GW525.out)) | (show (Addr.add _ _).block ≠ _;rw [add_block];exact Nat.ne_of_lt (Nat.lt_of_lt_of_le (by have := World.block_lt_of_cell? _ _ hw520_0;first | rwa [add_block] at this | exact this) GW525.out)) | (dsimp only;exact Nat.ne_of_lt (Nat.lt_of_lt_of_le (by have := World.block_lt_of_cell? _ _ hw520_0;first | rwa [add_block] at this | exact this) GW525.out))) _).trans (((cell_far (p := ⟨gb525,_,none⟩) (by first | exact Nat.ne_of_lt (Nat.lt_of_lt_of_le (by have := World.block_lt_of_cell? _ _ hw520_0;first | rwa [add_block] at this | exact this) GW525.out) | (rw [add_block];exact Nat.ne_of_lt (Nat.lt_of_lt_of_le (by have := World.block_lt_of_cell? _ _ hw520_0;first | rwa [add_block] at this | exact this) GW525.out)) | (show (Addr.add _ _).block ≠ _;rw [add_block];exact Nat.ne_of_lt (Nat.lt_of_lt_of_le (by have := World.block_lt_of_cell? _ _ hw520_0;first | rwa [add_block] at this | exact this) GW525.out)) | (dsimp only;exact Nat.ne_of_lt (Nat.lt_of_lt_of_le (by have := World.block_lt_of_cell? _ _ hw520_0;first | rwa [add_block] at this | exact this) GW525.out))) _).trans (hHeld.1)))),((cell_far (p := ⟨gb525,_,none⟩) (by first | exact Nat.ne_of_lt (Nat.lt_of_lt_of_le (by have := World.block_lt_of_cell? _ _ hw520_1;first | rwa [add_block] at this | exact this) GW525.out) | (rw [add_block];exact Nat.ne_of_lt (Nat.lt_of_lt_of_le (by have := World.block_lt_of_cell? _ _ hw520_1;first | rwa [add_block] at this | exact this) GW525.out)) | (show (Addr.add _ _).block ≠ _;rw [add_block];exact Nat.ne_of_lt (Nat.lt_of_lt_of_le (by have := World.block_lt_of_cell? _ _ hw520_1;first | rwa [add_block] at this | exact this) GW525.out)) | (dsimp only;exact Nat.ne_of_lt (Nat.lt_of_lt_of_le (by have := World.block_lt_of_cell? _ _ hw520_1;first | rwa [add_block] at this | exact this) GW525.out))) _).trans (((cell_far (p := ⟨gb525,_,none⟩) (by first | exact Nat.ne_of_lt (Nat.lt_of_lt_of_le (by have := World.block_lt_of_cell? _ _ hw520_1;first | rwa [add_block] at this | exact this) GW525.out) | (rw [add_block];exact Nat.ne_of_lt (Nat.lt_of_lt_of_le (by have := World.block_lt_of_cell? _ _ hw520_1;first | rwa [add_block] at this | exact this) GW525.out)) | (show (Addr.add _ _).block ≠ _;rw [add_block];exact Nat.ne_of_lt (Nat.lt_of_lt_of_le (by have := World.block_lt_of_cell? _ _ hw520_1;first | rwa [add_block] at this | exact this) GW525.out)) | (dsimp only;exact Nat.ne_of_lt (Nat.lt_of_lt_of_le (by have := World.block_lt_of_cell? _ _ hw520_1;first | rwa [add_block] at this | exact this) GW525.out))) _).trans (hHeld.2.1)))),((cell_far (p := ⟨gb525,_,none⟩) (by first | exact Nat.ne_of_lt (Nat.lt_of_lt_of_le (by have := World.block_lt_of_cell? _ _ hw521_0;first | rwa [add_block] at this | exact this) GW525.out) | (rw [add_block];exact Nat.ne_of_lt (Nat.lt_of_lt_of_le (by have := World.block_lt_of_cell? _ _ hw521_0;first | rwa [add_block] at this | exact this) GW525.out)) | (show (Addr.add _ _).block ≠ _;rw [add_block];exact Nat.ne_of_lt (Nat.lt_of_lt_of_le (by have := World.block_lt_of_cell? _ _ hw521_0;first | rwa [add_block] at this | exact this) GW525.out)) | (dsimp only;exact Nat.ne_of_lt (Nat.lt_of_lt_of_le (by have := World.block_lt_of_cell? _ _ hw521_0;first | rwa [add_block] at this | exact this) GW525.out))) _).trans (((cell_far (p := ⟨gb525,_,none⟩) (by first | exact Nat.ne_of_lt (Nat.lt_of_lt_of_le (by have := World.block_lt_of_cell? _ _ hw521_0;first | rwa [add_block] at this | exact this) GW525.out) | (rw [add_block];exact Nat.ne_of_lt (Nat.lt_of_lt_of_le (by have := World.block_lt_of_cell? _ _ hw521_0;first | rwa [add_block] at this | exact this) GW525.out)) | (show (Addr.add _ _).block ≠ _;rw [add_block];exact Nat.ne_of_lt (Nat.lt_of_lt_of_le (by have := World.block_lt_of_cell? _ _ hw521_0;first | rwa [add_block] at this | exact this) GW525.out)) | (dsimp only;exact Nat.ne_of_lt (Nat.lt_of_lt_of_le (by have := World.block_lt_of_cell? _ _ hw521_0;first | rwa [add_block] at this | exact this) GW525.out))) _).trans (hHeld.2.2.1)))),((cell_far (p := ⟨gb525,_,none⟩) (by first | exact Nat.ne_of_lt (Nat.lt_of_lt_of_le (by have := World.block_lt_of_cell? _ _ hw521_1;first | rwa [add_block] at this | exact this) GW525.out) | (rw [add_block];exact Nat.ne_of_lt (Nat.lt_of_lt_of_le (by have := World.block_lt_of_cell? _ _ hw521_1;first | rwa [add_block] at this | exact this) GW525.out)) | (show (Addr.add _ _).block ≠ _;rw [add_block];exact Nat.ne_of_lt (Nat.lt_of_lt_of_le (by have := World.block_lt_of_cell? _ _ hw521_1;first | rwa [add_block] at this | exact this) GW525.out)) | (dsimp only;exact Nat.ne_of_lt (Nat.lt_of_lt_of_le (by have := World.block_lt_of_cell? _ _ hw521_1;first | rwa [add_block] at this | exact this) GW525.out))) _).trans (((cell_far (p := ⟨gb525,_,none⟩) (by first | exact Nat.ne_of_lt (Nat.lt_of_lt_of_le (by have := World.block_lt_of_cell? _ _ hw521_1;first | rwa [add_block] at this | exact this) GW525.out) | (rw [add_block];exact Nat.ne_of_lt (Nat.lt_of_lt_of_le (by have := World.block_lt_of_cell? _ _ hw521_1;first | rwa [add_block] at this | exact this) GW525.out)) | (show (Addr.add _ _).block ≠ _;rw [add_block];exact Nat.ne_of_lt (Nat.lt_of_lt_of_le (by have := World.block_lt_of_cell? _ _ hw521_1;first | rwa [add_block] at this | exact this) GW525.out)) | (dsimp only;exact Nat.ne_of_lt (Nat.lt_of_lt_of_le (by have := World.block_lt_of_cell? _ _ hw521_1;first | rwa [add_block] at this | exact this) GW525.out))) _).trans (hHeld.2.2.2))))⟩ (fun hHeld => ?_)
         clear hK K
         refine pure_ (i := 17) (N := some 10) (v := ?_) (a' := ?_) #[true,true,true,true,true,true,true,true,true,true,true,true,true,true,true,true,true,true] rfl rfl (any_of HT_.out (by kernel_rfl)) (fun _ _ _ h => h) (Or.inl ⟨by rfl,?_⟩) ?_ ?_
         rotate_left
         ·intro w'
          go_simp
          with_reducible rfl
         rotate_left
         ·simp only [Act.put,sB_,sZ_,sS_,i64_w,i32_w]
          rfl
         refine done_ (done_of HT_.out (by kernel_rfl)) ?_
         have hnb30 := NB519_517.out
         have hnc30 := NB517_519.out
         have hnb31 := NB519_525.out
         have hnc31 := NB525_519.out
         have hcz32_0 : w27.cell? ⟨gb519,0,none⟩ = some (.int .i64 x520000_1) := (blk_cell BK519.out 0).trans rfl
         have hcz32_1 : w27.cell? ⟨gb519,1,none⟩ = some (.int .i64 x520001_1) := (blk_cell BK519.out 1).trans rfl
         have hfz32_0 := blk_frozen BK519.out 0
         have hfz32_1 := blk_frozen BK519.out 1
         have hnb33 := NB525_517.out
         have hnc33 := NB517_525.out
         have hcz34_0 : w27.cell? ⟨gb525,0,none⟩ = some (.int .i64 0) := (blk_cell BK525.out 0).trans rfl
         have hcz34_1 : w27.cell? ⟨gb525,1,none⟩ = some (.int .i64 0) := (blk_cell BK525.out 1).trans rfl
         have hfz34_0 := blk_frozen BK525.out 0
         have hfz34_1 := blk_frozen BK525.out 1
         try go_wp2
         go_roundg k1
         case measure => have := HK1.out;omega
         case rel => exact ⟨(wrap64 (x8_1 + 1)),(x518000_1),(x518001_1),(ji22),(ji23),(by first | rfl | (simp;done) | (simp [*];done)),H',⟨by have := HK1.out;omega⟩,⟨by (with_reducible repeat (first | refine kN_ ?_ _ | refine kD_ ?_ | refine kA_ ?_ _));refine blk_far ?_ NB517_519.out _;(with_reducible repeat (first | refine kN_ ?_ _ | refine kD_ ?_ | refine kA_ ?_ _));refine blk_far ?_ NB517_519.out _;(with_reducible repeat (first | refine kN_ ?_ _ | refine kD_ ?_ | refine kA_ ?_ _));refine blk_far ?_ NB517_525.out _;(with_reducible repeat (first | refine kN_ ?_ _ | refine kD_ ?_ | refine kA_ ?_ _));refine blk_far ?_ NB517_525.out _;exact lk_ BK517⟩,⟨by (with_reducible repeat (first | refine kN_ ?_ _ | refine kD_ ?_ | refine kA_ ?_ _));refine blk_put (cs := #[.int .i64 ji22,.int .i64 x520001_1]) ?_ 1 _ rfl;(with_reducible repeat (first | refine kN_ ?_ _ | refine kD_ ?_ | refine kA_ ?_ _));refine blk_put (cs := #[.int .i64 x520000_1,.int .i64 x520001_1]) ?_ 0 _ rfl;(with_reducible repeat (first | refine kN_ ?_ _ | refine kD_ ?_ | refine kA_ ?_ _));refine blk_far ?_ NB519_525.out _;(with_reducible repeat (first | refine kN_ ?_ _ | refine kD_ ?_ | refine kA_ ?_ _));refine blk_far ?_ NB519_525.out _;exact lk_ BK519⟩,⟨by exact lb_ HB⟩⟩
        ·rw [if_neg c21] at H
         have c21b0 : (t524 == 0) = false := beq_eq_false_iff_ne.mpr c21
         have c21b1 : (t524 != 0) = true := bne_iff_ne.mpr c21
         simp only [Option.some.injEq,Prod.mk.injEq] at H
         obtain ⟨rfl,rfl,rfl⟩ := H
         try go_wp2
         have n0_ := aM_ (kD_ BK517.out)
         have n1_ := aM_ (kD_ BK519.out)
         have n2_ := aM_ (bD_ HB.out)
         clear BK517
         clear BK519
         clear HB
         have BK517 := n0_
         have BK519 := n1_
         have HB := n2_
         clear n0_ n1_ n2_
         have p520 : 0 ≤ (x8_1 : Int) := of_decide_eq_true (by first | (with_reducible assumption) | assumption)
         have q520 : x8_1 < (l1.length : Int) := of_decide_eq_true (by first | (with_reducible assumption) | assumption)
         obtain ⟨ad520,e520,hx520_0,hx520_1⟩ := at_T32 HR1.out x8_1 p520 q520
         have hw520_1 := hx520_1
         have hw520_0 := hx520_0
         cases e520
         replace hx520_0 := (HB.out.cell (World.block_lt_of_cell? w _ hx520_0)).trans hx520_0
         replace hx520_1 := (HB.out.cell (World.block_lt_of_cell? w _ hx520_1)).trans hx520_1
         replace p520 := eq_true p520
         replace q520 := eq_true q520
         have p521 : 0 ≤ (x8_1 : Int) := of_decide_eq_true (by first | (with_reducible assumption) | assumption)
         have q521 : x8_1 < (l1.length : Int) := of_decide_eq_true (by first | (with_reducible assumption) | assumption)
         obtain ⟨ad521,e521,hx521_0,hx521_1⟩ := at_T32 HR1.out x8_1 p521 q521
         have hw521_1 := hx521_1
         have hw521_0 := hx521_0
         obtain rfl : ad520 = ad521 := (by injection e521)
         replace hx521_0 := (HB.out.cell (World.block_lt_of_cell? w _ hx521_0)).trans hx521_0
         replace hx521_1 := (HB.out.cell (World.block_lt_of_cell? w _ hx521_1)).trans hx521_1
         replace p521 := eq_true p521
         replace q521 := eq_true q521
         refine start_ (n := 18) (S := fun w' => w'.cell? (ad520.add ((x8_1).toNat * 2)) = some (.int .i64 ((rd_T32 l1 x8_1).f0)) ∧ w'.cell? ⟨(ad520.add ((x8_1).toNat * 2)).block,(ad520.add ((x8_1).toNat * 2)).off + 1,none⟩ = some (.int .i64 ((rd_T32 l1 x8_1).f1)) ∧ w'.cell? (ad520.add ((x8_1).toNat * 2)) = some (.int .i64 ((rd_T32 l1 x8_1).f0)) ∧ w'.cell? ⟨(ad520.add ((x8_1).toNat * 2)).block,(ad520.add ((x8_1).toNat * 2)).off + 1,none⟩ = some (.int .i64 ((rd_T32 l1 x8_1).f1))) (ds := []) #[false,false,false,false,false,false,false,false,false,false,false,false,false,false,false,false,false,false] (by kernel_rfl) rfl rfl ⟨((HB.out.cell (World.block_lt_of_cell? w _ hw520_0)).trans hw520_0),((HB.out.cell (World.block_lt_of_cell? w _ hw520_1)).trans hw520_1),((HB.out.cell (World.block_lt_of_cell? w _ hw521_0)).trans hw521_0),((HB.out.cell (World.block_lt_of_cell? w _ hw521_1)).trans hw521_1)⟩ (fun hHeld => ?_);refine with_tabW R_Together.tab12 R_Together.bits12 (fun HT_ HW_ => ?_)
         generalize wr.drew = w35 at BK517 BK519 HB hx520_0 hx520_1 hx521_0 hx521_1 hHeld ⊢
         refine pure_ (i := 0) (N := some 33) (v := ?_) (a' := ?_) #[true,false,false,false,false,false,false,false,false,false,false,false,false,false,false,false,false,false] rfl rfl (any_of HT_.out (by kernel_rfl)) (fun _ _ _ h => h) (Or.inl ⟨by rfl,?_⟩) ?_ ?_
         rotate_left
         ·intro w'
          go_simp
          with_reducible rfl
         rotate_left
         ·simp only [Act.put,sB_,sZ_,sS_,i64_w,i32_w]
          rfl
         refine pure_ (i := 1) (N := some 34) (v := ?_) (a' := ?_) #[true,true,false,false,false,false,false,false,false,false,false,false,false,false,false,false,false,false] rfl rfl (any_of HT_.out (by kernel_rfl)) (fun _ _ _ h => h) (Or.inl ⟨by rfl,?_⟩) ?_ ?_
         rotate_left
         ·intro w'
          go_simp
          with_reducible rfl
         rotate_left
         ·simp only [Act.put,sB_,sZ_,sS_,i64_w,i32_w]
          rfl
         refine pure_ (i := 2) (N := some 35) (v := ?_) (a' := ?_) #[true,true,true,false,false,false,false,false,false,false,false,false,false,false,false,false,false,false] rfl rfl (any_of HT_.out (by kernel_rfl)) (fun _ _ _ h => h) (Or.inl ⟨by rfl,?_⟩) ?_ ?_
         rotate_left
         ·intro w'
          go_simp
          with_reducible rfl
         rotate_left
         ·simp only [Act.put,sB_,sZ_,sS_,i64_w,i32_w]
          rfl
         refine pure_ (i := 3) (N := some 36) (v := ?_) (a' := ?_) #[true,true,true,true,false,false,false,false,false,false,false,false,false,false,false,false,false,false] rfl rfl (any_of HT_.out (by kernel_rfl)) (fun _ _ _ h => h) (Or.inl ⟨by rfl,?_⟩) ?_ ?_
         rotate_left
         ·intro w'
          go_simp
          with_reducible rfl
         rotate_left
         ·simp only [Act.put,sB_,sZ_,sS_,i64_w,i32_w]
          rfl
         refine pure_ (i := 4) (N := some 37) (v := ?_) (a' := ?_) #[true,true,true,true,true,false,false,false,false,false,false,false,false,false,false,false,false,false] rfl rfl (any_of HT_.out (by kernel_rfl)) (fun _ _ _ h => h) (Or.inl ⟨by rfl,?_⟩) ?_ ?_
         rotate_left
         ·intro w'
          go_simp
          with_reducible rfl
         rotate_left
         ·simp only [Act.put,sB_,sZ_,sS_,i64_w,i32_w]
          rfl
         refine pure_ (i := 6) (N := some 39) (v := ?_) (a' := ?_) #[true,true,true,true,true,false,true,false,false,false,false,false,false,false,false,false,false,false] rfl rfl (any_of HT_.out (by kernel_rfl)) (fun _ _ _ h => h) (Or.inl ⟨by rfl,?_⟩) ?_ ?_
         rotate_left
         ·intro w'
          go_simp
          with_reducible rfl
         rotate_left
         ·simp only [Act.put,sB_,sZ_,sS_,i64_w,i32_w]
          rfl
         refine pure_ (i := 7) (N := some 40) (v := ?_) (a' := ?_) #[true,true,true,true,true,false,true,true,false,false,false,false,false,false,false,false,false,false] rfl rfl (any_of HT_.out (by kernel_rfl)) (fun _ _ _ h => h) (Or.inl ⟨by rfl,?_⟩) ?_ ?_
         rotate_left
         ·intro w'
          go_simp
          with_reducible rfl
         rotate_left
         ·simp only [Act.put,sB_,sZ_,sS_,i64_w,i32_w]
          rfl
         refine pure_ (i := 8) (N := some 41) (v := ?_) (a' := ?_) #[true,true,true,true,true,false,true,true,true,false,false,false,false,false,false,false,false,false] rfl rfl (any_of HT_.out (by kernel_rfl)) (fun _ _ _ h => h) (Or.inl ⟨by rfl,?_⟩) ?_ ?_
         rotate_left
         ·intro w'
          go_simp
          with_reducible rfl
         rotate_left
         ·simp only [Act.put,sB_,sZ_,sS_,i64_w,i32_w]
          rfl
         refine pure_ (i := 9) (N := some 42) (v := ?_) (a' := ?_) #[true,true,true,true,true,false,true,true,true,true,false,false,false,false,false,false,false,false] rfl rfl (any_of HT_.out (by kernel_rfl)) (fun _ _ _ h => h) (Or.inl ⟨by rfl,?_⟩) ?_ ?_
         rotate_left
         ·intro w'
          go_simp
          with_reducible rfl
         rotate_left
         ·simp only [Act.put,sB_,sZ_,sS_,i64_w,i32_w]
          rfl
         refine take_ (i := 5) (N := some 38) (v := ?_) (a' := ?_) #[true,true,true,true,true,true,true,true,true,true,false,false,false,false,false,false,false,false] rfl rfl (take_ofW HT_.out HW_.out (by kernel_rfl)) (fun _ _ _ h => h) (Or.inl ⟨by rfl,?_⟩) hHeld ?_ ?_
         rotate_left
         ·rintro w' ⟨s0,s1,s2,s3⟩
          go_simp
          with_reducible rfl
         rotate_left
         ·simp only [Act.put,sB_,sZ_,sS_,i64_w,i32_w]
          rfl
         refine take_ (i := 10) (N := some 43) (v := ?_) (a' := ?_) #[true,true,true,true,true,true,true,true,true,true,true,false,false,false,false,false,false,false] rfl rfl (take_ofW HT_.out HW_.out (by kernel_rfl)) (fun _ _ _ h => h) (Or.inl ⟨by rfl,?_⟩) hHeld ?_ ?_
         rotate_left
         ·rintro w' ⟨s0,s1,s2,s3⟩
          go_simp
          with_reducible rfl
         rotate_left
         ·simp only [Act.put,sB_,sZ_,sS_,i64_w,i32_w]
          rfl
         refine join_ (σ := Nat) 2 #[true,true,true,true,true,true,true,true,true,true,true,true,true,true,true,true,false,false] (fun s_ => [(44,.tuple #[.agg #[.int .i64 t522,.int .i64 t523],.int .i64 t524]),(9,.pointer (some ⟨s_,0,none⟩)),(32,.tuple #[.agg #[.int .i64 t522,.int .i64 t523],.int .i64 t524]),(45,.agg #[.int .i64 t522,.int .i64 t523]),(46,.int .i64 t524)]) (fun s_ w' => (w'.cell? (ad520.add ((x8_1).toNat * 2)) = some (.int .i64 ((rd_T32 l1 x8_1).f0)) ∧ w'.cell? ⟨(ad520.add ((x8_1).toNat * 2)).block,(ad520.add ((x8_1).toNat * 2)).off + 1,none⟩ = some (.int .i64 ((rd_T32 l1 x8_1).f1)) ∧ w'.cell? (ad520.add ((x8_1).toNat * 2)) = some (.int .i64 ((rd_T32 l1 x8_1).f0)) ∧ w'.cell? ⟨(ad520.add ((x8_1).toNat * 2)).block,(ad520.add ((x8_1).toNat * 2)).off + 1,none⟩ = some (.int .i64 ((rd_T32 l1 x8_1).f1))) ∧ (w'.heap[gb517]? = some (.cells #[.int .i64 x518000_1,.int .i64 x518001_1] 34 (0,0))) ∧ (w'.heap[gb519]? = some (.cells #[.int .i64 x520000_1,.int .i64 x520001_1] 34 (0,0))) ∧ (w'.heap[s_]? = some (.cells #[.int .i64 0,.int .i64 0] 34 (0,0))) ∧ (w.heap.size ≤ s_) ∧ (w.heap.size ≤ s_) ∧ (gb517 ≠ s_) ∧ (s_ ≠ gb517) ∧ (gb519 ≠ s_) ∧ (s_ ≠ gb519) ∧ (Below w.heap.size w w')) ?_ ?_
         rotate_left
         ·intro hCont
          refine two_ (i := 11) (j := 15) (Ni := some 44) (Nj := some 9) #[true,true,true,true,true,true,true,true,true,true,true,true,false,false,false,false,false,false] #[true,true,true,true,true,true,true,true,true,true,true,false,false,false,false,true,false,false] rfl rfl rfl rfl (two_of HT_.out (by kernel_rfl)) (by decide) (by decide) (fun K hK => ?_) (fun K hK => ?_)
          ·skip
           refine goes_ Try.func19 (by kernel_rfl) rfl #[.slice A0 l0.length c0,.int .i64 ((rd_T32 l1 x8_1).f0),.int .i64 ((rd_T32 l1 x8_1).f1)] (by rfl) rfl rfl (by (try simp only [List.map_toArray,List.map_cons,List.map_nil]);first | done | rfl) ?_
           with_reducible refine (R_True.calls k1 _ _ l0 ((rd_T32 l1 x8_1).f0) ((rd_T32 l1 x8_1).f1) t522 t523 t524 _ ?side1 ?side2 A20.out).mono ?_
           (case side1 => exact Kd.C_below HR0.out (lb_ HB))
           (case side2 => exact HC0.out)
           rintro e w36 ⟨rfl,hb⟩
           refine ⟨_,rfl,?_⟩
           have n0_ := aM_ (kB_ (g := gb517) (o := .cells #[.int .i64 x518000_1,.int .i64 x518001_1] 34 (0,0)) (by exact lk_ BK517) hb)
           have n1_ := aM_ (kB_ (g := gb519) (o := .cells #[.int .i64 x520000_1,.int .i64 x520001_1] 34 (0,0)) (by exact lk_ BK519) hb)
           have n2_ := aM_ (bT_ (by exact lb_ HB) hb)
           clear BK517
           clear BK519
           clear HB
           have BK517 := n0_
           have BK519 := n1_
           have HB := n2_
           clear n0_ n1_ n2_
           (try clear hb)
           (try clear hb2)
           (try clear hk)
           (try clear hi)
           refine hK.out _ _ ⟨((HB.out.cell (World.block_lt_of_cell? w _ hw520_0)).trans hw520_0),((HB.out.cell (World.block_lt_of_cell? w _ hw520_1)).trans hw520_1),((HB.out.cell (World.block_lt_of_cell? w _ hw521_0)).trans hw521_0),((HB.out.cell (World.block_lt_of_cell? w _ hw521_1)).trans hw521_1)⟩ (fun hHeld => ?_)
           clear hK K
           refine norm_ (a' := ?_) ?_ ?_
           rotate_left
           ·show Act.put _ (some 44) _ = _
            simp only [Act.put,sB_,sZ_,sS_,i64_w,i32_w]
            rfl
           refine pure_ (i := 12) (N := some 32) (v := ?_) (a' := ?_) #[true,true,true,true,true,true,true,true,true,true,true,true,true,false,false,false,false,false] rfl rfl (any_of HT_.out (by kernel_rfl)) (fun _ _ _ h => h) (Or.inl ⟨by rfl,?_⟩) ?_ ?_
           rotate_left
           ·intro w'
            go_simp
            with_reducible rfl
           rotate_left
           ·simp only [Act.put,sB_,sZ_,sS_,i64_w,i32_w]
            rfl
           refine pure_ (i := 13) (N := some 45) (v := ?_) (a' := ?_) #[true,true,true,true,true,true,true,true,true,true,true,true,true,true,false,false,false,false] rfl rfl (any_of HT_.out (by kernel_rfl)) (fun _ _ _ h => h) (Or.inl ⟨by rfl,?_⟩) ?_ ?_
           rotate_left
           ·intro w'
            go_simp
            with_reducible rfl
           rotate_left
           ·simp only [Act.put,sB_,sZ_,sS_,i64_w,i32_w]
            rfl
           refine pure_ (i := 14) (N := some 46) (v := ?_) (a' := ?_) #[true,true,true,true,true,true,true,true,true,true,true,true,true,true,true,false,false,false] rfl rfl (any_of HT_.out (by kernel_rfl)) (fun _ _ _ h => h) (Or.inl ⟨by rfl,?_⟩) ?_ ?_
           rotate_left
           ·intro w'
            go_simp
            with_reducible rfl
           rotate_left
           ·simp only [Act.put,sB_,sZ_,sS_,i64_w,i32_w]
            rfl
           refine one_ (i := 15) (N := some 9) #[true,true,true,true,true,true,true,true,true,true,true,true,true,true,true,true,false,false] rfl rfl (one_of HT_.out (by kernel_rfl)) (by decide) (fun K hK => ?_)
           refine box_step ?hg (N := 9) ?hd (cs := #[.int .i64 0,.int .i64 0]) (t := 34) ?hr ?_;(case hd => rfl);(case hg => rfl);(case hr => first | (go_simp;done) | (go_simp;rfl))
           intro gb525 hg w37 hbox hb
           have n0_ := aM_ (kB_ (g := gb517) (o := .cells #[.int .i64 x518000_1,.int .i64 x518001_1] 34 (0,0)) (by exact lk_ BK517) hb)
           have n1_ := aM_ (kB_ (g := gb519) (o := .cells #[.int .i64 x520000_1,.int .i64 x520001_1] 34 (0,0)) (by exact lk_ BK519) hb)
           have n2_ := aM_ (bT_ (by exact lb_ HB) hb)
           have n3_ := aM_ (hbox)
           have n4_ := aM_ ((by rw [hg];exact (below_size (by exact lb_ HB)) : w.heap.size ≤ gb525))
           have n5_ := aM_ ((by rw [hg];exact (below_size (by exact lb_ HB)) : w.heap.size ≤ gb525))
           have n6_ := aM_ ((by rw [hg];exact Nat.ne_of_lt (blk_lt (g := gb517) (o := .cells #[.int .i64 x518000_1,.int .i64 x518001_1] 34 (0,0)) (by exact lk_ BK517)) : gb517 ≠ gb525))
           have n7_ := aM_ ((by rw [hg];exact Nat.ne_of_gt (blk_lt (g := gb517) (o := .cells #[.int .i64 x518000_1,.int .i64 x518001_1] 34 (0,0)) (by exact lk_ BK517)) : gb525 ≠ gb517))
           have n8_ := aM_ ((by rw [hg];exact Nat.ne_of_lt (blk_lt (g := gb519) (o := .cells #[.int .i64 x520000_1,.int .i64 x520001_1] 34 (0,0)) (by exact lk_ BK519)) : gb519 ≠ gb525))
           have n9_ := aM_ ((by rw [hg];exact Nat.ne_of_gt (blk_lt (g := gb519) (o := .cells #[.int .i64 x520000_1,.int .i64 x520001_1] 34 (0,0)) (by exact lk_ BK519)) : gb525 ≠ gb519))
           clear BK517
           clear BK519
           clear HB
           have BK517 := n0_
           have BK519 := n1_
           have HB := n2_
           have BK525 := n3_
           have GW525 := n4_
           have GE525 := n5_
           have := Ge_.mk n5_.out
           have NB517_525 := n6_
           have NB525_517 := n7_
           have NB519_525 := n8_
           have NB525_519 := n9_
           clear n0_ n1_ n2_ n3_ n4_ n5_ n6_ n7_ n8_ n9_
           clear hb hbox hg
           refine hK.out _ _ ⟨((HB.out.cell (World.block_lt_of_cell? w _ hw520_0)).trans hw520_0),((HB.out.cell (World.block_lt_of_cell? w _ hw520_1)).trans hw520_1),((HB.out.cell (World.block_lt_of_cell? w _ hw521_0)).trans hw521_0),((HB.out.cell (World.block_lt_of_cell? w _ hw521_1)).trans hw521_1)⟩ (fun hHeld => ?_)
           clear hK K
           refine norm_ (a' := ?_) ?_ ?_
           rotate_left
           ·show Act.put _ (some 9) _ = _
            simp only [Act.put,sB_,sZ_,sS_,i64_w,i32_w]
            rfl
           exact norm_ (by simp only [putAll,Act.put,sB_,sZ_,sS_]) (hCont (gb525) _ ⟨hHeld,(by exact lk_ BK517),(by exact lk_ BK519),(by exact lk_ BK525),GW525.out,GE525.out,NB517_525.out,NB525_517.out,NB519_525.out,NB525_519.out,(by exact lb_ HB)⟩)
          ·skip
           refine box_step ?hg (N := 9) ?hd (cs := #[.int .i64 0,.int .i64 0]) (t := 34) ?hr ?_;(case hd => rfl);(case hg => rfl);(case hr => first | (go_simp;done) | (go_simp;rfl))
           intro gb525 hg w36 hbox hb
           have n0_ := aM_ (kB_ (g := gb517) (o := .cells #[.int .i64 x518000_1,.int .i64 x518001_1] 34 (0,0)) (by exact lk_ BK517) hb)
           have n1_ := aM_ (kB_ (g := gb519) (o := .cells #[.int .i64 x520000_1,.int .i64 x520001_1] 34 (0,0)) (by exact lk_ BK519) hb)
           have n2_ := aM_ (bT_ (by exact lb_ HB) hb)
           have n3_ := aM_ (hbox)
           have n4_ := aM_ ((by rw [hg];exact (below_size (by exact lb_ HB)) : w.heap.size ≤ gb525))
           have n5_ := aM_ ((by rw [hg];exact (below_size (by exact lb_ HB)) : w.heap.size ≤ gb525))
           have n6_ := aM_ ((by rw [hg];exact Nat.ne_of_lt (blk_lt (g := gb517) (o := .cells #[.int .i64 x518000_1,.int .i64 x518001_1] 34 (0,0)) (by exact lk_ BK517)) : gb517 ≠ gb525))
           have n7_ := aM_ ((by rw [hg];exact Nat.ne_of_gt (blk_lt (g := gb517) (o := .cells #[.int .i64 x518000_1,.int .i64 x518001_1] 34 (0,0)) (by exact lk_ BK517)) : gb525 ≠ gb517))
           have n8_ := aM_ ((by rw [hg];exact Nat.ne_of_lt (blk_lt (g := gb519) (o := .cells #[.int .i64 x520000_1,.int .i64 x520001_1] 34 (0,0)) (by exact lk_ BK519)) : gb519 ≠ gb525))
           have n9_ := aM_ ((by rw [hg];exact Nat.ne_of_gt (blk_lt (g := gb519) (o := .cells #[.int .i64 x520000_1,.int .i64 x520001_1] 34 (0,0)) (by exact lk_ BK519)) : gb525 ≠ gb519))
           clear BK517
           clear BK519
           clear HB
           have BK517 := n0_
           have BK519 := n1_
           have HB := n2_
           have BK525 := n3_
           have GW525 := n4_
           have GE525 := n5_
           have := Ge_.mk n5_.out
           have NB517_525 := n6_
           have NB525_517 := n7_
           have NB519_525 := n8_
           have NB525_519 := n9_
           clear n0_ n1_ n2_ n3_ n4_ n5_ n6_ n7_ n8_ n9_
           clear hb hbox hg
           refine hK.out _ _ ⟨((HB.out.cell (World.block_lt_of_cell? w _ hw520_0)).trans hw520_0),((HB.out.cell (World.block_lt_of_cell? w _ hw520_1)).trans hw520_1),((HB.out.cell (World.block_lt_of_cell? w _ hw521_0)).trans hw521_0),((HB.out.cell (World.block_lt_of_cell? w _ hw521_1)).trans hw521_1)⟩ (fun hHeld => ?_)
           clear hK K
           refine norm_ (a' := ?_) ?_ ?_
           rotate_left
           ·show Act.put _ (some 9) _ = _
            simp only [Act.put,sB_,sZ_,sS_,i64_w,i32_w]
            rfl
           refine one_ (i := 11) (N := some 44) #[true,true,true,true,true,true,true,true,true,true,true,true,false,false,false,true,false,false] rfl rfl (one_of HT_.out (by kernel_rfl)) (by decide) (fun K hK => ?_)
           refine goes_ Try.func19 (by kernel_rfl) rfl #[.slice A0 l0.length c0,.int .i64 ((rd_T32 l1 x8_1).f0),.int .i64 ((rd_T32 l1 x8_1).f1)] (by rfl) rfl rfl (by (try simp only [List.map_toArray,List.map_cons,List.map_nil]);first | done | rfl) ?_
           with_reducible refine (R_True.calls k1 _ _ l0 ((rd_T32 l1 x8_1).f0) ((rd_T32 l1 x8_1).f1) t522 t523 t524 _ ?side1 ?side2 A20.out).mono ?_
           (case side1 => exact Kd.C_below HR0.out (lb_ HB))
           (case side2 => exact HC0.out)
           rintro e w37 ⟨rfl,hb⟩
           refine ⟨_,rfl,?_⟩
           have n0_ := aM_ (kB_ (g := gb517) (o := .cells #[.int .i64 x518000_1,.int .i64 x518001_1] 34 (0,0)) (by exact lk_ BK517) hb)
           have n1_ := aM_ (kB_ (g := gb519) (o := .cells #[.int .i64 x520000_1,.int .i64 x520001_1] 34 (0,0)) (by exact lk_ BK519) hb)
           have n2_ := aM_ (kB_ (g := gb525) (o := .cells #[.int .i64 0,.int .i64 0] 34 (0,0)) (by exact lk_ BK525) hb)
           have n3_ := aM_ (bT_ (by exact lb_ HB) hb)
           clear BK517
           clear BK519
           clear BK525
           clear HB
           have BK517 := n0_
           have BK519 := n1_
           have BK525 := n2_
           have HB := n3_
           clear n0_ n1_ n2_ n3_
           (try clear hb)
           (try clear hb2)
           (try clear hk)
           (try clear hi)
           refine hK.out _ _ ⟨((HB.out.cell (World.block_lt_of_cell? w _ hw520_0)).trans hw520_0),((HB.out.cell (World.block_lt_of_cell? w _ hw520_1)).trans hw520_1),((HB.out.cell (World.block_lt_of_cell? w _ hw521_0)).trans hw521_0),((HB.out.cell (World.block_lt_of_cell? w _ hw521_1)).trans hw521_1)⟩ (fun hHeld => ?_)
           clear hK K
           refine norm_ (a' := ?_) ?_ ?_
           rotate_left
           ·show Act.put _ (some 44) _ = _
            simp only [Act.put,sB_,sZ_,sS_,i64_w,i32_w]
            rfl
           refine pure_ (i := 12) (N := some 32) (v := ?_) (a' := ?_) #[true,true,true,true,true,true,true,true,true,true,true,true,true,false,false,true,false,false] rfl rfl (any_of HT_.out (by kernel_rfl)) (fun _ _ _ h => h) (Or.inl ⟨by rfl,?_⟩) ?_ ?_
           rotate_left
           ·intro w'
            go_simp
            with_reducible rfl
           rotate_left
           ·simp only [Act.put,sB_,sZ_,sS_,i64_w,i32_w]
            rfl
           refine pure_ (i := 13) (N := some 45) (v := ?_) (a' := ?_) #[true,true,true,true,true,true,true,true,true,true,true,true,true,true,false,true,false,false] rfl rfl (any_of HT_.out (by kernel_rfl)) (fun _ _ _ h => h) (Or.inl ⟨by rfl,?_⟩) ?_ ?_
           rotate_left
           ·intro w'
            go_simp
            with_reducible rfl
           rotate_left
           ·simp only [Act.put,sB_,sZ_,sS_,i64_w,i32_w]
            rfl
           refine pure_ (i := 14) (N := some 46) (v := ?_) (a' := ?_) #[true,true,true,true,true,true,true,true,true,true,true,true,true,true,true,true,false,false] rfl rfl (any_of HT_.out (by kernel_rfl)) (fun _ _ _ h => h) (Or.inl ⟨by rfl,?_⟩) ?_ ?_
           rotate_left
           ·intro w'
            go_simp
            with_reducible rfl
           rotate_left
           ·simp only [Act.put,sB_,sZ_,sS_,i64_w,i32_w]
            rfl
           exact norm_ (by simp only [putAll,Act.put,sB_,sZ_,sS_]) (hCont (gb525) _ ⟨hHeld,(by exact lk_ BK517),(by exact lk_ BK519),(by exact lk_ BK525),GW525.out,GE525.out,NB517_525.out,NB525_517.out,NB519_525.out,NB525_519.out,(by exact lb_ HB)⟩)
         rintro gb525 w38 ⟨hS_,h0_,h1_,h2_,h3_,h4_,h5_,h6_,h7_,h8_,h9_⟩
         have n0_ : Aside0 (w38.heap[gb517]? = some (.cells #[.int .i64 x518000_1,.int .i64 x518001_1] 34 (0,0))) := ⟨h0_⟩
         have n1_ : Aside0 (w38.heap[gb519]? = some (.cells #[.int .i64 x520000_1,.int .i64 x520001_1] 34 (0,0))) := ⟨h1_⟩
         have n2_ : Aside0 (w38.heap[gb525]? = some (.cells #[.int .i64 0,.int .i64 0] 34 (0,0))) := ⟨h2_⟩
         have n3_ : Aside0 (w.heap.size ≤ gb525) := ⟨h3_⟩
         have n4_ : Aside0 (w.heap.size ≤ gb525) := ⟨h4_⟩
         have n5_ : Aside0 (gb517 ≠ gb525) := ⟨h5_⟩
         have n6_ : Aside0 (gb525 ≠ gb517) := ⟨h6_⟩
         have n7_ : Aside0 (gb519 ≠ gb525) := ⟨h7_⟩
         have n8_ : Aside0 (gb525 ≠ gb519) := ⟨h8_⟩
         have n9_ : Aside0 (Below w.heap.size w w38) := ⟨h9_⟩
         clear BK517
         clear BK519
         clear HB
         clear h0_ h1_ h2_ h3_ h4_ h5_ h6_ h7_ h8_ h9_
         have BK517 := n0_
         have BK519 := n1_
         have BK525 := n2_
         have GW525 := n3_
         have GE525 := n4_
         have := Ge_.mk n4_.out
         have NB517_525 := n5_
         have NB525_517 := n6_
         have NB519_525 := n7_
         have NB525_519 := n8_
         have HB := n9_
         clear n0_ n1_ n2_ n3_ n4_ n5_ n6_ n7_ n8_ n9_
         have hHeld : w38.cell? (ad520.add ((x8_1).toNat * 2)) = some (.int .i64 ((rd_T32 l1 x8_1).f0)) ∧ w38.cell? ⟨(ad520.add ((x8_1).toNat * 2)).block,(ad520.add ((x8_1).toNat * 2)).off + 1,none⟩ = some (.int .i64 ((rd_T32 l1 x8_1).f1)) ∧ w38.cell? (ad520.add ((x8_1).toNat * 2)) = some (.int .i64 ((rd_T32 l1 x8_1).f0)) ∧ w38.cell? ⟨(ad520.add ((x8_1).toNat * 2)).block,(ad520.add ((x8_1).toNat * 2)).off + 1,none⟩ = some (.int .i64 ((rd_T32 l1 x8_1).f1)) := hS_
         refine norm_ (a' := ?_) ?_ ?_
         rotate_left
         ·simp only [putAll,Act.put,sB_,sZ_,sS_]
          rfl
         refine one_ (i := 16) (N := none) #[true,true,true,true,true,true,true,true,true,true,true,true,true,true,true,true,true,false] rfl rfl (one_of HT_.out (by kernel_rfl)) (by decide) (fun K hK => ?_)
         have hs39 : w38.cell? ⟨gb525,0,none⟩ = some (.int .i64 0) := (blk_cell BK525.out 0).trans rfl
         have hfs39 := blk_frozen BK525.out 0
         have hns39_0 := NB517_525.out
         have hns39_1 := NB519_525.out
         have hms39_0 := NB525_517.out
         have hms39_1 := NB525_519.out
         have hs40 : w38.cell? ⟨gb525,1,none⟩ = some (.int .i64 0) := (blk_cell BK525.out 1).trans rfl
         have hfs40 := blk_frozen BK525.out 1
         have hns40_0 := NB517_525.out
         have hns40_1 := NB519_525.out
         have hms40_0 := NB525_517.out
         have hms40_1 := NB525_519.out
         refine skip_ (w1 := ?_) (by rfl) rfl ?_ ?_
         rotate_left
         ·go_simp
          rfl
         refine hK.out _ _ ⟨((cell_far (p := ⟨gb525,_,none⟩) (by first | exact Nat.ne_of_lt (Nat.lt_of_lt_of_le (by have := World.block_lt_of_cell? _ _ hw520_0;first | rwa [add_block] at this | exact this) GW525.out) | (rw [add_block];exact Nat.ne_of_lt (Nat.lt_of_lt_of_le (by have := World.block_lt_of_cell? _ _ hw520_0;first | rwa [add_block] at this | exact this) GW525.out)) | (show (Addr.add _ _).block ≠ _;rw [add_block];exact Nat.ne_of_lt (Nat.lt_of_lt_of_le (by have := World.block_lt_of_cell? _ _ hw520_0;first | rwa [add_block] at this | exact this) GW525.out)) | (dsimp only;exact Nat.ne_of_lt (Nat.lt_of_lt_of_le (by have := World.block_lt_of_cell? _ _ hw520_0;first | rwa [add_block] at this | exact this) GW525.out))) _).trans (((cell_far (p := ⟨gb525,_,none⟩) (by first | exact Nat.ne_of_lt (Nat.lt_of_lt_of_le (by have := World.block_lt_of_cell? _ _ hw520_0;first | rwa [add_block] at this | exact this) GW525.out) | (rw [add_block];exact Nat.ne_of_lt (Nat.lt_of_lt_of_le (by have := World.block_lt_of_cell? _ _ hw520_0;first | rwa [add_block] at this | exact this) GW525.out)) | (show (Addr.add _ _).block ≠ _;rw [add_block];exact Nat.ne_of_lt (Nat.lt_of_lt_of_le (by have := World.block_lt_of_cell? _ _ hw520_0;first | rwa [add_block] at this | exact this) GW525.out)) | (dsimp only;exact Nat.ne_of_lt (Nat.lt_of_lt_of_le (by have := World.block_lt_of_cell? _ _ hw520_0;first | rwa [add_block] at this | exact this) GW525.out))) _).trans (hHeld.1)))),((cell_far (p := ⟨gb525,_,none⟩) (by first | exact Nat.ne_of_lt (Nat.lt_of_lt_of_le (by have := World.block_lt_of_cell? _ _ hw520_1;first | rwa [add_block] at this | exact this) GW525.out) | (rw [add_block];exact Nat.ne_of_lt (Nat.lt_of_lt_of_le (by have := World.block_lt_of_cell? _ _ hw520_1;first | rwa [add_block] at this | exact this) GW525.out)) | (show (Addr.add _ _).block ≠ _;rw [add_block];exact Nat.ne_of_lt (Nat.lt_of_lt_of_le (by have := World.block_lt_of_cell? _ _ hw520_1;first | rwa [add_block] at this | exact this) GW525.out)) | (dsimp only;exact Nat.ne_of_lt (Nat.lt_of_lt_of_le (by have := World.block_lt_of_cell? _ _ hw520_1;first | rwa [add_block] at this | exact this) GW525.out))) _).trans (((cell_far (p := ⟨gb525,_,none⟩) (by first | exact Nat.ne_of_lt (Nat.lt_of_lt_of_le (by have := World.block_lt_of_cell? _ _ hw520_1;first | rwa [add_block] at this | exact this) GW525.out) | (rw [add_block];exact Nat.ne_of_lt (Nat.lt_of_lt_of_le (by have := World.block_lt_of_cell? _ _ hw520_1;first | rwa [add_block] at this | exact this) GW525.out)) | (show (Addr.add _ _).block ≠ _;rw [add_block];exact Nat.ne_of_lt (Nat.lt_of_lt_of_le (by have := World.block_lt_of_cell? _ _ hw520_1;first | rwa [add_block] at this | exact this) GW525.out)) | (dsimp only;exact Nat.ne_of_lt (Nat.lt_of_lt_of_le (by have := World.block_lt_of_cell? _ _ hw520_1;first | rwa [add_block] at this | exact this) GW525.out))) _).trans (hHeld.2.1)))),((cell_far (p := ⟨gb525,_,none⟩) (by first | exact Nat.ne_of_lt (Nat.lt_of_lt_of_le (by have := World.block_lt_of_cell? _ _ hw521_0;first | rwa [add_block] at this | exact this) GW525.out) | (rw [add_block];exact Nat.ne_of_lt (Nat.lt_of_lt_of_le (by have := World.block_lt_of_cell? _ _ hw521_0;first | rwa [add_block] at this | exact this) GW525.out)) | (show (Addr.add _ _).block ≠ _;rw [add_block];exact Nat.ne_of_lt (Nat.lt_of_lt_of_le (by have := World.block_lt_of_cell? _ _ hw521_0;first | rwa [add_block] at this | exact this) GW525.out)) | (dsimp only;exact Nat.ne_of_lt (Nat.lt_of_lt_of_le (by have := World.block_lt_of_cell? _ _ hw521_0;first | rwa [add_block] at this | exact this) GW525.out))) _).trans (((cell_far (p := ⟨gb525,_,none⟩) (by first | exact Nat.ne_of_lt (Nat.lt_of_lt_of_le (by have := World.block_lt_of_cell? _ _ hw521_0;first | rwa [add_block] at this | exact this) GW525.out) | (rw [add_block];exact Nat.ne_of_lt (Nat.lt_of_lt_of_le (by have := World.block_lt_of_cell? _ _ hw521_0;first | rwa [add_block] at this | exact this) GW525.out)) | (show (Addr.add _ _).block ≠ _;rw [add_block];exact Nat.ne_of_lt (Nat.lt_of_lt_of_le (by have := World.block_lt_of_cell? _ _ hw521_0;first | rwa [add_block] at this | exact this) GW525.out)) | (dsimp only;exact Nat.ne_of_lt (Nat.lt_of_lt_of_le (by have := World.block_lt_of_cell? _ _ hw521_0;first | rwa [add_block] at this | exact this) GW525.out))) _).trans (hHeld.2.2.1)))),((cell_far (p := ⟨gb525,_,none⟩) (by first | exact Nat.ne_of_lt (Nat.lt_of_lt_of_le (by have := World.block_lt_of_cell? _ _ hw521_1;first | rwa [add_block] at this | exact this) GW525.out) | (rw [add_block];exact Nat.ne_of_lt (Nat.lt_of_lt_of_le (by have := World.block_lt_of_cell? _ _ hw521_1;first | rwa [add_block] at this | exact this) GW525.out)) | (show (Addr.add _ _).block ≠ _;rw [add_block];exact Nat.ne_of_lt (Nat.lt_of_lt_of_le (by have := World.block_lt_of_cell? _ _ hw521_1;first | rwa [add_block] at this | exact this) GW525.out)) | (dsimp only;exact Nat.ne_of_lt (Nat.lt_of_lt_of_le (by have := World.block_lt_of_cell? _ _ hw521_1;first | rwa [add_block] at this | exact this) GW525.out))) _).trans (((cell_far (p := ⟨gb525,_,none⟩) (by first | exact Nat.ne_of_lt (Nat.lt_of_lt_of_le (by have := World.block_lt_of_cell? _ _ hw521_1;first | rwa [add_block] at this | exact this) GW525.out) | (rw [add_block];exact Nat.ne_of_lt (Nat.lt_of_lt_of_le (by have := World.block_lt_of_cell? _ _ hw521_1;first | rwa [add_block] at this | exact this) GW525.out)) | (show (Addr.add _ _).block ≠ _;rw [add_block];exact Nat.ne_of_lt (Nat.lt_of_lt_of_le (by have := World.block_lt_of_cell? _ _ hw521_1;first | rwa [add_block] at this | exact this) GW525.out)) | (dsimp only;exact Nat.ne_of_lt (Nat.lt_of_lt_of_le (by have := World.block_lt_of_cell? _ _ hw521_1;first | rwa [add_block] at this | exact this) GW525.out))) _).trans (hHeld.2.2.2))))⟩ (fun hHeld => ?_)
         clear hK K
         refine pure_ (i := 17) (N := some 10) (v := ?_) (a' := ?_) #[true,true,true,true,true,true,true,true,true,true,true,true,true,true,true,true,true,true] rfl rfl (any_of HT_.out (by kernel_rfl)) (fun _ _ _ h => h) (Or.inl ⟨by rfl,?_⟩) ?_ ?_
         rotate_left
         ·intro w'
          go_simp
          with_reducible rfl
         rotate_left
         ·simp only [Act.put,sB_,sZ_,sS_,i64_w,i32_w]
          rfl
         refine done_ (done_of HT_.out (by kernel_rfl)) ?_
         have hnb41 := NB517_519.out
         have hnc41 := NB519_517.out
         have hnb42 := NB517_525.out
         have hnc42 := NB525_517.out
         have hcz43_0 : w38.cell? ⟨gb517,0,none⟩ = some (.int .i64 x518000_1) := (blk_cell BK517.out 0).trans rfl
         have hcz43_1 : w38.cell? ⟨gb517,1,none⟩ = some (.int .i64 x518001_1) := (blk_cell BK517.out 1).trans rfl
         have hfz43_0 := blk_frozen BK517.out 0
         have hfz43_1 := blk_frozen BK517.out 1
         try go_wp2
         refine bodyPost_ret (results_ct rfl _ _ gb517 34 #[.int .i64 0,.int .i64 0] (0,0) _ rfl (by (with_reducible repeat (first | refine kN_ ?_ _ | refine kD_ ?_ | refine kA_ ?_ _));refine blk_put (cs := #[.int .i64 0,.int .i64 x518001_1]) ?_ 1 _ rfl;(with_reducible repeat (first | refine kN_ ?_ _ | refine kD_ ?_ | refine kA_ ?_ _));refine blk_put (cs := #[.int .i64 x518000_1,.int .i64 x518001_1]) ?_ 0 _ rfl;(with_reducible repeat (first | refine kN_ ?_ _ | refine kD_ ?_ | refine kA_ ?_ _));refine blk_far ?_ NB517_525.out _;(with_reducible repeat (first | refine kN_ ?_ _ | refine kD_ ?_ | refine kA_ ?_ _));refine blk_far ?_ NB517_525.out _;exact lk_ BK517) Try.underlying34 rfl (by kernel_rfl)) rfl ?_
         exact ⟨by first | rfl | (simp [*] <;> rfl),by exact lb_ HB⟩
       ·rw [if_neg c19] at H
        exact absurd H (by simp)
      ·rw [if_neg c18] at H
       have c18b0 : decide (x8_1 < (l1.length : Int)) = false := decide_eq_false c18
       clear c18
       by_cases c44 : x520000_1 > x520001_1
       ·rw [if_pos c44] at H
        have c44b0 : decide (x520001_1 < x520000_1) = true := decide_eq_true c44
        clear c44
        simp only [Option.some.injEq,Prod.mk.injEq] at H
        obtain ⟨rfl,rfl,rfl⟩ := H
        have hnb45 := NB519_517.out
        have hnc45 := NB517_519.out
        have hcz46_0 : wr.cell? ⟨gb519,0,none⟩ = some (.int .i64 x520000_1) := (blk_cell BK519.out 0).trans rfl
        have hcz46_1 : wr.cell? ⟨gb519,1,none⟩ = some (.int .i64 x520001_1) := (blk_cell BK519.out 1).trans rfl
        have hfz46_0 := blk_frozen BK519.out 0
        have hfz46_1 := blk_frozen BK519.out 1
        have hcz47_0 : wr.cell? ⟨gb517,0,none⟩ = some (.int .i64 x518000_1) := (blk_cell BK517.out 0).trans rfl
        have hcz47_1 : wr.cell? ⟨gb517,1,none⟩ = some (.int .i64 x518001_1) := (blk_cell BK517.out 1).trans rfl
        have hfz47_0 := blk_frozen BK517.out 0
        have hfz47_1 := blk_frozen BK517.out 1
        go_wp2
        refine bodyPost_ret (results_ct rfl _ _ gb517 34 #[.int .i64 0,.int .i64 0] (0,0) _ rfl (by (with_reducible repeat (first | refine kN_ ?_ _ | refine kD_ ?_ | refine kA_ ?_ _));refine blk_put (cs := #[.int .i64 0,.int .i64 x518001_1]) ?_ 1 _ rfl;(with_reducible repeat (first | refine kN_ ?_ _ | refine kD_ ?_ | refine kA_ ?_ _));refine blk_put (cs := #[.int .i64 x518000_1,.int .i64 x518001_1]) ?_ 0 _ rfl;exact lk_ BK517) Try.underlying34 rfl (by kernel_rfl)) rfl ?_
        exact ⟨by first | rfl | (simp [*] <;> rfl),by exact lb_ HB⟩
       ·rw [if_neg c44] at H
        have c44b0 : decide (x520001_1 < x520000_1) = false := decide_eq_false c44
        clear c44
        simp only [Option.some.injEq,Prod.mk.injEq] at H
        obtain ⟨rfl,rfl,rfl⟩ := H
        have hnb48 := NB519_517.out
        have hnc48 := NB517_519.out
        have hcz49_0 : wr.cell? ⟨gb519,0,none⟩ = some (.int .i64 x520000_1) := (blk_cell BK519.out 0).trans rfl
        have hcz49_1 : wr.cell? ⟨gb519,1,none⟩ = some (.int .i64 x520001_1) := (blk_cell BK519.out 1).trans rfl
        have hfz49_0 := blk_frozen BK519.out 0
        have hfz49_1 := blk_frozen BK519.out 1
        have hcz50_0 : wr.cell? ⟨gb517,0,none⟩ = some (.int .i64 x518000_1) := (blk_cell BK517.out 0).trans rfl
        have hcz50_1 : wr.cell? ⟨gb517,1,none⟩ = some (.int .i64 x518001_1) := (blk_cell BK517.out 1).trans rfl
        have hfz50_0 := blk_frozen BK517.out 0
        have hfz50_1 := blk_frozen BK517.out 1
        go_wp2
        refine bodyPost_ret (results_ct rfl _ _ gb517 34 #[.int .i64 x520000_1,.int .i64 x520001_1] (0,0) _ rfl (by (with_reducible repeat (first | refine kN_ ?_ _ | refine kD_ ?_ | refine kA_ ?_ _));refine blk_put (cs := #[.int .i64 x520000_1,.int .i64 x518001_1]) ?_ 1 _ rfl;(with_reducible repeat (first | refine kN_ ?_ _ | refine kD_ ?_ | refine kA_ ?_ _));refine blk_put (cs := #[.int .i64 x518000_1,.int .i64 x518001_1]) ?_ 0 _ rfl;exact lk_ BK517) Try.underlying34 rfl (by kernel_rfl)) rfl ?_
        exact ⟨by first | rfl | (simp [*] <;> rfl),by exact lb_ HB⟩
 ·rw [if_neg c4] at H
  have c4b0 : (t518 == 0) = false := beq_eq_false_iff_ne.mpr c4
  have c4b1 : (t518 != 0) = true := bne_iff_ne.mpr c4
  simp only [Option.some.injEq,Prod.mk.injEq] at H
  obtain ⟨rfl,rfl,rfl⟩ := H
  go_enter Try.func85,Try.ntmps85
  go_wp2_with (first | ((with_reducible refine gate_dst (N := 4) rfl ?_);refine box_event ?hg (N := 4) ?hd (cs := #[.int .i64 0,.int .i64 0]) (t := 34) ?hr ?_;(case hd => rfl);(case hg => rfl);(case hr => first | (go_simp;done) | (go_simp;rfl));intro gb517 hg w51 hbox hb;have n0_ := aM_ (bT_ (by exact lb_ HB) hb);have n1_ := aM_ (hbox);have n2_ := aM_ ((by rw [hg];exact (below_size (by exact lb_ HB)) : w.heap.size ≤ gb517));have n3_ := aM_ ((by rw [hg];exact (below_size (by exact lb_ HB)) : w.heap.size ≤ gb517));clear HB;have HB := n0_;have BK517 := n1_;have GW517 := n2_;have GE517 := n3_;have := Ge_.mk n3_.out;clear n0_ n1_ n2_ n3_;clear hb hbox hg) | ((with_reducible refine gate_callee (f := 48) rfl ?_);refine goesL_ (some 12) rfl rfl Try.func48 (by kernel_rfl) rfl #[.slice A0 l0.length c0] rfl (by (try simp only [List.map_toArray,List.map_cons,List.map_nil]);first | done | rfl) ?_;(with_reducible refine (R_Check.calls k _ _ l0 t518 _ ?side1 ?side2 A3.out).mono ?_);(case side1 => exact Kd.C_below HR0.out (lb_ HB));(case side2 => exact HC0.out);rintro e w52 ⟨rfl,hb⟩;refine ⟨_,rfl,?_⟩;have n0_ := aM_ (kB_ (g := gb517) (o := .cells #[.int .i64 0,.int .i64 0] 34 (0,0)) (by exact lk_ BK517) hb);have n1_ := aM_ (bT_ (by exact lb_ HB) hb);clear BK517;clear HB;have BK517 := n0_;have HB := n1_;clear n0_ n1_;(try clear hb);(try clear hb2);(try clear hk);(try clear hi);have hcz53_0 : w52.cell? ⟨gb517,0,none⟩ = some (.int .i64 0) := (blk_cell BK517.out 0).trans rfl;have hcz53_1 : w52.cell? ⟨gb517,1,none⟩ = some (.int .i64 0) := (blk_cell BK517.out 1).trans rfl;have hfz53_0 := blk_frozen BK517.out 0;have hfz53_1 := blk_frozen BK517.out 1))
  refine bodyPost_ret (results_ct rfl _ _ gb517 34 #[.int .i64 0,.int .i64 0] (0,0) _ rfl (by (with_reducible repeat (first | refine kN_ ?_ _ | refine kD_ ?_ | refine kA_ ?_ _));refine blk_put (cs := #[.int .i64 0,.int .i64 0]) ?_ 1 _ rfl;(with_reducible repeat (first | refine kN_ ?_ _ | refine kD_ ?_ | refine kA_ ?_ _));refine blk_put (cs := #[.int .i64 0,.int .i64 0]) ?_ 0 _ rfl;exact lk_ BK517) Try.underlying34 rfl (by kernel_rfl)) rfl ?_
  exact ⟨by first | rfl | (simp [*] <;> rfl),by exact lb_ HB⟩

end Go.Proofs.Ytdbpobadeibjaab.GS
