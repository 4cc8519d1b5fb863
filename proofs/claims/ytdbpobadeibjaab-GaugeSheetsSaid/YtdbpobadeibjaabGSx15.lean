-- written for this claim by a program of this session (wip/gp), over the kit's own printer; Lean checks it
import Derived.Test.YtdbpobadeibjaabGSx0
import Derived.Test.YtdbpobadeibjaabGSx11
import Derived.Test.YtdbpobadeibjaabGSx14
namespace Go.Proofs.Ytdbpobadeibjaab.GS
open Go.RowKit Go.Proofs.YtdbpobadeibjaabW.PrintWords Go.Proofs.YtdbpobadeibjaabW.PrintLast Go.Proofs.YtdbpobadeibjaabW.PrintMore
attribute [local go_sem] max2_int min2_int max_two min_two max_three min_three max_four min_four
set_option linter.unusedVariables false
set_option linter.unusedSimpArgs false

/-! ### gauge_Together: function 15 -/
def gauge_Together.l0 : Nat → List (S49) → List (S32) → Int → Int → Int → Int → Option (Int × Int × Int)
 | 0,_,_,_,_,_,_ => none
 | k + 1,x0,x29,x30,x31,x191000,x191001 => if x31 < x30 then (if 0 ≤ x31 then (if x31 < (x29.length : Int) then ((gauge_True.f x0 ((rd_T32 x29 x31).f0) ((rd_T32 x29 x31).f1)).bind fun bt193 => (if bt193.2.2 = 0 then (gauge_Together.l0 k x0 x29 x30 (wrap64 (x31 + 1)) (mx x191000 bt193.1) (mn x191001 bt193.2.1)) else (some (0,0,bt193.2.2)))) else (none)) else (none)) else (if x191000 > x191001 then (some (0,0,12)) else (some (x191000,x191001,0)))
def gauge_Together.f (k : Nat) (l0 : List (S49)) (l1 : List (S32)) : Option (Int × Int × Int) := (gauge_Check.f l0).bind fun t189 => (if t189 = 0 then (if (l1.length : Int) = 0 then (some (0,0,6)) else (if (l1.length : Int) > 10 then (some (0,0,8)) else (gauge_Together.l0 k l0 l1 (l1.length : Int) 0 (-1000000000) 1000000000))) else (some (0,0,t189)))
set_option maxHeartbeats 8000000 in
set_option maxRecDepth 100000 in
theorem gauge_Together.calls (k : Nat) (A0 : Option Addr) (c0 : Nat) (l0 : List (S49)) (A1 : Option Addr) (c1 : Nat) (l1 : List (S32)) (r1 : Int) (r2 : Int) (r3 : Int) (w : World) (hr0 : Kd.C k49 w A0 l0.length l0) (hc0 : l0.length ≤ c0) (hr1 : Kd.C k32 w A1 l1.length l1) (hc1 : l1.length ≤ c1) (h : gauge_Together.f k l0 l1 = some (r1,r2,r3)) :
  Calls Try.prog 15 #[.slice A0 l0.length c0,.slice A1 l1.length c1] w fun e w' => e = .returned (.tuple #[.agg #[.int .i64 r1,.int .i64 r2],.int .i64 r3]) ∧ Below w.heap.size w w' := by
 have hu34 := Try.underlying34
 have hu32 := Try.underlying32
 have HR0 := aM_ hr0
 have HC0 := aM_ hc0
 clear hr0 hc0
 have HR1 := aM_ hr1
 have HC1 := aM_ hc1
 clear hr1 hc1
 have HB := aM_ (Below.refl w.heap.size w)
 have H : ((gauge_Check.f l0).bind fun t189 => (if t189 = 0 then (if (l1.length : Int) = 0 then (some (0,0,6)) else (if (l1.length : Int) > 10 then (some (0,0,8)) else (gauge_Together.l0 k l0 l1 (l1.length : Int) 0 (-1000000000) 1000000000))) else (some (0,0,t189)))) = some (r1,r2,r3) := h
 clear h
 replace H := oB_ H
 obtain ⟨t189,A30,H⟩ := H
 replace H : (if t189 = 0 then (if (l1.length : Int) = 0 then (some (0,0,6)) else (if (l1.length : Int) > 10 then (some (0,0,8)) else (gauge_Together.l0 k l0 l1 (l1.length : Int) 0 (-1000000000) 1000000000))) else (some (0,0,t189))) = some (r1,r2,r3) := H
 have A3 := aM_ A30
 clear A30
 by_cases c4 : t189 = 0
 ·rw [if_pos c4] at H
  have c4b0 : (t189 == 0) = true := beq_iff_eq.mpr c4
  have c4b1 : (t189 != 0) = false := bne_eq_false_iff_eq.mpr c4
  clear c4
  by_cases c5 : (l1.length : Int) = 0
  ·rw [if_pos c5] at H
   have c5b0 : ((l1.length : Int) == 0) = true := beq_iff_eq.mpr c5
   have c5b1 : ((l1.length : Int) != 0) = false := bne_eq_false_iff_eq.mpr c5
   clear c5
   simp only [Option.some.injEq,Prod.mk.injEq] at H
   obtain ⟨rfl,rfl,rfl⟩ := H
   go_enter Try.func15,Try.ntmps15
   go_wp2_with (first | ((with_reducible refine gate_dst (N := 4) rfl ?_);refine box_event ?hg (N := 4) ?hd (cs := #[.int .i64 0,.int .i64 0]) (t := 34) ?hr ?_;(case hd => rfl);(case hg => rfl);(case hr => first | (go_simp;done) | (go_simp;rfl));intro gb188 hg w6 hbox hb;have n0_ := aM_ (bT_ (by exact lb_ HB) hb);have n1_ := aM_ (hbox);have n2_ := aM_ ((by rw [hg];exact (below_size (by exact lb_ HB)) : w.heap.size ≤ gb188));have n3_ := aM_ ((by rw [hg];exact (below_size (by exact lb_ HB)) : w.heap.size ≤ gb188));clear HB;have HB := n0_;have BK188 := n1_;have GW188 := n2_;have GE188 := n3_;have := Ge_.mk n3_.out;clear n0_ n1_ n2_ n3_;clear hb hbox hg) | ((with_reducible refine gate_callee (f := 31) rfl ?_);refine goesL_ (some 13) rfl rfl Try.func31 (by kernel_rfl) rfl #[.slice A0 l0.length c0] rfl (by (try simp only [List.map_toArray,List.map_cons,List.map_nil]);first | done | rfl) ?_;(with_reducible refine (gauge_Check.calls _ _ l0 t189 _ ?side1 ?side2 A3.out).mono ?_);(case side1 => exact Kd.C_below HR0.out (lb_ HB));(case side2 => exact HC0.out);rintro e w7 ⟨rfl,hb⟩;refine ⟨_,rfl,?_⟩;have n0_ := aM_ (kB_ (g := gb188) (o := .cells #[.int .i64 0,.int .i64 0] 34 (0,0)) (by exact lk_ BK188) hb);have n1_ := aM_ (bT_ (by exact lb_ HB) hb);clear BK188;clear HB;have BK188 := n0_;have HB := n1_;clear n0_ n1_;(try clear hb);(try clear hb2);(try clear hk);(try clear hi);have hcz8_0 : w7.cell? ⟨gb188,0,none⟩ = some (.int .i64 0) := (blk_cell BK188.out 0).trans rfl;have hcz8_1 : w7.cell? ⟨gb188,1,none⟩ = some (.int .i64 0) := (blk_cell BK188.out 1).trans rfl;have hfz8_0 := blk_frozen BK188.out 0;have hfz8_1 := blk_frozen BK188.out 1))
   refine bodyPost_ret (results_ct rfl _ _ gb188 34 #[.int .i64 0,.int .i64 0] (0,0) _ rfl (by (with_reducible repeat (first | refine kN_ ?_ _ | refine kD_ ?_ | refine kA_ ?_ _));refine blk_put (cs := #[.int .i64 0,.int .i64 0]) ?_ 1 _ rfl;(with_reducible repeat (first | refine kN_ ?_ _ | refine kD_ ?_ | refine kA_ ?_ _));refine blk_put (cs := #[.int .i64 0,.int .i64 0]) ?_ 0 _ rfl;exact lk_ BK188) Try.underlying34 rfl (by kernel_rfl)) rfl ?_
   exact ⟨by first | rfl | (simp [*] <;> rfl),by exact lb_ HB⟩
  ·rw [if_neg c5] at H
   have c5b0 : ((l1.length : Int) == 0) = false := beq_eq_false_iff_ne.mpr c5
   have c5b1 : ((l1.length : Int) != 0) = true := bne_iff_ne.mpr c5
   have c5b2 : ¬ (l1 = []) := fun h_ => c5 (by rw [h_];rfl)
   by_cases c9 : (l1.length : Int) > 10
   ·rw [if_pos c9] at H
    have c9b0 : decide (10 < (l1.length : Int)) = true := decide_eq_true c9
    have c9b1 : decide (10 < l1.length) = true := decide_eq_true (by omega)
    clear c9
    simp only [Option.some.injEq,Prod.mk.injEq] at H
    obtain ⟨rfl,rfl,rfl⟩ := H
    go_enter Try.func15,Try.ntmps15
    go_wp2_with (first | ((with_reducible refine gate_dst (N := 4) rfl ?_);refine box_event ?hg (N := 4) ?hd (cs := #[.int .i64 0,.int .i64 0]) (t := 34) ?hr ?_;(case hd => rfl);(case hg => rfl);(case hr => first | (go_simp;done) | (go_simp;rfl));intro gb188 hg w10 hbox hb;have n0_ := aM_ (bT_ (by exact lb_ HB) hb);have n1_ := aM_ (hbox);have n2_ := aM_ ((by rw [hg];exact (below_size (by exact lb_ HB)) : w.heap.size ≤ gb188));have n3_ := aM_ ((by rw [hg];exact (below_size (by exact lb_ HB)) : w.heap.size ≤ gb188));clear HB;have HB := n0_;have BK188 := n1_;have GW188 := n2_;have GE188 := n3_;have := Ge_.mk n3_.out;clear n0_ n1_ n2_ n3_;clear hb hbox hg) | ((with_reducible refine gate_callee (f := 31) rfl ?_);refine goesL_ (some 13) rfl rfl Try.func31 (by kernel_rfl) rfl #[.slice A0 l0.length c0] rfl (by (try simp only [List.map_toArray,List.map_cons,List.map_nil]);first | done | rfl) ?_;(with_reducible refine (gauge_Check.calls _ _ l0 t189 _ ?side1 ?side2 A3.out).mono ?_);(case side1 => exact Kd.C_below HR0.out (lb_ HB));(case side2 => exact HC0.out);rintro e w11 ⟨rfl,hb⟩;refine ⟨_,rfl,?_⟩;have n0_ := aM_ (kB_ (g := gb188) (o := .cells #[.int .i64 0,.int .i64 0] 34 (0,0)) (by exact lk_ BK188) hb);have n1_ := aM_ (bT_ (by exact lb_ HB) hb);clear BK188;clear HB;have BK188 := n0_;have HB := n1_;clear n0_ n1_;(try clear hb);(try clear hb2);(try clear hk);(try clear hi);have hcz12_0 : w11.cell? ⟨gb188,0,none⟩ = some (.int .i64 0) := (blk_cell BK188.out 0).trans rfl;have hcz12_1 : w11.cell? ⟨gb188,1,none⟩ = some (.int .i64 0) := (blk_cell BK188.out 1).trans rfl;have hfz12_0 := blk_frozen BK188.out 0;have hfz12_1 := blk_frozen BK188.out 1))
    refine bodyPost_ret (results_ct rfl _ _ gb188 34 #[.int .i64 0,.int .i64 0] (0,0) _ rfl (by (with_reducible repeat (first | refine kN_ ?_ _ | refine kD_ ?_ | refine kA_ ?_ _));refine blk_put (cs := #[.int .i64 0,.int .i64 0]) ?_ 1 _ rfl;(with_reducible repeat (first | refine kN_ ?_ _ | refine kD_ ?_ | refine kA_ ?_ _));refine blk_put (cs := #[.int .i64 0,.int .i64 0]) ?_ 0 _ rfl;exact lk_ BK188) Try.underlying34 rfl (by kernel_rfl)) rfl ?_
    exact ⟨by first | rfl | (simp [*] <;> rfl),by exact lb_ HB⟩
   ·rw [if_neg c9] at H
    have c9b0 : decide (10 < (l1.length : Int)) = false := decide_eq_false c9
    have c9b1 : decide (10 < l1.length) = false := decide_eq_false (by omega)
    clear c9
    have H' := aM_ H
    clear H
    go_enter Try.func15,Try.ntmps15
    go_wp2_with (first | ((with_reducible refine gate_dst (N := 4) rfl ?_);refine box_event ?hg (N := 4) ?hd (cs := #[.int .i64 0,.int .i64 0]) (t := 34) ?hr ?_;(case hd => rfl);(case hg => rfl);(case hr => first | (go_simp;done) | (go_simp;rfl));intro gb188 hg w13 hbox hb;have n0_ := aM_ (bT_ (by exact lb_ HB) hb);have n1_ := aM_ (hbox);have n2_ := aM_ ((by rw [hg];exact (below_size (by exact lb_ HB)) : w.heap.size ≤ gb188));have n3_ := aM_ ((by rw [hg];exact (below_size (by exact lb_ HB)) : w.heap.size ≤ gb188));clear HB;have HB := n0_;have BK188 := n1_;have GW188 := n2_;have GE188 := n3_;have := Ge_.mk n3_.out;clear n0_ n1_ n2_ n3_;clear hb hbox hg) | ((with_reducible refine gate_callee (f := 31) rfl ?_);refine goesL_ (some 13) rfl rfl Try.func31 (by kernel_rfl) rfl #[.slice A0 l0.length c0] rfl (by (try simp only [List.map_toArray,List.map_cons,List.map_nil]);first | done | rfl) ?_;(with_reducible refine (gauge_Check.calls _ _ l0 t189 _ ?side1 ?side2 A3.out).mono ?_);(case side1 => exact Kd.C_below HR0.out (lb_ HB));(case side2 => exact HC0.out);rintro e w14 ⟨rfl,hb⟩;refine ⟨_,rfl,?_⟩;have n0_ := aM_ (kB_ (g := gb188) (o := .cells #[.int .i64 0,.int .i64 0] 34 (0,0)) (by exact lk_ BK188) hb);have n1_ := aM_ (bT_ (by exact lb_ HB) hb);clear BK188;clear HB;have BK188 := n0_;have HB := n1_;clear n0_ n1_;(try clear hb);(try clear hb2);(try clear hk);(try clear hi)) | ((with_reducible refine gate_dst (N := 7) rfl ?_);refine box_event ?hg (N := 7) ?hd (cs := #[.int .i64 0,.int .i64 0]) (t := 34) ?hr ?_;(case hd => rfl);(case hg => rfl);(case hr => first | (go_simp;done) | (go_simp;rfl));intro gb190 hg w15 hbox hb;have n0_ := aM_ (kB_ (g := gb188) (o := .cells #[.int .i64 0,.int .i64 0] 34 (0,0)) (by exact lk_ BK188) hb);have n1_ := aM_ (bT_ (by exact lb_ HB) hb);have n2_ := aM_ (hbox);have n3_ := aM_ ((by rw [hg];exact (below_size (by exact lb_ HB)) : w.heap.size ≤ gb190));have n4_ := aM_ ((by rw [hg];exact (below_size (by exact lb_ HB)) : w.heap.size ≤ gb190));have n5_ := aM_ ((by rw [hg];exact Nat.ne_of_lt (blk_lt (g := gb188) (o := .cells #[.int .i64 0,.int .i64 0] 34 (0,0)) (by exact lk_ BK188)) : gb188 ≠ gb190));have n6_ := aM_ ((by rw [hg];exact Nat.ne_of_gt (blk_lt (g := gb188) (o := .cells #[.int .i64 0,.int .i64 0] 34 (0,0)) (by exact lk_ BK188)) : gb190 ≠ gb188));clear BK188;clear HB;have BK188 := n0_;have HB := n1_;have BK190 := n2_;have GW190 := n3_;have GE190 := n4_;have := Ge_.mk n4_.out;have NB188_190 := n5_;have NB190_188 := n6_;clear n0_ n1_ n2_ n3_ n4_ n5_ n6_;clear hb hbox hg;have hnb16 := NB190_188.out;have hnc16 := NB188_190.out;have hcz17_0 : w15.cell? ⟨gb190,0,none⟩ = some (.int .i64 0) := (blk_cell BK190.out 0).trans rfl;have hcz17_1 : w15.cell? ⟨gb190,1,none⟩ = some (.int .i64 0) := (blk_cell BK190.out 1).trans rfl;have hfz17_0 := blk_frozen BK190.out 0;have hfz17_1 := blk_frozen BK190.out 1))
    go_loopg [31] k (fun kq v31 w' => ∃ (x31_1 : Int) (x189000_1 : Int) (x189001_1 : Int) (x191000_1 : Int) (x191001_1 : Int),v31 = .int .i64 x31_1 ∧ Aside0 (gauge_Together.l0 kq l0 l1 (l1.length : Int) x31_1 x191000_1 x191001_1 = some (r1,r2,r3)) ∧ Aside0 (kq ≤ k) ∧ Aside0 (w'.heap[gb188]? = some (.cells #[.int .i64 x189000_1,.int .i64 x189001_1] 34 (0,0))) ∧ Aside0 (w'.heap[gb190]? = some (.cells #[.int .i64 x191000_1,.int .i64 x191001_1] 34 (0,0))) ∧ Aside0 (Below w.heap.size w w'))
    case atStart => exact ⟨(0),(0),(0),((-1000000000)),(1000000000),(by first | rfl | (simp;done) | (simp [*];done)),H',⟨Nat.le_refl _⟩,⟨by (with_reducible repeat (first | refine kN_ ?_ _ | refine kD_ ?_ | refine kA_ ?_ _));refine blk_far ?_ NB188_190.out _;(with_reducible repeat (first | refine kN_ ?_ _ | refine kD_ ?_ | refine kA_ ?_ _));refine blk_far ?_ NB188_190.out _;exact lk_ BK188⟩,⟨by (with_reducible repeat (first | refine kN_ ?_ _ | refine kD_ ?_ | refine kA_ ?_ _));refine blk_put (cs := #[.int .i64 (-1000000000),.int .i64 0]) ?_ 1 _ rfl;(with_reducible repeat (first | refine kN_ ?_ _ | refine kD_ ?_ | refine kA_ ?_ _));refine blk_put (cs := #[.int .i64 0,.int .i64 0]) ?_ 0 _ rfl;exact lk_ BK190⟩,⟨by exact lb_ HB⟩⟩
    case round =>
     clear H'
     try clear c1
     try clear p2
     try clear c3
     try clear c4
     try clear c4b0
     try clear c4b1
     try clear c5
     try clear c5b0
     try clear c5b1
     try clear c5b2
     try clear c9
     try clear c9b0
     try clear c9b1
     try clear c15
     try clear c16
     try clear hcz12_0
     try clear hcz12_1
     try clear hcz17_0
     try clear hcz17_1
     try clear hcz8_0
     try clear hcz8_1
     try clear hfz12_0
     try clear hfz12_1
     try clear hfz17_0
     try clear hfz17_1
     try clear hfz8_0
     try clear hfz8_1
     obtain ⟨x31_1,x189000_1,x189001_1,x191000_1,x191001_1,rfl,HA,HK1,BK188,BK190,HB⟩ := hrel
     cases gk with
     | zero => exact absurd HA.out (by simp [gauge_Together.l0])
     | succ k1 =>
      have H := HA.out
      clear HA
      simp only [gauge_Together.l0] at H
      by_cases c18 : x31_1 < (l1.length : Int)
      ·rw [if_pos c18] at H
       have c18b0 : decide (x31_1 < (l1.length : Int)) = true := decide_eq_true c18
       clear c18
       by_cases c19 : 0 ≤ x31_1
       ·rw [if_pos c19] at H
        have c19b0 : decide (0 ≤ x31_1) = true := decide_eq_true c19
        clear c19
        by_cases c20 : x31_1 < (l1.length : Int)
        ·rw [if_pos c20] at H
         have c20b0 : decide (x31_1 < (l1.length : Int)) = true := decide_eq_true c20
         clear c20
         replace H := oB_ H
         obtain ⟨⟨t193,t194,t195⟩,A210,H⟩ := H
         replace H : (if t195 = 0 then (gauge_Together.l0 k1 l0 l1 (l1.length : Int) (wrap64 (x31_1 + 1)) (mx x191000_1 t193) (mn x191001_1 t194)) else (some (0,0,t195))) = some (r1,r2,r3) := H
         have A21 := aM_ A210
         clear A210
         by_cases c22 : t195 = 0
         ·rw [if_pos c22] at H
          have c22b0 : (t195 == 0) = true := beq_iff_eq.mpr c22
          have c22b1 : (t195 != 0) = false := bne_eq_false_iff_eq.mpr c22
          clear c22
          obtain ⟨ji23,hji23⟩ : ∃ j_ : Int,(mx x191000_1 t193) = j_ := ⟨_,rfl⟩
          replace H : (gauge_Together.l0 k1 l0 l1 (l1.length : Int) (wrap64 (x31_1 + 1)) ji23 (mn x191001_1 t194)) = some (r1,r2,r3) := by first | (rw [hji23] at H;exact H) | (simp only [hji23] at H ⊢;exact H)
          (try rw [hji23] at A21)
          have hji23_ : (if x191000_1 < t193 then t193 else x191000_1) = ji23 := hji23
          obtain ⟨ji24,hji24⟩ : ∃ j_ : Int,(mn x191001_1 t194) = j_ := ⟨_,rfl⟩
          replace H : (gauge_Together.l0 k1 l0 l1 (l1.length : Int) (wrap64 (x31_1 + 1)) ji23 ji24) = some (r1,r2,r3) := by first | (rw [hji24] at H;exact H) | (simp only [hji24] at H ⊢;exact H)
          (try rw [hji24] at A21)
          have hji24_ : (if t194 < x191001_1 then t194 else x191001_1) = ji24 := hji24
          have H' := aM_ H
          clear H
          have p191 : 0 ≤ (x31_1 : Int) := of_decide_eq_true (by first | (with_reducible assumption) | assumption)
          have q191 : x31_1 < (l1.length : Int) := of_decide_eq_true (by first | (with_reducible assumption) | assumption)
          obtain ⟨ad191,e191,hx191_0,hx191_1⟩ := at_T32 HR1.out x31_1 p191 q191
          cases e191
          replace hx191_0 := (HB.out.cell (World.block_lt_of_cell? w _ hx191_0)).trans hx191_0
          replace hx191_1 := (HB.out.cell (World.block_lt_of_cell? w _ hx191_1)).trans hx191_1
          replace p191 := eq_true p191
          replace q191 := eq_true q191
          go_wp2_with (first | ((with_reducible refine gate_dst (N := 9) rfl ?_);refine box_event ?hg (N := 9) ?hd (cs := #[.int .i64 0,.int .i64 0]) (t := 32) ?hr ?_;(case hd => rfl);(case hg => rfl);(case hr => first | (go_simp;done) | (go_simp;rfl));intro gb192 hg w25 hbox hb;have n0_ := aM_ (kB_ (g := gb188) (o := .cells #[.int .i64 x189000_1,.int .i64 x189001_1] 34 (0,0)) (by exact lk_ BK188) hb);have n1_ := aM_ (kB_ (g := gb190) (o := .cells #[.int .i64 x191000_1,.int .i64 x191001_1] 34 (0,0)) (by exact lk_ BK190) hb);have n2_ := aM_ (bT_ (by exact lb_ HB) hb);have n3_ := aM_ (hbox);have n4_ := aM_ ((by rw [hg];exact (below_size (by exact lb_ HB)) : w.heap.size ≤ gb192));have n5_ := aM_ ((by rw [hg];exact (below_size (by exact lb_ HB)) : w.heap.size ≤ gb192));have n6_ := aM_ ((by rw [hg];exact Nat.ne_of_lt (blk_lt (g := gb188) (o := .cells #[.int .i64 x189000_1,.int .i64 x189001_1] 34 (0,0)) (by exact lk_ BK188)) : gb188 ≠ gb192));have n7_ := aM_ ((by rw [hg];exact Nat.ne_of_gt (blk_lt (g := gb188) (o := .cells #[.int .i64 x189000_1,.int .i64 x189001_1] 34 (0,0)) (by exact lk_ BK188)) : gb192 ≠ gb188));have n8_ := aM_ ((by rw [hg];exact Nat.ne_of_lt (blk_lt (g := gb190) (o := .cells #[.int .i64 x191000_1,.int .i64 x191001_1] 34 (0,0)) (by exact lk_ BK190)) : gb190 ≠ gb192));have n9_ := aM_ ((by rw [hg];exact Nat.ne_of_gt (blk_lt (g := gb190) (o := .cells #[.int .i64 x191000_1,.int .i64 x191001_1] 34 (0,0)) (by exact lk_ BK190)) : gb192 ≠ gb190));clear BK188;clear BK190;clear HB;have BK188 := n0_;have BK190 := n1_;have HB := n2_;have BK192 := n3_;have GW192 := n4_;have GE192 := n5_;have := Ge_.mk n5_.out;have NB188_192 := n6_;have NB192_188 := n7_;have NB190_192 := n8_;have NB192_190 := n9_;clear n0_ n1_ n2_ n3_ n4_ n5_ n6_ n7_ n8_ n9_;clear hb hbox hg;have hnb26 := NB192_188.out;have hnc26 := NB188_192.out;have hnb27 := NB192_190.out;have hnc27 := NB190_192.out;have hcz28_0 : w25.cell? ⟨gb192,0,none⟩ = some (.int .i64 0) := (blk_cell BK192.out 0).trans rfl;have hcz28_1 : w25.cell? ⟨gb192,1,none⟩ = some (.int .i64 0) := (blk_cell BK192.out 1).trans rfl;have hfz28_0 := blk_frozen BK192.out 0;have hfz28_1 := blk_frozen BK192.out 1) | ((with_reducible refine gate_callee (f := 16) rfl ?_);refine goesL_ (some 41) rfl rfl Try.func16 (by kernel_rfl) rfl #[.slice A0 l0.length c0,.int .i64 ((rd_T32 l1 x31_1).f0),.int .i64 ((rd_T32 l1 x31_1).f1)] rfl (by (try simp only [List.map_toArray,List.map_cons,List.map_nil]);first | done | rfl) ?_;(with_reducible refine (gauge_True.calls _ _ l0 ((rd_T32 l1 x31_1).f0) ((rd_T32 l1 x31_1).f1) t193 t194 t195 _ ?side1 ?side2 A21.out).mono ?_);(case side1 => exact Kd.C_below HR0.out (by exact lb_ HB));(case side2 => exact HC0.out);rintro e w29 ⟨rfl,hb⟩;refine ⟨_,rfl,?_⟩;have n0_ := aM_ (kB_ (g := gb188) (o := .cells #[.int .i64 x189000_1,.int .i64 x189001_1] 34 (0,0)) (by (with_reducible repeat (first | refine kN_ ?_ _ | refine kD_ ?_ | refine kA_ ?_ _));refine blk_far ?_ NB188_192.out _;(with_reducible repeat (first | refine kN_ ?_ _ | refine kD_ ?_ | refine kA_ ?_ _));refine blk_far ?_ NB188_192.out _;exact lk_ BK188) hb);have n1_ := aM_ (kB_ (g := gb190) (o := .cells #[.int .i64 x191000_1,.int .i64 x191001_1] 34 (0,0)) (by (with_reducible repeat (first | refine kN_ ?_ _ | refine kD_ ?_ | refine kA_ ?_ _));refine blk_far ?_ NB190_192.out _;(with_reducible repeat (first | refine kN_ ?_ _ | refine kD_ ?_ | refine kA_ ?_ _));refine blk_far ?_ NB190_192.out _;exact lk_ BK190) hb);have n2_ := aM_ (kB_ (g := gb192) (o := .cells #[.int .i64 ((rd_T32 l1 x31_1).f0),.int .i64 ((rd_T32 l1 x31_1).f1)] 32 (0,0)) (by (with_reducible repeat (first | refine kN_ ?_ _ | refine kD_ ?_ | refine kA_ ?_ _));refine blk_put (cs := #[.int .i64 ((rd_T32 l1 x31_1).f0),.int .i64 0]) ?_ 1 _ rfl;(with_reducible repeat (first | refine kN_ ?_ _ | refine kD_ ?_ | refine kA_ ?_ _));refine blk_put (cs := #[.int .i64 0,.int .i64 0]) ?_ 0 _ rfl;exact lk_ BK192) hb);have n3_ := aM_ (bT_ (by exact lb_ HB) hb);clear BK188;clear BK190;clear BK192;clear HB;have BK188 := n0_;have BK190 := n1_;have BK192 := n2_;have HB := n3_;clear n0_ n1_ n2_ n3_;(try clear hb);(try clear hb2);(try clear hk);(try clear hi)) | ((with_reducible refine gate_dst (N := 10) rfl ?_);refine box_event ?hg (N := 10) ?hd (cs := #[.int .i64 0,.int .i64 0]) (t := 34) ?hr ?_;(case hd => rfl);(case hg => rfl);(case hr => first | (go_simp;done) | (go_simp;rfl));intro gb196 hg w30 hbox hb;have n0_ := aM_ (kB_ (g := gb188) (o := .cells #[.int .i64 x189000_1,.int .i64 x189001_1] 34 (0,0)) (by exact lk_ BK188) hb);have n1_ := aM_ (kB_ (g := gb190) (o := .cells #[.int .i64 x191000_1,.int .i64 x191001_1] 34 (0,0)) (by exact lk_ BK190) hb);have n2_ := aM_ (kB_ (g := gb192) (o := .cells #[.int .i64 ((rd_T32 l1 x31_1).f0),.int .i64 ((rd_T32 l1 x31_1).f1)] 32 (0,0)) (by exact lk_ BK192) hb);have n3_ := aM_ (bT_ (by exact lb_ HB) hb);have n4_ := aM_ (hbox);have n5_ := aM_ ((by rw [hg];exact (below_size (by exact lb_ HB)) : w.heap.size ≤ gb196));have n6_ := aM_ ((by rw [hg];exact (below_size (by exact lb_ HB)) : w.heap.size ≤ gb196));have n7_ := aM_ ((by rw [hg];exact Nat.ne_of_lt (blk_lt (g := gb188) (o := .cells #[.int .i64 x189000_1,.int .i64 x189001_1] 34 (0,0)) (by exact lk_ BK188)) : gb188 ≠ gb196));have n8_ := aM_ ((by rw [hg];exact Nat.ne_of_gt (blk_lt (g := gb188) (o := .cells #[.int .i64 x189000_1,.int .i64 x189001_1] 34 (0,0)) (by exact lk_ BK188)) : gb196 ≠ gb188));have n9_ := aM_ ((by rw [hg];exact Nat.ne_of_lt (blk_lt (g := gb190) (o := .cells #[.int .i64 x191000_1,.int .i64 x191001_1] 34 (0,0)) (by exact lk_ BK190)) : gb190 ≠ gb196));have n10_ := aM_ ((by rw [hg];exact Nat.ne_of_gt (blk_lt (g := gb190) (o := .cells #[.int .i64 x191000_1,.int .i64 x191001_1] 34 (0,0)) (by exact lk_ BK190)) : gb196 ≠ gb190));have n11_ := aM_ ((by rw [hg];exact Nat.ne_of_lt (blk_lt (g := gb192) (o := .cells #[.int .i64 ((rd_T32 l1 x31_1).f0),.int .i64 ((rd_T32 l1 x31_1).f1)] 32 (0,0)) (by exact lk_ BK192)) : gb192 ≠ gb196));have n12_ := aM_ ((by rw [hg];exact Nat.ne_of_gt (blk_lt (g := gb192) (o := .cells #[.int .i64 ((rd_T32 l1 x31_1).f0),.int .i64 ((rd_T32 l1 x31_1).f1)] 32 (0,0)) (by exact lk_ BK192)) : gb196 ≠ gb192));clear BK188;clear BK190;clear BK192;clear HB;have BK188 := n0_;have BK190 := n1_;have BK192 := n2_;have HB := n3_;have BK196 := n4_;have GW196 := n5_;have GE196 := n6_;have := Ge_.mk n6_.out;have NB188_196 := n7_;have NB196_188 := n8_;have NB190_196 := n9_;have NB196_190 := n10_;have NB192_196 := n11_;have NB196_192 := n12_;clear n0_ n1_ n2_ n3_ n4_ n5_ n6_ n7_ n8_ n9_ n10_ n11_ n12_;clear hb hbox hg;have hnb31 := NB196_188.out;have hnc31 := NB188_196.out;have hnb32 := NB196_190.out;have hnc32 := NB190_196.out;have hnb33 := NB196_192.out;have hnc33 := NB192_196.out;have hcz34_0 : w30.cell? ⟨gb196,0,none⟩ = some (.int .i64 0) := (blk_cell BK196.out 0).trans rfl;have hcz34_1 : w30.cell? ⟨gb196,1,none⟩ = some (.int .i64 0) := (blk_cell BK196.out 1).trans rfl;have hfz34_0 := blk_frozen BK196.out 0;have hfz34_1 := blk_frozen BK196.out 1;have hnb35 := NB190_188.out;have hnc35 := NB188_190.out;have hcz36_0 : w30.cell? ⟨gb190,0,none⟩ = some (.int .i64 x191000_1) := (blk_cell BK190.out 0).trans rfl;have hcz36_1 : w30.cell? ⟨gb190,1,none⟩ = some (.int .i64 x191001_1) := (blk_cell BK190.out 1).trans rfl;have hfz36_0 := blk_frozen BK190.out 0;have hfz36_1 := blk_frozen BK190.out 1))
          go_roundg k1
          case measure => have := HK1.out;omega
          case rel => exact ⟨(wrap64 (x31_1 + 1)),(x189000_1),(x189001_1),(ji23),(ji24),(by first | rfl | (simp;done) | (simp [*];done)),H',⟨by have := HK1.out;omega⟩,⟨by (with_reducible repeat (first | refine kN_ ?_ _ | refine kD_ ?_ | refine kA_ ?_ _));refine blk_far ?_ NB188_190.out _;(with_reducible repeat (first | refine kN_ ?_ _ | refine kD_ ?_ | refine kA_ ?_ _));refine blk_far ?_ NB188_190.out _;(with_reducible repeat (first | refine kN_ ?_ _ | refine kD_ ?_ | refine kA_ ?_ _));refine blk_far ?_ NB188_196.out _;(with_reducible repeat (first | refine kN_ ?_ _ | refine kD_ ?_ | refine kA_ ?_ _));refine blk_far ?_ NB188_196.out _;exact lk_ BK188⟩,⟨by (with_reducible repeat (first | refine kN_ ?_ _ | refine kD_ ?_ | refine kA_ ?_ _));refine blk_put (cs := #[.int .i64 ji23,.int .i64 x191001_1]) ?_ 1 _ rfl;(with_reducible repeat (first | refine kN_ ?_ _ | refine kD_ ?_ | refine kA_ ?_ _));refine blk_put (cs := #[.int .i64 x191000_1,.int .i64 x191001_1]) ?_ 0 _ rfl;(with_reducible repeat (first | refine kN_ ?_ _ | refine kD_ ?_ | refine kA_ ?_ _));refine blk_far ?_ NB190_196.out _;(with_reducible repeat (first | refine kN_ ?_ _ | refine kD_ ?_ | refine kA_ ?_ _));refine blk_far ?_ NB190_196.out _;exact lk_ BK190⟩,⟨by exact lb_ HB⟩⟩
         ·rw [if_neg c22] at H
          have c22b0 : (t195 == 0) = false := beq_eq_false_iff_ne.mpr c22
          have c22b1 : (t195 != 0) = true := bne_iff_ne.mpr c22
          simp only [Option.some.injEq,Prod.mk.injEq] at H
          obtain ⟨rfl,rfl,rfl⟩ := H
          have p191 : 0 ≤ (x31_1 : Int) := of_decide_eq_true (by first | (with_reducible assumption) | assumption)
          have q191 : x31_1 < (l1.length : Int) := of_decide_eq_true (by first | (with_reducible assumption) | assumption)
          obtain ⟨ad191,e191,hx191_0,hx191_1⟩ := at_T32 HR1.out x31_1 p191 q191
          cases e191
          replace hx191_0 := (HB.out.cell (World.block_lt_of_cell? w _ hx191_0)).trans hx191_0
          replace hx191_1 := (HB.out.cell (World.block_lt_of_cell? w _ hx191_1)).trans hx191_1
          replace p191 := eq_true p191
          replace q191 := eq_true q191
          go_wp2_with (first | ((with_reducible refine gate_dst (N := 9) rfl ?_);refine box_event ?hg (N := 9) ?hd (cs := #[.int .i64 0,.int .i64 0]) (t := 32) ?hr ?_;(case hd => rfl);(case hg => rfl);(case hr => first | (go_simp;done) | (go_simp;rfl));intro gb192 hg w37 hbox hb;have n0_ := aM_ (kB_ (g := gb188) (o := .cells #[.int .i64 x189000_1,.int .i64 x189001_1] 34 (0,0)) (by exact lk_ BK188) hb);have n1_ := aM_ (kB_ (g := gb190) (o := .cells #[.int .i64 x191000_1,.int .i64 x191001_1] 34 (0,0)) (by exact lk_ BK190) hb);have n2_ := aM_ (bT_ (by exact lb_ HB) hb);have n3_ := aM_ (hbox);have n4_ := aM_ ((by rw [hg];exact (below_size (by exact lb_ HB)) : w.heap.size ≤ gb192));have n5_ := aM_ ((by rw [hg];exact (below_size (by exact lb_ HB)) : w.heap.size ≤ gb192));have n6_ := aM_ ((by rw [hg];exact Nat.ne_of_lt (blk_lt (g := gb188) (o := .cells #[.int .i64 x189000_1,.int .i64 x189001_1] 34 (0,0)) (by exact lk_ BK188)) : gb188 ≠ gb192));have n7_ := aM_ ((by rw [hg];exact Nat.ne_of_gt (blk_lt (g := gb188) (o := .cells #[.int .i64 x189000_1,.int .i64 x189001_1] 34 (0,0)) (by exact lk_ BK188)) : gb192 ≠ gb188));have n8_ := aM_ ((by rw [hg];exact Nat.ne_of_lt (blk_lt (g := gb190) (o := .cells #[.int .i64 x191000_1,.int .i64 x191001_1] 34 (0,0)) (by exact lk_ BK190)) : gb190 ≠ gb192));have n9_ := aM_ ((by rw [hg];exact Nat.ne_of_gt (blk_lt (g := gb190) (o := .cells #[.int .i64 x191000_1,.int .i64 x191001_1] 34 (0,0)) (by exact lk_ BK190)) : gb192 ≠ gb190));clear BK188;clear BK190;clear HB;have BK188 := n0_;have BK190 := n1_;have HB := n2_;have BK192 := n3_;have GW192 := n4_;have GE192 := n5_;have := Ge_.mk n5_.out;have NB188_192 := n6_;have NB192_188 := n7_;have NB190_192 := n8_;have NB192_190 := n9_;clear n0_ n1_ n2_ n3_ n4_ n5_ n6_ n7_ n8_ n9_;clear hb hbox hg;have hnb38 := NB192_188.out;have hnc38 := NB188_192.out;have hnb39 := NB192_190.out;have hnc39 := NB190_192.out;have hcz40_0 : w37.cell? ⟨gb192,0,none⟩ = some (.int .i64 0) := (blk_cell BK192.out 0).trans rfl;have hcz40_1 : w37.cell? ⟨gb192,1,none⟩ = some (.int .i64 0) := (blk_cell BK192.out 1).trans rfl;have hfz40_0 := blk_frozen BK192.out 0;have hfz40_1 := blk_frozen BK192.out 1) | ((with_reducible refine gate_callee (f := 16) rfl ?_);refine goesL_ (some 41) rfl rfl Try.func16 (by kernel_rfl) rfl #[.slice A0 l0.length c0,.int .i64 ((rd_T32 l1 x31_1).f0),.int .i64 ((rd_T32 l1 x31_1).f1)] rfl (by (try simp only [List.map_toArray,List.map_cons,List.map_nil]);first | done | rfl) ?_;(with_reducible refine (gauge_True.calls _ _ l0 ((rd_T32 l1 x31_1).f0) ((rd_T32 l1 x31_1).f1) t193 t194 t195 _ ?side1 ?side2 A21.out).mono ?_);(case side1 => exact Kd.C_below HR0.out (by exact lb_ HB));(case side2 => exact HC0.out);rintro e w41 ⟨rfl,hb⟩;refine ⟨_,rfl,?_⟩;have n0_ := aM_ (kB_ (g := gb188) (o := .cells #[.int .i64 x189000_1,.int .i64 x189001_1] 34 (0,0)) (by (with_reducible repeat (first | refine kN_ ?_ _ | refine kD_ ?_ | refine kA_ ?_ _));refine blk_far ?_ NB188_192.out _;(with_reducible repeat (first | refine kN_ ?_ _ | refine kD_ ?_ | refine kA_ ?_ _));refine blk_far ?_ NB188_192.out _;exact lk_ BK188) hb);have n1_ := aM_ (kB_ (g := gb190) (o := .cells #[.int .i64 x191000_1,.int .i64 x191001_1] 34 (0,0)) (by (with_reducible repeat (first | refine kN_ ?_ _ | refine kD_ ?_ | refine kA_ ?_ _));refine blk_far ?_ NB190_192.out _;(with_reducible repeat (first | refine kN_ ?_ _ | refine kD_ ?_ | refine kA_ ?_ _));refine blk_far ?_ NB190_192.out _;exact lk_ BK190) hb);have n2_ := aM_ (kB_ (g := gb192) (o := .cells #[.int .i64 ((rd_T32 l1 x31_1).f0),.int .i64 ((rd_T32 l1 x31_1).f1)] 32 (0,0)) (by (with_reducible repeat (first | refine kN_ ?_ _ | refine kD_ ?_ | refine kA_ ?_ _));refine blk_put (cs := #[.int .i64 ((rd_T32 l1 x31_1).f0),.int .i64 0]) ?_ 1 _ rfl;(with_reducible repeat (first | refine kN_ ?_ _ | refine kD_ ?_ | refine kA_ ?_ _));refine blk_put (cs := #[.int .i64 0,.int .i64 0]) ?_ 0 _ rfl;exact lk_ BK192) hb);have n3_ := aM_ (bT_ (by exact lb_ HB) hb);clear BK188;clear BK190;clear BK192;clear HB;have BK188 := n0_;have BK190 := n1_;have BK192 := n2_;have HB := n3_;clear n0_ n1_ n2_ n3_;(try clear hb);(try clear hb2);(try clear hk);(try clear hi)) | ((with_reducible refine gate_dst (N := 10) rfl ?_);refine box_event ?hg (N := 10) ?hd (cs := #[.int .i64 0,.int .i64 0]) (t := 34) ?hr ?_;(case hd => rfl);(case hg => rfl);(case hr => first | (go_simp;done) | (go_simp;rfl));intro gb196 hg w42 hbox hb;have n0_ := aM_ (kB_ (g := gb188) (o := .cells #[.int .i64 x189000_1,.int .i64 x189001_1] 34 (0,0)) (by exact lk_ BK188) hb);have n1_ := aM_ (kB_ (g := gb190) (o := .cells #[.int .i64 x191000_1,.int .i64 x191001_1] 34 (0,0)) (by exact lk_ BK190) hb);have n2_ := aM_ (kB_ (g := gb192) (o := .cells #[.int .i64 ((rd_T32 l1 x31_1).f0),.int .i64 ((rd_T32 l1 x31_1).f1)] 32 (0,0)) (by exact lk_ BK192) hb);have n3_ := aM_ (bT_ (by exact lb_ HB) hb);have n4_ := aM_ (hbox);have n5_ := aM_ ((by rw [hg];exact (below_size (by exact lb_ HB)) : w.heap.size ≤ gb196));have n6_ := aM_ ((by rw [hg];exact (below_size (by exact lb_ HB)) : w.heap.size ≤ gb196));have n7_ := aM_ ((by rw [hg];exact Nat.ne_of_lt (blk_lt (g := gb188) (o := .cells #[.int .i64 x189000_1,.int .i64 x189001_1] 34 (0,0)) (by exact lk_ BK188)) : gb188 ≠ gb196));have n8_ := aM_ ((by rw [hg];exact Nat.ne_of_gt (blk_lt (g := gb188) (o := .cells #[.int .i64 x189000_1,.int .i64 x189001_1] 34 (0,0)) (by exact lk_ BK188)) : gb196 ≠ gb188));have n9_ := aM_ ((by rw [hg];exact Nat.ne_of_lt (blk_lt (g := gb190) (o := .cells #[.int .i64 x191000_1,.int .i64 x191001_1] 34 (0,0)) (by exact lk_ BK190)) : gb190 ≠ gb196));have n10_ := aM_ ((by rw [hg];exact Nat.ne_of_gt (blk_lt (g := gb190) (o := .cells #[.int .i64 x191000_1,.int .i64 x191001_1] 34 (0,0)) (by exact lk_ BK190)) : gb196 ≠ gb190));have n11_ := aM_ ((by rw [hg];exact Nat.ne_of_lt (blk_lt (g := gb192) (o := .cells #[.int .i64 ((rd_T32 l1 x31_1).f0),.int .i64 ((rd_T32 l1 x31_1).f1)] 32 (0,0)) (by exact lk_ BK192)) : gb192 ≠ gb196));have n12_ := aM_ ((by rw [hg];exact Nat.ne_of_gt (blk_lt (g := gb192) (o := .cells #[.int .i64 ((rd_T32 l1 x31_1).f0),.int .i64 ((rd_T32 l1 x31_1).f1)] 32 (0,0)) (by exact lk_ BK192)) : gb196 ≠ gb192));clear BK188;clear BK190;clear BK192;clear HB;have BK188 := n0_;have BK190 := n1_;have BK192 := n2_;have HB := n3_;have BK196 := n4_;have GW196 := n5_;have GE196 := n6_;have := Ge_.mk n6_.out;have NB188_196 := n7_;have NB196_188 := n8_;have NB190_196 := n9_;have NB196_190 := n10_;have NB192_196 := n11_;have NB196_192 := n12_;clear n0_ n1_ n2_ n3_ n4_ n5_ n6_ n7_ n8_ n9_ n10_ n11_ n12_;clear hb hbox hg;have hnb43 := NB196_188.out;have hnc43 := NB188_196.out;have hnb44 := NB196_190.out;have hnc44 := NB190_196.out;have hnb45 := NB196_192.out;have hnc45 := NB192_196.out;have hcz46_0 : w42.cell? ⟨gb196,0,none⟩ = some (.int .i64 0) := (blk_cell BK196.out 0).trans rfl;have hcz46_1 : w42.cell? ⟨gb196,1,none⟩ = some (.int .i64 0) := (blk_cell BK196.out 1).trans rfl;have hfz46_0 := blk_frozen BK196.out 0;have hfz46_1 := blk_frozen BK196.out 1;have hnb47 := NB188_190.out;have hnc47 := NB190_188.out;have hcz48_0 : w42.cell? ⟨gb188,0,none⟩ = some (.int .i64 x189000_1) := (blk_cell BK188.out 0).trans rfl;have hcz48_1 : w42.cell? ⟨gb188,1,none⟩ = some (.int .i64 x189001_1) := (blk_cell BK188.out 1).trans rfl;have hfz48_0 := blk_frozen BK188.out 0;have hfz48_1 := blk_frozen BK188.out 1))
          refine bodyPost_ret (results_ct rfl _ _ gb188 34 #[.int .i64 0,.int .i64 0] (0,0) _ rfl (by (with_reducible repeat (first | refine kN_ ?_ _ | refine kD_ ?_ | refine kA_ ?_ _));refine blk_put (cs := #[.int .i64 0,.int .i64 x189001_1]) ?_ 1 _ rfl;(with_reducible repeat (first | refine kN_ ?_ _ | refine kD_ ?_ | refine kA_ ?_ _));refine blk_put (cs := #[.int .i64 x189000_1,.int .i64 x189001_1]) ?_ 0 _ rfl;(with_reducible repeat (first | refine kN_ ?_ _ | refine kD_ ?_ | refine kA_ ?_ _));refine blk_far ?_ NB188_196.out _;(with_reducible repeat (first | refine kN_ ?_ _ | refine kD_ ?_ | refine kA_ ?_ _));refine blk_far ?_ NB188_196.out _;exact lk_ BK188) Try.underlying34 rfl (by kernel_rfl)) rfl ?_
          exact ⟨by first | rfl | (simp [*] <;> rfl),by exact lb_ HB⟩
        ·rw [if_neg c20] at H
         exact absurd H (by simp)
       ·rw [if_neg c19] at H
        exact absurd H (by simp)
      ·rw [if_neg c18] at H
       have c18b0 : decide (x31_1 < (l1.length : Int)) = false := decide_eq_false c18
       clear c18
       by_cases c49 : x191000_1 > x191001_1
       ·rw [if_pos c49] at H
        have c49b0 : decide (x191001_1 < x191000_1) = true := decide_eq_true c49
        clear c49
        simp only [Option.some.injEq,Prod.mk.injEq] at H
        obtain ⟨rfl,rfl,rfl⟩ := H
        have hnb50 := NB190_188.out
        have hnc50 := NB188_190.out
        have hcz51_0 : wr.cell? ⟨gb190,0,none⟩ = some (.int .i64 x191000_1) := (blk_cell BK190.out 0).trans rfl
        have hcz51_1 : wr.cell? ⟨gb190,1,none⟩ = some (.int .i64 x191001_1) := (blk_cell BK190.out 1).trans rfl
        have hfz51_0 := blk_frozen BK190.out 0
        have hfz51_1 := blk_frozen BK190.out 1
        have hcz52_0 : wr.cell? ⟨gb188,0,none⟩ = some (.int .i64 x189000_1) := (blk_cell BK188.out 0).trans rfl
        have hcz52_1 : wr.cell? ⟨gb188,1,none⟩ = some (.int .i64 x189001_1) := (blk_cell BK188.out 1).trans rfl
        have hfz52_0 := blk_frozen BK188.out 0
        have hfz52_1 := blk_frozen BK188.out 1
        go_wp2
        refine bodyPost_ret (results_ct rfl _ _ gb188 34 #[.int .i64 0,.int .i64 0] (0,0) _ rfl (by (with_reducible repeat (first | refine kN_ ?_ _ | refine kD_ ?_ | refine kA_ ?_ _));refine blk_put (cs := #[.int .i64 0,.int .i64 x189001_1]) ?_ 1 _ rfl;(with_reducible repeat (first | refine kN_ ?_ _ | refine kD_ ?_ | refine kA_ ?_ _));refine blk_put (cs := #[.int .i64 x189000_1,.int .i64 x189001_1]) ?_ 0 _ rfl;exact lk_ BK188) Try.underlying34 rfl (by kernel_rfl)) rfl ?_
        exact ⟨by first | rfl | (simp [*] <;> rfl),by exact lb_ HB⟩
       ·rw [if_neg c49] at H
        have c49b0 : decide (x191001_1 < x191000_1) = false := decide_eq_false c49
        clear c49
        simp only [Option.some.injEq,Prod.mk.injEq] at H
        obtain ⟨rfl,rfl,rfl⟩ := H
        have hnb53 := NB190_188.out
        have hnc53 := NB188_190.out
        have hcz54_0 : wr.cell? ⟨gb190,0,none⟩ = some (.int .i64 x191000_1) := (blk_cell BK190.out 0).trans rfl
        have hcz54_1 : wr.cell? ⟨gb190,1,none⟩ = some (.int .i64 x191001_1) := (blk_cell BK190.out 1).trans rfl
        have hfz54_0 := blk_frozen BK190.out 0
        have hfz54_1 := blk_frozen BK190.out 1
        have hcz55_0 : wr.cell? ⟨gb188,0,none⟩ = some (.int .i64 x189000_1) := (blk_cell BK188.out 0).trans rfl
        have hcz55_1 : wr.cell? ⟨gb188,1,none⟩ = some (.int .i64 x189001_1) := (blk_cell BK188.out 1).trans rfl
        have hfz55_0 := blk_frozen BK188.out 0
        have hfz55_1 := blk_frozen BK188.out 1
        go_wp2
        refine bodyPost_ret (results_ct rfl _ _ gb188 34 #[.int .i64 x191000_1,.int .i64 x191001_1] (0,0) _ rfl (by (with_reducible repeat (first | refine kN_ ?_ _ | refine kD_ ?_ | refine kA_ ?_ _));refine blk_put (cs := #[.int .i64 x191000_1,.int .i64 x189001_1]) ?_ 1 _ rfl;(with_reducible repeat (first | refine kN_ ?_ _ | refine kD_ ?_ | refine kA_ ?_ _));refine blk_put (cs := #[.int .i64 x189000_1,.int .i64 x189001_1]) ?_ 0 _ rfl;exact lk_ BK188) Try.underlying34 rfl (by kernel_rfl)) rfl ?_
        exact ⟨by first | rfl | (simp [*] <;> rfl),by exact lb_ HB⟩
 ·rw [if_neg c4] at H
  have c4b0 : (t189 == 0) = false := beq_eq_false_iff_ne.mpr c4
  have c4b1 : (t189 != 0) = true := bne_iff_ne.mpr c4
  simp only [Option.some.injEq,Prod.mk.injEq] at H
  obtain ⟨rfl,rfl,rfl⟩ := H
  go_enter Try.func15,Try.ntmps15
  go_wp2_with (first | ((with_reducible refine gate_dst (N := 4) rfl ?_);refine box_event ?hg (N := 4) ?hd (cs := #[.int .i64 0,.int .i64 0]) (t := 34) ?hr ?_;(case hd => rfl);(case hg => rfl);(case hr => first | (go_simp;done) | (go_simp;rfl));intro gb188 hg w56 hbox hb;have n0_ := aM_ (bT_ (by exact lb_ HB) hb);have n1_ := aM_ (hbox);have n2_ := aM_ ((by rw [hg];exact (below_size (by exact lb_ HB)) : w.heap.size ≤ gb188));have n3_ := aM_ ((by rw [hg];exact (below_size (by exact lb_ HB)) : w.heap.size ≤ gb188));clear HB;have HB := n0_;have BK188 := n1_;have GW188 := n2_;have GE188 := n3_;have := Ge_.mk n3_.out;clear n0_ n1_ n2_ n3_;clear hb hbox hg) | ((with_reducible refine gate_callee (f := 31) rfl ?_);refine goesL_ (some 13) rfl rfl Try.func31 (by kernel_rfl) rfl #[.slice A0 l0.length c0] rfl (by (try simp only [List.map_toArray,List.map_cons,List.map_nil]);first | done | rfl) ?_;(with_reducible refine (gauge_Check.calls _ _ l0 t189 _ ?side1 ?side2 A3.out).mono ?_);(case side1 => exact Kd.C_below HR0.out (lb_ HB));(case side2 => exact HC0.out);rintro e w57 ⟨rfl,hb⟩;refine ⟨_,rfl,?_⟩;have n0_ := aM_ (kB_ (g := gb188) (o := .cells #[.int .i64 0,.int .i64 0] 34 (0,0)) (by exact lk_ BK188) hb);have n1_ := aM_ (bT_ (by exact lb_ HB) hb);clear BK188;clear HB;have BK188 := n0_;have HB := n1_;clear n0_ n1_;(try clear hb);(try clear hb2);(try clear hk);(try clear hi);have hcz58_0 : w57.cell? ⟨gb188,0,none⟩ = some (.int .i64 0) := (blk_cell BK188.out 0).trans rfl;have hcz58_1 : w57.cell? ⟨gb188,1,none⟩ = some (.int .i64 0) := (blk_cell BK188.out 1).trans rfl;have hfz58_0 := blk_frozen BK188.out 0;have hfz58_1 := blk_frozen BK188.out 1))
  refine bodyPost_ret (results_ct rfl _ _ gb188 34 #[.int .i64 0,.int .i64 0] (0,0) _ rfl (by (with_reducible repeat (first | refine kN_ ?_ _ | refine kD_ ?_ | refine kA_ ?_ _));refine blk_put (cs := #[.int .i64 0,.int .i64 0]) ?_ 1 _ rfl;(with_reducible repeat (first | refine kN_ ?_ _ | refine kD_ ?_ | refine kA_ ?_ _));refine blk_put (cs := #[.int .i64 0,.int .i64 0]) ?_ 0 _ rfl;exact lk_ BK188) Try.underlying34 rfl (by kernel_rfl)) rfl ?_
  exact ⟨by first | rfl | (simp [*] <;> rfl),by exact lb_ HB⟩

end Go.Proofs.Ytdbpobadeibjaab.GS
