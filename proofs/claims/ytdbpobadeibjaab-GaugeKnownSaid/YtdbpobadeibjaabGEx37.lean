-- written for this claim by a program of this session (wip/gp), over the kit's own printer; Lean checks it
import Derived.Test.YtdbpobadeibjaabGEx0
import Derived.Test.YtdbpobadeibjaabGEx10
import Derived.Test.YtdbpobadeibjaabGEx11
import Derived.Test.YtdbpobadeibjaabGEx12
namespace Go.Proofs.Ytdbpobadeibjaab.GE
open Go.RowKit Go.Proofs.YtdbpobadeibjaabW.PrintWords Go.Proofs.YtdbpobadeibjaabW.PrintLast Go.Proofs.YtdbpobadeibjaabW.PrintMore
attribute [local go_sem] max2_int min2_int max_two min_two max_three min_three max_four min_four
set_option linter.unusedVariables false
set_option linter.unusedSimpArgs false

/-! ### K_Same: function 32 -/
def K_Same.l0 : Nat → List Int → List Int → Int → Option (Bool)
 | 0,_,_,_ => none
 | k + 1,x0,x1,x5 => if x5 < (x0.length : Int) then (if 0 ≤ x5 then (if x5 < (x1.length : Int) then (if (rd x0 x5) = (rd x1 x5) then (K_Same.l0 k x0 x1 (wrap64 (x5 + 1))) else (some false)) else (none)) else (none)) else (some true)
def K_Same.f (k : Nat) (l0 : List Int) (l1 : List Int) : Option (Bool) := if (l0.length : Int) = (l1.length : Int) then (K_Same.l0 k l0 l1 0) else (some false)
set_option maxHeartbeats 8000000 in
set_option maxRecDepth 100000 in
theorem K_Same.calls (k : Nat) (A0 : Option Addr) (c0 : Nat) (l0 : List Int) (A1 : Option Addr) (c1 : Nat) (l1 : List Int) (r : Bool) (w : World) (hr0 : Kd.C (Kd.int .i64) w A0 l0.length l0) (hc0 : l0.length ≤ c0) (hr1 : Kd.C (Kd.int .i64) w A1 l1.length l1) (hc1 : l1.length ≤ c1) (h : K_Same.f k l0 l1 = some r) :
  Calls Try.prog 32 #[.slice A0 l0.length c0,.slice A1 l1.length c1] w fun e w' => e = .returned (.bool r) ∧ Drawn0 w w' := by
 have HR0 := aM_ hr0
 have HC0 := aM_ hc0
 clear hr0 hc0
 have HR1 := aM_ hr1
 have HC1 := aM_ hc1
 clear hr1 hc1
 have H : (if (l0.length : Int) = (l1.length : Int) then (K_Same.l0 k l0 l1 0) else (some false)) = some r := h
 clear h
 by_cases c3 : (l0.length : Int) = (l1.length : Int)
 ·rw [if_pos c3] at H
  have c3b0 : ((l0.length : Int) == (l1.length : Int)) = true := beq_iff_eq.mpr c3
  have c3b1 : ((l0.length : Int) != (l1.length : Int)) = false := bne_eq_false_iff_eq.mpr c3
  have c3b2 : (l0.length == l1.length) = true := by first | simpa using c3 | (simp at c3 ⊢;omega)
  clear c3
  have H' := aM_ H
  clear H
  go_enter Try.func32,Try.ntmps32
  go_wp2
  repeat (go_quiet (fail);try go_wp2)
  go_loopg [5] k (fun kq v5 w' => ∃ (x5_1 : Int),v5 = .int .i64 x5_1 ∧ Aside0 (K_Same.l0 kq l0 l1 x5_1 = some r) ∧ Aside0 (kq ≤ k) ∧ Drawn0 w w')
  case atStart => exact ⟨(0),(by first | rfl | (simp;done) | (simp [*];done)),H',⟨Nat.le_refl _⟩,by repeat (first | exact Drawn0.refl _ | apply Drawn0.step)⟩
  case round =>
   clear H'
   try clear c1
   try clear p2
   try clear c3
   try clear c3b0
   try clear c3b1
   try clear c3b2
   obtain ⟨x5_1,rfl,HA,HK1,⟨m1,rfl⟩⟩ := hrel
   cases gk with
   | zero => exact absurd HA.out (by simp [K_Same.l0])
   | succ k1 =>
    have H := HA.out
    clear HA
    simp only [K_Same.l0] at H
    by_cases c4 : x5_1 < (l0.length : Int)
    ·rw [if_pos c4] at H
     have c4b0 : decide (x5_1 < (l0.length : Int)) = true := decide_eq_true c4
     clear c4
     by_cases c5 : 0 ≤ x5_1
     ·rw [if_pos c5] at H
      have c5b0 : decide (0 ≤ x5_1) = true := decide_eq_true c5
      clear c5
      by_cases c6 : x5_1 < (l1.length : Int)
      ·rw [if_pos c6] at H
       have c6b0 : decide (x5_1 < (l1.length : Int)) = true := decide_eq_true c6
       clear c6
       by_cases c7 : (rd l0 x5_1) = (rd l1 x5_1)
       ·rw [if_pos c7] at H
        have c7b0 : ((rd l0 x5_1) == (rd l1 x5_1)) = true := beq_iff_eq.mpr c7
        have c7b1 : ((rd l0 x5_1) != (rd l1 x5_1)) = false := bne_eq_false_iff_eq.mpr c7
        clear c7
        have H' := aM_ H
        clear H
        have p577 : 0 ≤ (x5_1 : Int) := of_decide_eq_true (by first | (with_reducible assumption) | assumption)
        have q577 : x5_1 < (l0.length : Int) := of_decide_eq_true (by first | (with_reducible assumption) | assumption)
        obtain ⟨ad577,e577,hx577_0⟩ := Kd.at_int HR0.out x5_1 p577 q577
        cases e577
        replace p577 := eq_true p577
        replace q577 := eq_true q577
        have p578 : 0 ≤ (x5_1 : Int) := of_decide_eq_true (by first | (with_reducible assumption) | assumption)
        have q578 : x5_1 < (l1.length : Int) := of_decide_eq_true (by first | (with_reducible assumption) | assumption)
        obtain ⟨ad578,e578,hx578_0⟩ := Kd.at_int HR1.out x5_1 p578 q578
        cases e578
        replace p578 := eq_true p578
        replace q578 := eq_true q578
        go_wp2
        repeat (go_quiet (fail);try go_wp2)
        go_roundg k1
        case measure => have := HK1.out;omega
        case rel => exact ⟨(wrap64 (x5_1 + 1)),(by first | rfl | (simp;done) | (simp [*];done)),H',⟨by have := HK1.out;omega⟩,by repeat (first | exact Drawn0.refl _ | apply Drawn0.step)⟩
       ·rw [if_neg c7] at H
        have c7b0 : ((rd l0 x5_1) == (rd l1 x5_1)) = false := beq_eq_false_iff_ne.mpr c7
        have c7b1 : ((rd l0 x5_1) != (rd l1 x5_1)) = true := bne_iff_ne.mpr c7
        obtain rfl := Option.some.inj H
        have p577 : 0 ≤ (x5_1 : Int) := of_decide_eq_true (by first | (with_reducible assumption) | assumption)
        have q577 : x5_1 < (l0.length : Int) := of_decide_eq_true (by first | (with_reducible assumption) | assumption)
        obtain ⟨ad577,e577,hx577_0⟩ := Kd.at_int HR0.out x5_1 p577 q577
        cases e577
        replace p577 := eq_true p577
        replace q577 := eq_true q577
        have p578 : 0 ≤ (x5_1 : Int) := of_decide_eq_true (by first | (with_reducible assumption) | assumption)
        have q578 : x5_1 < (l1.length : Int) := of_decide_eq_true (by first | (with_reducible assumption) | assumption)
        obtain ⟨ad578,e578,hx578_0⟩ := Kd.at_int HR1.out x5_1 p578 q578
        cases e578
        replace p578 := eq_true p578
        replace q578 := eq_true q578
        go_wp2
        repeat (go_quiet (fail);try go_wp2)
        go_ret
        exact ⟨by first | rfl | (simp;done) | (simp [*];done),by repeat (first | exact Drawn0.refl _ | apply Drawn0.step)⟩
      ·rw [if_neg c6] at H
       exact absurd H (by simp)
     ·rw [if_neg c5] at H
      exact absurd H (by simp)
    ·rw [if_neg c4] at H
     have c4b0 : decide (x5_1 < (l0.length : Int)) = false := decide_eq_false c4
     clear c4
     obtain rfl := Option.some.inj H
     go_wp2
     repeat (go_quiet (fail);try go_wp2)
     go_ret
     exact ⟨by first | rfl | (simp;done) | (simp [*];done),by repeat (first | exact Drawn0.refl _ | apply Drawn0.step)⟩
 ·rw [if_neg c3] at H
  have c3b0 : ((l0.length : Int) == (l1.length : Int)) = false := beq_eq_false_iff_ne.mpr c3
  have c3b1 : ((l0.length : Int) != (l1.length : Int)) = true := bne_iff_ne.mpr c3
  have c3b2 : (l0.length == l1.length) = false := by first | simpa using c3 | (simp at c3 ⊢;omega)
  obtain rfl := Option.some.inj H
  go_enter Try.func32,Try.ntmps32
  go_wp2
  repeat (go_quiet (fail);try go_wp2)
  go_ret
  exact ⟨by first | rfl | (simp;done) | (simp [*];done),by repeat (first | exact Drawn0.refl _ | apply Drawn0.step)⟩

--HAND
-- stub slices.AppendSeq[[]int,int]

--HAND
-- stub slices.Collect[int]

--HAND
-- stub thermion/gauge.Chain

/-! ### gauge_Makes: function 34 -/
def gauge_Makes.j0 : Nat → Int → Bool → Int → Int → Int → Int → Int → Int → Int → Option (Int × Int)
 | 0,_,_,_,_,_,_,_,_,_ => none
 | k + 1,x1,x11,x580000,x580001,x580002,x580003,x580004,x580005,x580006 => if x11 = true then (some (0,0)) else ((gauge_low.f x580000 x580001 x580002 x580003 x580004 x580005 x580006 x1).bind fun t583 => ((gauge_high.f x580000 x580001 x580002 x580003 x580004 x580005 x580006 x1).bind fun t584 => (some (t583,t584))))
def gauge_Makes.f (k : Nat) (a0_0 : Int) (a0_1 : Int) (a0_2 : Int) (a0_3 : Int) (a0_4 : Int) (a0_5 : Int) (a0_6 : Int) (a1 : Int) : Option (Int × Int) := (gauge_checkMaking.f k a0_0 a0_1 a0_2 a0_3 a0_4 a0_5 a0_6).bind fun t581 => (if t581 = 0 then ((gauge_outside.f a1 (-1000000000) 1000000000).bind fun t582 => (gauge_Makes.j0 k a1 t582 a0_0 a0_1 a0_2 a0_3 a0_4 a0_5 a0_6)) else (gauge_Makes.j0 k a1 true a0_0 a0_1 a0_2 a0_3 a0_4 a0_5 a0_6))
def gauge_Makes.T3 : Bool × List (List Nat × List Nat) := (true,[([],[]),([],[]),([0,1],[0,1]),([],[]),([],[]),([3,4,2],[3,4]),([2,5],[2,5]),([6,5,0,1,2,3,4,5,6],[6])])
def gauge_Makes.B3 : List Nat := [0,0,3,0,0,31,63,127]
theorem gauge_Makes.tab3 : rtab .any (opsOf Try.f34 3) = gauge_Makes.T3 := by kernel_rfl
theorem gauge_Makes.bits3 : waitsOk gauge_Makes.T3.2 gauge_Makes.B3 = true := by kernel_rfl
set_option maxHeartbeats 8000000 in
set_option maxRecDepth 100000 in
theorem gauge_Makes.calls (k : Nat) (a0_0 : Int) (a0_1 : Int) (a0_2 : Int) (a0_3 : Int) (a0_4 : Int) (a0_5 : Int) (a0_6 : Int) (a1 : Int) (r1 : Int) (r2 : Int) (w : World) (h : gauge_Makes.f k a0_0 a0_1 a0_2 a0_3 a0_4 a0_5 a0_6 a1 = some (r1,r2)) :
  Calls Try.prog 34 #[.agg #[.int .i64 a0_0,.int .i64 a0_1,.int .i64 a0_2,.int .i64 a0_3,.int .i64 a0_4,.int .i64 a0_5,.int .i64 a0_6],.int .i64 a1] w fun e w' => e = .returned (.agg #[.int .i64 r1,.int .i64 r2]) ∧ Below w.heap.size w w' := by
 have hu49 := Try.underlying49
 have hu34 := Try.underlying34
 have HB := aM_ (Below.refl w.heap.size w)
 have H : ((gauge_checkMaking.f k a0_0 a0_1 a0_2 a0_3 a0_4 a0_5 a0_6).bind fun t581 => (if t581 = 0 then ((gauge_outside.f a1 (-1000000000) 1000000000).bind fun t582 => (gauge_Makes.j0 k a1 t582 a0_0 a0_1 a0_2 a0_3 a0_4 a0_5 a0_6)) else (gauge_Makes.j0 k a1 true a0_0 a0_1 a0_2 a0_3 a0_4 a0_5 a0_6))) = some (r1,r2) := h
 clear h
 have HC3 := aM_ H
 clear H
 go_enter Try.func34,Try.ntmps34
 go_upto_region 1 with (first | ((with_reducible refine gate_dst (N := 2) rfl ?_);refine box_event ?hg (N := 2) ?hd (cs := #[.int .i64 a0_0,.int .i64 a0_1,.int .i64 a0_2,.int .i64 a0_3,.int .i64 a0_4,.int .i64 a0_5,.int .i64 a0_6]) (t := 49) ?hr ?_;(case hd => rfl);(case hg => rfl);(case hr => first | (go_simp;done) | (go_simp;rfl));intro gb579 hg w4 hbox hb;have n0_ := aM_ (bT_ (by repeat (first | (with_reducible first | exact HB.out | apply bA_ | apply bN_ | apply bD_) | exact HB.out)) hb);have n1_ := aM_ (hbox);have n2_ := aM_ ((by rw [hg];exact (below_size (by repeat (first | (with_reducible first | exact HB.out | apply bA_ | apply bN_ | apply bD_) | exact HB.out))) : w.heap.size ≤ gb579));have n3_ := aM_ ((by rw [hg];exact (below_size (by repeat (first | (with_reducible first | exact HB.out | apply bA_ | apply bN_ | apply bD_) | exact HB.out))) : w.heap.size ≤ gb579));clear HB;have HB := n0_;have BK579 := n1_;have GW579 := n2_;have GE579 := n3_;clear n0_ n1_ n2_ n3_;clear hb hbox hg) | ((with_reducible refine gate_dst (N := 4) rfl ?_);refine box_event ?hg (N := 4) ?hd (cs := #[.int .i64 0,.int .i64 0]) (t := 34) ?hr ?_;(case hd => rfl);(case hg => rfl);(case hr => first | (go_simp;done) | (go_simp;rfl));intro gb580 hg w5 hbox hb;have n0_ := aM_ (kB_ (g := gb579) (o := .cells #[.int .i64 a0_0,.int .i64 a0_1,.int .i64 a0_2,.int .i64 a0_3,.int .i64 a0_4,.int .i64 a0_5,.int .i64 a0_6] 49 (0,0)) (by (with_reducible repeat (first | refine kN_ ?_ _ | refine kD_ ?_ | refine kA_ ?_ _));exact BK579.out) hb);have n1_ := aM_ (bT_ (by repeat (first | (with_reducible first | exact HB.out | apply bA_ | apply bN_ | apply bD_ | refine bS_ ?_ GE579.out) | exact HB.out)) hb);have n2_ := aM_ (hbox);have n3_ := aM_ ((by rw [hg];exact (below_size (by repeat (first | (with_reducible first | exact HB.out | apply bA_ | apply bN_ | apply bD_ | refine bS_ ?_ GE579.out) | exact HB.out))) : w.heap.size ≤ gb580));have n4_ := aM_ ((by rw [hg];exact (below_size (by repeat (first | (with_reducible first | exact HB.out | apply bA_ | apply bN_ | apply bD_ | refine bS_ ?_ GE579.out) | exact HB.out))) : w.heap.size ≤ gb580));have n5_ := aM_ ((by rw [hg];exact Nat.ne_of_lt (blk_lt (g := gb579) (o := .cells #[.int .i64 a0_0,.int .i64 a0_1,.int .i64 a0_2,.int .i64 a0_3,.int .i64 a0_4,.int .i64 a0_5,.int .i64 a0_6] 49 (0,0)) (by (with_reducible repeat (first | refine kN_ ?_ _ | refine kD_ ?_ | refine kA_ ?_ _));exact BK579.out)) : gb579 ≠ gb580));have n6_ := aM_ ((by rw [hg];exact Nat.ne_of_gt (blk_lt (g := gb579) (o := .cells #[.int .i64 a0_0,.int .i64 a0_1,.int .i64 a0_2,.int .i64 a0_3,.int .i64 a0_4,.int .i64 a0_5,.int .i64 a0_6] 49 (0,0)) (by (with_reducible repeat (first | refine kN_ ?_ _ | refine kD_ ?_ | refine kA_ ?_ _));exact BK579.out)) : gb580 ≠ gb579));clear BK579;clear HB;have BK579 := n0_;have HB := n1_;have BK580 := n2_;have GW580 := n3_;have GE580 := n4_;have NB579_580 := n5_;have NB580_579 := n6_;clear n0_ n1_ n2_ n3_ n4_ n5_ n6_;clear hb hbox hg))
 (try simp only [Act.put,sB_,sZ_,sS_])
 go_cut [11] (fun v11 wc => ∃ (kq : Nat) (x11_2 : Bool),v11 = .bool x11_2 ∧ Aside0 (gauge_Makes.j0 kq a1 x11_2 a0_0 a0_1 a0_2 a0_3 a0_4 a0_5 a0_6 = some (r1,r2)) ∧ Aside0 (kq ≤ k) ∧ Aside0 (wc.heap[gb579]? = some (.cells #[.int .i64 a0_0,.int .i64 a0_1,.int .i64 a0_2,.int .i64 a0_3,.int .i64 a0_4,.int .i64 a0_5,.int .i64 a0_6] 49 (0,0))) ∧ Aside0 (wc.heap[gb580]? = some (.cells #[.int .i64 0,.int .i64 0] 34 (0,0))) ∧ Aside0 (Below w.heap.size w wc))
 case first =>
  have H := HC3.out
  clear HC3
  replace H := oB_ H
  obtain ⟨t581,A60,H⟩ := H
  replace H : (if t581 = 0 then ((gauge_outside.f a1 (-1000000000) 1000000000).bind fun t582 => (gauge_Makes.j0 k a1 t582 a0_0 a0_1 a0_2 a0_3 a0_4 a0_5 a0_6)) else (gauge_Makes.j0 k a1 true a0_0 a0_1 a0_2 a0_3 a0_4 a0_5 a0_6)) = some (r1,r2) := H
  have A6 := aM_ A60
  clear A60
  by_cases c7 : t581 = 0
  ·rw [if_pos c7] at H
   have c7b0 : (t581 == 0) = true := beq_iff_eq.mpr c7
   have c7b1 : (t581 != 0) = false := bne_eq_false_iff_eq.mpr c7
   clear c7
   (first | rw [c7b0] | (simp only [i64_w,i32_w];rw [c7b0]) | skip)
   replace H := oB_ H
   obtain ⟨t582,A80,H⟩ := H
   replace H : (gauge_Makes.j0 k a1 t582 a0_0 a0_1 a0_2 a0_3 a0_4 a0_5 a0_6) = some (r1,r2) := H
   have A8 := aM_ A80
   clear A80
   have H' := aM_ H
   clear H
   have hnb9 := NB579_580.out
   have hnc9 := NB580_579.out
   have hcz10_0 : w5.cell? ⟨gb579,0,none⟩ = some (.int .i64 a0_0) := (blk_cell BK579.out 0).trans rfl
   have hcz10_1 : w5.cell? ⟨gb579,1,none⟩ = some (.int .i64 a0_1) := (blk_cell BK579.out 1).trans rfl
   have hcz10_2 : w5.cell? ⟨gb579,2,none⟩ = some (.int .i64 a0_2) := (blk_cell BK579.out 2).trans rfl
   have hcz10_3 : w5.cell? ⟨gb579,3,none⟩ = some (.int .i64 a0_3) := (blk_cell BK579.out 3).trans rfl
   have hcz10_4 : w5.cell? ⟨gb579,4,none⟩ = some (.int .i64 a0_4) := (blk_cell BK579.out 4).trans rfl
   have hcz10_5 : w5.cell? ⟨gb579,5,none⟩ = some (.int .i64 a0_5) := (blk_cell BK579.out 5).trans rfl
   have hcz10_6 : w5.cell? ⟨gb579,6,none⟩ = some (.int .i64 a0_6) := (blk_cell BK579.out 6).trans rfl
   have hfz10_0 := blk_frozen BK579.out 0
   have hfz10_1 := blk_frozen BK579.out 1
   have hfz10_2 := blk_frozen BK579.out 2
   have hfz10_3 := blk_frozen BK579.out 3
   have hfz10_4 := blk_frozen BK579.out 4
   have hfz10_5 := blk_frozen BK579.out 5
   have hfz10_6 := blk_frozen BK579.out 6
   go_wp2_with (first | ((with_reducible refine gate_callee (f := 62) rfl ?_);refine goesL_ (some 6) rfl rfl Try.func62 (by kernel_rfl) rfl #[.agg #[.int .i64 a0_0,.int .i64 a0_1,.int .i64 a0_2,.int .i64 a0_3,.int .i64 a0_4,.int .i64 a0_5,.int .i64 a0_6]] rfl (by (try simp only [List.map_toArray,List.map_cons,List.map_nil]);first | done | rfl) ?_;(with_reducible refine (gauge_checkMaking.calls k a0_0 a0_1 a0_2 a0_3 a0_4 a0_5 a0_6 t581 _ A6.out).mono ?_);rintro e w11 ⟨rfl,hb⟩;refine ⟨_,rfl,?_⟩;have n0_ := aM_ (kB_ (g := gb579) (o := .cells #[.int .i64 a0_0,.int .i64 a0_1,.int .i64 a0_2,.int .i64 a0_3,.int .i64 a0_4,.int .i64 a0_5,.int .i64 a0_6] 49 (0,0)) (by (with_reducible repeat (first | refine kN_ ?_ _ | refine kD_ ?_ | refine kA_ ?_ _));exact BK579.out) hb);have n1_ := aM_ (kB_ (g := gb580) (o := .cells #[.int .i64 0,.int .i64 0] 34 (0,0)) (by (with_reducible repeat (first | refine kN_ ?_ _ | refine kD_ ?_ | refine kA_ ?_ _));exact BK580.out) hb);have n2_ := aM_ (bT_ (by repeat (first | (with_reducible first | exact HB.out | apply bA_ | apply bN_ | apply bD_ | refine bS_ ?_ GE579.out | refine bS_ ?_ GE580.out) | exact HB.out)) hb);clear BK579;clear BK580;clear HB;have BK579 := n0_;have BK580 := n1_;have HB := n2_;clear n0_ n1_ n2_;(try clear hb);(try clear hb2);(try clear hk);(try clear hi)) | (go_at_call 44;(with_reducible refine (gauge_outside.calls a1 (-1000000000) 1000000000 t582 _ A8.out).mono ?_);rintro e w' ⟨rfl,⟨nd,rfl⟩⟩))
   go_meet
   case rel => exact ⟨_,(t582),(by first | rfl | (simp;done) | (simp [*];done)),H',⟨by first | omega | exact Nat.le_refl _⟩,⟨by (with_reducible repeat (first | refine kN_ ?_ _ | refine kD_ ?_ | refine kA_ ?_ _));exact BK579.out⟩,⟨by (with_reducible repeat (first | refine kN_ ?_ _ | refine kD_ ?_ | refine kA_ ?_ _));exact BK580.out⟩,⟨by repeat (first | (with_reducible first | exact HB.out | apply bA_ | apply bN_ | apply bD_ | refine bS_ ?_ GE579.out | refine bS_ ?_ GE580.out) | exact HB.out)⟩⟩
  ·rw [if_neg c7] at H
   have c7b0 : (t581 == 0) = false := beq_eq_false_iff_ne.mpr c7
   have c7b1 : (t581 != 0) = true := bne_iff_ne.mpr c7
   (first | rw [c7b0] | (simp only [i64_w,i32_w];rw [c7b0]) | skip)
   have H' := aM_ H
   clear H
   have hnb12 := NB579_580.out
   have hnc12 := NB580_579.out
   have hcz13_0 : w5.cell? ⟨gb579,0,none⟩ = some (.int .i64 a0_0) := (blk_cell BK579.out 0).trans rfl
   have hcz13_1 : w5.cell? ⟨gb579,1,none⟩ = some (.int .i64 a0_1) := (blk_cell BK579.out 1).trans rfl
   have hcz13_2 : w5.cell? ⟨gb579,2,none⟩ = some (.int .i64 a0_2) := (blk_cell BK579.out 2).trans rfl
   have hcz13_3 : w5.cell? ⟨gb579,3,none⟩ = some (.int .i64 a0_3) := (blk_cell BK579.out 3).trans rfl
   have hcz13_4 : w5.cell? ⟨gb579,4,none⟩ = some (.int .i64 a0_4) := (blk_cell BK579.out 4).trans rfl
   have hcz13_5 : w5.cell? ⟨gb579,5,none⟩ = some (.int .i64 a0_5) := (blk_cell BK579.out 5).trans rfl
   have hcz13_6 : w5.cell? ⟨gb579,6,none⟩ = some (.int .i64 a0_6) := (blk_cell BK579.out 6).trans rfl
   have hfz13_0 := blk_frozen BK579.out 0
   have hfz13_1 := blk_frozen BK579.out 1
   have hfz13_2 := blk_frozen BK579.out 2
   have hfz13_3 := blk_frozen BK579.out 3
   have hfz13_4 := blk_frozen BK579.out 4
   have hfz13_5 := blk_frozen BK579.out 5
   have hfz13_6 := blk_frozen BK579.out 6
   go_wp2_with (first | ((with_reducible refine gate_callee (f := 62) rfl ?_);refine goesL_ (some 6) rfl rfl Try.func62 (by kernel_rfl) rfl #[.agg #[.int .i64 a0_0,.int .i64 a0_1,.int .i64 a0_2,.int .i64 a0_3,.int .i64 a0_4,.int .i64 a0_5,.int .i64 a0_6]] rfl (by (try simp only [List.map_toArray,List.map_cons,List.map_nil]);first | done | rfl) ?_;(with_reducible refine (gauge_checkMaking.calls k a0_0 a0_1 a0_2 a0_3 a0_4 a0_5 a0_6 t581 _ A6.out).mono ?_);rintro e w14 ⟨rfl,hb⟩;refine ⟨_,rfl,?_⟩;have n0_ := aM_ (kB_ (g := gb579) (o := .cells #[.int .i64 a0_0,.int .i64 a0_1,.int .i64 a0_2,.int .i64 a0_3,.int .i64 a0_4,.int .i64 a0_5,.int .i64 a0_6] 49 (0,0)) (by (with_reducible repeat (first | refine kN_ ?_ _ | refine kD_ ?_ | refine kA_ ?_ _));exact BK579.out) hb);have n1_ := aM_ (kB_ (g := gb580) (o := .cells #[.int .i64 0,.int .i64 0] 34 (0,0)) (by (with_reducible repeat (first | refine kN_ ?_ _ | refine kD_ ?_ | refine kA_ ?_ _));exact BK580.out) hb);have n2_ := aM_ (bT_ (by repeat (first | (with_reducible first | exact HB.out | apply bA_ | apply bN_ | apply bD_ | refine bS_ ?_ GE579.out | refine bS_ ?_ GE580.out) | exact HB.out)) hb);clear BK579;clear BK580;clear HB;have BK579 := n0_;have BK580 := n1_;have HB := n2_;clear n0_ n1_ n2_;(try clear hb);(try clear hb2);(try clear hk);(try clear hi)))
   go_meet
   case rel => exact ⟨_,(true),(by first | rfl | (simp;done) | (simp [*];done)),H',⟨by first | omega | exact Nat.le_refl _⟩,⟨by (with_reducible repeat (first | refine kN_ ?_ _ | refine kD_ ?_ | refine kA_ ?_ _));exact BK579.out⟩,⟨by (with_reducible repeat (first | refine kN_ ?_ _ | refine kD_ ?_ | refine kA_ ?_ _));exact BK580.out⟩,⟨by repeat (first | (with_reducible first | exact HB.out | apply bA_ | apply bN_ | apply bD_ | refine bS_ ?_ GE579.out | refine bS_ ?_ GE580.out) | exact HB.out)⟩⟩
 case rest =>
  clear HC3
  try clear c1
  try clear p2
  try clear c3
  try clear c6
  try clear c7
  try clear c7b0
  try clear c7b1
  try clear c9
  try clear c12
  try clear hcz10_0
  try clear hcz10_1
  try clear hcz10_2
  try clear hcz10_3
  try clear hcz10_4
  try clear hcz10_5
  try clear hcz10_6
  try clear hcz13_0
  try clear hcz13_1
  try clear hcz13_2
  try clear hcz13_3
  try clear hcz13_4
  try clear hcz13_5
  try clear hcz13_6
  try clear hfz10_0
  try clear hfz10_1
  try clear hfz10_2
  try clear hfz10_3
  try clear hfz10_4
  try clear hfz10_5
  try clear hfz10_6
  try clear hfz13_0
  try clear hfz13_1
  try clear hfz13_2
  try clear hfz13_3
  try clear hfz13_4
  try clear hfz13_5
  try clear hfz13_6
  obtain ⟨kq,x11_2,rfl,HA,HJ2,BK579,BK580,HB⟩ := hcut
  cases kq with
  | zero => exact absurd HA.out (by simp [gauge_Makes.j0])
  | succ kj2 =>
   have H := HA.out
   clear HA
   simp only [gauge_Makes.j0] at H
   by_cases c15 : x11_2 = true
   ·subst c15
    have H1 : (some (0,0)) = some (r1,r2) := by rw [if_pos rfl] at H;exact H
    clear H
    have H := H1
    clear H1
    simp only [Option.some.injEq,Prod.mk.injEq] at H
    obtain ⟨rfl,rfl⟩ := H
    have hnb16 := NB580_579.out
    have hnc16 := NB579_580.out
    have hcz17_0 : wc.cell? ⟨gb580,0,none⟩ = some (.int .i64 0) := (blk_cell BK580.out 0).trans rfl
    have hcz17_1 : wc.cell? ⟨gb580,1,none⟩ = some (.int .i64 0) := (blk_cell BK580.out 1).trans rfl
    have hfz17_0 := blk_frozen BK580.out 0
    have hfz17_1 := blk_frozen BK580.out 1
    go_wp2
    refine bodyPost_ret (results_cell_row rfl _ _ gb580 34 #[.int .i64 0,.int .i64 0] (0,0) _ rfl (by (with_reducible repeat (first | refine kN_ ?_ _ | refine kD_ ?_ | refine kA_ ?_ _));refine blk_put (cs := #[.int .i64 0,.int .i64 0]) ?_ 1 _ rfl;(with_reducible repeat (first | refine kN_ ?_ _ | refine kD_ ?_ | refine kA_ ?_ _));refine blk_put (cs := #[.int .i64 0,.int .i64 0]) ?_ 0 _ rfl;(with_reducible repeat (first | refine kN_ ?_ _ | refine kD_ ?_ | refine kA_ ?_ _));exact BK580.out) Try.underlying34 rfl (by kernel_rfl)) rfl ?_
    exact ⟨by first | rfl | (simp [*] <;> rfl),by repeat (first | (with_reducible first | exact HB.out | apply bA_ | apply bN_ | apply bD_ | refine bS_ ?_ GE579.out | refine bS_ ?_ GE580.out) | exact HB.out)⟩
   ·replace c15 := Bool.eq_false_iff.mpr c15
    subst c15
    have H1 : ((gauge_low.f a0_0 a0_1 a0_2 a0_3 a0_4 a0_5 a0_6 a1).bind fun t583 => ((gauge_high.f a0_0 a0_1 a0_2 a0_3 a0_4 a0_5 a0_6 a1).bind fun t584 => (some (t583,t584)))) = some (r1,r2) := by rw [if_neg (show ¬ (false = true) by decide)] at H;exact H
    clear H
    have H := H1
    clear H1
    replace H := oB_ H
    obtain ⟨t583,A180,H⟩ := H
    replace H : ((gauge_high.f a0_0 a0_1 a0_2 a0_3 a0_4 a0_5 a0_6 a1).bind fun t584 => (some (t583,t584))) = some (r1,r2) := H
    have A18 := aM_ A180
    clear A180
    replace H := oB_ H
    obtain ⟨t584,A190,H⟩ := H
    replace H : (some (t583,t584)) = some (r1,r2) := H
    have A19 := aM_ A190
    clear A190
    simp only [Option.some.injEq,Prod.mk.injEq] at H
    obtain ⟨rfl,rfl⟩ := H
    try go_wp2
    have n0_ := aM_ (kD_ BK579.out)
    have n1_ := aM_ (kD_ BK580.out)
    have n2_ := aM_ (bD_ HB.out)
    clear BK579
    clear BK580
    clear HB
    have BK579 := n0_
    have BK580 := n1_
    have HB := n2_
    clear n0_ n1_ n2_
    refine start_ (n := 8) (S := fun w' => w'.cell? ⟨gb579,0,none⟩ = some (.int .i64 a0_0) ∧ w'.cell? ⟨gb579,1,none⟩ = some (.int .i64 a0_1) ∧ w'.cell? ⟨gb579,2,none⟩ = some (.int .i64 a0_2) ∧ w'.cell? ⟨gb579,3,none⟩ = some (.int .i64 a0_3) ∧ w'.cell? ⟨gb579,4,none⟩ = some (.int .i64 a0_4) ∧ w'.cell? ⟨gb579,5,none⟩ = some (.int .i64 a0_5) ∧ w'.cell? ⟨gb579,6,none⟩ = some (.int .i64 a0_6)) (ds := []) #[false,false,false,false,false,false,false,false] (by kernel_rfl) rfl rfl ⟨(blk_cell BK579.out 0).trans rfl,(blk_cell BK579.out 1).trans rfl,(blk_cell BK579.out 2).trans rfl,(blk_cell BK579.out 3).trans rfl,(blk_cell BK579.out 4).trans rfl,(blk_cell BK579.out 5).trans rfl,(blk_cell BK579.out 6).trans rfl⟩ (fun hHeld => ?_);refine with_tabW gauge_Makes.tab3 gauge_Makes.bits3 (fun HT_ HW_ => ?_)
    generalize wc.drew = w20 at BK579 BK580 HB hHeld ⊢
    refine pure_ (i := 1) (N := some 14) (v := ?_) (a' := ?_) #[false,true,false,false,false,false,false,false] rfl rfl (any_of HT_.out (by kernel_rfl)) (fun _ _ _ h => h) (Or.inl ⟨by rfl,?_⟩) ?_ ?_
    rotate_left
    ·intro w'
     go_simp
     with_reducible rfl
    rotate_left
    ·simp only [Act.put,sB_,sZ_,sS_,i64_w,i32_w]
     rfl
    refine pure_ (i := 4) (N := some 17) (v := ?_) (a' := ?_) #[false,true,false,false,true,false,false,false] rfl rfl (any_of HT_.out (by kernel_rfl)) (fun _ _ _ h => h) (Or.inl ⟨by rfl,?_⟩) ?_ ?_
    rotate_left
    ·intro w'
     go_simp
     with_reducible rfl
    rotate_left
    ·simp only [Act.put,sB_,sZ_,sS_,i64_w,i32_w]
     rfl
    refine take_ (i := 0) (N := some 13) (v := ?_) (a' := ?_) #[true,true,false,false,true,false,false,false] rfl rfl (take_ofW HT_.out HW_.out (by kernel_rfl)) (fun _ _ _ h => h) (Or.inl ⟨by rfl,?_⟩) hHeld ?_ ?_
    rotate_left
    ·rintro w' ⟨s0,s1,s2,s3,s4,s5,s6⟩
     go_simp
     with_reducible rfl
    rotate_left
    ·simp only [Act.put,sB_,sZ_,sS_,i64_w,i32_w]
     rfl
    refine take_ (i := 3) (N := some 16) (v := ?_) (a' := ?_) #[true,true,false,true,true,false,false,false] rfl rfl (take_ofW HT_.out HW_.out (by kernel_rfl)) (fun _ _ _ h => h) (Or.inl ⟨by rfl,?_⟩) hHeld ?_ ?_
    rotate_left
    ·rintro w' ⟨s0,s1,s2,s3,s4,s5,s6⟩
     go_simp
     with_reducible rfl
    rotate_left
    ·simp only [Act.put,sB_,sZ_,sS_,i64_w,i32_w]
     rfl
    refine one_ (i := 2) (N := some 15) #[true,true,true,true,true,false,false,false] rfl rfl (one_of HT_.out (by kernel_rfl)) (by decide) (fun K hK => ?_)
    refine goes_ Try.func65 (by kernel_rfl) rfl #[.agg #[.int .i64 a0_0,.int .i64 a0_1,.int .i64 a0_2,.int .i64 a0_3,.int .i64 a0_4,.int .i64 a0_5,.int .i64 a0_6],.int .i64 a1] (by rfl) rfl rfl (by (try simp only [List.map_toArray,List.map_cons,List.map_nil]);first | done | rfl) ?_
    with_reducible refine (gauge_low.calls a0_0 a0_1 a0_2 a0_3 a0_4 a0_5 a0_6 a1 t583 _ A18.out).mono ?_
    rintro e w21 ⟨rfl,hb⟩
    refine ⟨_,rfl,?_⟩
    have n0_ := aM_ (kB_ (g := gb579) (o := .cells #[.int .i64 a0_0,.int .i64 a0_1,.int .i64 a0_2,.int .i64 a0_3,.int .i64 a0_4,.int .i64 a0_5,.int .i64 a0_6] 49 (0,0)) (by (with_reducible repeat (first | refine kN_ ?_ _ | refine kD_ ?_ | refine kA_ ?_ _));exact BK579.out) hb)
    have n1_ := aM_ (kB_ (g := gb580) (o := .cells #[.int .i64 0,.int .i64 0] 34 (0,0)) (by (with_reducible repeat (first | refine kN_ ?_ _ | refine kD_ ?_ | refine kA_ ?_ _));exact BK580.out) hb)
    have n2_ := aM_ (bT_ (by repeat (first | (with_reducible first | exact HB.out | apply bA_ | apply bN_ | apply bD_ | refine bS_ ?_ GE579.out | refine bS_ ?_ GE580.out) | exact HB.out)) hb)
    clear BK579
    clear BK580
    clear HB
    have BK579 := n0_
    have BK580 := n1_
    have HB := n2_
    clear n0_ n1_ n2_
    (try clear hb)
    (try clear hb2)
    (try clear hk)
    (try clear hi)
    refine hK.out _ _ ⟨(blk_cell BK579.out 0).trans rfl,(blk_cell BK579.out 1).trans rfl,(blk_cell BK579.out 2).trans rfl,(blk_cell BK579.out 3).trans rfl,(blk_cell BK579.out 4).trans rfl,(blk_cell BK579.out 5).trans rfl,(blk_cell BK579.out 6).trans rfl⟩ (fun hHeld => ?_)
    clear hK K
    refine norm_ (a' := ?_) ?_ ?_
    rotate_left
    ·show Act.put _ (some 15) _ = _
     simp only [Act.put,sB_,sZ_,sS_,i64_w,i32_w]
     rfl
    refine one_ (i := 5) (N := some 18) #[true,true,true,true,true,true,false,false] rfl rfl (one_of HT_.out (by kernel_rfl)) (by decide) (fun K hK => ?_)
    refine goes_ Try.func66 (by kernel_rfl) rfl #[.agg #[.int .i64 a0_0,.int .i64 a0_1,.int .i64 a0_2,.int .i64 a0_3,.int .i64 a0_4,.int .i64 a0_5,.int .i64 a0_6],.int .i64 a1] (by rfl) rfl rfl (by (try simp only [List.map_toArray,List.map_cons,List.map_nil]);first | done | rfl) ?_
    with_reducible refine (gauge_high.calls a0_0 a0_1 a0_2 a0_3 a0_4 a0_5 a0_6 a1 t584 _ A19.out).mono ?_
    rintro e w22 ⟨rfl,hb⟩
    refine ⟨_,rfl,?_⟩
    have n0_ := aM_ (kB_ (g := gb579) (o := .cells #[.int .i64 a0_0,.int .i64 a0_1,.int .i64 a0_2,.int .i64 a0_3,.int .i64 a0_4,.int .i64 a0_5,.int .i64 a0_6] 49 (0,0)) (by (with_reducible repeat (first | refine kN_ ?_ _ | refine kD_ ?_ | refine kA_ ?_ _));exact BK579.out) hb)
    have n1_ := aM_ (kB_ (g := gb580) (o := .cells #[.int .i64 0,.int .i64 0] 34 (0,0)) (by (with_reducible repeat (first | refine kN_ ?_ _ | refine kD_ ?_ | refine kA_ ?_ _));exact BK580.out) hb)
    have n2_ := aM_ (bT_ (by repeat (first | (with_reducible first | exact HB.out | apply bA_ | apply bN_ | apply bD_ | refine bS_ ?_ GE579.out | refine bS_ ?_ GE580.out) | exact HB.out)) hb)
    clear BK579
    clear BK580
    clear HB
    have BK579 := n0_
    have BK580 := n1_
    have HB := n2_
    clear n0_ n1_ n2_
    (try clear hb)
    (try clear hb2)
    (try clear hk)
    (try clear hi)
    refine hK.out _ _ ⟨(blk_cell BK579.out 0).trans rfl,(blk_cell BK579.out 1).trans rfl,(blk_cell BK579.out 2).trans rfl,(blk_cell BK579.out 3).trans rfl,(blk_cell BK579.out 4).trans rfl,(blk_cell BK579.out 5).trans rfl,(blk_cell BK579.out 6).trans rfl⟩ (fun hHeld => ?_)
    clear hK K
    refine norm_ (a' := ?_) ?_ ?_
    rotate_left
    ·show Act.put _ (some 18) _ = _
     simp only [Act.put,sB_,sZ_,sS_,i64_w,i32_w]
     rfl
    refine pure_ (i := 6) (N := some 19) (v := ?_) (a' := ?_) #[true,true,true,true,true,true,true,false] rfl rfl (any_of HT_.out (by kernel_rfl)) (fun _ _ _ h => h) (Or.inl ⟨by rfl,?_⟩) ?_ ?_
    rotate_left
    ·intro w'
     go_simp
     with_reducible rfl
    rotate_left
    ·simp only [Act.put,sB_,sZ_,sS_,i64_w,i32_w]
     rfl
    refine one_ (i := 7) (N := none) #[true,true,true,true,true,true,true,true] rfl rfl (one_of HT_.out (by kernel_rfl)) (by decide) (fun K hK => ?_)
    have hs23 : w22.cell? ⟨gb580,0,none⟩ = some (.int .i64 0) := (blk_cell BK580.out 0).trans rfl
    have hfs23 := blk_frozen BK580.out 0
    have hns23_0 := NB579_580.out
    have hms23_0 := NB580_579.out
    have hs24 : w22.cell? ⟨gb580,1,none⟩ = some (.int .i64 0) := (blk_cell BK580.out 1).trans rfl
    have hfs24 := blk_frozen BK580.out 1
    have hns24_0 := NB579_580.out
    have hms24_0 := NB580_579.out
    refine skip_ (w1 := ?_) (by rfl) rfl ?_ ?_
    rotate_left
    ·go_simp
     rfl
    refine hK.out _ _ ⟨((cell_far (p := ⟨gb580,_,none⟩) NB579_580.out _).trans (((cell_far (p := ⟨gb580,_,none⟩) NB579_580.out _).trans (hHeld.1)))),((cell_far (p := ⟨gb580,_,none⟩) NB579_580.out _).trans (((cell_far (p := ⟨gb580,_,none⟩) NB579_580.out _).trans (hHeld.2.1)))),((cell_far (p := ⟨gb580,_,none⟩) NB579_580.out _).trans (((cell_far (p := ⟨gb580,_,none⟩) NB579_580.out _).trans (hHeld.2.2.1)))),((cell_far (p := ⟨gb580,_,none⟩) NB579_580.out _).trans (((cell_far (p := ⟨gb580,_,none⟩) NB579_580.out _).trans (hHeld.2.2.2.1)))),((cell_far (p := ⟨gb580,_,none⟩) NB579_580.out _).trans (((cell_far (p := ⟨gb580,_,none⟩) NB579_580.out _).trans (hHeld.2.2.2.2.1)))),((cell_far (p := ⟨gb580,_,none⟩) NB579_580.out _).trans (((cell_far (p := ⟨gb580,_,none⟩) NB579_580.out _).trans (hHeld.2.2.2.2.2.1)))),((cell_far (p := ⟨gb580,_,none⟩) NB579_580.out _).trans (((cell_far (p := ⟨gb580,_,none⟩) NB579_580.out _).trans (hHeld.2.2.2.2.2.2))))⟩ (fun hHeld => ?_)
    clear hK K
    refine done_ (done_of HT_.out (by kernel_rfl)) ?_
    try go_wp2
    refine bodyPost_ret (results_cell_row rfl _ _ gb580 34 #[.int .i64 t583,.int .i64 t584] (0,0) _ rfl (by (with_reducible repeat (first | refine kN_ ?_ _ | refine kD_ ?_ | refine kA_ ?_ _));refine blk_put (cs := #[.int .i64 t583,.int .i64 0]) ?_ 1 _ rfl;(with_reducible repeat (first | refine kN_ ?_ _ | refine kD_ ?_ | refine kA_ ?_ _));refine blk_put (cs := #[.int .i64 0,.int .i64 0]) ?_ 0 _ rfl;(with_reducible repeat (first | refine kN_ ?_ _ | refine kD_ ?_ | refine kA_ ?_ _));exact BK580.out) Try.underlying34 rfl (by kernel_rfl)) rfl ?_
    exact ⟨by first | rfl | (simp [*] <;> rfl),by repeat (first | (with_reducible first | exact HB.out | apply bA_ | apply bN_ | apply bD_ | refine bS_ ?_ GE579.out | refine bS_ ?_ GE580.out) | exact HB.out)⟩

-- NOT PRINTED: function 35 (L_accepts)

end Go.Proofs.Ytdbpobadeibjaab.GE
