-- written for this claim by a program of this session (wip/gp), over the kit's own printer; Lean checks it
import Derived.Test.YtdbpobadeibjaabGEx0
import Derived.Test.YtdbpobadeibjaabGEx5
import Derived.Test.YtdbpobadeibjaabGEx6
namespace Go.Proofs.Ytdbpobadeibjaab.GE
open Go.RowKit Go.Proofs.YtdbpobadeibjaabW.PrintWords Go.Proofs.YtdbpobadeibjaabW.PrintLast Go.Proofs.YtdbpobadeibjaabW.PrintMore
attribute [local go_sem] max2_int min2_int max_two min_two max_three min_three max_four min_four
set_option linter.unusedVariables false
set_option linter.unusedSimpArgs false

/-! ### R_Check: function 48 -/
mutual
def R_Check.l0 : Nat → List (S49) → Int → Option (Int)
 | 0,_,_ => none
 | k + 1,x0,x3 => if x3 < (x0.length : Int) then (if 0 ≤ x3 then ((R_checkMaking.f k ((rd_T49 x0 x3).f0.f0) ((rd_T49 x0 x3).f0.f1) ((rd_T49 x0 x3).f1.f0) ((rd_T49 x0 x3).f1.f1) ((rd_T49 x0 x3).f2) ((rd_T49 x0 x3).f3) ((rd_T49 x0 x3).f4)).bind fun t122 => (if t122 = 0 then ((R_beyond.f ((rd_T49 x0 x3).f2) 1 1000000).bind fun t123 => (if t123 = true then (some 2) else ((R_beyond.f ((rd_T49 x0 x3).f4) 0 1000000000).bind fun t124 => (if t124 = true then (some 2) else ((R_beyond.f ((rd_T49 x0 x3).f3) (-1) (wrap64 ((x0.length : Int) - 1))).bind fun t125 => (if t125 = true then (some 2) else (R_Check.l0 k x0 (wrap64 (x3 + 1))))))))) else (some t122))) else (none)) else (R_Check.l1 k x0 0)
def R_Check.l1 : Nat → List (S49) → Int → Option (Int)
 | 0,_,_ => none
 | k + 1,x0,x6 => if x6 < (x0.length : Int) then ((R_chain.f k x0 x6).bind fun bt126 => (if bt126.2 = true then (R_Check.l1 k x0 (wrap64 (x6 + 1))) else (some 13))) else (some 0)
end
def R_Check.f (k : Nat) (l0 : List (S49)) : Option (Int) := if (l0.length : Int) > 12 then (some 8) else (R_Check.l0 k l0 0)
set_option maxHeartbeats 8000000 in
set_option maxRecDepth 100000 in
theorem R_Check.calls (k : Nat) (A0 : Option Addr) (c0 : Nat) (l0 : List (S49)) (r : Int) (w : World) (hr0 : Kd.C k49 w A0 l0.length l0) (hc0 : l0.length ≤ c0) (h : R_Check.f k l0 = some r) :
  Calls Try.prog 48 #[.slice A0 l0.length c0] w fun e w' => e = .returned (.int .i64 r) ∧ Below w.heap.size w w' := by
 have hu49 := Try.underlying49
 have HR0 := aM_ hr0
 have HC0 := aM_ hc0
 clear hr0 hc0
 have HB := aM_ (Below.refl w.heap.size w)
 have H : (if (l0.length : Int) > 12 then (some 8) else (R_Check.l0 k l0 0)) = some r := h
 clear h
 by_cases c2 : (l0.length : Int) > 12
 ·rw [if_pos c2] at H
  have c2b0 : decide (12 < (l0.length : Int)) = true := decide_eq_true c2
  have c2b1 : decide (12 < l0.length) = true := decide_eq_true (by omega)
  clear c2
  obtain rfl := Option.some.inj H
  go_enter Try.func48,Try.ntmps48
  go_wp2
  go_ret
  exact ⟨by first | rfl | (simp [*] <;> rfl),by repeat (first | (with_reducible first | exact HB.out | apply bA_ | apply bN_ | apply bD_) | exact HB.out)⟩
 ·rw [if_neg c2] at H
  have c2b0 : decide (12 < (l0.length : Int)) = false := decide_eq_false c2
  have c2b1 : decide (12 < l0.length) = false := decide_eq_false (by omega)
  clear c2
  have H' := aM_ H
  clear H
  go_enter Try.func48,Try.ntmps48
  go_wp2
  go_loopg [3] k (fun kq v3 w' => ∃ (x3_1 : Int),v3 = .int .i64 x3_1 ∧ Aside0 (R_Check.l0 kq l0 x3_1 = some r) ∧ Aside0 (kq ≤ k) ∧ Aside0 (Below w.heap.size w w'))
  case atStart => exact ⟨(0),(by first | rfl | (simp;done) | (simp [*];done)),H',⟨Nat.le_refl _⟩,⟨by repeat (first | (with_reducible first | exact HB.out | apply bA_ | apply bN_ | apply bD_) | exact HB.out)⟩⟩
  case round =>
   clear H'
   try clear c2
   try clear c2b0
   try clear c2b1
   try clear p2
   obtain ⟨x3_1,rfl,HA,HK1,HB⟩ := hrel
   cases gk with
   | zero => exact absurd HA.out (by simp [R_Check.l0])
   | succ k1 =>
    have H := HA.out
    clear HA
    simp only [R_Check.l0] at H
    by_cases c3 : x3_1 < (l0.length : Int)
    ·rw [if_pos c3] at H
     have c3b0 : decide (x3_1 < (l0.length : Int)) = true := decide_eq_true c3
     clear c3
     by_cases c4 : 0 ≤ x3_1
     ·rw [if_pos c4] at H
      have c4b0 : decide (0 ≤ x3_1) = true := decide_eq_true c4
      clear c4
      replace H := oB_ H
      obtain ⟨t122,A50,H⟩ := H
      replace H : (if t122 = 0 then ((R_beyond.f ((rd_T49 l0 x3_1).f2) 1 1000000).bind fun t123 => (if t123 = true then (some 2) else ((R_beyond.f ((rd_T49 l0 x3_1).f4) 0 1000000000).bind fun t124 => (if t124 = true then (some 2) else ((R_beyond.f ((rd_T49 l0 x3_1).f3) (-1) (wrap64 ((l0.length : Int) - 1))).bind fun t125 => (if t125 = true then (some 2) else (R_Check.l0 k1 l0 (wrap64 (x3_1 + 1))))))))) else (some t122)) = some r := H
      have A5 := aM_ A50
      clear A50
      by_cases c6 : t122 = 0
      ·rw [if_pos c6] at H
       have c6b0 : (t122 == 0) = true := beq_iff_eq.mpr c6
       have c6b1 : (t122 != 0) = false := bne_eq_false_iff_eq.mpr c6
       clear c6
       replace H := oB_ H
       obtain ⟨t123,A70,H⟩ := H
       replace H : (if t123 = true then (some 2) else ((R_beyond.f ((rd_T49 l0 x3_1).f4) 0 1000000000).bind fun t124 => (if t124 = true then (some 2) else ((R_beyond.f ((rd_T49 l0 x3_1).f3) (-1) (wrap64 ((l0.length : Int) - 1))).bind fun t125 => (if t125 = true then (some 2) else (R_Check.l0 k1 l0 (wrap64 (x3_1 + 1)))))))) = some r := H
       have A7 := aM_ A70
       clear A70
       by_cases c8 : t123 = true
       ·subst c8
        have H1 : (some 2) = some r := by rw [if_pos rfl] at H;exact H
        clear H
        have H := H1
        clear H1
        obtain rfl := Option.some.inj H
        have p120 : 0 ≤ (x3_1 : Int) := of_decide_eq_true (by first | (with_reducible assumption) | assumption)
        have q120 : x3_1 < (l0.length : Int) := of_decide_eq_true (by first | (with_reducible assumption) | assumption)
        obtain ⟨ad120,e120,hx120_0,hx120_1,hx120_2,hx120_3,hx120_4,hx120_5,hx120_6⟩ := at_T49 HR0.out x3_1 p120 q120
        cases e120
        replace hx120_0 := (HB.out.cell (World.block_lt_of_cell? w _ hx120_0)).trans hx120_0
        replace hx120_1 := (HB.out.cell (World.block_lt_of_cell? w _ hx120_1)).trans hx120_1
        replace hx120_2 := (HB.out.cell (World.block_lt_of_cell? w _ hx120_2)).trans hx120_2
        replace hx120_3 := (HB.out.cell (World.block_lt_of_cell? w _ hx120_3)).trans hx120_3
        replace hx120_4 := (HB.out.cell (World.block_lt_of_cell? w _ hx120_4)).trans hx120_4
        replace hx120_5 := (HB.out.cell (World.block_lt_of_cell? w _ hx120_5)).trans hx120_5
        replace hx120_6 := (HB.out.cell (World.block_lt_of_cell? w _ hx120_6)).trans hx120_6
        replace p120 := eq_true p120
        replace q120 := eq_true q120
        go_wp2_with (first | ((with_reducible refine gate_dst (N := 4) rfl ?_);refine box_event ?hg (N := 4) ?hd (cs := #[.int .i64 0,.int .i64 0,.int .i64 0,.int .i64 0,.int .i64 0,.int .i64 0,.int .i64 0]) (t := 49) ?hr ?_;(case hd => rfl);(case hg => rfl);(case hr => first | (go_simp;done) | (go_simp;rfl));intro gb121 hg w9 hbox hb;have n0_ := aM_ (bT_ (by repeat (first | (with_reducible first | exact HB.out | apply bA_ | apply bN_ | apply bD_) | exact HB.out)) hb);have n1_ := aM_ (hbox);have n2_ := aM_ ((by rw [hg];exact (below_size (by repeat (first | (with_reducible first | exact HB.out | apply bA_ | apply bN_ | apply bD_) | exact HB.out))) : w.heap.size ≤ gb121));have n3_ := aM_ ((by rw [hg];exact (below_size (by repeat (first | (with_reducible first | exact HB.out | apply bA_ | apply bN_ | apply bD_) | exact HB.out))) : w.heap.size ≤ gb121));clear HB;have HB := n0_;have BK121 := n1_;have GW121 := n2_;have GE121 := n3_;clear n0_ n1_ n2_ n3_;clear hb hbox hg;have hcz10_0 : w9.cell? ⟨gb121,0,none⟩ = some (.int .i64 0) := (blk_cell BK121.out 0).trans rfl;have hcz10_1 : w9.cell? ⟨gb121,1,none⟩ = some (.int .i64 0) := (blk_cell BK121.out 1).trans rfl;have hcz10_2 : w9.cell? ⟨gb121,2,none⟩ = some (.int .i64 0) := (blk_cell BK121.out 2).trans rfl;have hcz10_3 : w9.cell? ⟨gb121,3,none⟩ = some (.int .i64 0) := (blk_cell BK121.out 3).trans rfl;have hcz10_4 : w9.cell? ⟨gb121,4,none⟩ = some (.int .i64 0) := (blk_cell BK121.out 4).trans rfl;have hcz10_5 : w9.cell? ⟨gb121,5,none⟩ = some (.int .i64 0) := (blk_cell BK121.out 5).trans rfl;have hcz10_6 : w9.cell? ⟨gb121,6,none⟩ = some (.int .i64 0) := (blk_cell BK121.out 6).trans rfl;have hfz10_0 := blk_frozen BK121.out 0;have hfz10_1 := blk_frozen BK121.out 1;have hfz10_2 := blk_frozen BK121.out 2;have hfz10_3 := blk_frozen BK121.out 3;have hfz10_4 := blk_frozen BK121.out 4;have hfz10_5 := blk_frozen BK121.out 5;have hfz10_6 := blk_frozen BK121.out 6) | ((with_reducible refine gate_callee (f := 81) rfl ?_);refine goesL_ (some 23) rfl rfl Try.func81 (by kernel_rfl) rfl #[.agg #[.int .i64 ((rd_T49 l0 x3_1).f0.f0),.int .i64 ((rd_T49 l0 x3_1).f0.f1),.int .i64 ((rd_T49 l0 x3_1).f1.f0),.int .i64 ((rd_T49 l0 x3_1).f1.f1),.int .i64 ((rd_T49 l0 x3_1).f2),.int .i64 ((rd_T49 l0 x3_1).f3),.int .i64 ((rd_T49 l0 x3_1).f4)]] rfl (by (try simp only [List.map_toArray,List.map_cons,List.map_nil]);first | done | rfl) ?_;(with_reducible refine (R_checkMaking.calls k1 ((rd_T49 l0 x3_1).f0.f0) ((rd_T49 l0 x3_1).f0.f1) ((rd_T49 l0 x3_1).f1.f0) ((rd_T49 l0 x3_1).f1.f1) ((rd_T49 l0 x3_1).f2) ((rd_T49 l0 x3_1).f3) ((rd_T49 l0 x3_1).f4) t122 _ A5.out).mono ?_);rintro e w11 ⟨rfl,hb⟩;refine ⟨_,rfl,?_⟩;have n0_ := aM_ (kB_ (g := gb121) (o := .cells #[.int .i64 ((rd_T49 l0 x3_1).f0.f0),.int .i64 ((rd_T49 l0 x3_1).f0.f1),.int .i64 ((rd_T49 l0 x3_1).f1.f0),.int .i64 ((rd_T49 l0 x3_1).f1.f1),.int .i64 ((rd_T49 l0 x3_1).f2),.int .i64 ((rd_T49 l0 x3_1).f3),.int .i64 ((rd_T49 l0 x3_1).f4)] 49 (0,0)) (by (with_reducible repeat (first | refine kN_ ?_ _ | refine kD_ ?_ | refine kA_ ?_ _));refine blk_put (cs := #[.int .i64 ((rd_T49 l0 x3_1).f0.f0),.int .i64 ((rd_T49 l0 x3_1).f0.f1),.int .i64 ((rd_T49 l0 x3_1).f1.f0),.int .i64 ((rd_T49 l0 x3_1).f1.f1),.int .i64 ((rd_T49 l0 x3_1).f2),.int .i64 ((rd_T49 l0 x3_1).f3),.int .i64 0]) ?_ 6 _ rfl;(with_reducible repeat (first | refine kN_ ?_ _ | refine kD_ ?_ | refine kA_ ?_ _));refine blk_put (cs := #[.int .i64 ((rd_T49 l0 x3_1).f0.f0),.int .i64 ((rd_T49 l0 x3_1).f0.f1),.int .i64 ((rd_T49 l0 x3_1).f1.f0),.int .i64 ((rd_T49 l0 x3_1).f1.f1),.int .i64 ((rd_T49 l0 x3_1).f2),.int .i64 0,.int .i64 0]) ?_ 5 _ rfl;(with_reducible repeat (first | refine kN_ ?_ _ | refine kD_ ?_ | refine kA_ ?_ _));refine blk_put (cs := #[.int .i64 ((rd_T49 l0 x3_1).f0.f0),.int .i64 ((rd_T49 l0 x3_1).f0.f1),.int .i64 ((rd_T49 l0 x3_1).f1.f0),.int .i64 ((rd_T49 l0 x3_1).f1.f1),.int .i64 0,.int .i64 0,.int .i64 0]) ?_ 4 _ rfl;(with_reducible repeat (first | refine kN_ ?_ _ | refine kD_ ?_ | refine kA_ ?_ _));refine blk_put (cs := #[.int .i64 ((rd_T49 l0 x3_1).f0.f0),.int .i64 ((rd_T49 l0 x3_1).f0.f1),.int .i64 ((rd_T49 l0 x3_1).f1.f0),.int .i64 0,.int .i64 0,.int .i64 0,.int .i64 0]) ?_ 3 _ rfl;(with_reducible repeat (first | refine kN_ ?_ _ | refine kD_ ?_ | refine kA_ ?_ _));refine blk_put (cs := #[.int .i64 ((rd_T49 l0 x3_1).f0.f0),.int .i64 ((rd_T49 l0 x3_1).f0.f1),.int .i64 0,.int .i64 0,.int .i64 0,.int .i64 0,.int .i64 0]) ?_ 2 _ rfl;(with_reducible repeat (first | refine kN_ ?_ _ | refine kD_ ?_ | refine kA_ ?_ _));refine blk_put (cs := #[.int .i64 ((rd_T49 l0 x3_1).f0.f0),.int .i64 0,.int .i64 0,.int .i64 0,.int .i64 0,.int .i64 0,.int .i64 0]) ?_ 1 _ rfl;(with_reducible repeat (first | refine kN_ ?_ _ | refine kD_ ?_ | refine kA_ ?_ _));refine blk_put (cs := #[.int .i64 0,.int .i64 0,.int .i64 0,.int .i64 0,.int .i64 0,.int .i64 0,.int .i64 0]) ?_ 0 _ rfl;(with_reducible repeat (first | refine kN_ ?_ _ | refine kD_ ?_ | refine kA_ ?_ _));exact BK121.out) hb);have n1_ := aM_ (bT_ (by repeat (first | (with_reducible first | exact HB.out | apply bA_ | apply bN_ | apply bD_ | refine bS_ ?_ GE121.out) | exact HB.out)) hb);clear BK121;clear HB;have BK121 := n0_;have HB := n1_;clear n0_ n1_;(try clear hb);(try clear hb2);(try clear hk);(try clear hi);have hcz12_0 : w11.cell? ⟨gb121,0,none⟩ = some (.int .i64 ((rd_T49 l0 x3_1).f0.f0)) := (blk_cell BK121.out 0).trans rfl;have hcz12_1 : w11.cell? ⟨gb121,1,none⟩ = some (.int .i64 ((rd_T49 l0 x3_1).f0.f1)) := (blk_cell BK121.out 1).trans rfl;have hcz12_2 : w11.cell? ⟨gb121,2,none⟩ = some (.int .i64 ((rd_T49 l0 x3_1).f1.f0)) := (blk_cell BK121.out 2).trans rfl;have hcz12_3 : w11.cell? ⟨gb121,3,none⟩ = some (.int .i64 ((rd_T49 l0 x3_1).f1.f1)) := (blk_cell BK121.out 3).trans rfl;have hcz12_4 : w11.cell? ⟨gb121,4,none⟩ = some (.int .i64 ((rd_T49 l0 x3_1).f2)) := (blk_cell BK121.out 4).trans rfl;have hcz12_5 : w11.cell? ⟨gb121,5,none⟩ = some (.int .i64 ((rd_T49 l0 x3_1).f3)) := (blk_cell BK121.out 5).trans rfl;have hcz12_6 : w11.cell? ⟨gb121,6,none⟩ = some (.int .i64 ((rd_T49 l0 x3_1).f4)) := (blk_cell BK121.out 6).trans rfl;have hfz12_0 := blk_frozen BK121.out 0;have hfz12_1 := blk_frozen BK121.out 1;have hfz12_2 := blk_frozen BK121.out 2;have hfz12_3 := blk_frozen BK121.out 3;have hfz12_4 := blk_frozen BK121.out 4;have hfz12_5 := blk_frozen BK121.out 5;have hfz12_6 := blk_frozen BK121.out 6) | ((with_reducible refine gate_callee (f := 49) rfl ?_);refine goesL_ (some 29) rfl rfl Try.func49 (by kernel_rfl) rfl #[.int .i64 ((rd_T49 l0 x3_1).f2),.int .i64 1,.int .i64 1000000] rfl (by (try simp only [List.map_toArray,List.map_cons,List.map_nil]);first | done | rfl) ?_;(with_reducible refine (R_beyond.calls ((rd_T49 l0 x3_1).f2) 1 1000000 true _ A7.out).mono ?_);rintro e w' ⟨rfl,⟨nd,rfl⟩⟩;refine ⟨_,rfl,?_⟩))
        go_ret
        exact ⟨by first | rfl | (simp [*] <;> rfl),by repeat (first | (with_reducible first | exact HB.out | apply bA_ | apply bN_ | apply bD_ | refine bS_ ?_ GE121.out) | exact HB.out)⟩
       ·replace c8 := Bool.eq_false_iff.mpr c8
        subst c8
        have H1 : ((R_beyond.f ((rd_T49 l0 x3_1).f4) 0 1000000000).bind fun t124 => (if t124 = true then (some 2) else ((R_beyond.f ((rd_T49 l0 x3_1).f3) (-1) (wrap64 ((l0.length : Int) - 1))).bind fun t125 => (if t125 = true then (some 2) else (R_Check.l0 k1 l0 (wrap64 (x3_1 + 1))))))) = some r := by rw [if_neg (show ¬ (false = true) by decide)] at H;exact H
        clear H
        have H := H1
        clear H1
        replace H := oB_ H
        obtain ⟨t124,A130,H⟩ := H
        replace H : (if t124 = true then (some 2) else ((R_beyond.f ((rd_T49 l0 x3_1).f3) (-1) (wrap64 ((l0.length : Int) - 1))).bind fun t125 => (if t125 = true then (some 2) else (R_Check.l0 k1 l0 (wrap64 (x3_1 + 1)))))) = some r := H
        have A13 := aM_ A130
        clear A130
        by_cases c14 : t124 = true
        ·subst c14
         have H1 : (some 2) = some r := by rw [if_pos rfl] at H;exact H
         clear H
         have H := H1
         clear H1
         obtain rfl := Option.some.inj H
         have p120 : 0 ≤ (x3_1 : Int) := of_decide_eq_true (by first | (with_reducible assumption) | assumption)
         have q120 : x3_1 < (l0.length : Int) := of_decide_eq_true (by first | (with_reducible assumption) | assumption)
         obtain ⟨ad120,e120,hx120_0,hx120_1,hx120_2,hx120_3,hx120_4,hx120_5,hx120_6⟩ := at_T49 HR0.out x3_1 p120 q120
         cases e120
         replace hx120_0 := (HB.out.cell (World.block_lt_of_cell? w _ hx120_0)).trans hx120_0
         replace hx120_1 := (HB.out.cell (World.block_lt_of_cell? w _ hx120_1)).trans hx120_1
         replace hx120_2 := (HB.out.cell (World.block_lt_of_cell? w _ hx120_2)).trans hx120_2
         replace hx120_3 := (HB.out.cell (World.block_lt_of_cell? w _ hx120_3)).trans hx120_3
         replace hx120_4 := (HB.out.cell (World.block_lt_of_cell? w _ hx120_4)).trans hx120_4
         replace hx120_5 := (HB.out.cell (World.block_lt_of_cell? w _ hx120_5)).trans hx120_5
         replace hx120_6 := (HB.out.cell (World.block_lt_of_cell? w _ hx120_6)).trans hx120_6
         replace p120 := eq_true p120
         replace q120 := eq_true q120
         go_wp2_with (first | ((with_reducible refine gate_dst (N := 4) rfl ?_);refine box_event ?hg (N := 4) ?hd (cs := #[.int .i64 0,.int .i64 0,.int .i64 0,.int .i64 0,.int .i64 0,.int .i64 0,.int .i64 0]) (t := 49) ?hr ?_;(case hd => rfl);(case hg => rfl);(case hr => first | (go_simp;done) | (go_simp;rfl));intro gb121 hg w15 hbox hb;have n0_ := aM_ (bT_ (by repeat (first | (with_reducible first | exact HB.out | apply bA_ | apply bN_ | apply bD_) | exact HB.out)) hb);have n1_ := aM_ (hbox);have n2_ := aM_ ((by rw [hg];exact (below_size (by repeat (first | (with_reducible first | exact HB.out | apply bA_ | apply bN_ | apply bD_) | exact HB.out))) : w.heap.size ≤ gb121));have n3_ := aM_ ((by rw [hg];exact (below_size (by repeat (first | (with_reducible first | exact HB.out | apply bA_ | apply bN_ | apply bD_) | exact HB.out))) : w.heap.size ≤ gb121));clear HB;have HB := n0_;have BK121 := n1_;have GW121 := n2_;have GE121 := n3_;clear n0_ n1_ n2_ n3_;clear hb hbox hg;have hcz16_0 : w15.cell? ⟨gb121,0,none⟩ = some (.int .i64 0) := (blk_cell BK121.out 0).trans rfl;have hcz16_1 : w15.cell? ⟨gb121,1,none⟩ = some (.int .i64 0) := (blk_cell BK121.out 1).trans rfl;have hcz16_2 : w15.cell? ⟨gb121,2,none⟩ = some (.int .i64 0) := (blk_cell BK121.out 2).trans rfl;have hcz16_3 : w15.cell? ⟨gb121,3,none⟩ = some (.int .i64 0) := (blk_cell BK121.out 3).trans rfl;have hcz16_4 : w15.cell? ⟨gb121,4,none⟩ = some (.int .i64 0) := (blk_cell BK121.out 4).trans rfl;have hcz16_5 : w15.cell? ⟨gb121,5,none⟩ = some (.int .i64 0) := (blk_cell BK121.out 5).trans rfl;have hcz16_6 : w15.cell? ⟨gb121,6,none⟩ = some (.int .i64 0) := (blk_cell BK121.out 6).trans rfl;have hfz16_0 := blk_frozen BK121.out 0;have hfz16_1 := blk_frozen BK121.out 1;have hfz16_2 := blk_frozen BK121.out 2;have hfz16_3 := blk_frozen BK121.out 3;have hfz16_4 := blk_frozen BK121.out 4;have hfz16_5 := blk_frozen BK121.out 5;have hfz16_6 := blk_frozen BK121.out 6) | ((with_reducible refine gate_callee (f := 81) rfl ?_);refine goesL_ (some 23) rfl rfl Try.func81 (by kernel_rfl) rfl #[.agg #[.int .i64 ((rd_T49 l0 x3_1).f0.f0),.int .i64 ((rd_T49 l0 x3_1).f0.f1),.int .i64 ((rd_T49 l0 x3_1).f1.f0),.int .i64 ((rd_T49 l0 x3_1).f1.f1),.int .i64 ((rd_T49 l0 x3_1).f2),.int .i64 ((rd_T49 l0 x3_1).f3),.int .i64 ((rd_T49 l0 x3_1).f4)]] rfl (by (try simp only [List.map_toArray,List.map_cons,List.map_nil]);first | done | rfl) ?_;(with_reducible refine (R_checkMaking.calls k1 ((rd_T49 l0 x3_1).f0.f0) ((rd_T49 l0 x3_1).f0.f1) ((rd_T49 l0 x3_1).f1.f0) ((rd_T49 l0 x3_1).f1.f1) ((rd_T49 l0 x3_1).f2) ((rd_T49 l0 x3_1).f3) ((rd_T49 l0 x3_1).f4) t122 _ A5.out).mono ?_);rintro e w17 ⟨rfl,hb⟩;refine ⟨_,rfl,?_⟩;have n0_ := aM_ (kB_ (g := gb121) (o := .cells #[.int .i64 ((rd_T49 l0 x3_1).f0.f0),.int .i64 ((rd_T49 l0 x3_1).f0.f1),.int .i64 ((rd_T49 l0 x3_1).f1.f0),.int .i64 ((rd_T49 l0 x3_1).f1.f1),.int .i64 ((rd_T49 l0 x3_1).f2),.int .i64 ((rd_T49 l0 x3_1).f3),.int .i64 ((rd_T49 l0 x3_1).f4)] 49 (0,0)) (by (with_reducible repeat (first | refine kN_ ?_ _ | refine kD_ ?_ | refine kA_ ?_ _));refine blk_put (cs := #[.int .i64 ((rd_T49 l0 x3_1).f0.f0),.int .i64 ((rd_T49 l0 x3_1).f0.f1),.int .i64 ((rd_T49 l0 x3_1).f1.f0),.int .i64 ((rd_T49 l0 x3_1).f1.f1),.int .i64 ((rd_T49 l0 x3_1).f2),.int .i64 ((rd_T49 l0 x3_1).f3),.int .i64 0]) ?_ 6 _ rfl;(with_reducible repeat (first | refine kN_ ?_ _ | refine kD_ ?_ | refine kA_ ?_ _));refine blk_put (cs := #[.int .i64 ((rd_T49 l0 x3_1).f0.f0),.int .i64 ((rd_T49 l0 x3_1).f0.f1),.int .i64 ((rd_T49 l0 x3_1).f1.f0),.int .i64 ((rd_T49 l0 x3_1).f1.f1),.int .i64 ((rd_T49 l0 x3_1).f2),.int .i64 0,.int .i64 0]) ?_ 5 _ rfl;(with_reducible repeat (first | refine kN_ ?_ _ | refine kD_ ?_ | refine kA_ ?_ _));refine blk_put (cs := #[.int .i64 ((rd_T49 l0 x3_1).f0.f0),.int .i64 ((rd_T49 l0 x3_1).f0.f1),.int .i64 ((rd_T49 l0 x3_1).f1.f0),.int .i64 ((rd_T49 l0 x3_1).f1.f1),.int .i64 0,.int .i64 0,.int .i64 0]) ?_ 4 _ rfl;(with_reducible repeat (first | refine kN_ ?_ _ | refine kD_ ?_ | refine kA_ ?_ _));refine blk_put (cs := #[.int .i64 ((rd_T49 l0 x3_1).f0.f0),.int .i64 ((rd_T49 l0 x3_1).f0.f1),.int .i64 ((rd_T49 l0 x3_1).f1.f0),.int .i64 0,.int .i64 0,.int .i64 0,.int .i64 0]) ?_ 3 _ rfl;(with_reducible repeat (first | refine kN_ ?_ _ | refine kD_ ?_ | refine kA_ ?_ _));refine blk_put (cs := #[.int .i64 ((rd_T49 l0 x3_1).f0.f0),.int .i64 ((rd_T49 l0 x3_1).f0.f1),.int .i64 0,.int .i64 0,.int .i64 0,.int .i64 0,.int .i64 0]) ?_ 2 _ rfl;(with_reducible repeat (first | refine kN_ ?_ _ | refine kD_ ?_ | refine kA_ ?_ _));refine blk_put (cs := #[.int .i64 ((rd_T49 l0 x3_1).f0.f0),.int .i64 0,.int .i64 0,.int .i64 0,.int .i64 0,.int .i64 0,.int .i64 0]) ?_ 1 _ rfl;(with_reducible repeat (first | refine kN_ ?_ _ | refine kD_ ?_ | refine kA_ ?_ _));refine blk_put (cs := #[.int .i64 0,.int .i64 0,.int .i64 0,.int .i64 0,.int .i64 0,.int .i64 0,.int .i64 0]) ?_ 0 _ rfl;(with_reducible repeat (first | refine kN_ ?_ _ | refine kD_ ?_ | refine kA_ ?_ _));exact BK121.out) hb);have n1_ := aM_ (bT_ (by repeat (first | (with_reducible first | exact HB.out | apply bA_ | apply bN_ | apply bD_ | refine bS_ ?_ GE121.out) | exact HB.out)) hb);clear BK121;clear HB;have BK121 := n0_;have HB := n1_;clear n0_ n1_;(try clear hb);(try clear hb2);(try clear hk);(try clear hi);have hcz18_0 : w17.cell? ⟨gb121,0,none⟩ = some (.int .i64 ((rd_T49 l0 x3_1).f0.f0)) := (blk_cell BK121.out 0).trans rfl;have hcz18_1 : w17.cell? ⟨gb121,1,none⟩ = some (.int .i64 ((rd_T49 l0 x3_1).f0.f1)) := (blk_cell BK121.out 1).trans rfl;have hcz18_2 : w17.cell? ⟨gb121,2,none⟩ = some (.int .i64 ((rd_T49 l0 x3_1).f1.f0)) := (blk_cell BK121.out 2).trans rfl;have hcz18_3 : w17.cell? ⟨gb121,3,none⟩ = some (.int .i64 ((rd_T49 l0 x3_1).f1.f1)) := (blk_cell BK121.out 3).trans rfl;have hcz18_4 : w17.cell? ⟨gb121,4,none⟩ = some (.int .i64 ((rd_T49 l0 x3_1).f2)) := (blk_cell BK121.out 4).trans rfl;have hcz18_5 : w17.cell? ⟨gb121,5,none⟩ = some (.int .i64 ((rd_T49 l0 x3_1).f3)) := (blk_cell BK121.out 5).trans rfl;have hcz18_6 : w17.cell? ⟨gb121,6,none⟩ = some (.int .i64 ((rd_T49 l0 x3_1).f4)) := (blk_cell BK121.out 6).trans rfl;have hfz18_0 := blk_frozen BK121.out 0;have hfz18_1 := blk_frozen BK121.out 1;have hfz18_2 := blk_frozen BK121.out 2;have hfz18_3 := blk_frozen BK121.out 3;have hfz18_4 := blk_frozen BK121.out 4;have hfz18_5 := blk_frozen BK121.out 5;have hfz18_6 := blk_frozen BK121.out 6) | ((with_reducible refine gate_callee (f := 49) rfl ?_);refine goesL_ (some 29) rfl rfl Try.func49 (by kernel_rfl) rfl #[.int .i64 ((rd_T49 l0 x3_1).f2),.int .i64 1,.int .i64 1000000] rfl (by (try simp only [List.map_toArray,List.map_cons,List.map_nil]);first | done | rfl) ?_;(with_reducible refine (R_beyond.calls ((rd_T49 l0 x3_1).f2) 1 1000000 false _ A7.out).mono ?_);rintro e w' ⟨rfl,⟨nd,rfl⟩⟩;refine ⟨_,rfl,?_⟩) | (go_at_call 49;(with_reducible refine (R_beyond.calls ((rd_T49 l0 x3_1).f4) 0 1000000000 true _ A13.out).mono ?_);rintro e w' ⟨rfl,⟨nd,rfl⟩⟩))
         go_ret
         exact ⟨by first | rfl | (simp [*] <;> rfl),by repeat (first | (with_reducible first | exact HB.out | apply bA_ | apply bN_ | apply bD_ | refine bS_ ?_ GE121.out) | exact HB.out)⟩
        ·replace c14 := Bool.eq_false_iff.mpr c14
         subst c14
         have H1 : ((R_beyond.f ((rd_T49 l0 x3_1).f3) (-1) (wrap64 ((l0.length : Int) - 1))).bind fun t125 => (if t125 = true then (some 2) else (R_Check.l0 k1 l0 (wrap64 (x3_1 + 1))))) = some r := by rw [if_neg (show ¬ (false = true) by decide)] at H;exact H
         clear H
         have H := H1
         clear H1
         replace H := oB_ H
         obtain ⟨t125,A190,H⟩ := H
         replace H : (if t125 = true then (some 2) else (R_Check.l0 k1 l0 (wrap64 (x3_1 + 1)))) = some r := H
         have A19 := aM_ A190
         clear A190
         by_cases c20 : t125 = true
         ·subst c20
          have H1 : (some 2) = some r := by rw [if_pos rfl] at H;exact H
          clear H
          have H := H1
          clear H1
          obtain rfl := Option.some.inj H
          have p120 : 0 ≤ (x3_1 : Int) := of_decide_eq_true (by first | (with_reducible assumption) | assumption)
          have q120 : x3_1 < (l0.length : Int) := of_decide_eq_true (by first | (with_reducible assumption) | assumption)
          obtain ⟨ad120,e120,hx120_0,hx120_1,hx120_2,hx120_3,hx120_4,hx120_5,hx120_6⟩ := at_T49 HR0.out x3_1 p120 q120
          cases e120
          replace hx120_0 := (HB.out.cell (World.block_lt_of_cell? w _ hx120_0)).trans hx120_0
          replace hx120_1 := (HB.out.cell (World.block_lt_of_cell? w _ hx120_1)).trans hx120_1
          replace hx120_2 := (HB.out.cell (World.block_lt_of_cell? w _ hx120_2)).trans hx120_2
          replace hx120_3 := (HB.out.cell (World.block_lt_of_cell? w _ hx120_3)).trans hx120_3
          replace hx120_4 := (HB.out.cell (World.block_lt_of_cell? w _ hx120_4)).trans hx120_4
          replace hx120_5 := (HB.out.cell (World.block_lt_of_cell? w _ hx120_5)).trans hx120_5
          replace hx120_6 := (HB.out.cell (World.block_lt_of_cell? w _ hx120_6)).trans hx120_6
          replace p120 := eq_true p120
          replace q120 := eq_true q120
          go_wp2_with (first | ((with_reducible refine gate_dst (N := 4) rfl ?_);refine box_event ?hg (N := 4) ?hd (cs := #[.int .i64 0,.int .i64 0,.int .i64 0,.int .i64 0,.int .i64 0,.int .i64 0,.int .i64 0]) (t := 49) ?hr ?_;(case hd => rfl);(case hg => rfl);(case hr => first | (go_simp;done) | (go_simp;rfl));intro gb121 hg w21 hbox hb;have n0_ := aM_ (bT_ (by repeat (first | (with_reducible first | exact HB.out | apply bA_ | apply bN_ | apply bD_) | exact HB.out)) hb);have n1_ := aM_ (hbox);have n2_ := aM_ ((by rw [hg];exact (below_size (by repeat (first | (with_reducible first | exact HB.out | apply bA_ | apply bN_ | apply bD_) | exact HB.out))) : w.heap.size ≤ gb121));have n3_ := aM_ ((by rw [hg];exact (below_size (by repeat (first | (with_reducible first | exact HB.out | apply bA_ | apply bN_ | apply bD_) | exact HB.out))) : w.heap.size ≤ gb121));clear HB;have HB := n0_;have BK121 := n1_;have GW121 := n2_;have GE121 := n3_;clear n0_ n1_ n2_ n3_;clear hb hbox hg;have hcz22_0 : w21.cell? ⟨gb121,0,none⟩ = some (.int .i64 0) := (blk_cell BK121.out 0).trans rfl;have hcz22_1 : w21.cell? ⟨gb121,1,none⟩ = some (.int .i64 0) := (blk_cell BK121.out 1).trans rfl;have hcz22_2 : w21.cell? ⟨gb121,2,none⟩ = some (.int .i64 0) := (blk_cell BK121.out 2).trans rfl;have hcz22_3 : w21.cell? ⟨gb121,3,none⟩ = some (.int .i64 0) := (blk_cell BK121.out 3).trans rfl;have hcz22_4 : w21.cell? ⟨gb121,4,none⟩ = some (.int .i64 0) := (blk_cell BK121.out 4).trans rfl;have hcz22_5 : w21.cell? ⟨gb121,5,none⟩ = some (.int .i64 0) := (blk_cell BK121.out 5).trans rfl;have hcz22_6 : w21.cell? ⟨gb121,6,none⟩ = some (.int .i64 0) := (blk_cell BK121.out 6).trans rfl;have hfz22_0 := blk_frozen BK121.out 0;have hfz22_1 := blk_frozen BK121.out 1;have hfz22_2 := blk_frozen BK121.out 2;have hfz22_3 := blk_frozen BK121.out 3;have hfz22_4 := blk_frozen BK121.out 4;have hfz22_5 := blk_frozen BK121.out 5;have hfz22_6 := blk_frozen BK121.out 6) | ((with_reducible refine gate_callee (f := 81) rfl ?_);refine goesL_ (some 23) rfl rfl Try.func81 (by kernel_rfl) rfl #[.agg #[.int .i64 ((rd_T49 l0 x3_1).f0.f0),.int .i64 ((rd_T49 l0 x3_1).f0.f1),.int .i64 ((rd_T49 l0 x3_1).f1.f0),.int .i64 ((rd_T49 l0 x3_1).f1.f1),.int .i64 ((rd_T49 l0 x3_1).f2),.int .i64 ((rd_T49 l0 x3_1).f3),.int .i64 ((rd_T49 l0 x3_1).f4)]] rfl (by (try simp only [List.map_toArray,List.map_cons,List.map_nil]);first | done | rfl) ?_;(with_reducible refine (R_checkMaking.calls k1 ((rd_T49 l0 x3_1).f0.f0) ((rd_T49 l0 x3_1).f0.f1) ((rd_T49 l0 x3_1).f1.f0) ((rd_T49 l0 x3_1).f1.f1) ((rd_T49 l0 x3_1).f2) ((rd_T49 l0 x3_1).f3) ((rd_T49 l0 x3_1).f4) t122 _ A5.out).mono ?_);rintro e w23 ⟨rfl,hb⟩;refine ⟨_,rfl,?_⟩;have n0_ := aM_ (kB_ (g := gb121) (o := .cells #[.int .i64 ((rd_T49 l0 x3_1).f0.f0),.int .i64 ((rd_T49 l0 x3_1).f0.f1),.int .i64 ((rd_T49 l0 x3_1).f1.f0),.int .i64 ((rd_T49 l0 x3_1).f1.f1),.int .i64 ((rd_T49 l0 x3_1).f2),.int .i64 ((rd_T49 l0 x3_1).f3),.int .i64 ((rd_T49 l0 x3_1).f4)] 49 (0,0)) (by (with_reducible repeat (first | refine kN_ ?_ _ | refine kD_ ?_ | refine kA_ ?_ _));refine blk_put (cs := #[.int .i64 ((rd_T49 l0 x3_1).f0.f0),.int .i64 ((rd_T49 l0 x3_1).f0.f1),.int .i64 ((rd_T49 l0 x3_1).f1.f0),.int .i64 ((rd_T49 l0 x3_1).f1.f1),.int .i64 ((rd_T49 l0 x3_1).f2),.int .i64 ((rd_T49 l0 x3_1).f3),.int .i64 0]) ?_ 6 _ rfl;(with_reducible repeat (first | refine kN_ ?_ _ | refine kD_ ?_ | refine kA_ ?_ _));refine blk_put (cs := #[.int .i64 ((rd_T49 l0 x3_1).f0.f0),.int .i64 ((rd_T49 l0 x3_1).f0.f1),.int .i64 ((rd_T49 l0 x3_1).f1.f0),.int .i64 ((rd_T49 l0 x3_1).f1.f1),.int .i64 ((rd_T49 l0 x3_1).f2),.int .i64 0,.int .i64 0]) ?_ 5 _ rfl;(with_reducible repeat (first | refine kN_ ?_ _ | refine kD_ ?_ | refine kA_ ?_ _));refine blk_put (cs := #[.int .i64 ((rd_T49 l0 x3_1).f0.f0),.int .i64 ((rd_T49 l0 x3_1).f0.f1),.int .i64 ((rd_T49 l0 x3_1).f1.f0),.int .i64 ((rd_T49 l0 x3_1).f1.f1),.int .i64 0,.int .i64 0,.int .i64 0]) ?_ 4 _ rfl;(with_reducible repeat (first | refine kN_ ?_ _ | refine kD_ ?_ | refine kA_ ?_ _));refine blk_put (cs := #[.int .i64 ((rd_T49 l0 x3_1).f0.f0),.int .i64 ((rd_T49 l0 x3_1).f0.f1),.int .i64 ((rd_T49 l0 x3_1).f1.f0),.int .i64 0,.int .i64 0,.int .i64 0,.int .i64 0]) ?_ 3 _ rfl;(with_reducible repeat (first | refine kN_ ?_ _ | refine kD_ ?_ | refine kA_ ?_ _));refine blk_put (cs := #[.int .i64 ((rd_T49 l0 x3_1).f0.f0),.int .i64 ((rd_T49 l0 x3_1).f0.f1),.int .i64 0,.int .i64 0,.int .i64 0,.int .i64 0,.int .i64 0]) ?_ 2 _ rfl;(with_reducible repeat (first | refine kN_ ?_ _ | refine kD_ ?_ | refine kA_ ?_ _));refine blk_put (cs := #[.int .i64 ((rd_T49 l0 x3_1).f0.f0),.int .i64 0,.int .i64 0,.int .i64 0,.int .i64 0,.int .i64 0,.int .i64 0]) ?_ 1 _ rfl;(with_reducible repeat (first | refine kN_ ?_ _ | refine kD_ ?_ | refine kA_ ?_ _));refine blk_put (cs := #[.int .i64 0,.int .i64 0,.int .i64 0,.int .i64 0,.int .i64 0,.int .i64 0,.int .i64 0]) ?_ 0 _ rfl;(with_reducible repeat (first | refine kN_ ?_ _ | refine kD_ ?_ | refine kA_ ?_ _));exact BK121.out) hb);have n1_ := aM_ (bT_ (by repeat (first | (with_reducible first | exact HB.out | apply bA_ | apply bN_ | apply bD_ | refine bS_ ?_ GE121.out) | exact HB.out)) hb);clear BK121;clear HB;have BK121 := n0_;have HB := n1_;clear n0_ n1_;(try clear hb);(try clear hb2);(try clear hk);(try clear hi);have hcz24_0 : w23.cell? ⟨gb121,0,none⟩ = some (.int .i64 ((rd_T49 l0 x3_1).f0.f0)) := (blk_cell BK121.out 0).trans rfl;have hcz24_1 : w23.cell? ⟨gb121,1,none⟩ = some (.int .i64 ((rd_T49 l0 x3_1).f0.f1)) := (blk_cell BK121.out 1).trans rfl;have hcz24_2 : w23.cell? ⟨gb121,2,none⟩ = some (.int .i64 ((rd_T49 l0 x3_1).f1.f0)) := (blk_cell BK121.out 2).trans rfl;have hcz24_3 : w23.cell? ⟨gb121,3,none⟩ = some (.int .i64 ((rd_T49 l0 x3_1).f1.f1)) := (blk_cell BK121.out 3).trans rfl;have hcz24_4 : w23.cell? ⟨gb121,4,none⟩ = some (.int .i64 ((rd_T49 l0 x3_1).f2)) := (blk_cell BK121.out 4).trans rfl;have hcz24_5 : w23.cell? ⟨gb121,5,none⟩ = some (.int .i64 ((rd_T49 l0 x3_1).f3)) := (blk_cell BK121.out 5).trans rfl;have hcz24_6 : w23.cell? ⟨gb121,6,none⟩ = some (.int .i64 ((rd_T49 l0 x3_1).f4)) := (blk_cell BK121.out 6).trans rfl;have hfz24_0 := blk_frozen BK121.out 0;have hfz24_1 := blk_frozen BK121.out 1;have hfz24_2 := blk_frozen BK121.out 2;have hfz24_3 := blk_frozen BK121.out 3;have hfz24_4 := blk_frozen BK121.out 4;have hfz24_5 := blk_frozen BK121.out 5;have hfz24_6 := blk_frozen BK121.out 6) | ((with_reducible refine gate_callee (f := 49) rfl ?_);refine goesL_ (some 29) rfl rfl Try.func49 (by kernel_rfl) rfl #[.int .i64 ((rd_T49 l0 x3_1).f2),.int .i64 1,.int .i64 1000000] rfl (by (try simp only [List.map_toArray,List.map_cons,List.map_nil]);first | done | rfl) ?_;(with_reducible refine (R_beyond.calls ((rd_T49 l0 x3_1).f2) 1 1000000 false _ A7.out).mono ?_);rintro e w' ⟨rfl,⟨nd,rfl⟩⟩;refine ⟨_,rfl,?_⟩) | (go_at_call 49;(with_reducible refine (R_beyond.calls ((rd_T49 l0 x3_1).f4) 0 1000000000 false _ A13.out).mono ?_);rintro e w' ⟨rfl,⟨nd,rfl⟩⟩) | (go_at_call 49;(with_reducible refine (R_beyond.calls ((rd_T49 l0 x3_1).f3) (-1) (wrap64 ((l0.length : Int) - 1)) true _ A19.out).mono ?_);rintro e w' ⟨rfl,⟨nd,rfl⟩⟩))
          go_ret
          exact ⟨by first | rfl | (simp [*] <;> rfl),by repeat (first | (with_reducible first | exact HB.out | apply bA_ | apply bN_ | apply bD_ | refine bS_ ?_ GE121.out) | exact HB.out)⟩
         ·replace c20 := Bool.eq_false_iff.mpr c20
          subst c20
          have H1 : (R_Check.l0 k1 l0 (wrap64 (x3_1 + 1))) = some r := by rw [if_neg (show ¬ (false = true) by decide)] at H;exact H
          clear H
          have H := H1
          clear H1
          have H' := aM_ H
          clear H
          have p120 : 0 ≤ (x3_1 : Int) := of_decide_eq_true (by first | (with_reducible assumption) | assumption)
          have q120 : x3_1 < (l0.length : Int) := of_decide_eq_true (by first | (with_reducible assumption) | assumption)
          obtain ⟨ad120,e120,hx120_0,hx120_1,hx120_2,hx120_3,hx120_4,hx120_5,hx120_6⟩ := at_T49 HR0.out x3_1 p120 q120
          cases e120
          replace hx120_0 := (HB.out.cell (World.block_lt_of_cell? w _ hx120_0)).trans hx120_0
          replace hx120_1 := (HB.out.cell (World.block_lt_of_cell? w _ hx120_1)).trans hx120_1
          replace hx120_2 := (HB.out.cell (World.block_lt_of_cell? w _ hx120_2)).trans hx120_2
          replace hx120_3 := (HB.out.cell (World.block_lt_of_cell? w _ hx120_3)).trans hx120_3
          replace hx120_4 := (HB.out.cell (World.block_lt_of_cell? w _ hx120_4)).trans hx120_4
          replace hx120_5 := (HB.out.cell (World.block_lt_of_cell? w _ hx120_5)).trans hx120_5
          replace hx120_6 := (HB.out.cell (World.block_lt_of_cell? w _ hx120_6)).trans hx120_6
          replace p120 := eq_true p120
          replace q120 := eq_true q120
          go_wp2_with (first | ((with_reducible refine gate_dst (N := 4) rfl ?_);refine box_event ?hg (N := 4) ?hd (cs := #[.int .i64 0,.int .i64 0,.int .i64 0,.int .i64 0,.int .i64 0,.int .i64 0,.int .i64 0]) (t := 49) ?hr ?_;(case hd => rfl);(case hg => rfl);(case hr => first | (go_simp;done) | (go_simp;rfl));intro gb121 hg w25 hbox hb;have n0_ := aM_ (bT_ (by repeat (first | (with_reducible first | exact HB.out | apply bA_ | apply bN_ | apply bD_) | exact HB.out)) hb);have n1_ := aM_ (hbox);have n2_ := aM_ ((by rw [hg];exact (below_size (by repeat (first | (with_reducible first | exact HB.out | apply bA_ | apply bN_ | apply bD_) | exact HB.out))) : w.heap.size ≤ gb121));have n3_ := aM_ ((by rw [hg];exact (below_size (by repeat (first | (with_reducible first | exact HB.out | apply bA_ | apply bN_ | apply bD_) | exact HB.out))) : w.heap.size ≤ gb121));clear HB;have HB := n0_;have BK121 := n1_;have GW121 := n2_;have GE121 := n3_;clear n0_ n1_ n2_ n3_;clear hb hbox hg;have hcz26_0 : w25.cell? ⟨gb121,0,none⟩ = some (.int .i64 0) := (blk_cell BK121.out 0).trans rfl;have hcz26_1 : w25.cell? ⟨gb121,1,none⟩ = some (.int .i64 0) := (blk_cell BK121.out 1).trans rfl;have hcz26_2 : w25.cell? ⟨gb121,2,none⟩ = some (.int .i64 0) := (blk_cell BK121.out 2).trans rfl;have hcz26_3 : w25.cell? ⟨gb121,3,none⟩ = some (.int .i64 0) := (blk_cell BK121.out 3).trans rfl;have hcz26_4 : w25.cell? ⟨gb121,4,none⟩ = some (.int .i64 0) := (blk_cell BK121.out 4).trans rfl;have hcz26_5 : w25.cell? ⟨gb121,5,none⟩ = some (.int .i64 0) := (blk_cell BK121.out 5).trans rfl;have hcz26_6 : w25.cell? ⟨gb121,6,none⟩ = some (.int .i64 0) := (blk_cell BK121.out 6).trans rfl;have hfz26_0 := blk_frozen BK121.out 0;have hfz26_1 := blk_frozen BK121.out 1;have hfz26_2 := blk_frozen BK121.out 2;have hfz26_3 := blk_frozen BK121.out 3;have hfz26_4 := blk_frozen BK121.out 4;have hfz26_5 := blk_frozen BK121.out 5;have hfz26_6 := blk_frozen BK121.out 6) | ((with_reducible refine gate_callee (f := 81) rfl ?_);refine goesL_ (some 23) rfl rfl Try.func81 (by kernel_rfl) rfl #[.agg #[.int .i64 ((rd_T49 l0 x3_1).f0.f0),.int .i64 ((rd_T49 l0 x3_1).f0.f1),.int .i64 ((rd_T49 l0 x3_1).f1.f0),.int .i64 ((rd_T49 l0 x3_1).f1.f1),.int .i64 ((rd_T49 l0 x3_1).f2),.int .i64 ((rd_T49 l0 x3_1).f3),.int .i64 ((rd_T49 l0 x3_1).f4)]] rfl (by (try simp only [List.map_toArray,List.map_cons,List.map_nil]);first | done | rfl) ?_;(with_reducible refine (R_checkMaking.calls k1 ((rd_T49 l0 x3_1).f0.f0) ((rd_T49 l0 x3_1).f0.f1) ((rd_T49 l0 x3_1).f1.f0) ((rd_T49 l0 x3_1).f1.f1) ((rd_T49 l0 x3_1).f2) ((rd_T49 l0 x3_1).f3) ((rd_T49 l0 x3_1).f4) t122 _ A5.out).mono ?_);rintro e w27 ⟨rfl,hb⟩;refine ⟨_,rfl,?_⟩;have n0_ := aM_ (kB_ (g := gb121) (o := .cells #[.int .i64 ((rd_T49 l0 x3_1).f0.f0),.int .i64 ((rd_T49 l0 x3_1).f0.f1),.int .i64 ((rd_T49 l0 x3_1).f1.f0),.int .i64 ((rd_T49 l0 x3_1).f1.f1),.int .i64 ((rd_T49 l0 x3_1).f2),.int .i64 ((rd_T49 l0 x3_1).f3),.int .i64 ((rd_T49 l0 x3_1).f4)] 49 (0,0)) (by (with_reducible repeat (first | refine kN_ ?_ _ | refine kD_ ?_ | refine kA_ ?_ _));refine blk_put (cs := #[.int .i64 ((rd_T49 l0 x3_1).f0.f0),.int .i64 ((rd_T49 l0 x3_1).f0.f1),.int .i64 ((rd_T49 l0 x3_1).f1.f0),.int .i64 ((rd_T49 l0 x3_1).f1.f1),.int .i64 ((rd_T49 l0 x3_1).f2),.int .i64 ((rd_T49 l0 x3_1).f3),.int .i64 0]) ?_ 6 _ rfl;(with_reducible repeat (first | refine kN_ ?_ _ | refine kD_ ?_ | refine kA_ ?_ _));refine blk_put (cs := #[.int .i64 ((rd_T49 l0 x3_1).f0.f0),.int .i64 ((rd_T49 l0 x3_1).f0.f1),.int .i64 ((rd_T49 l0 x3_1).f1.f0),.int .i64 ((rd_T49 l0 x3_1).f1.f1),.int .i64 ((rd_T49 l0 x3_1).f2),.int .i64 0,.int .i64 0]) ?_ 5 _ rfl;(with_reducible repeat (first | refine kN_ ?_ _ | refine kD_ ?_ | refine kA_ ?_ _));refine blk_put (cs := #[.int .i64 ((rd_T49 l0 x3_1).f0.f0),.int .i64 ((rd_T49 l0 x3_1).f0.f1),.int .i64 ((rd_T49 l0 x3_1).f1.f0),.int .i64 ((rd_T49 l0 x3_1).f1.f1),.int .i64 0,.int .i64 0,.int .i64 0]) ?_ 4 _ rfl;(with_reducible repeat (first | refine kN_ ?_ _ | refine kD_ ?_ | refine kA_ ?_ _));refine blk_put (cs := #[.int .i64 ((rd_T49 l0 x3_1).f0.f0),.int .i64 ((rd_T49 l0 x3_1).f0.f1),.int .i64 ((rd_T49 l0 x3_1).f1.f0),.int .i64 0,.int .i64 0,.int .i64 0,.int .i64 0]) ?_ 3 _ rfl;(with_reducible repeat (first | refine kN_ ?_ _ | refine kD_ ?_ | refine kA_ ?_ _));refine blk_put (cs := #[.int .i64 ((rd_T49 l0 x3_1).f0.f0),.int .i64 ((rd_T49 l0 x3_1).f0.f1),.int .i64 0,.int .i64 0,.int .i64 0,.int .i64 0,.int .i64 0]) ?_ 2 _ rfl;(with_reducible repeat (first | refine kN_ ?_ _ | refine kD_ ?_ | refine kA_ ?_ _));refine blk_put (cs := #[.int .i64 ((rd_T49 l0 x3_1).f0.f0),.int .i64 0,.int .i64 0,.int .i64 0,.int .i64 0,.int .i64 0,.int .i64 0]) ?_ 1 _ rfl;(with_reducible repeat (first | refine kN_ ?_ _ | refine kD_ ?_ | refine kA_ ?_ _));refine blk_put (cs := #[.int .i64 0,.int .i64 0,.int .i64 0,.int .i64 0,.int .i64 0,.int .i64 0,.int .i64 0]) ?_ 0 _ rfl;(with_reducible repeat (first | refine kN_ ?_ _ | refine kD_ ?_ | refine kA_ ?_ _));exact BK121.out) hb);have n1_ := aM_ (bT_ (by repeat (first | (with_reducible first | exact HB.out | apply bA_ | apply bN_ | apply bD_ | refine bS_ ?_ GE121.out) | exact HB.out)) hb);clear BK121;clear HB;have BK121 := n0_;have HB := n1_;clear n0_ n1_;(try clear hb);(try clear hb2);(try clear hk);(try clear hi);have hcz28_0 : w27.cell? ⟨gb121,0,none⟩ = some (.int .i64 ((rd_T49 l0 x3_1).f0.f0)) := (blk_cell BK121.out 0).trans rfl;have hcz28_1 : w27.cell? ⟨gb121,1,none⟩ = some (.int .i64 ((rd_T49 l0 x3_1).f0.f1)) := (blk_cell BK121.out 1).trans rfl;have hcz28_2 : w27.cell? ⟨gb121,2,none⟩ = some (.int .i64 ((rd_T49 l0 x3_1).f1.f0)) := (blk_cell BK121.out 2).trans rfl;have hcz28_3 : w27.cell? ⟨gb121,3,none⟩ = some (.int .i64 ((rd_T49 l0 x3_1).f1.f1)) := (blk_cell BK121.out 3).trans rfl;have hcz28_4 : w27.cell? ⟨gb121,4,none⟩ = some (.int .i64 ((rd_T49 l0 x3_1).f2)) := (blk_cell BK121.out 4).trans rfl;have hcz28_5 : w27.cell? ⟨gb121,5,none⟩ = some (.int .i64 ((rd_T49 l0 x3_1).f3)) := (blk_cell BK121.out 5).trans rfl;have hcz28_6 : w27.cell? ⟨gb121,6,none⟩ = some (.int .i64 ((rd_T49 l0 x3_1).f4)) := (blk_cell BK121.out 6).trans rfl;have hfz28_0 := blk_frozen BK121.out 0;have hfz28_1 := blk_frozen BK121.out 1;have hfz28_2 := blk_frozen BK121.out 2;have hfz28_3 := blk_frozen BK121.out 3;have hfz28_4 := blk_frozen BK121.out 4;have hfz28_5 := blk_frozen BK121.out 5;have hfz28_6 := blk_frozen BK121.out 6) | ((with_reducible refine gate_callee (f := 49) rfl ?_);refine goesL_ (some 29) rfl rfl Try.func49 (by kernel_rfl) rfl #[.int .i64 ((rd_T49 l0 x3_1).f2),.int .i64 1,.int .i64 1000000] rfl (by (try simp only [List.map_toArray,List.map_cons,List.map_nil]);first | done | rfl) ?_;(with_reducible refine (R_beyond.calls ((rd_T49 l0 x3_1).f2) 1 1000000 false _ A7.out).mono ?_);rintro e w' ⟨rfl,⟨nd,rfl⟩⟩;refine ⟨_,rfl,?_⟩) | (go_at_call 49;(with_reducible refine (R_beyond.calls ((rd_T49 l0 x3_1).f4) 0 1000000000 false _ A13.out).mono ?_);rintro e w' ⟨rfl,⟨nd,rfl⟩⟩) | (go_at_call 49;(with_reducible refine (R_beyond.calls ((rd_T49 l0 x3_1).f3) (-1) (wrap64 ((l0.length : Int) - 1)) false _ A19.out).mono ?_);rintro e w' ⟨rfl,⟨nd,rfl⟩⟩))
          go_roundg k1
          case measure => have := HK1.out;omega
          case rel => exact ⟨(wrap64 (x3_1 + 1)),(by first | rfl | (simp;done) | (simp [*];done)),H',⟨by have := HK1.out;omega⟩,⟨by repeat (first | (with_reducible first | exact HB.out | apply bA_ | apply bN_ | apply bD_ | refine bS_ ?_ GE121.out) | exact HB.out)⟩⟩
      ·rw [if_neg c6] at H
       have c6b0 : (t122 == 0) = false := beq_eq_false_iff_ne.mpr c6
       have c6b1 : (t122 != 0) = true := bne_iff_ne.mpr c6
       obtain rfl := Option.some.inj H
       have p120 : 0 ≤ (x3_1 : Int) := of_decide_eq_true (by first | (with_reducible assumption) | assumption)
       have q120 : x3_1 < (l0.length : Int) := of_decide_eq_true (by first | (with_reducible assumption) | assumption)
       obtain ⟨ad120,e120,hx120_0,hx120_1,hx120_2,hx120_3,hx120_4,hx120_5,hx120_6⟩ := at_T49 HR0.out x3_1 p120 q120
       cases e120
       replace hx120_0 := (HB.out.cell (World.block_lt_of_cell? w _ hx120_0)).trans hx120_0
       replace hx120_1 := (HB.out.cell (World.block_lt_of_cell? w _ hx120_1)).trans hx120_1
       replace hx120_2 := (HB.out.cell (World.block_lt_of_cell? w _ hx120_2)).trans hx120_2
       replace hx120_3 := (HB.out.cell (World.block_lt_of_cell? w _ hx120_3)).trans hx120_3
       replace hx120_4 := (HB.out.cell (World.block_lt_of_cell? w _ hx120_4)).trans hx120_4
       replace hx120_5 := (HB.out.cell (World.block_lt_of_cell? w _ hx120_5)).trans hx120_5
       replace hx120_6 := (HB.out.cell (World.block_lt_of_cell? w _ hx120_6)).trans hx120_6
       replace p120 := eq_true p120
       replace q120 := eq_true q120
       go_wp2_with (first | ((with_reducible refine gate_dst (N := 4) rfl ?_);refine box_event ?hg (N := 4) ?hd (cs := #[.int .i64 0,.int .i64 0,.int .i64 0,.int .i64 0,.int .i64 0,.int .i64 0,.int .i64 0]) (t := 49) ?hr ?_;(case hd => rfl);(case hg => rfl);(case hr => first | (go_simp;done) | (go_simp;rfl));intro gb121 hg w29 hbox hb;have n0_ := aM_ (bT_ (by repeat (first | (with_reducible first | exact HB.out | apply bA_ | apply bN_ | apply bD_) | exact HB.out)) hb);have n1_ := aM_ (hbox);have n2_ := aM_ ((by rw [hg];exact (below_size (by repeat (first | (with_reducible first | exact HB.out | apply bA_ | apply bN_ | apply bD_) | exact HB.out))) : w.heap.size ≤ gb121));have n3_ := aM_ ((by rw [hg];exact (below_size (by repeat (first | (with_reducible first | exact HB.out | apply bA_ | apply bN_ | apply bD_) | exact HB.out))) : w.heap.size ≤ gb121));clear HB;have HB := n0_;have BK121 := n1_;have GW121 := n2_;have GE121 := n3_;clear n0_ n1_ n2_ n3_;clear hb hbox hg;have hcz30_0 : w29.cell? ⟨gb121,0,none⟩ = some (.int .i64 0) := (blk_cell BK121.out 0).trans rfl;have hcz30_1 : w29.cell? ⟨gb121,1,none⟩ = some (.int .i64 0) := (blk_cell BK121.out 1).trans rfl;have hcz30_2 : w29.cell? ⟨gb121,2,none⟩ = some (.int .i64 0) := (blk_cell BK121.out 2).trans rfl;have hcz30_3 : w29.cell? ⟨gb121,3,none⟩ = some (.int .i64 0) := (blk_cell BK121.out 3).trans rfl;have hcz30_4 : w29.cell? ⟨gb121,4,none⟩ = some (.int .i64 0) := (blk_cell BK121.out 4).trans rfl;have hcz30_5 : w29.cell? ⟨gb121,5,none⟩ = some (.int .i64 0) := (blk_cell BK121.out 5).trans rfl;have hcz30_6 : w29.cell? ⟨gb121,6,none⟩ = some (.int .i64 0) := (blk_cell BK121.out 6).trans rfl;have hfz30_0 := blk_frozen BK121.out 0;have hfz30_1 := blk_frozen BK121.out 1;have hfz30_2 := blk_frozen BK121.out 2;have hfz30_3 := blk_frozen BK121.out 3;have hfz30_4 := blk_frozen BK121.out 4;have hfz30_5 := blk_frozen BK121.out 5;have hfz30_6 := blk_frozen BK121.out 6) | ((with_reducible refine gate_callee (f := 81) rfl ?_);refine goesL_ (some 23) rfl rfl Try.func81 (by kernel_rfl) rfl #[.agg #[.int .i64 ((rd_T49 l0 x3_1).f0.f0),.int .i64 ((rd_T49 l0 x3_1).f0.f1),.int .i64 ((rd_T49 l0 x3_1).f1.f0),.int .i64 ((rd_T49 l0 x3_1).f1.f1),.int .i64 ((rd_T49 l0 x3_1).f2),.int .i64 ((rd_T49 l0 x3_1).f3),.int .i64 ((rd_T49 l0 x3_1).f4)]] rfl (by (try simp only [List.map_toArray,List.map_cons,List.map_nil]);first | done | rfl) ?_;(with_reducible refine (R_checkMaking.calls k1 ((rd_T49 l0 x3_1).f0.f0) ((rd_T49 l0 x3_1).f0.f1) ((rd_T49 l0 x3_1).f1.f0) ((rd_T49 l0 x3_1).f1.f1) ((rd_T49 l0 x3_1).f2) ((rd_T49 l0 x3_1).f3) ((rd_T49 l0 x3_1).f4) t122 _ A5.out).mono ?_);rintro e w31 ⟨rfl,hb⟩;refine ⟨_,rfl,?_⟩;have n0_ := aM_ (kB_ (g := gb121) (o := .cells #[.int .i64 ((rd_T49 l0 x3_1).f0.f0),.int .i64 ((rd_T49 l0 x3_1).f0.f1),.int .i64 ((rd_T49 l0 x3_1).f1.f0),.int .i64 ((rd_T49 l0 x3_1).f1.f1),.int .i64 ((rd_T49 l0 x3_1).f2),.int .i64 ((rd_T49 l0 x3_1).f3),.int .i64 ((rd_T49 l0 x3_1).f4)] 49 (0,0)) (by (with_reducible repeat (first | refine kN_ ?_ _ | refine kD_ ?_ | refine kA_ ?_ _));refine blk_put (cs := #[.int .i64 ((rd_T49 l0 x3_1).f0.f0),.int .i64 ((rd_T49 l0 x3_1).f0.f1),.int .i64 ((rd_T49 l0 x3_1).f1.f0),.int .i64 ((rd_T49 l0 x3_1).f1.f1),.int .i64 ((rd_T49 l0 x3_1).f2),.int .i64 ((rd_T49 l0 x3_1).f3),.int .i64 0]) ?_ 6 _ rfl;(with_reducible repeat (first | refine kN_ ?_ _ | refine kD_ ?_ | refine kA_ ?_ _));refine blk_put (cs := #[.int .i64 ((rd_T49 l0 x3_1).f0.f0),.int .i64 ((rd_T49 l0 x3_1).f0.f1),.int .i64 ((rd_T49 l0 x3_1).f1.f0),.int .i64 ((rd_T49 l0 x3_1).f1.f1),.int .i64 ((rd_T49 l0 x3_1).f2),.int .i64 0,.int .i64 0]) ?_ 5 _ rfl;(with_reducible repeat (first | refine kN_ ?_ _ | refine kD_ ?_ | refine kA_ ?_ _));refine blk_put (cs := #[.int .i64 ((rd_T49 l0 x3_1).f0.f0),.int .i64 ((rd_T49 l0 x3_1).f0.f1),.int .i64 ((rd_T49 l0 x3_1).f1.f0),.int .i64 ((rd_T49 l0 x3_1).f1.f1),.int .i64 0,.int .i64 0,.int .i64 0]) ?_ 4 _ rfl;(with_reducible repeat (first | refine kN_ ?_ _ | refine kD_ ?_ | refine kA_ ?_ _));refine blk_put (cs := #[.int .i64 ((rd_T49 l0 x3_1).f0.f0),.int .i64 ((rd_T49 l0 x3_1).f0.f1),.int .i64 ((rd_T49 l0 x3_1).f1.f0),.int .i64 0,.int .i64 0,.int .i64 0,.int .i64 0]) ?_ 3 _ rfl;(with_reducible repeat (first | refine kN_ ?_ _ | refine kD_ ?_ | refine kA_ ?_ _));refine blk_put (cs := #[.int .i64 ((rd_T49 l0 x3_1).f0.f0),.int .i64 ((rd_T49 l0 x3_1).f0.f1),.int .i64 0,.int .i64 0,.int .i64 0,.int .i64 0,.int .i64 0]) ?_ 2 _ rfl;(with_reducible repeat (first | refine kN_ ?_ _ | refine kD_ ?_ | refine kA_ ?_ _));refine blk_put (cs := #[.int .i64 ((rd_T49 l0 x3_1).f0.f0),.int .i64 0,.int .i64 0,.int .i64 0,.int .i64 0,.int .i64 0,.int .i64 0]) ?_ 1 _ rfl;(with_reducible repeat (first | refine kN_ ?_ _ | refine kD_ ?_ | refine kA_ ?_ _));refine blk_put (cs := #[.int .i64 0,.int .i64 0,.int .i64 0,.int .i64 0,.int .i64 0,.int .i64 0,.int .i64 0]) ?_ 0 _ rfl;(with_reducible repeat (first | refine kN_ ?_ _ | refine kD_ ?_ | refine kA_ ?_ _));exact BK121.out) hb);have n1_ := aM_ (bT_ (by repeat (first | (with_reducible first | exact HB.out | apply bA_ | apply bN_ | apply bD_ | refine bS_ ?_ GE121.out) | exact HB.out)) hb);clear BK121;clear HB;have BK121 := n0_;have HB := n1_;clear n0_ n1_;(try clear hb);(try clear hb2);(try clear hk);(try clear hi)))
       go_ret
       exact ⟨by first | rfl | (simp [*] <;> rfl),by repeat (first | (with_reducible first | exact HB.out | apply bA_ | apply bN_ | apply bD_ | refine bS_ ?_ GE121.out) | exact HB.out)⟩
     ·rw [if_neg c4] at H
      exact absurd H (by simp)
    ·rw [if_neg c3] at H
     have c3b0 : decide (x3_1 < (l0.length : Int)) = false := decide_eq_false c3
     clear c3
     have H' := aM_ H
     clear H
     go_wp2
     go_loopg [6] k1 (fun kq v6 w' => ∃ (x6_2 : Int),v6 = .int .i64 x6_2 ∧ Aside0 (R_Check.l1 kq l0 x6_2 = some r) ∧ Aside0 (kq ≤ k1) ∧ Aside0 (Below w.heap.size w w'))
     case atStart => exact ⟨(0),(by first | rfl | (simp;done) | (simp [*];done)),H',⟨Nat.le_refl _⟩,⟨by repeat (first | (with_reducible first | exact HB.out | apply bA_ | apply bN_ | apply bD_) | exact HB.out)⟩⟩
     case round =>
      clear H'
      try clear c1
      try clear p1
      try clear q1
      try clear hx1
      try clear c2
      try clear c2b0
      try clear c2b1
      try clear p2
      try clear c3
      try clear c3b0
      try clear c4
      try clear c4b0
      try clear c6
      try clear c6b0
      try clear c6b1
      try clear p6
      try clear c8
      try clear p12
      try clear q12
      try clear hx12
      try clear c14
      try clear c20
      try clear hcz10_0
      try clear hcz10_1
      try clear hcz10_2
      try clear hcz10_3
      try clear hcz10_4
      try clear hcz10_5
      try clear hcz10_6
      try clear hcz12_0
      try clear hcz12_1
      try clear hcz12_2
      try clear hcz12_3
      try clear hcz12_4
      try clear hcz12_5
      try clear hcz12_6
      try clear hcz16_0
      try clear hcz16_1
      try clear hcz16_2
      try clear hcz16_3
      try clear hcz16_4
      try clear hcz16_5
      try clear hcz16_6
      try clear hcz18_0
      try clear hcz18_1
      try clear hcz18_2
      try clear hcz18_3
      try clear hcz18_4
      try clear hcz18_5
      try clear hcz18_6
      try clear hcz22_0
      try clear hcz22_1
      try clear hcz22_2
      try clear hcz22_3
      try clear hcz22_4
      try clear hcz22_5
      try clear hcz22_6
      try clear hcz24_0
      try clear hcz24_1
      try clear hcz24_2
      try clear hcz24_3
      try clear hcz24_4
      try clear hcz24_5
      try clear hcz24_6
      try clear hcz26_0
      try clear hcz26_1
      try clear hcz26_2
      try clear hcz26_3
      try clear hcz26_4
      try clear hcz26_5
      try clear hcz26_6
      try clear hcz28_0
      try clear hcz28_1
      try clear hcz28_2
      try clear hcz28_3
      try clear hcz28_4
      try clear hcz28_5
      try clear hcz28_6
      try clear hcz30_0
      try clear hcz30_1
      try clear hcz30_2
      try clear hcz30_3
      try clear hcz30_4
      try clear hcz30_5
      try clear hcz30_6
      try clear hfz10_0
      try clear hfz10_1
      try clear hfz10_2
      try clear hfz10_3
      try clear hfz10_4
      try clear hfz10_5
      try clear hfz10_6
      try clear hfz12_0
      try clear hfz12_1
      try clear hfz12_2
      try clear hfz12_3
      try clear hfz12_4
      try clear hfz12_5
      try clear hfz12_6
      try clear hfz16_0
      try clear hfz16_1
      try clear hfz16_2
      try clear hfz16_3
      try clear hfz16_4
      try clear hfz16_5
      try clear hfz16_6
      try clear hfz18_0
      try clear hfz18_1
      try clear hfz18_2
      try clear hfz18_3
      try clear hfz18_4
      try clear hfz18_5
      try clear hfz18_6
      try clear hfz22_0
      try clear hfz22_1
      try clear hfz22_2
      try clear hfz22_3
      try clear hfz22_4
      try clear hfz22_5
      try clear hfz22_6
      try clear hfz24_0
      try clear hfz24_1
      try clear hfz24_2
      try clear hfz24_3
      try clear hfz24_4
      try clear hfz24_5
      try clear hfz24_6
      try clear hfz26_0
      try clear hfz26_1
      try clear hfz26_2
      try clear hfz26_3
      try clear hfz26_4
      try clear hfz26_5
      try clear hfz26_6
      try clear hfz28_0
      try clear hfz28_1
      try clear hfz28_2
      try clear hfz28_3
      try clear hfz28_4
      try clear hfz28_5
      try clear hfz28_6
      try clear hfz30_0
      try clear hfz30_1
      try clear hfz30_2
      try clear hfz30_3
      try clear hfz30_4
      try clear hfz30_5
      try clear hfz30_6
      try clear hx120_0
      try clear hx120_1
      try clear hx120_2
      try clear hx120_3
      try clear hx120_4
      try clear hx120_5
      try clear hx120_6
      try clear p120
      try clear p2
      try clear q120
      obtain ⟨x6_2,rfl,HA,HK2,HB⟩ := hrel
      cases gk with
      | zero => exact absurd HA.out (by simp [R_Check.l1])
      | succ k2 =>
       have H := HA.out
       clear HA
       simp only [R_Check.l1] at H
       by_cases c32 : x6_2 < (l0.length : Int)
       ·rw [if_pos c32] at H
        have c32b0 : decide (x6_2 < (l0.length : Int)) = true := decide_eq_true c32
        clear c32
        replace H := oB_ H
        obtain ⟨⟨t126,t127⟩,A330,H⟩ := H
        replace H : (if t127 = true then (R_Check.l1 k2 l0 (wrap64 (x6_2 + 1))) else (some 13)) = some r := H
        have A33 := aM_ A330
        clear A330
        by_cases c34 : t127 = true
        ·subst c34
         have H1 : (R_Check.l1 k2 l0 (wrap64 (x6_2 + 1))) = some r := by rw [if_pos rfl] at H;exact H
         clear H
         have H := H1
         clear H1
         have H' := aM_ H
         clear H
         go_wp2_with (first | ((with_reducible refine gate_callee (f := 69) rfl ?_);refine goesL_ (some 52) rfl rfl Try.func69 (by kernel_rfl) rfl #[.slice A0 l0.length c0,.int .i64 x6_2] rfl (by (try simp only [List.map_toArray,List.map_cons,List.map_nil]);first | done | rfl) ?_;(with_reducible refine (R_chain.calls k2 _ _ l0 x6_2 t126 true _ ?side1 ?side2 A33.out).mono ?_);(case side1 => repeat (first | exact (Kd.C_below HR0.out HB.out) | (with_reducible refine Kd.C_alloc ?_ _) | (with_reducible refine Kd.C_drewN ?_ _) | (with_reducible refine Kd.C_drew ?_)));(case side2 => exact HC0.out);rintro e w35 ⟨v128,rfl,ho0,hb⟩;refine ⟨_,rfl,?_⟩;have n0_ := aM_ (Kd.R_lower ho0 (below_size (by repeat (first | (with_reducible first | exact HB.out | apply bA_ | apply bN_ | apply bD_) | exact HB.out))));have n1_ := aM_ (bT_ (by repeat (first | (with_reducible first | exact HB.out | apply bA_ | apply bN_ | apply bD_) | exact HB.out)) hb);clear HB;have HO129 := n0_;have HB := n1_;clear n0_ n1_;(try clear hb);(try clear hb2);(try clear hk);(try clear hi);(try clear ho0)))
         go_roundg k2
         case measure => have := HK1.out;have := HK2.out;omega
         case rel => exact ⟨(wrap64 (x6_2 + 1)),(by first | rfl | (simp;done) | (simp [*];done)),H',⟨by have := HK1.out;have := HK2.out;omega⟩,⟨by repeat (first | (with_reducible first | exact HB.out | apply bA_ | apply bN_ | apply bD_) | exact HB.out)⟩⟩
        ·replace c34 := Bool.eq_false_iff.mpr c34
         subst c34
         have H1 : (some 13) = some r := by rw [if_neg (show ¬ (false = true) by decide)] at H;exact H
         clear H
         have H := H1
         clear H1
         obtain rfl := Option.some.inj H
         go_wp2_with (first | ((with_reducible refine gate_callee (f := 69) rfl ?_);refine goesL_ (some 52) rfl rfl Try.func69 (by kernel_rfl) rfl #[.slice A0 l0.length c0,.int .i64 x6_2] rfl (by (try simp only [List.map_toArray,List.map_cons,List.map_nil]);first | done | rfl) ?_;(with_reducible refine (R_chain.calls k2 _ _ l0 x6_2 t126 false _ ?side1 ?side2 A33.out).mono ?_);(case side1 => repeat (first | exact (Kd.C_below HR0.out HB.out) | (with_reducible refine Kd.C_alloc ?_ _) | (with_reducible refine Kd.C_drewN ?_ _) | (with_reducible refine Kd.C_drew ?_)));(case side2 => exact HC0.out);rintro e w36 ⟨v128,rfl,ho0,hb⟩;refine ⟨_,rfl,?_⟩;have n0_ := aM_ (Kd.R_lower ho0 (below_size (by repeat (first | (with_reducible first | exact HB.out | apply bA_ | apply bN_ | apply bD_) | exact HB.out))));have n1_ := aM_ (bT_ (by repeat (first | (with_reducible first | exact HB.out | apply bA_ | apply bN_ | apply bD_) | exact HB.out)) hb);clear HB;have HO129 := n0_;have HB := n1_;clear n0_ n1_;(try clear hb);(try clear hb2);(try clear hk);(try clear hi);(try clear ho0)))
         go_ret
         exact ⟨by first | rfl | (simp [*] <;> rfl),by repeat (first | (with_reducible first | exact HB.out | apply bA_ | apply bN_ | apply bD_) | exact HB.out)⟩
       ·rw [if_neg c32] at H
        have c32b0 : decide (x6_2 < (l0.length : Int)) = false := decide_eq_false c32
        clear c32
        obtain rfl := Option.some.inj H
        go_wp2
        go_ret
        exact ⟨by first | rfl | (simp [*] <;> rfl),by repeat (first | (with_reducible first | exact HB.out | apply bA_ | apply bN_ | apply bD_) | exact HB.out)⟩

end Go.Proofs.Ytdbpobadeibjaab.GE
