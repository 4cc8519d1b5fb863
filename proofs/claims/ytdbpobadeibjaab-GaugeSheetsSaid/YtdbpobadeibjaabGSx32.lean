-- written for this claim by a program of this session (wip/gp), over the kit's own printer; Lean checks it
import Derived.Test.YtdbpobadeibjaabGSx0
import Derived.Test.YtdbpobadeibjaabGSx5
import Derived.Test.YtdbpobadeibjaabGSx27
import Derived.Test.YtdbpobadeibjaabGSx31
namespace Go.Proofs.Ytdbpobadeibjaab.GS
open Go.RowKit Go.Proofs.YtdbpobadeibjaabW.PrintWords Go.Proofs.YtdbpobadeibjaabW.PrintLast Go.Proofs.YtdbpobadeibjaabW.PrintMore
attribute [local go_sem] max2_int min2_int max_two min_two max_three min_three max_four min_four
set_option linter.unusedVariables false
set_option linter.unusedSimpArgs false

/-! ### R_test: function 60 -/
def R_test.l0 : Nat → List (S49) → Int → List (S32) → Int → Int → Int → Option (Int × Int)
 | 0,_,_,_,_,_,_ => none
 | k + 1,x0,x1,x3,x10,x527000,x527001 => if x10 < (x3.length : Int) then (if 0 ≤ x10 then ((R_beyond.f ((rd_T32 x3 x10).f0) 0 (wrap64 ((x0.length : Int) - 1))).bind fun t528 => (if t528 = true then (some (0,7)) else (if 0 ≤ ((rd_T32 x3 x10).f0) then (if ((rd_T32 x3 x10).f0) < (x0.length : Int) then (if ((rd_T49 x0 ((rd_T32 x3 x10).f0)).f4) < x1 then (some (0,10)) else (R_test.l0 k x0 x1 x3 (wrap64 (x10 + 1)) x527000 x527001)) else (none)) else (none)))) else (none)) else (if (x3.length : Int) = 0 then (some (3,0)) else ((R_Together.f k x0 x3).bind fun bt531 => (if bt531.2.2 = 0 then ((R_Verdict.f k bt531.1 bt531.2.1 x527000 x527001).bind fun t535 => (some (t535,0))) else (some (0,bt531.2.2)))))
def R_test.f (k : Nat) (l0 : List (S49)) (a1 : Int) (a2_0 : Int) (a2_1 : Int) (l3 : List (S32)) : Option (Int × Int) := if a2_0 > a2_1 then (some (0,11)) else (if (l3.length : Int) > 10 then (some (0,8)) else (R_test.l0 k l0 a1 l3 0 a2_0 a2_1))
set_option maxHeartbeats 8000000 in
set_option maxRecDepth 100000 in
theorem R_test.calls (k : Nat) (A0 : Option Addr) (c0 : Nat) (l0 : List (S49)) (a1 : Int) (a2_0 : Int) (a2_1 : Int) (A3 : Option Addr) (c3 : Nat) (l3 : List (S32)) (r1 : Int) (r2 : Int) (w : World) (hr0 : Kd.C k49 w A0 l0.length l0) (hc0 : l0.length ≤ c0) (hr3 : Kd.C k32 w A3 l3.length l3) (hc3 : l3.length ≤ c3) (h : R_test.f k l0 a1 a2_0 a2_1 l3 = some (r1,r2)) :
  Calls Try.prog 60 #[.slice A0 l0.length c0,.int .i64 a1,.agg #[.int .i64 a2_0,.int .i64 a2_1],.slice A3 l3.length c3] w fun e w' => e = .returned (.tuple #[.int .i64 r1,.int .i64 r2]) ∧ Below w.heap.size w w' := by
 have hu34 := Try.underlying34
 have HR0 := aM_ hr0
 have HC0 := aM_ hc0
 clear hr0 hc0
 have HR3 := aM_ hr3
 have HC3 := aM_ hc3
 clear hr3 hc3
 have HB := aM_ (Below.refl w.heap.size w)
 have H : (if a2_0 > a2_1 then (some (0,11)) else (if (l3.length : Int) > 10 then (some (0,8)) else (R_test.l0 k l0 a1 l3 0 a2_0 a2_1))) = some (r1,r2) := h
 clear h
 by_cases c5 : a2_0 > a2_1
 ·rw [if_pos c5] at H
  have c5b0 : decide (a2_1 < a2_0) = true := decide_eq_true c5
  clear c5
  simp only [Option.some.injEq,Prod.mk.injEq] at H
  obtain ⟨rfl,rfl⟩ := H
  go_enter Try.func60,Try.ntmps60
  go_wp2_with (first | ((with_reducible refine gate_dst (N := 6) rfl ?_);refine box_event ?hg (N := 6) ?hd (cs := #[.int .i64 a2_0,.int .i64 a2_1]) (t := 34) ?hr ?_;(case hd => rfl);(case hg => rfl);(case hr => first | (go_simp;done) | (go_simp;rfl));intro gb526 hg w6 hbox hb;have n0_ := aM_ (bT_ (by exact lb_ HB) hb);have n1_ := aM_ (hbox);have n2_ := aM_ ((by rw [hg];exact (below_size (by exact lb_ HB)) : w.heap.size ≤ gb526));have n3_ := aM_ ((by rw [hg];exact (below_size (by exact lb_ HB)) : w.heap.size ≤ gb526));clear HB;have HB := n0_;have BK526 := n1_;have GW526 := n2_;have GE526 := n3_;have := Ge_.mk n3_.out;clear n0_ n1_ n2_ n3_;clear hb hbox hg;have hcz7_0 : w6.cell? ⟨gb526,0,none⟩ = some (.int .i64 a2_0) := (blk_cell BK526.out 0).trans rfl;have hcz7_1 : w6.cell? ⟨gb526,1,none⟩ = some (.int .i64 a2_1) := (blk_cell BK526.out 1).trans rfl;have hfz7_0 := blk_frozen BK526.out 0;have hfz7_1 := blk_frozen BK526.out 1))
  go_ret2
  exact ⟨by first | rfl | (simp [*] <;> rfl),by exact lb_ HB⟩
 ·rw [if_neg c5] at H
  have c5b0 : decide (a2_1 < a2_0) = false := decide_eq_false c5
  clear c5
  by_cases c8 : (l3.length : Int) > 10
  ·rw [if_pos c8] at H
   have c8b0 : decide (10 < (l3.length : Int)) = true := decide_eq_true c8
   have c8b1 : decide (10 < l3.length) = true := decide_eq_true (by omega)
   clear c8
   simp only [Option.some.injEq,Prod.mk.injEq] at H
   obtain ⟨rfl,rfl⟩ := H
   go_enter Try.func60,Try.ntmps60
   go_wp2_with (first | ((with_reducible refine gate_dst (N := 6) rfl ?_);refine box_event ?hg (N := 6) ?hd (cs := #[.int .i64 a2_0,.int .i64 a2_1]) (t := 34) ?hr ?_;(case hd => rfl);(case hg => rfl);(case hr => first | (go_simp;done) | (go_simp;rfl));intro gb526 hg w9 hbox hb;have n0_ := aM_ (bT_ (by exact lb_ HB) hb);have n1_ := aM_ (hbox);have n2_ := aM_ ((by rw [hg];exact (below_size (by exact lb_ HB)) : w.heap.size ≤ gb526));have n3_ := aM_ ((by rw [hg];exact (below_size (by exact lb_ HB)) : w.heap.size ≤ gb526));clear HB;have HB := n0_;have BK526 := n1_;have GW526 := n2_;have GE526 := n3_;have := Ge_.mk n3_.out;clear n0_ n1_ n2_ n3_;clear hb hbox hg;have hcz10_0 : w9.cell? ⟨gb526,0,none⟩ = some (.int .i64 a2_0) := (blk_cell BK526.out 0).trans rfl;have hcz10_1 : w9.cell? ⟨gb526,1,none⟩ = some (.int .i64 a2_1) := (blk_cell BK526.out 1).trans rfl;have hfz10_0 := blk_frozen BK526.out 0;have hfz10_1 := blk_frozen BK526.out 1))
   go_ret2
   exact ⟨by first | rfl | (simp [*] <;> rfl),by exact lb_ HB⟩
  ·rw [if_neg c8] at H
   have c8b0 : decide (10 < (l3.length : Int)) = false := decide_eq_false c8
   have c8b1 : decide (10 < l3.length) = false := decide_eq_false (by omega)
   clear c8
   have H' := aM_ H
   clear H
   go_enter Try.func60,Try.ntmps60
   go_wp2_with (first | ((with_reducible refine gate_dst (N := 6) rfl ?_);refine box_event ?hg (N := 6) ?hd (cs := #[.int .i64 a2_0,.int .i64 a2_1]) (t := 34) ?hr ?_;(case hd => rfl);(case hg => rfl);(case hr => first | (go_simp;done) | (go_simp;rfl));intro gb526 hg w11 hbox hb;have n0_ := aM_ (bT_ (by exact lb_ HB) hb);have n1_ := aM_ (hbox);have n2_ := aM_ ((by rw [hg];exact (below_size (by exact lb_ HB)) : w.heap.size ≤ gb526));have n3_ := aM_ ((by rw [hg];exact (below_size (by exact lb_ HB)) : w.heap.size ≤ gb526));clear HB;have HB := n0_;have BK526 := n1_;have GW526 := n2_;have GE526 := n3_;have := Ge_.mk n3_.out;clear n0_ n1_ n2_ n3_;clear hb hbox hg;have hcz12_0 : w11.cell? ⟨gb526,0,none⟩ = some (.int .i64 a2_0) := (blk_cell BK526.out 0).trans rfl;have hcz12_1 : w11.cell? ⟨gb526,1,none⟩ = some (.int .i64 a2_1) := (blk_cell BK526.out 1).trans rfl;have hfz12_0 := blk_frozen BK526.out 0;have hfz12_1 := blk_frozen BK526.out 1))
   go_loopg [10] k (fun kq v10 w' => ∃ (x10_1 : Int),v10 = .int .i64 x10_1 ∧ Aside0 (R_test.l0 kq l0 a1 l3 x10_1 a2_0 a2_1 = some (r1,r2)) ∧ Aside0 (kq ≤ k) ∧ Aside0 (w'.heap[gb526]? = some (.cells #[.int .i64 a2_0,.int .i64 a2_1] 34 (0,0))) ∧ Aside0 (Below w.heap.size w w'))
   case atStart => exact ⟨(0),(by first | rfl | (simp;done) | (simp [*];done)),H',⟨Nat.le_refl _⟩,⟨by exact lk_ BK526⟩,⟨by exact lb_ HB⟩⟩
   case round =>
    clear H'
    try clear p2
    try clear c3
    try clear c5
    try clear c5b0
    try clear c6
    try clear c8
    try clear c8b0
    try clear c8b1
    try clear hcz10_0
    try clear hcz10_1
    try clear hcz12_0
    try clear hcz12_1
    try clear hcz7_0
    try clear hcz7_1
    try clear hfz10_0
    try clear hfz10_1
    try clear hfz12_0
    try clear hfz12_1
    try clear hfz7_0
    try clear hfz7_1
    obtain ⟨x10_1,rfl,HA,HK1,BK526,HB⟩ := hrel
    cases gk with
    | zero => exact absurd HA.out (by simp [R_test.l0])
    | succ k1 =>
     have H := HA.out
     clear HA
     simp only [R_test.l0] at H
     by_cases c13 : x10_1 < (l3.length : Int)
     ·rw [if_pos c13] at H
      have c13b0 : decide (x10_1 < (l3.length : Int)) = true := decide_eq_true c13
      clear c13
      by_cases c14 : 0 ≤ x10_1
      ·rw [if_pos c14] at H
       have c14b0 : decide (0 ≤ x10_1) = true := decide_eq_true c14
       clear c14
       replace H := oB_ H
       obtain ⟨t528,A150,H⟩ := H
       replace H : (if t528 = true then (some (0,7)) else (if 0 ≤ ((rd_T32 l3 x10_1).f0) then (if ((rd_T32 l3 x10_1).f0) < (l0.length : Int) then (if ((rd_T49 l0 ((rd_T32 l3 x10_1).f0)).f4) < a1 then (some (0,10)) else (R_test.l0 k1 l0 a1 l3 (wrap64 (x10_1 + 1)) a2_0 a2_1)) else (none)) else (none))) = some (r1,r2) := H
       have A15 := aM_ A150
       clear A150
       by_cases c16 : t528 = true
       ·subst c16
        have H1 : (some (0,7)) = some (r1,r2) := by rw [if_pos rfl] at H;exact H
        clear H
        have H := H1
        clear H1
        simp only [Option.some.injEq,Prod.mk.injEq] at H
        obtain ⟨rfl,rfl⟩ := H
        have p527 : 0 ≤ (x10_1 : Int) := of_decide_eq_true (by first | (with_reducible assumption) | assumption)
        have q527 : x10_1 < (l3.length : Int) := of_decide_eq_true (by first | (with_reducible assumption) | assumption)
        obtain ⟨ad527,e527,hx527_0,hx527_1⟩ := at_T32 HR3.out x10_1 p527 q527
        cases e527
        replace hx527_0 := (HB.out.cell (World.block_lt_of_cell? w _ hx527_0)).trans hx527_0
        replace hx527_1 := (HB.out.cell (World.block_lt_of_cell? w _ hx527_1)).trans hx527_1
        replace p527 := eq_true p527
        replace q527 := eq_true q527
        go_wp2_with (first | ((with_reducible refine gate_callee (f := 49) rfl ?_);refine goesL_ (some 35) rfl rfl Try.func49 (by kernel_rfl) rfl #[.int .i64 ((rd_T32 l3 x10_1).f0),.int .i64 0,.int .i64 (wrap64 ((l0.length : Int) - 1))] rfl (by (try simp only [List.map_toArray,List.map_cons,List.map_nil]);first | done | rfl) ?_;(with_reducible refine (R_beyond.calls ((rd_T32 l3 x10_1).f0) 0 (wrap64 ((l0.length : Int) - 1)) true _ A15.out).mono ?_);rintro e w' ⟨rfl,⟨nd,rfl⟩⟩;refine ⟨_,rfl,?_⟩))
        go_ret2
        exact ⟨by first | rfl | (simp [*] <;> rfl),by exact lb_ HB⟩
       ·replace c16 := Bool.eq_false_iff.mpr c16
        subst c16
        have H1 : (if 0 ≤ ((rd_T32 l3 x10_1).f0) then (if ((rd_T32 l3 x10_1).f0) < (l0.length : Int) then (if ((rd_T49 l0 ((rd_T32 l3 x10_1).f0)).f4) < a1 then (some (0,10)) else (R_test.l0 k1 l0 a1 l3 (wrap64 (x10_1 + 1)) a2_0 a2_1)) else (none)) else (none)) = some (r1,r2) := by rw [if_neg (show ¬ (false = true) by decide)] at H;exact H
        clear H
        have H := H1
        clear H1
        by_cases c17 : 0 ≤ ((rd_T32 l3 x10_1).f0)
        ·rw [if_pos c17] at H
         have c17b0 : decide (0 ≤ ((rd_T32 l3 x10_1).f0)) = true := decide_eq_true c17
         clear c17
         by_cases c18 : ((rd_T32 l3 x10_1).f0) < (l0.length : Int)
         ·rw [if_pos c18] at H
          have c18b0 : decide (((rd_T32 l3 x10_1).f0) < (l0.length : Int)) = true := decide_eq_true c18
          clear c18
          by_cases c19 : ((rd_T49 l0 ((rd_T32 l3 x10_1).f0)).f4) < a1
          ·rw [if_pos c19] at H
           have c19b0 : decide (((rd_T49 l0 ((rd_T32 l3 x10_1).f0)).f4) < a1) = true := decide_eq_true c19
           clear c19
           simp only [Option.some.injEq,Prod.mk.injEq] at H
           obtain ⟨rfl,rfl⟩ := H
           have p527 : 0 ≤ (x10_1 : Int) := of_decide_eq_true (by first | (with_reducible assumption) | assumption)
           have q527 : x10_1 < (l3.length : Int) := of_decide_eq_true (by first | (with_reducible assumption) | assumption)
           obtain ⟨ad527,e527,hx527_0,hx527_1⟩ := at_T32 HR3.out x10_1 p527 q527
           cases e527
           replace hx527_0 := (HB.out.cell (World.block_lt_of_cell? w _ hx527_0)).trans hx527_0
           replace hx527_1 := (HB.out.cell (World.block_lt_of_cell? w _ hx527_1)).trans hx527_1
           replace p527 := eq_true p527
           replace q527 := eq_true q527
           go_wp2_with (first | ((with_reducible refine gate_callee (f := 49) rfl ?_);refine goesL_ (some 35) rfl rfl Try.func49 (by kernel_rfl) rfl #[.int .i64 ((rd_T32 l3 x10_1).f0),.int .i64 0,.int .i64 (wrap64 ((l0.length : Int) - 1))] rfl (by (try simp only [List.map_toArray,List.map_cons,List.map_nil]);first | done | rfl) ?_;(with_reducible refine (R_beyond.calls ((rd_T32 l3 x10_1).f0) 0 (wrap64 ((l0.length : Int) - 1)) false _ A15.out).mono ?_);rintro e w' ⟨rfl,⟨nd,rfl⟩⟩;refine ⟨_,rfl,?_⟩;have p529 : 0 ≤ (x10_1 : Int) := of_decide_eq_true (by first | (with_reducible assumption) | assumption);have q529 : x10_1 < (l3.length : Int) := of_decide_eq_true (by first | (with_reducible assumption) | assumption);obtain ⟨ad529,e529,hx529_0,hx529_1⟩ := at_T32 HR3.out x10_1 p529 q529;obtain rfl : ad527 = ad529 := (by injection e529);replace hx529_0 := (HB.out.cell (World.block_lt_of_cell? w _ hx529_0)).trans hx529_0;replace hx529_1 := (HB.out.cell (World.block_lt_of_cell? w _ hx529_1)).trans hx529_1;replace p529 := eq_true p529;replace q529 := eq_true q529;have p530 : 0 ≤ (((rd_T32 l3 x10_1).f0) : Int) := of_decide_eq_true (by first | (with_reducible assumption) | assumption);have q530 : ((rd_T32 l3 x10_1).f0) < (l0.length : Int) := of_decide_eq_true (by first | (with_reducible assumption) | assumption);obtain ⟨ad530,e530,hx530_0,hx530_1,hx530_2,hx530_3,hx530_4,hx530_5,hx530_6⟩ := at_T49 HR0.out ((rd_T32 l3 x10_1).f0) p530 q530;cases e530;replace hx530_0 := (HB.out.cell (World.block_lt_of_cell? w _ hx530_0)).trans hx530_0;replace hx530_1 := (HB.out.cell (World.block_lt_of_cell? w _ hx530_1)).trans hx530_1;replace hx530_2 := (HB.out.cell (World.block_lt_of_cell? w _ hx530_2)).trans hx530_2;replace hx530_3 := (HB.out.cell (World.block_lt_of_cell? w _ hx530_3)).trans hx530_3;replace hx530_4 := (HB.out.cell (World.block_lt_of_cell? w _ hx530_4)).trans hx530_4;replace hx530_5 := (HB.out.cell (World.block_lt_of_cell? w _ hx530_5)).trans hx530_5;replace hx530_6 := (HB.out.cell (World.block_lt_of_cell? w _ hx530_6)).trans hx530_6;replace p530 := eq_true p530;replace q530 := eq_true q530))
           go_ret2
           exact ⟨by first | rfl | (simp [*] <;> rfl),by exact lb_ HB⟩
          ·rw [if_neg c19] at H
           have c19b0 : decide (((rd_T49 l0 ((rd_T32 l3 x10_1).f0)).f4) < a1) = false := decide_eq_false c19
           clear c19
           have H' := aM_ H
           clear H
           have p527 : 0 ≤ (x10_1 : Int) := of_decide_eq_true (by first | (with_reducible assumption) | assumption)
           have q527 : x10_1 < (l3.length : Int) := of_decide_eq_true (by first | (with_reducible assumption) | assumption)
           obtain ⟨ad527,e527,hx527_0,hx527_1⟩ := at_T32 HR3.out x10_1 p527 q527
           cases e527
           replace hx527_0 := (HB.out.cell (World.block_lt_of_cell? w _ hx527_0)).trans hx527_0
           replace hx527_1 := (HB.out.cell (World.block_lt_of_cell? w _ hx527_1)).trans hx527_1
           replace p527 := eq_true p527
           replace q527 := eq_true q527
           go_wp2_with (first | ((with_reducible refine gate_callee (f := 49) rfl ?_);refine goesL_ (some 35) rfl rfl Try.func49 (by kernel_rfl) rfl #[.int .i64 ((rd_T32 l3 x10_1).f0),.int .i64 0,.int .i64 (wrap64 ((l0.length : Int) - 1))] rfl (by (try simp only [List.map_toArray,List.map_cons,List.map_nil]);first | done | rfl) ?_;(with_reducible refine (R_beyond.calls ((rd_T32 l3 x10_1).f0) 0 (wrap64 ((l0.length : Int) - 1)) false _ A15.out).mono ?_);rintro e w' ⟨rfl,⟨nd,rfl⟩⟩;refine ⟨_,rfl,?_⟩;have p529 : 0 ≤ (x10_1 : Int) := of_decide_eq_true (by first | (with_reducible assumption) | assumption);have q529 : x10_1 < (l3.length : Int) := of_decide_eq_true (by first | (with_reducible assumption) | assumption);obtain ⟨ad529,e529,hx529_0,hx529_1⟩ := at_T32 HR3.out x10_1 p529 q529;obtain rfl : ad527 = ad529 := (by injection e529);replace hx529_0 := (HB.out.cell (World.block_lt_of_cell? w _ hx529_0)).trans hx529_0;replace hx529_1 := (HB.out.cell (World.block_lt_of_cell? w _ hx529_1)).trans hx529_1;replace p529 := eq_true p529;replace q529 := eq_true q529;have p530 : 0 ≤ (((rd_T32 l3 x10_1).f0) : Int) := of_decide_eq_true (by first | (with_reducible assumption) | assumption);have q530 : ((rd_T32 l3 x10_1).f0) < (l0.length : Int) := of_decide_eq_true (by first | (with_reducible assumption) | assumption);obtain ⟨ad530,e530,hx530_0,hx530_1,hx530_2,hx530_3,hx530_4,hx530_5,hx530_6⟩ := at_T49 HR0.out ((rd_T32 l3 x10_1).f0) p530 q530;cases e530;replace hx530_0 := (HB.out.cell (World.block_lt_of_cell? w _ hx530_0)).trans hx530_0;replace hx530_1 := (HB.out.cell (World.block_lt_of_cell? w _ hx530_1)).trans hx530_1;replace hx530_2 := (HB.out.cell (World.block_lt_of_cell? w _ hx530_2)).trans hx530_2;replace hx530_3 := (HB.out.cell (World.block_lt_of_cell? w _ hx530_3)).trans hx530_3;replace hx530_4 := (HB.out.cell (World.block_lt_of_cell? w _ hx530_4)).trans hx530_4;replace hx530_5 := (HB.out.cell (World.block_lt_of_cell? w _ hx530_5)).trans hx530_5;replace hx530_6 := (HB.out.cell (World.block_lt_of_cell? w _ hx530_6)).trans hx530_6;replace p530 := eq_true p530;replace q530 := eq_true q530))
           go_roundg k1
           case measure => have := HK1.out;omega
           case rel => exact ⟨(wrap64 (x10_1 + 1)),(by first | rfl | (simp;done) | (simp [*];done)),H',⟨by have := HK1.out;omega⟩,⟨by exact lk_ BK526⟩,⟨by exact lb_ HB⟩⟩
         ·rw [if_neg c18] at H
          exact absurd H (by simp)
        ·rw [if_neg c17] at H
         exact absurd H (by simp)
      ·rw [if_neg c14] at H
       exact absurd H (by simp)
     ·rw [if_neg c13] at H
      have c13b0 : decide (x10_1 < (l3.length : Int)) = false := decide_eq_false c13
      clear c13
      by_cases c20 : (l3.length : Int) = 0
      ·rw [if_pos c20] at H
       have c20b0 : ((l3.length : Int) == 0) = true := beq_iff_eq.mpr c20
       have c20b1 : ((l3.length : Int) != 0) = false := bne_eq_false_iff_eq.mpr c20
       clear c20
       simp only [Option.some.injEq,Prod.mk.injEq] at H
       obtain ⟨rfl,rfl⟩ := H
       go_wp2
       go_ret2
       exact ⟨by first | rfl | (simp [*] <;> rfl),by exact lb_ HB⟩
      ·rw [if_neg c20] at H
       have c20b0 : ((l3.length : Int) == 0) = false := beq_eq_false_iff_ne.mpr c20
       have c20b1 : ((l3.length : Int) != 0) = true := bne_iff_ne.mpr c20
       have c20b2 : ¬ (l3 = []) := fun h_ => c20 (by rw [h_];rfl)
       replace H := oB_ H
       obtain ⟨⟨t531,t532,t533⟩,A210,H⟩ := H
       replace H : (if t533 = 0 then ((R_Verdict.f k1 t531 t532 a2_0 a2_1).bind fun t535 => (some (t535,0))) else (some (0,t533))) = some (r1,r2) := H
       have A21 := aM_ A210
       clear A210
       by_cases c22 : t533 = 0
       ·rw [if_pos c22] at H
        have c22b0 : (t533 == 0) = true := beq_iff_eq.mpr c22
        have c22b1 : (t533 != 0) = false := bne_eq_false_iff_eq.mpr c22
        clear c22
        replace H := oB_ H
        obtain ⟨t535,A230,H⟩ := H
        replace H : (some (t535,0)) = some (r1,r2) := H
        have A23 := aM_ A230
        clear A230
        simp only [Option.some.injEq,Prod.mk.injEq] at H
        obtain ⟨rfl,rfl⟩ := H
        go_wp2_with (first | ((with_reducible refine gate_callee (f := 85) rfl ?_);refine goesL_ (some 53) rfl rfl Try.func85 (by kernel_rfl) rfl #[.slice A0 l0.length c0,.slice A3 l3.length c3] rfl (by (try simp only [List.map_toArray,List.map_cons,List.map_nil]);first | done | rfl) ?_;(with_reducible refine (R_Together.calls k1 _ _ l0 _ _ l3 t531 t532 t533 _ ?side1 ?side2 ?side3 ?side4 A21.out).mono ?_);(case side1 => exact Kd.C_below HR0.out (lb_ HB));(case side2 => exact HC0.out);(case side3 => exact Kd.C_below HR3.out (lb_ HB));(case side4 => exact HC3.out);rintro e w24 ⟨rfl,hb⟩;refine ⟨_,rfl,?_⟩;have n0_ := aM_ (kB_ (g := gb526) (o := .cells #[.int .i64 a2_0,.int .i64 a2_1] 34 (0,0)) (by exact lk_ BK526) hb);have n1_ := aM_ (bT_ (by exact lb_ HB) hb);clear BK526;clear HB;have BK526 := n0_;have HB := n1_;clear n0_ n1_;(try clear hb);(try clear hb2);(try clear hk);(try clear hi)) | ((with_reducible refine gate_dst (N := 11) rfl ?_);refine box_event ?hg (N := 11) ?hd (cs := #[.int .i64 0,.int .i64 0]) (t := 34) ?hr ?_;(case hd => rfl);(case hg => rfl);(case hr => first | (go_simp;done) | (go_simp;rfl));intro gb534 hg w25 hbox hb;have n0_ := aM_ (kB_ (g := gb526) (o := .cells #[.int .i64 a2_0,.int .i64 a2_1] 34 (0,0)) (by exact lk_ BK526) hb);have n1_ := aM_ (bT_ (by exact lb_ HB) hb);have n2_ := aM_ (hbox);have n3_ := aM_ ((by rw [hg];exact (below_size (by exact lb_ HB)) : w.heap.size ≤ gb534));have n4_ := aM_ ((by rw [hg];exact (below_size (by exact lb_ HB)) : w.heap.size ≤ gb534));have n5_ := aM_ ((by rw [hg];exact Nat.ne_of_lt (blk_lt (g := gb526) (o := .cells #[.int .i64 a2_0,.int .i64 a2_1] 34 (0,0)) (by exact lk_ BK526)) : gb526 ≠ gb534));have n6_ := aM_ ((by rw [hg];exact Nat.ne_of_gt (blk_lt (g := gb526) (o := .cells #[.int .i64 a2_0,.int .i64 a2_1] 34 (0,0)) (by exact lk_ BK526)) : gb534 ≠ gb526));clear BK526;clear HB;have BK526 := n0_;have HB := n1_;have BK534 := n2_;have GW534 := n3_;have GE534 := n4_;have := Ge_.mk n4_.out;have NB526_534 := n5_;have NB534_526 := n6_;clear n0_ n1_ n2_ n3_ n4_ n5_ n6_;clear hb hbox hg;have hnb26 := NB534_526.out;have hnc26 := NB526_534.out;have hcz27_0 : w25.cell? ⟨gb534,0,none⟩ = some (.int .i64 0) := (blk_cell BK534.out 0).trans rfl;have hcz27_1 : w25.cell? ⟨gb534,1,none⟩ = some (.int .i64 0) := (blk_cell BK534.out 1).trans rfl;have hfz27_0 := blk_frozen BK534.out 0;have hfz27_1 := blk_frozen BK534.out 1;have hcz28_0 : w25.cell? ⟨gb526,0,none⟩ = some (.int .i64 a2_0) := (blk_cell BK526.out 0).trans rfl;have hcz28_1 : w25.cell? ⟨gb526,1,none⟩ = some (.int .i64 a2_1) := (blk_cell BK526.out 1).trans rfl;have hfz28_0 := blk_frozen BK526.out 0;have hfz28_1 := blk_frozen BK526.out 1) | ((with_reducible refine gate_callee (f := 21) rfl ?_);refine goesL_ (some 61) rfl rfl Try.func21 (by kernel_rfl) rfl #[.agg #[.int .i64 t531,.int .i64 t532],.agg #[.int .i64 a2_0,.int .i64 a2_1]] rfl (by (try simp only [List.map_toArray,List.map_cons,List.map_nil]);first | done | rfl) ?_;(with_reducible refine (R_Verdict.calls k1 t531 t532 a2_0 a2_1 t535 _ A23.out).mono ?_);rintro e w29 ⟨rfl,hb⟩;refine ⟨_,rfl,?_⟩;have n0_ := aM_ (kB_ (g := gb526) (o := .cells #[.int .i64 a2_0,.int .i64 a2_1] 34 (0,0)) (by (with_reducible repeat (first | refine kN_ ?_ _ | refine kD_ ?_ | refine kA_ ?_ _));refine blk_far ?_ NB526_534.out _;(with_reducible repeat (first | refine kN_ ?_ _ | refine kD_ ?_ | refine kA_ ?_ _));refine blk_far ?_ NB526_534.out _;exact lk_ BK526) hb);have n1_ := aM_ (kB_ (g := gb534) (o := .cells #[.int .i64 t531,.int .i64 t532] 34 (0,0)) (by (with_reducible repeat (first | refine kN_ ?_ _ | refine kD_ ?_ | refine kA_ ?_ _));refine blk_put (cs := #[.int .i64 t531,.int .i64 0]) ?_ 1 _ rfl;(with_reducible repeat (first | refine kN_ ?_ _ | refine kD_ ?_ | refine kA_ ?_ _));refine blk_put (cs := #[.int .i64 0,.int .i64 0]) ?_ 0 _ rfl;exact lk_ BK534) hb);have n2_ := aM_ (bT_ (by exact lb_ HB) hb);clear BK526;clear BK534;clear HB;have BK526 := n0_;have BK534 := n1_;have HB := n2_;clear n0_ n1_ n2_;(try clear hb);(try clear hb2);(try clear hk);(try clear hi)))
        go_ret2
        exact ⟨by first | rfl | (simp [*] <;> rfl),by exact lb_ HB⟩
       ·rw [if_neg c22] at H
        have c22b0 : (t533 == 0) = false := beq_eq_false_iff_ne.mpr c22
        have c22b1 : (t533 != 0) = true := bne_iff_ne.mpr c22
        simp only [Option.some.injEq,Prod.mk.injEq] at H
        obtain ⟨rfl,rfl⟩ := H
        go_wp2_with (first | ((with_reducible refine gate_callee (f := 85) rfl ?_);refine goesL_ (some 53) rfl rfl Try.func85 (by kernel_rfl) rfl #[.slice A0 l0.length c0,.slice A3 l3.length c3] rfl (by (try simp only [List.map_toArray,List.map_cons,List.map_nil]);first | done | rfl) ?_;(with_reducible refine (R_Together.calls k1 _ _ l0 _ _ l3 t531 t532 t533 _ ?side1 ?side2 ?side3 ?side4 A21.out).mono ?_);(case side1 => exact Kd.C_below HR0.out (lb_ HB));(case side2 => exact HC0.out);(case side3 => exact Kd.C_below HR3.out (lb_ HB));(case side4 => exact HC3.out);rintro e w30 ⟨rfl,hb⟩;refine ⟨_,rfl,?_⟩;have n0_ := aM_ (kB_ (g := gb526) (o := .cells #[.int .i64 a2_0,.int .i64 a2_1] 34 (0,0)) (by exact lk_ BK526) hb);have n1_ := aM_ (bT_ (by exact lb_ HB) hb);clear BK526;clear HB;have BK526 := n0_;have HB := n1_;clear n0_ n1_;(try clear hb);(try clear hb2);(try clear hk);(try clear hi)) | ((with_reducible refine gate_dst (N := 11) rfl ?_);refine box_event ?hg (N := 11) ?hd (cs := #[.int .i64 0,.int .i64 0]) (t := 34) ?hr ?_;(case hd => rfl);(case hg => rfl);(case hr => first | (go_simp;done) | (go_simp;rfl));intro gb534 hg w31 hbox hb;have n0_ := aM_ (kB_ (g := gb526) (o := .cells #[.int .i64 a2_0,.int .i64 a2_1] 34 (0,0)) (by exact lk_ BK526) hb);have n1_ := aM_ (bT_ (by exact lb_ HB) hb);have n2_ := aM_ (hbox);have n3_ := aM_ ((by rw [hg];exact (below_size (by exact lb_ HB)) : w.heap.size ≤ gb534));have n4_ := aM_ ((by rw [hg];exact (below_size (by exact lb_ HB)) : w.heap.size ≤ gb534));have n5_ := aM_ ((by rw [hg];exact Nat.ne_of_lt (blk_lt (g := gb526) (o := .cells #[.int .i64 a2_0,.int .i64 a2_1] 34 (0,0)) (by exact lk_ BK526)) : gb526 ≠ gb534));have n6_ := aM_ ((by rw [hg];exact Nat.ne_of_gt (blk_lt (g := gb526) (o := .cells #[.int .i64 a2_0,.int .i64 a2_1] 34 (0,0)) (by exact lk_ BK526)) : gb534 ≠ gb526));clear BK526;clear HB;have BK526 := n0_;have HB := n1_;have BK534 := n2_;have GW534 := n3_;have GE534 := n4_;have := Ge_.mk n4_.out;have NB526_534 := n5_;have NB534_526 := n6_;clear n0_ n1_ n2_ n3_ n4_ n5_ n6_;clear hb hbox hg;have hnb32 := NB534_526.out;have hnc32 := NB526_534.out;have hcz33_0 : w31.cell? ⟨gb534,0,none⟩ = some (.int .i64 0) := (blk_cell BK534.out 0).trans rfl;have hcz33_1 : w31.cell? ⟨gb534,1,none⟩ = some (.int .i64 0) := (blk_cell BK534.out 1).trans rfl;have hfz33_0 := blk_frozen BK534.out 0;have hfz33_1 := blk_frozen BK534.out 1))
        go_ret2
        exact ⟨by first | rfl | (simp [*] <;> rfl),by exact lb_ HB⟩

/-! ### R_worst: function 61 -/
mutual
def R_worst.l0 : Nat → List Int → List Int → Int → Option (Int × Int)
 | 0,_,_,_ => none
 | k + 1,x0,x4,x5 => if x5 < (x4.length : Int) then (R_worst.l1 k x0 x4 x5 0) else (some (1,(-1)))
def R_worst.l1 : Nat → List Int → List Int → Int → Int → Option (Int × Int)
 | 0,_,_,_,_ => none
 | k + 1,x0,x4,x5,x6 => if x6 < (x0.length : Int) then (if 0 ≤ x6 then (if 0 ≤ x5 then (if x5 < (x4.length : Int) then (if (rd x0 x6) = (rd x4 x5) then (some (rd x4 x5,x6)) else (R_worst.l1 k x0 x4 x5 (wrap64 (x6 + 1)))) else (none)) else (none)) else (none)) else (R_worst.l0 k x0 x4 (wrap64 (x5 + 1)))
end
def R_worst.f (k : Nat) (l0 : List Int) : Option (Int × Int) := R_worst.l0 k l0 (([2,3] : List Int)) 0
set_option maxHeartbeats 8000000 in
set_option maxRecDepth 100000 in
theorem R_worst.calls (k : Nat) (A0 : Option Addr) (c0 : Nat) (l0 : List Int) (r1 : Int) (r2 : Int) (w : World) (hr0 : Kd.C (Kd.int .i64) w A0 l0.length l0) (hc0 : l0.length ≤ c0) (h : R_worst.f k l0 = some (r1,r2)) :
  Calls Try.prog 61 #[.slice A0 l0.length c0] w fun e w' => e = .returned (.tuple #[.int .i64 r1,.int .i64 r2]) ∧ Below w.heap.size w w' := by
 have HR0 := aM_ hr0
 have HC0 := aM_ hc0
 clear hr0 hc0
 have HB := aM_ (Below.refl w.heap.size w)
 have H : (R_worst.l0 k l0 (([2,3] : List Int)) 0) = some (r1,r2) := h
 clear h
 obtain ⟨y536,hy536⟩ : ∃ y_ : List Int,y_ = (([2,3] : List Int)) := ⟨_,rfl⟩
 replace H : (R_worst.l0 k l0 y536 0) = some (r1,r2) := by first | (rw [hy536];with_reducible exact H) | (have H2_ := (Option.bind_some _ _).symm.trans H;rw [hy536];with_reducible exact H2_) | (have H2_ := (Option.bind_some _ _).symm.trans H;with_reducible exact H2_) | with_reducible exact H | (rw [hy536];exact H) | exact H
 have Ny536 := aM_ hy536
 clear hy536
 have H' := aM_ H
 clear H
 go_enter Try.func61,Try.ntmps61
 go_wp2_with (first | ((with_reducible refine gate_dst (N := 7) rfl ?_);refine Kd.R_lit (Kd.int .i64) _ 3 ?hg (N := 7) ?hd (xs := ([2,3] : List Int)) (inner := [.int .i64 2,.int .i64 3]) (ok := fun _ => True) (okp := fun _ => True) ?hr ?hp (fun _ hk => hk) trivial (Below.refl _ _) (Nat.le_refl _) (by simp) ?_;(case hd => rfl);(case hg => rfl);(case hr => first | (go_simp;done) | (go_simp;rfl));(case hp => exact (Reps.one (show Kd.M (Kd.int .i64) _ _ _ 2 [.int .i64 2] from rfl) (Reps.one (show Kd.M (Kd.int .i64) _ _ _ 3 [.int .i64 3] from rfl) (Reps.none _ _))));intro v537 w2 ho3 hb hg_ hnew_;clear hg_ hnew_;(first | rw [← Ny536.out] at ho3 | (simp only [Int.reduceToNat] at ho3;rw [← Ny536.out] at ho3));have n0_ := aM_ (Kd.R_lower ho3 (below_size (by exact lb_ HB)));have n1_ := aM_ (bT_ (by exact lb_ HB) hb);clear HB;have HO538 := n0_;have HB := n1_;clear n0_ n1_;clear hb ho3))
 repeat (go_quiet (first | ((with_reducible refine gate_dst (N := 7) rfl ?_);refine Kd.R_lit (Kd.int .i64) _ 3 ?hg (N := 7) ?hd (xs := ([2,3] : List Int)) (inner := [.int .i64 2,.int .i64 3]) (ok := fun _ => True) (okp := fun _ => True) ?hr ?hp (fun _ hk => hk) trivial (Below.refl _ _) (Nat.le_refl _) (by simp) ?_;(case hd => rfl);(case hg => rfl);(case hr => first | (go_simp;done) | (go_simp;rfl));(case hp => exact (Reps.one (show Kd.M (Kd.int .i64) _ _ _ 2 [.int .i64 2] from rfl) (Reps.one (show Kd.M (Kd.int .i64) _ _ _ 3 [.int .i64 3] from rfl) (Reps.none _ _))));intro v537 w2 ho3 hb hg_ hnew_;clear hg_ hnew_;(first | rw [← Ny536.out] at ho3 | (simp only [Int.reduceToNat] at ho3;rw [← Ny536.out] at ho3));have n0_ := aM_ (Kd.R_lower ho3 (below_size (by exact lb_ HB)));have n1_ := aM_ (bT_ (by exact lb_ HB) hb);clear HB;have HO538 := n0_;have HB := n1_;clear n0_ n1_;clear hb ho3));try go_wp2_with (first | ((with_reducible refine gate_dst (N := 7) rfl ?_);refine Kd.R_lit (Kd.int .i64) _ 3 ?hg (N := 7) ?hd (xs := ([2,3] : List Int)) (inner := [.int .i64 2,.int .i64 3]) (ok := fun _ => True) (okp := fun _ => True) ?hr ?hp (fun _ hk => hk) trivial (Below.refl _ _) (Nat.le_refl _) (by simp) ?_;(case hd => rfl);(case hg => rfl);(case hr => first | (go_simp;done) | (go_simp;rfl));(case hp => exact (Reps.one (show Kd.M (Kd.int .i64) _ _ _ 2 [.int .i64 2] from rfl) (Reps.one (show Kd.M (Kd.int .i64) _ _ _ 3 [.int .i64 3] from rfl) (Reps.none _ _))));intro v537 w2 ho3 hb hg_ hnew_;clear hg_ hnew_;(first | rw [← Ny536.out] at ho3 | (simp only [Int.reduceToNat] at ho3;rw [← Ny536.out] at ho3));have n0_ := aM_ (Kd.R_lower ho3 (below_size (by exact lb_ HB)));have n1_ := aM_ (bT_ (by exact lb_ HB) hb);clear HB;have HO538 := n0_;have HB := n1_;clear n0_ n1_;clear hb ho3)))
 go_loopg [5] k (fun kq v5 w' => ∃ (x5_1 : Int),v5 = .int .i64 x5_1 ∧ Aside0 (R_worst.l0 kq l0 y536 x5_1 = some (r1,r2)) ∧ Aside0 (kq ≤ k) ∧ Aside0 (Kd.R (Kd.int .i64) 3 w' w.heap.size (fun _ => True) v537 y536) ∧ Aside0 (Below w.heap.size w w'))
 case atStart => exact ⟨(0),(by first | rfl | (simp;done) | (simp [*];done)),H',⟨Nat.le_refl _⟩,⟨by exact lo_ HO538⟩,⟨by exact lb_ HB⟩⟩
 case round =>
  clear H'
  try clear p2
  obtain ⟨x5_1,rfl,HA,HK1,HO_4,HB⟩ := hrel
  cases gk with
  | zero => exact absurd HA.out (by simp [R_worst.l0])
  | succ k1 =>
   have H := HA.out
   clear HA
   simp only [R_worst.l0] at H
   by_cases c4 : x5_1 < (y536.length : Int)
   ·rw [if_pos c4] at H
    have c4b0 : decide (x5_1 < (y536.length : Int)) = true := decide_eq_true c4
    clear c4
    have H' := aM_ H
    clear H
    obtain ⟨Ao5,co5,eo5⟩ := Kd.R_slice HO_4.out
    subst eo5
    go_wp2
    repeat (go_quiet (fail);try go_wp2)
    go_loopg [6] k1 (fun kq v6 w' => ∃ (x6_2 : Int),v6 = .int .i64 x6_2 ∧ Aside0 (R_worst.l1 kq l0 y536 x5_1 x6_2 = some (r1,r2)) ∧ Aside0 (kq ≤ k1) ∧ Aside0 (Kd.R (Kd.int .i64) 3 w' w.heap.size (fun _ => True) (.slice Ao5 y536.length co5) y536) ∧ Aside0 (Below w.heap.size w w'))
    case atStart => exact ⟨(0),(by first | rfl | (simp;done) | (simp [*];done)),H',⟨Nat.le_refl _⟩,⟨by exact lo_ HO_4⟩,⟨by exact lb_ HB⟩⟩
    case round =>
     clear H'
     try clear p2
     try clear c4
     try clear c4b0
     try clear p2
     obtain ⟨x6_2,rfl,HA,HK2,HO_4,HB⟩ := hrel
     cases gk with
     | zero => exact absurd HA.out (by simp [R_worst.l1])
     | succ k2 =>
      have H := HA.out
      clear HA
      simp only [R_worst.l1] at H
      by_cases c6 : x6_2 < (l0.length : Int)
      ·rw [if_pos c6] at H
       have c6b0 : decide (x6_2 < (l0.length : Int)) = true := decide_eq_true c6
       clear c6
       by_cases c7 : 0 ≤ x6_2
       ·rw [if_pos c7] at H
        have c7b0 : decide (0 ≤ x6_2) = true := decide_eq_true c7
        clear c7
        by_cases c8 : 0 ≤ x5_1
        ·rw [if_pos c8] at H
         have c8b0 : decide (0 ≤ x5_1) = true := decide_eq_true c8
         clear c8
         by_cases c9 : x5_1 < (y536.length : Int)
         ·rw [if_pos c9] at H
          have c9b0 : decide (x5_1 < (y536.length : Int)) = true := decide_eq_true c9
          clear c9
          by_cases c10 : (rd l0 x6_2) = (rd y536 x5_1)
          ·rw [if_pos c10] at H
           have c10b0 : ((rd l0 x6_2) == (rd y536 x5_1)) = true := beq_iff_eq.mpr c10
           have c10b1 : ((rd l0 x6_2) != (rd y536 x5_1)) = false := bne_eq_false_iff_eq.mpr c10
           clear c10
           simp only [Option.some.injEq,Prod.mk.injEq] at H
           obtain ⟨rfl,rfl⟩ := H
           have p539 : 0 ≤ (x6_2 : Int) := of_decide_eq_true (by first | (with_reducible assumption) | assumption)
           have q539 : x6_2 < (l0.length : Int) := of_decide_eq_true (by first | (with_reducible assumption) | assumption)
           obtain ⟨ad539,e539,hx539_0⟩ := Kd.at_int HR0.out x6_2 p539 q539
           cases e539
           replace hx539_0 := (HB.out.cell (World.block_lt_of_cell? w _ hx539_0)).trans hx539_0
           replace p539 := eq_true p539
           replace q539 := eq_true q539
           have p540 : 0 ≤ (x5_1 : Int) := of_decide_eq_true (by first | (with_reducible assumption) | assumption)
           have q540 : x5_1 < (y536.length : Int) := of_decide_eq_true (by first | (with_reducible assumption) | assumption)
           obtain ⟨ad540,e540,hx540_0⟩ := Kd.at_int (Kd.R_reads' HO_4.out).2.2 x5_1 p540 q540
           cases e540
           replace p540 := eq_true p540
           replace q540 := eq_true q540
           have p541 : 0 ≤ (x5_1 : Int) := of_decide_eq_true (by first | (with_reducible assumption) | assumption)
           have q541 : x5_1 < (y536.length : Int) := of_decide_eq_true (by first | (with_reducible assumption) | assumption)
           obtain ⟨ad541,e541,hx541_0⟩ := Kd.at_int (Kd.R_reads' HO_4.out).2.2 x5_1 p541 q541
           obtain rfl : ad540 = ad541 := (by injection e541)
           replace p541 := eq_true p541
           replace q541 := eq_true q541
           go_wp2
           repeat (go_quiet (fail);try go_wp2)
           go_ret2
           exact ⟨by first | rfl | (simp [*] <;> rfl),by exact lb_ HB⟩
          ·rw [if_neg c10] at H
           have c10b0 : ((rd l0 x6_2) == (rd y536 x5_1)) = false := beq_eq_false_iff_ne.mpr c10
           have c10b1 : ((rd l0 x6_2) != (rd y536 x5_1)) = true := bne_iff_ne.mpr c10
           have H' := aM_ H
           clear H
           have p539 : 0 ≤ (x6_2 : Int) := of_decide_eq_true (by first | (with_reducible assumption) | assumption)
           have q539 : x6_2 < (l0.length : Int) := of_decide_eq_true (by first | (with_reducible assumption) | assumption)
           obtain ⟨ad539,e539,hx539_0⟩ := Kd.at_int HR0.out x6_2 p539 q539
           cases e539
           replace hx539_0 := (HB.out.cell (World.block_lt_of_cell? w _ hx539_0)).trans hx539_0
           replace p539 := eq_true p539
           replace q539 := eq_true q539
           have p540 : 0 ≤ (x5_1 : Int) := of_decide_eq_true (by first | (with_reducible assumption) | assumption)
           have q540 : x5_1 < (y536.length : Int) := of_decide_eq_true (by first | (with_reducible assumption) | assumption)
           obtain ⟨ad540,e540,hx540_0⟩ := Kd.at_int (Kd.R_reads' HO_4.out).2.2 x5_1 p540 q540
           cases e540
           replace p540 := eq_true p540
           replace q540 := eq_true q540
           go_wp2
           repeat (go_quiet (fail);try go_wp2)
           go_roundg k2
           case measure => have := HK1.out;have := HK2.out;omega
           case rel => exact ⟨(wrap64 (x6_2 + 1)),(by first | rfl | (simp;done) | (simp [*];done)),H',⟨by have := HK1.out;have := HK2.out;omega⟩,⟨by exact lo_ HO_4⟩,⟨by exact lb_ HB⟩⟩
         ·rw [if_neg c9] at H
          exact absurd H (by simp)
        ·rw [if_neg c8] at H
         exact absurd H (by simp)
       ·rw [if_neg c7] at H
        exact absurd H (by simp)
      ·rw [if_neg c6] at H
       have c6b0 : decide (x6_2 < (l0.length : Int)) = false := decide_eq_false c6
       clear c6
       have H' := aM_ H
       clear H
       go_wp2
       repeat (go_quiet (fail);try go_wp2)
       go_roundg k2
       case measure => have := HK1.out;have := HK2.out;omega
       case rel => exact ⟨(wrap64 (x5_1 + 1)),(by first | rfl | (simp;done) | (simp [*];done)),H',⟨by have := HK1.out;have := HK2.out;omega⟩,⟨by exact lo_ HO_4⟩,⟨by exact lb_ HB⟩⟩
   ·rw [if_neg c4] at H
    have c4b0 : decide (x5_1 < (y536.length : Int)) = false := decide_eq_false c4
    clear c4
    simp only [Option.some.injEq,Prod.mk.injEq] at H
    obtain ⟨rfl,rfl⟩ := H
    obtain ⟨Ao11,co11,eo11⟩ := Kd.R_slice HO_4.out
    subst eo11
    go_wp2
    repeat (go_quiet (fail);try go_wp2)
    go_ret2
    exact ⟨by first | rfl | (simp [*] <;> rfl),by exact lb_ HB⟩

end Go.Proofs.Ytdbpobadeibjaab.GS
