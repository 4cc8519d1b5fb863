-- written for this claim by a program of this session (wip/gp), over the kit's own printer; Lean checks it
import Derived.Test.YtdbpobadeibjaabGEx0
import Derived.Test.YtdbpobadeibjaabGEx10
namespace Go.Proofs.Ytdbpobadeibjaab.GE
open Go.RowKit Go.Proofs.YtdbpobadeibjaabW.PrintWords Go.Proofs.YtdbpobadeibjaabW.PrintLast Go.Proofs.YtdbpobadeibjaabW.PrintMore
attribute [local go_sem] max2_int min2_int max_two min_two max_three min_three max_four min_four
set_option linter.unusedVariables false
set_option linter.unusedSimpArgs false

/-! ### gauge_checkRange: function 74 -/
def gauge_checkRange.j0 : Nat → Bool → Int → Int → Option (Int)
 | 0,_,_,_ => none
 | k + 1,x7,x169000,x169001 => if x7 = true then (some 2) else (if x169000 > x169001 then (some 11) else (some 0))
def gauge_checkRange.f (k : Nat) (a0_0 : Int) (a0_1 : Int) (a1 : Int) (a2 : Int) : Option (Int) := (gauge_outside.f a0_0 a1 a2).bind fun t169 => (if t169 = true then (gauge_checkRange.j0 k true a0_0 a0_1) else ((gauge_outside.f a0_1 a1 a2).bind fun t170 => (gauge_checkRange.j0 k t170 a0_0 a0_1)))
set_option maxHeartbeats 8000000 in
set_option maxRecDepth 100000 in
theorem gauge_checkRange.calls (k : Nat) (a0_0 : Int) (a0_1 : Int) (a1 : Int) (a2 : Int) (r : Int) (w : World) (h : gauge_checkRange.f k a0_0 a0_1 a1 a2 = some r) :
  Calls Try.prog 74 #[.agg #[.int .i64 a0_0,.int .i64 a0_1],.int .i64 a1,.int .i64 a2] w fun e w' => e = .returned (.int .i64 r) ∧ Below w.heap.size w w' := by
 have hu34 := Try.underlying34
 have HB := aM_ (Below.refl w.heap.size w)
 have H : ((gauge_outside.f a0_0 a1 a2).bind fun t169 => (if t169 = true then (gauge_checkRange.j0 k true a0_0 a0_1) else ((gauge_outside.f a0_1 a1 a2).bind fun t170 => (gauge_checkRange.j0 k t170 a0_0 a0_1)))) = some r := h
 clear h
 have HC4 := aM_ H
 clear H
 go_enter Try.func74,Try.ntmps74
 go_upto_region 1 with (first | ((with_reducible refine gate_dst (N := 3) rfl ?_);refine box_event ?hg (N := 3) ?hd (cs := #[.int .i64 a0_0,.int .i64 a0_1]) (t := 34) ?hr ?_;(case hd => rfl);(case hg => rfl);(case hr => first | (go_simp;done) | (go_simp;rfl));intro gb168 hg w5 hbox hb;have n0_ := aM_ (bT_ (by repeat (first | (with_reducible first | exact HB.out | apply bA_ | apply bN_ | apply bD_) | exact HB.out)) hb);have n1_ := aM_ (hbox);have n2_ := aM_ ((by rw [hg];exact (below_size (by repeat (first | (with_reducible first | exact HB.out | apply bA_ | apply bN_ | apply bD_) | exact HB.out))) : w.heap.size ≤ gb168));have n3_ := aM_ ((by rw [hg];exact (below_size (by repeat (first | (with_reducible first | exact HB.out | apply bA_ | apply bN_ | apply bD_) | exact HB.out))) : w.heap.size ≤ gb168));clear HB;have HB := n0_;have BK168 := n1_;have GW168 := n2_;have GE168 := n3_;clear n0_ n1_ n2_ n3_;clear hb hbox hg))
 (try simp only [Act.put,sB_,sZ_,sS_])
 go_cut [7] (fun v7 wc => ∃ (kq : Nat) (x7_3 : Bool),v7 = .bool x7_3 ∧ Aside0 (gauge_checkRange.j0 kq x7_3 a0_0 a0_1 = some r) ∧ Aside0 (kq ≤ k) ∧ Aside0 (wc.heap[gb168]? = some (.cells #[.int .i64 a0_0,.int .i64 a0_1] 34 (0,0))) ∧ Aside0 (Below w.heap.size w wc))
 case first =>
  have H := HC4.out
  clear HC4
  replace H := oB_ H
  obtain ⟨t169,A60,H⟩ := H
  replace H : (if t169 = true then (gauge_checkRange.j0 k true a0_0 a0_1) else ((gauge_outside.f a0_1 a1 a2).bind fun t170 => (gauge_checkRange.j0 k t170 a0_0 a0_1))) = some r := H
  have A6 := aM_ A60
  clear A60
  by_cases c7 : t169 = true
  ·subst c7
   have H1 : (gauge_checkRange.j0 k true a0_0 a0_1) = some r := by rw [if_pos rfl] at H;exact H
   clear H
   have H := H1
   clear H1
   have H' := aM_ H
   clear H
   have hcz8_0 : w5.cell? ⟨gb168,0,none⟩ = some (.int .i64 a0_0) := (blk_cell BK168.out 0).trans rfl
   have hcz8_1 : w5.cell? ⟨gb168,1,none⟩ = some (.int .i64 a0_1) := (blk_cell BK168.out 1).trans rfl
   have hfz8_0 := blk_frozen BK168.out 0
   have hfz8_1 := blk_frozen BK168.out 1
   go_wp2_with (first | ((with_reducible refine gate_callee (f := 44) rfl ?_);refine goesL_ (some 12) rfl rfl Try.func44 (by kernel_rfl) rfl #[.int .i64 a0_0,.int .i64 a1,.int .i64 a2] rfl (by (try simp only [List.map_toArray,List.map_cons,List.map_nil]);first | done | rfl) ?_;(with_reducible refine (gauge_outside.calls a0_0 a1 a2 true _ A6.out).mono ?_);rintro e w' ⟨rfl,⟨nd,rfl⟩⟩;refine ⟨_,rfl,?_⟩))
   go_meet
   case rel => exact ⟨_,(true),(by first | rfl | (simp;done) | (simp [*];done)),H',⟨by first | omega | exact Nat.le_refl _⟩,⟨by (with_reducible repeat (first | refine kN_ ?_ _ | refine kD_ ?_ | refine kA_ ?_ _));exact BK168.out⟩,⟨by repeat (first | (with_reducible first | exact HB.out | apply bA_ | apply bN_ | apply bD_ | refine bS_ ?_ GE168.out) | exact HB.out)⟩⟩
  ·replace c7 := Bool.eq_false_iff.mpr c7
   subst c7
   have H1 : ((gauge_outside.f a0_1 a1 a2).bind fun t170 => (gauge_checkRange.j0 k t170 a0_0 a0_1)) = some r := by rw [if_neg (show ¬ (false = true) by decide)] at H;exact H
   clear H
   have H := H1
   clear H1
   replace H := oB_ H
   obtain ⟨t170,A90,H⟩ := H
   replace H : (gauge_checkRange.j0 k t170 a0_0 a0_1) = some r := H
   have A9 := aM_ A90
   clear A90
   have H' := aM_ H
   clear H
   have hcz10_0 : w5.cell? ⟨gb168,0,none⟩ = some (.int .i64 a0_0) := (blk_cell BK168.out 0).trans rfl
   have hcz10_1 : w5.cell? ⟨gb168,1,none⟩ = some (.int .i64 a0_1) := (blk_cell BK168.out 1).trans rfl
   have hfz10_0 := blk_frozen BK168.out 0
   have hfz10_1 := blk_frozen BK168.out 1
   go_wp2_with (first | ((with_reducible refine gate_callee (f := 44) rfl ?_);refine goesL_ (some 12) rfl rfl Try.func44 (by kernel_rfl) rfl #[.int .i64 a0_0,.int .i64 a1,.int .i64 a2] rfl (by (try simp only [List.map_toArray,List.map_cons,List.map_nil]);first | done | rfl) ?_;(with_reducible refine (gauge_outside.calls a0_0 a1 a2 false _ A6.out).mono ?_);rintro e w' ⟨rfl,⟨nd,rfl⟩⟩;refine ⟨_,rfl,?_⟩) | (go_at_call 44;(with_reducible refine (gauge_outside.calls a0_1 a1 a2 t170 _ A9.out).mono ?_);rintro e w' ⟨rfl,⟨nd,rfl⟩⟩))
   go_meet
   case rel => exact ⟨_,(t170),(by first | rfl | (simp;done) | (simp [*];done)),H',⟨by first | omega | exact Nat.le_refl _⟩,⟨by (with_reducible repeat (first | refine kN_ ?_ _ | refine kD_ ?_ | refine kA_ ?_ _));exact BK168.out⟩,⟨by repeat (first | (with_reducible first | exact HB.out | apply bA_ | apply bN_ | apply bD_ | refine bS_ ?_ GE168.out) | exact HB.out)⟩⟩
 case rest =>
  clear HC4
  try clear p2
  try clear c4
  try clear c7
  try clear hcz10_0
  try clear hcz10_1
  try clear hcz8_0
  try clear hcz8_1
  try clear hfz10_0
  try clear hfz10_1
  try clear hfz8_0
  try clear hfz8_1
  obtain ⟨kq,x7_3,rfl,HA,HJ3,BK168,HB⟩ := hcut
  cases kq with
  | zero => exact absurd HA.out (by simp [gauge_checkRange.j0])
  | succ kj3 =>
   have H := HA.out
   clear HA
   simp only [gauge_checkRange.j0] at H
   by_cases c11 : x7_3 = true
   ·subst c11
    have H1 : (some 2) = some r := by rw [if_pos rfl] at H;exact H
    clear H
    have H := H1
    clear H1
    obtain rfl := Option.some.inj H
    go_wp2
    go_ret
    exact ⟨by first | rfl | (simp [*] <;> rfl),by repeat (first | (with_reducible first | exact HB.out | apply bA_ | apply bN_ | apply bD_ | refine bS_ ?_ GE168.out) | exact HB.out)⟩
   ·replace c11 := Bool.eq_false_iff.mpr c11
    subst c11
    have H1 : (if a0_0 > a0_1 then (some 11) else (some 0)) = some r := by rw [if_neg (show ¬ (false = true) by decide)] at H;exact H
    clear H
    have H := H1
    clear H1
    by_cases c12 : a0_0 > a0_1
    ·rw [if_pos c12] at H
     have c12b0 : decide (a0_1 < a0_0) = true := decide_eq_true c12
     clear c12
     obtain rfl := Option.some.inj H
     have hcz13_0 : wc.cell? ⟨gb168,0,none⟩ = some (.int .i64 a0_0) := (blk_cell BK168.out 0).trans rfl
     have hcz13_1 : wc.cell? ⟨gb168,1,none⟩ = some (.int .i64 a0_1) := (blk_cell BK168.out 1).trans rfl
     have hfz13_0 := blk_frozen BK168.out 0
     have hfz13_1 := blk_frozen BK168.out 1
     go_wp2
     go_ret
     exact ⟨by first | rfl | (simp [*] <;> rfl),by repeat (first | (with_reducible first | exact HB.out | apply bA_ | apply bN_ | apply bD_ | refine bS_ ?_ GE168.out) | exact HB.out)⟩
    ·rw [if_neg c12] at H
     have c12b0 : decide (a0_1 < a0_0) = false := decide_eq_false c12
     clear c12
     obtain rfl := Option.some.inj H
     have hcz14_0 : wc.cell? ⟨gb168,0,none⟩ = some (.int .i64 a0_0) := (blk_cell BK168.out 0).trans rfl
     have hcz14_1 : wc.cell? ⟨gb168,1,none⟩ = some (.int .i64 a0_1) := (blk_cell BK168.out 1).trans rfl
     have hfz14_0 := blk_frozen BK168.out 0
     have hfz14_1 := blk_frozen BK168.out 1
     go_wp2
     go_ret
     exact ⟨by first | rfl | (simp [*] <;> rfl),by repeat (first | (with_reducible first | exact HB.out | apply bA_ | apply bN_ | apply bD_ | refine bS_ ?_ GE168.out) | exact HB.out)⟩

/-! ### gauge_checkMaking: function 62 -/
def gauge_checkMaking.f (k : Nat) (a0_0 : Int) (a0_1 : Int) (a0_2 : Int) (a0_3 : Int) (a0_4 : Int) (a0_5 : Int) (a0_6 : Int) : Option (Int) := (gauge_checkRange.f k a0_0 a0_1 500000 2000000).bind fun t172 => (if t172 = 0 then ((gauge_checkRange.f k a0_2 a0_3 (-1000000) 1000000).bind fun t173 => (some t173)) else (some t172))
set_option maxHeartbeats 8000000 in
set_option maxRecDepth 100000 in
theorem gauge_checkMaking.calls (k : Nat) (a0_0 : Int) (a0_1 : Int) (a0_2 : Int) (a0_3 : Int) (a0_4 : Int) (a0_5 : Int) (a0_6 : Int) (r : Int) (w : World) (h : gauge_checkMaking.f k a0_0 a0_1 a0_2 a0_3 a0_4 a0_5 a0_6 = some r) :
  Calls Try.prog 62 #[.agg #[.int .i64 a0_0,.int .i64 a0_1,.int .i64 a0_2,.int .i64 a0_3,.int .i64 a0_4,.int .i64 a0_5,.int .i64 a0_6]] w fun e w' => e = .returned (.int .i64 r) ∧ Below w.heap.size w w' := by
 have hu49 := Try.underlying49
 have hu34 := Try.underlying34
 have HB := aM_ (Below.refl w.heap.size w)
 have H : ((gauge_checkRange.f k a0_0 a0_1 500000 2000000).bind fun t172 => (if t172 = 0 then ((gauge_checkRange.f k a0_2 a0_3 (-1000000) 1000000).bind fun t173 => (some t173)) else (some t172))) = some r := h
 clear h
 replace H := oB_ H
 obtain ⟨t172,A20,H⟩ := H
 replace H : (if t172 = 0 then ((gauge_checkRange.f k a0_2 a0_3 (-1000000) 1000000).bind fun t173 => (some t173)) else (some t172)) = some r := H
 have A2 := aM_ A20
 clear A20
 by_cases c3 : t172 = 0
 ·rw [if_pos c3] at H
  have c3b0 : (t172 == 0) = true := beq_iff_eq.mpr c3
  have c3b1 : (t172 != 0) = false := bne_eq_false_iff_eq.mpr c3
  clear c3
  replace H := oB_ H
  obtain ⟨t173,A40,H⟩ := H
  replace H : (some t173) = some r := H
  have A4 := aM_ A40
  clear A40
  obtain rfl := Option.some.inj H
  go_enter Try.func62,Try.ntmps62
  go_wp2_with (first | ((with_reducible refine gate_dst (N := 1) rfl ?_);refine box_event ?hg (N := 1) ?hd (cs := #[.int .i64 a0_0,.int .i64 a0_1,.int .i64 a0_2,.int .i64 a0_3,.int .i64 a0_4,.int .i64 a0_5,.int .i64 a0_6]) (t := 49) ?hr ?_;(case hd => rfl);(case hg => rfl);(case hr => first | (go_simp;done) | (go_simp;rfl));intro gb171 hg w5 hbox hb;have n0_ := aM_ (bT_ (by repeat (first | (with_reducible first | exact HB.out | apply bA_ | apply bN_ | apply bD_) | exact HB.out)) hb);have n1_ := aM_ (hbox);have n2_ := aM_ ((by rw [hg];exact (below_size (by repeat (first | (with_reducible first | exact HB.out | apply bA_ | apply bN_ | apply bD_) | exact HB.out))) : w.heap.size ≤ gb171));have n3_ := aM_ ((by rw [hg];exact (below_size (by repeat (first | (with_reducible first | exact HB.out | apply bA_ | apply bN_ | apply bD_) | exact HB.out))) : w.heap.size ≤ gb171));clear HB;have HB := n0_;have BK171 := n1_;have GW171 := n2_;have GE171 := n3_;clear n0_ n1_ n2_ n3_;clear hb hbox hg;have hcz6_0 : w5.cell? ⟨gb171,0,none⟩ = some (.int .i64 a0_0) := (blk_cell BK171.out 0).trans rfl;have hcz6_1 : w5.cell? ⟨gb171,1,none⟩ = some (.int .i64 a0_1) := (blk_cell BK171.out 1).trans rfl;have hcz6_2 : w5.cell? ⟨gb171,2,none⟩ = some (.int .i64 a0_2) := (blk_cell BK171.out 2).trans rfl;have hcz6_3 : w5.cell? ⟨gb171,3,none⟩ = some (.int .i64 a0_3) := (blk_cell BK171.out 3).trans rfl;have hcz6_4 : w5.cell? ⟨gb171,4,none⟩ = some (.int .i64 a0_4) := (blk_cell BK171.out 4).trans rfl;have hcz6_5 : w5.cell? ⟨gb171,5,none⟩ = some (.int .i64 a0_5) := (blk_cell BK171.out 5).trans rfl;have hcz6_6 : w5.cell? ⟨gb171,6,none⟩ = some (.int .i64 a0_6) := (blk_cell BK171.out 6).trans rfl;have hfz6_0 := blk_frozen BK171.out 0;have hfz6_1 := blk_frozen BK171.out 1;have hfz6_2 := blk_frozen BK171.out 2;have hfz6_3 := blk_frozen BK171.out 3;have hfz6_4 := blk_frozen BK171.out 4;have hfz6_5 := blk_frozen BK171.out 5;have hfz6_6 := blk_frozen BK171.out 6) | ((with_reducible refine gate_callee (f := 74) rfl ?_);refine goesL_ (some 6) rfl rfl Try.func74 (by kernel_rfl) rfl #[.agg #[.int .i64 a0_0,.int .i64 a0_1],.int .i64 500000,.int .i64 2000000] rfl (by (try simp only [List.map_toArray,List.map_cons,List.map_nil]);first | done | rfl) ?_;(with_reducible refine (gauge_checkRange.calls k a0_0 a0_1 500000 2000000 t172 _ A2.out).mono ?_);rintro e w7 ⟨rfl,hb⟩;refine ⟨_,rfl,?_⟩;have n0_ := aM_ (kB_ (g := gb171) (o := .cells #[.int .i64 a0_0,.int .i64 a0_1,.int .i64 a0_2,.int .i64 a0_3,.int .i64 a0_4,.int .i64 a0_5,.int .i64 a0_6] 49 (0,0)) (by (with_reducible repeat (first | refine kN_ ?_ _ | refine kD_ ?_ | refine kA_ ?_ _));exact BK171.out) hb);have n1_ := aM_ (bT_ (by repeat (first | (with_reducible first | exact HB.out | apply bA_ | apply bN_ | apply bD_ | refine bS_ ?_ GE171.out) | exact HB.out)) hb);clear BK171;clear HB;have BK171 := n0_;have HB := n1_;clear n0_ n1_;(try clear hb);(try clear hb2);(try clear hk);(try clear hi);have hcz8_0 : w7.cell? ⟨gb171,0,none⟩ = some (.int .i64 a0_0) := (blk_cell BK171.out 0).trans rfl;have hcz8_1 : w7.cell? ⟨gb171,1,none⟩ = some (.int .i64 a0_1) := (blk_cell BK171.out 1).trans rfl;have hcz8_2 : w7.cell? ⟨gb171,2,none⟩ = some (.int .i64 a0_2) := (blk_cell BK171.out 2).trans rfl;have hcz8_3 : w7.cell? ⟨gb171,3,none⟩ = some (.int .i64 a0_3) := (blk_cell BK171.out 3).trans rfl;have hcz8_4 : w7.cell? ⟨gb171,4,none⟩ = some (.int .i64 a0_4) := (blk_cell BK171.out 4).trans rfl;have hcz8_5 : w7.cell? ⟨gb171,5,none⟩ = some (.int .i64 a0_5) := (blk_cell BK171.out 5).trans rfl;have hcz8_6 : w7.cell? ⟨gb171,6,none⟩ = some (.int .i64 a0_6) := (blk_cell BK171.out 6).trans rfl;have hfz8_0 := blk_frozen BK171.out 0;have hfz8_1 := blk_frozen BK171.out 1;have hfz8_2 := blk_frozen BK171.out 2;have hfz8_3 := blk_frozen BK171.out 3;have hfz8_4 := blk_frozen BK171.out 4;have hfz8_5 := blk_frozen BK171.out 5;have hfz8_6 := blk_frozen BK171.out 6) | ((with_reducible refine gate_callee (f := 74) rfl ?_);refine goesL_ (some 12) rfl rfl Try.func74 (by kernel_rfl) rfl #[.agg #[.int .i64 a0_2,.int .i64 a0_3],.int .i64 (-1000000),.int .i64 1000000] rfl (by (try simp only [List.map_toArray,List.map_cons,List.map_nil]);first | done | rfl) ?_;(with_reducible refine (gauge_checkRange.calls k a0_2 a0_3 (-1000000) 1000000 t173 _ A4.out).mono ?_);rintro e w9 ⟨rfl,hb⟩;refine ⟨_,rfl,?_⟩;have n0_ := aM_ (kB_ (g := gb171) (o := .cells #[.int .i64 a0_0,.int .i64 a0_1,.int .i64 a0_2,.int .i64 a0_3,.int .i64 a0_4,.int .i64 a0_5,.int .i64 a0_6] 49 (0,0)) (by (with_reducible repeat (first | refine kN_ ?_ _ | refine kD_ ?_ | refine kA_ ?_ _));exact BK171.out) hb);have n1_ := aM_ (bT_ (by repeat (first | (with_reducible first | exact HB.out | apply bA_ | apply bN_ | apply bD_ | refine bS_ ?_ GE171.out) | exact HB.out)) hb);clear BK171;clear HB;have BK171 := n0_;have HB := n1_;clear n0_ n1_;(try clear hb);(try clear hb2);(try clear hk);(try clear hi)))
  go_ret
  exact ⟨by first | rfl | (simp [*] <;> rfl),by repeat (first | (with_reducible first | exact HB.out | apply bA_ | apply bN_ | apply bD_ | refine bS_ ?_ GE171.out) | exact HB.out)⟩
 ·rw [if_neg c3] at H
  have c3b0 : (t172 == 0) = false := beq_eq_false_iff_ne.mpr c3
  have c3b1 : (t172 != 0) = true := bne_iff_ne.mpr c3
  obtain rfl := Option.some.inj H
  go_enter Try.func62,Try.ntmps62
  go_wp2_with (first | ((with_reducible refine gate_dst (N := 1) rfl ?_);refine box_event ?hg (N := 1) ?hd (cs := #[.int .i64 a0_0,.int .i64 a0_1,.int .i64 a0_2,.int .i64 a0_3,.int .i64 a0_4,.int .i64 a0_5,.int .i64 a0_6]) (t := 49) ?hr ?_;(case hd => rfl);(case hg => rfl);(case hr => first | (go_simp;done) | (go_simp;rfl));intro gb171 hg w10 hbox hb;have n0_ := aM_ (bT_ (by repeat (first | (with_reducible first | exact HB.out | apply bA_ | apply bN_ | apply bD_) | exact HB.out)) hb);have n1_ := aM_ (hbox);have n2_ := aM_ ((by rw [hg];exact (below_size (by repeat (first | (with_reducible first | exact HB.out | apply bA_ | apply bN_ | apply bD_) | exact HB.out))) : w.heap.size ≤ gb171));have n3_ := aM_ ((by rw [hg];exact (below_size (by repeat (first | (with_reducible first | exact HB.out | apply bA_ | apply bN_ | apply bD_) | exact HB.out))) : w.heap.size ≤ gb171));clear HB;have HB := n0_;have BK171 := n1_;have GW171 := n2_;have GE171 := n3_;clear n0_ n1_ n2_ n3_;clear hb hbox hg;have hcz11_0 : w10.cell? ⟨gb171,0,none⟩ = some (.int .i64 a0_0) := (blk_cell BK171.out 0).trans rfl;have hcz11_1 : w10.cell? ⟨gb171,1,none⟩ = some (.int .i64 a0_1) := (blk_cell BK171.out 1).trans rfl;have hcz11_2 : w10.cell? ⟨gb171,2,none⟩ = some (.int .i64 a0_2) := (blk_cell BK171.out 2).trans rfl;have hcz11_3 : w10.cell? ⟨gb171,3,none⟩ = some (.int .i64 a0_3) := (blk_cell BK171.out 3).trans rfl;have hcz11_4 : w10.cell? ⟨gb171,4,none⟩ = some (.int .i64 a0_4) := (blk_cell BK171.out 4).trans rfl;have hcz11_5 : w10.cell? ⟨gb171,5,none⟩ = some (.int .i64 a0_5) := (blk_cell BK171.out 5).trans rfl;have hcz11_6 : w10.cell? ⟨gb171,6,none⟩ = some (.int .i64 a0_6) := (blk_cell BK171.out 6).trans rfl;have hfz11_0 := blk_frozen BK171.out 0;have hfz11_1 := blk_frozen BK171.out 1;have hfz11_2 := blk_frozen BK171.out 2;have hfz11_3 := blk_frozen BK171.out 3;have hfz11_4 := blk_frozen BK171.out 4;have hfz11_5 := blk_frozen BK171.out 5;have hfz11_6 := blk_frozen BK171.out 6) | ((with_reducible refine gate_callee (f := 74) rfl ?_);refine goesL_ (some 6) rfl rfl Try.func74 (by kernel_rfl) rfl #[.agg #[.int .i64 a0_0,.int .i64 a0_1],.int .i64 500000,.int .i64 2000000] rfl (by (try simp only [List.map_toArray,List.map_cons,List.map_nil]);first | done | rfl) ?_;(with_reducible refine (gauge_checkRange.calls k a0_0 a0_1 500000 2000000 t172 _ A2.out).mono ?_);rintro e w12 ⟨rfl,hb⟩;refine ⟨_,rfl,?_⟩;have n0_ := aM_ (kB_ (g := gb171) (o := .cells #[.int .i64 a0_0,.int .i64 a0_1,.int .i64 a0_2,.int .i64 a0_3,.int .i64 a0_4,.int .i64 a0_5,.int .i64 a0_6] 49 (0,0)) (by (with_reducible repeat (first | refine kN_ ?_ _ | refine kD_ ?_ | refine kA_ ?_ _));exact BK171.out) hb);have n1_ := aM_ (bT_ (by repeat (first | (with_reducible first | exact HB.out | apply bA_ | apply bN_ | apply bD_ | refine bS_ ?_ GE171.out) | exact HB.out)) hb);clear BK171;clear HB;have BK171 := n0_;have HB := n1_;clear n0_ n1_;(try clear hb);(try clear hb2);(try clear hk);(try clear hi)))
  go_ret
  exact ⟨by first | rfl | (simp [*] <;> rfl),by repeat (first | (with_reducible first | exact HB.out | apply bA_ | apply bN_ | apply bD_ | refine bS_ ?_ GE171.out) | exact HB.out)⟩

--HAND
/-! ### gauge.chain,by hand: function 63 -/
def chainGo (l : List S49) : Nat → Int → List Int
 | 0,_ => []
 | n + 1,m => if m < 0 then [] else m :: chainGo l n (rd_T49 l m).f3
def chainL (l : List S49) (m : Int) : List Int := chainGo l l.length m

theorem gauge_chain.calls (A0 : Option Addr) (n0 c0 : Nat) (m : Int) (w : World) :
  Calls Try.prog 63 #[.slice A0 n0 c0,.int .i64 m] w fun e w' => e = .returned (.func (.func 86) #[] #[.pointer (some ⟨w.heap.size,0,none⟩),.pointer (some ⟨w.heap.size + 1,0,none⟩)]) ∧
   w' = (w.alloc (.cells #[.slice A0 n0 c0] 25)).alloc (.cells #[.int .i64 m] 3) := by
 go_enter Try.func63,Try.ntmps63
 go_wp2
 go_ret
 exact ⟨rfl,rfl⟩

set_option maxHeartbeats 4000000 in
set_option maxRecDepth 1000000 in
theorem gauge_chain_1.seq (l0 : List S49) (A0 : Option Addr) (c0 : Nat) (m : Int) (Bb Bm l n : Nat) (J : List Int → World → Prop) (hlen : l0.length ≤ 12) (hn : 1 ≤ n)
  (hby : ∀ i : Int,0 ≤ i → i < l0.length → (rd_T49 l0 i).f3 < l0.length) (hm : m < l0.length) (hne : Bb ≠ Bm)
  (hset : ∀ pre A v,J pre A → J pre (A.setCell ⟨Bm,0,none⟩ v))
  (hJb : ∀ pre A,J pre A → A.heap[Bb]? = some (.cells #[.slice A0 l0.length c0] 25 (0,0)) ∧ Kd.C k49 A A0 l0.length l0)
  (hY : ∀ pre x A,(pre ++ [x]) <+: chainL l0 m → J pre A → A.heap[Bm]? = some (.cells #[.int .i64 x] 3 (0,0)) → YieldAt Fence.wide (n - 1) Try.prog l #[.int .i64 x] A fun e W' =>
   e = .returned (.bool true) ∧ J (pre ++ [x]) W' ∧ W'.heap[Bm]? = some (.cells #[.int .i64 x] 3 (0,0)))
  (W : World) (h0 : J [] W) (hBm : W.heap[Bm]? = some (.cells #[.int .i64 m] 3 (0,0))) :
  CallsIn Fence.wide n Try.prog 86 #[.func (.yield l) #[] #[],.pointer (some ⟨Bb,0,none⟩),.pointer (some ⟨Bm,0,none⟩)] W fun e W' => (∃ v,e = .returned v) ∧ J (chainL l0 m) W' := by
 have hu36 := Try.underlying49
 have hu34 := Try.underlying34
 have HY := aM_ hY
 have HBY := aM_ hby
 have HJ := aM_ hJb
 have HSET := aM_ hset
 have H0 := aM_ h0
 have HM := aM_ hBm
 have HB := aM_ (hJb [] W h0).1
 have cb : W.cell? ⟨Bb,0,none⟩ = some (.slice A0 l0.length c0) := (blk_cell HB.out 0).trans rfl
 clear hY hby hJb hset h0 hBm
 refine callsIn_of_wp Try.func86 rfl trivial ?_ rfl
 simp only [Try.ntmps86,List.size_toArray,List.length_cons,List.length_nil,Nat.reduceAdd,Nat.reduceSub,Array.replicate_succ,Array.replicate_zero,List.push_toArray,List.append_toArray,List.nil_append,List.cons_append]
 gi_wp2
 clear cb
 gi_loopw [6] (fun s6 wr => ∃ (k : Nat) (pre : List Int) (m1 : Int),s6 = .int .i64 k ∧ k ≤ l0.length ∧ m1 < l0.length ∧ Aside0 (chainL l0 m = pre ++ chainGo l0 (l0.length - k) m1) ∧ Aside0 (J pre wr) ∧ Aside0 (wr.heap[Bm]? = some (.cells #[.int .i64 m1] 3 (0,0)))) (fun s6 _ => l0.length - (intOf s6).toNat)
 case atStart => exact ⟨0,[],m,rfl,Nat.zero_le _,hm,⟨rfl⟩,H0,HM⟩
 case round =>
  obtain ⟨k,pre,m1,rfl,hk,hm1,HC,HJ1,HM1⟩ := hrel
  have cm : wr.cell? ⟨Bm,0,none⟩ = some (.int .i64 m1) := (blk_cell HM1.out 0).trans rfl
  by_cases hlt : k < l0.length
  ·by_cases hneg : m1 < 0
   ·have HE : Aside0 (J (chainL l0 m) wr) := ⟨by
     have := HC.out
     obtain ⟨d,hd⟩ : ∃ d,l0.length - k = d + 1 := ⟨l0.length - k - 1,by omega⟩
     rw [hd,chainGo,if_pos hneg,List.append_nil] at this
     rw [this];exact HJ1.out⟩
    have d1 : decide (m1 < 0) = true := decide_eq_true hneg
    gi_wp2
    refine ⟨fun _ h => (by cases h),?_⟩
    gi_wp2
    refine bodyPost_ret (results_none rfl _ _ _) rfl ?_
    exact ⟨⟨_,rfl⟩,HE.out⟩
   ·have HC1 : Aside0 (chainL l0 m = (pre ++ [m1]) ++ chainGo l0 (l0.length - (k + 1)) (rd_T49 l0 m1).f3) := ⟨by
     have := HC.out
     obtain ⟨d,hd⟩ : ∃ d,l0.length - k = d + 1 := ⟨l0.length - k - 1,by omega⟩
     rw [hd,chainGo,if_neg hneg] at this
     rw [this,show l0.length - (k + 1) = d by omega,List.append_assoc];rfl⟩
    have d1 : decide (m1 < 0) = false := decide_eq_false hneg
    have HB1 := HBY.out m1 (by omega) hm1
    obtain ⟨fn,tmps,assign,body,hy,hR⟩ := HY.out pre m1 wr ⟨_,HC1.out.symm⟩ HJ1.out HM1.out
    gi_wp2
    refine hR.mono ?_
    clear hR hy cm
    rintro e W3 ⟨rfl,hJ3,hm3⟩
    obtain ⟨hb3,hc3⟩ := HJ.out _ _ hJ3
    have J3 := aM_ hJ3
    have M3 := aM_ hm3
    obtain ⟨ad,rfl,q0,q1,q2,q3,q4,q5,q6⟩ := at_T49 hc3 m1 (by omega) hm1
    have cb3 : W3.cell? ⟨Bb,0,none⟩ = some (.slice (some ad) l0.length c0) := (blk_cell hb3 0).trans rfl
    have cm3 : W3.cell? ⟨Bm,0,none⟩ = some (.int .i64 m1) := (blk_cell hm3 0).trans rfl
    have fm3 : W3.frozen? ⟨Bm,0,none⟩ = false := blk_frozen hm3 0
    have e1 : 0 ≤ m1 := by omega
    clear hJ3 hm3 hb3 hc3 q0 q1 q2 q3 q4 q6
    gi_wp2
    go_roundw
    case rel => exact ⟨k + 1,pre ++ [m1],_,by go_num,by omega,HB1,HC1,⟨HSET.out _ _ _ J3.out⟩,⟨blk_put M3.out 0 _ rfl⟩⟩
    case measure => simp [intOf];omega
  ·have HE : Aside0 (J (chainL l0 m) wr) := ⟨by
    have := HC.out
    rw [show l0.length - k = 0 by omega,chainGo,List.append_nil] at this
    rw [this];exact HJ1.out⟩
   gi_wp2
   go_end0
   exact ⟨⟨_,rfl⟩,HE.out⟩

def roundOut (R : World → Prop) : Exit → Act → World → Prop
 | .normal,_,W => R W
 | _,_,_ => False

theorem heap_other {W W' : World} {row : Option Nat} {k : Nat} {o : Obj} (hg : W.grownBy W' row) (h : W.heap[k]? = some o) (hne : some k ≠ row) : W'.heap[k]? = some o := (hg.block k (blk_lt h) hne).trans h

theorem heap_set_other {W : World} {b i k : Nat} {v : Value} {o : Obj} (h : W.heap[k]? = some o) (hne : k ≠ b) : (W.setCell ⟨b,i,none⟩ v).heap[k]? = some o := (Below.heap_setCell W ⟨b,i,none⟩ v k hne).trans h

set_option maxHeartbeats 4000000 in
theorem wp_range_chain (l0 : List S49) (A0 : Option Addr) (c0 : Nat) (m : Int) (Bb Bm n : Nat) (hlen : l0.length ≤ 12) (hn : 4 ≤ n)
  (hby : ∀ i : Int,0 ≤ i → i < l0.length → (rd_T49 l0 i).f3 < l0.length) (hm : m < l0.length) (hne : Bb ≠ Bm)
  {g : Operand} {p : Tmp} {assign body : Code} {Q : Exit → Act → World → Prop} {a : Act} {w : World}
  (hg : a.eval g = .func (.func 86) #[] #[.pointer (some ⟨Bb,0,none⟩),.pointer (some ⟨Bm,0,none⟩)])
  (hbm : w.heap[Bm]? = some (.cells #[.int .i64 m] 3 (0,0)))
  (I : List Int → World → Prop)
  (hI : ∀ pre W W' row,I pre W → W.grownBy W' row → (∀ r,row = some r → r = Bm ∨ (w.heap.size ≤ r ∧ ∃ o : Obj,W.heap[r]? = some o ∧ o.isCells = false)) → I pre W')
  (hIb : ∀ pre W,I pre W → W.heap[Bb]? = some (.cells #[.slice A0 l0.length c0] 25 (0,0)) ∧ Kd.C k49 W A0 l0.length l0)
  (h0 : I [] w) (a₁ : Int → Act)
  (hassign : ∀ (lp : Nat) (x : Int) (W : World) (K : Act → World → Prop),K (a₁ x) W →
   assign.wpIn (Fence.wide.inRound lp) (n - 1 - 1) Try.prog (Exit.then K (fun _ _ _ => False)) { tmps := a.tmps.setIfInBounds p (.int .i64 x),defers := [] } W)
  (hbody : ∀ (lp : Nat) (pre : List Int) (x : Int) (W : World),(pre ++ [x]) <+: chainL l0 m → I pre W → W.heap[Bm]? = some (.cells #[.int .i64 x] 3 (0,0)) →
   body.wpIn (Fence.wide.inRound lp) (n - 1 - 1) Try.prog (roundOut fun W' => KeepsFrom w.heap.size W W' ∧ W'.heap[Bm]? = some (.cells #[.int .i64 x] 3 (0,0)) ∧ I (pre ++ [x]) W') (a₁ x) W)
  (hdone : ∀ (D : Nat) (W : World),w.heap.size ≤ D → I (chainL l0 m) W → W.heap[D]? = some (.deferred (some [])) → Q .normal { a with defers := { target := .collected D,args := #[] } :: a.defers } W) :
  (Code.rangeFunc g #[p] assign body).wp Try.prog Q a w := by
 refine (wpIn_wide (n := n)).1 (wpIn_rangeFunc ?_)
 intro fn hfn
 obtain ⟨rec,hrec⟩ : ∃ rec : LoopState → Option Code → Loop,rec = fun st pe => { state := st,pending := pe,fn,tmps := a.tmps,params := #[p],assign,body,defers := w.heap.size } := ⟨_,rfl⟩
 obtain ⟨W1,hW1⟩ : ∃ W1,(w.alloc (.deferred (some []))).alloc (.loop (rec .ready none)) = W1 := ⟨_,rfl⟩
 have hbl : Bm < w.heap.size := blk_lt hbm
 have hL1 : W1.heap[w.heap.size + 1]? = some (.loop (rec .ready none)) := by
  rw [← hW1];have := World.alloc_heap_new (w.alloc (.deferred (some []))) (.loop (rec .ready none));rwa [World.size_alloc] at this
 have hK1 : W1.heap[w.heap.size]? = some (.deferred (some [])) := by
  rw [← hW1];exact (Below.heap_alloc _ _ _ (by simp)).trans (World.alloc_heap_new w _)
 have hI1 : I [] W1 := by rw [← hW1];exact hI _ _ _ none (hI _ _ _ none h0 (World.grownBy_alloc w _ none) (fun r e => by cases e)) (World.grownBy_alloc _ _ none) (fun r e => by cases e)
 have hB1 : W1.heap[Bm]? = some (.cells #[.int .i64 m] 3 (0,0)) := by rw [← hW1];exact kA_ (kA_ hbm _) _
 have hput : ∀ (pre : List Int) (W : World) (o o' : Obj) (r : Nat),w.heap.size ≤ r → W.heap[r]? = some o → o.isCells = false → I pre W → I pre (W.putObj r o') := fun pre W o o' r hr ho hc hi =>
  hI pre W _ (some r) hi (grownBy_putObj' W r o') (fun r' e => by cases e;exact .inr ⟨hr,o,ho,hc⟩)
 refine ⟨w.heap.size + 1,[{ target := .collected w.heap.size,args := #[] }],W1,{ target := .fn (.func 86) #[.pointer (some ⟨Bb,0,none⟩),.pointer (some ⟨Bm,0,none⟩)],args := #[.func (.yield (w.heap.size + 1)) #[] #[]] },W1,86,
  #[.func (.yield (w.heap.size + 1)) #[] #[],.pointer (some ⟨Bb,0,none⟩),.pointer (some ⟨Bm,0,none⟩)],W1,?_,?_,fun _ _ => trivial,?_,(fun _ => by omega),?_⟩
 ·rw [← hW1,hrec];exact run_enterLoop_outer _ _ _ _ _
 ·simp only [resolve,hg]
  simp [go_sem]
 ·have eg := enters_of Try.func86 (by kernel_rfl) rfl
  simp [invoke,go_sem,eg _ _]
 ·refine (gauge_chain_1.seq l0 A0 c0 m Bb Bm (w.heap.size + 1) (n - 1)
   (fun pre W => I pre W ∧ W.heap[w.heap.size + 1]? = some (.loop (rec .ready none)) ∧ W.heap[w.heap.size]? = some (.deferred (some []))) hlen (by omega) hby hm hne
   (fun pre A v hs => ⟨hI pre A _ (some Bm) hs.1 (grownBy_setCell' A Bm v) (fun r e => by cases e;exact .inl rfl),
    heap_other (grownBy_setCell' A Bm v) hs.2.1 (by simp;omega),heap_other (grownBy_setCell' A Bm v) hs.2.2 (by simp;omega)⟩)
   (fun pre A hs => hIb pre A hs.1) ?_ W1 ⟨hI1,hL1,hK1⟩ hB1).mono ?_
  ·rintro pre x W hpre ⟨hi,hl,hk⟩ hmc
   have hlt : w.heap.size + 1 < W.heap.size := (Array.getElem?_eq_some_iff.1 hl).1
   have hy := run_yield (P := Try.prog) (args := #[.int .i64 x]) hl (by rw [hrec];rfl)
   rw [hrec] at hy
   replace hy : (Instr.yield (w.heap.size + 1) #[.int .i64 x]).run Try.prog W = .ok (.round (w.heap.size + 1) fn (a.tmps.setIfInBounds p (.int .i64 x)) assign body) W := by simpa using hy
   refine ⟨fn,a.tmps.setIfInBounds p (.int .i64 x),assign,body,hy,?_⟩
   refine roundIn_of_wpIn hfn ?_
   refine hassign _ x W _ ?_
   refine ⟨_,run_beginRound hl (by rw [hrec]),?_⟩
   have hl2 : (W.putObj (w.heap.size + 1) (.loop { rec .ready none with state := .busy })).heap[w.heap.size + 1]? = some (.loop { rec .ready none with state := .busy }) := World.putObj_heap_same hlt
   have hk2 : (W.putObj (w.heap.size + 1) (.loop { rec .ready none with state := .busy })).heap[w.heap.size]? = some (.deferred (some [])) := (World.putObj_heap_other (by omega)).trans hk
   have hm2 : (W.putObj (w.heap.size + 1) (.loop { rec .ready none with state := .busy })).heap[Bm]? = some (.cells #[.int .i64 x] 3 (0,0)) := (World.putObj_heap_other (by omega)).trans hmc
   refine wpIn_mono (hbody _ pre x _ hpre (hput _ _ _ _ _ (by omega) hl rfl hi) hm2) ?_
   rintro e a3 W3 hp
   cases e with
   | normal =>
    obtain ⟨hk3,hm3,hi3⟩ := hp
    have hl3 := hk3.same _ _ (by omega) hl2 rfl
    have hr := run_endRound (P := Try.prog) none hl3
    rw [hrec] at hr hl3
    refine ⟨_,_,hr,rfl,⟨hput _ _ _ _ _ (by omega) hl3 rfl hi3,?_,?_⟩,?_⟩
    ·rw [hrec];exact World.putObj_heap_same (Array.getElem?_eq_some_iff.1 hl3).1
    ·exact (World.putObj_heap_other (by omega)).trans (hk3.same _ _ (Nat.le_refl _) hk2 rfl)
    ·exact (World.putObj_heap_other (by omega)).trans hm3
   | ret => exact hp.elim
   | exit id => exact hp.elim
   | goto t => exact hp.elim
   | panic ch => exact hp.elim
   | outgrown => exact hp.elim
  ·rintro e W2 ⟨⟨v,rfl⟩,hi,hl,hk⟩
   have he := run_endLoop (P := Try.prog) hl (by rw [hrec];simp)
   rw [hrec] at he
   exact ⟨none,_,he,hdone _ _ (Nat.le_refl _) (hput _ _ _ _ _ (by omega) hl rfl hi) ((World.putObj_heap_other (by omega)).trans hk)⟩

theorem calls_marks {f : FuncId} {fn : Func} {c : Code} {args : Array Value} {w : World} {R : Ending → World → Prop} (hf : Try.prog.funcs[f]? = some fn) (hb : fn.body = some c)
  (h : c.wp Try.prog (bodyPostM Fence.wide 9 Try.prog fn R) { tmps := args ++ Array.replicate (fn.ntmps - args.size) undef,defers := [] } w) : Calls Try.prog f args w R :=
 (callsIn_wide (n := 9)).1 (callsIn_of_wp_marks hf hb trivial ((wpIn_wide (n := 9)).2 h))

def MeterOk (n : Int) (x : S49) : Prop := (500000 ≤ x.f0.f0 ∧ x.f0.f0 ≤ x.f0.f1 ∧ x.f0.f1 ≤ 2000000 ∧ -1000000 ≤ x.f1.f0 ∧ x.f1.f0 ≤ x.f1.f1 ∧ x.f1.f1 ≤ 1000000) ∧ 1 ≤ x.f2 ∧ x.f2 ≤ 1000000 ∧ 0 ≤ x.f4 ∧ x.f4 ≤ 1000000000 ∧ -1 ≤ x.f3 ∧ x.f3 < n
instance (n : Int) (x : S49) : Decidable (MeterOk n x) := by unfold MeterOk;infer_instance
def BenchOk (l : List S49) : Prop := l.length ≤ 12 ∧ ∀ x ∈ l,MeterOk l.length x
instance (l : List S49) : Decidable (BenchOk l) := by unfold BenchOk;infer_instance
theorem BenchOk.at {l : List S49} (h : BenchOk l) (i : Int) (h0 : 0 ≤ i) (h1 : i < l.length) : MeterOk l.length (rd_T49 l i) := by
 refine h.2 _ ?_
 unfold rd_T49
 rw [List.getD_eq_getElem?_getD,List.getElem?_eq_getElem (by omega)]
 exact List.getElem_mem _
theorem chainGo_length (l : List S49) : ∀ (n : Nat) (m : Int),(chainGo l n m).length ≤ n
 | 0,_ => Nat.le_refl _
 | n + 1,m => by
  unfold chainGo
  split
  ·exact Nat.zero_le _
  ·have := chainGo_length l n (rd_T49 l m).f3
   simp;omega
theorem chainGo_mem {l : List S49} (h : BenchOk l) : ∀ (n : Nat) (m : Int),m < l.length → ∀ x ∈ chainGo l n m,0 ≤ x ∧ x < l.length
 | 0,_,_,x,hx => by simp [chainGo] at hx
 | n + 1,m,hm,x,hx => by
  unfold chainGo at hx
  split at hx
  ·simp at hx
  ·rcases List.mem_cons.1 hx with rfl | hx
   ·exact ⟨by omega,hm⟩
   ·exact chainGo_mem h n _ (h.at m (by omega) hm).2.2.2.2.2.2 x hx

--HAND
/-! ### gauge.Check,by hand: function 31 -/
def rangeErr (a b lo hi : Int) : Int := if a < lo ∨ a > hi ∨ b < lo ∨ b > hi then 2 else if a > b then 11 else 0
def makingErr (a0 a1 a2 a3 : Int) : Int := if rangeErr a0 a1 500000 2000000 ≠ 0 then rangeErr a0 a1 500000 2000000 else rangeErr a2 a3 (-1000000) 1000000
def meterErr (n : Int) (x : S49) : Int := if makingErr x.f0.f0 x.f0.f1 x.f1.f0 x.f1.f1 ≠ 0 then makingErr x.f0.f0 x.f0.f1 x.f1.f0 x.f1.f1 else if x.f2 < 1 ∨ x.f2 > 1000000 ∨ x.f4 < 0 ∨ x.f4 > 1000000000 ∨ x.f3 < -1 ∨ x.f3 > n - 1 then 2 else 0
def firstErr (n : Int) : List S49 → Int
 | [] => 0
 | x :: xs => if meterErr n x ≠ 0 then meterErr n x else firstErr n xs
def endsP (l : List S49) (i : Int) : Prop := (rd_T49 l ((chainL l i).getLastD i)).f3 = -1
instance (l : List S49) (i : Int) : Decidable (endsP l i) := by unfold endsP;infer_instance
def looseFrom (l : List S49) : Nat → Nat → Int
 | 0,_ => 0
 | d + 1,k => if endsP l k then looseFrom l d (k + 1) else 13
def checkP (l : List S49) : Int := if 12 < l.length then 8 else if firstErr l.length l ≠ 0 then firstErr l.length l else looseFrom l l.length 0
def gauge_Check.f (l0 : List (S49)) : Option Int := some (checkP l0)

theorem outside_true {n lo hi : Int} (h : n < lo ∨ n > hi) : gauge_outside.f n lo hi = some true := by
 unfold gauge_outside.f
 by_cases c : n < lo
 ·rw [if_pos c]
 ·rw [if_neg c,decide_eq_true (by omega)]
theorem outside_false {n lo hi : Int} (h : lo ≤ n ∧ n ≤ hi) : gauge_outside.f n lo hi = some false := by
 unfold gauge_outside.f
 rw [if_neg (by omega),decide_eq_false (by omega)]
theorem gauge_checkRange.eq (k : Nat) (a b lo hi : Int) : gauge_checkRange.f (k + 1) a b lo hi = some (rangeErr a b lo hi) := by
 unfold gauge_checkRange.f rangeErr
 by_cases c : a < lo ∨ a > hi
 ·rw [outside_true c,if_pos (by omega)];rfl
 ·rw [outside_false (by omega)]
  by_cases c2 : b < lo ∨ b > hi
  ·rw [outside_true c2,if_pos (by omega)];rfl
  ·rw [outside_false (by omega),if_neg (by omega)]
   simp only [Option.bind_some,gauge_checkRange.j0]
   by_cases c3 : a > b
   ·simp [c3]
   ·simp [c3]
theorem gauge_checkMaking.eq (k : Nat) (a0 a1 a2 a3 a4 a5 a6 : Int) : gauge_checkMaking.f (k + 1) a0 a1 a2 a3 a4 a5 a6 = some (makingErr a0 a1 a2 a3) := by
 unfold gauge_checkMaking.f makingErr
 rw [gauge_checkRange.eq]
 simp only [Option.bind_some]
 by_cases c : rangeErr a0 a1 500000 2000000 = 0
 ·rw [if_pos c,if_neg (by omega),gauge_checkRange.eq];rfl
 ·rw [if_neg c,if_pos c]
theorem rangeErr_zero {a b lo hi : Int} (h : rangeErr a b lo hi = 0) : lo ≤ a ∧ a ≤ b ∧ b ≤ hi := by
 unfold rangeErr at h
 split at h
 ·omega
 ·split at h <;> omega
theorem makingErr_zero {a0 a1 a2 a3 : Int} (h : makingErr a0 a1 a2 a3 = 0) : 500000 ≤ a0 ∧ a0 ≤ a1 ∧ a1 ≤ 2000000 ∧ -1000000 ≤ a2 ∧ a2 ≤ a3 ∧ a3 ≤ 1000000 := by
 unfold makingErr at h
 split at h
 ·omega
 ·rename_i c
  have h0 := rangeErr_zero (show rangeErr a0 a1 500000 2000000 = 0 by omega)
  have h1 := rangeErr_zero h
  omega
theorem meterErr_zero {n : Int} {x : S49} (h : meterErr n x = 0) : MeterOk n x := by
 unfold meterErr at h
 split at h
 ·omega
 ·rename_i c
  have h0 := makingErr_zero (show makingErr x.f0.f0 x.f0.f1 x.f1.f0 x.f1.f1 = 0 by omega)
  split at h
  ·omega
  ·unfold MeterOk;omega
theorem firstErr_zero {n : Int} : ∀ {l : List S49},firstErr n l = 0 → ∀ x ∈ l,MeterOk n x
 | [],_,x,hx => by simp at hx
 | y :: ys,h,x,hx => by
  unfold firstErr at h
  split at h
  ·omega
  ·rename_i c
   rcases List.mem_cons.1 hx with rfl | hx
   ·exact meterErr_zero (by omega)
   ·exact firstErr_zero h x hx
theorem drop_at (l : List S49) (k : Nat) (h : k < l.length) : l.drop k = rd_T49 l k :: l.drop (k + 1) := by
 rw [List.drop_eq_getElem_cons h]
 unfold rd_T49
 rw [Int.toNat_natCast,List.getD_eq_getElem?_getD,List.getElem?_eq_getElem h]
 rfl

theorem leaves_marks {fn : Func} {tmps : Array Value} {R : Ending → World → Prop} {w : World} : ∀ (Ds : List Nat) (W : World),Below w.heap.size w W → Ds.Nodup →
  (∀ D ∈ Ds,w.heap.size ≤ D ∧ W.heap[D]? = some (.deferred (some []))) → (∀ W',Below w.heap.size w W' → LeavesInM Fence.wide 9 Try.prog fn tmps R [] .returning W') →
  LeavesInM Fence.wide 9 Try.prog fn tmps R (Ds.map fun D => { target := .collected D,args := #[] }) .returning W
 | [],W,hB,_,_,hR => hR W hB
 | D :: Ds,W,hB,hn,hD,hR => by
  obtain ⟨hD0,hDk⟩ := hD D (by simp)
  refine ⟨by simp,.inl ⟨D,_,rfl,run_takeDeferred hDk,?_⟩⟩
  refine leaves_marks Ds _ (hB.grown (grownBy_putObj' W D _) hB.size (fun k e => by have := Option.some.inj e;omega)) (List.nodup_cons.1 hn).2 (fun E hE => ?_) hR
  have hne : E ≠ D := fun e => (List.nodup_cons.1 hn).1 (e ▸ hE)
  exact ⟨(hD E (by simp [hE])).1,(World.putObj_heap_other hne).trans (hD E (by simp [hE])).2⟩

theorem three_new (w : World) (o0 o1 o2 : Obj) : ∃ W,((w.alloc o0).alloc o1).alloc o2 = W ∧ W.heap.size = w.heap.size + 1 + 1 + 1 ∧ Below w.heap.size w W ∧ W.heap[w.heap.size]? = some o0 ∧ W.heap[w.heap.size + 1]? = some o1 ∧ W.heap[w.heap.size + 1 + 1]? = some o2 := by
 refine ⟨_,rfl,by simp,?_,?_,?_,?_⟩
 ·exact bA_ (bA_ (bA_ (Below.refl _ _) _) _) _
 ·exact kA_ (kA_ (blk_new w _) _) _
 ·have := kA_ (blk_new (w.alloc o0) o1) o2;simpa only [World.size_alloc] using this
 ·have := blk_new ((w.alloc o0).alloc o1) o2;simpa only [World.size_alloc] using this
theorem getLastD_mem : ∀ (c : Int) (cs : List Int),cs.getLastD c ∈ c :: cs
 | c,[] => by simp
 | c,d :: ds => by rw [List.getLastD_cons];exact List.mem_cons_of_mem _ (getLastD_mem d ds)

def CheckInv (w : World) (l0 : List S49) (A0 : Option Addr) (c0 : Nat) (r : Int) (a : Act) (W : World) : Prop :=
 ∃ (k : Nat) (u1 u2 u3 u4 u5 u6 u7 u8 u9 u10 u11 u12 u13 u14 u15 u16 u17 u18 u19 u20 u21 u22 u23 u24 u25 u26 u27 u28 u29 u30 u31 u32 u33 u34 u35 u36 u37 u38 u39 u40 u43 u44 u45 u46 u47 u48 u49 u50 u51 u52 u53 u54 u55 u56 u57 : Value) (Ds : List Nat),a = { tmps := #[.slice A0 l0.length c0,u1,u2,u3,u4,u5,u6,u7,u8,u9,u10,u11,u12,u13,u14,u15,u16,u17,u18,u19,u20,u21,u22,u23,u24,u25,u26,u27,u28,u29,u30,u31,u32,u33,u34,u35,u36,u37,u38,u39,u40,.int .i64 l0.length,.int .i64 k,u43,u44,u45,u46,u47,u48,u49,u50,u51,u52,u53,u54,u55,u56,u57],defers := Ds.map fun D => { target := .collected D,args := #[] } } ∧ k ≤ l0.length ∧ Aside0 (r = looseFrom l0 (l0.length - k) k) ∧ Aside0 (Below w.heap.size w W) ∧ Aside0 (Ds.Nodup ∧ ∀ D ∈ Ds,w.heap.size ≤ D ∧ W.heap[D]? = some (.deferred (some [])))
def CheckMu (l0 : List S49) (a : Act) (_ : World) : Nat := l0.length - (intOf (a.tmps.getD 42 undef)).toNat

set_option maxHeartbeats 8000000 in
set_option maxRecDepth 1000000 in
attribute [local go_sem] Oper.semAt_some in
theorem gauge_Check.calls (A0 : Option Addr) (c0 : Nat) (l0 : List (S49)) (r : Int) (w : World) (hr0 : Kd.C k49 w A0 l0.length l0) (hc0 : l0.length ≤ c0) (h : gauge_Check.f l0 = some r) :
  Calls Try.prog 31 #[.slice A0 l0.length c0] w fun e w' => e = .returned (.int .i64 r) ∧ Below w.heap.size w w' := by
 have hr := (Option.some.inj h).symm
 clear h
 unfold checkP at hr
 have HR := aM_ hr0
 clear hr0
 have hu36 := Try.underlying49
 have hu34 := Try.underlying34
 refine calls_marks Try.func31 rfl ?_
 simp only [Try.ntmps31,List.size_toArray,List.length_cons,List.length_nil,Nat.reduceAdd,Nat.reduceSub,Array.replicate_succ,Array.replicate_zero,List.push_toArray,List.append_toArray,List.nil_append,List.cons_append]
 by_cases hlen : 12 < l0.length
 ·rw [if_pos hlen] at hr
  subst hr
  go_wp2
  exact ⟨_,results_tmp rfl _ _ _,rfl,Below.refl _ _⟩
 rw [if_neg hlen] at hr
 have h12 : l0.length ≤ 12 := by omega
 have HP := aM_ hr
 have HB0 := aM_ (Below.refl w.heap.size w)
 clear hr hlen
 go_wp2
 go_loopw [14] (fun s14 wr => ∃ k : Nat,s14 = .int .i64 k ∧ k ≤ l0.length ∧ Aside0 (firstErr l0.length l0 = firstErr l0.length (l0.drop k)) ∧ Aside0 (Below w.heap.size w wr)) (fun s14 _ => l0.length - (intOf s14).toNat)
 case atStart => exact ⟨0,rfl,Nat.zero_le _,⟨rfl⟩,HB0⟩
 case round =>
  obtain ⟨k,rfl,hk,HF,HB⟩ := hrel
  by_cases hlt : k < l0.length
  ·have HD := aM_ (drop_at l0 k hlt)
   obtain ⟨ad,rfl,p0,p1,p2,p3,p4,p5,p6⟩ := at_T49 (Kd.C_below HR.out HB.out) (k : Int) (by omega) (by omega)
   have HF2 : Aside0 (firstErr l0.length l0 = if meterErr l0.length (rd_T49 l0 k) ≠ 0 then meterErr l0.length (rd_T49 l0 k) else firstErr l0.length (l0.drop (k + 1))) := ⟨by rw [HF.out,HD.out];rfl⟩
   generalize rd_T49 l0 k = mx at p0 p1 p2 p3 p4 p5 p6 HF2
   clear HF HD
   simp only [Int.toNat_natCast] at p0 p1 p2 p3 p4 p5 p6
   have HC := aM_ (fun W => gauge_checkMaking.calls 1 mx.f0.f0 mx.f0.f1 mx.f1.f0 mx.f1.f1 mx.f2 mx.f3 mx.f4 _ W (gauge_checkMaking.eq 0 mx.f0.f0 mx.f0.f1 mx.f1.f0 mx.f1.f1 mx.f2 mx.f3 mx.f4))
   go_wp2_with (fail)
   (with_reducible refine (HC.out _).mono ?_)
   clear HC
   rintro e w1 ⟨rfl,hb⟩
   have z := kB_ (blk_new wr (.cells #[.int .i64 mx.f0.f0,.int .i64 mx.f0.f1,.int .i64 mx.f1.f0,.int .i64 mx.f1.f1,.int .i64 mx.f2,.int .i64 mx.f3,.int .i64 mx.f4] 49)) hb
   have HB1 : Aside0 (Below w.heap.size w w1) := ⟨bT_ (bA_ HB.out _) hb⟩
   have z2 : w1.cell? ⟨wr.heap.size,4,none⟩ = some (.int .i64 mx.f2) := (blk_cell z 4).trans rfl
   have z3 : w1.cell? ⟨wr.heap.size,5,none⟩ = some (.int .i64 mx.f3) := (blk_cell z 5).trans rfl
   have z4 : w1.cell? ⟨wr.heap.size,6,none⟩ = some (.int .i64 mx.f4) := (blk_cell z 6).trans rfl
   clear hb z p0 p1 p2 p3 p4 p5 p6 HB
   by_cases hm : makingErr mx.f0.f0 mx.f0.f1 mx.f1.f0 mx.f1.f1 = 0
   ·have hm2 : meterErr l0.length mx = if mx.f2 < 1 ∨ mx.f2 > 1000000 ∨ mx.f4 < 0 ∨ mx.f4 > 1000000000 ∨ mx.f3 < -1 ∨ mx.f3 > l0.length - 1 then 2 else 0 := by unfold meterErr;rw [if_neg (by omega)]
    rw [hm]
    clear hm
    generalize meterErr l0.length mx = me at HF2 hm2
    generalize mx.f2 = m2 at z2 hm2
    generalize mx.f3 = m3 at z3 hm2
    generalize mx.f4 = m4 at z4 hm2
    have HM := aM_ hm2
    clear hm2
    have bad : Aside0 ((m2 < 1 ∨ m2 > 1000000 ∨ m4 < 0 ∨ m4 > 1000000000 ∨ m3 < -1 ∨ m3 > l0.length - 1) → r = 2) := ⟨fun hb => by
     have h1 := HM.out;rw [if_pos hb] at h1
     have h2 := HF2.out;rw [h1] at h2
     have h3 := HP.out;rw [h2] at h3;simpa using h3⟩
    by_cases c1 : m2 < 1 ∨ m2 > 1000000
    ·obtain rfl := bad.out (by omega)
     go_wp2_with (fail)
     (with_reducible refine (gauge_outside.calls _ _ _ true _ (outside_true c1)).mono ?_)
     rintro e w2 ⟨rfl,nd,rfl⟩
     go_wp2
     exact ⟨_,results_tmp rfl _ _ _,rfl,bN_ HB1.out _⟩
    by_cases c2 : m4 < 0 ∨ m4 > 1000000000
    ·obtain rfl := bad.out (by omega)
     go_wp2_with (fail)
     (with_reducible refine (gauge_outside.calls _ _ _ false _ (outside_false (by omega))).mono ?_)
     rintro e w2 ⟨rfl,nd,rfl⟩
     go_wp2_with (fail)
     (with_reducible refine (gauge_outside.calls _ _ _ true _ (outside_true c2)).mono ?_)
     rintro e w2 ⟨rfl,nd2,rfl⟩
     go_wp2
     exact ⟨_,results_tmp rfl _ _ _,rfl,bN_ HB1.out _⟩
    by_cases c3 : m3 < -1 ∨ m3 > l0.length - 1
    ·obtain rfl := bad.out (by omega)
     go_wp2_with (fail)
     (with_reducible refine (gauge_outside.calls _ _ _ false _ (outside_false (by omega))).mono ?_)
     rintro e w2 ⟨rfl,nd,rfl⟩
     go_wp2_with (fail)
     (with_reducible refine (gauge_outside.calls _ _ _ false _ (outside_false (by omega))).mono ?_)
     rintro e w2 ⟨rfl,nd2,rfl⟩
     go_wp2_with (fail)
     (with_reducible refine (gauge_outside.calls _ _ _ true _ (outside_true c3)).mono ?_)
     rintro e w2 ⟨rfl,nd3,rfl⟩
     go_wp2
     exact ⟨_,results_tmp rfl _ _ _,rfl,bN_ HB1.out _⟩
    ·have HF3 : Aside0 (firstErr l0.length l0 = firstErr l0.length (l0.drop (k + 1))) := ⟨by have h1 := HM.out;rw [if_neg (by omega)] at h1;have h2 := HF2.out;rw [h1] at h2;simpa using h2⟩
     go_wp2_with (fail)
     (with_reducible refine (gauge_outside.calls _ _ _ false _ (outside_false (by omega))).mono ?_)
     rintro e w2 ⟨rfl,nd,rfl⟩
     go_wp2_with (fail)
     (with_reducible refine (gauge_outside.calls _ _ _ false _ (outside_false (by omega))).mono ?_)
     rintro e w2 ⟨rfl,nd2,rfl⟩
     go_wp2_with (fail)
     (with_reducible refine (gauge_outside.calls _ _ _ false _ (outside_false (by omega))).mono ?_)
     rintro e w2 ⟨rfl,nd3,rfl⟩
     go_wp2
     go_roundw
     case rel => exact ⟨k + 1,by go_num,by omega,HF3,⟨bN_ HB1.out _⟩⟩
     case measure => simp [intOf];omega
   ·have h2 : meterErr l0.length mx = makingErr mx.f0.f0 mx.f0.f1 mx.f1.f0 mx.f1.f1 := by unfold meterErr;rw [if_pos hm]
    have HE : Aside0 (r = makingErr mx.f0.f0 mx.f0.f1 mx.f1.f0 mx.f1.f1) := ⟨by
     have h3 := HF2.out;rw [h2,if_pos hm] at h3
     have h4 := HP.out;rw [h3,if_pos hm] at h4;exact h4⟩
    clear h2
    generalize makingErr mx.f0.f0 mx.f0.f1 mx.f1.f0 mx.f1.f1 = me at hm HE
    have d1 : (me != 0) = true := bne_iff_ne.2 hm
    go_wp2
    exact ⟨_,results_tmp rfl _ _ _,by rw [HE.out];rfl,HB1.out⟩
  ·have h1 : firstErr l0.length l0 = 0 := by rw [HF.out,List.drop_of_length_le (by omega)];rfl
   have hok := firstErr_zero h1
   have HP2 : Aside0 (r = looseFrom l0 l0.length 0) := ⟨by have h2 := HP.out;rw [h1] at h2;simpa using h2⟩
   clear HP h1 HF
   have hn : BenchOk l0 := ⟨h12,hok⟩
   clear hok
   go_wp2
   refine wp_loop (CheckInv w l0 A0 c0 r) (CheckMu l0) ?_ ?_
   ·exact ⟨0,_,_,_,_,_,_,_,_,_,_,_,_,_,_,_,_,_,_,_,_,_,_,_,_,_,_,_,_,_,_,_,_,_,_,_,_,_,_,_,_,_,_,_,_,_,_,_,_,_,_,_,_,_,_,_,[],rfl,Nat.zero_le _,HP2,HB,⟨List.nodup_nil,by simp⟩⟩
   clear HP2 HB hlt hk
   rintro a W ⟨k,u1,u2,u3,u4,u5,u6,u7,u8,u9,u10,u11,u12,u13,u14,u15,u16,u17,u18,u19,u20,u21,u22,u23,u24,u25,u26,u27,u28,u29,u30,u31,u32,u33,u34,u35,u36,u37,u38,u39,u40,u43,u44,u45,u46,u47,u48,u49,u50,u51,u52,u53,u54,u55,u56,u57,Ds,rfl,hk,HL,HB,HD⟩
   by_cases hlt : k < l0.length
   ·obtain ⟨d,hd⟩ : ∃ d,l0.length - k = d + 1 := ⟨l0.length - k - 1,by omega⟩
    have HL2 : Aside0 (r = if endsP l0 k then looseFrom l0 (l0.length - (k + 1)) (k + 1) else 13) := ⟨by
     have h1 := HL.out
     rw [hd] at h1
     rw [show l0.length - (k + 1) = d by omega]
     exact h1⟩
    clear HL hd
    obtain ⟨y,hy⟩ : ∃ y,(chainL l0 k).getLastD k = y := ⟨_,rfl⟩
    have hyr : 0 ≤ y ∧ y < l0.length := by
     rw [← hy]
     cases hc : chainL l0 k with
     | nil => simp;omega
     | cons c cs =>
      have hm := chainGo_mem hn l0.length k (by omega) ((chainL l0 k).getLastD k) (by
       show _ ∈ chainL l0 k
       rw [hc,List.getLastD_cons]
       exact getLastD_mem c cs)
      rw [hc] at hm
      exact hm
    have HY := aM_ hy
    clear hy
    go_wp2_with (go_at_call 63;(with_reducible refine (gauge_chain.calls _ _ _ _ _).mono ?_);rintro e w' ⟨rfl,rfl⟩)
    obtain ⟨wo,hwo⟩ : ∃ wo,W = wo := ⟨_,rfl⟩
    subst hwo
    obtain ⟨W0,hW,hsz,bw,f0,f1,f2⟩ := three_new W (.cells #[.int .i64 k] 3) (.cells #[.slice A0 l0.length c0] 25) (.cells #[.int .i64 k] 3)
    rw [hW]
    clear hW
    have bw2 := bT_ HB.out bw
    have hDlt : ∀ D ∈ Ds,D < W.heap.size ∧ W0.heap[D]? = some (.deferred (some [])) := fun D hD => ⟨blk_lt (HD.out.2 D hD).2,kB_ (HD.out.2 D hD).2 bw⟩
    have hs0 := HB.out.size
    refine wp_range_chain l0 A0 c0 k (W.heap.size + 1) (W.heap.size + 1 + 1) 9 h12 (by omega) (fun i i0 i1 => (hn.at i i0 i1).2.2.2.2.2.2) (by omega) (by omega) rfl f2
     (fun pre W' => W'.heap[W.heap.size]? = some (.cells #[.int .i64 (pre.getLastD k)] 3 (0,0)) ∧ W'.heap[W.heap.size + 1]? = some (.cells #[.slice A0 l0.length c0] 25 (0,0)) ∧ Below w.heap.size w W' ∧ ∀ D ∈ Ds,W'.heap[D]? = some (.deferred (some [])))
     (fun pre W1 W' row hi hg hr => by
      have ne : ∀ j,j ≤ W.heap.size + 1 → some j ≠ row := fun j hj e => by rcases hr j e.symm with h1 | ⟨h1,_⟩ <;> omega
      exact ⟨heap_other hg hi.1 (ne _ (by omega)),heap_other hg hi.2.1 (ne _ (by omega)),hi.2.2.1.grown hg hi.2.2.1.size (fun j e => by rcases hr j e with h1 | ⟨h1,_⟩ <;> omega),fun D hD => heap_other hg (hi.2.2.2 D hD) (ne _ (by have := (hDlt D hD).1;omega))⟩)
     (fun pre W1 hi => ⟨hi.2.1,Kd.C_below HR.out hi.2.2.1⟩)
     ⟨f0,f1,bw2,fun D hD => (hDlt D hD).2⟩
     (fun x => { tmps := #[.slice A0 l0.length c0,u1,u2,u3,u4,u5,.int .i64 k,.pointer (some ⟨W.heap.size,0,none⟩),.int .i64 x,u9,u10,u11,u12,u13,u14,u15,u16,u17,u18,u19,u20,u21,u22,u23,u24,u25,u26,u27,u28,u29,u30,u31,u32,u33,u34,u35,u36,u37,u38,u39,u40,.int .i64 l0.length,.int .i64 k,.bool true,.int .i64 k,.int .i64 k,.slice A0 l0.length c0,.int .i64 k,.func (.func 86) #[] #[.pointer (some ⟨W.heap.size + 1,0,none⟩),.pointer (some ⟨W.heap.size + 1 + 1,0,none⟩)],.int .i64 x,u50,u51,u52,u53,u54,u55,u56,u57],defers := [] }) ?assign ?body ?done
    case assign =>
     intro lp x W1 K hK
     gi_wp2
     exact hK
    case body =>
     intro lp pre x W1 hpre hi hmc
     obtain ⟨g0,g1,g2,g3⟩ := hi
     have k0 : W1.cell? ⟨W.heap.size,0,none⟩ = some (.int .i64 (pre.getLastD k)) := (blk_cell g0 0).trans rfl
     have k1 := blk_frozen g0 0
     have G0 := aM_ g0
     have G1 := aM_ g1
     have G2 := aM_ g2
     have G3 := aM_ g3
     have GM := aM_ hmc
     clear g0 g1 g2 g3 hmc hpre
     gi_wp2
     refine ⟨(KeepsOthers.setCell _ _ _).from _,blk_far GM.out (by show _ ≠ W.heap.size;omega) _,?_,blk_far G1.out (by show _ ≠ W.heap.size;omega) _,bS_ G2.out (by omega),fun D hD => heap_set_other (G3.out D hD) (by have := (hDlt D hD).1;omega)⟩
     rw [List.getLastD_concat]
     exact blk_put G0.out 0 _ rfl
    case done =>
     intro D W1 hD hi hK
     obtain ⟨g0,g1,g2,g3⟩ := hi
     rw [HY.out] at g0
     obtain ⟨ad,rfl,p0,p1,p2,p3,p4,p5,p6⟩ := at_T49 (Kd.C_below HR.out g2) y hyr.1 hyr.2
     have k0 : W1.cell? ⟨W.heap.size,0,none⟩ = some (.int .i64 y) := (blk_cell g0 0).trans rfl
     have y0 := hyr.1
     have y1 := hyr.2
     have hiff : endsP l0 k ↔ (rd_T49 l0 y).f3 = -1 := by unfold endsP;rw [HY.out]
     have HL3 : Aside0 (((rd_T49 l0 y).f3 = -1 → r = looseFrom l0 (l0.length - (k + 1)) (k + 1)) ∧ ((rd_T49 l0 y).f3 ≠ -1 → r = 13)) := ⟨fun he => by have h1 := HL2.out;rwa [if_pos (hiff.2 he)] at h1,fun he => by have h1 := HL2.out;rwa [if_neg (fun hx => he (hiff.1 hx))] at h1⟩
     clear hiff
     have G2 := aM_ g2
     have HDs : Aside0 ((D :: Ds).Nodup ∧ ∀ E ∈ D :: Ds,w.heap.size ≤ E ∧ W1.heap[E]? = some (.deferred (some []))) := ⟨by
      refine ⟨List.nodup_cons.2 ⟨fun hm => ?_,HD.out.1⟩,fun E hE => ?_⟩
      ·have := (hDlt D hm).1;omega
      ·rcases List.mem_cons.1 hE with rfl | hE
       ·exact ⟨by omega,hK⟩
       ·exact ⟨(HD.out.2 E hE).1,g3 E hE⟩⟩
     clear g0 g1 g2 g3 hK HL2 p0 p1 p2 p3 p4 p6 hyr
     generalize (rd_T49 l0 y).f3 = by_ at p5 HL3
     by_cases he : by_ = -1
     ·have HL4 := aM_ (HL3.out.1 he)
      have d1 : (by_ != -1) = false := bne_eq_false_iff_eq.2 he
      clear HL3 he
      go_wp2
      exact ⟨⟨k + 1,_,_,_,_,_,_,_,_,_,_,_,_,_,_,_,_,_,_,_,_,_,_,_,_,_,_,_,_,_,_,_,_,_,_,_,_,_,_,_,_,_,_,_,_,_,_,_,_,_,_,_,_,_,_,_,D :: Ds,by rw [show ((k + 1 : Nat) : Int) = (k : Int) + 1 by omega];rfl,by omega,HL4,G2,HDs⟩,by simp [CheckMu,intOf];omega⟩
     ·obtain rfl : r = 13 := HL3.out.2 he
      have d1 : (by_ != -1) = true := bne_iff_ne.2 he
      clear HL3 he
      go_wp2
      exact leaves_marks (D :: Ds) _ G2.out HDs.out.1 HDs.out.2 (fun W' hB' => ⟨_,results_tmp rfl _ _ _,rfl,hB'⟩)
   ·obtain rfl : k = l0.length := by omega
    obtain rfl : r = 0 := by have h1 := HL.out;rw [show l0.length - l0.length = 0 by omega] at h1;exact h1
    clear HL
    go_wp2
    exact leaves_marks Ds _ HB.out HD.out.1 HD.out.2 (fun W' hB' => ⟨_,results_tmp rfl _ _ _,rfl,hB'⟩)

end Go.Proofs.Ytdbpobadeibjaab.GE
