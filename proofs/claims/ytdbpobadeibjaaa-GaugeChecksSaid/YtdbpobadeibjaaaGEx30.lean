-- written for this claim by a program of this session (wip/gp), over the kit's own printer; Lean checks it
import Derived.Test.YtdbpobadeibjaaaGEx0
import Derived.Test.YtdbpobadeibjaaaGEx19
import Derived.Test.YtdbpobadeibjaaaGEx20
namespace Go.Proofs.Ytdbpobadeibjaaa.GE
open Go.RowKit Go.Proofs.YtdbpobadeibjaaaW.PrintWords Go.Proofs.YtdbpobadeibjaaaW.PrintLast Go.Proofs.YtdbpobadeibjaaaW.PrintMore
attribute [local go_sem] max2_int min2_int max_two min_two max_three min_three max_four min_four
set_option linter.unusedVariables false
set_option linter.unusedSimpArgs false

/-! ### R_least: function 84 -/
def R_least.l0 : Nat → Int → Int → Int → Int → Int → Int → Int → Int → Int → Int → Option (Int)
 | 0,_,_,_,_,_,_,_,_,_,_ => none
 | k + 1,x1,x5,x6,x388000,x388001,x388002,x388003,x388004,x388005,x388006 => if x5 < x6 then ((R_Down.f (wrap64 (x5 + x6)) 2).bind fun t388 => ((R_Made.f x388000 x388001 x388002 x388003 x388004 x388005 x388006 t388).bind fun bt389 => (if bt389.2 ≥ x1 then (R_least.l0 k x1 x5 t388 x388000 x388001 x388002 x388003 x388004 x388005 x388006) else (R_least.l0 k x1 (wrap64 (t388 + 1)) x6 x388000 x388001 x388002 x388003 x388004 x388005 x388006)))) else (some x5)
def R_least.f (k : Nat) (a0_0 : Int) (a0_1 : Int) (a0_2 : Int) (a0_3 : Int) (a0_4 : Int) (a0_5 : Int) (a0_6 : Int) (a1 : Int) : Option (Int) := R_least.l0 k a1 (-4398046511104) 4398046511104 a0_0 a0_1 a0_2 a0_3 a0_4 a0_5 a0_6
set_option maxHeartbeats 8000000 in
set_option maxRecDepth 100000 in
theorem R_least.calls (k : Nat) (a0_0 : Int) (a0_1 : Int) (a0_2 : Int) (a0_3 : Int) (a0_4 : Int) (a0_5 : Int) (a0_6 : Int) (a1 : Int) (r : Int) (w : World) (h : R_least.f k a0_0 a0_1 a0_2 a0_3 a0_4 a0_5 a0_6 a1 = some r) :
  Calls Try.prog 84 #[.agg #[.int .i64 a0_0,.int .i64 a0_1,.int .i64 a0_2,.int .i64 a0_3,.int .i64 a0_4,.int .i64 a0_5,.int .i64 a0_6],.int .i64 a1] w fun e w' => e = .returned (.int .i64 r) ∧ Below w.heap.size w w' := by
 have hu36 := Try.underlying36
 have hfl34_1 : ∀ (y0 y1 : Value) (W : World),(Instr.field 34 (.agg #[y0,y1]) 1).run Try.prog W = .ok (y1) W := fun _ _ _ => by kernel_rfl
 have HB := aM_ (Below.refl w.heap.size w)
 have H : (R_least.l0 k a1 (-4398046511104) 4398046511104 a0_0 a0_1 a0_2 a0_3 a0_4 a0_5 a0_6) = some r := h
 clear h
 have H' := aM_ H
 clear H
 go_enter Try.func84,Try.ntmps84
 go_wp2_with (first | ((with_reducible refine gate_dst (N := 2) rfl ?_);refine box_event ?hg (N := 2) ?hd (cs := #[.int .i64 a0_0,.int .i64 a0_1,.int .i64 a0_2,.int .i64 a0_3,.int .i64 a0_4,.int .i64 a0_5,.int .i64 a0_6]) (t := 36) ?hr ?_;(case hd => rfl);(case hg => rfl);(case hr => first | (go_simp;done) | (go_simp;rfl));intro gb387 hg w3 hbox hb;have n0_ := aM_ (bT_ (by repeat (first | (with_reducible first | exact HB.out | apply bA_ | apply bN_ | apply bD_) | exact HB.out)) hb);have n1_ := aM_ (hbox);have n2_ := aM_ ((by rw [hg];exact (below_size (by repeat (first | (with_reducible first | exact HB.out | apply bA_ | apply bN_ | apply bD_) | exact HB.out))) : w.heap.size ≤ gb387));have n3_ := aM_ ((by rw [hg];exact (below_size (by repeat (first | (with_reducible first | exact HB.out | apply bA_ | apply bN_ | apply bD_) | exact HB.out))) : w.heap.size ≤ gb387));clear HB;have HB := n0_;have BK387 := n1_;have GW387 := n2_;have GE387 := n3_;clear n0_ n1_ n2_ n3_;clear hb hbox hg))
 go_loopg [5,6] k (fun kq v5 v6 w' => ∃ (x5_1 : Int) (x6_1 : Int),v5 = .int .i64 x5_1 ∧ v6 = .int .i64 x6_1 ∧ Aside0 (R_least.l0 kq a1 x5_1 x6_1 a0_0 a0_1 a0_2 a0_3 a0_4 a0_5 a0_6 = some r) ∧ Aside0 (kq ≤ k) ∧ Aside0 (w'.heap[gb387]? = some (.cells #[.int .i64 a0_0,.int .i64 a0_1,.int .i64 a0_2,.int .i64 a0_3,.int .i64 a0_4,.int .i64 a0_5,.int .i64 a0_6] 36 (0,0))) ∧ Aside0 (Below w.heap.size w w'))
 case atStart => exact ⟨((-4398046511104)),(4398046511104),(by first | rfl | (simp;done) | (simp [*];done)),(by first | rfl | (simp;done) | (simp [*];done)),H',⟨Nat.le_refl _⟩,⟨by (with_reducible repeat (first | refine kN_ ?_ _ | refine kD_ ?_ | refine kA_ ?_ _));exact BK387.out⟩,⟨by repeat (first | (with_reducible first | exact HB.out | apply bA_ | apply bN_ | apply bD_ | refine bS_ ?_ GE387.out) | exact HB.out)⟩⟩
 case round =>
  clear H'
  try clear p2
  obtain ⟨x5_1,x6_1,rfl,rfl,HA,HK1,BK387,HB⟩ := hrel
  cases gk with
  | zero => exact absurd HA.out (by simp [R_least.l0])
  | succ k1 =>
   have H := HA.out
   clear HA
   simp only [R_least.l0] at H
   by_cases c4 : x5_1 < x6_1
   ·rw [if_pos c4] at H
    have c4b0 : decide (x5_1 < x6_1) = true := decide_eq_true c4
    clear c4
    replace H := oB_ H
    obtain ⟨t388,A50,H⟩ := H
    replace H : ((R_Made.f a0_0 a0_1 a0_2 a0_3 a0_4 a0_5 a0_6 t388).bind fun bt389 => (if bt389.2 ≥ a1 then (R_least.l0 k1 a1 x5_1 t388 a0_0 a0_1 a0_2 a0_3 a0_4 a0_5 a0_6) else (R_least.l0 k1 a1 (wrap64 (t388 + 1)) x6_1 a0_0 a0_1 a0_2 a0_3 a0_4 a0_5 a0_6))) = some r := H
    have A5 := aM_ A50
    clear A50
    replace H := oB_ H
    obtain ⟨⟨t389,t390⟩,A60,H⟩ := H
    replace H : (if t390 ≥ a1 then (R_least.l0 k1 a1 x5_1 t388 a0_0 a0_1 a0_2 a0_3 a0_4 a0_5 a0_6) else (R_least.l0 k1 a1 (wrap64 (t388 + 1)) x6_1 a0_0 a0_1 a0_2 a0_3 a0_4 a0_5 a0_6)) = some r := H
    have A6 := aM_ A60
    clear A60
    by_cases c7 : t390 ≥ a1
    ·rw [if_pos c7] at H
     have c7b0 : decide (a1 ≤ t390) = true := decide_eq_true c7
     clear c7
     have H' := aM_ H
     clear H
     go_wp2_with (first | ((with_reducible refine gate_callee (f := 53) rfl ?_);refine goesL_ (some 14) rfl rfl Try.func53 (by kernel_rfl) rfl #[.int .i64 (wrap64 (x5_1 + x6_1)),.int .i64 2] rfl (by (try simp only [List.map_toArray,List.map_cons,List.map_nil]);first | done | rfl) ?_;(with_reducible refine (R_Down.calls (wrap64 (x5_1 + x6_1)) 2 t388 _ A5.out).mono ?_);rintro e w' ⟨rfl,⟨nd,rfl⟩⟩;refine ⟨_,rfl,?_⟩;have hcz8_0 : wr.cell? ⟨gb387,0,none⟩ = some (.int .i64 a0_0) := (blk_cell BK387.out 0).trans rfl;have hcz8_1 : wr.cell? ⟨gb387,1,none⟩ = some (.int .i64 a0_1) := (blk_cell BK387.out 1).trans rfl;have hcz8_2 : wr.cell? ⟨gb387,2,none⟩ = some (.int .i64 a0_2) := (blk_cell BK387.out 2).trans rfl;have hcz8_3 : wr.cell? ⟨gb387,3,none⟩ = some (.int .i64 a0_3) := (blk_cell BK387.out 3).trans rfl;have hcz8_4 : wr.cell? ⟨gb387,4,none⟩ = some (.int .i64 a0_4) := (blk_cell BK387.out 4).trans rfl;have hcz8_5 : wr.cell? ⟨gb387,5,none⟩ = some (.int .i64 a0_5) := (blk_cell BK387.out 5).trans rfl;have hcz8_6 : wr.cell? ⟨gb387,6,none⟩ = some (.int .i64 a0_6) := (blk_cell BK387.out 6).trans rfl;have hfz8_0 := blk_frozen BK387.out 0;have hfz8_1 := blk_frozen BK387.out 1;have hfz8_2 := blk_frozen BK387.out 2;have hfz8_3 := blk_frozen BK387.out 3;have hfz8_4 := blk_frozen BK387.out 4;have hfz8_5 := blk_frozen BK387.out 5;have hfz8_6 := blk_frozen BK387.out 6) | ((with_reducible refine gate_callee (f := 51) rfl ?_);refine goesL_ (some 17) rfl rfl Try.func51 (by kernel_rfl) rfl #[.agg #[.int .i64 a0_0,.int .i64 a0_1,.int .i64 a0_2,.int .i64 a0_3,.int .i64 a0_4,.int .i64 a0_5,.int .i64 a0_6],.int .i64 t388] rfl (by (try simp only [List.map_toArray,List.map_cons,List.map_nil]);first | done | rfl) ?_;(with_reducible refine (R_Made.calls a0_0 a0_1 a0_2 a0_3 a0_4 a0_5 a0_6 t388 t389 t390 _ A6.out).mono ?_);rintro e w9 ⟨rfl,hb⟩;refine ⟨_,rfl,?_⟩;have n0_ := aM_ (kB_ (g := gb387) (o := .cells #[.int .i64 a0_0,.int .i64 a0_1,.int .i64 a0_2,.int .i64 a0_3,.int .i64 a0_4,.int .i64 a0_5,.int .i64 a0_6] 36 (0,0)) (by (with_reducible repeat (first | refine kN_ ?_ _ | refine kD_ ?_ | refine kA_ ?_ _));exact BK387.out) hb);have n1_ := aM_ (bT_ (by repeat (first | (with_reducible first | exact HB.out | apply bA_ | apply bN_ | apply bD_ | refine bS_ ?_ GE387.out) | exact HB.out)) hb);clear BK387;clear HB;have BK387 := n0_;have HB := n1_;clear n0_ n1_;(try clear hb);(try clear hb2);(try clear hk);(try clear hi)))
     go_roundg k1
     case measure => have := HK1.out;omega
     case rel => exact ⟨(x5_1),(t388),(by first | rfl | (simp;done) | (simp [*];done)),(by first | rfl | (simp;done) | (simp [*];done)),H',⟨by have := HK1.out;omega⟩,⟨by (with_reducible repeat (first | refine kN_ ?_ _ | refine kD_ ?_ | refine kA_ ?_ _));exact BK387.out⟩,⟨by repeat (first | (with_reducible first | exact HB.out | apply bA_ | apply bN_ | apply bD_ | refine bS_ ?_ GE387.out) | exact HB.out)⟩⟩
    ·rw [if_neg c7] at H
     have c7b0 : decide (a1 ≤ t390) = false := decide_eq_false c7
     clear c7
     have H' := aM_ H
     clear H
     go_wp2_with (first | ((with_reducible refine gate_callee (f := 53) rfl ?_);refine goesL_ (some 14) rfl rfl Try.func53 (by kernel_rfl) rfl #[.int .i64 (wrap64 (x5_1 + x6_1)),.int .i64 2] rfl (by (try simp only [List.map_toArray,List.map_cons,List.map_nil]);first | done | rfl) ?_;(with_reducible refine (R_Down.calls (wrap64 (x5_1 + x6_1)) 2 t388 _ A5.out).mono ?_);rintro e w' ⟨rfl,⟨nd,rfl⟩⟩;refine ⟨_,rfl,?_⟩;have hcz10_0 : wr.cell? ⟨gb387,0,none⟩ = some (.int .i64 a0_0) := (blk_cell BK387.out 0).trans rfl;have hcz10_1 : wr.cell? ⟨gb387,1,none⟩ = some (.int .i64 a0_1) := (blk_cell BK387.out 1).trans rfl;have hcz10_2 : wr.cell? ⟨gb387,2,none⟩ = some (.int .i64 a0_2) := (blk_cell BK387.out 2).trans rfl;have hcz10_3 : wr.cell? ⟨gb387,3,none⟩ = some (.int .i64 a0_3) := (blk_cell BK387.out 3).trans rfl;have hcz10_4 : wr.cell? ⟨gb387,4,none⟩ = some (.int .i64 a0_4) := (blk_cell BK387.out 4).trans rfl;have hcz10_5 : wr.cell? ⟨gb387,5,none⟩ = some (.int .i64 a0_5) := (blk_cell BK387.out 5).trans rfl;have hcz10_6 : wr.cell? ⟨gb387,6,none⟩ = some (.int .i64 a0_6) := (blk_cell BK387.out 6).trans rfl;have hfz10_0 := blk_frozen BK387.out 0;have hfz10_1 := blk_frozen BK387.out 1;have hfz10_2 := blk_frozen BK387.out 2;have hfz10_3 := blk_frozen BK387.out 3;have hfz10_4 := blk_frozen BK387.out 4;have hfz10_5 := blk_frozen BK387.out 5;have hfz10_6 := blk_frozen BK387.out 6) | ((with_reducible refine gate_callee (f := 51) rfl ?_);refine goesL_ (some 17) rfl rfl Try.func51 (by kernel_rfl) rfl #[.agg #[.int .i64 a0_0,.int .i64 a0_1,.int .i64 a0_2,.int .i64 a0_3,.int .i64 a0_4,.int .i64 a0_5,.int .i64 a0_6],.int .i64 t388] rfl (by (try simp only [List.map_toArray,List.map_cons,List.map_nil]);first | done | rfl) ?_;(with_reducible refine (R_Made.calls a0_0 a0_1 a0_2 a0_3 a0_4 a0_5 a0_6 t388 t389 t390 _ A6.out).mono ?_);rintro e w11 ⟨rfl,hb⟩;refine ⟨_,rfl,?_⟩;have n0_ := aM_ (kB_ (g := gb387) (o := .cells #[.int .i64 a0_0,.int .i64 a0_1,.int .i64 a0_2,.int .i64 a0_3,.int .i64 a0_4,.int .i64 a0_5,.int .i64 a0_6] 36 (0,0)) (by (with_reducible repeat (first | refine kN_ ?_ _ | refine kD_ ?_ | refine kA_ ?_ _));exact BK387.out) hb);have n1_ := aM_ (bT_ (by repeat (first | (with_reducible first | exact HB.out | apply bA_ | apply bN_ | apply bD_ | refine bS_ ?_ GE387.out) | exact HB.out)) hb);clear BK387;clear HB;have BK387 := n0_;have HB := n1_;clear n0_ n1_;(try clear hb);(try clear hb2);(try clear hk);(try clear hi)))
     go_roundg k1
     case measure => have := HK1.out;omega
     case rel => exact ⟨(wrap64 (t388 + 1)),(x6_1),(by first | rfl | (simp;done) | (simp [*];done)),(by first | rfl | (simp;done) | (simp [*];done)),H',⟨by have := HK1.out;omega⟩,⟨by (with_reducible repeat (first | refine kN_ ?_ _ | refine kD_ ?_ | refine kA_ ?_ _));exact BK387.out⟩,⟨by repeat (first | (with_reducible first | exact HB.out | apply bA_ | apply bN_ | apply bD_ | refine bS_ ?_ GE387.out) | exact HB.out)⟩⟩
   ·rw [if_neg c4] at H
    have c4b0 : decide (x5_1 < x6_1) = false := decide_eq_false c4
    clear c4
    obtain rfl := Option.some.inj H
    go_wp2
    go_ret
    exact ⟨by first | rfl | (simp [*] <;> rfl),by repeat (first | (with_reducible first | exact HB.out | apply bA_ | apply bN_ | apply bD_ | refine bS_ ?_ GE387.out) | exact HB.out)⟩

/-! ### R_most: function 85 -/
def R_most.l0 : Nat → Int → Int → Int → Int → Int → Int → Int → Int → Int → Int → Option (Int)
 | 0,_,_,_,_,_,_,_,_,_,_ => none
 | k + 1,x1,x5,x6,x392000,x392001,x392002,x392003,x392004,x392005,x392006 => if x5 < x6 then ((R_Up.f (wrap64 (x5 + x6)) 2).bind fun t392 => ((R_Made.f x392000 x392001 x392002 x392003 x392004 x392005 x392006 t392).bind fun bt393 => (if bt393.1 ≤ x1 then (R_most.l0 k x1 t392 x6 x392000 x392001 x392002 x392003 x392004 x392005 x392006) else (R_most.l0 k x1 x5 (wrap64 (t392 - 1)) x392000 x392001 x392002 x392003 x392004 x392005 x392006)))) else (some x5)
def R_most.f (k : Nat) (a0_0 : Int) (a0_1 : Int) (a0_2 : Int) (a0_3 : Int) (a0_4 : Int) (a0_5 : Int) (a0_6 : Int) (a1 : Int) : Option (Int) := R_most.l0 k a1 (-4398046511104) 4398046511104 a0_0 a0_1 a0_2 a0_3 a0_4 a0_5 a0_6
set_option maxHeartbeats 8000000 in
set_option maxRecDepth 100000 in
theorem R_most.calls (k : Nat) (a0_0 : Int) (a0_1 : Int) (a0_2 : Int) (a0_3 : Int) (a0_4 : Int) (a0_5 : Int) (a0_6 : Int) (a1 : Int) (r : Int) (w : World) (h : R_most.f k a0_0 a0_1 a0_2 a0_3 a0_4 a0_5 a0_6 a1 = some r) :
  Calls Try.prog 85 #[.agg #[.int .i64 a0_0,.int .i64 a0_1,.int .i64 a0_2,.int .i64 a0_3,.int .i64 a0_4,.int .i64 a0_5,.int .i64 a0_6],.int .i64 a1] w fun e w' => e = .returned (.int .i64 r) ∧ Below w.heap.size w w' := by
 have hu36 := Try.underlying36
 have hfl34_0 : ∀ (y0 y1 : Value) (W : World),(Instr.field 34 (.agg #[y0,y1]) 0).run Try.prog W = .ok (y0) W := fun _ _ _ => by kernel_rfl
 have HB := aM_ (Below.refl w.heap.size w)
 have H : (R_most.l0 k a1 (-4398046511104) 4398046511104 a0_0 a0_1 a0_2 a0_3 a0_4 a0_5 a0_6) = some r := h
 clear h
 have H' := aM_ H
 clear H
 go_enter Try.func85,Try.ntmps85
 go_wp2_with (first | ((with_reducible refine gate_dst (N := 2) rfl ?_);refine box_event ?hg (N := 2) ?hd (cs := #[.int .i64 a0_0,.int .i64 a0_1,.int .i64 a0_2,.int .i64 a0_3,.int .i64 a0_4,.int .i64 a0_5,.int .i64 a0_6]) (t := 36) ?hr ?_;(case hd => rfl);(case hg => rfl);(case hr => first | (go_simp;done) | (go_simp;rfl));intro gb391 hg w3 hbox hb;have n0_ := aM_ (bT_ (by repeat (first | (with_reducible first | exact HB.out | apply bA_ | apply bN_ | apply bD_) | exact HB.out)) hb);have n1_ := aM_ (hbox);have n2_ := aM_ ((by rw [hg];exact (below_size (by repeat (first | (with_reducible first | exact HB.out | apply bA_ | apply bN_ | apply bD_) | exact HB.out))) : w.heap.size ≤ gb391));have n3_ := aM_ ((by rw [hg];exact (below_size (by repeat (first | (with_reducible first | exact HB.out | apply bA_ | apply bN_ | apply bD_) | exact HB.out))) : w.heap.size ≤ gb391));clear HB;have HB := n0_;have BK391 := n1_;have GW391 := n2_;have GE391 := n3_;clear n0_ n1_ n2_ n3_;clear hb hbox hg))
 go_loopg [5,6] k (fun kq v5 v6 w' => ∃ (x5_1 : Int) (x6_1 : Int),v5 = .int .i64 x5_1 ∧ v6 = .int .i64 x6_1 ∧ Aside0 (R_most.l0 kq a1 x5_1 x6_1 a0_0 a0_1 a0_2 a0_3 a0_4 a0_5 a0_6 = some r) ∧ Aside0 (kq ≤ k) ∧ Aside0 (w'.heap[gb391]? = some (.cells #[.int .i64 a0_0,.int .i64 a0_1,.int .i64 a0_2,.int .i64 a0_3,.int .i64 a0_4,.int .i64 a0_5,.int .i64 a0_6] 36 (0,0))) ∧ Aside0 (Below w.heap.size w w'))
 case atStart => exact ⟨((-4398046511104)),(4398046511104),(by first | rfl | (simp;done) | (simp [*];done)),(by first | rfl | (simp;done) | (simp [*];done)),H',⟨Nat.le_refl _⟩,⟨by (with_reducible repeat (first | refine kN_ ?_ _ | refine kD_ ?_ | refine kA_ ?_ _));exact BK391.out⟩,⟨by repeat (first | (with_reducible first | exact HB.out | apply bA_ | apply bN_ | apply bD_ | refine bS_ ?_ GE391.out) | exact HB.out)⟩⟩
 case round =>
  clear H'
  try clear p2
  obtain ⟨x5_1,x6_1,rfl,rfl,HA,HK1,BK391,HB⟩ := hrel
  cases gk with
  | zero => exact absurd HA.out (by simp [R_most.l0])
  | succ k1 =>
   have H := HA.out
   clear HA
   simp only [R_most.l0] at H
   by_cases c4 : x5_1 < x6_1
   ·rw [if_pos c4] at H
    have c4b0 : decide (x5_1 < x6_1) = true := decide_eq_true c4
    clear c4
    replace H := oB_ H
    obtain ⟨t392,A50,H⟩ := H
    replace H : ((R_Made.f a0_0 a0_1 a0_2 a0_3 a0_4 a0_5 a0_6 t392).bind fun bt393 => (if bt393.1 ≤ a1 then (R_most.l0 k1 a1 t392 x6_1 a0_0 a0_1 a0_2 a0_3 a0_4 a0_5 a0_6) else (R_most.l0 k1 a1 x5_1 (wrap64 (t392 - 1)) a0_0 a0_1 a0_2 a0_3 a0_4 a0_5 a0_6))) = some r := H
    have A5 := aM_ A50
    clear A50
    replace H := oB_ H
    obtain ⟨⟨t393,t394⟩,A60,H⟩ := H
    replace H : (if t393 ≤ a1 then (R_most.l0 k1 a1 t392 x6_1 a0_0 a0_1 a0_2 a0_3 a0_4 a0_5 a0_6) else (R_most.l0 k1 a1 x5_1 (wrap64 (t392 - 1)) a0_0 a0_1 a0_2 a0_3 a0_4 a0_5 a0_6)) = some r := H
    have A6 := aM_ A60
    clear A60
    by_cases c7 : t393 ≤ a1
    ·rw [if_pos c7] at H
     have c7b0 : decide (t393 ≤ a1) = true := decide_eq_true c7
     clear c7
     have H' := aM_ H
     clear H
     go_wp2_with (first | ((with_reducible refine gate_callee (f := 82) rfl ?_);refine goesL_ (some 14) rfl rfl Try.func82 (by kernel_rfl) rfl #[.int .i64 (wrap64 (x5_1 + x6_1)),.int .i64 2] rfl (by (try simp only [List.map_toArray,List.map_cons,List.map_nil]);first | done | rfl) ?_;(with_reducible refine (R_Up.calls (wrap64 (x5_1 + x6_1)) 2 t392 _ A5.out).mono ?_);rintro e w' ⟨rfl,⟨nd,rfl⟩⟩;refine ⟨_,rfl,?_⟩;have hcz8_0 : wr.cell? ⟨gb391,0,none⟩ = some (.int .i64 a0_0) := (blk_cell BK391.out 0).trans rfl;have hcz8_1 : wr.cell? ⟨gb391,1,none⟩ = some (.int .i64 a0_1) := (blk_cell BK391.out 1).trans rfl;have hcz8_2 : wr.cell? ⟨gb391,2,none⟩ = some (.int .i64 a0_2) := (blk_cell BK391.out 2).trans rfl;have hcz8_3 : wr.cell? ⟨gb391,3,none⟩ = some (.int .i64 a0_3) := (blk_cell BK391.out 3).trans rfl;have hcz8_4 : wr.cell? ⟨gb391,4,none⟩ = some (.int .i64 a0_4) := (blk_cell BK391.out 4).trans rfl;have hcz8_5 : wr.cell? ⟨gb391,5,none⟩ = some (.int .i64 a0_5) := (blk_cell BK391.out 5).trans rfl;have hcz8_6 : wr.cell? ⟨gb391,6,none⟩ = some (.int .i64 a0_6) := (blk_cell BK391.out 6).trans rfl;have hfz8_0 := blk_frozen BK391.out 0;have hfz8_1 := blk_frozen BK391.out 1;have hfz8_2 := blk_frozen BK391.out 2;have hfz8_3 := blk_frozen BK391.out 3;have hfz8_4 := blk_frozen BK391.out 4;have hfz8_5 := blk_frozen BK391.out 5;have hfz8_6 := blk_frozen BK391.out 6) | ((with_reducible refine gate_callee (f := 51) rfl ?_);refine goesL_ (some 17) rfl rfl Try.func51 (by kernel_rfl) rfl #[.agg #[.int .i64 a0_0,.int .i64 a0_1,.int .i64 a0_2,.int .i64 a0_3,.int .i64 a0_4,.int .i64 a0_5,.int .i64 a0_6],.int .i64 t392] rfl (by (try simp only [List.map_toArray,List.map_cons,List.map_nil]);first | done | rfl) ?_;(with_reducible refine (R_Made.calls a0_0 a0_1 a0_2 a0_3 a0_4 a0_5 a0_6 t392 t393 t394 _ A6.out).mono ?_);rintro e w9 ⟨rfl,hb⟩;refine ⟨_,rfl,?_⟩;have n0_ := aM_ (kB_ (g := gb391) (o := .cells #[.int .i64 a0_0,.int .i64 a0_1,.int .i64 a0_2,.int .i64 a0_3,.int .i64 a0_4,.int .i64 a0_5,.int .i64 a0_6] 36 (0,0)) (by (with_reducible repeat (first | refine kN_ ?_ _ | refine kD_ ?_ | refine kA_ ?_ _));exact BK391.out) hb);have n1_ := aM_ (bT_ (by repeat (first | (with_reducible first | exact HB.out | apply bA_ | apply bN_ | apply bD_ | refine bS_ ?_ GE391.out) | exact HB.out)) hb);clear BK391;clear HB;have BK391 := n0_;have HB := n1_;clear n0_ n1_;(try clear hb);(try clear hb2);(try clear hk);(try clear hi)))
     go_roundg k1
     case measure => have := HK1.out;omega
     case rel => exact ⟨(t392),(x6_1),(by first | rfl | (simp;done) | (simp [*];done)),(by first | rfl | (simp;done) | (simp [*];done)),H',⟨by have := HK1.out;omega⟩,⟨by (with_reducible repeat (first | refine kN_ ?_ _ | refine kD_ ?_ | refine kA_ ?_ _));exact BK391.out⟩,⟨by repeat (first | (with_reducible first | exact HB.out | apply bA_ | apply bN_ | apply bD_ | refine bS_ ?_ GE391.out) | exact HB.out)⟩⟩
    ·rw [if_neg c7] at H
     have c7b0 : decide (t393 ≤ a1) = false := decide_eq_false c7
     clear c7
     have H' := aM_ H
     clear H
     go_wp2_with (first | ((with_reducible refine gate_callee (f := 82) rfl ?_);refine goesL_ (some 14) rfl rfl Try.func82 (by kernel_rfl) rfl #[.int .i64 (wrap64 (x5_1 + x6_1)),.int .i64 2] rfl (by (try simp only [List.map_toArray,List.map_cons,List.map_nil]);first | done | rfl) ?_;(with_reducible refine (R_Up.calls (wrap64 (x5_1 + x6_1)) 2 t392 _ A5.out).mono ?_);rintro e w' ⟨rfl,⟨nd,rfl⟩⟩;refine ⟨_,rfl,?_⟩;have hcz10_0 : wr.cell? ⟨gb391,0,none⟩ = some (.int .i64 a0_0) := (blk_cell BK391.out 0).trans rfl;have hcz10_1 : wr.cell? ⟨gb391,1,none⟩ = some (.int .i64 a0_1) := (blk_cell BK391.out 1).trans rfl;have hcz10_2 : wr.cell? ⟨gb391,2,none⟩ = some (.int .i64 a0_2) := (blk_cell BK391.out 2).trans rfl;have hcz10_3 : wr.cell? ⟨gb391,3,none⟩ = some (.int .i64 a0_3) := (blk_cell BK391.out 3).trans rfl;have hcz10_4 : wr.cell? ⟨gb391,4,none⟩ = some (.int .i64 a0_4) := (blk_cell BK391.out 4).trans rfl;have hcz10_5 : wr.cell? ⟨gb391,5,none⟩ = some (.int .i64 a0_5) := (blk_cell BK391.out 5).trans rfl;have hcz10_6 : wr.cell? ⟨gb391,6,none⟩ = some (.int .i64 a0_6) := (blk_cell BK391.out 6).trans rfl;have hfz10_0 := blk_frozen BK391.out 0;have hfz10_1 := blk_frozen BK391.out 1;have hfz10_2 := blk_frozen BK391.out 2;have hfz10_3 := blk_frozen BK391.out 3;have hfz10_4 := blk_frozen BK391.out 4;have hfz10_5 := blk_frozen BK391.out 5;have hfz10_6 := blk_frozen BK391.out 6) | ((with_reducible refine gate_callee (f := 51) rfl ?_);refine goesL_ (some 17) rfl rfl Try.func51 (by kernel_rfl) rfl #[.agg #[.int .i64 a0_0,.int .i64 a0_1,.int .i64 a0_2,.int .i64 a0_3,.int .i64 a0_4,.int .i64 a0_5,.int .i64 a0_6],.int .i64 t392] rfl (by (try simp only [List.map_toArray,List.map_cons,List.map_nil]);first | done | rfl) ?_;(with_reducible refine (R_Made.calls a0_0 a0_1 a0_2 a0_3 a0_4 a0_5 a0_6 t392 t393 t394 _ A6.out).mono ?_);rintro e w11 ⟨rfl,hb⟩;refine ⟨_,rfl,?_⟩;have n0_ := aM_ (kB_ (g := gb391) (o := .cells #[.int .i64 a0_0,.int .i64 a0_1,.int .i64 a0_2,.int .i64 a0_3,.int .i64 a0_4,.int .i64 a0_5,.int .i64 a0_6] 36 (0,0)) (by (with_reducible repeat (first | refine kN_ ?_ _ | refine kD_ ?_ | refine kA_ ?_ _));exact BK391.out) hb);have n1_ := aM_ (bT_ (by repeat (first | (with_reducible first | exact HB.out | apply bA_ | apply bN_ | apply bD_ | refine bS_ ?_ GE391.out) | exact HB.out)) hb);clear BK391;clear HB;have BK391 := n0_;have HB := n1_;clear n0_ n1_;(try clear hb);(try clear hb2);(try clear hk);(try clear hi)))
     go_roundg k1
     case measure => have := HK1.out;omega
     case rel => exact ⟨(x5_1),(wrap64 (t392 - 1)),(by first | rfl | (simp;done) | (simp [*];done)),(by first | rfl | (simp;done) | (simp [*];done)),H',⟨by have := HK1.out;omega⟩,⟨by (with_reducible repeat (first | refine kN_ ?_ _ | refine kD_ ?_ | refine kA_ ?_ _));exact BK391.out⟩,⟨by repeat (first | (with_reducible first | exact HB.out | apply bA_ | apply bN_ | apply bD_ | refine bS_ ?_ GE391.out) | exact HB.out)⟩⟩
   ·rw [if_neg c4] at H
    have c4b0 : decide (x5_1 < x6_1) = false := decide_eq_false c4
    clear c4
    obtain rfl := Option.some.inj H
    go_wp2
    go_ret
    exact ⟨by first | rfl | (simp [*] <;> rfl),by repeat (first | (with_reducible first | exact HB.out | apply bA_ | apply bN_ | apply bD_ | refine bS_ ?_ GE391.out) | exact HB.out)⟩

end Go.Proofs.Ytdbpobadeibjaaa.GE
