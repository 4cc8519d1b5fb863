-- written for this claim by a program of this session (wip/gp), over the kit's own printer; Lean checks it
import Derived.Test.YtdbpobadeibjaaaGEx0
import Derived.Test.YtdbpobadeibjaaaGEx16
import Derived.Test.YtdbpobadeibjaaaGEx19
namespace Go.Proofs.Ytdbpobadeibjaaa.GE
open Go.RowKit Go.Proofs.YtdbpobadeibjaaaW.PrintWords Go.Proofs.YtdbpobadeibjaaaW.PrintLast Go.Proofs.YtdbpobadeibjaaaW.PrintMore
attribute [local go_sem] max2_int min2_int max_two min_two max_three min_three max_four min_four
set_option linter.unusedVariables false
set_option linter.unusedSimpArgs false

/-! ### R_checkAge: function 65 -/
def R_checkAge.j0 : Nat → Bool → Int → Int → Int → Int → Option (Int)
 | 0,_,_,_,_,_ => none
 | k + 1,x22,x471000,x471001,x472000,x472001 => if x22 = true then (some 2) else (if x471000 > x471001 then (some 11) else (if x472000 > x472001 then (some 11) else (some 0)))
def R_checkAge.f (k : Nat) (a0_0 : Int) (a0_1 : Int) (a1_0 : Int) (a1_1 : Int) : Option (Int) := (R_beyond.f a0_0 (-1000000000) 1000000000).bind fun t472 => (if t472 = true then (R_checkAge.j0 k true a0_0 a0_1 a1_0 a1_1) else ((R_beyond.f a0_1 (-1000000000) 1000000000).bind fun t473 => (if t473 = true then (R_checkAge.j0 k true a0_0 a0_1 a1_0 a1_1) else ((R_beyond.f a1_0 (-1000000) 1000000).bind fun t474 => (if t474 = true then (R_checkAge.j0 k true a0_0 a0_1 a1_0 a1_1) else ((R_beyond.f a1_1 (-1000000) 1000000).bind fun t475 => (R_checkAge.j0 k t475 a0_0 a0_1 a1_0 a1_1)))))))
set_option maxHeartbeats 8000000 in
set_option maxRecDepth 100000 in
theorem R_checkAge.calls (k : Nat) (a0_0 : Int) (a0_1 : Int) (a1_0 : Int) (a1_1 : Int) (r : Int) (w : World) (h : R_checkAge.f k a0_0 a0_1 a1_0 a1_1 = some r) :
  Calls Try.prog 65 #[.agg #[.int .i64 a0_0,.int .i64 a0_1],.agg #[.int .i64 a1_0,.int .i64 a1_1]] w fun e w' => e = .returned (.int .i64 r) ∧ Below w.heap.size w w' := by
 have hu34 := Try.underlying34
 have HB := aM_ (Below.refl w.heap.size w)
 have H : ((R_beyond.f a0_0 (-1000000000) 1000000000).bind fun t472 => (if t472 = true then (R_checkAge.j0 k true a0_0 a0_1 a1_0 a1_1) else ((R_beyond.f a0_1 (-1000000000) 1000000000).bind fun t473 => (if t473 = true then (R_checkAge.j0 k true a0_0 a0_1 a1_0 a1_1) else ((R_beyond.f a1_0 (-1000000) 1000000).bind fun t474 => (if t474 = true then (R_checkAge.j0 k true a0_0 a0_1 a1_0 a1_1) else ((R_beyond.f a1_1 (-1000000) 1000000).bind fun t475 => (R_checkAge.j0 k t475 a0_0 a0_1 a1_0 a1_1)))))))) = some r := h
 clear h
 have HC3 := aM_ H
 clear H
 go_enter Try.func65,Try.ntmps65
 go_upto_region 1 with (first | ((with_reducible refine gate_dst (N := 2) rfl ?_);refine box_event ?hg (N := 2) ?hd (cs := #[.int .i64 a0_0,.int .i64 a0_1]) (t := 34) ?hr ?_;(case hd => rfl);(case hg => rfl);(case hr => first | (go_simp;done) | (go_simp;rfl));intro gb470 hg w4 hbox hb;have n0_ := aM_ (bT_ (by repeat (first | (with_reducible first | exact HB.out | apply bA_ | apply bN_ | apply bD_) | exact HB.out)) hb);have n1_ := aM_ (hbox);have n2_ := aM_ ((by rw [hg];exact (below_size (by repeat (first | (with_reducible first | exact HB.out | apply bA_ | apply bN_ | apply bD_) | exact HB.out))) : w.heap.size ≤ gb470));have n3_ := aM_ ((by rw [hg];exact (below_size (by repeat (first | (with_reducible first | exact HB.out | apply bA_ | apply bN_ | apply bD_) | exact HB.out))) : w.heap.size ≤ gb470));clear HB;have HB := n0_;have BK470 := n1_;have GW470 := n2_;have GE470 := n3_;clear n0_ n1_ n2_ n3_;clear hb hbox hg) | ((with_reducible refine gate_dst (N := 3) rfl ?_);refine box_event ?hg (N := 3) ?hd (cs := #[.int .i64 a1_0,.int .i64 a1_1]) (t := 34) ?hr ?_;(case hd => rfl);(case hg => rfl);(case hr => first | (go_simp;done) | (go_simp;rfl));intro gb471 hg w5 hbox hb;have n0_ := aM_ (kB_ (g := gb470) (o := .cells #[.int .i64 a0_0,.int .i64 a0_1] 34 (0,0)) (by (with_reducible repeat (first | refine kN_ ?_ _ | refine kD_ ?_ | refine kA_ ?_ _));exact BK470.out) hb);have n1_ := aM_ (bT_ (by repeat (first | (with_reducible first | exact HB.out | apply bA_ | apply bN_ | apply bD_ | refine bS_ ?_ GE470.out) | exact HB.out)) hb);have n2_ := aM_ (hbox);have n3_ := aM_ ((by rw [hg];exact (below_size (by repeat (first | (with_reducible first | exact HB.out | apply bA_ | apply bN_ | apply bD_ | refine bS_ ?_ GE470.out) | exact HB.out))) : w.heap.size ≤ gb471));have n4_ := aM_ ((by rw [hg];exact (below_size (by repeat (first | (with_reducible first | exact HB.out | apply bA_ | apply bN_ | apply bD_ | refine bS_ ?_ GE470.out) | exact HB.out))) : w.heap.size ≤ gb471));have n5_ := aM_ ((by rw [hg];exact Nat.ne_of_lt (blk_lt (g := gb470) (o := .cells #[.int .i64 a0_0,.int .i64 a0_1] 34 (0,0)) (by (with_reducible repeat (first | refine kN_ ?_ _ | refine kD_ ?_ | refine kA_ ?_ _));exact BK470.out)) : gb470 ≠ gb471));have n6_ := aM_ ((by rw [hg];exact Nat.ne_of_gt (blk_lt (g := gb470) (o := .cells #[.int .i64 a0_0,.int .i64 a0_1] 34 (0,0)) (by (with_reducible repeat (first | refine kN_ ?_ _ | refine kD_ ?_ | refine kA_ ?_ _));exact BK470.out)) : gb471 ≠ gb470));clear BK470;clear HB;have BK470 := n0_;have HB := n1_;have BK471 := n2_;have GW471 := n3_;have GE471 := n4_;have NB470_471 := n5_;have NB471_470 := n6_;clear n0_ n1_ n2_ n3_ n4_ n5_ n6_;clear hb hbox hg))
 (try simp only [Act.put,sB_,sZ_,sS_])
 go_cut [22] (fun v22 wc => ∃ (kq : Nat) (x22_2 : Bool),v22 = .bool x22_2 ∧ Aside0 (R_checkAge.j0 kq x22_2 a0_0 a0_1 a1_0 a1_1 = some r) ∧ Aside0 (kq ≤ k) ∧ Aside0 (wc.heap[gb470]? = some (.cells #[.int .i64 a0_0,.int .i64 a0_1] 34 (0,0))) ∧ Aside0 (wc.heap[gb471]? = some (.cells #[.int .i64 a1_0,.int .i64 a1_1] 34 (0,0))) ∧ Aside0 (Below w.heap.size w wc))
 case first =>
  have H := HC3.out
  clear HC3
  replace H := oB_ H
  obtain ⟨t472,A60,H⟩ := H
  replace H : (if t472 = true then (R_checkAge.j0 k true a0_0 a0_1 a1_0 a1_1) else ((R_beyond.f a0_1 (-1000000000) 1000000000).bind fun t473 => (if t473 = true then (R_checkAge.j0 k true a0_0 a0_1 a1_0 a1_1) else ((R_beyond.f a1_0 (-1000000) 1000000).bind fun t474 => (if t474 = true then (R_checkAge.j0 k true a0_0 a0_1 a1_0 a1_1) else ((R_beyond.f a1_1 (-1000000) 1000000).bind fun t475 => (R_checkAge.j0 k t475 a0_0 a0_1 a1_0 a1_1))))))) = some r := H
  have A6 := aM_ A60
  clear A60
  by_cases c7 : t472 = true
  ·subst c7
   have H1 : (R_checkAge.j0 k true a0_0 a0_1 a1_0 a1_1) = some r := by rw [if_pos rfl] at H;exact H
   clear H
   have H := H1
   clear H1
   have H' := aM_ H
   clear H
   have hnb8 := NB470_471.out
   have hnc8 := NB471_470.out
   have hcz9_0 : w5.cell? ⟨gb470,0,none⟩ = some (.int .i64 a0_0) := (blk_cell BK470.out 0).trans rfl
   have hcz9_1 : w5.cell? ⟨gb470,1,none⟩ = some (.int .i64 a0_1) := (blk_cell BK470.out 1).trans rfl
   have hfz9_0 := blk_frozen BK470.out 0
   have hfz9_1 := blk_frozen BK470.out 1
   go_wp2_with (first | ((with_reducible refine gate_callee (f := 56) rfl ?_);refine goesL_ (some 7) rfl rfl Try.func56 (by kernel_rfl) rfl #[.int .i64 a0_0,.int .i64 (-1000000000),.int .i64 1000000000] rfl (by (try simp only [List.map_toArray,List.map_cons,List.map_nil]);first | done | rfl) ?_;(with_reducible refine (R_beyond.calls a0_0 (-1000000000) 1000000000 true _ A6.out).mono ?_);rintro e w' ⟨rfl,⟨nd,rfl⟩⟩;refine ⟨_,rfl,?_⟩))
   go_meet
   case rel => exact ⟨_,(true),(by first | rfl | (simp;done) | (simp [*];done)),H',⟨by first | omega | exact Nat.le_refl _⟩,⟨by (with_reducible repeat (first | refine kN_ ?_ _ | refine kD_ ?_ | refine kA_ ?_ _));exact BK470.out⟩,⟨by (with_reducible repeat (first | refine kN_ ?_ _ | refine kD_ ?_ | refine kA_ ?_ _));exact BK471.out⟩,⟨by repeat (first | (with_reducible first | exact HB.out | apply bA_ | apply bN_ | apply bD_ | refine bS_ ?_ GE470.out | refine bS_ ?_ GE471.out) | exact HB.out)⟩⟩
  ·replace c7 := Bool.eq_false_iff.mpr c7
   subst c7
   have H1 : ((R_beyond.f a0_1 (-1000000000) 1000000000).bind fun t473 => (if t473 = true then (R_checkAge.j0 k true a0_0 a0_1 a1_0 a1_1) else ((R_beyond.f a1_0 (-1000000) 1000000).bind fun t474 => (if t474 = true then (R_checkAge.j0 k true a0_0 a0_1 a1_0 a1_1) else ((R_beyond.f a1_1 (-1000000) 1000000).bind fun t475 => (R_checkAge.j0 k t475 a0_0 a0_1 a1_0 a1_1)))))) = some r := by rw [if_neg (show ¬ (false = true) by decide)] at H;exact H
   clear H
   have H := H1
   clear H1
   replace H := oB_ H
   obtain ⟨t473,A100,H⟩ := H
   replace H : (if t473 = true then (R_checkAge.j0 k true a0_0 a0_1 a1_0 a1_1) else ((R_beyond.f a1_0 (-1000000) 1000000).bind fun t474 => (if t474 = true then (R_checkAge.j0 k true a0_0 a0_1 a1_0 a1_1) else ((R_beyond.f a1_1 (-1000000) 1000000).bind fun t475 => (R_checkAge.j0 k t475 a0_0 a0_1 a1_0 a1_1))))) = some r := H
   have A10 := aM_ A100
   clear A100
   by_cases c11 : t473 = true
   ·subst c11
    have H1 : (R_checkAge.j0 k true a0_0 a0_1 a1_0 a1_1) = some r := by rw [if_pos rfl] at H;exact H
    clear H
    have H := H1
    clear H1
    have H' := aM_ H
    clear H
    have hnb12 := NB470_471.out
    have hnc12 := NB471_470.out
    have hcz13_0 : w5.cell? ⟨gb470,0,none⟩ = some (.int .i64 a0_0) := (blk_cell BK470.out 0).trans rfl
    have hcz13_1 : w5.cell? ⟨gb470,1,none⟩ = some (.int .i64 a0_1) := (blk_cell BK470.out 1).trans rfl
    have hfz13_0 := blk_frozen BK470.out 0
    have hfz13_1 := blk_frozen BK470.out 1
    go_wp2_with (first | ((with_reducible refine gate_callee (f := 56) rfl ?_);refine goesL_ (some 7) rfl rfl Try.func56 (by kernel_rfl) rfl #[.int .i64 a0_0,.int .i64 (-1000000000),.int .i64 1000000000] rfl (by (try simp only [List.map_toArray,List.map_cons,List.map_nil]);first | done | rfl) ?_;(with_reducible refine (R_beyond.calls a0_0 (-1000000000) 1000000000 false _ A6.out).mono ?_);rintro e w' ⟨rfl,⟨nd,rfl⟩⟩;refine ⟨_,rfl,?_⟩) | (go_at_call 56;(with_reducible refine (R_beyond.calls a0_1 (-1000000000) 1000000000 true _ A10.out).mono ?_);rintro e w' ⟨rfl,⟨nd,rfl⟩⟩))
    go_meet
    case rel => exact ⟨_,(true),(by first | rfl | (simp;done) | (simp [*];done)),H',⟨by first | omega | exact Nat.le_refl _⟩,⟨by (with_reducible repeat (first | refine kN_ ?_ _ | refine kD_ ?_ | refine kA_ ?_ _));exact BK470.out⟩,⟨by (with_reducible repeat (first | refine kN_ ?_ _ | refine kD_ ?_ | refine kA_ ?_ _));exact BK471.out⟩,⟨by repeat (first | (with_reducible first | exact HB.out | apply bA_ | apply bN_ | apply bD_ | refine bS_ ?_ GE470.out | refine bS_ ?_ GE471.out) | exact HB.out)⟩⟩
   ·replace c11 := Bool.eq_false_iff.mpr c11
    subst c11
    have H1 : ((R_beyond.f a1_0 (-1000000) 1000000).bind fun t474 => (if t474 = true then (R_checkAge.j0 k true a0_0 a0_1 a1_0 a1_1) else ((R_beyond.f a1_1 (-1000000) 1000000).bind fun t475 => (R_checkAge.j0 k t475 a0_0 a0_1 a1_0 a1_1)))) = some r := by rw [if_neg (show ¬ (false = true) by decide)] at H;exact H
    clear H
    have H := H1
    clear H1
    replace H := oB_ H
    obtain ⟨t474,A140,H⟩ := H
    replace H : (if t474 = true then (R_checkAge.j0 k true a0_0 a0_1 a1_0 a1_1) else ((R_beyond.f a1_1 (-1000000) 1000000).bind fun t475 => (R_checkAge.j0 k t475 a0_0 a0_1 a1_0 a1_1))) = some r := H
    have A14 := aM_ A140
    clear A140
    by_cases c15 : t474 = true
    ·subst c15
     have H1 : (R_checkAge.j0 k true a0_0 a0_1 a1_0 a1_1) = some r := by rw [if_pos rfl] at H;exact H
     clear H
     have H := H1
     clear H1
     have H' := aM_ H
     clear H
     have hnb16 := NB470_471.out
     have hnc16 := NB471_470.out
     have hcz17_0 : w5.cell? ⟨gb470,0,none⟩ = some (.int .i64 a0_0) := (blk_cell BK470.out 0).trans rfl
     have hcz17_1 : w5.cell? ⟨gb470,1,none⟩ = some (.int .i64 a0_1) := (blk_cell BK470.out 1).trans rfl
     have hfz17_0 := blk_frozen BK470.out 0
     have hfz17_1 := blk_frozen BK470.out 1
     go_wp2_with (first | ((with_reducible refine gate_callee (f := 56) rfl ?_);refine goesL_ (some 7) rfl rfl Try.func56 (by kernel_rfl) rfl #[.int .i64 a0_0,.int .i64 (-1000000000),.int .i64 1000000000] rfl (by (try simp only [List.map_toArray,List.map_cons,List.map_nil]);first | done | rfl) ?_;(with_reducible refine (R_beyond.calls a0_0 (-1000000000) 1000000000 false _ A6.out).mono ?_);rintro e w' ⟨rfl,⟨nd,rfl⟩⟩;refine ⟨_,rfl,?_⟩) | (go_at_call 56;(with_reducible refine (R_beyond.calls a0_1 (-1000000000) 1000000000 false _ A10.out).mono ?_);rintro e w' ⟨rfl,⟨nd,rfl⟩⟩;have hcz18_0 : w5.cell? ⟨gb471,0,none⟩ = some (.int .i64 a1_0) := (blk_cell BK471.out 0).trans rfl;have hcz18_1 : w5.cell? ⟨gb471,1,none⟩ = some (.int .i64 a1_1) := (blk_cell BK471.out 1).trans rfl;have hfz18_0 := blk_frozen BK471.out 0;have hfz18_1 := blk_frozen BK471.out 1) | (go_at_call 56;(with_reducible refine (R_beyond.calls a1_0 (-1000000) 1000000 true _ A14.out).mono ?_);rintro e w' ⟨rfl,⟨nd,rfl⟩⟩))
     go_meet
     case rel => exact ⟨_,(true),(by first | rfl | (simp;done) | (simp [*];done)),H',⟨by first | omega | exact Nat.le_refl _⟩,⟨by (with_reducible repeat (first | refine kN_ ?_ _ | refine kD_ ?_ | refine kA_ ?_ _));exact BK470.out⟩,⟨by (with_reducible repeat (first | refine kN_ ?_ _ | refine kD_ ?_ | refine kA_ ?_ _));exact BK471.out⟩,⟨by repeat (first | (with_reducible first | exact HB.out | apply bA_ | apply bN_ | apply bD_ | refine bS_ ?_ GE470.out | refine bS_ ?_ GE471.out) | exact HB.out)⟩⟩
    ·replace c15 := Bool.eq_false_iff.mpr c15
     subst c15
     have H1 : ((R_beyond.f a1_1 (-1000000) 1000000).bind fun t475 => (R_checkAge.j0 k t475 a0_0 a0_1 a1_0 a1_1)) = some r := by rw [if_neg (show ¬ (false = true) by decide)] at H;exact H
     clear H
     have H := H1
     clear H1
     replace H := oB_ H
     obtain ⟨t475,A190,H⟩ := H
     replace H : (R_checkAge.j0 k t475 a0_0 a0_1 a1_0 a1_1) = some r := H
     have A19 := aM_ A190
     clear A190
     have H' := aM_ H
     clear H
     have hnb20 := NB470_471.out
     have hnc20 := NB471_470.out
     have hcz21_0 : w5.cell? ⟨gb470,0,none⟩ = some (.int .i64 a0_0) := (blk_cell BK470.out 0).trans rfl
     have hcz21_1 : w5.cell? ⟨gb470,1,none⟩ = some (.int .i64 a0_1) := (blk_cell BK470.out 1).trans rfl
     have hfz21_0 := blk_frozen BK470.out 0
     have hfz21_1 := blk_frozen BK470.out 1
     go_wp2_with (first | ((with_reducible refine gate_callee (f := 56) rfl ?_);refine goesL_ (some 7) rfl rfl Try.func56 (by kernel_rfl) rfl #[.int .i64 a0_0,.int .i64 (-1000000000),.int .i64 1000000000] rfl (by (try simp only [List.map_toArray,List.map_cons,List.map_nil]);first | done | rfl) ?_;(with_reducible refine (R_beyond.calls a0_0 (-1000000000) 1000000000 false _ A6.out).mono ?_);rintro e w' ⟨rfl,⟨nd,rfl⟩⟩;refine ⟨_,rfl,?_⟩) | (go_at_call 56;(with_reducible refine (R_beyond.calls a0_1 (-1000000000) 1000000000 false _ A10.out).mono ?_);rintro e w' ⟨rfl,⟨nd,rfl⟩⟩;have hcz22_0 : w5.cell? ⟨gb471,0,none⟩ = some (.int .i64 a1_0) := (blk_cell BK471.out 0).trans rfl;have hcz22_1 : w5.cell? ⟨gb471,1,none⟩ = some (.int .i64 a1_1) := (blk_cell BK471.out 1).trans rfl;have hfz22_0 := blk_frozen BK471.out 0;have hfz22_1 := blk_frozen BK471.out 1) | (go_at_call 56;(with_reducible refine (R_beyond.calls a1_0 (-1000000) 1000000 false _ A14.out).mono ?_);rintro e w' ⟨rfl,⟨nd,rfl⟩⟩) | (go_at_call 56;(with_reducible refine (R_beyond.calls a1_1 (-1000000) 1000000 t475 _ A19.out).mono ?_);rintro e w' ⟨rfl,⟨nd,rfl⟩⟩))
     go_meet
     case rel => exact ⟨_,(t475),(by first | rfl | (simp;done) | (simp [*];done)),H',⟨by first | omega | exact Nat.le_refl _⟩,⟨by (with_reducible repeat (first | refine kN_ ?_ _ | refine kD_ ?_ | refine kA_ ?_ _));exact BK470.out⟩,⟨by (with_reducible repeat (first | refine kN_ ?_ _ | refine kD_ ?_ | refine kA_ ?_ _));exact BK471.out⟩,⟨by repeat (first | (with_reducible first | exact HB.out | apply bA_ | apply bN_ | apply bD_ | refine bS_ ?_ GE470.out | refine bS_ ?_ GE471.out) | exact HB.out)⟩⟩
 case rest =>
  clear HC3
  try clear c1
  try clear c2
  try clear p2
  try clear c5
  try clear c6
  try clear c7
  try clear c8
  try clear c11
  try clear c12
  try clear c15
  try clear c16
  try clear c20
  try clear hcz13_0
  try clear hcz13_1
  try clear hcz17_0
  try clear hcz17_1
  try clear hcz18_0
  try clear hcz18_1
  try clear hcz21_0
  try clear hcz21_1
  try clear hcz22_0
  try clear hcz22_1
  try clear hcz9_0
  try clear hcz9_1
  try clear hfz13_0
  try clear hfz13_1
  try clear hfz17_0
  try clear hfz17_1
  try clear hfz18_0
  try clear hfz18_1
  try clear hfz21_0
  try clear hfz21_1
  try clear hfz22_0
  try clear hfz22_1
  try clear hfz9_0
  try clear hfz9_1
  obtain ⟨kq,x22_2,rfl,HA,HJ2,BK470,BK471,HB⟩ := hcut
  cases kq with
  | zero => exact absurd HA.out (by simp [R_checkAge.j0])
  | succ kj2 =>
   have H := HA.out
   clear HA
   simp only [R_checkAge.j0] at H
   by_cases c23 : x22_2 = true
   ·subst c23
    have H1 : (some 2) = some r := by rw [if_pos rfl] at H;exact H
    clear H
    have H := H1
    clear H1
    obtain rfl := Option.some.inj H
    go_wp2
    go_ret
    exact ⟨by first | rfl | (simp [*] <;> rfl),by repeat (first | (with_reducible first | exact HB.out | apply bA_ | apply bN_ | apply bD_ | refine bS_ ?_ GE470.out | refine bS_ ?_ GE471.out) | exact HB.out)⟩
   ·replace c23 := Bool.eq_false_iff.mpr c23
    subst c23
    have H1 : (if a0_0 > a0_1 then (some 11) else (if a1_0 > a1_1 then (some 11) else (some 0))) = some r := by rw [if_neg (show ¬ (false = true) by decide)] at H;exact H
    clear H
    have H := H1
    clear H1
    by_cases c24 : a0_0 > a0_1
    ·rw [if_pos c24] at H
     have c24b0 : decide (a0_1 < a0_0) = true := decide_eq_true c24
     clear c24
     obtain rfl := Option.some.inj H
     have hnb25 := NB470_471.out
     have hnc25 := NB471_470.out
     have hcz26_0 : wc.cell? ⟨gb470,0,none⟩ = some (.int .i64 a0_0) := (blk_cell BK470.out 0).trans rfl
     have hcz26_1 : wc.cell? ⟨gb470,1,none⟩ = some (.int .i64 a0_1) := (blk_cell BK470.out 1).trans rfl
     have hfz26_0 := blk_frozen BK470.out 0
     have hfz26_1 := blk_frozen BK470.out 1
     go_wp2
     go_ret
     exact ⟨by first | rfl | (simp [*] <;> rfl),by repeat (first | (with_reducible first | exact HB.out | apply bA_ | apply bN_ | apply bD_ | refine bS_ ?_ GE470.out | refine bS_ ?_ GE471.out) | exact HB.out)⟩
    ·rw [if_neg c24] at H
     have c24b0 : decide (a0_1 < a0_0) = false := decide_eq_false c24
     clear c24
     by_cases c27 : a1_0 > a1_1
     ·rw [if_pos c27] at H
      have c27b0 : decide (a1_1 < a1_0) = true := decide_eq_true c27
      clear c27
      obtain rfl := Option.some.inj H
      have hnb28 := NB470_471.out
      have hnc28 := NB471_470.out
      have hcz29_0 : wc.cell? ⟨gb470,0,none⟩ = some (.int .i64 a0_0) := (blk_cell BK470.out 0).trans rfl
      have hcz29_1 : wc.cell? ⟨gb470,1,none⟩ = some (.int .i64 a0_1) := (blk_cell BK470.out 1).trans rfl
      have hfz29_0 := blk_frozen BK470.out 0
      have hfz29_1 := blk_frozen BK470.out 1
      have hcz30_0 : wc.cell? ⟨gb471,0,none⟩ = some (.int .i64 a1_0) := (blk_cell BK471.out 0).trans rfl
      have hcz30_1 : wc.cell? ⟨gb471,1,none⟩ = some (.int .i64 a1_1) := (blk_cell BK471.out 1).trans rfl
      have hfz30_0 := blk_frozen BK471.out 0
      have hfz30_1 := blk_frozen BK471.out 1
      go_wp2
      go_ret
      exact ⟨by first | rfl | (simp [*] <;> rfl),by repeat (first | (with_reducible first | exact HB.out | apply bA_ | apply bN_ | apply bD_ | refine bS_ ?_ GE470.out | refine bS_ ?_ GE471.out) | exact HB.out)⟩
     ·rw [if_neg c27] at H
      have c27b0 : decide (a1_1 < a1_0) = false := decide_eq_false c27
      clear c27
      obtain rfl := Option.some.inj H
      have hnb31 := NB470_471.out
      have hnc31 := NB471_470.out
      have hcz32_0 : wc.cell? ⟨gb470,0,none⟩ = some (.int .i64 a0_0) := (blk_cell BK470.out 0).trans rfl
      have hcz32_1 : wc.cell? ⟨gb470,1,none⟩ = some (.int .i64 a0_1) := (blk_cell BK470.out 1).trans rfl
      have hfz32_0 := blk_frozen BK470.out 0
      have hfz32_1 := blk_frozen BK470.out 1
      have hcz33_0 : wc.cell? ⟨gb471,0,none⟩ = some (.int .i64 a1_0) := (blk_cell BK471.out 0).trans rfl
      have hcz33_1 : wc.cell? ⟨gb471,1,none⟩ = some (.int .i64 a1_1) := (blk_cell BK471.out 1).trans rfl
      have hfz33_0 := blk_frozen BK471.out 0
      have hfz33_1 := blk_frozen BK471.out 1
      go_wp2
      go_ret
      exact ⟨by first | rfl | (simp [*] <;> rfl),by repeat (first | (with_reducible first | exact HB.out | apply bA_ | apply bN_ | apply bD_ | refine bS_ ?_ GE470.out | refine bS_ ?_ GE471.out) | exact HB.out)⟩

/-! ### R_aged: function 66 -/
def R_aged.f (a0_0 : Int) (a0_1 : Int) (a1_0 : Int) (a1_1 : Int) (a2 : Int) : Option (Int × Int) := (R_Down.f (wrap64 (a2 * a1_0)) 1000).bind fun t479 => ((R_Up.f (wrap64 (a2 * a1_1)) 1000).bind fun t480 => (some (wrap64 (a0_0 + t479),wrap64 (a0_1 + t480))))
def R_aged.T1 : Bool × List (List Nat × List Nat) := (true,[([],[]),([0],[0]),([],[]),([],[]),([3],[3]),([2,4],[2,4]),([5],[5]),([1,6],[1,6]),([],[]),([8],[8]),([],[]),([],[]),([11],[11]),([10,12],[10,12]),([13,6],[13]),([9,14],[9,14]),([7,15],[7,15]),([16,14,0,1,2,3,4,5,6,7,8,9,10,11,12,13,14,15,16],[16])])
def R_aged.B1 : List Nat := [0,1,0,0,8,28,60,127,0,256,0,0,2048,7168,15484,32636,65535,131071]
theorem R_aged.tab1 : rtab .any (opsOf Try.f66 1) = R_aged.T1 := by kernel_rfl
theorem R_aged.bits1 : waitsOk R_aged.T1.2 R_aged.B1 = true := by kernel_rfl
set_option maxHeartbeats 8000000 in
set_option maxRecDepth 100000 in
theorem R_aged.calls (a0_0 : Int) (a0_1 : Int) (a1_0 : Int) (a1_1 : Int) (a2 : Int) (r1 : Int) (r2 : Int) (w : World) (h : R_aged.f a0_0 a0_1 a1_0 a1_1 a2 = some (r1,r2)) :
  Calls Try.prog 66 #[.agg #[.int .i64 a0_0,.int .i64 a0_1],.agg #[.int .i64 a1_0,.int .i64 a1_1],.int .i64 a2] w fun e w' => e = .returned (.agg #[.int .i64 r1,.int .i64 r2]) ∧ Below w.heap.size w w' := by
 have hu34 := Try.underlying34
 have HB := aM_ (Below.refl w.heap.size w)
 have H : ((R_Down.f (wrap64 (a2 * a1_0)) 1000).bind fun t479 => ((R_Up.f (wrap64 (a2 * a1_1)) 1000).bind fun t480 => (some (wrap64 (a0_0 + t479),wrap64 (a0_1 + t480))))) = some (r1,r2) := h
 clear h
 replace H := oB_ H
 obtain ⟨t479,A40,H⟩ := H
 replace H : ((R_Up.f (wrap64 (a2 * a1_1)) 1000).bind fun t480 => (some (wrap64 (a0_0 + t479),wrap64 (a0_1 + t480)))) = some (r1,r2) := H
 have A4 := aM_ A40
 clear A40
 replace H := oB_ H
 obtain ⟨t480,A50,H⟩ := H
 replace H : (some (wrap64 (a0_0 + t479),wrap64 (a0_1 + t480))) = some (r1,r2) := H
 have A5 := aM_ A50
 clear A50
 simp only [Option.some.injEq,Prod.mk.injEq] at H
 obtain ⟨rfl,rfl⟩ := H
 go_enter Try.func66,Try.ntmps66
 try go_wp2_with (first | ((with_reducible refine gate_dst (N := 3) rfl ?_);refine box_event ?hg (N := 3) ?hd (cs := #[.int .i64 a0_0,.int .i64 a0_1]) (t := 34) ?hr ?_;(case hd => rfl);(case hg => rfl);(case hr => first | (go_simp;done) | (go_simp;rfl));intro gb476 hg w6 hbox hb;have n0_ := aM_ (bT_ (by repeat (first | (with_reducible first | exact HB.out | apply bA_ | apply bN_ | apply bD_) | exact HB.out)) hb);have n1_ := aM_ (hbox);have n2_ := aM_ ((by rw [hg];exact (below_size (by repeat (first | (with_reducible first | exact HB.out | apply bA_ | apply bN_ | apply bD_) | exact HB.out))) : w.heap.size ≤ gb476));have n3_ := aM_ ((by rw [hg];exact (below_size (by repeat (first | (with_reducible first | exact HB.out | apply bA_ | apply bN_ | apply bD_) | exact HB.out))) : w.heap.size ≤ gb476));clear HB;have HB := n0_;have BK476 := n1_;have GW476 := n2_;have GE476 := n3_;clear n0_ n1_ n2_ n3_;clear hb hbox hg) | ((with_reducible refine gate_dst (N := 4) rfl ?_);refine box_event ?hg (N := 4) ?hd (cs := #[.int .i64 a1_0,.int .i64 a1_1]) (t := 34) ?hr ?_;(case hd => rfl);(case hg => rfl);(case hr => first | (go_simp;done) | (go_simp;rfl));intro gb477 hg w7 hbox hb;have n0_ := aM_ (kB_ (g := gb476) (o := .cells #[.int .i64 a0_0,.int .i64 a0_1] 34 (0,0)) (by (with_reducible repeat (first | refine kN_ ?_ _ | refine kD_ ?_ | refine kA_ ?_ _));exact BK476.out) hb);have n1_ := aM_ (bT_ (by repeat (first | (with_reducible first | exact HB.out | apply bA_ | apply bN_ | apply bD_ | refine bS_ ?_ GE476.out) | exact HB.out)) hb);have n2_ := aM_ (hbox);have n3_ := aM_ ((by rw [hg];exact (below_size (by repeat (first | (with_reducible first | exact HB.out | apply bA_ | apply bN_ | apply bD_ | refine bS_ ?_ GE476.out) | exact HB.out))) : w.heap.size ≤ gb477));have n4_ := aM_ ((by rw [hg];exact (below_size (by repeat (first | (with_reducible first | exact HB.out | apply bA_ | apply bN_ | apply bD_ | refine bS_ ?_ GE476.out) | exact HB.out))) : w.heap.size ≤ gb477));have n5_ := aM_ ((by rw [hg];exact Nat.ne_of_lt (blk_lt (g := gb476) (o := .cells #[.int .i64 a0_0,.int .i64 a0_1] 34 (0,0)) (by (with_reducible repeat (first | refine kN_ ?_ _ | refine kD_ ?_ | refine kA_ ?_ _));exact BK476.out)) : gb476 ≠ gb477));have n6_ := aM_ ((by rw [hg];exact Nat.ne_of_gt (blk_lt (g := gb476) (o := .cells #[.int .i64 a0_0,.int .i64 a0_1] 34 (0,0)) (by (with_reducible repeat (first | refine kN_ ?_ _ | refine kD_ ?_ | refine kA_ ?_ _));exact BK476.out)) : gb477 ≠ gb476));clear BK476;clear HB;have BK476 := n0_;have HB := n1_;have BK477 := n2_;have GW477 := n3_;have GE477 := n4_;have NB476_477 := n5_;have NB477_476 := n6_;clear n0_ n1_ n2_ n3_ n4_ n5_ n6_;clear hb hbox hg) | ((with_reducible refine gate_dst (N := 6) rfl ?_);refine box_event ?hg (N := 6) ?hd (cs := #[.int .i64 0,.int .i64 0]) (t := 34) ?hr ?_;(case hd => rfl);(case hg => rfl);(case hr => first | (go_simp;done) | (go_simp;rfl));intro gb478 hg w8 hbox hb;have n0_ := aM_ (kB_ (g := gb476) (o := .cells #[.int .i64 a0_0,.int .i64 a0_1] 34 (0,0)) (by (with_reducible repeat (first | refine kN_ ?_ _ | refine kD_ ?_ | refine kA_ ?_ _));exact BK476.out) hb);have n1_ := aM_ (kB_ (g := gb477) (o := .cells #[.int .i64 a1_0,.int .i64 a1_1] 34 (0,0)) (by (with_reducible repeat (first | refine kN_ ?_ _ | refine kD_ ?_ | refine kA_ ?_ _));exact BK477.out) hb);have n2_ := aM_ (bT_ (by repeat (first | (with_reducible first | exact HB.out | apply bA_ | apply bN_ | apply bD_ | refine bS_ ?_ GE476.out | refine bS_ ?_ GE477.out) | exact HB.out)) hb);have n3_ := aM_ (hbox);have n4_ := aM_ ((by rw [hg];exact (below_size (by repeat (first | (with_reducible first | exact HB.out | apply bA_ | apply bN_ | apply bD_ | refine bS_ ?_ GE476.out | refine bS_ ?_ GE477.out) | exact HB.out))) : w.heap.size ≤ gb478));have n5_ := aM_ ((by rw [hg];exact (below_size (by repeat (first | (with_reducible first | exact HB.out | apply bA_ | apply bN_ | apply bD_ | refine bS_ ?_ GE476.out | refine bS_ ?_ GE477.out) | exact HB.out))) : w.heap.size ≤ gb478));have n6_ := aM_ ((by rw [hg];exact Nat.ne_of_lt (blk_lt (g := gb476) (o := .cells #[.int .i64 a0_0,.int .i64 a0_1] 34 (0,0)) (by (with_reducible repeat (first | refine kN_ ?_ _ | refine kD_ ?_ | refine kA_ ?_ _));exact BK476.out)) : gb476 ≠ gb478));have n7_ := aM_ ((by rw [hg];exact Nat.ne_of_gt (blk_lt (g := gb476) (o := .cells #[.int .i64 a0_0,.int .i64 a0_1] 34 (0,0)) (by (with_reducible repeat (first | refine kN_ ?_ _ | refine kD_ ?_ | refine kA_ ?_ _));exact BK476.out)) : gb478 ≠ gb476));have n8_ := aM_ ((by rw [hg];exact Nat.ne_of_lt (blk_lt (g := gb477) (o := .cells #[.int .i64 a1_0,.int .i64 a1_1] 34 (0,0)) (by (with_reducible repeat (first | refine kN_ ?_ _ | refine kD_ ?_ | refine kA_ ?_ _));exact BK477.out)) : gb477 ≠ gb478));have n9_ := aM_ ((by rw [hg];exact Nat.ne_of_gt (blk_lt (g := gb477) (o := .cells #[.int .i64 a1_0,.int .i64 a1_1] 34 (0,0)) (by (with_reducible repeat (first | refine kN_ ?_ _ | refine kD_ ?_ | refine kA_ ?_ _));exact BK477.out)) : gb478 ≠ gb477));clear BK476;clear BK477;clear HB;have BK476 := n0_;have BK477 := n1_;have HB := n2_;have BK478 := n3_;have GW478 := n4_;have GE478 := n5_;have NB476_478 := n6_;have NB478_476 := n7_;have NB477_478 := n8_;have NB478_477 := n9_;clear n0_ n1_ n2_ n3_ n4_ n5_ n6_ n7_ n8_ n9_;clear hb hbox hg))
 have n0_ := aM_ (kD_ BK476.out)
 have n1_ := aM_ (kD_ BK477.out)
 have n2_ := aM_ (kD_ BK478.out)
 have n3_ := aM_ (bD_ HB.out)
 clear BK476
 clear BK477
 clear BK478
 clear HB
 have BK476 := n0_
 have BK477 := n1_
 have BK478 := n2_
 have HB := n3_
 clear n0_ n1_ n2_ n3_
 refine start_ (n := 18) (S := fun w' => w'.cell? ⟨gb476,0,none⟩ = some (.int .i64 a0_0) ∧ w'.cell? ⟨gb476,1,none⟩ = some (.int .i64 a0_1) ∧ w'.cell? ⟨gb477,0,none⟩ = some (.int .i64 a1_0) ∧ w'.cell? ⟨gb477,1,none⟩ = some (.int .i64 a1_1)) (ds := []) #[false,false,false,false,false,false,false,false,false,false,false,false,false,false,false,false,false,false] (by kernel_rfl) rfl rfl ⟨(blk_cell BK476.out 0).trans rfl,(blk_cell BK476.out 1).trans rfl,(blk_cell BK477.out 0).trans rfl,(blk_cell BK477.out 1).trans rfl⟩ (fun hHeld => ?_);refine with_tabW R_aged.tab1 R_aged.bits1 (fun HT_ HW_ => ?_)
 generalize w8.drew = w9 at BK476 BK477 BK478 HB hHeld ⊢
 refine pure_ (i := 0) (N := some 7) (v := ?_) (a' := ?_) #[true,false,false,false,false,false,false,false,false,false,false,false,false,false,false,false,false,false] rfl rfl (any_of HT_.out (by kernel_rfl)) (fun _ _ _ h => h) (Or.inl ⟨by rfl,?_⟩) ?_ ?_
 rotate_left
 ·intro w'
  go_simp
  with_reducible rfl
 rotate_left
 ·simp only [Act.put,sB_,sZ_,sS_,i64_w,i32_w]
  rfl
 refine pure_ (i := 2) (N := some 9) (v := ?_) (a' := ?_) #[true,false,true,false,false,false,false,false,false,false,false,false,false,false,false,false,false,false] rfl rfl (any_of HT_.out (by kernel_rfl)) (fun _ _ _ h => h) (Or.inl ⟨by rfl,?_⟩) ?_ ?_
 rotate_left
 ·intro w'
  go_simp
  with_reducible rfl
 rotate_left
 ·simp only [Act.put,sB_,sZ_,sS_,i64_w,i32_w]
  rfl
 refine pure_ (i := 3) (N := some 10) (v := ?_) (a' := ?_) #[true,false,true,true,false,false,false,false,false,false,false,false,false,false,false,false,false,false] rfl rfl (any_of HT_.out (by kernel_rfl)) (fun _ _ _ h => h) (Or.inl ⟨by rfl,?_⟩) ?_ ?_
 rotate_left
 ·intro w'
  go_simp
  with_reducible rfl
 rotate_left
 ·simp only [Act.put,sB_,sZ_,sS_,i64_w,i32_w]
  rfl
 refine pure_ (i := 8) (N := some 15) (v := ?_) (a' := ?_) #[true,false,true,true,false,false,false,false,true,false,false,false,false,false,false,false,false,false] rfl rfl (any_of HT_.out (by kernel_rfl)) (fun _ _ _ h => h) (Or.inl ⟨by rfl,?_⟩) ?_ ?_
 rotate_left
 ·intro w'
  go_simp
  with_reducible rfl
 rotate_left
 ·simp only [Act.put,sB_,sZ_,sS_,i64_w,i32_w]
  rfl
 refine pure_ (i := 10) (N := some 17) (v := ?_) (a' := ?_) #[true,false,true,true,false,false,false,false,true,false,true,false,false,false,false,false,false,false] rfl rfl (any_of HT_.out (by kernel_rfl)) (fun _ _ _ h => h) (Or.inl ⟨by rfl,?_⟩) ?_ ?_
 rotate_left
 ·intro w'
  go_simp
  with_reducible rfl
 rotate_left
 ·simp only [Act.put,sB_,sZ_,sS_,i64_w,i32_w]
  rfl
 refine pure_ (i := 11) (N := some 18) (v := ?_) (a' := ?_) #[true,false,true,true,false,false,false,false,true,false,true,true,false,false,false,false,false,false] rfl rfl (any_of HT_.out (by kernel_rfl)) (fun _ _ _ h => h) (Or.inl ⟨by rfl,?_⟩) ?_ ?_
 rotate_left
 ·intro w'
  go_simp
  with_reducible rfl
 rotate_left
 ·simp only [Act.put,sB_,sZ_,sS_,i64_w,i32_w]
  rfl
 refine take_ (i := 1) (N := some 8) (v := ?_) (a' := ?_) #[true,true,true,true,false,false,false,false,true,false,true,true,false,false,false,false,false,false] rfl rfl (take_ofW HT_.out HW_.out (by kernel_rfl)) (fun _ _ _ h => h) (Or.inl ⟨by rfl,?_⟩) hHeld ?_ ?_
 rotate_left
 ·rintro w' ⟨s0,s1,s2,s3⟩
  go_simp
  with_reducible rfl
 rotate_left
 ·simp only [Act.put,sB_,sZ_,sS_,i64_w,i32_w]
  rfl
 refine take_ (i := 4) (N := some 11) (v := ?_) (a' := ?_) #[true,true,true,true,true,false,false,false,true,false,true,true,false,false,false,false,false,false] rfl rfl (take_ofW HT_.out HW_.out (by kernel_rfl)) (fun _ _ _ h => h) (Or.inl ⟨by rfl,?_⟩) hHeld ?_ ?_
 rotate_left
 ·rintro w' ⟨s0,s1,s2,s3⟩
  go_simp
  with_reducible rfl
 rotate_left
 ·simp only [Act.put,sB_,sZ_,sS_,i64_w,i32_w]
  rfl
 refine pure_ (i := 5) (N := some 12) (v := ?_) (a' := ?_) #[true,true,true,true,true,true,false,false,true,false,true,true,false,false,false,false,false,false] rfl rfl (any_of HT_.out (by kernel_rfl)) (fun _ _ _ h => h) (Or.inl ⟨by rfl,?_⟩) ?_ ?_
 rotate_left
 ·intro w'
  go_simp
  with_reducible rfl
 rotate_left
 ·simp only [Act.put,sB_,sZ_,sS_,i64_w,i32_w]
  rfl
 refine take_ (i := 9) (N := some 16) (v := ?_) (a' := ?_) #[true,true,true,true,true,true,false,false,true,true,true,true,false,false,false,false,false,false] rfl rfl (take_ofW HT_.out HW_.out (by kernel_rfl)) (fun _ _ _ h => h) (Or.inl ⟨by rfl,?_⟩) hHeld ?_ ?_
 rotate_left
 ·rintro w' ⟨s0,s1,s2,s3⟩
  go_simp
  with_reducible rfl
 rotate_left
 ·simp only [Act.put,sB_,sZ_,sS_,i64_w,i32_w]
  rfl
 refine take_ (i := 12) (N := some 19) (v := ?_) (a' := ?_) #[true,true,true,true,true,true,false,false,true,true,true,true,true,false,false,false,false,false] rfl rfl (take_ofW HT_.out HW_.out (by kernel_rfl)) (fun _ _ _ h => h) (Or.inl ⟨by rfl,?_⟩) hHeld ?_ ?_
 rotate_left
 ·rintro w' ⟨s0,s1,s2,s3⟩
  go_simp
  with_reducible rfl
 rotate_left
 ·simp only [Act.put,sB_,sZ_,sS_,i64_w,i32_w]
  rfl
 refine pure_ (i := 13) (N := some 20) (v := ?_) (a' := ?_) #[true,true,true,true,true,true,false,false,true,true,true,true,true,true,false,false,false,false] rfl rfl (any_of HT_.out (by kernel_rfl)) (fun _ _ _ h => h) (Or.inl ⟨by rfl,?_⟩) ?_ ?_
 rotate_left
 ·intro w'
  go_simp
  with_reducible rfl
 rotate_left
 ·simp only [Act.put,sB_,sZ_,sS_,i64_w,i32_w]
  rfl
 refine one_ (i := 6) (N := some 13) #[true,true,true,true,true,true,true,false,true,true,true,true,true,true,false,false,false,false] rfl rfl (one_of HT_.out (by kernel_rfl)) (by decide) (fun K hK => ?_)
 refine goes_ Try.func53 (by kernel_rfl) rfl #[.int .i64 (wrap64 (a2 * a1_0)),.int .i64 1000] (by rfl) rfl rfl (by (try simp only [List.map_toArray,List.map_cons,List.map_nil]);first | done | rfl) ?_
 with_reducible refine (R_Down.calls (wrap64 (a2 * a1_0)) 1000 t479 _ A4.out).mono ?_
 rintro e w' ⟨rfl,⟨nd,rfl⟩⟩
 refine ⟨_,rfl,?_⟩
 refine hK.out _ _ ⟨(blk_cell BK476.out 0).trans rfl,(blk_cell BK476.out 1).trans rfl,(blk_cell BK477.out 0).trans rfl,(blk_cell BK477.out 1).trans rfl⟩ (fun hHeld => ?_)
 clear hK K
 refine norm_ (a' := ?_) ?_ ?_
 rotate_left
 ·show Act.put _ (some 13) _ = _
  simp only [Act.put,sB_,sZ_,sS_,i64_w,i32_w]
  rfl
 refine pure_ (i := 7) (N := some 14) (v := ?_) (a' := ?_) #[true,true,true,true,true,true,true,true,true,true,true,true,true,true,false,false,false,false] rfl rfl (any_of HT_.out (by kernel_rfl)) (fun _ _ _ h => h) (Or.inl ⟨by rfl,?_⟩) ?_ ?_
 rotate_left
 ·intro w'
  go_simp
  with_reducible rfl
 rotate_left
 ·simp only [Act.put,sB_,sZ_,sS_,i64_w,i32_w]
  rfl
 refine one_ (i := 14) (N := some 21) #[true,true,true,true,true,true,true,true,true,true,true,true,true,true,true,false,false,false] rfl rfl (one_of HT_.out (by kernel_rfl)) (by decide) (fun K hK => ?_)
 refine goes_ Try.func82 (by kernel_rfl) rfl #[.int .i64 (wrap64 (a2 * a1_1)),.int .i64 1000] (by rfl) rfl rfl (by (try simp only [List.map_toArray,List.map_cons,List.map_nil]);first | done | rfl) ?_
 with_reducible refine (R_Up.calls (wrap64 (a2 * a1_1)) 1000 t480 _ A5.out).mono ?_
 rintro e w' ⟨rfl,⟨nd,rfl⟩⟩
 refine ⟨_,rfl,?_⟩
 refine hK.out _ _ ⟨(blk_cell BK476.out 0).trans rfl,(blk_cell BK476.out 1).trans rfl,(blk_cell BK477.out 0).trans rfl,(blk_cell BK477.out 1).trans rfl⟩ (fun hHeld => ?_)
 clear hK K
 refine norm_ (a' := ?_) ?_ ?_
 rotate_left
 ·show Act.put _ (some 21) _ = _
  simp only [Act.put,sB_,sZ_,sS_,i64_w,i32_w]
  rfl
 refine pure_ (i := 15) (N := some 22) (v := ?_) (a' := ?_) #[true,true,true,true,true,true,true,true,true,true,true,true,true,true,true,true,false,false] rfl rfl (any_of HT_.out (by kernel_rfl)) (fun _ _ _ h => h) (Or.inl ⟨by rfl,?_⟩) ?_ ?_
 rotate_left
 ·intro w'
  go_simp
  with_reducible rfl
 rotate_left
 ·simp only [Act.put,sB_,sZ_,sS_,i64_w,i32_w]
  rfl
 refine pure_ (i := 16) (N := some 23) (v := ?_) (a' := ?_) #[true,true,true,true,true,true,true,true,true,true,true,true,true,true,true,true,true,false] rfl rfl (any_of HT_.out (by kernel_rfl)) (fun _ _ _ h => h) (Or.inl ⟨by rfl,?_⟩) ?_ ?_
 rotate_left
 ·intro w'
  go_simp
  with_reducible rfl
 rotate_left
 ·simp only [Act.put,sB_,sZ_,sS_,i64_w,i32_w]
  rfl
 refine one_ (i := 17) (N := none) #[true,true,true,true,true,true,true,true,true,true,true,true,true,true,true,true,true,true] rfl rfl (one_of HT_.out (by kernel_rfl)) (by decide) (fun K hK => ?_)
 have hs10 : w9.cell? ⟨gb478,0,none⟩ = some (.int .i64 0) := (blk_cell BK478.out 0).trans rfl
 have hfs10 := blk_frozen BK478.out 0
 have hns10_0 := NB476_478.out
 have hns10_1 := NB477_478.out
 have hms10_0 := NB478_476.out
 have hms10_1 := NB478_477.out
 have hs11 : w9.cell? ⟨gb478,1,none⟩ = some (.int .i64 0) := (blk_cell BK478.out 1).trans rfl
 have hfs11 := blk_frozen BK478.out 1
 have hns11_0 := NB476_478.out
 have hns11_1 := NB477_478.out
 have hms11_0 := NB478_476.out
 have hms11_1 := NB478_477.out
 refine skip_ (w1 := ?_) (by rfl) rfl ?_ ?_
 rotate_left
 ·go_simp
  rfl
 refine hK.out _ _ ⟨((cell_far (p := ⟨gb478,_,none⟩) NB476_478.out _).trans (((cell_far (p := ⟨gb478,_,none⟩) NB476_478.out _).trans (hHeld.1)))),((cell_far (p := ⟨gb478,_,none⟩) NB476_478.out _).trans (((cell_far (p := ⟨gb478,_,none⟩) NB476_478.out _).trans (hHeld.2.1)))),((cell_far (p := ⟨gb478,_,none⟩) NB477_478.out _).trans (((cell_far (p := ⟨gb478,_,none⟩) NB477_478.out _).trans (hHeld.2.2.1)))),((cell_far (p := ⟨gb478,_,none⟩) NB477_478.out _).trans (((cell_far (p := ⟨gb478,_,none⟩) NB477_478.out _).trans (hHeld.2.2.2))))⟩ (fun hHeld => ?_)
 clear hK K
 refine done_ (done_of HT_.out (by kernel_rfl)) ?_
 try go_wp2
 refine bodyPost_ret (results_cell_row rfl _ _ gb478 34 #[.int .i64 (wrap64 (a0_0 + t479)),.int .i64 (wrap64 (a0_1 + t480))] (0,0) _ rfl (by (with_reducible repeat (first | refine kN_ ?_ _ | refine kD_ ?_ | refine kA_ ?_ _));refine blk_put (cs := #[.int .i64 (wrap64 (a0_0 + t479)),.int .i64 0]) ?_ 1 _ rfl;(with_reducible repeat (first | refine kN_ ?_ _ | refine kD_ ?_ | refine kA_ ?_ _));refine blk_put (cs := #[.int .i64 0,.int .i64 0]) ?_ 0 _ rfl;(with_reducible repeat (first | refine kN_ ?_ _ | refine kD_ ?_ | refine kA_ ?_ _));exact BK478.out) Try.underlying34 rfl (by kernel_rfl)) rfl ?_
 exact ⟨by first | rfl | (simp [*] <;> rfl),by repeat (first | (with_reducible first | exact HB.out | apply bA_ | apply bN_ | apply bD_ | refine bS_ ?_ GE476.out | refine bS_ ?_ GE477.out | refine bS_ ?_ GE478.out) | exact HB.out)⟩

end Go.Proofs.Ytdbpobadeibjaaa.GE
