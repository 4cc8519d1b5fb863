-- written for this claim by a program of this session (wip/gp), over the kit's own printer; Lean checks it
import Derived.Test.YtdbpobadeibjaaaGEx0
import Derived.Test.YtdbpobadeibjaaaGEx5
namespace Go.Proofs.Ytdbpobadeibjaaa.GE
open Go.RowKit Go.Proofs.YtdbpobadeibjaaaW.PrintWords Go.Proofs.YtdbpobadeibjaaaW.PrintLast Go.Proofs.YtdbpobadeibjaaaW.PrintMore
attribute [local go_sem] max2_int min2_int max_two min_two max_three min_three max_four min_four
set_option linter.unusedVariables false
set_option linter.unusedSimpArgs false

/-! ### gauge_Verdict: function 49 -/
mutual
def gauge_Verdict.j0 : Nat → Bool → Int → Int → Int → Int → Option (Int)
 | 0,_,_,_,_,_ => none
 | k + 1,x5,x122000,x122001,x123000,x123001 => if x5 = true then (some 0) else (if x122000 ≥ x123000 then (gauge_Verdict.j1 k (decide (x122001 ≤ x123001)) x122000 x122001 x123000 x123001) else (gauge_Verdict.j1 k false x122000 x122001 x123000 x123001))
def gauge_Verdict.j1 : Nat → Bool → Int → Int → Int → Int → Option (Int)
 | 0,_,_,_,_,_ => none
 | k + 1,x18,x122000,x122001,x123000,x123001 => if x18 = true then (some 1) else (if x122001 < x123000 then (some 2) else (if x122000 > x123001 then (some 2) else (some 3)))
end
def gauge_Verdict.f (k : Nat) (a0_0 : Int) (a0_1 : Int) (a1_0 : Int) (a1_1 : Int) : Option (Int) := if a0_0 > a0_1 then (gauge_Verdict.j0 k true a0_0 a0_1 a1_0 a1_1) else (gauge_Verdict.j0 k (decide (a1_0 > a1_1)) a0_0 a0_1 a1_0 a1_1)
theorem gauge_Verdict.mono_l : ∀ k,(∀ y0 y1 y2 y3 y4,LeO (gauge_Verdict.j0 k y0 y1 y2 y3 y4) (gauge_Verdict.j0 (k + 1) y0 y1 y2 y3 y4)) ∧ (∀ y0 y1 y2 y3 y4,LeO (gauge_Verdict.j1 k y0 y1 y2 y3 y4) (gauge_Verdict.j1 (k + 1) y0 y1 y2 y3 y4))
 | 0 => ⟨fun _ _ _ _ _ r h => by simp [gauge_Verdict.j0] at h,fun _ _ _ _ _ r h => by simp [gauge_Verdict.j1] at h⟩
 | k + 1 => by
  obtain ⟨ih0,ih1⟩ := gauge_Verdict.mono_l k
  refine ⟨?_,?_⟩
  ·intro y0 y1 y2 y3 y4
   unfold gauge_Verdict.j0
   repeat' first
   | (with_reducible exact ih0 _ _ _ _ _)
   | (with_reducible exact ih1 _ _ _ _ _)
   | (with_reducible exact LeO.refl _)
   | (with_reducible exact LeO.none _)
   | (with_reducible refine LeO.ite ?_ ?_)
   | (with_reducible refine LeO.bind ?_ (fun _ => ?_))
   | exact ih0 _ _ _ _ _
   | exact ih1 _ _ _ _ _
   | exact LeO.none _
   | refine LeO.ite ?_ ?_
   | refine LeO.bind ?_ (fun _ => ?_)
  ·intro y0 y1 y2 y3 y4
   unfold gauge_Verdict.j1
   repeat' first
   | (with_reducible exact ih0 _ _ _ _ _)
   | (with_reducible exact ih1 _ _ _ _ _)
   | (with_reducible exact LeO.refl _)
   | (with_reducible exact LeO.none _)
   | (with_reducible refine LeO.ite ?_ ?_)
   | (with_reducible refine LeO.bind ?_ (fun _ => ?_))
   | exact ih0 _ _ _ _ _
   | exact ih1 _ _ _ _ _
   | exact LeO.none _
   | refine LeO.ite ?_ ?_
   | refine LeO.bind ?_ (fun _ => ?_)
theorem gauge_Verdict.mono : ∀ a0 a1 a2 a3 k,LeO (gauge_Verdict.f k a0 a1 a2 a3) (gauge_Verdict.f (k + 1) a0 a1 a2 a3) := by
 intro a0 a1 a2 a3 k
 obtain ⟨ih0,ih1⟩ := gauge_Verdict.mono_l k
 unfold gauge_Verdict.f
 repeat' first
   | (with_reducible exact ih0 _ _ _ _ _)
   | (with_reducible exact ih1 _ _ _ _ _)
   | (with_reducible exact LeO.refl _)
   | (with_reducible exact LeO.none _)
   | (with_reducible refine LeO.ite ?_ ?_)
   | (with_reducible refine LeO.bind ?_ (fun _ => ?_))
   | exact ih0 _ _ _ _ _
   | exact ih1 _ _ _ _ _
   | exact LeO.none _
   | refine LeO.ite ?_ ?_
   | refine LeO.bind ?_ (fun _ => ?_)
set_option maxHeartbeats 8000000 in
set_option maxRecDepth 100000 in
theorem gauge_Verdict.calls (k : Nat) (a0_0 : Int) (a0_1 : Int) (a1_0 : Int) (a1_1 : Int) (r : Int) (w : World) (h : gauge_Verdict.f k a0_0 a0_1 a1_0 a1_1 = some r) :
  Calls Try.prog 49 #[.agg #[.int .i64 a0_0,.int .i64 a0_1],.agg #[.int .i64 a1_0,.int .i64 a1_1]] w fun e w' => e = .returned (.int .i64 r) ∧ Below w.heap.size w w' := by
 have hu34 := Try.underlying34
 have HB := aM_ (Below.refl w.heap.size w)
 have H : (if a0_0 > a0_1 then (gauge_Verdict.j0 k true a0_0 a0_1 a1_0 a1_1) else (gauge_Verdict.j0 k (decide (a1_0 > a1_1)) a0_0 a0_1 a1_0 a1_1)) = some r := h
 clear h
 have HC3 := aM_ H
 clear H
 go_enter Try.func49,Try.ntmps49
 go_upto_region 1 with (first | ((with_reducible refine gate_dst (N := 2) rfl ?_);refine box_event ?hg (N := 2) ?hd (cs := #[.int .i64 a0_0,.int .i64 a0_1]) (t := 34) ?hr ?_;(case hd => rfl);(case hg => rfl);(case hr => first | (go_simp;done) | (go_simp;rfl));intro gb121 hg w4 hbox hb;have n0_ := aM_ (bT_ (by repeat (first | (with_reducible first | exact HB.out | apply bA_ | apply bN_ | apply bD_) | exact HB.out)) hb);have n1_ := aM_ (hbox);have n2_ := aM_ ((by rw [hg];exact (below_size (by repeat (first | (with_reducible first | exact HB.out | apply bA_ | apply bN_ | apply bD_) | exact HB.out))) : w.heap.size ≤ gb121));have n3_ := aM_ ((by rw [hg];exact (below_size (by repeat (first | (with_reducible first | exact HB.out | apply bA_ | apply bN_ | apply bD_) | exact HB.out))) : w.heap.size ≤ gb121));clear HB;have HB := n0_;have BK121 := n1_;have GW121 := n2_;have GE121 := n3_;clear n0_ n1_ n2_ n3_;clear hb hbox hg) | ((with_reducible refine gate_dst (N := 3) rfl ?_);refine box_event ?hg (N := 3) ?hd (cs := #[.int .i64 a1_0,.int .i64 a1_1]) (t := 34) ?hr ?_;(case hd => rfl);(case hg => rfl);(case hr => first | (go_simp;done) | (go_simp;rfl));intro gb122 hg w5 hbox hb;have n0_ := aM_ (kB_ (g := gb121) (o := .cells #[.int .i64 a0_0,.int .i64 a0_1] 34 (0,0)) (by (with_reducible repeat (first | refine kN_ ?_ _ | refine kD_ ?_ | refine kA_ ?_ _));exact BK121.out) hb);have n1_ := aM_ (bT_ (by repeat (first | (with_reducible first | exact HB.out | apply bA_ | apply bN_ | apply bD_ | refine bS_ ?_ GE121.out) | exact HB.out)) hb);have n2_ := aM_ (hbox);have n3_ := aM_ ((by rw [hg];exact (below_size (by repeat (first | (with_reducible first | exact HB.out | apply bA_ | apply bN_ | apply bD_ | refine bS_ ?_ GE121.out) | exact HB.out))) : w.heap.size ≤ gb122));have n4_ := aM_ ((by rw [hg];exact (below_size (by repeat (first | (with_reducible first | exact HB.out | apply bA_ | apply bN_ | apply bD_ | refine bS_ ?_ GE121.out) | exact HB.out))) : w.heap.size ≤ gb122));have n5_ := aM_ ((by rw [hg];exact Nat.ne_of_lt (blk_lt (g := gb121) (o := .cells #[.int .i64 a0_0,.int .i64 a0_1] 34 (0,0)) (by (with_reducible repeat (first | refine kN_ ?_ _ | refine kD_ ?_ | refine kA_ ?_ _));exact BK121.out)) : gb121 ≠ gb122));have n6_ := aM_ ((by rw [hg];exact Nat.ne_of_gt (blk_lt (g := gb121) (o := .cells #[.int .i64 a0_0,.int .i64 a0_1] 34 (0,0)) (by (with_reducible repeat (first | refine kN_ ?_ _ | refine kD_ ?_ | refine kA_ ?_ _));exact BK121.out)) : gb122 ≠ gb121));clear BK121;clear HB;have BK121 := n0_;have HB := n1_;have BK122 := n2_;have GW122 := n3_;have GE122 := n4_;have NB121_122 := n5_;have NB122_121 := n6_;clear n0_ n1_ n2_ n3_ n4_ n5_ n6_;clear hb hbox hg))
 (try simp only [Act.put,sB_,sZ_,sS_])
 go_cut [5] (fun v5 wc => ∃ (kq : Nat) (x5_2 : Bool),v5 = .bool x5_2 ∧ Aside0 (gauge_Verdict.j0 kq x5_2 a0_0 a0_1 a1_0 a1_1 = some r) ∧ Aside0 (kq ≤ k) ∧ Aside0 (wc.heap[gb121]? = some (.cells #[.int .i64 a0_0,.int .i64 a0_1] 34 (0,0))) ∧ Aside0 (wc.heap[gb122]? = some (.cells #[.int .i64 a1_0,.int .i64 a1_1] 34 (0,0))) ∧ Aside0 (Below w.heap.size w wc))
 case first =>
  have H := HC3.out
  clear HC3
  by_cases c6 : a0_0 > a0_1
  ·rw [if_pos c6] at H
   have c6b0 : decide (a0_1 < a0_0) = true := decide_eq_true c6
   clear c6
   (first | rw [c6b0] | (simp only [i64_w,i32_w];rw [c6b0]) | skip)
   have H' := aM_ H
   clear H
   have hnb7 := NB121_122.out
   have hnc7 := NB122_121.out
   have hcz8_0 : w5.cell? ⟨gb121,0,none⟩ = some (.int .i64 a0_0) := (blk_cell BK121.out 0).trans rfl
   have hcz8_1 : w5.cell? ⟨gb121,1,none⟩ = some (.int .i64 a0_1) := (blk_cell BK121.out 1).trans rfl
   have hfz8_0 := blk_frozen BK121.out 0
   have hfz8_1 := blk_frozen BK121.out 1
   go_wp2
   go_meet
   case rel => exact ⟨_,(true),(by first | rfl | (simp;done) | (simp [*];done)),H',⟨by first | omega | exact Nat.le_refl _⟩,⟨by (with_reducible repeat (first | refine kN_ ?_ _ | refine kD_ ?_ | refine kA_ ?_ _));exact BK121.out⟩,⟨by (with_reducible repeat (first | refine kN_ ?_ _ | refine kD_ ?_ | refine kA_ ?_ _));exact BK122.out⟩,⟨by repeat (first | (with_reducible first | exact HB.out | apply bA_ | apply bN_ | apply bD_ | refine bS_ ?_ GE121.out | refine bS_ ?_ GE122.out) | exact HB.out)⟩⟩
  ·rw [if_neg c6] at H
   have c6b0 : decide (a0_1 < a0_0) = false := decide_eq_false c6
   clear c6
   (first | rw [c6b0] | (simp only [i64_w,i32_w];rw [c6b0]) | skip)
   have H' := aM_ H
   clear H
   have hnb9 := NB121_122.out
   have hnc9 := NB122_121.out
   have hcz10_0 : w5.cell? ⟨gb121,0,none⟩ = some (.int .i64 a0_0) := (blk_cell BK121.out 0).trans rfl
   have hcz10_1 : w5.cell? ⟨gb121,1,none⟩ = some (.int .i64 a0_1) := (blk_cell BK121.out 1).trans rfl
   have hfz10_0 := blk_frozen BK121.out 0
   have hfz10_1 := blk_frozen BK121.out 1
   have hcz11_0 : w5.cell? ⟨gb122,0,none⟩ = some (.int .i64 a1_0) := (blk_cell BK122.out 0).trans rfl
   have hcz11_1 : w5.cell? ⟨gb122,1,none⟩ = some (.int .i64 a1_1) := (blk_cell BK122.out 1).trans rfl
   have hfz11_0 := blk_frozen BK122.out 0
   have hfz11_1 := blk_frozen BK122.out 1
   go_wp2
   go_meet
   case rel => exact ⟨_,(decide (a1_0 > a1_1)),(by first | rfl | (simp;done) | (simp [*];done)),H',⟨by first | omega | exact Nat.le_refl _⟩,⟨by (with_reducible repeat (first | refine kN_ ?_ _ | refine kD_ ?_ | refine kA_ ?_ _));exact BK121.out⟩,⟨by (with_reducible repeat (first | refine kN_ ?_ _ | refine kD_ ?_ | refine kA_ ?_ _));exact BK122.out⟩,⟨by repeat (first | (with_reducible first | exact HB.out | apply bA_ | apply bN_ | apply bD_ | refine bS_ ?_ GE121.out | refine bS_ ?_ GE122.out) | exact HB.out)⟩⟩
 case rest =>
  clear HC3
  try clear p2
  try clear c4
  try clear c6
  try clear c6b0
  try clear c7
  try clear c9
  try clear hcz10_0
  try clear hcz10_1
  try clear hcz11_0
  try clear hcz11_1
  try clear hcz8_0
  try clear hcz8_1
  try clear hfz10_0
  try clear hfz10_1
  try clear hfz11_0
  try clear hfz11_1
  try clear hfz8_0
  try clear hfz8_1
  obtain ⟨kq,x5_2,rfl,HA,HJ2,BK121,BK122,HB⟩ := hcut
  cases kq with
  | zero => exact absurd HA.out (by simp [gauge_Verdict.j0])
  | succ kj2 =>
   have H := HA.out
   clear HA
   simp only [gauge_Verdict.j0] at H
   by_cases c12 : x5_2 = true
   ·subst c12
    have H1 : (some 0) = some r := by rw [if_pos rfl] at H;exact H
    clear H
    have H := H1
    clear H1
    obtain rfl := Option.some.inj H
    go_wp2
    go_ret
    exact ⟨by first | rfl | (simp [*] <;> rfl),by repeat (first | (with_reducible first | exact HB.out | apply bA_ | apply bN_ | apply bD_ | refine bS_ ?_ GE121.out | refine bS_ ?_ GE122.out) | exact HB.out)⟩
   ·replace c12 := Bool.eq_false_iff.mpr c12
    subst c12
    have H1 : (if a0_0 ≥ a1_0 then (gauge_Verdict.j1 kj2 (decide (a0_1 ≤ a1_1)) a0_0 a0_1 a1_0 a1_1) else (gauge_Verdict.j1 kj2 false a0_0 a0_1 a1_0 a1_1)) = some r := by rw [if_neg (show ¬ (false = true) by decide)] at H;exact H
    clear H
    have H := H1
    clear H1
    have HC13 := aM_ H
    clear H
    go_upto_region 3 with (fail)
    go_cut [18] (fun v18 wc => ∃ (kq : Nat) (x18_12 : Bool),v18 = .bool x18_12 ∧ Aside0 (gauge_Verdict.j1 kq x18_12 a0_0 a0_1 a1_0 a1_1 = some r) ∧ Aside0 (kq ≤ kj2) ∧ Aside0 (wc.heap[gb121]? = some (.cells #[.int .i64 a0_0,.int .i64 a0_1] 34 (0,0))) ∧ Aside0 (wc.heap[gb122]? = some (.cells #[.int .i64 a1_0,.int .i64 a1_1] 34 (0,0))) ∧ Aside0 (Below w.heap.size w wc))
    case first =>
     have H := HC13.out
     clear HC13
     by_cases c14 : a0_0 ≥ a1_0
     ·rw [if_pos c14] at H
      have c14b0 : decide (a1_0 ≤ a0_0) = true := decide_eq_true c14
      clear c14
      (first | rw [c14b0] | (simp only [i64_w,i32_w];rw [c14b0]) | skip)
      have H' := aM_ H
      clear H
      have hnb15 := NB121_122.out
      have hnc15 := NB122_121.out
      have hcz16_0 : wc.cell? ⟨gb121,0,none⟩ = some (.int .i64 a0_0) := (blk_cell BK121.out 0).trans rfl
      have hcz16_1 : wc.cell? ⟨gb121,1,none⟩ = some (.int .i64 a0_1) := (blk_cell BK121.out 1).trans rfl
      have hfz16_0 := blk_frozen BK121.out 0
      have hfz16_1 := blk_frozen BK121.out 1
      have hcz17_0 : wc.cell? ⟨gb122,0,none⟩ = some (.int .i64 a1_0) := (blk_cell BK122.out 0).trans rfl
      have hcz17_1 : wc.cell? ⟨gb122,1,none⟩ = some (.int .i64 a1_1) := (blk_cell BK122.out 1).trans rfl
      have hfz17_0 := blk_frozen BK122.out 0
      have hfz17_1 := blk_frozen BK122.out 1
      go_wp2
      go_meet
      case rel => exact ⟨_,(decide (a0_1 ≤ a1_1)),(by first | rfl | (simp;done) | (simp [*];done)),H',⟨by have := HJ2.out;first | omega | exact Nat.le_refl _⟩,⟨by (with_reducible repeat (first | refine kN_ ?_ _ | refine kD_ ?_ | refine kA_ ?_ _));exact BK121.out⟩,⟨by (with_reducible repeat (first | refine kN_ ?_ _ | refine kD_ ?_ | refine kA_ ?_ _));exact BK122.out⟩,⟨by repeat (first | (with_reducible first | exact HB.out | apply bA_ | apply bN_ | apply bD_ | refine bS_ ?_ GE121.out | refine bS_ ?_ GE122.out) | exact HB.out)⟩⟩
     ·rw [if_neg c14] at H
      have c14b0 : decide (a1_0 ≤ a0_0) = false := decide_eq_false c14
      clear c14
      (first | rw [c14b0] | (simp only [i64_w,i32_w];rw [c14b0]) | skip)
      have H' := aM_ H
      clear H
      have hnb18 := NB121_122.out
      have hnc18 := NB122_121.out
      have hcz19_0 : wc.cell? ⟨gb121,0,none⟩ = some (.int .i64 a0_0) := (blk_cell BK121.out 0).trans rfl
      have hcz19_1 : wc.cell? ⟨gb121,1,none⟩ = some (.int .i64 a0_1) := (blk_cell BK121.out 1).trans rfl
      have hfz19_0 := blk_frozen BK121.out 0
      have hfz19_1 := blk_frozen BK121.out 1
      have hcz20_0 : wc.cell? ⟨gb122,0,none⟩ = some (.int .i64 a1_0) := (blk_cell BK122.out 0).trans rfl
      have hcz20_1 : wc.cell? ⟨gb122,1,none⟩ = some (.int .i64 a1_1) := (blk_cell BK122.out 1).trans rfl
      have hfz20_0 := blk_frozen BK122.out 0
      have hfz20_1 := blk_frozen BK122.out 1
      go_wp2
      go_meet
      case rel => exact ⟨_,(false),(by first | rfl | (simp;done) | (simp [*];done)),H',⟨by have := HJ2.out;first | omega | exact Nat.le_refl _⟩,⟨by (with_reducible repeat (first | refine kN_ ?_ _ | refine kD_ ?_ | refine kA_ ?_ _));exact BK121.out⟩,⟨by (with_reducible repeat (first | refine kN_ ?_ _ | refine kD_ ?_ | refine kA_ ?_ _));exact BK122.out⟩,⟨by repeat (first | (with_reducible first | exact HB.out | apply bA_ | apply bN_ | apply bD_ | refine bS_ ?_ GE121.out | refine bS_ ?_ GE122.out) | exact HB.out)⟩⟩
    case rest =>
     clear HC13
     try clear c1
     try clear p2
     try clear c4
     try clear c6
     try clear c6b0
     try clear c7
     try clear c9
     try clear c12
     try clear c14
     try clear c14b0
     try clear c15
     try clear c18
     try clear hcz10_0
     try clear hcz10_1
     try clear hcz11_0
     try clear hcz11_1
     try clear hcz16_0
     try clear hcz16_1
     try clear hcz17_0
     try clear hcz17_1
     try clear hcz19_0
     try clear hcz19_1
     try clear hcz20_0
     try clear hcz20_1
     try clear hcz8_0
     try clear hcz8_1
     try clear hfz10_0
     try clear hfz10_1
     try clear hfz11_0
     try clear hfz11_1
     try clear hfz16_0
     try clear hfz16_1
     try clear hfz17_0
     try clear hfz17_1
     try clear hfz19_0
     try clear hfz19_1
     try clear hfz20_0
     try clear hfz20_1
     try clear hfz8_0
     try clear hfz8_1
     try clear p2
     obtain ⟨kq,x18_12,rfl,HA,HJ12,BK121,BK122,HB⟩ := hcut
     cases kq with
     | zero => exact absurd HA.out (by simp [gauge_Verdict.j1])
     | succ kj12 =>
      have H := HA.out
      clear HA
      simp only [gauge_Verdict.j1] at H
      by_cases c21 : x18_12 = true
      ·subst c21
       have H1 : (some 1) = some r := by rw [if_pos rfl] at H;exact H
       clear H
       have H := H1
       clear H1
       obtain rfl := Option.some.inj H
       go_wp2
       go_ret
       exact ⟨by first | rfl | (simp [*] <;> rfl),by repeat (first | (with_reducible first | exact HB.out | apply bA_ | apply bN_ | apply bD_ | refine bS_ ?_ GE121.out | refine bS_ ?_ GE122.out) | exact HB.out)⟩
      ·replace c21 := Bool.eq_false_iff.mpr c21
       subst c21
       have H1 : (if a0_1 < a1_0 then (some 2) else (if a0_0 > a1_1 then (some 2) else (some 3))) = some r := by rw [if_neg (show ¬ (false = true) by decide)] at H;exact H
       clear H
       have H := H1
       clear H1
       by_cases c22 : a0_1 < a1_0
       ·rw [if_pos c22] at H
        have c22b0 : decide (a0_1 < a1_0) = true := decide_eq_true c22
        clear c22
        obtain rfl := Option.some.inj H
        have hnb23 := NB121_122.out
        have hnc23 := NB122_121.out
        have hcz24_0 : wc.cell? ⟨gb121,0,none⟩ = some (.int .i64 a0_0) := (blk_cell BK121.out 0).trans rfl
        have hcz24_1 : wc.cell? ⟨gb121,1,none⟩ = some (.int .i64 a0_1) := (blk_cell BK121.out 1).trans rfl
        have hfz24_0 := blk_frozen BK121.out 0
        have hfz24_1 := blk_frozen BK121.out 1
        have hcz25_0 : wc.cell? ⟨gb122,0,none⟩ = some (.int .i64 a1_0) := (blk_cell BK122.out 0).trans rfl
        have hcz25_1 : wc.cell? ⟨gb122,1,none⟩ = some (.int .i64 a1_1) := (blk_cell BK122.out 1).trans rfl
        have hfz25_0 := blk_frozen BK122.out 0
        have hfz25_1 := blk_frozen BK122.out 1
        go_wp2
        go_ret
        exact ⟨by first | rfl | (simp [*] <;> rfl),by repeat (first | (with_reducible first | exact HB.out | apply bA_ | apply bN_ | apply bD_ | refine bS_ ?_ GE121.out | refine bS_ ?_ GE122.out) | exact HB.out)⟩
       ·rw [if_neg c22] at H
        have c22b0 : decide (a0_1 < a1_0) = false := decide_eq_false c22
        clear c22
        by_cases c26 : a0_0 > a1_1
        ·rw [if_pos c26] at H
         have c26b0 : decide (a1_1 < a0_0) = true := decide_eq_true c26
         clear c26
         obtain rfl := Option.some.inj H
         have hnb27 := NB121_122.out
         have hnc27 := NB122_121.out
         have hcz28_0 : wc.cell? ⟨gb121,0,none⟩ = some (.int .i64 a0_0) := (blk_cell BK121.out 0).trans rfl
         have hcz28_1 : wc.cell? ⟨gb121,1,none⟩ = some (.int .i64 a0_1) := (blk_cell BK121.out 1).trans rfl
         have hfz28_0 := blk_frozen BK121.out 0
         have hfz28_1 := blk_frozen BK121.out 1
         have hcz29_0 : wc.cell? ⟨gb122,0,none⟩ = some (.int .i64 a1_0) := (blk_cell BK122.out 0).trans rfl
         have hcz29_1 : wc.cell? ⟨gb122,1,none⟩ = some (.int .i64 a1_1) := (blk_cell BK122.out 1).trans rfl
         have hfz29_0 := blk_frozen BK122.out 0
         have hfz29_1 := blk_frozen BK122.out 1
         go_wp2
         go_ret
         exact ⟨by first | rfl | (simp [*] <;> rfl),by repeat (first | (with_reducible first | exact HB.out | apply bA_ | apply bN_ | apply bD_ | refine bS_ ?_ GE121.out | refine bS_ ?_ GE122.out) | exact HB.out)⟩
        ·rw [if_neg c26] at H
         have c26b0 : decide (a1_1 < a0_0) = false := decide_eq_false c26
         clear c26
         obtain rfl := Option.some.inj H
         have hnb30 := NB121_122.out
         have hnc30 := NB122_121.out
         have hcz31_0 : wc.cell? ⟨gb121,0,none⟩ = some (.int .i64 a0_0) := (blk_cell BK121.out 0).trans rfl
         have hcz31_1 : wc.cell? ⟨gb121,1,none⟩ = some (.int .i64 a0_1) := (blk_cell BK121.out 1).trans rfl
         have hfz31_0 := blk_frozen BK121.out 0
         have hfz31_1 := blk_frozen BK121.out 1
         have hcz32_0 : wc.cell? ⟨gb122,0,none⟩ = some (.int .i64 a1_0) := (blk_cell BK122.out 0).trans rfl
         have hcz32_1 : wc.cell? ⟨gb122,1,none⟩ = some (.int .i64 a1_1) := (blk_cell BK122.out 1).trans rfl
         have hfz32_0 := blk_frozen BK122.out 0
         have hfz32_1 := blk_frozen BK122.out 1
         go_wp2
         go_ret
         exact ⟨by first | rfl | (simp [*] <;> rfl),by repeat (first | (with_reducible first | exact HB.out | apply bA_ | apply bN_ | apply bD_ | refine bS_ ?_ GE121.out | refine bS_ ?_ GE122.out) | exact HB.out)⟩

/-! ### gauge_checkDrift: function 63 -/
def gauge_checkDrift.f (k : Nat) (a0_0 : Int) (a0_1 : Int) (a1_0 : Int) (a1_1 : Int) : Option (Int) := (gauge_checkRange.f k a0_0 a0_1 (-1000000000) 1000000000).bind fun t125 => ((gauge_checkRange.f k a1_0 a1_1 (-1000000) 1000000).bind fun t126 => (if t125 = 2 then (some 2) else (if t126 = 2 then (some 2) else (some (mx t125 t126)))))
set_option maxHeartbeats 8000000 in
set_option maxRecDepth 100000 in
theorem gauge_checkDrift.calls (k : Nat) (a0_0 : Int) (a0_1 : Int) (a1_0 : Int) (a1_1 : Int) (r : Int) (w : World) (h : gauge_checkDrift.f k a0_0 a0_1 a1_0 a1_1 = some r) :
  Calls Try.prog 63 #[.agg #[.int .i64 a0_0,.int .i64 a0_1],.agg #[.int .i64 a1_0,.int .i64 a1_1]] w fun e w' => e = .returned (.int .i64 r) ∧ Below w.heap.size w w' := by
 have hu34 := Try.underlying34
 have HB := aM_ (Below.refl w.heap.size w)
 have H : ((gauge_checkRange.f k a0_0 a0_1 (-1000000000) 1000000000).bind fun t125 => ((gauge_checkRange.f k a1_0 a1_1 (-1000000) 1000000).bind fun t126 => (if t125 = 2 then (some 2) else (if t126 = 2 then (some 2) else (some (mx t125 t126)))))) = some r := h
 clear h
 replace H := oB_ H
 obtain ⟨t125,A30,H⟩ := H
 replace H : ((gauge_checkRange.f k a1_0 a1_1 (-1000000) 1000000).bind fun t126 => (if t125 = 2 then (some 2) else (if t126 = 2 then (some 2) else (some (mx t125 t126))))) = some r := H
 have A3 := aM_ A30
 clear A30
 replace H := oB_ H
 obtain ⟨t126,A40,H⟩ := H
 replace H : (if t125 = 2 then (some 2) else (if t126 = 2 then (some 2) else (some (mx t125 t126)))) = some r := H
 have A4 := aM_ A40
 clear A40
 by_cases c5 : t125 = 2
 ·rw [if_pos c5] at H
  have c5b0 : (t125 == 2) = true := beq_iff_eq.mpr c5
  have c5b1 : (t125 != 2) = false := bne_eq_false_iff_eq.mpr c5
  clear c5
  obtain rfl := Option.some.inj H
  go_enter Try.func63,Try.ntmps63
  try go_wp2_with (first | ((with_reducible refine gate_dst (N := 2) rfl ?_);refine box_event ?hg (N := 2) ?hd (cs := #[.int .i64 a0_0,.int .i64 a0_1]) (t := 34) ?hr ?_;(case hd => rfl);(case hg => rfl);(case hr => first | (go_simp;done) | (go_simp;rfl));intro gb123 hg w6 hbox hb;have n0_ := aM_ (bT_ (by repeat (first | (with_reducible first | exact HB.out | apply bA_ | apply bN_ | apply bD_) | exact HB.out)) hb);have n1_ := aM_ (hbox);have n2_ := aM_ ((by rw [hg];exact (below_size (by repeat (first | (with_reducible first | exact HB.out | apply bA_ | apply bN_ | apply bD_) | exact HB.out))) : w.heap.size ≤ gb123));have n3_ := aM_ ((by rw [hg];exact (below_size (by repeat (first | (with_reducible first | exact HB.out | apply bA_ | apply bN_ | apply bD_) | exact HB.out))) : w.heap.size ≤ gb123));clear HB;have HB := n0_;have BK123 := n1_;have GW123 := n2_;have GE123 := n3_;clear n0_ n1_ n2_ n3_;clear hb hbox hg) | ((with_reducible refine gate_dst (N := 3) rfl ?_);refine box_event ?hg (N := 3) ?hd (cs := #[.int .i64 a1_0,.int .i64 a1_1]) (t := 34) ?hr ?_;(case hd => rfl);(case hg => rfl);(case hr => first | (go_simp;done) | (go_simp;rfl));intro gb124 hg w7 hbox hb;have n0_ := aM_ (kB_ (g := gb123) (o := .cells #[.int .i64 a0_0,.int .i64 a0_1] 34 (0,0)) (by (with_reducible repeat (first | refine kN_ ?_ _ | refine kD_ ?_ | refine kA_ ?_ _));exact BK123.out) hb);have n1_ := aM_ (bT_ (by repeat (first | (with_reducible first | exact HB.out | apply bA_ | apply bN_ | apply bD_ | refine bS_ ?_ GE123.out) | exact HB.out)) hb);have n2_ := aM_ (hbox);have n3_ := aM_ ((by rw [hg];exact (below_size (by repeat (first | (with_reducible first | exact HB.out | apply bA_ | apply bN_ | apply bD_ | refine bS_ ?_ GE123.out) | exact HB.out))) : w.heap.size ≤ gb124));have n4_ := aM_ ((by rw [hg];exact (below_size (by repeat (first | (with_reducible first | exact HB.out | apply bA_ | apply bN_ | apply bD_ | refine bS_ ?_ GE123.out) | exact HB.out))) : w.heap.size ≤ gb124));have n5_ := aM_ ((by rw [hg];exact Nat.ne_of_lt (blk_lt (g := gb123) (o := .cells #[.int .i64 a0_0,.int .i64 a0_1] 34 (0,0)) (by (with_reducible repeat (first | refine kN_ ?_ _ | refine kD_ ?_ | refine kA_ ?_ _));exact BK123.out)) : gb123 ≠ gb124));have n6_ := aM_ ((by rw [hg];exact Nat.ne_of_gt (blk_lt (g := gb123) (o := .cells #[.int .i64 a0_0,.int .i64 a0_1] 34 (0,0)) (by (with_reducible repeat (first | refine kN_ ?_ _ | refine kD_ ?_ | refine kA_ ?_ _));exact BK123.out)) : gb124 ≠ gb123));clear BK123;clear HB;have BK123 := n0_;have HB := n1_;have BK124 := n2_;have GW124 := n3_;have GE124 := n4_;have NB123_124 := n5_;have NB124_123 := n6_;clear n0_ n1_ n2_ n3_ n4_ n5_ n6_;clear hb hbox hg))
  have n0_ := aM_ (kD_ BK123.out)
  have n1_ := aM_ (kD_ BK124.out)
  have n2_ := aM_ (bD_ HB.out)
  clear BK123
  clear BK124
  clear HB
  have BK123 := n0_
  have BK124 := n1_
  have HB := n2_
  clear n0_ n1_ n2_
  refine start_ (n := 6) (S := fun w' => w'.cell? ⟨gb123,0,none⟩ = some (.int .i64 a0_0) ∧ w'.cell? ⟨gb123,1,none⟩ = some (.int .i64 a0_1) ∧ w'.cell? ⟨gb124,0,none⟩ = some (.int .i64 a1_0) ∧ w'.cell? ⟨gb124,1,none⟩ = some (.int .i64 a1_1)) (ds := []) #[false,false,false,false,false,false] (by kernel_rfl) rfl rfl ⟨(blk_cell BK123.out 0).trans rfl,(blk_cell BK123.out 1).trans rfl,(blk_cell BK124.out 0).trans rfl,(blk_cell BK124.out 1).trans rfl⟩ (fun hHeld => ?_)
  generalize w7.drew = w8 at BK123 BK124 HB hHeld ⊢
  refine take_ (i := 0) (N := some 7) (v := ?_) (a' := ?_) #[true,false,false,false,false,false] rfl rfl (by kernel_rfl) (fun _ _ _ h => h) (Or.inl ⟨by rfl,?_⟩) hHeld ?_ ?_
  rotate_left
  ·rintro w' ⟨s0,s1,s2,s3⟩
   go_simp
   with_reducible rfl
  rotate_left
  ·simp only [Act.put,sB_,sZ_,sS_,i64_w,i32_w]
   rfl
  refine take_ (i := 2) (N := some 9) (v := ?_) (a' := ?_) #[true,false,true,false,false,false] rfl rfl (by kernel_rfl) (fun _ _ _ h => h) (Or.inl ⟨by rfl,?_⟩) hHeld ?_ ?_
  rotate_left
  ·rintro w' ⟨s0,s1,s2,s3⟩
   go_simp
   with_reducible rfl
  rotate_left
  ·simp only [Act.put,sB_,sZ_,sS_,i64_w,i32_w]
   rfl
  refine one_ (i := 1) (N := some 8) #[true,true,true,false,false,false] rfl rfl (by kernel_rfl) (by decide) (fun K hK => ?_)
  refine goes_ Try.func67 (by kernel_rfl) rfl #[.agg #[.int .i64 a0_0,.int .i64 a0_1],.int .i64 (-1000000000),.int .i64 1000000000] (by rfl) rfl rfl (by (try simp only [List.map_toArray,List.map_cons,List.map_nil]);first | done | rfl) ?_
  with_reducible refine (gauge_checkRange.calls k a0_0 a0_1 (-1000000000) 1000000000 t125 _ A3.out).mono ?_
  rintro e w9 ⟨rfl,hb⟩
  refine ⟨_,rfl,?_⟩
  have n0_ := aM_ (kB_ (g := gb123) (o := .cells #[.int .i64 a0_0,.int .i64 a0_1] 34 (0,0)) (by (with_reducible repeat (first | refine kN_ ?_ _ | refine kD_ ?_ | refine kA_ ?_ _));exact BK123.out) hb)
  have n1_ := aM_ (kB_ (g := gb124) (o := .cells #[.int .i64 a1_0,.int .i64 a1_1] 34 (0,0)) (by (with_reducible repeat (first | refine kN_ ?_ _ | refine kD_ ?_ | refine kA_ ?_ _));exact BK124.out) hb)
  have n2_ := aM_ (bT_ (by repeat (first | (with_reducible first | exact HB.out | apply bA_ | apply bN_ | apply bD_ | refine bS_ ?_ GE123.out | refine bS_ ?_ GE124.out) | exact HB.out)) hb)
  clear BK123
  clear BK124
  clear HB
  have BK123 := n0_
  have BK124 := n1_
  have HB := n2_
  clear n0_ n1_ n2_
  (try clear hb)
  (try clear hb2)
  (try clear hk)
  (try clear hi)
  refine hK.out _ _ ⟨(blk_cell BK123.out 0).trans rfl,(blk_cell BK123.out 1).trans rfl,(blk_cell BK124.out 0).trans rfl,(blk_cell BK124.out 1).trans rfl⟩ (fun hHeld => ?_)
  clear hK K
  refine norm_ (a' := ?_) ?_ ?_
  rotate_left
  ·show Act.put _ (some 8) _ = _
   simp only [Act.put,sB_,sZ_,sS_,i64_w,i32_w]
   rfl
  refine one_ (i := 3) (N := some 10) #[true,true,true,true,false,false] rfl rfl (by kernel_rfl) (by decide) (fun K hK => ?_)
  refine goes_ Try.func67 (by kernel_rfl) rfl #[.agg #[.int .i64 a1_0,.int .i64 a1_1],.int .i64 (-1000000),.int .i64 1000000] (by rfl) rfl rfl (by (try simp only [List.map_toArray,List.map_cons,List.map_nil]);first | done | rfl) ?_
  with_reducible refine (gauge_checkRange.calls k a1_0 a1_1 (-1000000) 1000000 t126 _ A4.out).mono ?_
  rintro e w10 ⟨rfl,hb⟩
  refine ⟨_,rfl,?_⟩
  have n0_ := aM_ (kB_ (g := gb123) (o := .cells #[.int .i64 a0_0,.int .i64 a0_1] 34 (0,0)) (by (with_reducible repeat (first | refine kN_ ?_ _ | refine kD_ ?_ | refine kA_ ?_ _));exact BK123.out) hb)
  have n1_ := aM_ (kB_ (g := gb124) (o := .cells #[.int .i64 a1_0,.int .i64 a1_1] 34 (0,0)) (by (with_reducible repeat (first | refine kN_ ?_ _ | refine kD_ ?_ | refine kA_ ?_ _));exact BK124.out) hb)
  have n2_ := aM_ (bT_ (by repeat (first | (with_reducible first | exact HB.out | apply bA_ | apply bN_ | apply bD_ | refine bS_ ?_ GE123.out | refine bS_ ?_ GE124.out) | exact HB.out)) hb)
  clear BK123
  clear BK124
  clear HB
  have BK123 := n0_
  have BK124 := n1_
  have HB := n2_
  clear n0_ n1_ n2_
  (try clear hb)
  (try clear hb2)
  (try clear hk)
  (try clear hi)
  refine hK.out _ _ ⟨(blk_cell BK123.out 0).trans rfl,(blk_cell BK123.out 1).trans rfl,(blk_cell BK124.out 0).trans rfl,(blk_cell BK124.out 1).trans rfl⟩ (fun hHeld => ?_)
  clear hK K
  refine norm_ (a' := ?_) ?_ ?_
  rotate_left
  ·show Act.put _ (some 10) _ = _
   simp only [Act.put,sB_,sZ_,sS_,i64_w,i32_w]
   rfl
  refine pure_ (i := 4) (N := some 5) (v := ?_) (a' := ?_) #[true,true,true,true,true,false] rfl rfl (by kernel_rfl) (fun _ _ _ h => h) (Or.inl ⟨by rfl,?_⟩) ?_ ?_
  rotate_left
  ·intro w'
   go_simp
   with_reducible rfl
  rotate_left
  ·simp only [Act.put,sB_,sZ_,sS_,i64_w,i32_w]
   rfl
  refine pure_ (i := 5) (N := some 6) (v := ?_) (a' := ?_) #[true,true,true,true,true,true] rfl rfl (by kernel_rfl) (fun _ _ _ h => h) (Or.inl ⟨by rfl,?_⟩) ?_ ?_
  rotate_left
  ·intro w'
   go_simp
   with_reducible rfl
  rotate_left
  ·simp only [Act.put,sB_,sZ_,sS_,i64_w,i32_w]
   rfl
  refine done_ (by kernel_rfl) ?_
  try go_wp2
  go_ret
  exact ⟨by first | rfl | (simp [*] <;> rfl),by repeat (first | (with_reducible first | exact HB.out | apply bA_ | apply bN_ | apply bD_ | refine bS_ ?_ GE123.out | refine bS_ ?_ GE124.out) | exact HB.out)⟩
 ·rw [if_neg c5] at H
  have c5b0 : (t125 == 2) = false := beq_eq_false_iff_ne.mpr c5
  have c5b1 : (t125 != 2) = true := bne_iff_ne.mpr c5
  by_cases c11 : t126 = 2
  ·rw [if_pos c11] at H
   have c11b0 : (t126 == 2) = true := beq_iff_eq.mpr c11
   have c11b1 : (t126 != 2) = false := bne_eq_false_iff_eq.mpr c11
   clear c11
   obtain rfl := Option.some.inj H
   go_enter Try.func63,Try.ntmps63
   try go_wp2_with (first | ((with_reducible refine gate_dst (N := 2) rfl ?_);refine box_event ?hg (N := 2) ?hd (cs := #[.int .i64 a0_0,.int .i64 a0_1]) (t := 34) ?hr ?_;(case hd => rfl);(case hg => rfl);(case hr => first | (go_simp;done) | (go_simp;rfl));intro gb123 hg w12 hbox hb;have n0_ := aM_ (bT_ (by repeat (first | (with_reducible first | exact HB.out | apply bA_ | apply bN_ | apply bD_) | exact HB.out)) hb);have n1_ := aM_ (hbox);have n2_ := aM_ ((by rw [hg];exact (below_size (by repeat (first | (with_reducible first | exact HB.out | apply bA_ | apply bN_ | apply bD_) | exact HB.out))) : w.heap.size ≤ gb123));have n3_ := aM_ ((by rw [hg];exact (below_size (by repeat (first | (with_reducible first | exact HB.out | apply bA_ | apply bN_ | apply bD_) | exact HB.out))) : w.heap.size ≤ gb123));clear HB;have HB := n0_;have BK123 := n1_;have GW123 := n2_;have GE123 := n3_;clear n0_ n1_ n2_ n3_;clear hb hbox hg) | ((with_reducible refine gate_dst (N := 3) rfl ?_);refine box_event ?hg (N := 3) ?hd (cs := #[.int .i64 a1_0,.int .i64 a1_1]) (t := 34) ?hr ?_;(case hd => rfl);(case hg => rfl);(case hr => first | (go_simp;done) | (go_simp;rfl));intro gb124 hg w13 hbox hb;have n0_ := aM_ (kB_ (g := gb123) (o := .cells #[.int .i64 a0_0,.int .i64 a0_1] 34 (0,0)) (by (with_reducible repeat (first | refine kN_ ?_ _ | refine kD_ ?_ | refine kA_ ?_ _));exact BK123.out) hb);have n1_ := aM_ (bT_ (by repeat (first | (with_reducible first | exact HB.out | apply bA_ | apply bN_ | apply bD_ | refine bS_ ?_ GE123.out) | exact HB.out)) hb);have n2_ := aM_ (hbox);have n3_ := aM_ ((by rw [hg];exact (below_size (by repeat (first | (with_reducible first | exact HB.out | apply bA_ | apply bN_ | apply bD_ | refine bS_ ?_ GE123.out) | exact HB.out))) : w.heap.size ≤ gb124));have n4_ := aM_ ((by rw [hg];exact (below_size (by repeat (first | (with_reducible first | exact HB.out | apply bA_ | apply bN_ | apply bD_ | refine bS_ ?_ GE123.out) | exact HB.out))) : w.heap.size ≤ gb124));have n5_ := aM_ ((by rw [hg];exact Nat.ne_of_lt (blk_lt (g := gb123) (o := .cells #[.int .i64 a0_0,.int .i64 a0_1] 34 (0,0)) (by (with_reducible repeat (first | refine kN_ ?_ _ | refine kD_ ?_ | refine kA_ ?_ _));exact BK123.out)) : gb123 ≠ gb124));have n6_ := aM_ ((by rw [hg];exact Nat.ne_of_gt (blk_lt (g := gb123) (o := .cells #[.int .i64 a0_0,.int .i64 a0_1] 34 (0,0)) (by (with_reducible repeat (first | refine kN_ ?_ _ | refine kD_ ?_ | refine kA_ ?_ _));exact BK123.out)) : gb124 ≠ gb123));clear BK123;clear HB;have BK123 := n0_;have HB := n1_;have BK124 := n2_;have GW124 := n3_;have GE124 := n4_;have NB123_124 := n5_;have NB124_123 := n6_;clear n0_ n1_ n2_ n3_ n4_ n5_ n6_;clear hb hbox hg))
   have n0_ := aM_ (kD_ BK123.out)
   have n1_ := aM_ (kD_ BK124.out)
   have n2_ := aM_ (bD_ HB.out)
   clear BK123
   clear BK124
   clear HB
   have BK123 := n0_
   have BK124 := n1_
   have HB := n2_
   clear n0_ n1_ n2_
   refine start_ (n := 6) (S := fun w' => w'.cell? ⟨gb123,0,none⟩ = some (.int .i64 a0_0) ∧ w'.cell? ⟨gb123,1,none⟩ = some (.int .i64 a0_1) ∧ w'.cell? ⟨gb124,0,none⟩ = some (.int .i64 a1_0) ∧ w'.cell? ⟨gb124,1,none⟩ = some (.int .i64 a1_1)) (ds := []) #[false,false,false,false,false,false] (by kernel_rfl) rfl rfl ⟨(blk_cell BK123.out 0).trans rfl,(blk_cell BK123.out 1).trans rfl,(blk_cell BK124.out 0).trans rfl,(blk_cell BK124.out 1).trans rfl⟩ (fun hHeld => ?_)
   generalize w13.drew = w14 at BK123 BK124 HB hHeld ⊢
   refine take_ (i := 0) (N := some 7) (v := ?_) (a' := ?_) #[true,false,false,false,false,false] rfl rfl (by kernel_rfl) (fun _ _ _ h => h) (Or.inl ⟨by rfl,?_⟩) hHeld ?_ ?_
   rotate_left
   ·rintro w' ⟨s0,s1,s2,s3⟩
    go_simp
    with_reducible rfl
   rotate_left
   ·simp only [Act.put,sB_,sZ_,sS_,i64_w,i32_w]
    rfl
   refine take_ (i := 2) (N := some 9) (v := ?_) (a' := ?_) #[true,false,true,false,false,false] rfl rfl (by kernel_rfl) (fun _ _ _ h => h) (Or.inl ⟨by rfl,?_⟩) hHeld ?_ ?_
   rotate_left
   ·rintro w' ⟨s0,s1,s2,s3⟩
    go_simp
    with_reducible rfl
   rotate_left
   ·simp only [Act.put,sB_,sZ_,sS_,i64_w,i32_w]
    rfl
   refine one_ (i := 1) (N := some 8) #[true,true,true,false,false,false] rfl rfl (by kernel_rfl) (by decide) (fun K hK => ?_)
   refine goes_ Try.func67 (by kernel_rfl) rfl #[.agg #[.int .i64 a0_0,.int .i64 a0_1],.int .i64 (-1000000000),.int .i64 1000000000] (by rfl) rfl rfl (by (try simp only [List.map_toArray,List.map_cons,List.map_nil]);first | done | rfl) ?_
   with_reducible refine (gauge_checkRange.calls k a0_0 a0_1 (-1000000000) 1000000000 t125 _ A3.out).mono ?_
   rintro e w15 ⟨rfl,hb⟩
   refine ⟨_,rfl,?_⟩
   have n0_ := aM_ (kB_ (g := gb123) (o := .cells #[.int .i64 a0_0,.int .i64 a0_1] 34 (0,0)) (by (with_reducible repeat (first | refine kN_ ?_ _ | refine kD_ ?_ | refine kA_ ?_ _));exact BK123.out) hb)
   have n1_ := aM_ (kB_ (g := gb124) (o := .cells #[.int .i64 a1_0,.int .i64 a1_1] 34 (0,0)) (by (with_reducible repeat (first | refine kN_ ?_ _ | refine kD_ ?_ | refine kA_ ?_ _));exact BK124.out) hb)
   have n2_ := aM_ (bT_ (by repeat (first | (with_reducible first | exact HB.out | apply bA_ | apply bN_ | apply bD_ | refine bS_ ?_ GE123.out | refine bS_ ?_ GE124.out) | exact HB.out)) hb)
   clear BK123
   clear BK124
   clear HB
   have BK123 := n0_
   have BK124 := n1_
   have HB := n2_
   clear n0_ n1_ n2_
   (try clear hb)
   (try clear hb2)
   (try clear hk)
   (try clear hi)
   refine hK.out _ _ ⟨(blk_cell BK123.out 0).trans rfl,(blk_cell BK123.out 1).trans rfl,(blk_cell BK124.out 0).trans rfl,(blk_cell BK124.out 1).trans rfl⟩ (fun hHeld => ?_)
   clear hK K
   refine norm_ (a' := ?_) ?_ ?_
   rotate_left
   ·show Act.put _ (some 8) _ = _
    simp only [Act.put,sB_,sZ_,sS_,i64_w,i32_w]
    rfl
   refine one_ (i := 3) (N := some 10) #[true,true,true,true,false,false] rfl rfl (by kernel_rfl) (by decide) (fun K hK => ?_)
   refine goes_ Try.func67 (by kernel_rfl) rfl #[.agg #[.int .i64 a1_0,.int .i64 a1_1],.int .i64 (-1000000),.int .i64 1000000] (by rfl) rfl rfl (by (try simp only [List.map_toArray,List.map_cons,List.map_nil]);first | done | rfl) ?_
   with_reducible refine (gauge_checkRange.calls k a1_0 a1_1 (-1000000) 1000000 t126 _ A4.out).mono ?_
   rintro e w16 ⟨rfl,hb⟩
   refine ⟨_,rfl,?_⟩
   have n0_ := aM_ (kB_ (g := gb123) (o := .cells #[.int .i64 a0_0,.int .i64 a0_1] 34 (0,0)) (by (with_reducible repeat (first | refine kN_ ?_ _ | refine kD_ ?_ | refine kA_ ?_ _));exact BK123.out) hb)
   have n1_ := aM_ (kB_ (g := gb124) (o := .cells #[.int .i64 a1_0,.int .i64 a1_1] 34 (0,0)) (by (with_reducible repeat (first | refine kN_ ?_ _ | refine kD_ ?_ | refine kA_ ?_ _));exact BK124.out) hb)
   have n2_ := aM_ (bT_ (by repeat (first | (with_reducible first | exact HB.out | apply bA_ | apply bN_ | apply bD_ | refine bS_ ?_ GE123.out | refine bS_ ?_ GE124.out) | exact HB.out)) hb)
   clear BK123
   clear BK124
   clear HB
   have BK123 := n0_
   have BK124 := n1_
   have HB := n2_
   clear n0_ n1_ n2_
   (try clear hb)
   (try clear hb2)
   (try clear hk)
   (try clear hi)
   refine hK.out _ _ ⟨(blk_cell BK123.out 0).trans rfl,(blk_cell BK123.out 1).trans rfl,(blk_cell BK124.out 0).trans rfl,(blk_cell BK124.out 1).trans rfl⟩ (fun hHeld => ?_)
   clear hK K
   refine norm_ (a' := ?_) ?_ ?_
   rotate_left
   ·show Act.put _ (some 10) _ = _
    simp only [Act.put,sB_,sZ_,sS_,i64_w,i32_w]
    rfl
   refine pure_ (i := 4) (N := some 5) (v := ?_) (a' := ?_) #[true,true,true,true,true,false] rfl rfl (by kernel_rfl) (fun _ _ _ h => h) (Or.inl ⟨by rfl,?_⟩) ?_ ?_
   rotate_left
   ·intro w'
    go_simp
    with_reducible rfl
   rotate_left
   ·simp only [Act.put,sB_,sZ_,sS_,i64_w,i32_w]
    rfl
   refine pure_ (i := 5) (N := some 6) (v := ?_) (a' := ?_) #[true,true,true,true,true,true] rfl rfl (by kernel_rfl) (fun _ _ _ h => h) (Or.inl ⟨by rfl,?_⟩) ?_ ?_
   rotate_left
   ·intro w'
    go_simp
    with_reducible rfl
   rotate_left
   ·simp only [Act.put,sB_,sZ_,sS_,i64_w,i32_w]
    rfl
   refine done_ (by kernel_rfl) ?_
   try go_wp2
   go_ret
   exact ⟨by first | rfl | (simp [*] <;> rfl),by repeat (first | (with_reducible first | exact HB.out | apply bA_ | apply bN_ | apply bD_ | refine bS_ ?_ GE123.out | refine bS_ ?_ GE124.out) | exact HB.out)⟩
  ·rw [if_neg c11] at H
   have c11b0 : (t126 == 2) = false := beq_eq_false_iff_ne.mpr c11
   have c11b1 : (t126 != 2) = true := bne_iff_ne.mpr c11
   obtain ⟨ji17,hji17⟩ : ∃ j_ : Int,(mx t125 t126) = j_ := ⟨_,rfl⟩
   replace H : (some ji17) = some r := by first | (rw [hji17] at H;exact H) | (simp only [hji17] at H ⊢;exact H)
   (try rw [hji17] at A3)
   (try rw [hji17] at A4)
   have hji17_ : (if t125 < t126 then t126 else t125) = ji17 := hji17
   obtain rfl := Option.some.inj H
   go_enter Try.func63,Try.ntmps63
   try go_wp2_with (first | ((with_reducible refine gate_dst (N := 2) rfl ?_);refine box_event ?hg (N := 2) ?hd (cs := #[.int .i64 a0_0,.int .i64 a0_1]) (t := 34) ?hr ?_;(case hd => rfl);(case hg => rfl);(case hr => first | (go_simp;done) | (go_simp;rfl));intro gb123 hg w18 hbox hb;have n0_ := aM_ (bT_ (by repeat (first | (with_reducible first | exact HB.out | apply bA_ | apply bN_ | apply bD_) | exact HB.out)) hb);have n1_ := aM_ (hbox);have n2_ := aM_ ((by rw [hg];exact (below_size (by repeat (first | (with_reducible first | exact HB.out | apply bA_ | apply bN_ | apply bD_) | exact HB.out))) : w.heap.size ≤ gb123));have n3_ := aM_ ((by rw [hg];exact (below_size (by repeat (first | (with_reducible first | exact HB.out | apply bA_ | apply bN_ | apply bD_) | exact HB.out))) : w.heap.size ≤ gb123));clear HB;have HB := n0_;have BK123 := n1_;have GW123 := n2_;have GE123 := n3_;clear n0_ n1_ n2_ n3_;clear hb hbox hg) | ((with_reducible refine gate_dst (N := 3) rfl ?_);refine box_event ?hg (N := 3) ?hd (cs := #[.int .i64 a1_0,.int .i64 a1_1]) (t := 34) ?hr ?_;(case hd => rfl);(case hg => rfl);(case hr => first | (go_simp;done) | (go_simp;rfl));intro gb124 hg w19 hbox hb;have n0_ := aM_ (kB_ (g := gb123) (o := .cells #[.int .i64 a0_0,.int .i64 a0_1] 34 (0,0)) (by (with_reducible repeat (first | refine kN_ ?_ _ | refine kD_ ?_ | refine kA_ ?_ _));exact BK123.out) hb);have n1_ := aM_ (bT_ (by repeat (first | (with_reducible first | exact HB.out | apply bA_ | apply bN_ | apply bD_ | refine bS_ ?_ GE123.out) | exact HB.out)) hb);have n2_ := aM_ (hbox);have n3_ := aM_ ((by rw [hg];exact (below_size (by repeat (first | (with_reducible first | exact HB.out | apply bA_ | apply bN_ | apply bD_ | refine bS_ ?_ GE123.out) | exact HB.out))) : w.heap.size ≤ gb124));have n4_ := aM_ ((by rw [hg];exact (below_size (by repeat (first | (with_reducible first | exact HB.out | apply bA_ | apply bN_ | apply bD_ | refine bS_ ?_ GE123.out) | exact HB.out))) : w.heap.size ≤ gb124));have n5_ := aM_ ((by rw [hg];exact Nat.ne_of_lt (blk_lt (g := gb123) (o := .cells #[.int .i64 a0_0,.int .i64 a0_1] 34 (0,0)) (by (with_reducible repeat (first | refine kN_ ?_ _ | refine kD_ ?_ | refine kA_ ?_ _));exact BK123.out)) : gb123 ≠ gb124));have n6_ := aM_ ((by rw [hg];exact Nat.ne_of_gt (blk_lt (g := gb123) (o := .cells #[.int .i64 a0_0,.int .i64 a0_1] 34 (0,0)) (by (with_reducible repeat (first | refine kN_ ?_ _ | refine kD_ ?_ | refine kA_ ?_ _));exact BK123.out)) : gb124 ≠ gb123));clear BK123;clear HB;have BK123 := n0_;have HB := n1_;have BK124 := n2_;have GW124 := n3_;have GE124 := n4_;have NB123_124 := n5_;have NB124_123 := n6_;clear n0_ n1_ n2_ n3_ n4_ n5_ n6_;clear hb hbox hg))
   have n0_ := aM_ (kD_ BK123.out)
   have n1_ := aM_ (kD_ BK124.out)
   have n2_ := aM_ (bD_ HB.out)
   clear BK123
   clear BK124
   clear HB
   have BK123 := n0_
   have BK124 := n1_
   have HB := n2_
   clear n0_ n1_ n2_
   refine start_ (n := 6) (S := fun w' => w'.cell? ⟨gb123,0,none⟩ = some (.int .i64 a0_0) ∧ w'.cell? ⟨gb123,1,none⟩ = some (.int .i64 a0_1) ∧ w'.cell? ⟨gb124,0,none⟩ = some (.int .i64 a1_0) ∧ w'.cell? ⟨gb124,1,none⟩ = some (.int .i64 a1_1)) (ds := []) #[false,false,false,false,false,false] (by kernel_rfl) rfl rfl ⟨(blk_cell BK123.out 0).trans rfl,(blk_cell BK123.out 1).trans rfl,(blk_cell BK124.out 0).trans rfl,(blk_cell BK124.out 1).trans rfl⟩ (fun hHeld => ?_)
   generalize w19.drew = w20 at BK123 BK124 HB hHeld ⊢
   refine take_ (i := 0) (N := some 7) (v := ?_) (a' := ?_) #[true,false,false,false,false,false] rfl rfl (by kernel_rfl) (fun _ _ _ h => h) (Or.inl ⟨by rfl,?_⟩) hHeld ?_ ?_
   rotate_left
   ·rintro w' ⟨s0,s1,s2,s3⟩
    go_simp
    with_reducible rfl
   rotate_left
   ·simp only [Act.put,sB_,sZ_,sS_,i64_w,i32_w]
    rfl
   refine take_ (i := 2) (N := some 9) (v := ?_) (a' := ?_) #[true,false,true,false,false,false] rfl rfl (by kernel_rfl) (fun _ _ _ h => h) (Or.inl ⟨by rfl,?_⟩) hHeld ?_ ?_
   rotate_left
   ·rintro w' ⟨s0,s1,s2,s3⟩
    go_simp
    with_reducible rfl
   rotate_left
   ·simp only [Act.put,sB_,sZ_,sS_,i64_w,i32_w]
    rfl
   refine one_ (i := 1) (N := some 8) #[true,true,true,false,false,false] rfl rfl (by kernel_rfl) (by decide) (fun K hK => ?_)
   refine goes_ Try.func67 (by kernel_rfl) rfl #[.agg #[.int .i64 a0_0,.int .i64 a0_1],.int .i64 (-1000000000),.int .i64 1000000000] (by rfl) rfl rfl (by (try simp only [List.map_toArray,List.map_cons,List.map_nil]);first | done | rfl) ?_
   with_reducible refine (gauge_checkRange.calls k a0_0 a0_1 (-1000000000) 1000000000 t125 _ A3.out).mono ?_
   rintro e w21 ⟨rfl,hb⟩
   refine ⟨_,rfl,?_⟩
   have n0_ := aM_ (kB_ (g := gb123) (o := .cells #[.int .i64 a0_0,.int .i64 a0_1] 34 (0,0)) (by (with_reducible repeat (first | refine kN_ ?_ _ | refine kD_ ?_ | refine kA_ ?_ _));exact BK123.out) hb)
   have n1_ := aM_ (kB_ (g := gb124) (o := .cells #[.int .i64 a1_0,.int .i64 a1_1] 34 (0,0)) (by (with_reducible repeat (first | refine kN_ ?_ _ | refine kD_ ?_ | refine kA_ ?_ _));exact BK124.out) hb)
   have n2_ := aM_ (bT_ (by repeat (first | (with_reducible first | exact HB.out | apply bA_ | apply bN_ | apply bD_ | refine bS_ ?_ GE123.out | refine bS_ ?_ GE124.out) | exact HB.out)) hb)
   clear BK123
   clear BK124
   clear HB
   have BK123 := n0_
   have BK124 := n1_
   have HB := n2_
   clear n0_ n1_ n2_
   (try clear hb)
   (try clear hb2)
   (try clear hk)
   (try clear hi)
   refine hK.out _ _ ⟨(blk_cell BK123.out 0).trans rfl,(blk_cell BK123.out 1).trans rfl,(blk_cell BK124.out 0).trans rfl,(blk_cell BK124.out 1).trans rfl⟩ (fun hHeld => ?_)
   clear hK K
   refine norm_ (a' := ?_) ?_ ?_
   rotate_left
   ·show Act.put _ (some 8) _ = _
    simp only [Act.put,sB_,sZ_,sS_,i64_w,i32_w]
    rfl
   refine one_ (i := 3) (N := some 10) #[true,true,true,true,false,false] rfl rfl (by kernel_rfl) (by decide) (fun K hK => ?_)
   refine goes_ Try.func67 (by kernel_rfl) rfl #[.agg #[.int .i64 a1_0,.int .i64 a1_1],.int .i64 (-1000000),.int .i64 1000000] (by rfl) rfl rfl (by (try simp only [List.map_toArray,List.map_cons,List.map_nil]);first | done | rfl) ?_
   with_reducible refine (gauge_checkRange.calls k a1_0 a1_1 (-1000000) 1000000 t126 _ A4.out).mono ?_
   rintro e w22 ⟨rfl,hb⟩
   refine ⟨_,rfl,?_⟩
   have n0_ := aM_ (kB_ (g := gb123) (o := .cells #[.int .i64 a0_0,.int .i64 a0_1] 34 (0,0)) (by (with_reducible repeat (first | refine kN_ ?_ _ | refine kD_ ?_ | refine kA_ ?_ _));exact BK123.out) hb)
   have n1_ := aM_ (kB_ (g := gb124) (o := .cells #[.int .i64 a1_0,.int .i64 a1_1] 34 (0,0)) (by (with_reducible repeat (first | refine kN_ ?_ _ | refine kD_ ?_ | refine kA_ ?_ _));exact BK124.out) hb)
   have n2_ := aM_ (bT_ (by repeat (first | (with_reducible first | exact HB.out | apply bA_ | apply bN_ | apply bD_ | refine bS_ ?_ GE123.out | refine bS_ ?_ GE124.out) | exact HB.out)) hb)
   clear BK123
   clear BK124
   clear HB
   have BK123 := n0_
   have BK124 := n1_
   have HB := n2_
   clear n0_ n1_ n2_
   (try clear hb)
   (try clear hb2)
   (try clear hk)
   (try clear hi)
   refine hK.out _ _ ⟨(blk_cell BK123.out 0).trans rfl,(blk_cell BK123.out 1).trans rfl,(blk_cell BK124.out 0).trans rfl,(blk_cell BK124.out 1).trans rfl⟩ (fun hHeld => ?_)
   clear hK K
   refine norm_ (a' := ?_) ?_ ?_
   rotate_left
   ·show Act.put _ (some 10) _ = _
    simp only [Act.put,sB_,sZ_,sS_,i64_w,i32_w]
    rfl
   refine pure_ (i := 4) (N := some 5) (v := ?_) (a' := ?_) #[true,true,true,true,true,false] rfl rfl (by kernel_rfl) (fun _ _ _ h => h) (Or.inl ⟨by rfl,?_⟩) ?_ ?_
   rotate_left
   ·intro w'
    go_simp
    with_reducible rfl
   rotate_left
   ·simp only [Act.put,sB_,sZ_,sS_,i64_w,i32_w]
    rfl
   refine pure_ (i := 5) (N := some 6) (v := ?_) (a' := ?_) #[true,true,true,true,true,true] rfl rfl (by kernel_rfl) (fun _ _ _ h => h) (Or.inl ⟨by rfl,?_⟩) ?_ ?_
   rotate_left
   ·intro w'
    go_simp
    with_reducible rfl
   rotate_left
   ·simp only [Act.put,sB_,sZ_,sS_,i64_w,i32_w]
    rfl
   refine done_ (by kernel_rfl) ?_
   try go_wp2
   go_ret
   exact ⟨by first | rfl | (simp [errW_none,errW_some] <;> rfl) | (simp only [← hji17];first | rfl | (simp [errW_none,errW_some] <;> rfl)) | (simp [*,errW_none,errW_some] <;> rfl),by repeat (first | (with_reducible first | exact HB.out | apply bA_ | apply bN_ | apply bD_ | refine bS_ ?_ GE123.out | refine bS_ ?_ GE124.out) | exact HB.out)⟩

end Go.Proofs.Ytdbpobadeibjaaa.GE
