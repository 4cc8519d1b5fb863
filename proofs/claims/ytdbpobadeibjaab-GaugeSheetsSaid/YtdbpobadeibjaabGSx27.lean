-- written for this claim by a program of this session (wip/gp), over the kit's own printer; Lean checks it
import Derived.Test.YtdbpobadeibjaabGSx0
namespace Go.Proofs.Ytdbpobadeibjaab.GS
open Go.RowKit Go.Proofs.YtdbpobadeibjaabW.PrintWords Go.Proofs.YtdbpobadeibjaabW.PrintLast Go.Proofs.YtdbpobadeibjaabW.PrintMore
attribute [local go_sem] max2_int min2_int max_two min_two max_three min_three max_four min_four
set_option linter.unusedVariables false
set_option linter.unusedSimpArgs false

/-! ### R_Verdict: function 21 -/
mutual
def R_Verdict.j0 : Nat → Bool → Int → Int → Int → Int → Option (Int)
 | 0,_,_,_,_,_ => none
 | k + 1,x5,x445000,x445001,x446000,x446001 => if x5 = true then (some 0) else (if x445000 ≥ x446000 then (R_Verdict.j1 k (decide (x445001 ≤ x446001)) x445000 x445001 x446000 x446001) else (R_Verdict.j1 k false x445000 x445001 x446000 x446001))
def R_Verdict.j1 : Nat → Bool → Int → Int → Int → Int → Option (Int)
 | 0,_,_,_,_,_ => none
 | k + 1,x18,x445000,x445001,x446000,x446001 => if x18 = true then (some 1) else (if x445001 < x446000 then (some 2) else (if x445000 > x446001 then (some 2) else (some 3)))
end
def R_Verdict.f (k : Nat) (a0_0 : Int) (a0_1 : Int) (a1_0 : Int) (a1_1 : Int) : Option (Int) := if a0_0 > a0_1 then (R_Verdict.j0 k true a0_0 a0_1 a1_0 a1_1) else (R_Verdict.j0 k (decide (a1_0 > a1_1)) a0_0 a0_1 a1_0 a1_1)
set_option maxHeartbeats 8000000 in
set_option maxRecDepth 100000 in
theorem R_Verdict.calls (k : Nat) (a0_0 : Int) (a0_1 : Int) (a1_0 : Int) (a1_1 : Int) (r : Int) (w : World) (h : R_Verdict.f k a0_0 a0_1 a1_0 a1_1 = some r) :
  Calls Try.prog 21 #[.agg #[.int .i64 a0_0,.int .i64 a0_1],.agg #[.int .i64 a1_0,.int .i64 a1_1]] w fun e w' => e = .returned (.int .i64 r) ∧ Below w.heap.size w w' := by
 have hu34 := Try.underlying34
 have HB := aM_ (Below.refl w.heap.size w)
 have H : (if a0_0 > a0_1 then (R_Verdict.j0 k true a0_0 a0_1 a1_0 a1_1) else (R_Verdict.j0 k (decide (a1_0 > a1_1)) a0_0 a0_1 a1_0 a1_1)) = some r := h
 clear h
 have HC3 := aM_ H
 clear H
 go_enter Try.func21,Try.ntmps21
 go_upto_region 1 with (first | ((with_reducible refine gate_dst (N := 2) rfl ?_);refine box_event ?hg (N := 2) ?hd (cs := #[.int .i64 a0_0,.int .i64 a0_1]) (t := 34) ?hr ?_;(case hd => rfl);(case hg => rfl);(case hr => first | (go_simp;done) | (go_simp;rfl));intro gb444 hg w4 hbox hb;have n0_ := aM_ (bT_ (by exact lb_ HB) hb);have n1_ := aM_ (hbox);have n2_ := aM_ ((by rw [hg];exact (below_size (by exact lb_ HB)) : w.heap.size ≤ gb444));have n3_ := aM_ ((by rw [hg];exact (below_size (by exact lb_ HB)) : w.heap.size ≤ gb444));clear HB;have HB := n0_;have BK444 := n1_;have GW444 := n2_;have GE444 := n3_;have := Ge_.mk n3_.out;clear n0_ n1_ n2_ n3_;clear hb hbox hg) | ((with_reducible refine gate_dst (N := 3) rfl ?_);refine box_event ?hg (N := 3) ?hd (cs := #[.int .i64 a1_0,.int .i64 a1_1]) (t := 34) ?hr ?_;(case hd => rfl);(case hg => rfl);(case hr => first | (go_simp;done) | (go_simp;rfl));intro gb445 hg w5 hbox hb;have n0_ := aM_ (kB_ (g := gb444) (o := .cells #[.int .i64 a0_0,.int .i64 a0_1] 34 (0,0)) (by exact lk_ BK444) hb);have n1_ := aM_ (bT_ (by exact lb_ HB) hb);have n2_ := aM_ (hbox);have n3_ := aM_ ((by rw [hg];exact (below_size (by exact lb_ HB)) : w.heap.size ≤ gb445));have n4_ := aM_ ((by rw [hg];exact (below_size (by exact lb_ HB)) : w.heap.size ≤ gb445));have n5_ := aM_ ((by rw [hg];exact Nat.ne_of_lt (blk_lt (g := gb444) (o := .cells #[.int .i64 a0_0,.int .i64 a0_1] 34 (0,0)) (by exact lk_ BK444)) : gb444 ≠ gb445));have n6_ := aM_ ((by rw [hg];exact Nat.ne_of_gt (blk_lt (g := gb444) (o := .cells #[.int .i64 a0_0,.int .i64 a0_1] 34 (0,0)) (by exact lk_ BK444)) : gb445 ≠ gb444));clear BK444;clear HB;have BK444 := n0_;have HB := n1_;have BK445 := n2_;have GW445 := n3_;have GE445 := n4_;have := Ge_.mk n4_.out;have NB444_445 := n5_;have NB445_444 := n6_;clear n0_ n1_ n2_ n3_ n4_ n5_ n6_;clear hb hbox hg))
 (try simp only [Act.put,sB_,sZ_,sS_])
 go_cut [5] (fun v5 wc => ∃ (kq : Nat) (x5_2 : Bool),v5 = .bool x5_2 ∧ Aside0 (R_Verdict.j0 kq x5_2 a0_0 a0_1 a1_0 a1_1 = some r) ∧ Aside0 (kq ≤ k) ∧ Aside0 (wc.heap[gb444]? = some (.cells #[.int .i64 a0_0,.int .i64 a0_1] 34 (0,0))) ∧ Aside0 (wc.heap[gb445]? = some (.cells #[.int .i64 a1_0,.int .i64 a1_1] 34 (0,0))) ∧ Aside0 (Below w.heap.size w wc))
 case first =>
  have H := HC3.out
  clear HC3
  by_cases c6 : a0_0 > a0_1
  ·rw [if_pos c6] at H
   have c6b0 : decide (a0_1 < a0_0) = true := decide_eq_true c6
   clear c6
   (first | rw [c6b0] | (simp only [i64_w,i32_w];rw [c6b0]) | skip)
   have H' := aM_ H
   clear H
   have hnb7 := NB444_445.out
   have hnc7 := NB445_444.out
   have hcz8_0 : w5.cell? ⟨gb444,0,none⟩ = some (.int .i64 a0_0) := (blk_cell BK444.out 0).trans rfl
   have hcz8_1 : w5.cell? ⟨gb444,1,none⟩ = some (.int .i64 a0_1) := (blk_cell BK444.out 1).trans rfl
   have hfz8_0 := blk_frozen BK444.out 0
   have hfz8_1 := blk_frozen BK444.out 1
   go_wp2
   go_meet
   case rel => exact ⟨_,(true),(by first | rfl | (simp;done) | (simp [*];done)),H',⟨by first | omega | exact Nat.le_refl _⟩,⟨by exact lk_ BK444⟩,⟨by exact lk_ BK445⟩,⟨by exact lb_ HB⟩⟩
  ·rw [if_neg c6] at H
   have c6b0 : decide (a0_1 < a0_0) = false := decide_eq_false c6
   clear c6
   (first | rw [c6b0] | (simp only [i64_w,i32_w];rw [c6b0]) | skip)
   have H' := aM_ H
   clear H
   have hnb9 := NB444_445.out
   have hnc9 := NB445_444.out
   have hcz10_0 : w5.cell? ⟨gb444,0,none⟩ = some (.int .i64 a0_0) := (blk_cell BK444.out 0).trans rfl
   have hcz10_1 : w5.cell? ⟨gb444,1,none⟩ = some (.int .i64 a0_1) := (blk_cell BK444.out 1).trans rfl
   have hfz10_0 := blk_frozen BK444.out 0
   have hfz10_1 := blk_frozen BK444.out 1
   have hcz11_0 : w5.cell? ⟨gb445,0,none⟩ = some (.int .i64 a1_0) := (blk_cell BK445.out 0).trans rfl
   have hcz11_1 : w5.cell? ⟨gb445,1,none⟩ = some (.int .i64 a1_1) := (blk_cell BK445.out 1).trans rfl
   have hfz11_0 := blk_frozen BK445.out 0
   have hfz11_1 := blk_frozen BK445.out 1
   go_wp2
   go_meet
   case rel => exact ⟨_,(decide (a1_0 > a1_1)),(by first | rfl | (simp;done) | (simp [*];done)),H',⟨by first | omega | exact Nat.le_refl _⟩,⟨by exact lk_ BK444⟩,⟨by exact lk_ BK445⟩,⟨by exact lb_ HB⟩⟩
 case rest =>
  clear HC3
  try clear c2
  try clear p2
  try clear c6
  try clear c6b0
  try clear c7
  try clear c9
  try clear hcz10_0
  try clear hcz10_1
  try clear hcz11_0
  try clear hcz11_1
  try clear hcz8_0
  try clear hcz8_1
  try clear hfz10_0
  try clear hfz10_1
  try clear hfz11_0
  try clear hfz11_1
  try clear hfz8_0
  try clear hfz8_1
  obtain ⟨kq,x5_2,rfl,HA,HJ2,BK444,BK445,HB⟩ := hcut
  cases kq with
  | zero => exact absurd HA.out (by simp [R_Verdict.j0])
  | succ kj2 =>
   have H := HA.out
   clear HA
   simp only [R_Verdict.j0] at H
   by_cases c12 : x5_2 = true
   ·subst c12
    have H1 : (some 0) = some r := by rw [if_pos rfl] at H;exact H
    clear H
    have H := H1
    clear H1
    obtain rfl := Option.some.inj H
    go_wp2
    go_ret
    exact ⟨by first | rfl | (simp [*] <;> rfl),by exact lb_ HB⟩
   ·replace c12 := Bool.eq_false_iff.mpr c12
    subst c12
    have H1 : (if a0_0 ≥ a1_0 then (R_Verdict.j1 kj2 (decide (a0_1 ≤ a1_1)) a0_0 a0_1 a1_0 a1_1) else (R_Verdict.j1 kj2 false a0_0 a0_1 a1_0 a1_1)) = some r := by rw [if_neg (show ¬ (false = true) by decide)] at H;exact H
    clear H
    have H := H1
    clear H1
    have HC13 := aM_ H
    clear H
    go_upto_region 3 with (fail)
    go_cut [18] (fun v18 wc => ∃ (kq : Nat) (x18_12 : Bool),v18 = .bool x18_12 ∧ Aside0 (R_Verdict.j1 kq x18_12 a0_0 a0_1 a1_0 a1_1 = some r) ∧ Aside0 (kq ≤ kj2) ∧ Aside0 (wc.heap[gb444]? = some (.cells #[.int .i64 a0_0,.int .i64 a0_1] 34 (0,0))) ∧ Aside0 (wc.heap[gb445]? = some (.cells #[.int .i64 a1_0,.int .i64 a1_1] 34 (0,0))) ∧ Aside0 (Below w.heap.size w wc))
    case first =>
     have H := HC13.out
     clear HC13
     by_cases c14 : a0_0 ≥ a1_0
     ·rw [if_pos c14] at H
      have c14b0 : decide (a1_0 ≤ a0_0) = true := decide_eq_true c14
      clear c14
      (first | rw [c14b0] | (simp only [i64_w,i32_w];rw [c14b0]) | skip)
      have H' := aM_ H
      clear H
      have hnb15 := NB444_445.out
      have hnc15 := NB445_444.out
      have hcz16_0 : wc.cell? ⟨gb444,0,none⟩ = some (.int .i64 a0_0) := (blk_cell BK444.out 0).trans rfl
      have hcz16_1 : wc.cell? ⟨gb444,1,none⟩ = some (.int .i64 a0_1) := (blk_cell BK444.out 1).trans rfl
      have hfz16_0 := blk_frozen BK444.out 0
      have hfz16_1 := blk_frozen BK444.out 1
      have hcz17_0 : wc.cell? ⟨gb445,0,none⟩ = some (.int .i64 a1_0) := (blk_cell BK445.out 0).trans rfl
      have hcz17_1 : wc.cell? ⟨gb445,1,none⟩ = some (.int .i64 a1_1) := (blk_cell BK445.out 1).trans rfl
      have hfz17_0 := blk_frozen BK445.out 0
      have hfz17_1 := blk_frozen BK445.out 1
      go_wp2
      go_meet
      case rel => exact ⟨_,(decide (a0_1 ≤ a1_1)),(by first | rfl | (simp;done) | (simp [*];done)),H',⟨by have := HJ2.out;first | omega | exact Nat.le_refl _⟩,⟨by exact lk_ BK444⟩,⟨by exact lk_ BK445⟩,⟨by exact lb_ HB⟩⟩
     ·rw [if_neg c14] at H
      have c14b0 : decide (a1_0 ≤ a0_0) = false := decide_eq_false c14
      clear c14
      (first | rw [c14b0] | (simp only [i64_w,i32_w];rw [c14b0]) | skip)
      have H' := aM_ H
      clear H
      have hnb18 := NB444_445.out
      have hnc18 := NB445_444.out
      have hcz19_0 : wc.cell? ⟨gb444,0,none⟩ = some (.int .i64 a0_0) := (blk_cell BK444.out 0).trans rfl
      have hcz19_1 : wc.cell? ⟨gb444,1,none⟩ = some (.int .i64 a0_1) := (blk_cell BK444.out 1).trans rfl
      have hfz19_0 := blk_frozen BK444.out 0
      have hfz19_1 := blk_frozen BK444.out 1
      have hcz20_0 : wc.cell? ⟨gb445,0,none⟩ = some (.int .i64 a1_0) := (blk_cell BK445.out 0).trans rfl
      have hcz20_1 : wc.cell? ⟨gb445,1,none⟩ = some (.int .i64 a1_1) := (blk_cell BK445.out 1).trans rfl
      have hfz20_0 := blk_frozen BK445.out 0
      have hfz20_1 := blk_frozen BK445.out 1
      go_wp2
      go_meet
      case rel => exact ⟨_,(false),(by first | rfl | (simp;done) | (simp [*];done)),H',⟨by have := HJ2.out;first | omega | exact Nat.le_refl _⟩,⟨by exact lk_ BK444⟩,⟨by exact lk_ BK445⟩,⟨by exact lb_ HB⟩⟩
    case rest =>
     clear HC13
     try clear c1
     try clear c2
     try clear p2
     try clear c6
     try clear c6b0
     try clear c7
     try clear c9
     try clear c12
     try clear c14
     try clear c14b0
     try clear c15
     try clear c18
     try clear hcz10_0
     try clear hcz10_1
     try clear hcz11_0
     try clear hcz11_1
     try clear hcz16_0
     try clear hcz16_1
     try clear hcz17_0
     try clear hcz17_1
     try clear hcz19_0
     try clear hcz19_1
     try clear hcz20_0
     try clear hcz20_1
     try clear hcz8_0
     try clear hcz8_1
     try clear hfz10_0
     try clear hfz10_1
     try clear hfz11_0
     try clear hfz11_1
     try clear hfz16_0
     try clear hfz16_1
     try clear hfz17_0
     try clear hfz17_1
     try clear hfz19_0
     try clear hfz19_1
     try clear hfz20_0
     try clear hfz20_1
     try clear hfz8_0
     try clear hfz8_1
     try clear p2
     obtain ⟨kq,x18_12,rfl,HA,HJ12,BK444,BK445,HB⟩ := hcut
     cases kq with
     | zero => exact absurd HA.out (by simp [R_Verdict.j1])
     | succ kj12 =>
      have H := HA.out
      clear HA
      simp only [R_Verdict.j1] at H
      by_cases c21 : x18_12 = true
      ·subst c21
       have H1 : (some 1) = some r := by rw [if_pos rfl] at H;exact H
       clear H
       have H := H1
       clear H1
       obtain rfl := Option.some.inj H
       go_wp2
       go_ret
       exact ⟨by first | rfl | (simp [*] <;> rfl),by exact lb_ HB⟩
      ·replace c21 := Bool.eq_false_iff.mpr c21
       subst c21
       have H1 : (if a0_1 < a1_0 then (some 2) else (if a0_0 > a1_1 then (some 2) else (some 3))) = some r := by rw [if_neg (show ¬ (false = true) by decide)] at H;exact H
       clear H
       have H := H1
       clear H1
       by_cases c22 : a0_1 < a1_0
       ·rw [if_pos c22] at H
        have c22b0 : decide (a0_1 < a1_0) = true := decide_eq_true c22
        clear c22
        obtain rfl := Option.some.inj H
        have hnb23 := NB444_445.out
        have hnc23 := NB445_444.out
        have hcz24_0 : wc.cell? ⟨gb444,0,none⟩ = some (.int .i64 a0_0) := (blk_cell BK444.out 0).trans rfl
        have hcz24_1 : wc.cell? ⟨gb444,1,none⟩ = some (.int .i64 a0_1) := (blk_cell BK444.out 1).trans rfl
        have hfz24_0 := blk_frozen BK444.out 0
        have hfz24_1 := blk_frozen BK444.out 1
        have hcz25_0 : wc.cell? ⟨gb445,0,none⟩ = some (.int .i64 a1_0) := (blk_cell BK445.out 0).trans rfl
        have hcz25_1 : wc.cell? ⟨gb445,1,none⟩ = some (.int .i64 a1_1) := (blk_cell BK445.out 1).trans rfl
        have hfz25_0 := blk_frozen BK445.out 0
        have hfz25_1 := blk_frozen BK445.out 1
        go_wp2
        go_ret
        exact ⟨by first | rfl | (simp [*] <;> rfl),by exact lb_ HB⟩
       ·rw [if_neg c22] at H
        have c22b0 : decide (a0_1 < a1_0) = false := decide_eq_false c22
        clear c22
        by_cases c26 : a0_0 > a1_1
        ·rw [if_pos c26] at H
         have c26b0 : decide (a1_1 < a0_0) = true := decide_eq_true c26
         clear c26
         obtain rfl := Option.some.inj H
         have hnb27 := NB444_445.out
         have hnc27 := NB445_444.out
         have hcz28_0 : wc.cell? ⟨gb444,0,none⟩ = some (.int .i64 a0_0) := (blk_cell BK444.out 0).trans rfl
         have hcz28_1 : wc.cell? ⟨gb444,1,none⟩ = some (.int .i64 a0_1) := (blk_cell BK444.out 1).trans rfl
         have hfz28_0 := blk_frozen BK444.out 0
         have hfz28_1 := blk_frozen BK444.out 1
         have hcz29_0 : wc.cell? ⟨gb445,0,none⟩ = some (.int .i64 a1_0) := (blk_cell BK445.out 0).trans rfl
         have hcz29_1 : wc.cell? ⟨gb445,1,none⟩ = some (.int .i64 a1_1) := (blk_cell BK445.out 1).trans rfl
         have hfz29_0 := blk_frozen BK445.out 0
         have hfz29_1 := blk_frozen BK445.out 1
         go_wp2
         go_ret
         exact ⟨by first | rfl | (simp [*] <;> rfl),by exact lb_ HB⟩
        ·rw [if_neg c26] at H
         have c26b0 : decide (a1_1 < a0_0) = false := decide_eq_false c26
         clear c26
         obtain rfl := Option.some.inj H
         have hnb30 := NB444_445.out
         have hnc30 := NB445_444.out
         have hcz31_0 : wc.cell? ⟨gb444,0,none⟩ = some (.int .i64 a0_0) := (blk_cell BK444.out 0).trans rfl
         have hcz31_1 : wc.cell? ⟨gb444,1,none⟩ = some (.int .i64 a0_1) := (blk_cell BK444.out 1).trans rfl
         have hfz31_0 := blk_frozen BK444.out 0
         have hfz31_1 := blk_frozen BK444.out 1
         have hcz32_0 : wc.cell? ⟨gb445,0,none⟩ = some (.int .i64 a1_0) := (blk_cell BK445.out 0).trans rfl
         have hcz32_1 : wc.cell? ⟨gb445,1,none⟩ = some (.int .i64 a1_1) := (blk_cell BK445.out 1).trans rfl
         have hfz32_0 := blk_frozen BK445.out 0
         have hfz32_1 := blk_frozen BK445.out 1
         go_wp2
         go_ret
         exact ⟨by first | rfl | (simp [*] <;> rfl),by exact lb_ HB⟩

end Go.Proofs.Ytdbpobadeibjaab.GS
