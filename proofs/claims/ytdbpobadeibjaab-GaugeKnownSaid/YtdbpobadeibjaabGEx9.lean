-- written for this claim by a program of this session (wip/gp), over the kit's own printer; Lean checks it
import Derived.Test.YtdbpobadeibjaabGEx0
import Derived.Test.YtdbpobadeibjaabGEx3
import Derived.Test.YtdbpobadeibjaabGEx4
import Derived.Test.YtdbpobadeibjaabGEx8
namespace Go.Proofs.Ytdbpobadeibjaab.GE
open Go.RowKit Go.Proofs.YtdbpobadeibjaabW.PrintWords Go.Proofs.YtdbpobadeibjaabW.PrintLast Go.Proofs.YtdbpobadeibjaabW.PrintMore
attribute [local go_sem] max2_int min2_int max_two min_two max_three min_three max_four min_four
set_option linter.unusedVariables false
set_option linter.unusedSimpArgs false

/-! ### R_Made: function 40 -/
def R_Made.f (a0_0 : Int) (a0_1 : Int) (a0_2 : Int) (a0_3 : Int) (a0_4 : Int) (a0_5 : Int) (a0_6 : Int) (a1 : Int) : Option (Int × Int) := if a1 < 0 then ((R_Down.f (wrap64 (a1 * a0_1)) 1000000).bind fun t139 => ((R_Up.f (wrap64 (a1 * a0_0)) 1000000).bind fun t140 => (some (wrap64 (t139 + a0_2),wrap64 (t140 + a0_3))))) else ((R_Down.f (wrap64 (a1 * a0_0)) 1000000).bind fun t141 => ((R_Up.f (wrap64 (a1 * a0_1)) 1000000).bind fun t142 => (some (wrap64 (t141 + a0_2),wrap64 (t142 + a0_3)))))
def R_Made.T1 : Bool × List (List Nat × List Nat) := (true,[([],[]),([0],[0]),([1],[1]),([],[]),([3],[3]),([4],[4]),([2,0,1,2],[2]),([5,6,0,1,2,3,4,5,6],[5])])
def R_Made.B1 : List Nat := [0,1,3,0,8,24,7,127]
theorem R_Made.tab1 : rtab .any (opsOf Try.f40 1) = R_Made.T1 := by kernel_rfl
theorem R_Made.bits1 : waitsOk R_Made.T1.2 R_Made.B1 = true := by kernel_rfl
def R_Made.T4 : Bool × List (List Nat × List Nat) := (true,[([],[]),([],[]),([0,1],[0,1]),([2],[2]),([],[]),([4],[4]),([5],[5]),([3,6],[3,6]),([],[]),([],[]),([8,9],[8,9]),([10,3],[10]),([],[]),([12],[12]),([13],[13]),([11,14],[11,14]),([7,15],[7,15]),([16,11,0,1,2,3,4,5,6,7,8,9,10,11,12,13,14,15,16],[16])])
def R_Made.B4 : List Nat := [0,0,3,7,0,16,48,127,0,0,768,1807,0,4096,12288,32527,65535,131071]
theorem R_Made.tab4 : rtab .any (opsOf Try.f40 4) = R_Made.T4 := by kernel_rfl
theorem R_Made.bits4 : waitsOk R_Made.T4.2 R_Made.B4 = true := by kernel_rfl
set_option maxHeartbeats 8000000 in
set_option maxRecDepth 100000 in
theorem R_Made.calls (a0_0 : Int) (a0_1 : Int) (a0_2 : Int) (a0_3 : Int) (a0_4 : Int) (a0_5 : Int) (a0_6 : Int) (a1 : Int) (r1 : Int) (r2 : Int) (w : World) (h : R_Made.f a0_0 a0_1 a0_2 a0_3 a0_4 a0_5 a0_6 a1 = some (r1,r2)) :
  Calls Try.prog 40 #[.agg #[.int .i64 a0_0,.int .i64 a0_1,.int .i64 a0_2,.int .i64 a0_3,.int .i64 a0_4,.int .i64 a0_5,.int .i64 a0_6],.int .i64 a1] w fun e w' => e = .returned (.agg #[.int .i64 r1,.int .i64 r2]) ∧ Below w.heap.size w w' := by
 have hu49 := Try.underlying49
 have hu34 := Try.underlying34
 have HB := aM_ (Below.refl w.heap.size w)
 have H : (if a1 < 0 then ((R_Down.f (wrap64 (a1 * a0_1)) 1000000).bind fun t139 => ((R_Up.f (wrap64 (a1 * a0_0)) 1000000).bind fun t140 => (some (wrap64 (t139 + a0_2),wrap64 (t140 + a0_3))))) else ((R_Down.f (wrap64 (a1 * a0_0)) 1000000).bind fun t141 => ((R_Up.f (wrap64 (a1 * a0_1)) 1000000).bind fun t142 => (some (wrap64 (t141 + a0_2),wrap64 (t142 + a0_3)))))) = some (r1,r2) := h
 clear h
 by_cases c3 : a1 < 0
 ·rw [if_pos c3] at H
  have c3b0 : decide (a1 < 0) = true := decide_eq_true c3
  clear c3
  replace H := oB_ H
  obtain ⟨t139,A40,H⟩ := H
  replace H : ((R_Up.f (wrap64 (a1 * a0_0)) 1000000).bind fun t140 => (some (wrap64 (t139 + a0_2),wrap64 (t140 + a0_3)))) = some (r1,r2) := H
  have A4 := aM_ A40
  clear A40
  replace H := oB_ H
  obtain ⟨t140,A50,H⟩ := H
  replace H : (some (wrap64 (t139 + a0_2),wrap64 (t140 + a0_3))) = some (r1,r2) := H
  have A5 := aM_ A50
  clear A50
  simp only [Option.some.injEq,Prod.mk.injEq] at H
  obtain ⟨rfl,rfl⟩ := H
  go_enter Try.func40,Try.ntmps40
  try go_wp2_with (first | ((with_reducible refine gate_dst (N := 2) rfl ?_);refine box_event ?hg (N := 2) ?hd (cs := #[.int .i64 a0_0,.int .i64 a0_1,.int .i64 a0_2,.int .i64 a0_3,.int .i64 a0_4,.int .i64 a0_5,.int .i64 a0_6]) (t := 49) ?hr ?_;(case hd => rfl);(case hg => rfl);(case hr => first | (go_simp;done) | (go_simp;rfl));intro gb137 hg w6 hbox hb;have n0_ := aM_ (bT_ (by repeat (first | (with_reducible first | exact HB.out | apply bA_ | apply bN_ | apply bD_) | exact HB.out)) hb);have n1_ := aM_ (hbox);have n2_ := aM_ ((by rw [hg];exact (below_size (by repeat (first | (with_reducible first | exact HB.out | apply bA_ | apply bN_ | apply bD_) | exact HB.out))) : w.heap.size ≤ gb137));have n3_ := aM_ ((by rw [hg];exact (below_size (by repeat (first | (with_reducible first | exact HB.out | apply bA_ | apply bN_ | apply bD_) | exact HB.out))) : w.heap.size ≤ gb137));clear HB;have HB := n0_;have BK137 := n1_;have GW137 := n2_;have GE137 := n3_;clear n0_ n1_ n2_ n3_;clear hb hbox hg) | ((with_reducible refine gate_dst (N := 4) rfl ?_);refine box_event ?hg (N := 4) ?hd (cs := #[.int .i64 0,.int .i64 0]) (t := 34) ?hr ?_;(case hd => rfl);(case hg => rfl);(case hr => first | (go_simp;done) | (go_simp;rfl));intro gb138 hg w7 hbox hb;have n0_ := aM_ (kB_ (g := gb137) (o := .cells #[.int .i64 a0_0,.int .i64 a0_1,.int .i64 a0_2,.int .i64 a0_3,.int .i64 a0_4,.int .i64 a0_5,.int .i64 a0_6] 49 (0,0)) (by (with_reducible repeat (first | refine kN_ ?_ _ | refine kD_ ?_ | refine kA_ ?_ _));exact BK137.out) hb);have n1_ := aM_ (bT_ (by repeat (first | (with_reducible first | exact HB.out | apply bA_ | apply bN_ | apply bD_ | refine bS_ ?_ GE137.out) | exact HB.out)) hb);have n2_ := aM_ (hbox);have n3_ := aM_ ((by rw [hg];exact (below_size (by repeat (first | (with_reducible first | exact HB.out | apply bA_ | apply bN_ | apply bD_ | refine bS_ ?_ GE137.out) | exact HB.out))) : w.heap.size ≤ gb138));have n4_ := aM_ ((by rw [hg];exact (below_size (by repeat (first | (with_reducible first | exact HB.out | apply bA_ | apply bN_ | apply bD_ | refine bS_ ?_ GE137.out) | exact HB.out))) : w.heap.size ≤ gb138));have n5_ := aM_ ((by rw [hg];exact Nat.ne_of_lt (blk_lt (g := gb137) (o := .cells #[.int .i64 a0_0,.int .i64 a0_1,.int .i64 a0_2,.int .i64 a0_3,.int .i64 a0_4,.int .i64 a0_5,.int .i64 a0_6] 49 (0,0)) (by (with_reducible repeat (first | refine kN_ ?_ _ | refine kD_ ?_ | refine kA_ ?_ _));exact BK137.out)) : gb137 ≠ gb138));have n6_ := aM_ ((by rw [hg];exact Nat.ne_of_gt (blk_lt (g := gb137) (o := .cells #[.int .i64 a0_0,.int .i64 a0_1,.int .i64 a0_2,.int .i64 a0_3,.int .i64 a0_4,.int .i64 a0_5,.int .i64 a0_6] 49 (0,0)) (by (with_reducible repeat (first | refine kN_ ?_ _ | refine kD_ ?_ | refine kA_ ?_ _));exact BK137.out)) : gb138 ≠ gb137));clear BK137;clear HB;have BK137 := n0_;have HB := n1_;have BK138 := n2_;have GW138 := n3_;have GE138 := n4_;have NB137_138 := n5_;have NB138_137 := n6_;clear n0_ n1_ n2_ n3_ n4_ n5_ n6_;clear hb hbox hg))
  have n0_ := aM_ (kD_ BK137.out)
  have n1_ := aM_ (kD_ BK138.out)
  have n2_ := aM_ (bD_ HB.out)
  clear BK137
  clear BK138
  clear HB
  have BK137 := n0_
  have BK138 := n1_
  have HB := n2_
  clear n0_ n1_ n2_
  refine start_ (n := 8) (S := fun w' => w'.cell? ⟨gb137,0,none⟩ = some (.int .i64 a0_0) ∧ w'.cell? ⟨gb137,1,none⟩ = some (.int .i64 a0_1) ∧ w'.cell? ⟨gb137,2,none⟩ = some (.int .i64 a0_2) ∧ w'.cell? ⟨gb137,3,none⟩ = some (.int .i64 a0_3) ∧ w'.cell? ⟨gb137,4,none⟩ = some (.int .i64 a0_4) ∧ w'.cell? ⟨gb137,5,none⟩ = some (.int .i64 a0_5) ∧ w'.cell? ⟨gb137,6,none⟩ = some (.int .i64 a0_6)) (ds := []) #[false,false,false,false,false,false,false,false] (by kernel_rfl) rfl rfl ⟨(blk_cell BK137.out 0).trans rfl,(blk_cell BK137.out 1).trans rfl,(blk_cell BK137.out 2).trans rfl,(blk_cell BK137.out 3).trans rfl,(blk_cell BK137.out 4).trans rfl,(blk_cell BK137.out 5).trans rfl,(blk_cell BK137.out 6).trans rfl⟩ (fun hHeld => ?_);refine with_tabW R_Made.tab1 R_Made.bits1 (fun HT_ HW_ => ?_)
  generalize w7.drew = w8 at BK137 BK138 HB hHeld ⊢
  refine pure_ (i := 0) (N := some 7) (v := ?_) (a' := ?_) #[true,false,false,false,false,false,false,false] rfl rfl (any_of HT_.out (by kernel_rfl)) (fun _ _ _ h => h) (Or.inl ⟨by rfl,?_⟩) ?_ ?_
  rotate_left
  ·intro w'
   go_simp
   with_reducible rfl
  rotate_left
  ·simp only [Act.put,sB_,sZ_,sS_,i64_w,i32_w]
   rfl
  refine pure_ (i := 1) (N := some 8) (v := ?_) (a' := ?_) #[true,true,false,false,false,false,false,false] rfl rfl (any_of HT_.out (by kernel_rfl)) (fun _ _ _ h => h) (Or.inl ⟨by rfl,?_⟩) ?_ ?_
  rotate_left
  ·intro w'
   go_simp
   with_reducible rfl
  rotate_left
  ·simp only [Act.put,sB_,sZ_,sS_,i64_w,i32_w]
   rfl
  refine pure_ (i := 3) (N := some 10) (v := ?_) (a' := ?_) #[true,true,false,true,false,false,false,false] rfl rfl (any_of HT_.out (by kernel_rfl)) (fun _ _ _ h => h) (Or.inl ⟨by rfl,?_⟩) ?_ ?_
  rotate_left
  ·intro w'
   go_simp
   with_reducible rfl
  rotate_left
  ·simp only [Act.put,sB_,sZ_,sS_,i64_w,i32_w]
   rfl
  refine pure_ (i := 4) (N := some 11) (v := ?_) (a' := ?_) #[true,true,false,true,true,false,false,false] rfl rfl (any_of HT_.out (by kernel_rfl)) (fun _ _ _ h => h) (Or.inl ⟨by rfl,?_⟩) ?_ ?_
  rotate_left
  ·intro w'
   go_simp
   with_reducible rfl
  rotate_left
  ·simp only [Act.put,sB_,sZ_,sS_,i64_w,i32_w]
   rfl
  refine take_ (i := 2) (N := some 9) (v := ?_) (a' := ?_) #[true,true,true,true,true,false,false,false] rfl rfl (take_ofW HT_.out HW_.out (by kernel_rfl)) (fun _ _ _ h => h) (Or.inl ⟨by rfl,?_⟩) hHeld ?_ ?_
  rotate_left
  ·rintro w' ⟨s0,s1,s2,s3,s4,s5,s6⟩
   go_simp
   with_reducible rfl
  rotate_left
  ·simp only [Act.put,sB_,sZ_,sS_,i64_w,i32_w]
   rfl
  refine pure_ (i := 6) (N := some 5) (v := ?_) (a' := ?_) #[true,true,true,true,true,false,true,false] rfl rfl (any_of HT_.out (by kernel_rfl)) (fun _ _ _ h => h) (Or.inl ⟨by rfl,?_⟩) ?_ ?_
  rotate_left
  ·intro w'
   go_simp
   with_reducible rfl
  rotate_left
  ·simp only [Act.put,sB_,sZ_,sS_,i64_w,i32_w]
   rfl
  refine take_ (i := 5) (N := some 12) (v := ?_) (a' := ?_) #[true,true,true,true,true,true,true,false] rfl rfl (take_ofW HT_.out HW_.out (by kernel_rfl)) (fun _ _ _ h => h) (Or.inl ⟨by rfl,?_⟩) hHeld ?_ ?_
  rotate_left
  ·rintro w' ⟨s0,s1,s2,s3,s4,s5,s6⟩
   go_simp
   with_reducible rfl
  rotate_left
  ·simp only [Act.put,sB_,sZ_,sS_,i64_w,i32_w]
   rfl
  refine pure_ (i := 7) (N := some 6) (v := ?_) (a' := ?_) #[true,true,true,true,true,true,true,true] rfl rfl (any_of HT_.out (by kernel_rfl)) (fun _ _ _ h => h) (Or.inl ⟨by rfl,?_⟩) ?_ ?_
  rotate_left
  ·intro w'
   go_simp
   with_reducible rfl
  rotate_left
  ·simp only [Act.put,sB_,sZ_,sS_,i64_w,i32_w]
   rfl
  refine done_ (done_of HT_.out (by kernel_rfl)) ?_
  try go_wp2
  have n0_ := aM_ (kD_ BK137.out)
  have n1_ := aM_ (kD_ BK138.out)
  have n2_ := aM_ (bD_ HB.out)
  clear BK137
  clear BK138
  clear HB
  have BK137 := n0_
  have BK138 := n1_
  have HB := n2_
  clear n0_ n1_ n2_
  refine start_ (n := 18) (S := fun w' => w'.cell? ⟨gb137,0,none⟩ = some (.int .i64 a0_0) ∧ w'.cell? ⟨gb137,1,none⟩ = some (.int .i64 a0_1) ∧ w'.cell? ⟨gb137,2,none⟩ = some (.int .i64 a0_2) ∧ w'.cell? ⟨gb137,3,none⟩ = some (.int .i64 a0_3) ∧ w'.cell? ⟨gb137,4,none⟩ = some (.int .i64 a0_4) ∧ w'.cell? ⟨gb137,5,none⟩ = some (.int .i64 a0_5) ∧ w'.cell? ⟨gb137,6,none⟩ = some (.int .i64 a0_6)) (ds := []) #[false,false,false,false,false,false,false,false,false,false,false,false,false,false,false,false,false,false] (by kernel_rfl) rfl rfl ⟨(blk_cell BK137.out 0).trans rfl,(blk_cell BK137.out 1).trans rfl,(blk_cell BK137.out 2).trans rfl,(blk_cell BK137.out 3).trans rfl,(blk_cell BK137.out 4).trans rfl,(blk_cell BK137.out 5).trans rfl,(blk_cell BK137.out 6).trans rfl⟩ (fun hHeld => ?_);refine with_tabW R_Made.tab4 R_Made.bits4 (fun HT_ HW_ => ?_)
  generalize w8.drew = w9 at BK137 BK138 HB hHeld ⊢
  refine pure_ (i := 0) (N := some 17) (v := ?_) (a' := ?_) #[true,false,false,false,false,false,false,false,false,false,false,false,false,false,false,false,false,false] rfl rfl (any_of HT_.out (by kernel_rfl)) (fun _ _ _ h => h) (Or.inl ⟨by rfl,?_⟩) ?_ ?_
  rotate_left
  ·intro w'
   go_simp
   with_reducible rfl
  rotate_left
  ·simp only [Act.put,sB_,sZ_,sS_,i64_w,i32_w]
   rfl
  refine pure_ (i := 1) (N := some 18) (v := ?_) (a' := ?_) #[true,true,false,false,false,false,false,false,false,false,false,false,false,false,false,false,false,false] rfl rfl (any_of HT_.out (by kernel_rfl)) (fun _ _ _ h => h) (Or.inl ⟨by rfl,?_⟩) ?_ ?_
  rotate_left
  ·intro w'
   go_simp
   with_reducible rfl
  rotate_left
  ·simp only [Act.put,sB_,sZ_,sS_,i64_w,i32_w]
   rfl
  refine pure_ (i := 2) (N := some 19) (v := ?_) (a' := ?_) #[true,true,true,false,false,false,false,false,false,false,false,false,false,false,false,false,false,false] rfl rfl (any_of HT_.out (by kernel_rfl)) (fun _ _ _ h => h) (Or.inl ⟨by rfl,?_⟩) ?_ ?_
  rotate_left
  ·intro w'
   go_simp
   with_reducible rfl
  rotate_left
  ·simp only [Act.put,sB_,sZ_,sS_,i64_w,i32_w]
   rfl
  refine pure_ (i := 4) (N := some 21) (v := ?_) (a' := ?_) #[true,true,true,false,true,false,false,false,false,false,false,false,false,false,false,false,false,false] rfl rfl (any_of HT_.out (by kernel_rfl)) (fun _ _ _ h => h) (Or.inl ⟨by rfl,?_⟩) ?_ ?_
  rotate_left
  ·intro w'
   go_simp
   with_reducible rfl
  rotate_left
  ·simp only [Act.put,sB_,sZ_,sS_,i64_w,i32_w]
   rfl
  refine pure_ (i := 5) (N := some 22) (v := ?_) (a' := ?_) #[true,true,true,false,true,true,false,false,false,false,false,false,false,false,false,false,false,false] rfl rfl (any_of HT_.out (by kernel_rfl)) (fun _ _ _ h => h) (Or.inl ⟨by rfl,?_⟩) ?_ ?_
  rotate_left
  ·intro w'
   go_simp
   with_reducible rfl
  rotate_left
  ·simp only [Act.put,sB_,sZ_,sS_,i64_w,i32_w]
   rfl
  refine pure_ (i := 8) (N := some 25) (v := ?_) (a' := ?_) #[true,true,true,false,true,true,false,false,true,false,false,false,false,false,false,false,false,false] rfl rfl (any_of HT_.out (by kernel_rfl)) (fun _ _ _ h => h) (Or.inl ⟨by rfl,?_⟩) ?_ ?_
  rotate_left
  ·intro w'
   go_simp
   with_reducible rfl
  rotate_left
  ·simp only [Act.put,sB_,sZ_,sS_,i64_w,i32_w]
   rfl
  refine pure_ (i := 9) (N := some 26) (v := ?_) (a' := ?_) #[true,true,true,false,true,true,false,false,true,true,false,false,false,false,false,false,false,false] rfl rfl (any_of HT_.out (by kernel_rfl)) (fun _ _ _ h => h) (Or.inl ⟨by rfl,?_⟩) ?_ ?_
  rotate_left
  ·intro w'
   go_simp
   with_reducible rfl
  rotate_left
  ·simp only [Act.put,sB_,sZ_,sS_,i64_w,i32_w]
   rfl
  refine pure_ (i := 10) (N := some 27) (v := ?_) (a' := ?_) #[true,true,true,false,true,true,false,false,true,true,true,false,false,false,false,false,false,false] rfl rfl (any_of HT_.out (by kernel_rfl)) (fun _ _ _ h => h) (Or.inl ⟨by rfl,?_⟩) ?_ ?_
  rotate_left
  ·intro w'
   go_simp
   with_reducible rfl
  rotate_left
  ·simp only [Act.put,sB_,sZ_,sS_,i64_w,i32_w]
   rfl
  refine pure_ (i := 12) (N := some 29) (v := ?_) (a' := ?_) #[true,true,true,false,true,true,false,false,true,true,true,false,true,false,false,false,false,false] rfl rfl (any_of HT_.out (by kernel_rfl)) (fun _ _ _ h => h) (Or.inl ⟨by rfl,?_⟩) ?_ ?_
  rotate_left
  ·intro w'
   go_simp
   with_reducible rfl
  rotate_left
  ·simp only [Act.put,sB_,sZ_,sS_,i64_w,i32_w]
   rfl
  refine pure_ (i := 13) (N := some 30) (v := ?_) (a' := ?_) #[true,true,true,false,true,true,false,false,true,true,true,false,true,true,false,false,false,false] rfl rfl (any_of HT_.out (by kernel_rfl)) (fun _ _ _ h => h) (Or.inl ⟨by rfl,?_⟩) ?_ ?_
  rotate_left
  ·intro w'
   go_simp
   with_reducible rfl
  rotate_left
  ·simp only [Act.put,sB_,sZ_,sS_,i64_w,i32_w]
   rfl
  refine take_ (i := 6) (N := some 23) (v := ?_) (a' := ?_) #[true,true,true,false,true,true,true,false,true,true,true,false,true,true,false,false,false,false] rfl rfl (take_ofW HT_.out HW_.out (by kernel_rfl)) (fun _ _ _ h => h) (Or.inl ⟨by rfl,?_⟩) hHeld ?_ ?_
  rotate_left
  ·rintro w' ⟨s0,s1,s2,s3,s4,s5,s6⟩
   go_simp
   with_reducible rfl
  rotate_left
  ·simp only [Act.put,sB_,sZ_,sS_,i64_w,i32_w]
   rfl
  refine take_ (i := 14) (N := some 31) (v := ?_) (a' := ?_) #[true,true,true,false,true,true,true,false,true,true,true,false,true,true,true,false,false,false] rfl rfl (take_ofW HT_.out HW_.out (by kernel_rfl)) (fun _ _ _ h => h) (Or.inl ⟨by rfl,?_⟩) hHeld ?_ ?_
  rotate_left
  ·rintro w' ⟨s0,s1,s2,s3,s4,s5,s6⟩
   go_simp
   with_reducible rfl
  rotate_left
  ·simp only [Act.put,sB_,sZ_,sS_,i64_w,i32_w]
   rfl
  refine one_ (i := 3) (N := some 20) #[true,true,true,true,true,true,true,false,true,true,true,false,true,true,true,false,false,false] rfl rfl (one_of HT_.out (by kernel_rfl)) (by decide) (fun K hK => ?_)
  refine goes_ Try.func42 (by kernel_rfl) rfl #[.int .i64 (wrap64 (a1 * a0_1)),.int .i64 1000000] (by rfl) rfl rfl (by (try simp only [List.map_toArray,List.map_cons,List.map_nil]);first | done | rfl) ?_
  with_reducible refine (R_Down.calls (wrap64 (a1 * a0_1)) 1000000 t139 _ A4.out).mono ?_
  rintro e w' ⟨rfl,⟨nd,rfl⟩⟩
  refine ⟨_,rfl,?_⟩
  refine hK.out _ _ ⟨(blk_cell BK137.out 0).trans rfl,(blk_cell BK137.out 1).trans rfl,(blk_cell BK137.out 2).trans rfl,(blk_cell BK137.out 3).trans rfl,(blk_cell BK137.out 4).trans rfl,(blk_cell BK137.out 5).trans rfl,(blk_cell BK137.out 6).trans rfl⟩ (fun hHeld => ?_)
  clear hK K
  refine norm_ (a' := ?_) ?_ ?_
  rotate_left
  ·show Act.put _ (some 20) _ = _
   simp only [Act.put,sB_,sZ_,sS_,i64_w,i32_w]
   rfl
  refine pure_ (i := 7) (N := some 24) (v := ?_) (a' := ?_) #[true,true,true,true,true,true,true,true,true,true,true,false,true,true,true,false,false,false] rfl rfl (any_of HT_.out (by kernel_rfl)) (fun _ _ _ h => h) (Or.inl ⟨by rfl,?_⟩) ?_ ?_
  rotate_left
  ·intro w'
   go_simp
   with_reducible rfl
  rotate_left
  ·simp only [Act.put,sB_,sZ_,sS_,i64_w,i32_w]
   rfl
  refine one_ (i := 11) (N := some 28) #[true,true,true,true,true,true,true,true,true,true,true,true,true,true,true,false,false,false] rfl rfl (one_of HT_.out (by kernel_rfl)) (by decide) (fun K hK => ?_)
  refine goes_ Try.func56 (by kernel_rfl) rfl #[.int .i64 (wrap64 (a1 * a0_0)),.int .i64 1000000] (by rfl) rfl rfl (by (try simp only [List.map_toArray,List.map_cons,List.map_nil]);first | done | rfl) ?_
  with_reducible refine (R_Up.calls (wrap64 (a1 * a0_0)) 1000000 t140 _ A5.out).mono ?_
  rintro e w' ⟨rfl,⟨nd,rfl⟩⟩
  refine ⟨_,rfl,?_⟩
  refine hK.out _ _ ⟨(blk_cell BK137.out 0).trans rfl,(blk_cell BK137.out 1).trans rfl,(blk_cell BK137.out 2).trans rfl,(blk_cell BK137.out 3).trans rfl,(blk_cell BK137.out 4).trans rfl,(blk_cell BK137.out 5).trans rfl,(blk_cell BK137.out 6).trans rfl⟩ (fun hHeld => ?_)
  clear hK K
  refine norm_ (a' := ?_) ?_ ?_
  rotate_left
  ·show Act.put _ (some 28) _ = _
   simp only [Act.put,sB_,sZ_,sS_,i64_w,i32_w]
   rfl
  refine pure_ (i := 15) (N := some 32) (v := ?_) (a' := ?_) #[true,true,true,true,true,true,true,true,true,true,true,true,true,true,true,true,false,false] rfl rfl (any_of HT_.out (by kernel_rfl)) (fun _ _ _ h => h) (Or.inl ⟨by rfl,?_⟩) ?_ ?_
  rotate_left
  ·intro w'
   go_simp
   with_reducible rfl
  rotate_left
  ·simp only [Act.put,sB_,sZ_,sS_,i64_w,i32_w]
   rfl
  refine pure_ (i := 16) (N := some 33) (v := ?_) (a' := ?_) #[true,true,true,true,true,true,true,true,true,true,true,true,true,true,true,true,true,false] rfl rfl (any_of HT_.out (by kernel_rfl)) (fun _ _ _ h => h) (Or.inl ⟨by rfl,?_⟩) ?_ ?_
  rotate_left
  ·intro w'
   go_simp
   with_reducible rfl
  rotate_left
  ·simp only [Act.put,sB_,sZ_,sS_,i64_w,i32_w]
   rfl
  refine one_ (i := 17) (N := none) #[true,true,true,true,true,true,true,true,true,true,true,true,true,true,true,true,true,true] rfl rfl (one_of HT_.out (by kernel_rfl)) (by decide) (fun K hK => ?_)
  have hs10 : w9.cell? ⟨gb138,0,none⟩ = some (.int .i64 0) := (blk_cell BK138.out 0).trans rfl
  have hfs10 := blk_frozen BK138.out 0
  have hns10_0 := NB137_138.out
  have hms10_0 := NB138_137.out
  have hs11 : w9.cell? ⟨gb138,1,none⟩ = some (.int .i64 0) := (blk_cell BK138.out 1).trans rfl
  have hfs11 := blk_frozen BK138.out 1
  have hns11_0 := NB137_138.out
  have hms11_0 := NB138_137.out
  refine skip_ (w1 := ?_) (by rfl) rfl ?_ ?_
  rotate_left
  ·go_simp
   rfl
  refine hK.out _ _ ⟨((cell_far (p := ⟨gb138,_,none⟩) NB137_138.out _).trans (((cell_far (p := ⟨gb138,_,none⟩) NB137_138.out _).trans (hHeld.1)))),((cell_far (p := ⟨gb138,_,none⟩) NB137_138.out _).trans (((cell_far (p := ⟨gb138,_,none⟩) NB137_138.out _).trans (hHeld.2.1)))),((cell_far (p := ⟨gb138,_,none⟩) NB137_138.out _).trans (((cell_far (p := ⟨gb138,_,none⟩) NB137_138.out _).trans (hHeld.2.2.1)))),((cell_far (p := ⟨gb138,_,none⟩) NB137_138.out _).trans (((cell_far (p := ⟨gb138,_,none⟩) NB137_138.out _).trans (hHeld.2.2.2.1)))),((cell_far (p := ⟨gb138,_,none⟩) NB137_138.out _).trans (((cell_far (p := ⟨gb138,_,none⟩) NB137_138.out _).trans (hHeld.2.2.2.2.1)))),((cell_far (p := ⟨gb138,_,none⟩) NB137_138.out _).trans (((cell_far (p := ⟨gb138,_,none⟩) NB137_138.out _).trans (hHeld.2.2.2.2.2.1)))),((cell_far (p := ⟨gb138,_,none⟩) NB137_138.out _).trans (((cell_far (p := ⟨gb138,_,none⟩) NB137_138.out _).trans (hHeld.2.2.2.2.2.2))))⟩ (fun hHeld => ?_)
  clear hK K
  refine done_ (done_of HT_.out (by kernel_rfl)) ?_
  try go_wp2
  refine bodyPost_ret (results_cell_row rfl _ _ gb138 34 #[.int .i64 (wrap64 (t139 + a0_2)),.int .i64 (wrap64 (t140 + a0_3))] (0,0) _ rfl (by (with_reducible repeat (first | refine kN_ ?_ _ | refine kD_ ?_ | refine kA_ ?_ _));refine blk_put (cs := #[.int .i64 (wrap64 (t139 + a0_2)),.int .i64 0]) ?_ 1 _ rfl;(with_reducible repeat (first | refine kN_ ?_ _ | refine kD_ ?_ | refine kA_ ?_ _));refine blk_put (cs := #[.int .i64 0,.int .i64 0]) ?_ 0 _ rfl;(with_reducible repeat (first | refine kN_ ?_ _ | refine kD_ ?_ | refine kA_ ?_ _));exact BK138.out) Try.underlying34 rfl (by kernel_rfl)) rfl ?_
  exact ⟨by first | rfl | (simp [*] <;> rfl),by repeat (first | (with_reducible first | exact HB.out | apply bA_ | apply bN_ | apply bD_ | refine bS_ ?_ GE137.out | refine bS_ ?_ GE138.out) | exact HB.out)⟩
 ·rw [if_neg c3] at H
  have c3b0 : decide (a1 < 0) = false := decide_eq_false c3
  clear c3
  replace H := oB_ H
  obtain ⟨t141,A120,H⟩ := H
  replace H : ((R_Up.f (wrap64 (a1 * a0_1)) 1000000).bind fun t142 => (some (wrap64 (t141 + a0_2),wrap64 (t142 + a0_3)))) = some (r1,r2) := H
  have A12 := aM_ A120
  clear A120
  replace H := oB_ H
  obtain ⟨t142,A130,H⟩ := H
  replace H : (some (wrap64 (t141 + a0_2),wrap64 (t142 + a0_3))) = some (r1,r2) := H
  have A13 := aM_ A130
  clear A130
  simp only [Option.some.injEq,Prod.mk.injEq] at H
  obtain ⟨rfl,rfl⟩ := H
  go_enter Try.func40,Try.ntmps40
  try go_wp2_with (first | ((with_reducible refine gate_dst (N := 2) rfl ?_);refine box_event ?hg (N := 2) ?hd (cs := #[.int .i64 a0_0,.int .i64 a0_1,.int .i64 a0_2,.int .i64 a0_3,.int .i64 a0_4,.int .i64 a0_5,.int .i64 a0_6]) (t := 49) ?hr ?_;(case hd => rfl);(case hg => rfl);(case hr => first | (go_simp;done) | (go_simp;rfl));intro gb137 hg w14 hbox hb;have n0_ := aM_ (bT_ (by repeat (first | (with_reducible first | exact HB.out | apply bA_ | apply bN_ | apply bD_) | exact HB.out)) hb);have n1_ := aM_ (hbox);have n2_ := aM_ ((by rw [hg];exact (below_size (by repeat (first | (with_reducible first | exact HB.out | apply bA_ | apply bN_ | apply bD_) | exact HB.out))) : w.heap.size ≤ gb137));have n3_ := aM_ ((by rw [hg];exact (below_size (by repeat (first | (with_reducible first | exact HB.out | apply bA_ | apply bN_ | apply bD_) | exact HB.out))) : w.heap.size ≤ gb137));clear HB;have HB := n0_;have BK137 := n1_;have GW137 := n2_;have GE137 := n3_;clear n0_ n1_ n2_ n3_;clear hb hbox hg) | ((with_reducible refine gate_dst (N := 4) rfl ?_);refine box_event ?hg (N := 4) ?hd (cs := #[.int .i64 0,.int .i64 0]) (t := 34) ?hr ?_;(case hd => rfl);(case hg => rfl);(case hr => first | (go_simp;done) | (go_simp;rfl));intro gb138 hg w15 hbox hb;have n0_ := aM_ (kB_ (g := gb137) (o := .cells #[.int .i64 a0_0,.int .i64 a0_1,.int .i64 a0_2,.int .i64 a0_3,.int .i64 a0_4,.int .i64 a0_5,.int .i64 a0_6] 49 (0,0)) (by (with_reducible repeat (first | refine kN_ ?_ _ | refine kD_ ?_ | refine kA_ ?_ _));exact BK137.out) hb);have n1_ := aM_ (bT_ (by repeat (first | (with_reducible first | exact HB.out | apply bA_ | apply bN_ | apply bD_ | refine bS_ ?_ GE137.out) | exact HB.out)) hb);have n2_ := aM_ (hbox);have n3_ := aM_ ((by rw [hg];exact (below_size (by repeat (first | (with_reducible first | exact HB.out | apply bA_ | apply bN_ | apply bD_ | refine bS_ ?_ GE137.out) | exact HB.out))) : w.heap.size ≤ gb138));have n4_ := aM_ ((by rw [hg];exact (below_size (by repeat (first | (with_reducible first | exact HB.out | apply bA_ | apply bN_ | apply bD_ | refine bS_ ?_ GE137.out) | exact HB.out))) : w.heap.size ≤ gb138));have n5_ := aM_ ((by rw [hg];exact Nat.ne_of_lt (blk_lt (g := gb137) (o := .cells #[.int .i64 a0_0,.int .i64 a0_1,.int .i64 a0_2,.int .i64 a0_3,.int .i64 a0_4,.int .i64 a0_5,.int .i64 a0_6] 49 (0,0)) (by (with_reducible repeat (first | refine kN_ ?_ _ | refine kD_ ?_ | refine kA_ ?_ _));exact BK137.out)) : gb137 ≠ gb138));have n6_ := aM_ ((by rw [hg];exact Nat.ne_of_gt (blk_lt (g := gb137) (o := .cells #[.int .i64 a0_0,.int .i64 a0_1,.int .i64 a0_2,.int .i64 a0_3,.int .i64 a0_4,.int .i64 a0_5,.int .i64 a0_6] 49 (0,0)) (by (with_reducible repeat (first | refine kN_ ?_ _ | refine kD_ ?_ | refine kA_ ?_ _));exact BK137.out)) : gb138 ≠ gb137));clear BK137;clear HB;have BK137 := n0_;have HB := n1_;have BK138 := n2_;have GW138 := n3_;have GE138 := n4_;have NB137_138 := n5_;have NB138_137 := n6_;clear n0_ n1_ n2_ n3_ n4_ n5_ n6_;clear hb hbox hg))
  have n0_ := aM_ (kD_ BK137.out)
  have n1_ := aM_ (kD_ BK138.out)
  have n2_ := aM_ (bD_ HB.out)
  clear BK137
  clear BK138
  clear HB
  have BK137 := n0_
  have BK138 := n1_
  have HB := n2_
  clear n0_ n1_ n2_
  refine start_ (n := 8) (S := fun w' => w'.cell? ⟨gb137,0,none⟩ = some (.int .i64 a0_0) ∧ w'.cell? ⟨gb137,1,none⟩ = some (.int .i64 a0_1) ∧ w'.cell? ⟨gb137,2,none⟩ = some (.int .i64 a0_2) ∧ w'.cell? ⟨gb137,3,none⟩ = some (.int .i64 a0_3) ∧ w'.cell? ⟨gb137,4,none⟩ = some (.int .i64 a0_4) ∧ w'.cell? ⟨gb137,5,none⟩ = some (.int .i64 a0_5) ∧ w'.cell? ⟨gb137,6,none⟩ = some (.int .i64 a0_6)) (ds := []) #[false,false,false,false,false,false,false,false] (by kernel_rfl) rfl rfl ⟨(blk_cell BK137.out 0).trans rfl,(blk_cell BK137.out 1).trans rfl,(blk_cell BK137.out 2).trans rfl,(blk_cell BK137.out 3).trans rfl,(blk_cell BK137.out 4).trans rfl,(blk_cell BK137.out 5).trans rfl,(blk_cell BK137.out 6).trans rfl⟩ (fun hHeld => ?_);refine with_tabW R_Made.tab1 R_Made.bits1 (fun HT_ HW_ => ?_)
  generalize w15.drew = w16 at BK137 BK138 HB hHeld ⊢
  refine pure_ (i := 0) (N := some 7) (v := ?_) (a' := ?_) #[true,false,false,false,false,false,false,false] rfl rfl (any_of HT_.out (by kernel_rfl)) (fun _ _ _ h => h) (Or.inl ⟨by rfl,?_⟩) ?_ ?_
  rotate_left
  ·intro w'
   go_simp
   with_reducible rfl
  rotate_left
  ·simp only [Act.put,sB_,sZ_,sS_,i64_w,i32_w]
   rfl
  refine pure_ (i := 1) (N := some 8) (v := ?_) (a' := ?_) #[true,true,false,false,false,false,false,false] rfl rfl (any_of HT_.out (by kernel_rfl)) (fun _ _ _ h => h) (Or.inl ⟨by rfl,?_⟩) ?_ ?_
  rotate_left
  ·intro w'
   go_simp
   with_reducible rfl
  rotate_left
  ·simp only [Act.put,sB_,sZ_,sS_,i64_w,i32_w]
   rfl
  refine pure_ (i := 3) (N := some 10) (v := ?_) (a' := ?_) #[true,true,false,true,false,false,false,false] rfl rfl (any_of HT_.out (by kernel_rfl)) (fun _ _ _ h => h) (Or.inl ⟨by rfl,?_⟩) ?_ ?_
  rotate_left
  ·intro w'
   go_simp
   with_reducible rfl
  rotate_left
  ·simp only [Act.put,sB_,sZ_,sS_,i64_w,i32_w]
   rfl
  refine pure_ (i := 4) (N := some 11) (v := ?_) (a' := ?_) #[true,true,false,true,true,false,false,false] rfl rfl (any_of HT_.out (by kernel_rfl)) (fun _ _ _ h => h) (Or.inl ⟨by rfl,?_⟩) ?_ ?_
  rotate_left
  ·intro w'
   go_simp
   with_reducible rfl
  rotate_left
  ·simp only [Act.put,sB_,sZ_,sS_,i64_w,i32_w]
   rfl
  refine take_ (i := 2) (N := some 9) (v := ?_) (a' := ?_) #[true,true,true,true,true,false,false,false] rfl rfl (take_ofW HT_.out HW_.out (by kernel_rfl)) (fun _ _ _ h => h) (Or.inl ⟨by rfl,?_⟩) hHeld ?_ ?_
  rotate_left
  ·rintro w' ⟨s0,s1,s2,s3,s4,s5,s6⟩
   go_simp
   with_reducible rfl
  rotate_left
  ·simp only [Act.put,sB_,sZ_,sS_,i64_w,i32_w]
   rfl
  refine pure_ (i := 6) (N := some 5) (v := ?_) (a' := ?_) #[true,true,true,true,true,false,true,false] rfl rfl (any_of HT_.out (by kernel_rfl)) (fun _ _ _ h => h) (Or.inl ⟨by rfl,?_⟩) ?_ ?_
  rotate_left
  ·intro w'
   go_simp
   with_reducible rfl
  rotate_left
  ·simp only [Act.put,sB_,sZ_,sS_,i64_w,i32_w]
   rfl
  refine take_ (i := 5) (N := some 12) (v := ?_) (a' := ?_) #[true,true,true,true,true,true,true,false] rfl rfl (take_ofW HT_.out HW_.out (by kernel_rfl)) (fun _ _ _ h => h) (Or.inl ⟨by rfl,?_⟩) hHeld ?_ ?_
  rotate_left
  ·rintro w' ⟨s0,s1,s2,s3,s4,s5,s6⟩
   go_simp
   with_reducible rfl
  rotate_left
  ·simp only [Act.put,sB_,sZ_,sS_,i64_w,i32_w]
   rfl
  refine pure_ (i := 7) (N := some 6) (v := ?_) (a' := ?_) #[true,true,true,true,true,true,true,true] rfl rfl (any_of HT_.out (by kernel_rfl)) (fun _ _ _ h => h) (Or.inl ⟨by rfl,?_⟩) ?_ ?_
  rotate_left
  ·intro w'
   go_simp
   with_reducible rfl
  rotate_left
  ·simp only [Act.put,sB_,sZ_,sS_,i64_w,i32_w]
   rfl
  refine done_ (done_of HT_.out (by kernel_rfl)) ?_
  try go_wp2
  have n0_ := aM_ (kD_ BK137.out)
  have n1_ := aM_ (kD_ BK138.out)
  have n2_ := aM_ (bD_ HB.out)
  clear BK137
  clear BK138
  clear HB
  have BK137 := n0_
  have BK138 := n1_
  have HB := n2_
  clear n0_ n1_ n2_
  refine start_ (n := 18) (S := fun w' => w'.cell? ⟨gb137,0,none⟩ = some (.int .i64 a0_0) ∧ w'.cell? ⟨gb137,1,none⟩ = some (.int .i64 a0_1) ∧ w'.cell? ⟨gb137,2,none⟩ = some (.int .i64 a0_2) ∧ w'.cell? ⟨gb137,3,none⟩ = some (.int .i64 a0_3) ∧ w'.cell? ⟨gb137,4,none⟩ = some (.int .i64 a0_4) ∧ w'.cell? ⟨gb137,5,none⟩ = some (.int .i64 a0_5) ∧ w'.cell? ⟨gb137,6,none⟩ = some (.int .i64 a0_6)) (ds := []) #[false,false,false,false,false,false,false,false,false,false,false,false,false,false,false,false,false,false] (by kernel_rfl) rfl rfl ⟨(blk_cell BK137.out 0).trans rfl,(blk_cell BK137.out 1).trans rfl,(blk_cell BK137.out 2).trans rfl,(blk_cell BK137.out 3).trans rfl,(blk_cell BK137.out 4).trans rfl,(blk_cell BK137.out 5).trans rfl,(blk_cell BK137.out 6).trans rfl⟩ (fun hHeld => ?_);refine with_tabW R_Made.tab4 R_Made.bits4 (fun HT_ HW_ => ?_)
  generalize w16.drew = w17 at BK137 BK138 HB hHeld ⊢
  refine pure_ (i := 0) (N := some 17) (v := ?_) (a' := ?_) #[true,false,false,false,false,false,false,false,false,false,false,false,false,false,false,false,false,false] rfl rfl (any_of HT_.out (by kernel_rfl)) (fun _ _ _ h => h) (Or.inl ⟨by rfl,?_⟩) ?_ ?_
  rotate_left
  ·intro w'
   go_simp
   with_reducible rfl
  rotate_left
  ·simp only [Act.put,sB_,sZ_,sS_,i64_w,i32_w]
   rfl
  refine pure_ (i := 1) (N := some 18) (v := ?_) (a' := ?_) #[true,true,false,false,false,false,false,false,false,false,false,false,false,false,false,false,false,false] rfl rfl (any_of HT_.out (by kernel_rfl)) (fun _ _ _ h => h) (Or.inl ⟨by rfl,?_⟩) ?_ ?_
  rotate_left
  ·intro w'
   go_simp
   with_reducible rfl
  rotate_left
  ·simp only [Act.put,sB_,sZ_,sS_,i64_w,i32_w]
   rfl
  refine pure_ (i := 2) (N := some 19) (v := ?_) (a' := ?_) #[true,true,true,false,false,false,false,false,false,false,false,false,false,false,false,false,false,false] rfl rfl (any_of HT_.out (by kernel_rfl)) (fun _ _ _ h => h) (Or.inl ⟨by rfl,?_⟩) ?_ ?_
  rotate_left
  ·intro w'
   go_simp
   with_reducible rfl
  rotate_left
  ·simp only [Act.put,sB_,sZ_,sS_,i64_w,i32_w]
   rfl
  refine pure_ (i := 4) (N := some 21) (v := ?_) (a' := ?_) #[true,true,true,false,true,false,false,false,false,false,false,false,false,false,false,false,false,false] rfl rfl (any_of HT_.out (by kernel_rfl)) (fun _ _ _ h => h) (Or.inl ⟨by rfl,?_⟩) ?_ ?_
  rotate_left
  ·intro w'
   go_simp
   with_reducible rfl
  rotate_left
  ·simp only [Act.put,sB_,sZ_,sS_,i64_w,i32_w]
   rfl
  refine pure_ (i := 5) (N := some 22) (v := ?_) (a' := ?_) #[true,true,true,false,true,true,false,false,false,false,false,false,false,false,false,false,false,false] rfl rfl (any_of HT_.out (by kernel_rfl)) (fun _ _ _ h => h) (Or.inl ⟨by rfl,?_⟩) ?_ ?_
  rotate_left
  ·intro w'
   go_simp
   with_reducible rfl
  rotate_left
  ·simp only [Act.put,sB_,sZ_,sS_,i64_w,i32_w]
   rfl
  refine pure_ (i := 8) (N := some 25) (v := ?_) (a' := ?_) #[true,true,true,false,true,true,false,false,true,false,false,false,false,false,false,false,false,false] rfl rfl (any_of HT_.out (by kernel_rfl)) (fun _ _ _ h => h) (Or.inl ⟨by rfl,?_⟩) ?_ ?_
  rotate_left
  ·intro w'
   go_simp
   with_reducible rfl
  rotate_left
  ·simp only [Act.put,sB_,sZ_,sS_,i64_w,i32_w]
   rfl
  refine pure_ (i := 9) (N := some 26) (v := ?_) (a' := ?_) #[true,true,true,false,true,true,false,false,true,true,false,false,false,false,false,false,false,false] rfl rfl (any_of HT_.out (by kernel_rfl)) (fun _ _ _ h => h) (Or.inl ⟨by rfl,?_⟩) ?_ ?_
  rotate_left
  ·intro w'
   go_simp
   with_reducible rfl
  rotate_left
  ·simp only [Act.put,sB_,sZ_,sS_,i64_w,i32_w]
   rfl
  refine pure_ (i := 10) (N := some 27) (v := ?_) (a' := ?_) #[true,true,true,false,true,true,false,false,true,true,true,false,false,false,false,false,false,false] rfl rfl (any_of HT_.out (by kernel_rfl)) (fun _ _ _ h => h) (Or.inl ⟨by rfl,?_⟩) ?_ ?_
  rotate_left
  ·intro w'
   go_simp
   with_reducible rfl
  rotate_left
  ·simp only [Act.put,sB_,sZ_,sS_,i64_w,i32_w]
   rfl
  refine pure_ (i := 12) (N := some 29) (v := ?_) (a' := ?_) #[true,true,true,false,true,true,false,false,true,true,true,false,true,false,false,false,false,false] rfl rfl (any_of HT_.out (by kernel_rfl)) (fun _ _ _ h => h) (Or.inl ⟨by rfl,?_⟩) ?_ ?_
  rotate_left
  ·intro w'
   go_simp
   with_reducible rfl
  rotate_left
  ·simp only [Act.put,sB_,sZ_,sS_,i64_w,i32_w]
   rfl
  refine pure_ (i := 13) (N := some 30) (v := ?_) (a' := ?_) #[true,true,true,false,true,true,false,false,true,true,true,false,true,true,false,false,false,false] rfl rfl (any_of HT_.out (by kernel_rfl)) (fun _ _ _ h => h) (Or.inl ⟨by rfl,?_⟩) ?_ ?_
  rotate_left
  ·intro w'
   go_simp
   with_reducible rfl
  rotate_left
  ·simp only [Act.put,sB_,sZ_,sS_,i64_w,i32_w]
   rfl
  refine take_ (i := 6) (N := some 23) (v := ?_) (a' := ?_) #[true,true,true,false,true,true,true,false,true,true,true,false,true,true,false,false,false,false] rfl rfl (take_ofW HT_.out HW_.out (by kernel_rfl)) (fun _ _ _ h => h) (Or.inl ⟨by rfl,?_⟩) hHeld ?_ ?_
  rotate_left
  ·rintro w' ⟨s0,s1,s2,s3,s4,s5,s6⟩
   go_simp
   with_reducible rfl
  rotate_left
  ·simp only [Act.put,sB_,sZ_,sS_,i64_w,i32_w]
   rfl
  refine take_ (i := 14) (N := some 31) (v := ?_) (a' := ?_) #[true,true,true,false,true,true,true,false,true,true,true,false,true,true,true,false,false,false] rfl rfl (take_ofW HT_.out HW_.out (by kernel_rfl)) (fun _ _ _ h => h) (Or.inl ⟨by rfl,?_⟩) hHeld ?_ ?_
  rotate_left
  ·rintro w' ⟨s0,s1,s2,s3,s4,s5,s6⟩
   go_simp
   with_reducible rfl
  rotate_left
  ·simp only [Act.put,sB_,sZ_,sS_,i64_w,i32_w]
   rfl
  refine one_ (i := 3) (N := some 20) #[true,true,true,true,true,true,true,false,true,true,true,false,true,true,true,false,false,false] rfl rfl (one_of HT_.out (by kernel_rfl)) (by decide) (fun K hK => ?_)
  refine goes_ Try.func42 (by kernel_rfl) rfl #[.int .i64 (wrap64 (a1 * a0_0)),.int .i64 1000000] (by rfl) rfl rfl (by (try simp only [List.map_toArray,List.map_cons,List.map_nil]);first | done | rfl) ?_
  with_reducible refine (R_Down.calls (wrap64 (a1 * a0_0)) 1000000 t141 _ A12.out).mono ?_
  rintro e w' ⟨rfl,⟨nd,rfl⟩⟩
  refine ⟨_,rfl,?_⟩
  refine hK.out _ _ ⟨(blk_cell BK137.out 0).trans rfl,(blk_cell BK137.out 1).trans rfl,(blk_cell BK137.out 2).trans rfl,(blk_cell BK137.out 3).trans rfl,(blk_cell BK137.out 4).trans rfl,(blk_cell BK137.out 5).trans rfl,(blk_cell BK137.out 6).trans rfl⟩ (fun hHeld => ?_)
  clear hK K
  refine norm_ (a' := ?_) ?_ ?_
  rotate_left
  ·show Act.put _ (some 20) _ = _
   simp only [Act.put,sB_,sZ_,sS_,i64_w,i32_w]
   rfl
  refine pure_ (i := 7) (N := some 24) (v := ?_) (a' := ?_) #[true,true,true,true,true,true,true,true,true,true,true,false,true,true,true,false,false,false] rfl rfl (any_of HT_.out (by kernel_rfl)) (fun _ _ _ h => h) (Or.inl ⟨by rfl,?_⟩) ?_ ?_
  rotate_left
  ·intro w'
   go_simp
   with_reducible rfl
  rotate_left
  ·simp only [Act.put,sB_,sZ_,sS_,i64_w,i32_w]
   rfl
  refine one_ (i := 11) (N := some 28) #[true,true,true,true,true,true,true,true,true,true,true,true,true,true,true,false,false,false] rfl rfl (one_of HT_.out (by kernel_rfl)) (by decide) (fun K hK => ?_)
  refine goes_ Try.func56 (by kernel_rfl) rfl #[.int .i64 (wrap64 (a1 * a0_1)),.int .i64 1000000] (by rfl) rfl rfl (by (try simp only [List.map_toArray,List.map_cons,List.map_nil]);first | done | rfl) ?_
  with_reducible refine (R_Up.calls (wrap64 (a1 * a0_1)) 1000000 t142 _ A13.out).mono ?_
  rintro e w' ⟨rfl,⟨nd,rfl⟩⟩
  refine ⟨_,rfl,?_⟩
  refine hK.out _ _ ⟨(blk_cell BK137.out 0).trans rfl,(blk_cell BK137.out 1).trans rfl,(blk_cell BK137.out 2).trans rfl,(blk_cell BK137.out 3).trans rfl,(blk_cell BK137.out 4).trans rfl,(blk_cell BK137.out 5).trans rfl,(blk_cell BK137.out 6).trans rfl⟩ (fun hHeld => ?_)
  clear hK K
  refine norm_ (a' := ?_) ?_ ?_
  rotate_left
  ·show Act.put _ (some 28) _ = _
   simp only [Act.put,sB_,sZ_,sS_,i64_w,i32_w]
   rfl
  refine pure_ (i := 15) (N := some 32) (v := ?_) (a' := ?_) #[true,true,true,true,true,true,true,true,true,true,true,true,true,true,true,true,false,false] rfl rfl (any_of HT_.out (by kernel_rfl)) (fun _ _ _ h => h) (Or.inl ⟨by rfl,?_⟩) ?_ ?_
  rotate_left
  ·intro w'
   go_simp
   with_reducible rfl
  rotate_left
  ·simp only [Act.put,sB_,sZ_,sS_,i64_w,i32_w]
   rfl
  refine pure_ (i := 16) (N := some 33) (v := ?_) (a' := ?_) #[true,true,true,true,true,true,true,true,true,true,true,true,true,true,true,true,true,false] rfl rfl (any_of HT_.out (by kernel_rfl)) (fun _ _ _ h => h) (Or.inl ⟨by rfl,?_⟩) ?_ ?_
  rotate_left
  ·intro w'
   go_simp
   with_reducible rfl
  rotate_left
  ·simp only [Act.put,sB_,sZ_,sS_,i64_w,i32_w]
   rfl
  refine one_ (i := 17) (N := none) #[true,true,true,true,true,true,true,true,true,true,true,true,true,true,true,true,true,true] rfl rfl (one_of HT_.out (by kernel_rfl)) (by decide) (fun K hK => ?_)
  have hs18 : w17.cell? ⟨gb138,0,none⟩ = some (.int .i64 0) := (blk_cell BK138.out 0).trans rfl
  have hfs18 := blk_frozen BK138.out 0
  have hns18_0 := NB137_138.out
  have hms18_0 := NB138_137.out
  have hs19 : w17.cell? ⟨gb138,1,none⟩ = some (.int .i64 0) := (blk_cell BK138.out 1).trans rfl
  have hfs19 := blk_frozen BK138.out 1
  have hns19_0 := NB137_138.out
  have hms19_0 := NB138_137.out
  refine skip_ (w1 := ?_) (by rfl) rfl ?_ ?_
  rotate_left
  ·go_simp
   rfl
  refine hK.out _ _ ⟨((cell_far (p := ⟨gb138,_,none⟩) NB137_138.out _).trans (((cell_far (p := ⟨gb138,_,none⟩) NB137_138.out _).trans (hHeld.1)))),((cell_far (p := ⟨gb138,_,none⟩) NB137_138.out _).trans (((cell_far (p := ⟨gb138,_,none⟩) NB137_138.out _).trans (hHeld.2.1)))),((cell_far (p := ⟨gb138,_,none⟩) NB137_138.out _).trans (((cell_far (p := ⟨gb138,_,none⟩) NB137_138.out _).trans (hHeld.2.2.1)))),((cell_far (p := ⟨gb138,_,none⟩) NB137_138.out _).trans (((cell_far (p := ⟨gb138,_,none⟩) NB137_138.out _).trans (hHeld.2.2.2.1)))),((cell_far (p := ⟨gb138,_,none⟩) NB137_138.out _).trans (((cell_far (p := ⟨gb138,_,none⟩) NB137_138.out _).trans (hHeld.2.2.2.2.1)))),((cell_far (p := ⟨gb138,_,none⟩) NB137_138.out _).trans (((cell_far (p := ⟨gb138,_,none⟩) NB137_138.out _).trans (hHeld.2.2.2.2.2.1)))),((cell_far (p := ⟨gb138,_,none⟩) NB137_138.out _).trans (((cell_far (p := ⟨gb138,_,none⟩) NB137_138.out _).trans (hHeld.2.2.2.2.2.2))))⟩ (fun hHeld => ?_)
  clear hK K
  refine done_ (done_of HT_.out (by kernel_rfl)) ?_
  try go_wp2
  refine bodyPost_ret (results_cell_row rfl _ _ gb138 34 #[.int .i64 (wrap64 (t141 + a0_2)),.int .i64 (wrap64 (t142 + a0_3))] (0,0) _ rfl (by (with_reducible repeat (first | refine kN_ ?_ _ | refine kD_ ?_ | refine kA_ ?_ _));refine blk_put (cs := #[.int .i64 (wrap64 (t141 + a0_2)),.int .i64 0]) ?_ 1 _ rfl;(with_reducible repeat (first | refine kN_ ?_ _ | refine kD_ ?_ | refine kA_ ?_ _));refine blk_put (cs := #[.int .i64 0,.int .i64 0]) ?_ 0 _ rfl;(with_reducible repeat (first | refine kN_ ?_ _ | refine kD_ ?_ | refine kA_ ?_ _));exact BK138.out) Try.underlying34 rfl (by kernel_rfl)) rfl ?_
  exact ⟨by first | rfl | (simp [*] <;> rfl),by repeat (first | (with_reducible first | exact HB.out | apply bA_ | apply bN_ | apply bD_ | refine bS_ ?_ GE137.out | refine bS_ ?_ GE138.out) | exact HB.out)⟩

/-! ### D_In: function 41 -/
def D_In.f (s0_0 : Int) (a1_0 : Int) (a1_1 : Int) : Option (Int × Int) := (D_Between.f s0_0 a1_0 (mx a1_0 a1_1)).bind fun bt144 => (some (bt144.1,bt144.2))
set_option maxHeartbeats 8000000 in
set_option maxRecDepth 100000 in
theorem D_In.calls (g : Nat) (s0_0 : Int) (a1_0 : Int) (a1_1 : Int) (r1 : Int) (r2 : Int) (w0 w : World) (hI : IsS65 w0 w g s0_0) (hB : Below w0.heap.size w0 w) (h : D_In.f s0_0 a1_0 a1_1 = some (r1,r2)) :
  Calls Try.prog 41 #[.pointer (some ⟨g,0,none⟩),.agg #[.int .i64 a1_0,.int .i64 a1_1]] w fun e w' => e = .returned (.int .i64 r1) ∧ IsS65 w0 w' g r2 ∧ Below w0.heap.size w0 w' ∧ KeepBut w w' g none := by
 have hu34 := Try.underlying34
 have HI0 := aM_ hI
 have HK := aM_ (KeepBut.refl w g none)
 have HL := aM_ hB.size
 clear hI
 have HW0 := aM_ hB.size
 have HB := aM_ hB
 clear hB
 have H : ((D_Between.f s0_0 a1_0 (mx a1_0 a1_1)).bind fun bt144 => (some (bt144.1,bt144.2))) = some (r1,r2) := h
 clear h
 obtain ⟨ji3,hji3⟩ : ∃ j_ : Int,(mx a1_0 a1_1) = j_ := ⟨_,rfl⟩
 replace H : ((D_Between.f s0_0 a1_0 (ji3)).bind fun bt144 => (some (bt144.1,bt144.2))) = some (r1,r2) := by first | (rw [hji3] at H;exact H) | (simp only [hji3] at H ⊢;exact H)
 have hji3_ : (if a1_0 < a1_1 then a1_1 else a1_0) = ji3 := hji3
 replace H := oB_ H
 obtain ⟨⟨t144,t145⟩,A40,H⟩ := H
 replace H : (some (t144,t145)) = some (r1,r2) := H
 have A4 := aM_ A40
 clear A40
 simp only [Option.some.injEq,Prod.mk.injEq] at H
 obtain ⟨rfl,rfl⟩ := H
 go_enter Try.func41,Try.ntmps41
 go_wp2_with (first | ((with_reducible refine gate_dst (N := 3) rfl ?_);refine box_event ?hg (N := 3) ?hd (cs := #[.int .i64 a1_0,.int .i64 a1_1]) (t := 34) ?hr ?_;(case hd => rfl);(case hg => rfl);(case hr => first | (go_simp;done) | (go_simp;rfl));intro gb143 hg w5 hbox hb;have n0_ := aM_ (IsS65.below (by repeat (first | (with_reducible first | exact HI0.out | apply IsS65.alloc | apply IsS65.drewN | apply IsS65.drew | apply IsS65.set_0) | exact HI0.out)) hb);have n1_ := aM_ (KeepBut.trans (by repeat (first | (with_reducible first | exact HK.out | apply KeepBut.set_ | apply eN_ | apply eD_ | apply eA_) | exact HK.out)) (KeepBut.of_below hb g none) (.inl rfl));have n2_ := aM_ (bT_ (by repeat (first | (with_reducible first | exact HB.out | apply bA_ | apply bN_ | apply bD_ | refine bS_ ?_ (IsS65.ge HI0.out)) | exact HB.out)) hb);have n3_ := aM_ (hbox);have n4_ := aM_ ((by rw [hg];exact (keep_size (w := w) (g := g) (row := none) (by repeat (first | (with_reducible first | exact HK.out | apply KeepBut.set_ | apply eN_ | apply eD_ | apply eA_) | exact HK.out))) : w.heap.size ≤ gb143));have n5_ := aM_ ((Nat.le_trans HW0.out (by rw [hg];exact (keep_size (w := w) (g := g) (row := none) (by repeat (first | (with_reducible first | exact HK.out | apply KeepBut.set_ | apply eN_ | apply eD_ | apply eA_) | exact HK.out))) : w.heap.size ≤ gb143) : w0.heap.size ≤ gb143));have n6_ := aM_ ((by rw [hg];exact Nat.ne_of_lt (IsS65.lt (show IsS65 w0 _ g s0_0 from by repeat (first | (with_reducible first | exact HI0.out | apply IsS65.alloc | apply IsS65.drewN | apply IsS65.drew | apply IsS65.set_0) | exact HI0.out))) : g ≠ gb143));have n7_ := aM_ ((by rw [hg];exact Nat.ne_of_gt (IsS65.lt (show IsS65 w0 _ g s0_0 from by repeat (first | (with_reducible first | exact HI0.out | apply IsS65.alloc | apply IsS65.drewN | apply IsS65.drew | apply IsS65.set_0) | exact HI0.out))) : gb143 ≠ g));clear HI0;clear HK;clear HB;have HI0 := n0_;have HK := n1_;have HB := n2_;have BK143 := n3_;have GW143 := n4_;have GE143 := n5_;have NB0_143 := n6_;have NB143_0 := n7_;clear n0_ n1_ n2_ n3_ n4_ n5_ n6_ n7_;clear hb hbox hg;have hnb6 := NB143_0.out;have hnc6 := NB0_143.out;have hcz7_0 : w5.cell? ⟨gb143,0,none⟩ = some (.int .i64 a1_0) := (blk_cell BK143.out 0).trans rfl;have hcz7_1 : w5.cell? ⟨gb143,1,none⟩ = some (.int .i64 a1_1) := (blk_cell BK143.out 1).trans rfl;have hfz7_0 := blk_frozen BK143.out 0;have hfz7_1 := blk_frozen BK143.out 1) | ((with_reducible refine gate_callee (f := 12) rfl ?_);refine goesL_ (some 13) rfl rfl Try.func12 (by kernel_rfl) rfl #[.pointer (some ⟨g,0,none⟩),.int .i64 a1_0,.int .i64 ji3] rfl (by (try simp only [List.map_toArray,List.map_cons,List.map_nil]);first | done | (simp only [hji3];rfl) | rfl | (simp only [List.length_drop,List.length_take];rfl)) ?_;(with_reducible refine (D_Between.calls g s0_0 a1_0 ji3 t144 t145 w0 _ ?side1 ?side2 A4.out).mono ?_);(case side1 => repeat (first | (with_reducible first | exact HI0.out | apply IsS65.alloc | apply IsS65.drewN | apply IsS65.drew | apply IsS65.set_0 | refine IsS65.far ?_ NB0_143.out _) | exact HI0.out));(case side2 => repeat (first | (with_reducible first | exact HB.out | apply bA_ | apply bN_ | apply bD_ | refine bS_ ?_ (IsS65.ge HI0.out) | refine bS_ ?_ GE143.out) | exact HB.out));rintro e w8 ⟨rfl,hi,hb,hk⟩;refine ⟨_,rfl,?_⟩;have n0_ := aM_ (KeepBut.blk hk (g' := gb143) (o := .cells #[.int .i64 a1_0,.int .i64 a1_1] 34 (0,0)) (by (with_reducible repeat (first | refine kN_ ?_ _ | refine kD_ ?_ | refine kA_ ?_ _));exact BK143.out) NB143_0.out (by simp));have n1_ := aM_ (KeepBut.trans (by repeat (first | (with_reducible first | exact HK.out | apply KeepBut.set_ | apply eN_ | apply eD_ | apply eA_ | refine keep_far ?_ GW143.out _) | exact HK.out)) hk (.inl rfl));have n2_ := aM_ (hb);have n3_ := aM_ (hi);clear BK143;clear HK;clear HB;clear HI0;have BK143 := n0_;have HK := n1_;have HB := n2_;have HI0 := n3_;clear n0_ n1_ n2_ n3_;(try clear hb);(try clear hb2);(try clear hk);(try clear hi)))
 go_ret
 exact ⟨by first | rfl | (simp [errW_none,errW_some] <;> rfl) | (simp only [← hji3];first | rfl | (simp [errW_none,errW_some] <;> rfl)) | (simp [*,errW_none,errW_some] <;> rfl),by repeat (first | (with_reducible first | exact HI0.out | apply IsS65.alloc | apply IsS65.drewN | apply IsS65.drew | apply IsS65.set_0 | refine IsS65.far ?_ NB0_143.out _) | exact HI0.out),by repeat (first | (with_reducible first | exact HB.out | apply bA_ | apply bN_ | apply bD_ | refine bS_ ?_ (IsS65.ge HI0.out) | refine bS_ ?_ GE143.out) | exact HB.out),by repeat (first | (with_reducible first | exact HK.out | apply KeepBut.set_ | apply eN_ | apply eD_ | apply eA_ | refine keep_far ?_ GW143.out _) | exact HK.out)⟩

/-! ### D_One: function 43 -/
def D_One.f (s0_0 : Int) (a1 : Int) : Option (Bool × Int) := (D_Upto.f s0_0 a1).bind fun bt146 => (some ((bt146.1 == 0),bt146.2))
set_option maxHeartbeats 8000000 in
set_option maxRecDepth 100000 in
theorem D_One.calls (g : Nat) (s0_0 : Int) (a1 : Int) (r1 : Bool) (r2 : Int) (w0 w : World) (hI : IsS65 w0 w g s0_0) (hB : Below w0.heap.size w0 w) (h : D_One.f s0_0 a1 = some (r1,r2)) :
  Calls Try.prog 43 #[.pointer (some ⟨g,0,none⟩),.int .i64 a1] w fun e w' => e = .returned (.bool r1) ∧ IsS65 w0 w' g r2 ∧ Below w0.heap.size w0 w' ∧ KeepBut w w' g none := by
 have HI0 := aM_ hI
 have HK := aM_ (KeepBut.refl w g none)
 have HL := aM_ hB.size
 clear hI
 have HW0 := aM_ hB.size
 have HB := aM_ hB
 clear hB
 have H : ((D_Upto.f s0_0 a1).bind fun bt146 => (some ((bt146.1 == 0),bt146.2))) = some (r1,r2) := h
 clear h
 replace H := oB_ H
 obtain ⟨⟨t146,t147⟩,A30,H⟩ := H
 replace H : (some ((t146 == 0),t147)) = some (r1,r2) := H
 have A3 := aM_ A30
 clear A30
 simp only [Option.some.injEq,Prod.mk.injEq] at H
 obtain ⟨rfl,rfl⟩ := H
 go_enter Try.func43,Try.ntmps43
 go_wp2_with (first | ((with_reducible refine gate_callee (f := 13) rfl ?_);refine goesL_ (some 7) rfl rfl Try.func13 (by kernel_rfl) rfl #[.pointer (some ⟨g,0,none⟩),.int .i64 a1] rfl (by (try simp only [List.map_toArray,List.map_cons,List.map_nil]);first | done | rfl) ?_;(with_reducible refine (D_Upto.calls g s0_0 a1 t146 t147 w0 _ ?side1 ?side2 A3.out).mono ?_);(case side1 => repeat (first | (with_reducible first | exact HI0.out | apply IsS65.alloc | apply IsS65.drewN | apply IsS65.drew | apply IsS65.set_0) | exact HI0.out));(case side2 => repeat (first | (with_reducible first | exact HB.out | apply bA_ | apply bN_ | apply bD_ | refine bS_ ?_ (IsS65.ge HI0.out)) | exact HB.out));rintro e w4 ⟨rfl,hi,hb,hk⟩;refine ⟨_,rfl,?_⟩;have n0_ := aM_ (KeepBut.trans (by repeat (first | (with_reducible first | exact HK.out | apply KeepBut.set_ | apply eN_ | apply eD_ | apply eA_) | exact HK.out)) hk (.inl rfl));have n1_ := aM_ (hb);have n2_ := aM_ (hi);clear HK;clear HB;clear HI0;have HK := n0_;have HB := n1_;have HI0 := n2_;clear n0_ n1_ n2_;(try clear hb);(try clear hb2);(try clear hk);(try clear hi)))
 go_ret
 exact ⟨by first | rfl | (simp [*] <;> rfl),by repeat (first | (with_reducible first | exact HI0.out | apply IsS65.alloc | apply IsS65.drewN | apply IsS65.drew | apply IsS65.set_0) | exact HI0.out),by repeat (first | (with_reducible first | exact HB.out | apply bA_ | apply bN_ | apply bD_ | refine bS_ ?_ (IsS65.ge HI0.out)) | exact HB.out),by repeat (first | (with_reducible first | exact HK.out | apply KeepBut.set_ | apply eN_ | apply eD_ | apply eA_) | exact HK.out)⟩

end Go.Proofs.Ytdbpobadeibjaab.GE
