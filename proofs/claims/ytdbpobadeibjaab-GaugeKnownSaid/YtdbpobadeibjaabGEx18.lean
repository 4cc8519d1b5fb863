-- written for this claim by a program of this session (wip/gp), over the kit's own printer; Lean checks it
import Derived.Test.YtdbpobadeibjaabGEx0
import Derived.Test.YtdbpobadeibjaabGEx11
import Derived.Test.YtdbpobadeibjaabGEx12
namespace Go.Proofs.Ytdbpobadeibjaab.GE
open Go.RowKit Go.Proofs.YtdbpobadeibjaabW.PrintWords Go.Proofs.YtdbpobadeibjaabW.PrintLast Go.Proofs.YtdbpobadeibjaabW.PrintMore
attribute [local go_sem] max2_int min2_int max_two min_two max_three min_three max_four min_four
set_option linter.unusedVariables false
set_option linter.unusedSimpArgs false

/-! ### gauge_checkDrift: function 73 -/
def gauge_checkDrift.f (k : Nat) (a0_0 : Int) (a0_1 : Int) (a1_0 : Int) (a1_1 : Int) : Option (Int) := (gauge_checkRange.f k a0_0 a0_1 (-1000000000) 1000000000).bind fun t213 => ((gauge_checkRange.f k a1_0 a1_1 (-1000000) 1000000).bind fun t214 => (if t213 = 2 then (some 2) else (if t214 = 2 then (some 2) else (some (mx t213 t214)))))
set_option maxHeartbeats 8000000 in
set_option maxRecDepth 100000 in
theorem gauge_checkDrift.calls (k : Nat) (a0_0 : Int) (a0_1 : Int) (a1_0 : Int) (a1_1 : Int) (r : Int) (w : World) (h : gauge_checkDrift.f k a0_0 a0_1 a1_0 a1_1 = some r) :
  Calls Try.prog 73 #[.agg #[.int .i64 a0_0,.int .i64 a0_1],.agg #[.int .i64 a1_0,.int .i64 a1_1]] w fun e w' => e = .returned (.int .i64 r) ∧ Below w.heap.size w w' := by
 have hu34 := Try.underlying34
 have HB := aM_ (Below.refl w.heap.size w)
 have H : ((gauge_checkRange.f k a0_0 a0_1 (-1000000000) 1000000000).bind fun t213 => ((gauge_checkRange.f k a1_0 a1_1 (-1000000) 1000000).bind fun t214 => (if t213 = 2 then (some 2) else (if t214 = 2 then (some 2) else (some (mx t213 t214)))))) = some r := h
 clear h
 replace H := oB_ H
 obtain ⟨t213,A30,H⟩ := H
 replace H : ((gauge_checkRange.f k a1_0 a1_1 (-1000000) 1000000).bind fun t214 => (if t213 = 2 then (some 2) else (if t214 = 2 then (some 2) else (some (mx t213 t214))))) = some r := H
 have A3 := aM_ A30
 clear A30
 replace H := oB_ H
 obtain ⟨t214,A40,H⟩ := H
 replace H : (if t213 = 2 then (some 2) else (if t214 = 2 then (some 2) else (some (mx t213 t214)))) = some r := H
 have A4 := aM_ A40
 clear A40
 by_cases c5 : t213 = 2
 ·rw [if_pos c5] at H
  have c5b0 : (t213 == 2) = true := beq_iff_eq.mpr c5
  have c5b1 : (t213 != 2) = false := bne_eq_false_iff_eq.mpr c5
  clear c5
  obtain rfl := Option.some.inj H
  go_enter Try.func73,Try.ntmps73
  try go_wp2_with (first | ((with_reducible refine gate_dst (N := 2) rfl ?_);refine box_event ?hg (N := 2) ?hd (cs := #[.int .i64 a0_0,.int .i64 a0_1]) (t := 34) ?hr ?_;(case hd => rfl);(case hg => rfl);(case hr => first | (go_simp;done) | (go_simp;rfl));intro gb211 hg w6 hbox hb;have n0_ := aM_ (bT_ (by repeat (first | (with_reducible first | exact HB.out | apply bA_ | apply bN_ | apply bD_) | exact HB.out)) hb);have n1_ := aM_ (hbox);have n2_ := aM_ ((by rw [hg];exact (below_size (by repeat (first | (with_reducible first | exact HB.out | apply bA_ | apply bN_ | apply bD_) | exact HB.out))) : w.heap.size ≤ gb211));have n3_ := aM_ ((by rw [hg];exact (below_size (by repeat (first | (with_reducible first | exact HB.out | apply bA_ | apply bN_ | apply bD_) | exact HB.out))) : w.heap.size ≤ gb211));clear HB;have HB := n0_;have BK211 := n1_;have GW211 := n2_;have GE211 := n3_;clear n0_ n1_ n2_ n3_;clear hb hbox hg) | ((with_reducible refine gate_dst (N := 3) rfl ?_);refine box_event ?hg (N := 3) ?hd (cs := #[.int .i64 a1_0,.int .i64 a1_1]) (t := 34) ?hr ?_;(case hd => rfl);(case hg => rfl);(case hr => first | (go_simp;done) | (go_simp;rfl));intro gb212 hg w7 hbox hb;have n0_ := aM_ (kB_ (g := gb211) (o := .cells #[.int .i64 a0_0,.int .i64 a0_1] 34 (0,0)) (by (with_reducible repeat (first | refine kN_ ?_ _ | refine kD_ ?_ | refine kA_ ?_ _));exact BK211.out) hb);have n1_ := aM_ (bT_ (by repeat (first | (with_reducible first | exact HB.out | apply bA_ | apply bN_ | apply bD_ | refine bS_ ?_ GE211.out) | exact HB.out)) hb);have n2_ := aM_ (hbox);have n3_ := aM_ ((by rw [hg];exact (below_size (by repeat (first | (with_reducible first | exact HB.out | apply bA_ | apply bN_ | apply bD_ | refine bS_ ?_ GE211.out) | exact HB.out))) : w.heap.size ≤ gb212));have n4_ := aM_ ((by rw [hg];exact (below_size (by repeat (first | (with_reducible first | exact HB.out | apply bA_ | apply bN_ | apply bD_ | refine bS_ ?_ GE211.out) | exact HB.out))) : w.heap.size ≤ gb212));have n5_ := aM_ ((by rw [hg];exact Nat.ne_of_lt (blk_lt (g := gb211) (o := .cells #[.int .i64 a0_0,.int .i64 a0_1] 34 (0,0)) (by (with_reducible repeat (first | refine kN_ ?_ _ | refine kD_ ?_ | refine kA_ ?_ _));exact BK211.out)) : gb211 ≠ gb212));have n6_ := aM_ ((by rw [hg];exact Nat.ne_of_gt (blk_lt (g := gb211) (o := .cells #[.int .i64 a0_0,.int .i64 a0_1] 34 (0,0)) (by (with_reducible repeat (first | refine kN_ ?_ _ | refine kD_ ?_ | refine kA_ ?_ _));exact BK211.out)) : gb212 ≠ gb211));clear BK211;clear HB;have BK211 := n0_;have HB := n1_;have BK212 := n2_;have GW212 := n3_;have GE212 := n4_;have NB211_212 := n5_;have NB212_211 := n6_;clear n0_ n1_ n2_ n3_ n4_ n5_ n6_;clear hb hbox hg))
  have n0_ := aM_ (kD_ BK211.out)
  have n1_ := aM_ (kD_ BK212.out)
  have n2_ := aM_ (bD_ HB.out)
  clear BK211
  clear BK212
  clear HB
  have BK211 := n0_
  have BK212 := n1_
  have HB := n2_
  clear n0_ n1_ n2_
  refine start_ (n := 6) (S := fun w' => w'.cell? ⟨gb211,0,none⟩ = some (.int .i64 a0_0) ∧ w'.cell? ⟨gb211,1,none⟩ = some (.int .i64 a0_1) ∧ w'.cell? ⟨gb212,0,none⟩ = some (.int .i64 a1_0) ∧ w'.cell? ⟨gb212,1,none⟩ = some (.int .i64 a1_1)) (ds := []) #[false,false,false,false,false,false] (by kernel_rfl) rfl rfl ⟨(blk_cell BK211.out 0).trans rfl,(blk_cell BK211.out 1).trans rfl,(blk_cell BK212.out 0).trans rfl,(blk_cell BK212.out 1).trans rfl⟩ (fun hHeld => ?_)
  generalize w7.drew = w8 at BK211 BK212 HB hHeld ⊢
  refine take_ (i := 0) (N := some 7) (v := ?_) (a' := ?_) #[true,false,false,false,false,false] rfl rfl (by kernel_rfl) (fun _ _ _ h => h) (Or.inl ⟨by rfl,?_⟩) hHeld ?_ ?_
  rotate_left
  ·rintro w' ⟨s0,s1,s2,s3⟩
   go_simp
   with_reducible rfl
  rotate_left
  ·simp only [Act.put,sB_,sZ_,sS_,i64_w,i32_w]
   rfl
  refine take_ (i := 2) (N := some 9) (v := ?_) (a' := ?_) #[true,false,true,false,false,false] rfl rfl (by kernel_rfl) (fun _ _ _ h => h) (Or.inl ⟨by rfl,?_⟩) hHeld ?_ ?_
  rotate_left
  ·rintro w' ⟨s0,s1,s2,s3⟩
   go_simp
   with_reducible rfl
  rotate_left
  ·simp only [Act.put,sB_,sZ_,sS_,i64_w,i32_w]
   rfl
  refine one_ (i := 1) (N := some 8) #[true,true,true,false,false,false] rfl rfl (by kernel_rfl) (by decide) (fun K hK => ?_)
  refine goes_ Try.func74 (by kernel_rfl) rfl #[.agg #[.int .i64 a0_0,.int .i64 a0_1],.int .i64 (-1000000000),.int .i64 1000000000] (by rfl) rfl rfl (by (try simp only [List.map_toArray,List.map_cons,List.map_nil]);first | done | rfl) ?_
  with_reducible refine (gauge_checkRange.calls k a0_0 a0_1 (-1000000000) 1000000000 t213 _ A3.out).mono ?_
  rintro e w9 ⟨rfl,hb⟩
  refine ⟨_,rfl,?_⟩
  have n0_ := aM_ (kB_ (g := gb211) (o := .cells #[.int .i64 a0_0,.int .i64 a0_1] 34 (0,0)) (by (with_reducible repeat (first | refine kN_ ?_ _ | refine kD_ ?_ | refine kA_ ?_ _));exact BK211.out) hb)
  have n1_ := aM_ (kB_ (g := gb212) (o := .cells #[.int .i64 a1_0,.int .i64 a1_1] 34 (0,0)) (by (with_reducible repeat (first | refine kN_ ?_ _ | refine kD_ ?_ | refine kA_ ?_ _));exact BK212.out) hb)
  have n2_ := aM_ (bT_ (by repeat (first | (with_reducible first | exact HB.out | apply bA_ | apply bN_ | apply bD_ | refine bS_ ?_ GE211.out | refine bS_ ?_ GE212.out) | exact HB.out)) hb)
  clear BK211
  clear BK212
  clear HB
  have BK211 := n0_
  have BK212 := n1_
  have HB := n2_
  clear n0_ n1_ n2_
  (try clear hb)
  (try clear hb2)
  (try clear hk)
  (try clear hi)
  refine hK.out _ _ ⟨(blk_cell BK211.out 0).trans rfl,(blk_cell BK211.out 1).trans rfl,(blk_cell BK212.out 0).trans rfl,(blk_cell BK212.out 1).trans rfl⟩ (fun hHeld => ?_)
  clear hK K
  refine norm_ (a' := ?_) ?_ ?_
  rotate_left
  ·show Act.put _ (some 8) _ = _
   simp only [Act.put,sB_,sZ_,sS_,i64_w,i32_w]
   rfl
  refine one_ (i := 3) (N := some 10) #[true,true,true,true,false,false] rfl rfl (by kernel_rfl) (by decide) (fun K hK => ?_)
  refine goes_ Try.func74 (by kernel_rfl) rfl #[.agg #[.int .i64 a1_0,.int .i64 a1_1],.int .i64 (-1000000),.int .i64 1000000] (by rfl) rfl rfl (by (try simp only [List.map_toArray,List.map_cons,List.map_nil]);first | done | rfl) ?_
  with_reducible refine (gauge_checkRange.calls k a1_0 a1_1 (-1000000) 1000000 t214 _ A4.out).mono ?_
  rintro e w10 ⟨rfl,hb⟩
  refine ⟨_,rfl,?_⟩
  have n0_ := aM_ (kB_ (g := gb211) (o := .cells #[.int .i64 a0_0,.int .i64 a0_1] 34 (0,0)) (by (with_reducible repeat (first | refine kN_ ?_ _ | refine kD_ ?_ | refine kA_ ?_ _));exact BK211.out) hb)
  have n1_ := aM_ (kB_ (g := gb212) (o := .cells #[.int .i64 a1_0,.int .i64 a1_1] 34 (0,0)) (by (with_reducible repeat (first | refine kN_ ?_ _ | refine kD_ ?_ | refine kA_ ?_ _));exact BK212.out) hb)
  have n2_ := aM_ (bT_ (by repeat (first | (with_reducible first | exact HB.out | apply bA_ | apply bN_ | apply bD_ | refine bS_ ?_ GE211.out | refine bS_ ?_ GE212.out) | exact HB.out)) hb)
  clear BK211
  clear BK212
  clear HB
  have BK211 := n0_
  have BK212 := n1_
  have HB := n2_
  clear n0_ n1_ n2_
  (try clear hb)
  (try clear hb2)
  (try clear hk)
  (try clear hi)
  refine hK.out _ _ ⟨(blk_cell BK211.out 0).trans rfl,(blk_cell BK211.out 1).trans rfl,(blk_cell BK212.out 0).trans rfl,(blk_cell BK212.out 1).trans rfl⟩ (fun hHeld => ?_)
  clear hK K
  refine norm_ (a' := ?_) ?_ ?_
  rotate_left
  ·show Act.put _ (some 10) _ = _
   simp only [Act.put,sB_,sZ_,sS_,i64_w,i32_w]
   rfl
  refine pure_ (i := 4) (N := some 5) (v := ?_) (a' := ?_) #[true,true,true,true,true,false] rfl rfl (by kernel_rfl) (fun _ _ _ h => h) (Or.inl ⟨by rfl,?_⟩) ?_ ?_
  rotate_left
  ·intro w'
   go_simp
   with_reducible rfl
  rotate_left
  ·simp only [Act.put,sB_,sZ_,sS_,i64_w,i32_w]
   rfl
  refine pure_ (i := 5) (N := some 6) (v := ?_) (a' := ?_) #[true,true,true,true,true,true] rfl rfl (by kernel_rfl) (fun _ _ _ h => h) (Or.inl ⟨by rfl,?_⟩) ?_ ?_
  rotate_left
  ·intro w'
   go_simp
   with_reducible rfl
  rotate_left
  ·simp only [Act.put,sB_,sZ_,sS_,i64_w,i32_w]
   rfl
  refine done_ (by kernel_rfl) ?_
  try go_wp2
  go_ret
  exact ⟨by first | rfl | (simp [*] <;> rfl),by repeat (first | (with_reducible first | exact HB.out | apply bA_ | apply bN_ | apply bD_ | refine bS_ ?_ GE211.out | refine bS_ ?_ GE212.out) | exact HB.out)⟩
 ·rw [if_neg c5] at H
  have c5b0 : (t213 == 2) = false := beq_eq_false_iff_ne.mpr c5
  have c5b1 : (t213 != 2) = true := bne_iff_ne.mpr c5
  by_cases c11 : t214 = 2
  ·rw [if_pos c11] at H
   have c11b0 : (t214 == 2) = true := beq_iff_eq.mpr c11
   have c11b1 : (t214 != 2) = false := bne_eq_false_iff_eq.mpr c11
   clear c11
   obtain rfl := Option.some.inj H
   go_enter Try.func73,Try.ntmps73
   try go_wp2_with (first | ((with_reducible refine gate_dst (N := 2) rfl ?_);refine box_event ?hg (N := 2) ?hd (cs := #[.int .i64 a0_0,.int .i64 a0_1]) (t := 34) ?hr ?_;(case hd => rfl);(case hg => rfl);(case hr => first | (go_simp;done) | (go_simp;rfl));intro gb211 hg w12 hbox hb;have n0_ := aM_ (bT_ (by repeat (first | (with_reducible first | exact HB.out | apply bA_ | apply bN_ | apply bD_) | exact HB.out)) hb);have n1_ := aM_ (hbox);have n2_ := aM_ ((by rw [hg];exact (below_size (by repeat (first | (with_reducible first | exact HB.out | apply bA_ | apply bN_ | apply bD_) | exact HB.out))) : w.heap.size ≤ gb211));have n3_ := aM_ ((by rw [hg];exact (below_size (by repeat (first | (with_reducible first | exact HB.out | apply bA_ | apply bN_ | apply bD_) | exact HB.out))) : w.heap.size ≤ gb211));clear HB;have HB := n0_;have BK211 := n1_;have GW211 := n2_;have GE211 := n3_;clear n0_ n1_ n2_ n3_;clear hb hbox hg) | ((with_reducible refine gate_dst (N := 3) rfl ?_);refine box_event ?hg (N := 3) ?hd (cs := #[.int .i64 a1_0,.int .i64 a1_1]) (t := 34) ?hr ?_;(case hd => rfl);(case hg => rfl);(case hr => first | (go_simp;done) | (go_simp;rfl));intro gb212 hg w13 hbox hb;have n0_ := aM_ (kB_ (g := gb211) (o := .cells #[.int .i64 a0_0,.int .i64 a0_1] 34 (0,0)) (by (with_reducible repeat (first | refine kN_ ?_ _ | refine kD_ ?_ | refine kA_ ?_ _));exact BK211.out) hb);have n1_ := aM_ (bT_ (by repeat (first | (with_reducible first | exact HB.out | apply bA_ | apply bN_ | apply bD_ | refine bS_ ?_ GE211.out) | exact HB.out)) hb);have n2_ := aM_ (hbox);have n3_ := aM_ ((by rw [hg];exact (below_size (by repeat (first | (with_reducible first | exact HB.out | apply bA_ | apply bN_ | apply bD_ | refine bS_ ?_ GE211.out) | exact HB.out))) : w.heap.size ≤ gb212));have n4_ := aM_ ((by rw [hg];exact (below_size (by repeat (first | (with_reducible first | exact HB.out | apply bA_ | apply bN_ | apply bD_ | refine bS_ ?_ GE211.out) | exact HB.out))) : w.heap.size ≤ gb212));have n5_ := aM_ ((by rw [hg];exact Nat.ne_of_lt (blk_lt (g := gb211) (o := .cells #[.int .i64 a0_0,.int .i64 a0_1] 34 (0,0)) (by (with_reducible repeat (first | refine kN_ ?_ _ | refine kD_ ?_ | refine kA_ ?_ _));exact BK211.out)) : gb211 ≠ gb212));have n6_ := aM_ ((by rw [hg];exact Nat.ne_of_gt (blk_lt (g := gb211) (o := .cells #[.int .i64 a0_0,.int .i64 a0_1] 34 (0,0)) (by (with_reducible repeat (first | refine kN_ ?_ _ | refine kD_ ?_ | refine kA_ ?_ _));exact BK211.out)) : gb212 ≠ gb211));clear BK211;clear HB;have BK211 := n0_;have HB := n1_;have BK212 := n2_;have GW212 := n3_;have GE212 := n4_;have NB211_212 := n5_;have NB212_211 := n6_;clear n0_ n1_ n2_ n3_ n4_ n5_ n6_;clear hb hbox hg))
   have n0_ := aM_ (kD_ BK211.out)
   have n1_ := aM_ (kD_ BK212.out)
   have n2_ := aM_ (bD_ HB.out)
   clear BK211
   clear BK212
   clear HB
   have BK211 := n0_
   have BK212 := n1_
   have HB := n2_
   clear n0_ n1_ n2_
   refine start_ (n := 6) (S := fun w' => w'.cell? ⟨gb211,0,none⟩ = some (.int .i64 a0_0) ∧ w'.cell? ⟨gb211,1,none⟩ = some (.int .i64 a0_1) ∧ w'.cell? ⟨gb212,0,none⟩ = some (.int .i64 a1_0) ∧ w'.cell? ⟨gb212,1,none⟩ = some (.int .i64 a1_1)) (ds := []) #[false,false,false,false,false,false] (by kernel_rfl) rfl rfl ⟨(blk_cell BK211.out 0).trans rfl,(blk_cell BK211.out 1).trans rfl,(blk_cell BK212.out 0).trans rfl,(blk_cell BK212.out 1).trans rfl⟩ (fun hHeld => ?_)
   generalize w13.drew = w14 at BK211 BK212 HB hHeld ⊢
   refine take_ (i := 0) (N := some 7) (v := ?_) (a' := ?_) #[true,false,false,false,false,false] rfl rfl (by kernel_rfl) (fun _ _ _ h => h) (Or.inl ⟨by rfl,?_⟩) hHeld ?_ ?_
   rotate_left
   ·rintro w' ⟨s0,s1,s2,s3⟩
    go_simp
    with_reducible rfl
   rotate_left
   ·simp only [Act.put,sB_,sZ_,sS_,i64_w,i32_w]
    rfl
   refine take_ (i := 2) (N := some 9) (v := ?_) (a' := ?_) #[true,false,true,false,false,false] rfl rfl (by kernel_rfl) (fun _ _ _ h => h) (Or.inl ⟨by rfl,?_⟩) hHeld ?_ ?_
   rotate_left
   ·rintro w' ⟨s0,s1,s2,s3⟩
    go_simp
    with_reducible rfl
   rotate_left
   ·simp only [Act.put,sB_,sZ_,sS_,i64_w,i32_w]
    rfl
   refine one_ (i := 1) (N := some 8) #[true,true,true,false,false,false] rfl rfl (by kernel_rfl) (by decide) (fun K hK => ?_)
   refine goes_ Try.func74 (by kernel_rfl) rfl #[.agg #[.int .i64 a0_0,.int .i64 a0_1],.int .i64 (-1000000000),.int .i64 1000000000] (by rfl) rfl rfl (by (try simp only [List.map_toArray,List.map_cons,List.map_nil]);first | done | rfl) ?_
   with_reducible refine (gauge_checkRange.calls k a0_0 a0_1 (-1000000000) 1000000000 t213 _ A3.out).mono ?_
   rintro e w15 ⟨rfl,hb⟩
   refine ⟨_,rfl,?_⟩
   have n0_ := aM_ (kB_ (g := gb211) (o := .cells #[.int .i64 a0_0,.int .i64 a0_1] 34 (0,0)) (by (with_reducible repeat (first | refine kN_ ?_ _ | refine kD_ ?_ | refine kA_ ?_ _));exact BK211.out) hb)
   have n1_ := aM_ (kB_ (g := gb212) (o := .cells #[.int .i64 a1_0,.int .i64 a1_1] 34 (0,0)) (by (with_reducible repeat (first | refine kN_ ?_ _ | refine kD_ ?_ | refine kA_ ?_ _));exact BK212.out) hb)
   have n2_ := aM_ (bT_ (by repeat (first | (with_reducible first | exact HB.out | apply bA_ | apply bN_ | apply bD_ | refine bS_ ?_ GE211.out | refine bS_ ?_ GE212.out) | exact HB.out)) hb)
   clear BK211
   clear BK212
   clear HB
   have BK211 := n0_
   have BK212 := n1_
   have HB := n2_
   clear n0_ n1_ n2_
   (try clear hb)
   (try clear hb2)
   (try clear hk)
   (try clear hi)
   refine hK.out _ _ ⟨(blk_cell BK211.out 0).trans rfl,(blk_cell BK211.out 1).trans rfl,(blk_cell BK212.out 0).trans rfl,(blk_cell BK212.out 1).trans rfl⟩ (fun hHeld => ?_)
   clear hK K
   refine norm_ (a' := ?_) ?_ ?_
   rotate_left
   ·show Act.put _ (some 8) _ = _
    simp only [Act.put,sB_,sZ_,sS_,i64_w,i32_w]
    rfl
   refine one_ (i := 3) (N := some 10) #[true,true,true,true,false,false] rfl rfl (by kernel_rfl) (by decide) (fun K hK => ?_)
   refine goes_ Try.func74 (by kernel_rfl) rfl #[.agg #[.int .i64 a1_0,.int .i64 a1_1],.int .i64 (-1000000),.int .i64 1000000] (by rfl) rfl rfl (by (try simp only [List.map_toArray,List.map_cons,List.map_nil]);first | done | rfl) ?_
   with_reducible refine (gauge_checkRange.calls k a1_0 a1_1 (-1000000) 1000000 t214 _ A4.out).mono ?_
   rintro e w16 ⟨rfl,hb⟩
   refine ⟨_,rfl,?_⟩
   have n0_ := aM_ (kB_ (g := gb211) (o := .cells #[.int .i64 a0_0,.int .i64 a0_1] 34 (0,0)) (by (with_reducible repeat (first | refine kN_ ?_ _ | refine kD_ ?_ | refine kA_ ?_ _));exact BK211.out) hb)
   have n1_ := aM_ (kB_ (g := gb212) (o := .cells #[.int .i64 a1_0,.int .i64 a1_1] 34 (0,0)) (by (with_reducible repeat (first | refine kN_ ?_ _ | refine kD_ ?_ | refine kA_ ?_ _));exact BK212.out) hb)
   have n2_ := aM_ (bT_ (by repeat (first | (with_reducible first | exact HB.out | apply bA_ | apply bN_ | apply bD_ | refine bS_ ?_ GE211.out | refine bS_ ?_ GE212.out) | exact HB.out)) hb)
   clear BK211
   clear BK212
   clear HB
   have BK211 := n0_
   have BK212 := n1_
   have HB := n2_
   clear n0_ n1_ n2_
   (try clear hb)
   (try clear hb2)
   (try clear hk)
   (try clear hi)
   refine hK.out _ _ ⟨(blk_cell BK211.out 0).trans rfl,(blk_cell BK211.out 1).trans rfl,(blk_cell BK212.out 0).trans rfl,(blk_cell BK212.out 1).trans rfl⟩ (fun hHeld => ?_)
   clear hK K
   refine norm_ (a' := ?_) ?_ ?_
   rotate_left
   ·show Act.put _ (some 10) _ = _
    simp only [Act.put,sB_,sZ_,sS_,i64_w,i32_w]
    rfl
   refine pure_ (i := 4) (N := some 5) (v := ?_) (a' := ?_) #[true,true,true,true,true,false] rfl rfl (by kernel_rfl) (fun _ _ _ h => h) (Or.inl ⟨by rfl,?_⟩) ?_ ?_
   rotate_left
   ·intro w'
    go_simp
    with_reducible rfl
   rotate_left
   ·simp only [Act.put,sB_,sZ_,sS_,i64_w,i32_w]
    rfl
   refine pure_ (i := 5) (N := some 6) (v := ?_) (a' := ?_) #[true,true,true,true,true,true] rfl rfl (by kernel_rfl) (fun _ _ _ h => h) (Or.inl ⟨by rfl,?_⟩) ?_ ?_
   rotate_left
   ·intro w'
    go_simp
    with_reducible rfl
   rotate_left
   ·simp only [Act.put,sB_,sZ_,sS_,i64_w,i32_w]
    rfl
   refine done_ (by kernel_rfl) ?_
   try go_wp2
   go_ret
   exact ⟨by first | rfl | (simp [*] <;> rfl),by repeat (first | (with_reducible first | exact HB.out | apply bA_ | apply bN_ | apply bD_ | refine bS_ ?_ GE211.out | refine bS_ ?_ GE212.out) | exact HB.out)⟩
  ·rw [if_neg c11] at H
   have c11b0 : (t214 == 2) = false := beq_eq_false_iff_ne.mpr c11
   have c11b1 : (t214 != 2) = true := bne_iff_ne.mpr c11
   obtain ⟨ji17,hji17⟩ : ∃ j_ : Int,(mx t213 t214) = j_ := ⟨_,rfl⟩
   replace H : (some ji17) = some r := by first | (rw [hji17] at H;exact H) | (simp only [hji17] at H ⊢;exact H)
   (try rw [hji17] at A3)
   (try rw [hji17] at A4)
   have hji17_ : (if t213 < t214 then t214 else t213) = ji17 := hji17
   obtain rfl := Option.some.inj H
   go_enter Try.func73,Try.ntmps73
   try go_wp2_with (first | ((with_reducible refine gate_dst (N := 2) rfl ?_);refine box_event ?hg (N := 2) ?hd (cs := #[.int .i64 a0_0,.int .i64 a0_1]) (t := 34) ?hr ?_;(case hd => rfl);(case hg => rfl);(case hr => first | (go_simp;done) | (go_simp;rfl));intro gb211 hg w18 hbox hb;have n0_ := aM_ (bT_ (by repeat (first | (with_reducible first | exact HB.out | apply bA_ | apply bN_ | apply bD_) | exact HB.out)) hb);have n1_ := aM_ (hbox);have n2_ := aM_ ((by rw [hg];exact (below_size (by repeat (first | (with_reducible first | exact HB.out | apply bA_ | apply bN_ | apply bD_) | exact HB.out))) : w.heap.size ≤ gb211));have n3_ := aM_ ((by rw [hg];exact (below_size (by repeat (first | (with_reducible first | exact HB.out | apply bA_ | apply bN_ | apply bD_) | exact HB.out))) : w.heap.size ≤ gb211));clear HB;have HB := n0_;have BK211 := n1_;have GW211 := n2_;have GE211 := n3_;clear n0_ n1_ n2_ n3_;clear hb hbox hg) | ((with_reducible refine gate_dst (N := 3) rfl ?_);refine box_event ?hg (N := 3) ?hd (cs := #[.int .i64 a1_0,.int .i64 a1_1]) (t := 34) ?hr ?_;(case hd => rfl);(case hg => rfl);(case hr => first | (go_simp;done) | (go_simp;rfl));intro gb212 hg w19 hbox hb;have n0_ := aM_ (kB_ (g := gb211) (o := .cells #[.int .i64 a0_0,.int .i64 a0_1] 34 (0,0)) (by (with_reducible repeat (first | refine kN_ ?_ _ | refine kD_ ?_ | refine kA_ ?_ _));exact BK211.out) hb);have n1_ := aM_ (bT_ (by repeat (first | (with_reducible first | exact HB.out | apply bA_ | apply bN_ | apply bD_ | refine bS_ ?_ GE211.out) | exact HB.out)) hb);have n2_ := aM_ (hbox);have n3_ := aM_ ((by rw [hg];exact (below_size (by repeat (first | (with_reducible first | exact HB.out | apply bA_ | apply bN_ | apply bD_ | refine bS_ ?_ GE211.out) | exact HB.out))) : w.heap.size ≤ gb212));have n4_ := aM_ ((by rw [hg];exact (below_size (by repeat (first | (with_reducible first | exact HB.out | apply bA_ | apply bN_ | apply bD_ | refine bS_ ?_ GE211.out) | exact HB.out))) : w.heap.size ≤ gb212));have n5_ := aM_ ((by rw [hg];exact Nat.ne_of_lt (blk_lt (g := gb211) (o := .cells #[.int .i64 a0_0,.int .i64 a0_1] 34 (0,0)) (by (with_reducible repeat (first | refine kN_ ?_ _ | refine kD_ ?_ | refine kA_ ?_ _));exact BK211.out)) : gb211 ≠ gb212));have n6_ := aM_ ((by rw [hg];exact Nat.ne_of_gt (blk_lt (g := gb211) (o := .cells #[.int .i64 a0_0,.int .i64 a0_1] 34 (0,0)) (by (with_reducible repeat (first | refine kN_ ?_ _ | refine kD_ ?_ | refine kA_ ?_ _));exact BK211.out)) : gb212 ≠ gb211));clear BK211;clear HB;have BK211 := n0_;have HB := n1_;have BK212 := n2_;have GW212 := n3_;have GE212 := n4_;have NB211_212 := n5_;have NB212_211 := n6_;clear n0_ n1_ n2_ n3_ n4_ n5_ n6_;clear hb hbox hg))
   have n0_ := aM_ (kD_ BK211.out)
   have n1_ := aM_ (kD_ BK212.out)
   have n2_ := aM_ (bD_ HB.out)
   clear BK211
   clear BK212
   clear HB
   have BK211 := n0_
   have BK212 := n1_
   have HB := n2_
   clear n0_ n1_ n2_
   refine start_ (n := 6) (S := fun w' => w'.cell? ⟨gb211,0,none⟩ = some (.int .i64 a0_0) ∧ w'.cell? ⟨gb211,1,none⟩ = some (.int .i64 a0_1) ∧ w'.cell? ⟨gb212,0,none⟩ = some (.int .i64 a1_0) ∧ w'.cell? ⟨gb212,1,none⟩ = some (.int .i64 a1_1)) (ds := []) #[false,false,false,false,false,false] (by kernel_rfl) rfl rfl ⟨(blk_cell BK211.out 0).trans rfl,(blk_cell BK211.out 1).trans rfl,(blk_cell BK212.out 0).trans rfl,(blk_cell BK212.out 1).trans rfl⟩ (fun hHeld => ?_)
   generalize w19.drew = w20 at BK211 BK212 HB hHeld ⊢
   refine take_ (i := 0) (N := some 7) (v := ?_) (a' := ?_) #[true,false,false,false,false,false] rfl rfl (by kernel_rfl) (fun _ _ _ h => h) (Or.inl ⟨by rfl,?_⟩) hHeld ?_ ?_
   rotate_left
   ·rintro w' ⟨s0,s1,s2,s3⟩
    go_simp
    with_reducible rfl
   rotate_left
   ·simp only [Act.put,sB_,sZ_,sS_,i64_w,i32_w]
    rfl
   refine take_ (i := 2) (N := some 9) (v := ?_) (a' := ?_) #[true,false,true,false,false,false] rfl rfl (by kernel_rfl) (fun _ _ _ h => h) (Or.inl ⟨by rfl,?_⟩) hHeld ?_ ?_
   rotate_left
   ·rintro w' ⟨s0,s1,s2,s3⟩
    go_simp
    with_reducible rfl
   rotate_left
   ·simp only [Act.put,sB_,sZ_,sS_,i64_w,i32_w]
    rfl
   refine one_ (i := 1) (N := some 8) #[true,true,true,false,false,false] rfl rfl (by kernel_rfl) (by decide) (fun K hK => ?_)
   refine goes_ Try.func74 (by kernel_rfl) rfl #[.agg #[.int .i64 a0_0,.int .i64 a0_1],.int .i64 (-1000000000),.int .i64 1000000000] (by rfl) rfl rfl (by (try simp only [List.map_toArray,List.map_cons,List.map_nil]);first | done | rfl) ?_
   with_reducible refine (gauge_checkRange.calls k a0_0 a0_1 (-1000000000) 1000000000 t213 _ A3.out).mono ?_
   rintro e w21 ⟨rfl,hb⟩
   refine ⟨_,rfl,?_⟩
   have n0_ := aM_ (kB_ (g := gb211) (o := .cells #[.int .i64 a0_0,.int .i64 a0_1] 34 (0,0)) (by (with_reducible repeat (first | refine kN_ ?_ _ | refine kD_ ?_ | refine kA_ ?_ _));exact BK211.out) hb)
   have n1_ := aM_ (kB_ (g := gb212) (o := .cells #[.int .i64 a1_0,.int .i64 a1_1] 34 (0,0)) (by (with_reducible repeat (first | refine kN_ ?_ _ | refine kD_ ?_ | refine kA_ ?_ _));exact BK212.out) hb)
   have n2_ := aM_ (bT_ (by repeat (first | (with_reducible first | exact HB.out | apply bA_ | apply bN_ | apply bD_ | refine bS_ ?_ GE211.out | refine bS_ ?_ GE212.out) | exact HB.out)) hb)
   clear BK211
   clear BK212
   clear HB
   have BK211 := n0_
   have BK212 := n1_
   have HB := n2_
   clear n0_ n1_ n2_
   (try clear hb)
   (try clear hb2)
   (try clear hk)
   (try clear hi)
   refine hK.out _ _ ⟨(blk_cell BK211.out 0).trans rfl,(blk_cell BK211.out 1).trans rfl,(blk_cell BK212.out 0).trans rfl,(blk_cell BK212.out 1).trans rfl⟩ (fun hHeld => ?_)
   clear hK K
   refine norm_ (a' := ?_) ?_ ?_
   rotate_left
   ·show Act.put _ (some 8) _ = _
    simp only [Act.put,sB_,sZ_,sS_,i64_w,i32_w]
    rfl
   refine one_ (i := 3) (N := some 10) #[true,true,true,true,false,false] rfl rfl (by kernel_rfl) (by decide) (fun K hK => ?_)
   refine goes_ Try.func74 (by kernel_rfl) rfl #[.agg #[.int .i64 a1_0,.int .i64 a1_1],.int .i64 (-1000000),.int .i64 1000000] (by rfl) rfl rfl (by (try simp only [List.map_toArray,List.map_cons,List.map_nil]);first | done | rfl) ?_
   with_reducible refine (gauge_checkRange.calls k a1_0 a1_1 (-1000000) 1000000 t214 _ A4.out).mono ?_
   rintro e w22 ⟨rfl,hb⟩
   refine ⟨_,rfl,?_⟩
   have n0_ := aM_ (kB_ (g := gb211) (o := .cells #[.int .i64 a0_0,.int .i64 a0_1] 34 (0,0)) (by (with_reducible repeat (first | refine kN_ ?_ _ | refine kD_ ?_ | refine kA_ ?_ _));exact BK211.out) hb)
   have n1_ := aM_ (kB_ (g := gb212) (o := .cells #[.int .i64 a1_0,.int .i64 a1_1] 34 (0,0)) (by (with_reducible repeat (first | refine kN_ ?_ _ | refine kD_ ?_ | refine kA_ ?_ _));exact BK212.out) hb)
   have n2_ := aM_ (bT_ (by repeat (first | (with_reducible first | exact HB.out | apply bA_ | apply bN_ | apply bD_ | refine bS_ ?_ GE211.out | refine bS_ ?_ GE212.out) | exact HB.out)) hb)
   clear BK211
   clear BK212
   clear HB
   have BK211 := n0_
   have BK212 := n1_
   have HB := n2_
   clear n0_ n1_ n2_
   (try clear hb)
   (try clear hb2)
   (try clear hk)
   (try clear hi)
   refine hK.out _ _ ⟨(blk_cell BK211.out 0).trans rfl,(blk_cell BK211.out 1).trans rfl,(blk_cell BK212.out 0).trans rfl,(blk_cell BK212.out 1).trans rfl⟩ (fun hHeld => ?_)
   clear hK K
   refine norm_ (a' := ?_) ?_ ?_
   rotate_left
   ·show Act.put _ (some 10) _ = _
    simp only [Act.put,sB_,sZ_,sS_,i64_w,i32_w]
    rfl
   refine pure_ (i := 4) (N := some 5) (v := ?_) (a' := ?_) #[true,true,true,true,true,false] rfl rfl (by kernel_rfl) (fun _ _ _ h => h) (Or.inl ⟨by rfl,?_⟩) ?_ ?_
   rotate_left
   ·intro w'
    go_simp
    with_reducible rfl
   rotate_left
   ·simp only [Act.put,sB_,sZ_,sS_,i64_w,i32_w]
    rfl
   refine pure_ (i := 5) (N := some 6) (v := ?_) (a' := ?_) #[true,true,true,true,true,true] rfl rfl (by kernel_rfl) (fun _ _ _ h => h) (Or.inl ⟨by rfl,?_⟩) ?_ ?_
   rotate_left
   ·intro w'
    go_simp
    with_reducible rfl
   rotate_left
   ·simp only [Act.put,sB_,sZ_,sS_,i64_w,i32_w]
    rfl
   refine done_ (by kernel_rfl) ?_
   try go_wp2
   go_ret
   exact ⟨by first | rfl | (simp [errW_none,errW_some] <;> rfl) | (simp only [← hji17];first | rfl | (simp [errW_none,errW_some] <;> rfl)) | (simp [*,errW_none,errW_some] <;> rfl),by repeat (first | (with_reducible first | exact HB.out | apply bA_ | apply bN_ | apply bD_ | refine bS_ ?_ GE211.out | refine bS_ ?_ GE212.out) | exact HB.out)⟩

/-! ### gauge_aged: function 78 -/
def gauge_aged.f (a0_0 : Int) (a0_1 : Int) (a1_0 : Int) (a1_1 : Int) (a2 : Int) : Option (Int × Int) := (gauge_down.f (wrap64 (a2 * a1_0)) 1000).bind fun t218 => ((gauge_up.f (wrap64 (a2 * a1_1)) 1000).bind fun t219 => (some (wrap64 (a0_0 + t218),wrap64 (a0_1 + t219))))
def gauge_aged.T1 : Bool × List (List Nat × List Nat) := (true,[([],[]),([0],[0]),([],[]),([],[]),([3],[3]),([2,4],[2,4]),([5],[5]),([1,6],[1,6]),([],[]),([8],[8]),([],[]),([],[]),([11],[11]),([10,12],[10,12]),([13,6],[13]),([9,14],[9,14]),([7,15],[7,15]),([16,14,0,1,2,3,4,5,6,7,8,9,10,11,12,13,14,15,16],[16])])
def gauge_aged.B1 : List Nat := [0,1,0,0,8,28,60,127,0,256,0,0,2048,7168,15484,32636,65535,131071]
theorem gauge_aged.tab1 : rtab .any (opsOf Try.f78 1) = gauge_aged.T1 := by kernel_rfl
theorem gauge_aged.bits1 : waitsOk gauge_aged.T1.2 gauge_aged.B1 = true := by kernel_rfl
set_option maxHeartbeats 8000000 in
set_option maxRecDepth 100000 in
theorem gauge_aged.calls (a0_0 : Int) (a0_1 : Int) (a1_0 : Int) (a1_1 : Int) (a2 : Int) (r1 : Int) (r2 : Int) (w : World) (h : gauge_aged.f a0_0 a0_1 a1_0 a1_1 a2 = some (r1,r2)) :
  Calls Try.prog 78 #[.agg #[.int .i64 a0_0,.int .i64 a0_1],.agg #[.int .i64 a1_0,.int .i64 a1_1],.int .i64 a2] w fun e w' => e = .returned (.agg #[.int .i64 r1,.int .i64 r2]) ∧ Below w.heap.size w w' := by
 have hu34 := Try.underlying34
 have HB := aM_ (Below.refl w.heap.size w)
 have H : ((gauge_down.f (wrap64 (a2 * a1_0)) 1000).bind fun t218 => ((gauge_up.f (wrap64 (a2 * a1_1)) 1000).bind fun t219 => (some (wrap64 (a0_0 + t218),wrap64 (a0_1 + t219))))) = some (r1,r2) := h
 clear h
 replace H := oB_ H
 obtain ⟨t218,A40,H⟩ := H
 replace H : ((gauge_up.f (wrap64 (a2 * a1_1)) 1000).bind fun t219 => (some (wrap64 (a0_0 + t218),wrap64 (a0_1 + t219)))) = some (r1,r2) := H
 have A4 := aM_ A40
 clear A40
 replace H := oB_ H
 obtain ⟨t219,A50,H⟩ := H
 replace H : (some (wrap64 (a0_0 + t218),wrap64 (a0_1 + t219))) = some (r1,r2) := H
 have A5 := aM_ A50
 clear A50
 simp only [Option.some.injEq,Prod.mk.injEq] at H
 obtain ⟨rfl,rfl⟩ := H
 go_enter Try.func78,Try.ntmps78
 try go_wp2_with (first | ((with_reducible refine gate_dst (N := 3) rfl ?_);refine box_event ?hg (N := 3) ?hd (cs := #[.int .i64 a0_0,.int .i64 a0_1]) (t := 34) ?hr ?_;(case hd => rfl);(case hg => rfl);(case hr => first | (go_simp;done) | (go_simp;rfl));intro gb215 hg w6 hbox hb;have n0_ := aM_ (bT_ (by repeat (first | (with_reducible first | exact HB.out | apply bA_ | apply bN_ | apply bD_) | exact HB.out)) hb);have n1_ := aM_ (hbox);have n2_ := aM_ ((by rw [hg];exact (below_size (by repeat (first | (with_reducible first | exact HB.out | apply bA_ | apply bN_ | apply bD_) | exact HB.out))) : w.heap.size ≤ gb215));have n3_ := aM_ ((by rw [hg];exact (below_size (by repeat (first | (with_reducible first | exact HB.out | apply bA_ | apply bN_ | apply bD_) | exact HB.out))) : w.heap.size ≤ gb215));clear HB;have HB := n0_;have BK215 := n1_;have GW215 := n2_;have GE215 := n3_;clear n0_ n1_ n2_ n3_;clear hb hbox hg) | ((with_reducible refine gate_dst (N := 4) rfl ?_);refine box_event ?hg (N := 4) ?hd (cs := #[.int .i64 a1_0,.int .i64 a1_1]) (t := 34) ?hr ?_;(case hd => rfl);(case hg => rfl);(case hr => first | (go_simp;done) | (go_simp;rfl));intro gb216 hg w7 hbox hb;have n0_ := aM_ (kB_ (g := gb215) (o := .cells #[.int .i64 a0_0,.int .i64 a0_1] 34 (0,0)) (by (with_reducible repeat (first | refine kN_ ?_ _ | refine kD_ ?_ | refine kA_ ?_ _));exact BK215.out) hb);have n1_ := aM_ (bT_ (by repeat (first | (with_reducible first | exact HB.out | apply bA_ | apply bN_ | apply bD_ | refine bS_ ?_ GE215.out) | exact HB.out)) hb);have n2_ := aM_ (hbox);have n3_ := aM_ ((by rw [hg];exact (below_size (by repeat (first | (with_reducible first | exact HB.out | apply bA_ | apply bN_ | apply bD_ | refine bS_ ?_ GE215.out) | exact HB.out))) : w.heap.size ≤ gb216));have n4_ := aM_ ((by rw [hg];exact (below_size (by repeat (first | (with_reducible first | exact HB.out | apply bA_ | apply bN_ | apply bD_ | refine bS_ ?_ GE215.out) | exact HB.out))) : w.heap.size ≤ gb216));have n5_ := aM_ ((by rw [hg];exact Nat.ne_of_lt (blk_lt (g := gb215) (o := .cells #[.int .i64 a0_0,.int .i64 a0_1] 34 (0,0)) (by (with_reducible repeat (first | refine kN_ ?_ _ | refine kD_ ?_ | refine kA_ ?_ _));exact BK215.out)) : gb215 ≠ gb216));have n6_ := aM_ ((by rw [hg];exact Nat.ne_of_gt (blk_lt (g := gb215) (o := .cells #[.int .i64 a0_0,.int .i64 a0_1] 34 (0,0)) (by (with_reducible repeat (first | refine kN_ ?_ _ | refine kD_ ?_ | refine kA_ ?_ _));exact BK215.out)) : gb216 ≠ gb215));clear BK215;clear HB;have BK215 := n0_;have HB := n1_;have BK216 := n2_;have GW216 := n3_;have GE216 := n4_;have NB215_216 := n5_;have NB216_215 := n6_;clear n0_ n1_ n2_ n3_ n4_ n5_ n6_;clear hb hbox hg) | ((with_reducible refine gate_dst (N := 6) rfl ?_);refine box_event ?hg (N := 6) ?hd (cs := #[.int .i64 0,.int .i64 0]) (t := 34) ?hr ?_;(case hd => rfl);(case hg => rfl);(case hr => first | (go_simp;done) | (go_simp;rfl));intro gb217 hg w8 hbox hb;have n0_ := aM_ (kB_ (g := gb215) (o := .cells #[.int .i64 a0_0,.int .i64 a0_1] 34 (0,0)) (by (with_reducible repeat (first | refine kN_ ?_ _ | refine kD_ ?_ | refine kA_ ?_ _));exact BK215.out) hb);have n1_ := aM_ (kB_ (g := gb216) (o := .cells #[.int .i64 a1_0,.int .i64 a1_1] 34 (0,0)) (by (with_reducible repeat (first | refine kN_ ?_ _ | refine kD_ ?_ | refine kA_ ?_ _));exact BK216.out) hb);have n2_ := aM_ (bT_ (by repeat (first | (with_reducible first | exact HB.out | apply bA_ | apply bN_ | apply bD_ | refine bS_ ?_ GE215.out | refine bS_ ?_ GE216.out) | exact HB.out)) hb);have n3_ := aM_ (hbox);have n4_ := aM_ ((by rw [hg];exact (below_size (by repeat (first | (with_reducible first | exact HB.out | apply bA_ | apply bN_ | apply bD_ | refine bS_ ?_ GE215.out | refine bS_ ?_ GE216.out) | exact HB.out))) : w.heap.size ≤ gb217));have n5_ := aM_ ((by rw [hg];exact (below_size (by repeat (first | (with_reducible first | exact HB.out | apply bA_ | apply bN_ | apply bD_ | refine bS_ ?_ GE215.out | refine bS_ ?_ GE216.out) | exact HB.out))) : w.heap.size ≤ gb217));have n6_ := aM_ ((by rw [hg];exact Nat.ne_of_lt (blk_lt (g := gb215) (o := .cells #[.int .i64 a0_0,.int .i64 a0_1] 34 (0,0)) (by (with_reducible repeat (first | refine kN_ ?_ _ | refine kD_ ?_ | refine kA_ ?_ _));exact BK215.out)) : gb215 ≠ gb217));have n7_ := aM_ ((by rw [hg];exact Nat.ne_of_gt (blk_lt (g := gb215) (o := .cells #[.int .i64 a0_0,.int .i64 a0_1] 34 (0,0)) (by (with_reducible repeat (first | refine kN_ ?_ _ | refine kD_ ?_ | refine kA_ ?_ _));exact BK215.out)) : gb217 ≠ gb215));have n8_ := aM_ ((by rw [hg];exact Nat.ne_of_lt (blk_lt (g := gb216) (o := .cells #[.int .i64 a1_0,.int .i64 a1_1] 34 (0,0)) (by (with_reducible repeat (first | refine kN_ ?_ _ | refine kD_ ?_ | refine kA_ ?_ _));exact BK216.out)) : gb216 ≠ gb217));have n9_ := aM_ ((by rw [hg];exact Nat.ne_of_gt (blk_lt (g := gb216) (o := .cells #[.int .i64 a1_0,.int .i64 a1_1] 34 (0,0)) (by (with_reducible repeat (first | refine kN_ ?_ _ | refine kD_ ?_ | refine kA_ ?_ _));exact BK216.out)) : gb217 ≠ gb216));clear BK215;clear BK216;clear HB;have BK215 := n0_;have BK216 := n1_;have HB := n2_;have BK217 := n3_;have GW217 := n4_;have GE217 := n5_;have NB215_217 := n6_;have NB217_215 := n7_;have NB216_217 := n8_;have NB217_216 := n9_;clear n0_ n1_ n2_ n3_ n4_ n5_ n6_ n7_ n8_ n9_;clear hb hbox hg))
 have n0_ := aM_ (kD_ BK215.out)
 have n1_ := aM_ (kD_ BK216.out)
 have n2_ := aM_ (kD_ BK217.out)
 have n3_ := aM_ (bD_ HB.out)
 clear BK215
 clear BK216
 clear BK217
 clear HB
 have BK215 := n0_
 have BK216 := n1_
 have BK217 := n2_
 have HB := n3_
 clear n0_ n1_ n2_ n3_
 refine start_ (n := 18) (S := fun w' => w'.cell? ⟨gb215,0,none⟩ = some (.int .i64 a0_0) ∧ w'.cell? ⟨gb215,1,none⟩ = some (.int .i64 a0_1) ∧ w'.cell? ⟨gb216,0,none⟩ = some (.int .i64 a1_0) ∧ w'.cell? ⟨gb216,1,none⟩ = some (.int .i64 a1_1)) (ds := []) #[false,false,false,false,false,false,false,false,false,false,false,false,false,false,false,false,false,false] (by kernel_rfl) rfl rfl ⟨(blk_cell BK215.out 0).trans rfl,(blk_cell BK215.out 1).trans rfl,(blk_cell BK216.out 0).trans rfl,(blk_cell BK216.out 1).trans rfl⟩ (fun hHeld => ?_);refine with_tabW gauge_aged.tab1 gauge_aged.bits1 (fun HT_ HW_ => ?_)
 generalize w8.drew = w9 at BK215 BK216 BK217 HB hHeld ⊢
 refine pure_ (i := 0) (N := some 7) (v := ?_) (a' := ?_) #[true,false,false,false,false,false,false,false,false,false,false,false,false,false,false,false,false,false] rfl rfl (any_of HT_.out (by kernel_rfl)) (fun _ _ _ h => h) (Or.inl ⟨by rfl,?_⟩) ?_ ?_
 rotate_left
 ·intro w'
  go_simp
  with_reducible rfl
 rotate_left
 ·simp only [Act.put,sB_,sZ_,sS_,i64_w,i32_w]
  rfl
 refine pure_ (i := 2) (N := some 9) (v := ?_) (a' := ?_) #[true,false,true,false,false,false,false,false,false,false,false,false,false,false,false,false,false,false] rfl rfl (any_of HT_.out (by kernel_rfl)) (fun _ _ _ h => h) (Or.inl ⟨by rfl,?_⟩) ?_ ?_
 rotate_left
 ·intro w'
  go_simp
  with_reducible rfl
 rotate_left
 ·simp only [Act.put,sB_,sZ_,sS_,i64_w,i32_w]
  rfl
 refine pure_ (i := 3) (N := some 10) (v := ?_) (a' := ?_) #[true,false,true,true,false,false,false,false,false,false,false,false,false,false,false,false,false,false] rfl rfl (any_of HT_.out (by kernel_rfl)) (fun _ _ _ h => h) (Or.inl ⟨by rfl,?_⟩) ?_ ?_
 rotate_left
 ·intro w'
  go_simp
  with_reducible rfl
 rotate_left
 ·simp only [Act.put,sB_,sZ_,sS_,i64_w,i32_w]
  rfl
 refine pure_ (i := 8) (N := some 15) (v := ?_) (a' := ?_) #[true,false,true,true,false,false,false,false,true,false,false,false,false,false,false,false,false,false] rfl rfl (any_of HT_.out (by kernel_rfl)) (fun _ _ _ h => h) (Or.inl ⟨by rfl,?_⟩) ?_ ?_
 rotate_left
 ·intro w'
  go_simp
  with_reducible rfl
 rotate_left
 ·simp only [Act.put,sB_,sZ_,sS_,i64_w,i32_w]
  rfl
 refine pure_ (i := 10) (N := some 17) (v := ?_) (a' := ?_) #[true,false,true,true,false,false,false,false,true,false,true,false,false,false,false,false,false,false] rfl rfl (any_of HT_.out (by kernel_rfl)) (fun _ _ _ h => h) (Or.inl ⟨by rfl,?_⟩) ?_ ?_
 rotate_left
 ·intro w'
  go_simp
  with_reducible rfl
 rotate_left
 ·simp only [Act.put,sB_,sZ_,sS_,i64_w,i32_w]
  rfl
 refine pure_ (i := 11) (N := some 18) (v := ?_) (a' := ?_) #[true,false,true,true,false,false,false,false,true,false,true,true,false,false,false,false,false,false] rfl rfl (any_of HT_.out (by kernel_rfl)) (fun _ _ _ h => h) (Or.inl ⟨by rfl,?_⟩) ?_ ?_
 rotate_left
 ·intro w'
  go_simp
  with_reducible rfl
 rotate_left
 ·simp only [Act.put,sB_,sZ_,sS_,i64_w,i32_w]
  rfl
 refine take_ (i := 1) (N := some 8) (v := ?_) (a' := ?_) #[true,true,true,true,false,false,false,false,true,false,true,true,false,false,false,false,false,false] rfl rfl (take_ofW HT_.out HW_.out (by kernel_rfl)) (fun _ _ _ h => h) (Or.inl ⟨by rfl,?_⟩) hHeld ?_ ?_
 rotate_left
 ·rintro w' ⟨s0,s1,s2,s3⟩
  go_simp
  with_reducible rfl
 rotate_left
 ·simp only [Act.put,sB_,sZ_,sS_,i64_w,i32_w]
  rfl
 refine take_ (i := 4) (N := some 11) (v := ?_) (a' := ?_) #[true,true,true,true,true,false,false,false,true,false,true,true,false,false,false,false,false,false] rfl rfl (take_ofW HT_.out HW_.out (by kernel_rfl)) (fun _ _ _ h => h) (Or.inl ⟨by rfl,?_⟩) hHeld ?_ ?_
 rotate_left
 ·rintro w' ⟨s0,s1,s2,s3⟩
  go_simp
  with_reducible rfl
 rotate_left
 ·simp only [Act.put,sB_,sZ_,sS_,i64_w,i32_w]
  rfl
 refine pure_ (i := 5) (N := some 12) (v := ?_) (a' := ?_) #[true,true,true,true,true,true,false,false,true,false,true,true,false,false,false,false,false,false] rfl rfl (any_of HT_.out (by kernel_rfl)) (fun _ _ _ h => h) (Or.inl ⟨by rfl,?_⟩) ?_ ?_
 rotate_left
 ·intro w'
  go_simp
  with_reducible rfl
 rotate_left
 ·simp only [Act.put,sB_,sZ_,sS_,i64_w,i32_w]
  rfl
 refine take_ (i := 9) (N := some 16) (v := ?_) (a' := ?_) #[true,true,true,true,true,true,false,false,true,true,true,true,false,false,false,false,false,false] rfl rfl (take_ofW HT_.out HW_.out (by kernel_rfl)) (fun _ _ _ h => h) (Or.inl ⟨by rfl,?_⟩) hHeld ?_ ?_
 rotate_left
 ·rintro w' ⟨s0,s1,s2,s3⟩
  go_simp
  with_reducible rfl
 rotate_left
 ·simp only [Act.put,sB_,sZ_,sS_,i64_w,i32_w]
  rfl
 refine take_ (i := 12) (N := some 19) (v := ?_) (a' := ?_) #[true,true,true,true,true,true,false,false,true,true,true,true,true,false,false,false,false,false] rfl rfl (take_ofW HT_.out HW_.out (by kernel_rfl)) (fun _ _ _ h => h) (Or.inl ⟨by rfl,?_⟩) hHeld ?_ ?_
 rotate_left
 ·rintro w' ⟨s0,s1,s2,s3⟩
  go_simp
  with_reducible rfl
 rotate_left
 ·simp only [Act.put,sB_,sZ_,sS_,i64_w,i32_w]
  rfl
 refine pure_ (i := 13) (N := some 20) (v := ?_) (a' := ?_) #[true,true,true,true,true,true,false,false,true,true,true,true,true,true,false,false,false,false] rfl rfl (any_of HT_.out (by kernel_rfl)) (fun _ _ _ h => h) (Or.inl ⟨by rfl,?_⟩) ?_ ?_
 rotate_left
 ·intro w'
  go_simp
  with_reducible rfl
 rotate_left
 ·simp only [Act.put,sB_,sZ_,sS_,i64_w,i32_w]
  rfl
 refine one_ (i := 6) (N := some 13) #[true,true,true,true,true,true,true,false,true,true,true,true,true,true,false,false,false,false] rfl rfl (one_of HT_.out (by kernel_rfl)) (by decide) (fun K hK => ?_)
 refine goes_ Try.func88 (by kernel_rfl) rfl #[.int .i64 (wrap64 (a2 * a1_0)),.int .i64 1000] (by rfl) rfl rfl (by (try simp only [List.map_toArray,List.map_cons,List.map_nil]);first | done | rfl) ?_
 with_reducible refine (gauge_down.calls (wrap64 (a2 * a1_0)) 1000 t218 _ A4.out).mono ?_
 rintro e w' ⟨rfl,⟨nd,rfl⟩⟩
 refine ⟨_,rfl,?_⟩
 refine hK.out _ _ ⟨(blk_cell BK215.out 0).trans rfl,(blk_cell BK215.out 1).trans rfl,(blk_cell BK216.out 0).trans rfl,(blk_cell BK216.out 1).trans rfl⟩ (fun hHeld => ?_)
 clear hK K
 refine norm_ (a' := ?_) ?_ ?_
 rotate_left
 ·show Act.put _ (some 13) _ = _
  simp only [Act.put,sB_,sZ_,sS_,i64_w,i32_w]
  rfl
 refine pure_ (i := 7) (N := some 14) (v := ?_) (a' := ?_) #[true,true,true,true,true,true,true,true,true,true,true,true,true,true,false,false,false,false] rfl rfl (any_of HT_.out (by kernel_rfl)) (fun _ _ _ h => h) (Or.inl ⟨by rfl,?_⟩) ?_ ?_
 rotate_left
 ·intro w'
  go_simp
  with_reducible rfl
 rotate_left
 ·simp only [Act.put,sB_,sZ_,sS_,i64_w,i32_w]
  rfl
 refine one_ (i := 14) (N := some 21) #[true,true,true,true,true,true,true,true,true,true,true,true,true,true,true,false,false,false] rfl rfl (one_of HT_.out (by kernel_rfl)) (by decide) (fun K hK => ?_)
 refine goes_ Try.func89 (by kernel_rfl) rfl #[.int .i64 (wrap64 (a2 * a1_1)),.int .i64 1000] (by rfl) rfl rfl (by (try simp only [List.map_toArray,List.map_cons,List.map_nil]);first | done | rfl) ?_
 with_reducible refine (gauge_up.calls (wrap64 (a2 * a1_1)) 1000 t219 _ A5.out).mono ?_
 rintro e w' ⟨rfl,⟨nd,rfl⟩⟩
 refine ⟨_,rfl,?_⟩
 refine hK.out _ _ ⟨(blk_cell BK215.out 0).trans rfl,(blk_cell BK215.out 1).trans rfl,(blk_cell BK216.out 0).trans rfl,(blk_cell BK216.out 1).trans rfl⟩ (fun hHeld => ?_)
 clear hK K
 refine norm_ (a' := ?_) ?_ ?_
 rotate_left
 ·show Act.put _ (some 21) _ = _
  simp only [Act.put,sB_,sZ_,sS_,i64_w,i32_w]
  rfl
 refine pure_ (i := 15) (N := some 22) (v := ?_) (a' := ?_) #[true,true,true,true,true,true,true,true,true,true,true,true,true,true,true,true,false,false] rfl rfl (any_of HT_.out (by kernel_rfl)) (fun _ _ _ h => h) (Or.inl ⟨by rfl,?_⟩) ?_ ?_
 rotate_left
 ·intro w'
  go_simp
  with_reducible rfl
 rotate_left
 ·simp only [Act.put,sB_,sZ_,sS_,i64_w,i32_w]
  rfl
 refine pure_ (i := 16) (N := some 23) (v := ?_) (a' := ?_) #[true,true,true,true,true,true,true,true,true,true,true,true,true,true,true,true,true,false] rfl rfl (any_of HT_.out (by kernel_rfl)) (fun _ _ _ h => h) (Or.inl ⟨by rfl,?_⟩) ?_ ?_
 rotate_left
 ·intro w'
  go_simp
  with_reducible rfl
 rotate_left
 ·simp only [Act.put,sB_,sZ_,sS_,i64_w,i32_w]
  rfl
 refine one_ (i := 17) (N := none) #[true,true,true,true,true,true,true,true,true,true,true,true,true,true,true,true,true,true] rfl rfl (one_of HT_.out (by kernel_rfl)) (by decide) (fun K hK => ?_)
 have hs10 : w9.cell? ⟨gb217,0,none⟩ = some (.int .i64 0) := (blk_cell BK217.out 0).trans rfl
 have hfs10 := blk_frozen BK217.out 0
 have hns10_0 := NB215_217.out
 have hns10_1 := NB216_217.out
 have hms10_0 := NB217_215.out
 have hms10_1 := NB217_216.out
 have hs11 : w9.cell? ⟨gb217,1,none⟩ = some (.int .i64 0) := (blk_cell BK217.out 1).trans rfl
 have hfs11 := blk_frozen BK217.out 1
 have hns11_0 := NB215_217.out
 have hns11_1 := NB216_217.out
 have hms11_0 := NB217_215.out
 have hms11_1 := NB217_216.out
 refine skip_ (w1 := ?_) (by rfl) rfl ?_ ?_
 rotate_left
 ·go_simp
  rfl
 refine hK.out _ _ ⟨((cell_far (p := ⟨gb217,_,none⟩) NB215_217.out _).trans (((cell_far (p := ⟨gb217,_,none⟩) NB215_217.out _).trans (hHeld.1)))),((cell_far (p := ⟨gb217,_,none⟩) NB215_217.out _).trans (((cell_far (p := ⟨gb217,_,none⟩) NB215_217.out _).trans (hHeld.2.1)))),((cell_far (p := ⟨gb217,_,none⟩) NB216_217.out _).trans (((cell_far (p := ⟨gb217,_,none⟩) NB216_217.out _).trans (hHeld.2.2.1)))),((cell_far (p := ⟨gb217,_,none⟩) NB216_217.out _).trans (((cell_far (p := ⟨gb217,_,none⟩) NB216_217.out _).trans (hHeld.2.2.2))))⟩ (fun hHeld => ?_)
 clear hK K
 refine done_ (done_of HT_.out (by kernel_rfl)) ?_
 try go_wp2
 refine bodyPost_ret (results_cell_row rfl _ _ gb217 34 #[.int .i64 (wrap64 (a0_0 + t218)),.int .i64 (wrap64 (a0_1 + t219))] (0,0) _ rfl (by (with_reducible repeat (first | refine kN_ ?_ _ | refine kD_ ?_ | refine kA_ ?_ _));refine blk_put (cs := #[.int .i64 (wrap64 (a0_0 + t218)),.int .i64 0]) ?_ 1 _ rfl;(with_reducible repeat (first | refine kN_ ?_ _ | refine kD_ ?_ | refine kA_ ?_ _));refine blk_put (cs := #[.int .i64 0,.int .i64 0]) ?_ 0 _ rfl;(with_reducible repeat (first | refine kN_ ?_ _ | refine kD_ ?_ | refine kA_ ?_ _));exact BK217.out) Try.underlying34 rfl (by kernel_rfl)) rfl ?_
 exact ⟨by first | rfl | (simp [*] <;> rfl),by repeat (first | (with_reducible first | exact HB.out | apply bA_ | apply bN_ | apply bD_ | refine bS_ ?_ GE215.out | refine bS_ ?_ GE216.out | refine bS_ ?_ GE217.out) | exact HB.out)⟩

end Go.Proofs.Ytdbpobadeibjaab.GE
