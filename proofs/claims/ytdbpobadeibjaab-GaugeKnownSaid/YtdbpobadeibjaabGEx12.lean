-- written for this claim by a program of this session (wip/gp), over the kit's own printer; Lean checks it
import Derived.Test.YtdbpobadeibjaabGEx0
namespace Go.Proofs.Ytdbpobadeibjaab.GE
open Go.RowKit Go.Proofs.YtdbpobadeibjaabW.PrintWords Go.Proofs.YtdbpobadeibjaabW.PrintLast Go.Proofs.YtdbpobadeibjaabW.PrintMore
attribute [local go_sem] max2_int min2_int max_two min_two max_three min_three max_four min_four
set_option linter.unusedVariables false
set_option linter.unusedSimpArgs false

--HAND
/-! ### sort.Search,by hand: function 76 -/
set_option maxHeartbeats 4000000 in
set_option maxRecDepth 1000000 in
theorem sort_Search.calls (g : Nat) (cb : Array Value) (n r : Int) (w : World) (eg : ∀ args w,(callFunc g args).run Try.prog w = .ok (.enter g args) w)
  (hsz : n < 4611686018427387904) (h0 : 0 ≤ r) (h1 : r ≤ n)
  (hf : ∀ (W : World) (i : Int),Below w.heap.size w W → 0 ≤ i → i < n → Calls Try.prog g (#[.int .i64 i] ++ cb) W fun e W' => e = .returned (.bool (decide (r ≤ i))) ∧ Below W.heap.size W W') :
  Calls Try.prog 76 #[.int .i64 n,.func (.func g) #[] cb] w fun e w' => e = .returned (.int .i64 r) ∧ Below w.heap.size w w' := by
 have HF : Aside0 _ := ⟨hf⟩
 clear hf
 have HB0 := aM_ (Below.refl w.heap.size w)
 go_enter Try.func76,Try.ntmps76
 go_wp2
 go_loopg [5,6] n.toNat (fun kx s5 s6 wr => ∃ (lo hi : Int),s5 = .int .i64 lo ∧ s6 = .int .i64 hi ∧ 0 ≤ lo ∧ lo ≤ r ∧ r ≤ hi ∧ hi ≤ n ∧ (hi - lo).toNat ≤ kx ∧ Aside0 (Below w.heap.size w wr))
 case atStart => exact ⟨0,n,rfl,rfl,by omega,h0,h1,by omega,by omega,HB0⟩
 case round =>
  obtain ⟨lo,hi,rfl,rfl,hl0,hlr,hrh,hhn,hg,HB⟩ := hrel
  by_cases hlt : lo < hi
  ·have hc := HF.out wr ((lo + hi) / 2) HB.out (by omega) (by omega)
   by_cases hp : r ≤ (lo + hi) / 2
   ·rw [decide_eq_true hp] at hc
    go_wp2_with (fail)
    refine hc.mono ?_
    clear hc
    rintro e w' ⟨rfl,hb⟩
    go_wp2
    go_roundg ((lo + hi) / 2 - lo).toNat
    case measure => omega
    case rel => exact ⟨lo,(lo + hi) / 2,rfl,rfl,hl0,hlr,hp,by omega,by omega,⟨bT_ HB.out hb⟩⟩
   ·rw [decide_eq_false hp] at hc
    go_wp2_with (fail)
    refine hc.mono ?_
    clear hc
    rintro e w' ⟨rfl,hb⟩
    go_wp2
    go_roundg (hi - ((lo + hi) / 2 + 1)).toNat
    case measure => omega
    case rel => exact ⟨(lo + hi) / 2 + 1,hi,rfl,rfl,by omega,by omega,hrh,hhn,by omega,⟨bT_ HB.out hb⟩⟩
  ·obtain rfl : lo = r := by omega
   go_wp2
   go_ret
   exact ⟨rfl,HB.out⟩

--HAND
/-! ### gauge.first,by hand: function 51 -/
set_option maxHeartbeats 4000000 in
set_option maxRecDepth 1000000 in
theorem gauge_first_1.calls (g : Nat) (cb : Array Value) (most r i : Int) (bh bm : Nat) (w : World)
  (hh : w.cell? ⟨bh,0,none⟩ = some (.func (.func g) #[] cb)) (hm : w.cell? ⟨bm,0,none⟩ = some (.int .i64 most))
  (b0 : 0 ≤ most) (b1 : most < 2305843009213693952) (i0 : 0 ≤ i) (i1 : i ≤ 2 * most)
  (eg : ∀ args w,(callFunc g args).run Try.prog w = .ok (.enter g args) w)
  (hf : Calls Try.prog g (#[.int .i64 (i - most)] ++ cb) w fun e W' => e = .returned (.bool (decide (r ≤ i - most))) ∧ Below w.heap.size w W') :
  Calls Try.prog 84 (#[.int .i64 i] ++ #[.pointer (some ⟨bh,0,none⟩),.pointer (some ⟨bm,0,none⟩)]) w fun e W' => e = .returned (.bool (decide (r + most ≤ i))) ∧ Below w.heap.size w W' := by
 have e1 : decide (r + most ≤ i) = decide (r ≤ i - most) := by rw [decide_eq_decide];omega
 rw [e1]
 clear e1
 go_enter Try.func84,Try.ntmps84
 go_wp2_with (fail)
 refine hf.mono ?_
 clear hf
 rintro e w' ⟨rfl,hb⟩
 go_wp2
 go_ret
 exact ⟨rfl,hb⟩

set_option maxHeartbeats 4000000 in
theorem gauge_first.inner (g : Nat) (cb : Array Value) (most r : Int) (w : World) (bm bh : Nat) (eg : ∀ args w,(callFunc g args).run Try.prog w = .ok (.enter g args) w)
  (b0 : 0 ≤ most) (b1 : most < 1152921504606846976) (h0 : -most ≤ r) (h1 : r ≤ most + 1)
  (hf : ∀ (W : World) (x : Int),Below w.heap.size w W → -most ≤ x → x ≤ most → Calls Try.prog g (#[.int .i64 x] ++ cb) W fun e W' => e = .returned (.bool (decide (r ≤ x))) ∧ Below W.heap.size W W')
  (W0 : World) (B0 : Below w.heap.size w W0) (cm : W0.heap[bm]? = some (.cells #[.int .i64 most] 3 (0,0))) (ch : W0.heap[bh]? = some (.cells #[.func (.func g) #[] cb] 68 (0,0))) :
  Calls Try.prog 76 #[.int .i64 (2 * most + 1),.func (.func 84) #[] #[.pointer (some ⟨bh,0,none⟩),.pointer (some ⟨bm,0,none⟩)]] W0 fun e w' => e = .returned (.int .i64 (r + most)) ∧ Below W0.heap.size W0 w' :=
 sort_Search.calls 84 #[.pointer (some ⟨bh,0,none⟩),.pointer (some ⟨bm,0,none⟩)] (2 * most + 1) (r + most) W0 (enters_of Try.func84 (by kernel_rfl) rfl) (by omega) (by omega) (by omega)
  (fun W i hB hi0 hi1 => gauge_first_1.calls g cb most r i bh bm W ((blk_cell (kB_ ch hB) 0).trans rfl) ((blk_cell (kB_ cm hB) 0).trans rfl) b0 (by omega) hi0 (by omega) eg
   (hf W (i - most) (bT_ B0 hB) (by omega) (by omega)))

set_option maxHeartbeats 4000000 in
set_option maxRecDepth 1000000 in
theorem gauge_first.calls (g : Nat) (cb : Array Value) (most r : Int) (w : World) (eg : ∀ args w,(callFunc g args).run Try.prog w = .ok (.enter g args) w)
  (b0 : 0 ≤ most) (b1 : most < 1152921504606846976) (h0 : -most ≤ r) (h1 : r ≤ most + 1)
  (hf : ∀ (W : World) (x : Int),Below w.heap.size w W → -most ≤ x → x ≤ most → Calls Try.prog g (#[.int .i64 x] ++ cb) W fun e W' => e = .returned (.bool (decide (r ≤ x))) ∧ Below W.heap.size W W') :
  Calls Try.prog 51 #[.int .i64 most,.func (.func g) #[] cb] w fun e w' => e = .returned (.int .i64 r) ∧ Below w.heap.size w w' := by
 have HS := aM_ (gauge_first.inner g cb most r w w.heap.size (w.heap.size + 1) eg b0 b1 h0 h1 hf ((w.alloc (.cells #[.int .i64 most] 3)).alloc (.cells #[.func (.func g) #[] cb] 68)).drew
  (bD_ (bA_ (bA_ (Below.refl _ _) _) _)) (kD_ (kA_ (blk_new w _) _)) (kD_ (by have := blk_new (w.alloc (.cells #[.int .i64 most] 3)) (.cells #[.func (.func g) #[] cb] 68);rwa [World.size_alloc] at this)))
 clear hf
 go_enter Try.func51,Try.ntmps51
 have e1 : IntKind.i64.wrap (2 * most) = 2 * most := IntWalk.i64_in _ (by omega)
 have e2 : IntKind.i64.wrap (2 * most + 1) = 2 * most + 1 := IntWalk.i64_in _ (by omega)
 have e3 : IntKind.i64.wrap r = r := IntWalk.i64_in _ (by omega)
 go_wp2
 go_region_with (go_at_call 76;(with_reducible refine HS.out.mono ?_);rintro e w' ⟨rfl,hb⟩;have hc : w'.cell? ⟨w.heap.size,0,none⟩ = some (.int .i64 most) := (blk_cell (kB_ (kD_ (kA_ (blk_new w _) _)) hb) 0).trans rfl)
 all_goals (go_wp2;go_ret)
 all_goals refine ⟨by simp [Act.put,e3],?_⟩
 all_goals exact bT_ (bD_ (bA_ (bA_ (Below.refl _ _) _) _)) (by assumption)

/-! ### gauge_down: function 88 -/
def gauge_down.f (a0 : Int) (a1 : Int) : Option (Int) := if a1 = 0 then (none) else (if (Int.tmod a0 a1) < 0 then (some (wrap64 ((wrap64 (Int.tdiv a0 a1)) - 1))) else (some (wrap64 (Int.tdiv a0 a1))))
set_option maxHeartbeats 8000000 in
set_option maxRecDepth 100000 in
theorem gauge_down.calls (a0 : Int) (a1 : Int) (r : Int) (w : World) (h : gauge_down.f a0 a1 = some r) :
  Calls Try.prog 88 #[.int .i64 a0,.int .i64 a1] w fun e w' => e = .returned (.int .i64 r) ∧ Drawn0 w w' := by
 have H : (if a1 = 0 then (none) else (if (Int.tmod a0 a1) < 0 then (some (wrap64 ((wrap64 (Int.tdiv a0 a1)) - 1))) else (some (wrap64 (Int.tdiv a0 a1))))) = some r := h
 clear h
 by_cases c3 : a1 = 0
 ·rw [if_pos c3] at H
  exact absurd H (by simp)
 ·rw [if_neg c3] at H
  have c3b0 : (a1 == 0) = false := beq_eq_false_iff_ne.mpr c3
  have c3b1 : (a1 != 0) = true := bne_iff_ne.mpr c3
  by_cases c4 : (Int.tmod a0 a1) < 0
  ·rw [if_pos c4] at H
   have c4b0 : decide ((Int.tmod a0 a1) < 0) = true := decide_eq_true c4
   clear c4
   obtain rfl := Option.some.inj H
   go_enter Try.func88,Try.ntmps88
   go_wp2
   go_ret
   exact ⟨by first | rfl | (simp;done) | (simp [*];done),by repeat (first | exact Drawn0.refl _ | apply Drawn0.step)⟩
  ·rw [if_neg c4] at H
   have c4b0 : decide ((Int.tmod a0 a1) < 0) = false := decide_eq_false c4
   clear c4
   obtain rfl := Option.some.inj H
   go_enter Try.func88,Try.ntmps88
   go_wp2
   go_ret
   exact ⟨by first | rfl | (simp;done) | (simp [*];done),by repeat (first | exact Drawn0.refl _ | apply Drawn0.step)⟩

/-! ### gauge_low: function 65 -/
def gauge_low.f (a0_0 : Int) (a0_1 : Int) (a0_2 : Int) (a0_3 : Int) (a0_4 : Int) (a0_5 : Int) (a0_6 : Int) (a1 : Int) : Option (Int) := (gauge_down.f (mn (wrap64 (a1 * a0_0)) (wrap64 (a1 * a0_1))) 1000000).bind fun t175 => (some (wrap64 (t175 + a0_2)))
set_option maxHeartbeats 8000000 in
set_option maxRecDepth 100000 in
theorem gauge_low.calls (a0_0 : Int) (a0_1 : Int) (a0_2 : Int) (a0_3 : Int) (a0_4 : Int) (a0_5 : Int) (a0_6 : Int) (a1 : Int) (r : Int) (w : World) (h : gauge_low.f a0_0 a0_1 a0_2 a0_3 a0_4 a0_5 a0_6 a1 = some r) :
  Calls Try.prog 65 #[.agg #[.int .i64 a0_0,.int .i64 a0_1,.int .i64 a0_2,.int .i64 a0_3,.int .i64 a0_4,.int .i64 a0_5,.int .i64 a0_6],.int .i64 a1] w fun e w' => e = .returned (.int .i64 r) ∧ Below w.heap.size w w' := by
 have hu49 := Try.underlying49
 have HB := aM_ (Below.refl w.heap.size w)
 have H : ((gauge_down.f (mn (wrap64 (a1 * a0_0)) (wrap64 (a1 * a0_1))) 1000000).bind fun t175 => (some (wrap64 (t175 + a0_2)))) = some r := h
 clear h
 obtain ⟨ji3,hji3⟩ : ∃ j_ : Int,(mn (wrap64 (a1 * a0_0)) (wrap64 (a1 * a0_1))) = j_ := ⟨_,rfl⟩
 replace H : ((gauge_down.f (ji3) 1000000).bind fun t175 => (some (wrap64 (t175 + a0_2)))) = some r := by first | (rw [hji3] at H;exact H) | (simp only [hji3] at H ⊢;exact H)
 have hji3_ : (if (wrap64 (a1 * a0_1)) < (wrap64 (a1 * a0_0)) then (wrap64 (a1 * a0_1)) else (wrap64 (a1 * a0_0))) = ji3 := hji3
 replace H := oB_ H
 obtain ⟨t175,A40,H⟩ := H
 replace H : (some (wrap64 (t175 + a0_2))) = some r := H
 have A4 := aM_ A40
 clear A40
 obtain rfl := Option.some.inj H
 go_enter Try.func65,Try.ntmps65
 go_wp2_with (first | ((with_reducible refine gate_dst (N := 2) rfl ?_);refine box_event ?hg (N := 2) ?hd (cs := #[.int .i64 a0_0,.int .i64 a0_1,.int .i64 a0_2,.int .i64 a0_3,.int .i64 a0_4,.int .i64 a0_5,.int .i64 a0_6]) (t := 49) ?hr ?_;(case hd => rfl);(case hg => rfl);(case hr => first | (go_simp;done) | (go_simp;rfl));intro gb174 hg w5 hbox hb;have n0_ := aM_ (bT_ (by repeat (first | (with_reducible first | exact HB.out | apply bA_ | apply bN_ | apply bD_) | exact HB.out)) hb);have n1_ := aM_ (hbox);have n2_ := aM_ ((by rw [hg];exact (below_size (by repeat (first | (with_reducible first | exact HB.out | apply bA_ | apply bN_ | apply bD_) | exact HB.out))) : w.heap.size ≤ gb174));have n3_ := aM_ ((by rw [hg];exact (below_size (by repeat (first | (with_reducible first | exact HB.out | apply bA_ | apply bN_ | apply bD_) | exact HB.out))) : w.heap.size ≤ gb174));clear HB;have HB := n0_;have BK174 := n1_;have GW174 := n2_;have GE174 := n3_;clear n0_ n1_ n2_ n3_;clear hb hbox hg;have hcz6_0 : w5.cell? ⟨gb174,0,none⟩ = some (.int .i64 a0_0) := (blk_cell BK174.out 0).trans rfl;have hcz6_1 : w5.cell? ⟨gb174,1,none⟩ = some (.int .i64 a0_1) := (blk_cell BK174.out 1).trans rfl;have hcz6_2 : w5.cell? ⟨gb174,2,none⟩ = some (.int .i64 a0_2) := (blk_cell BK174.out 2).trans rfl;have hcz6_3 : w5.cell? ⟨gb174,3,none⟩ = some (.int .i64 a0_3) := (blk_cell BK174.out 3).trans rfl;have hcz6_4 : w5.cell? ⟨gb174,4,none⟩ = some (.int .i64 a0_4) := (blk_cell BK174.out 4).trans rfl;have hcz6_5 : w5.cell? ⟨gb174,5,none⟩ = some (.int .i64 a0_5) := (blk_cell BK174.out 5).trans rfl;have hcz6_6 : w5.cell? ⟨gb174,6,none⟩ = some (.int .i64 a0_6) := (blk_cell BK174.out 6).trans rfl;have hfz6_0 := blk_frozen BK174.out 0;have hfz6_1 := blk_frozen BK174.out 1;have hfz6_2 := blk_frozen BK174.out 2;have hfz6_3 := blk_frozen BK174.out 3;have hfz6_4 := blk_frozen BK174.out 4;have hfz6_5 := blk_frozen BK174.out 5;have hfz6_6 := blk_frozen BK174.out 6) | (go_at_call 88;(with_reducible refine (gauge_down.calls ji3 1000000 t175 _ A4.out).mono ?_);rintro e w' ⟨rfl,⟨nd,rfl⟩⟩;(try first | exact ⟨rfl,_,World.drewN_drewN _ _ _⟩ | exact ⟨rfl,_,Eq.trans (World.drewN_drewN _ _ _) (congrArg (World.drewN _) (Nat.add_assoc _ _ _))⟩)))
 repeat (go_quiet (first | ((with_reducible refine gate_dst (N := 2) rfl ?_);refine box_event ?hg (N := 2) ?hd (cs := #[.int .i64 a0_0,.int .i64 a0_1,.int .i64 a0_2,.int .i64 a0_3,.int .i64 a0_4,.int .i64 a0_5,.int .i64 a0_6]) (t := 49) ?hr ?_;(case hd => rfl);(case hg => rfl);(case hr => first | (go_simp;done) | (go_simp;rfl));intro gb174 hg w5 hbox hb;have n0_ := aM_ (bT_ (by repeat (first | (with_reducible first | exact HB.out | apply bA_ | apply bN_ | apply bD_) | exact HB.out)) hb);have n1_ := aM_ (hbox);have n2_ := aM_ ((by rw [hg];exact (below_size (by repeat (first | (with_reducible first | exact HB.out | apply bA_ | apply bN_ | apply bD_) | exact HB.out))) : w.heap.size ≤ gb174));have n3_ := aM_ ((by rw [hg];exact (below_size (by repeat (first | (with_reducible first | exact HB.out | apply bA_ | apply bN_ | apply bD_) | exact HB.out))) : w.heap.size ≤ gb174));clear HB;have HB := n0_;have BK174 := n1_;have GW174 := n2_;have GE174 := n3_;clear n0_ n1_ n2_ n3_;clear hb hbox hg;have hcz6_0 : w5.cell? ⟨gb174,0,none⟩ = some (.int .i64 a0_0) := (blk_cell BK174.out 0).trans rfl;have hcz6_1 : w5.cell? ⟨gb174,1,none⟩ = some (.int .i64 a0_1) := (blk_cell BK174.out 1).trans rfl;have hcz6_2 : w5.cell? ⟨gb174,2,none⟩ = some (.int .i64 a0_2) := (blk_cell BK174.out 2).trans rfl;have hcz6_3 : w5.cell? ⟨gb174,3,none⟩ = some (.int .i64 a0_3) := (blk_cell BK174.out 3).trans rfl;have hcz6_4 : w5.cell? ⟨gb174,4,none⟩ = some (.int .i64 a0_4) := (blk_cell BK174.out 4).trans rfl;have hcz6_5 : w5.cell? ⟨gb174,5,none⟩ = some (.int .i64 a0_5) := (blk_cell BK174.out 5).trans rfl;have hcz6_6 : w5.cell? ⟨gb174,6,none⟩ = some (.int .i64 a0_6) := (blk_cell BK174.out 6).trans rfl;have hfz6_0 := blk_frozen BK174.out 0;have hfz6_1 := blk_frozen BK174.out 1;have hfz6_2 := blk_frozen BK174.out 2;have hfz6_3 := blk_frozen BK174.out 3;have hfz6_4 := blk_frozen BK174.out 4;have hfz6_5 := blk_frozen BK174.out 5;have hfz6_6 := blk_frozen BK174.out 6) | (go_at_call 88;(with_reducible refine (gauge_down.calls ji3 1000000 t175 _ A4.out).mono ?_);rintro e w' ⟨rfl,⟨nd,rfl⟩⟩;(try first | exact ⟨rfl,_,World.drewN_drewN _ _ _⟩ | exact ⟨rfl,_,Eq.trans (World.drewN_drewN _ _ _) (congrArg (World.drewN _) (Nat.add_assoc _ _ _))⟩)));try go_wp2_with (first | ((with_reducible refine gate_dst (N := 2) rfl ?_);refine box_event ?hg (N := 2) ?hd (cs := #[.int .i64 a0_0,.int .i64 a0_1,.int .i64 a0_2,.int .i64 a0_3,.int .i64 a0_4,.int .i64 a0_5,.int .i64 a0_6]) (t := 49) ?hr ?_;(case hd => rfl);(case hg => rfl);(case hr => first | (go_simp;done) | (go_simp;rfl));intro gb174 hg w5 hbox hb;have n0_ := aM_ (bT_ (by repeat (first | (with_reducible first | exact HB.out | apply bA_ | apply bN_ | apply bD_) | exact HB.out)) hb);have n1_ := aM_ (hbox);have n2_ := aM_ ((by rw [hg];exact (below_size (by repeat (first | (with_reducible first | exact HB.out | apply bA_ | apply bN_ | apply bD_) | exact HB.out))) : w.heap.size ≤ gb174));have n3_ := aM_ ((by rw [hg];exact (below_size (by repeat (first | (with_reducible first | exact HB.out | apply bA_ | apply bN_ | apply bD_) | exact HB.out))) : w.heap.size ≤ gb174));clear HB;have HB := n0_;have BK174 := n1_;have GW174 := n2_;have GE174 := n3_;clear n0_ n1_ n2_ n3_;clear hb hbox hg;have hcz6_0 : w5.cell? ⟨gb174,0,none⟩ = some (.int .i64 a0_0) := (blk_cell BK174.out 0).trans rfl;have hcz6_1 : w5.cell? ⟨gb174,1,none⟩ = some (.int .i64 a0_1) := (blk_cell BK174.out 1).trans rfl;have hcz6_2 : w5.cell? ⟨gb174,2,none⟩ = some (.int .i64 a0_2) := (blk_cell BK174.out 2).trans rfl;have hcz6_3 : w5.cell? ⟨gb174,3,none⟩ = some (.int .i64 a0_3) := (blk_cell BK174.out 3).trans rfl;have hcz6_4 : w5.cell? ⟨gb174,4,none⟩ = some (.int .i64 a0_4) := (blk_cell BK174.out 4).trans rfl;have hcz6_5 : w5.cell? ⟨gb174,5,none⟩ = some (.int .i64 a0_5) := (blk_cell BK174.out 5).trans rfl;have hcz6_6 : w5.cell? ⟨gb174,6,none⟩ = some (.int .i64 a0_6) := (blk_cell BK174.out 6).trans rfl;have hfz6_0 := blk_frozen BK174.out 0;have hfz6_1 := blk_frozen BK174.out 1;have hfz6_2 := blk_frozen BK174.out 2;have hfz6_3 := blk_frozen BK174.out 3;have hfz6_4 := blk_frozen BK174.out 4;have hfz6_5 := blk_frozen BK174.out 5;have hfz6_6 := blk_frozen BK174.out 6) | (go_at_call 88;(with_reducible refine (gauge_down.calls ji3 1000000 t175 _ A4.out).mono ?_);rintro e w' ⟨rfl,⟨nd,rfl⟩⟩;(try first | exact ⟨rfl,_,World.drewN_drewN _ _ _⟩ | exact ⟨rfl,_,Eq.trans (World.drewN_drewN _ _ _) (congrArg (World.drewN _) (Nat.add_assoc _ _ _))⟩))))
 go_ret
 exact ⟨by first | rfl | (simp [errW_none,errW_some] <;> rfl) | (simp only [← hji3];first | rfl | (simp [errW_none,errW_some] <;> rfl)) | (simp [*,errW_none,errW_some] <;> rfl),by repeat (first | (with_reducible first | exact HB.out | apply bA_ | apply bN_ | apply bD_ | refine bS_ ?_ GE174.out) | exact HB.out)⟩

/-! ### gauge_up: function 89 -/
def gauge_up.f (a0 : Int) (a1 : Int) : Option (Int) := (gauge_down.f (wrap64 (-a0)) a1).bind fun t176 => (some (wrap64 (-t176)))
set_option maxHeartbeats 8000000 in
set_option maxRecDepth 100000 in
theorem gauge_up.calls (a0 : Int) (a1 : Int) (r : Int) (w : World) (h : gauge_up.f a0 a1 = some r) :
  Calls Try.prog 89 #[.int .i64 a0,.int .i64 a1] w fun e w' => e = .returned (.int .i64 r) ∧ Drawn0 w w' := by
 have H : ((gauge_down.f (wrap64 (-a0)) a1).bind fun t176 => (some (wrap64 (-t176)))) = some r := h
 clear h
 replace H := oB_ H
 obtain ⟨t176,A30,H⟩ := H
 replace H : (some (wrap64 (-t176))) = some r := H
 have A3 := aM_ A30
 clear A30
 obtain rfl := Option.some.inj H
 go_enter Try.func89,Try.ntmps89
 go_wp2_with (first | ((with_reducible refine gate_callee (f := 88) rfl ?_);refine goesL_ (some 8) rfl rfl Try.func88 (by kernel_rfl) rfl #[.int .i64 (wrap64 (-a0)),.int .i64 a1] rfl (by (try simp only [List.map_toArray,List.map_cons,List.map_nil]);first | done | rfl) ?_;(with_reducible refine (gauge_down.calls (wrap64 (-a0)) a1 t176 _ A3.out).mono ?_);rintro e w' ⟨rfl,⟨nd,rfl⟩⟩;refine ⟨_,rfl,?_⟩))
 go_ret
 exact ⟨by first | rfl | (simp;done) | (simp [*];done),by repeat (first | exact Drawn0.refl _ | apply Drawn0.step)⟩

/-! ### gauge_high: function 66 -/
def gauge_high.f (a0_0 : Int) (a0_1 : Int) (a0_2 : Int) (a0_3 : Int) (a0_4 : Int) (a0_5 : Int) (a0_6 : Int) (a1 : Int) : Option (Int) := (gauge_up.f (mx (wrap64 (a1 * a0_0)) (wrap64 (a1 * a0_1))) 1000000).bind fun t178 => (some (wrap64 (t178 + a0_3)))
set_option maxHeartbeats 8000000 in
set_option maxRecDepth 100000 in
theorem gauge_high.calls (a0_0 : Int) (a0_1 : Int) (a0_2 : Int) (a0_3 : Int) (a0_4 : Int) (a0_5 : Int) (a0_6 : Int) (a1 : Int) (r : Int) (w : World) (h : gauge_high.f a0_0 a0_1 a0_2 a0_3 a0_4 a0_5 a0_6 a1 = some r) :
  Calls Try.prog 66 #[.agg #[.int .i64 a0_0,.int .i64 a0_1,.int .i64 a0_2,.int .i64 a0_3,.int .i64 a0_4,.int .i64 a0_5,.int .i64 a0_6],.int .i64 a1] w fun e w' => e = .returned (.int .i64 r) ∧ Below w.heap.size w w' := by
 have hu49 := Try.underlying49
 have HB := aM_ (Below.refl w.heap.size w)
 have H : ((gauge_up.f (mx (wrap64 (a1 * a0_0)) (wrap64 (a1 * a0_1))) 1000000).bind fun t178 => (some (wrap64 (t178 + a0_3)))) = some r := h
 clear h
 obtain ⟨ji3,hji3⟩ : ∃ j_ : Int,(mx (wrap64 (a1 * a0_0)) (wrap64 (a1 * a0_1))) = j_ := ⟨_,rfl⟩
 replace H : ((gauge_up.f (ji3) 1000000).bind fun t178 => (some (wrap64 (t178 + a0_3)))) = some r := by first | (rw [hji3] at H;exact H) | (simp only [hji3] at H ⊢;exact H)
 have hji3_ : (if (wrap64 (a1 * a0_0)) < (wrap64 (a1 * a0_1)) then (wrap64 (a1 * a0_1)) else (wrap64 (a1 * a0_0))) = ji3 := hji3
 replace H := oB_ H
 obtain ⟨t178,A40,H⟩ := H
 replace H : (some (wrap64 (t178 + a0_3))) = some r := H
 have A4 := aM_ A40
 clear A40
 obtain rfl := Option.some.inj H
 go_enter Try.func66,Try.ntmps66
 go_wp2_with (first | ((with_reducible refine gate_dst (N := 2) rfl ?_);refine box_event ?hg (N := 2) ?hd (cs := #[.int .i64 a0_0,.int .i64 a0_1,.int .i64 a0_2,.int .i64 a0_3,.int .i64 a0_4,.int .i64 a0_5,.int .i64 a0_6]) (t := 49) ?hr ?_;(case hd => rfl);(case hg => rfl);(case hr => first | (go_simp;done) | (go_simp;rfl));intro gb177 hg w5 hbox hb;have n0_ := aM_ (bT_ (by repeat (first | (with_reducible first | exact HB.out | apply bA_ | apply bN_ | apply bD_) | exact HB.out)) hb);have n1_ := aM_ (hbox);have n2_ := aM_ ((by rw [hg];exact (below_size (by repeat (first | (with_reducible first | exact HB.out | apply bA_ | apply bN_ | apply bD_) | exact HB.out))) : w.heap.size ≤ gb177));have n3_ := aM_ ((by rw [hg];exact (below_size (by repeat (first | (with_reducible first | exact HB.out | apply bA_ | apply bN_ | apply bD_) | exact HB.out))) : w.heap.size ≤ gb177));clear HB;have HB := n0_;have BK177 := n1_;have GW177 := n2_;have GE177 := n3_;clear n0_ n1_ n2_ n3_;clear hb hbox hg;have hcz6_0 : w5.cell? ⟨gb177,0,none⟩ = some (.int .i64 a0_0) := (blk_cell BK177.out 0).trans rfl;have hcz6_1 : w5.cell? ⟨gb177,1,none⟩ = some (.int .i64 a0_1) := (blk_cell BK177.out 1).trans rfl;have hcz6_2 : w5.cell? ⟨gb177,2,none⟩ = some (.int .i64 a0_2) := (blk_cell BK177.out 2).trans rfl;have hcz6_3 : w5.cell? ⟨gb177,3,none⟩ = some (.int .i64 a0_3) := (blk_cell BK177.out 3).trans rfl;have hcz6_4 : w5.cell? ⟨gb177,4,none⟩ = some (.int .i64 a0_4) := (blk_cell BK177.out 4).trans rfl;have hcz6_5 : w5.cell? ⟨gb177,5,none⟩ = some (.int .i64 a0_5) := (blk_cell BK177.out 5).trans rfl;have hcz6_6 : w5.cell? ⟨gb177,6,none⟩ = some (.int .i64 a0_6) := (blk_cell BK177.out 6).trans rfl;have hfz6_0 := blk_frozen BK177.out 0;have hfz6_1 := blk_frozen BK177.out 1;have hfz6_2 := blk_frozen BK177.out 2;have hfz6_3 := blk_frozen BK177.out 3;have hfz6_4 := blk_frozen BK177.out 4;have hfz6_5 := blk_frozen BK177.out 5;have hfz6_6 := blk_frozen BK177.out 6) | (go_at_call 89;(with_reducible refine (gauge_up.calls ji3 1000000 t178 _ A4.out).mono ?_);rintro e w' ⟨rfl,⟨nd,rfl⟩⟩;(try first | exact ⟨rfl,_,World.drewN_drewN _ _ _⟩ | exact ⟨rfl,_,Eq.trans (World.drewN_drewN _ _ _) (congrArg (World.drewN _) (Nat.add_assoc _ _ _))⟩)))
 repeat (go_quiet (first | ((with_reducible refine gate_dst (N := 2) rfl ?_);refine box_event ?hg (N := 2) ?hd (cs := #[.int .i64 a0_0,.int .i64 a0_1,.int .i64 a0_2,.int .i64 a0_3,.int .i64 a0_4,.int .i64 a0_5,.int .i64 a0_6]) (t := 49) ?hr ?_;(case hd => rfl);(case hg => rfl);(case hr => first | (go_simp;done) | (go_simp;rfl));intro gb177 hg w5 hbox hb;have n0_ := aM_ (bT_ (by repeat (first | (with_reducible first | exact HB.out | apply bA_ | apply bN_ | apply bD_) | exact HB.out)) hb);have n1_ := aM_ (hbox);have n2_ := aM_ ((by rw [hg];exact (below_size (by repeat (first | (with_reducible first | exact HB.out | apply bA_ | apply bN_ | apply bD_) | exact HB.out))) : w.heap.size ≤ gb177));have n3_ := aM_ ((by rw [hg];exact (below_size (by repeat (first | (with_reducible first | exact HB.out | apply bA_ | apply bN_ | apply bD_) | exact HB.out))) : w.heap.size ≤ gb177));clear HB;have HB := n0_;have BK177 := n1_;have GW177 := n2_;have GE177 := n3_;clear n0_ n1_ n2_ n3_;clear hb hbox hg;have hcz6_0 : w5.cell? ⟨gb177,0,none⟩ = some (.int .i64 a0_0) := (blk_cell BK177.out 0).trans rfl;have hcz6_1 : w5.cell? ⟨gb177,1,none⟩ = some (.int .i64 a0_1) := (blk_cell BK177.out 1).trans rfl;have hcz6_2 : w5.cell? ⟨gb177,2,none⟩ = some (.int .i64 a0_2) := (blk_cell BK177.out 2).trans rfl;have hcz6_3 : w5.cell? ⟨gb177,3,none⟩ = some (.int .i64 a0_3) := (blk_cell BK177.out 3).trans rfl;have hcz6_4 : w5.cell? ⟨gb177,4,none⟩ = some (.int .i64 a0_4) := (blk_cell BK177.out 4).trans rfl;have hcz6_5 : w5.cell? ⟨gb177,5,none⟩ = some (.int .i64 a0_5) := (blk_cell BK177.out 5).trans rfl;have hcz6_6 : w5.cell? ⟨gb177,6,none⟩ = some (.int .i64 a0_6) := (blk_cell BK177.out 6).trans rfl;have hfz6_0 := blk_frozen BK177.out 0;have hfz6_1 := blk_frozen BK177.out 1;have hfz6_2 := blk_frozen BK177.out 2;have hfz6_3 := blk_frozen BK177.out 3;have hfz6_4 := blk_frozen BK177.out 4;have hfz6_5 := blk_frozen BK177.out 5;have hfz6_6 := blk_frozen BK177.out 6) | (go_at_call 89;(with_reducible refine (gauge_up.calls ji3 1000000 t178 _ A4.out).mono ?_);rintro e w' ⟨rfl,⟨nd,rfl⟩⟩;(try first | exact ⟨rfl,_,World.drewN_drewN _ _ _⟩ | exact ⟨rfl,_,Eq.trans (World.drewN_drewN _ _ _) (congrArg (World.drewN _) (Nat.add_assoc _ _ _))⟩)));try go_wp2_with (first | ((with_reducible refine gate_dst (N := 2) rfl ?_);refine box_event ?hg (N := 2) ?hd (cs := #[.int .i64 a0_0,.int .i64 a0_1,.int .i64 a0_2,.int .i64 a0_3,.int .i64 a0_4,.int .i64 a0_5,.int .i64 a0_6]) (t := 49) ?hr ?_;(case hd => rfl);(case hg => rfl);(case hr => first | (go_simp;done) | (go_simp;rfl));intro gb177 hg w5 hbox hb;have n0_ := aM_ (bT_ (by repeat (first | (with_reducible first | exact HB.out | apply bA_ | apply bN_ | apply bD_) | exact HB.out)) hb);have n1_ := aM_ (hbox);have n2_ := aM_ ((by rw [hg];exact (below_size (by repeat (first | (with_reducible first | exact HB.out | apply bA_ | apply bN_ | apply bD_) | exact HB.out))) : w.heap.size ≤ gb177));have n3_ := aM_ ((by rw [hg];exact (below_size (by repeat (first | (with_reducible first | exact HB.out | apply bA_ | apply bN_ | apply bD_) | exact HB.out))) : w.heap.size ≤ gb177));clear HB;have HB := n0_;have BK177 := n1_;have GW177 := n2_;have GE177 := n3_;clear n0_ n1_ n2_ n3_;clear hb hbox hg;have hcz6_0 : w5.cell? ⟨gb177,0,none⟩ = some (.int .i64 a0_0) := (blk_cell BK177.out 0).trans rfl;have hcz6_1 : w5.cell? ⟨gb177,1,none⟩ = some (.int .i64 a0_1) := (blk_cell BK177.out 1).trans rfl;have hcz6_2 : w5.cell? ⟨gb177,2,none⟩ = some (.int .i64 a0_2) := (blk_cell BK177.out 2).trans rfl;have hcz6_3 : w5.cell? ⟨gb177,3,none⟩ = some (.int .i64 a0_3) := (blk_cell BK177.out 3).trans rfl;have hcz6_4 : w5.cell? ⟨gb177,4,none⟩ = some (.int .i64 a0_4) := (blk_cell BK177.out 4).trans rfl;have hcz6_5 : w5.cell? ⟨gb177,5,none⟩ = some (.int .i64 a0_5) := (blk_cell BK177.out 5).trans rfl;have hcz6_6 : w5.cell? ⟨gb177,6,none⟩ = some (.int .i64 a0_6) := (blk_cell BK177.out 6).trans rfl;have hfz6_0 := blk_frozen BK177.out 0;have hfz6_1 := blk_frozen BK177.out 1;have hfz6_2 := blk_frozen BK177.out 2;have hfz6_3 := blk_frozen BK177.out 3;have hfz6_4 := blk_frozen BK177.out 4;have hfz6_5 := blk_frozen BK177.out 5;have hfz6_6 := blk_frozen BK177.out 6) | (go_at_call 89;(with_reducible refine (gauge_up.calls ji3 1000000 t178 _ A4.out).mono ?_);rintro e w' ⟨rfl,⟨nd,rfl⟩⟩;(try first | exact ⟨rfl,_,World.drewN_drewN _ _ _⟩ | exact ⟨rfl,_,Eq.trans (World.drewN_drewN _ _ _) (congrArg (World.drewN _) (Nat.add_assoc _ _ _))⟩))))
 go_ret
 exact ⟨by first | rfl | (simp [errW_none,errW_some] <;> rfl) | (simp only [← hji3];first | rfl | (simp [errW_none,errW_some] <;> rfl)) | (simp [*,errW_none,errW_some] <;> rfl),by repeat (first | (with_reducible first | exact HB.out | apply bA_ | apply bN_ | apply bD_ | refine bS_ ?_ GE177.out) | exact HB.out)⟩

--HAND
/-! ### gauge.back,by hand: function 70 -/
def backLo (glo ghi ohi n : Int) : Int := if 0 ≤ n - ohi - 1 then (n - ohi - 1) * 1000000 / ghi + 1 else (n - ohi - 1) * 1000000 / glo + 1
def backHi (glo ghi olo n : Int) : Int := if 0 < n - olo + 1 then ((n - olo + 1) * 1000000 - 1) / glo else ((n - olo + 1) * 1000000 - 1) / ghi
def meterOk (glo ghi olo ohi : Int) : Prop := 500000 ≤ glo ∧ glo ≤ ghi ∧ ghi ≤ 2000000 ∧ -1000000 ≤ olo ∧ olo ≤ ohi ∧ ohi ≤ 1000000
def hiEnd (glo ghi ohi x : Int) : Int := -(-(max (x * glo) (x * ghi)) / 1000000) + ohi
def loEnd (glo ghi olo x : Int) : Int := min (x * glo) (x * ghi) / 1000000 + olo

theorem backLo_iff {glo ghi olo ohi : Int} (h : meterOk glo ghi olo ohi) (n x : Int) : n ≤ hiEnd glo ghi ohi x ↔ backLo glo ghi ohi n ≤ x := by
 obtain ⟨g0,g1,_,_⟩ := h
 unfold hiEnd backLo
 have key : n ≤ -(-(max (x * glo) (x * ghi)) / 1000000) + ohi ↔ (n - ohi - 1) * 1000000 < max (x * glo) (x * ghi) := by omega
 rw [key]
 clear key
 generalize ht : (n - ohi - 1) * 1000000 = t
 by_cases h0 : 0 ≤ n - ohi - 1
 ·rw [if_pos h0]
  have e : t / ghi + 1 ≤ x ↔ t < x * ghi := by rw [Int.add_one_le_iff,Int.ediv_lt_iff_lt_mul (by omega)]
  rw [e]
  constructor
  ·intro hm
   rcases Int.le_total 0 x with hx | hx
   ·have := Int.mul_le_mul_of_nonneg_left g1 hx;omega
   ·have a1 := Int.mul_nonneg_of_nonpos_of_nonpos hx (show -glo ≤ 0 by omega)
    have a2 := Int.mul_nonneg_of_nonpos_of_nonpos hx (show -ghi ≤ 0 by omega)
    rw [Int.mul_neg] at a1 a2
    omega
  ·intro hm;omega
 ·rw [if_neg h0]
  have e : t / glo + 1 ≤ x ↔ t < x * glo := by rw [Int.add_one_le_iff,Int.ediv_lt_iff_lt_mul (by omega)]
  rw [e]
  constructor
  ·intro hm
   rcases Int.le_total 0 x with hx | hx
   ·have := Int.mul_nonneg hx (show 0 ≤ glo by omega);omega
   ·have := Int.mul_le_mul_of_nonpos_left hx g1;omega
  ·intro hm;omega

theorem backHi_iff {glo ghi olo ohi : Int} (h : meterOk glo ghi olo ohi) (n x : Int) : n < loEnd glo ghi olo x ↔ backHi glo ghi olo n + 1 ≤ x := by
 obtain ⟨g0,g1,_,_⟩ := h
 unfold loEnd backHi
 have key : n < min (x * glo) (x * ghi) / 1000000 + olo ↔ (n - olo + 1) * 1000000 - 1 < min (x * glo) (x * ghi) := by omega
 rw [key]
 clear key
 generalize ht : (n - olo + 1) * 1000000 - 1 = t
 by_cases h0 : 0 < n - olo + 1
 ·rw [if_pos h0]
  have e : t / glo + 1 ≤ x ↔ t < x * glo := by rw [Int.add_one_le_iff,Int.ediv_lt_iff_lt_mul (by omega)]
  rw [e]
  constructor
  ·intro hm;omega
  ·intro hm
   rcases Int.le_total 0 x with hx | hx
   ·have := Int.mul_le_mul_of_nonneg_left g1 hx;omega
   ·have a1 := Int.mul_nonneg_of_nonpos_of_nonpos hx (show -glo ≤ 0 by omega)
    rw [Int.mul_neg] at a1
    omega
 ·rw [if_neg h0]
  have e : t / ghi + 1 ≤ x ↔ t < x * ghi := by rw [Int.add_one_le_iff,Int.ediv_lt_iff_lt_mul (by omega)]
  rw [e]
  constructor
  ·intro hm;omega
  ·intro hm
   rcases Int.le_total 0 x with hx | hx
   ·have := Int.mul_nonneg hx (show 0 ≤ glo by omega);omega
   ·have := Int.mul_le_mul_of_nonpos_left hx g1;omega

theorem tdown {n d : Int} (hd : 0 < d) : (if Int.tmod n d < 0 then Int.tdiv n d - 1 else Int.tdiv n d) = n / d := by
 rcases Int.le_total 0 n with h | h
 ·rw [Int.tmod_eq_emod_of_nonneg h,Int.tdiv_eq_ediv_of_nonneg h,if_neg (by have := Int.emod_nonneg n (show d ≠ 0 by omega);omega)]
 ·obtain ⟨m,rfl⟩ : ∃ m,n = -m := ⟨-n,by omega⟩
  have hm : 0 ≤ m := by omega
  rw [Int.neg_tmod,Int.neg_tdiv,Int.tmod_eq_emod_of_nonneg hm,Int.tdiv_eq_ediv_of_nonneg hm]
  have e0 := Int.mul_ediv_add_emod m d
  have e1 := Int.emod_nonneg m (show d ≠ 0 by omega)
  have e2 := Int.emod_lt_of_pos m hd
  split
  ·apply Int.le_antisymm
   ·rw [Int.le_ediv_iff_mul_le hd,Int.sub_mul,Int.neg_mul,Int.mul_comm (m / d) d];omega
   ·have : -m / d < -(m / d) := by rw [Int.ediv_lt_iff_lt_mul hd,Int.neg_mul,Int.mul_comm (m / d) d];omega
    omega
  ·apply Int.le_antisymm
   ·rw [Int.le_ediv_iff_mul_le hd,Int.neg_mul,Int.mul_comm (m / d) d];omega
   ·have : -m / d < -(m / d) + 1 := by rw [Int.ediv_lt_iff_lt_mul hd,Int.add_mul,Int.neg_mul,Int.mul_comm (m / d) d];omega
    omega
theorem tdiv_bound {n d : Int} (hd : 0 < d) (h : -9223372036854775808 ≤ n ∧ n ≤ 9223372036854775807) : -9223372036854775808 ≤ Int.tdiv n d ∧ Int.tdiv n d ≤ 9223372036854775807 ∧ (Int.tmod n d < 0 → -9223372036854775808 ≤ Int.tdiv n d - 1) := by
 rcases Int.le_total 0 n with h0 | h0
 ·rw [Int.tmod_eq_emod_of_nonneg h0,Int.tdiv_eq_ediv_of_nonneg h0]
  have a := Int.ediv_nonneg h0 (show 0 ≤ d by omega)
  have b := Int.ediv_le_self d h0
  have c := Int.emod_nonneg n (show d ≠ 0 by omega)
  omega
 ·obtain ⟨m,rfl⟩ : ∃ m,n = -m := ⟨-n,by omega⟩
  have hm : 0 ≤ m := by omega
  rw [Int.neg_tmod,Int.neg_tdiv,Int.tmod_eq_emod_of_nonneg hm,Int.tdiv_eq_ediv_of_nonneg hm]
  have a := Int.ediv_nonneg hm (show 0 ≤ d by omega)
  have b := Int.ediv_le_self d hm
  have e0 := Int.mul_ediv_add_emod m d
  refine ⟨by omega,by omega,fun hlt => ?_⟩
  have e3 : m / d ≤ d * (m / d) := by have := Int.mul_le_mul_of_nonneg_right (show 1 ≤ d by omega) a;omega
  omega
theorem wrap64_eq {n : Int} (h : -9223372036854775808 ≤ n ∧ n ≤ 9223372036854775807) : wrap64 n = n := by unfold wrap64;omega
theorem gauge_down.eq {n d : Int} (hd : 0 < d) (h : -9223372036854775808 ≤ n ∧ n ≤ 9223372036854775807) : gauge_down.f n d = some (n / d) := by
 obtain ⟨b1,b2,b3⟩ := tdiv_bound hd h
 have t := tdown (n := n) hd
 unfold gauge_down.f
 rw [if_neg (by omega)]
 split at t
 ·rename_i hc;rw [if_pos hc,wrap64_eq ⟨b1,b2⟩,wrap64_eq ⟨b3 hc,by omega⟩,t]
 ·rename_i hc;rw [if_neg hc,wrap64_eq ⟨b1,b2⟩,t]
theorem mul_within {x g B G : Int} (x0 : -B ≤ x) (x1 : x ≤ B) (g0 : 0 ≤ g) (g1 : g ≤ G) (hB : 0 ≤ B) : -(B * G) ≤ x * g ∧ x * g ≤ B * G := by
 have a := Int.mul_le_mul_of_nonneg_right x1 g0
 have b := Int.mul_le_mul_of_nonneg_right x0 g0
 have c := Int.mul_le_mul_of_nonneg_left g1 hB
 rw [Int.neg_mul] at b
 omega
theorem mx_eq (a b : Int) : mx a b = max a b := by unfold mx;omega
theorem mn_eq (a b : Int) : mn a b = min a b := by unfold mn;omega
theorem gauge_high.eq {a0 a1 a2 a3 : Int} (a4 a5 a6 : Int) {x : Int} (h : meterOk a0 a1 a2 a3) (x0 : -4300000000000 ≤ x) (x1 : x ≤ 4300000000000) : gauge_high.f a0 a1 a2 a3 a4 a5 a6 x = some (hiEnd a0 a1 a3 x) := by
 obtain ⟨g0,g1,g2,o0,o1,o2⟩ := h
 have m0 := mul_within x0 x1 (show 0 ≤ a0 by omega) (show a0 ≤ 2000000 by omega) (by omega)
 have m1 := mul_within x0 x1 (show 0 ≤ a1 by omega) (show a1 ≤ 2000000 by omega) (by omega)
 unfold gauge_high.f gauge_up.f hiEnd
 rw [wrap64_eq (n := x * a0) (by omega),wrap64_eq (n := x * a1) (by omega),mx_eq]
 rw [wrap64_eq (n := -(max (x * a0) (x * a1))) (by omega),gauge_down.eq (by omega) (by omega)]
 simp only [Option.bind_some]
 rw [wrap64_eq (n := -(-(max (x * a0) (x * a1)) / 1000000)) (by omega),wrap64_eq (by omega)]
theorem gauge_low.eq {a0 a1 a2 a3 : Int} (a4 a5 a6 : Int) {x : Int} (h : meterOk a0 a1 a2 a3) (x0 : -4300000000000 ≤ x) (x1 : x ≤ 4300000000000) : gauge_low.f a0 a1 a2 a3 a4 a5 a6 x = some (loEnd a0 a1 a2 x) := by
 obtain ⟨g0,g1,g2,o0,o1,o2⟩ := h
 have m0 := mul_within x0 x1 (show 0 ≤ a0 by omega) (show a0 ≤ 2000000 by omega) (by omega)
 have m1 := mul_within x0 x1 (show 0 ≤ a1 by omega) (show a1 ≤ 2000000 by omega) (by omega)
 unfold gauge_low.f loEnd
 rw [wrap64_eq (n := x * a0) (by omega),wrap64_eq (n := x * a1) (by omega),mn_eq]
 rw [gauge_down.eq (by omega) (by omega)]
 simp only [Option.bind_some]
 rw [wrap64_eq (by omega)]

set_option maxHeartbeats 4000000 in
set_option maxRecDepth 1000000 in
theorem gauge_back_1.calls (a0 a1 a2 a3 a4 a5 a6 lo hi x : Int) (bm br : Nat) (w : World) (h : meterOk a0 a1 a2 a3) (x0 : -4300000000000 ≤ x) (x1 : x ≤ 4300000000000)
  (cm : w.heap[bm]? = some (.cells #[.int .i64 a0,.int .i64 a1,.int .i64 a2,.int .i64 a3,.int .i64 a4,.int .i64 a5,.int .i64 a6] 49 (0,0))) (cr : w.heap[br]? = some (.cells #[.int .i64 lo,.int .i64 hi] 34 (0,0))) :
  Calls Try.prog 90 (#[.int .i64 x] ++ #[.pointer (some ⟨bm,0,none⟩),.pointer (some ⟨br,0,none⟩)]) w fun e w' => e = .returned (.bool (decide (backLo a0 a1 a3 lo ≤ x))) ∧ Below w.heap.size w w' := by
 have e0 : decide (backLo a0 a1 a3 lo ≤ x) = decide (lo ≤ hiEnd a0 a1 a3 x) := by rw [decide_eq_decide];exact (backLo_iff h lo x).symm
 rw [e0]
 clear e0
 have HS := aM_ (gauge_high.calls a0 a1 a2 a3 a4 a5 a6 x _ w.drew (gauge_high.eq a4 a5 a6 h x0 x1))
 clear h
 generalize hiEnd a0 a1 a3 x = y at HS ⊢
 have CR := aM_ cr
 have hu36 := Try.underlying49
 have hu34 := Try.underlying34
 have c0 : w.cell? ⟨bm,0,none⟩ = some (.int .i64 a0) := (blk_cell cm 0).trans rfl
 have c1 : w.cell? ⟨bm,1,none⟩ = some (.int .i64 a1) := (blk_cell cm 1).trans rfl
 have c2 : w.cell? ⟨bm,2,none⟩ = some (.int .i64 a2) := (blk_cell cm 2).trans rfl
 have c3 : w.cell? ⟨bm,3,none⟩ = some (.int .i64 a3) := (blk_cell cm 3).trans rfl
 have c4 : w.cell? ⟨bm,4,none⟩ = some (.int .i64 a4) := (blk_cell cm 4).trans rfl
 have c5 : w.cell? ⟨bm,5,none⟩ = some (.int .i64 a5) := (blk_cell cm 5).trans rfl
 have c6 : w.cell? ⟨bm,6,none⟩ = some (.int .i64 a6) := (blk_cell cm 6).trans rfl
 have r0 : w.cell? ⟨br,0,none⟩ = some (.int .i64 lo) := (blk_cell cr 0).trans rfl
 clear cm cr
 go_enter Try.func90,Try.ntmps90
 go_wp2
 go_region_with (go_at_call 66;(with_reducible refine HS.out.mono ?_);rintro e w' ⟨rfl,hb⟩;have hc : w'.cell? ⟨br,0,none⟩ = some (.int .i64 lo) := (blk_cell (kB_ (kD_ CR.out) hb) 0).trans rfl)
 all_goals (go_wp2;go_ret)
 all_goals refine ⟨by simp [Act.put],?_⟩
 all_goals exact bT_ (bD_ (Below.refl _ _)) (by assumption)

set_option maxHeartbeats 4000000 in
set_option maxRecDepth 1000000 in
theorem gauge_back_2.calls (a0 a1 a2 a3 a4 a5 a6 lo hi x : Int) (bm br : Nat) (w : World) (h : meterOk a0 a1 a2 a3) (x0 : -4300000000000 ≤ x) (x1 : x ≤ 4300000000000)
  (cm : w.heap[bm]? = some (.cells #[.int .i64 a0,.int .i64 a1,.int .i64 a2,.int .i64 a3,.int .i64 a4,.int .i64 a5,.int .i64 a6] 49 (0,0))) (cr : w.heap[br]? = some (.cells #[.int .i64 lo,.int .i64 hi] 34 (0,0))) :
  Calls Try.prog 91 (#[.int .i64 x] ++ #[.pointer (some ⟨bm,0,none⟩),.pointer (some ⟨br,0,none⟩)]) w fun e w' => e = .returned (.bool (decide (backHi a0 a1 a2 hi + 1 ≤ x))) ∧ Below w.heap.size w w' := by
 have e0 : decide (backHi a0 a1 a2 hi + 1 ≤ x) = decide (hi < loEnd a0 a1 a2 x) := by rw [decide_eq_decide];exact (backHi_iff h hi x).symm
 rw [e0]
 clear e0
 have HS := aM_ (gauge_low.calls a0 a1 a2 a3 a4 a5 a6 x _ w.drew (gauge_low.eq a4 a5 a6 h x0 x1))
 clear h
 generalize loEnd a0 a1 a2 x = y at HS ⊢
 have CR := aM_ cr
 have hu36 := Try.underlying49
 have hu34 := Try.underlying34
 have c0 : w.cell? ⟨bm,0,none⟩ = some (.int .i64 a0) := (blk_cell cm 0).trans rfl
 have c1 : w.cell? ⟨bm,1,none⟩ = some (.int .i64 a1) := (blk_cell cm 1).trans rfl
 have c2 : w.cell? ⟨bm,2,none⟩ = some (.int .i64 a2) := (blk_cell cm 2).trans rfl
 have c3 : w.cell? ⟨bm,3,none⟩ = some (.int .i64 a3) := (blk_cell cm 3).trans rfl
 have c4 : w.cell? ⟨bm,4,none⟩ = some (.int .i64 a4) := (blk_cell cm 4).trans rfl
 have c5 : w.cell? ⟨bm,5,none⟩ = some (.int .i64 a5) := (blk_cell cm 5).trans rfl
 have c6 : w.cell? ⟨bm,6,none⟩ = some (.int .i64 a6) := (blk_cell cm 6).trans rfl
 have r0 : w.cell? ⟨br,1,none⟩ = some (.int .i64 hi) := (blk_cell cr 1).trans rfl
 clear cm cr
 go_enter Try.func91,Try.ntmps91
 go_wp2
 go_region_with (go_at_call 65;(with_reducible refine HS.out.mono ?_);rintro e w' ⟨rfl,hb⟩;have hc : w'.cell? ⟨br,1,none⟩ = some (.int .i64 hi) := (blk_cell (kB_ (kD_ CR.out) hb) 1).trans rfl)
 all_goals (go_wp2;go_ret)
 all_goals refine ⟨by simp [Act.put],?_⟩
 all_goals exact bT_ (bD_ (Below.refl _ _)) (by assumption)

theorem backLo_bound {glo ghi olo ohi n : Int} (h : meterOk glo ghi olo ohi) {M : Int} (hn : -M ≤ n) (hn' : n ≤ M) : -(2 * M + 2000003) ≤ backLo glo ghi ohi n ∧ backLo glo ghi ohi n ≤ 2 * M + 2000003 := by
 obtain ⟨g0,g1,g2,o0,o1,o2⟩ := h
 unfold backLo
 split
 ·have a := Int.ediv_nonneg (show 0 ≤ (n - ohi - 1) * 1000000 by omega) (show 0 ≤ ghi by omega)
  have b : (n - ohi - 1) * 1000000 / ghi ≤ (n - ohi - 1) * 2 := Int.ediv_le_of_le_mul (by omega) (by have := Int.mul_le_mul_of_nonneg_left (show (500000 : Int) ≤ ghi by omega) (show 0 ≤ (n - ohi - 1) * 2 by omega);omega)
  omega
 ·have b : (n - ohi - 1) * 2 ≤ (n - ohi - 1) * 1000000 / glo := by
   rw [Int.le_ediv_iff_mul_le (by omega)]
   have := Int.mul_le_mul_of_nonpos_left (show (n - ohi - 1) * 2 ≤ 0 by omega) (show (500000 : Int) ≤ glo by omega)
   omega
  have a : (n - ohi - 1) * 1000000 / glo < 0 := Int.ediv_neg_of_neg_of_pos (by omega) (by omega)
  omega
theorem backHi_bound {glo ghi olo ohi n : Int} (h : meterOk glo ghi olo ohi) {M : Int} (hn : -M ≤ n) (hn' : n ≤ M) : -(2 * M + 2000003) ≤ backHi glo ghi olo n ∧ backHi glo ghi olo n ≤ 2 * M + 2000003 := by
 obtain ⟨g0,g1,g2,o0,o1,o2⟩ := h
 unfold backHi
 split
 ·have a := Int.ediv_nonneg (show 0 ≤ (n - olo + 1) * 1000000 - 1 by omega) (show 0 ≤ glo by omega)
  have b : ((n - olo + 1) * 1000000 - 1) / glo ≤ (n - olo + 1) * 2 := Int.ediv_le_of_le_mul (by omega) (by have := Int.mul_le_mul_of_nonneg_left (show (500000 : Int) ≤ glo by omega) (show 0 ≤ (n - olo + 1) * 2 by omega);omega)
  omega
 ·have b : (n - olo + 1) * 2 - 1 ≤ ((n - olo + 1) * 1000000 - 1) / ghi := by
   rw [Int.le_ediv_iff_mul_le (by omega)]
   have := Int.mul_le_mul_of_nonpos_left (show (n - olo + 1) * 2 - 1 ≤ 0 by omega) (show (500000 : Int) ≤ ghi by omega)
   omega
  have a : ((n - olo + 1) * 1000000 - 1) / ghi < 0 := Int.ediv_neg_of_neg_of_pos (by omega) (by omega)
  omega

theorem gauge_back.lo (a0 a1 a2 a3 a4 a5 a6 lo hi most : Int) (bm br : Nat) (w : World) (h : meterOk a0 a1 a2 a3) (m0 : 2 * lo + 4000010 ≤ most) (m1 : -(2 * lo) + 4000010 ≤ most) (m4 : most ≤ 4300000000000)
  (cm : w.heap[bm]? = some (.cells #[.int .i64 a0,.int .i64 a1,.int .i64 a2,.int .i64 a3,.int .i64 a4,.int .i64 a5,.int .i64 a6] 49 (0,0))) (cr : w.heap[br]? = some (.cells #[.int .i64 lo,.int .i64 hi] 34 (0,0))) :
  Calls Try.prog 51 #[.int .i64 most,.func (.func 90) #[] #[.pointer (some ⟨bm,0,none⟩),.pointer (some ⟨br,0,none⟩)]] w fun e w' => e = .returned (.int .i64 (backLo a0 a1 a3 lo)) ∧ Below w.heap.size w w' := by
 have hb := backLo_bound h (M := max lo (-lo)) (n := lo) (by omega) (by omega)
 exact gauge_first.calls 90 _ most (backLo a0 a1 a3 lo) w (enters_of Try.func90 (by kernel_rfl) rfl) (by omega) (by omega) (by omega) (by omega)
  (fun W x hB x0 x1 => gauge_back_1.calls a0 a1 a2 a3 a4 a5 a6 lo hi x bm br W h (by omega) (by omega) (kB_ cm hB) (kB_ cr hB))
theorem gauge_back.hi (a0 a1 a2 a3 a4 a5 a6 lo hi most : Int) (bm br : Nat) (w : World) (h : meterOk a0 a1 a2 a3) (m2 : 2 * hi + 4000010 ≤ most) (m3 : -(2 * hi) + 4000010 ≤ most) (m4 : most ≤ 4300000000000)
  (cm : w.heap[bm]? = some (.cells #[.int .i64 a0,.int .i64 a1,.int .i64 a2,.int .i64 a3,.int .i64 a4,.int .i64 a5,.int .i64 a6] 49 (0,0))) (cr : w.heap[br]? = some (.cells #[.int .i64 lo,.int .i64 hi] 34 (0,0))) :
  Calls Try.prog 51 #[.int .i64 most,.func (.func 91) #[] #[.pointer (some ⟨bm,0,none⟩),.pointer (some ⟨br,0,none⟩)]] w fun e w' => e = .returned (.int .i64 (backHi a0 a1 a2 hi + 1)) ∧ Below w.heap.size w w' := by
 have hb := backHi_bound h (M := max hi (-hi)) (n := hi) (by omega) (by omega)
 exact gauge_first.calls 91 _ most (backHi a0 a1 a2 hi + 1) w (enters_of Try.func91 (by kernel_rfl) rfl) (by omega) (by omega) (by omega) (by omega)
  (fun W x hB x0 x1 => gauge_back_2.calls a0 a1 a2 a3 a4 a5 a6 lo hi x bm br W h (by omega) (by omega) (kB_ cm hB) (kB_ cr hB))

set_option maxHeartbeats 8000000 in
set_option maxRecDepth 1000000 in
theorem gauge_back.calls (a0 a1 a2 a3 a4 a5 a6 lo hi : Int) (w : World) (h : meterOk a0 a1 a2 a3) (l0 : -2100000000000 ≤ lo) (l1 : lo ≤ 2100000000000) (h0 : -2100000000000 ≤ hi) (h1 : hi ≤ 2100000000000) :
  Calls Try.prog 70 #[.agg #[.int .i64 a0,.int .i64 a1,.int .i64 a2,.int .i64 a3,.int .i64 a4,.int .i64 a5,.int .i64 a6],.agg #[.int .i64 lo,.int .i64 hi]] w
   fun e w' => e = .returned (.agg #[.int .i64 (backLo a0 a1 a3 lo),.int .i64 (backHi a0 a1 a2 hi)]) ∧ Below w.heap.size w w' := by
 have hb := backHi_bound h (M := max hi (-hi)) (n := hi) (by omega) (by omega)
 obtain ⟨y,hy⟩ : ∃ y,y = backHi a0 a1 a2 hi := ⟨_,rfl⟩
 rw [← hy] at hb ⊢
 have HY := aM_ hy
 clear hy
 have b0 : -4300000000000 ≤ y := by omega
 have b1 : y ≤ 4300000000000 := by omega
 clear hb
 have HL := aM_ (fun most m0 m1 m4 => gauge_back.lo a0 a1 a2 a3 a4 a5 a6 lo hi most w.heap.size (w.heap.size + 1) (((w.alloc (.cells #[.int .i64 a0,.int .i64 a1,.int .i64 a2,.int .i64 a3,.int .i64 a4,.int .i64 a5,.int .i64 a6] 49)).alloc (.cells #[.int .i64 lo,.int .i64 hi] 34)).alloc (.cells #[.int .i64 0,.int .i64 0] 34)) h m0 m1 m4
  (kA_ (kA_ (blk_new w _) _) _) (kA_ (by have := blk_new (w.alloc (.cells #[.int .i64 a0,.int .i64 a1,.int .i64 a2,.int .i64 a3,.int .i64 a4,.int .i64 a5,.int .i64 a6] 49)) (.cells #[.int .i64 lo,.int .i64 hi] 34);rwa [World.size_alloc] at this) _))
 have HU := aM_ (fun most W m2 m3 m4 cm cr => gauge_back.hi a0 a1 a2 a3 a4 a5 a6 lo hi most w.heap.size (w.heap.size + 1) W h m2 m3 m4 cm cr)
 clear h
 have hu36 := Try.underlying49
 have hu34 := Try.underlying34
 go_enter Try.func70,Try.ntmps70
 go_wp2_with (fail)
 all_goals
  (with_reducible refine (HL.out _ (by omega) (by omega) (by omega)).mono ?_)
  rintro e w1 ⟨rfl,hb⟩
  have HB1 := aM_ hb
  have k0 := aM_ (kB_ (kA_ (kA_ (blk_new w (.cells #[.int .i64 a0,.int .i64 a1,.int .i64 a2,.int .i64 a3,.int .i64 a4,.int .i64 a5,.int .i64 a6] 49)) (.cells #[.int .i64 lo,.int .i64 hi] 34)) (.cells #[.int .i64 0,.int .i64 0] 34)) hb)
  have k1 := aM_ (kB_ (kA_ (blk_new (w.alloc (.cells #[.int .i64 a0,.int .i64 a1,.int .i64 a2,.int .i64 a3,.int .i64 a4,.int .i64 a5,.int .i64 a6] 49)) (.cells #[.int .i64 lo,.int .i64 hi] 34)) (.cells #[.int .i64 0,.int .i64 0] 34)) hb)
  have k2 := aM_ (kB_ (blk_new ((w.alloc (.cells #[.int .i64 a0,.int .i64 a1,.int .i64 a2,.int .i64 a3,.int .i64 a4,.int .i64 a5,.int .i64 a6] 49)).alloc (.cells #[.int .i64 lo,.int .i64 hi] 34)) (.cells #[.int .i64 0,.int .i64 0] 34)) hb)
  simp only [World.size_alloc] at k1 k2
  clear hb
  go_wp2_with (fail)
  (with_reducible refine (HU.out _ _ (by omega) (by omega) (by omega) k0.out k1.out).mono ?_)
  rw [← HY.out]
  rintro e w2 ⟨rfl,hb⟩
  have k3 := kB_ k2.out hb
  have f0 := blk_frozen k3 0
  have f1 := blk_frozen k3 1
  have q0 : w2.cell? ⟨w.heap.size + 1 + 1,0,none⟩ = some (.int .i64 0) := (blk_cell k3 0).trans rfl
  have q1 : w2.cell? ⟨w.heap.size + 1 + 1,1,none⟩ = some (.int .i64 0) := (blk_cell k3 1).trans rfl
  have HB2 := aM_ (bT_ (bT_ (bA_ (bA_ (bA_ (Below.refl w.heap.size w) _) _) _) HB1.out) hb)
  have K3 := aM_ k3
  clear hb k3
  go_wp2_with (fail)
  exact bodyPost_ret (v := .agg #[.int .i64 (backLo a0 a1 a3 lo),.int .i64 y]) (by simp [results,Try.results70,go_sem,q0,q1]) rfl ⟨rfl,bS_ (bS_ HB2.out (by omega)) (by omega)⟩

end Go.Proofs.Ytdbpobadeibjaab.GE
