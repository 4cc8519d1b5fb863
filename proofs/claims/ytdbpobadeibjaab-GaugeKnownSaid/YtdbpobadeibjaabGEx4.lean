-- written for this claim by a program of this session (wip/gp), over the kit's own printer; Lean checks it
import Derived.Test.YtdbpobadeibjaabGEx0
import Derived.Test.YtdbpobadeibjaabGEx3
namespace Go.Proofs.Ytdbpobadeibjaab.GE
open Go.RowKit Go.Proofs.YtdbpobadeibjaabW.PrintWords Go.Proofs.YtdbpobadeibjaabW.PrintLast Go.Proofs.YtdbpobadeibjaabW.PrintMore
attribute [local go_sem] max2_int min2_int max_two min_two max_three min_three max_four min_four
set_option linter.unusedVariables false
set_option linter.unusedSimpArgs false

/-! ### D_Between: function 12 -/
def D_Between.f (s0_0 : Int) (a1 : Int) (a2 : Int) : Option (Int × Int) := (D_Upto.f s0_0 (wrap64 ((wrap64 (a2 - a1)) + 1))).bind fun bt103 => (some (wrap64 (a1 + bt103.1),bt103.2))
set_option maxHeartbeats 8000000 in
set_option maxRecDepth 100000 in
theorem D_Between.calls (g : Nat) (s0_0 : Int) (a1 : Int) (a2 : Int) (r1 : Int) (r2 : Int) (w0 w : World) (hI : IsS65 w0 w g s0_0) (hB : Below w0.heap.size w0 w) (h : D_Between.f s0_0 a1 a2 = some (r1,r2)) :
  Calls Try.prog 12 #[.pointer (some ⟨g,0,none⟩),.int .i64 a1,.int .i64 a2] w fun e w' => e = .returned (.int .i64 r1) ∧ IsS65 w0 w' g r2 ∧ Below w0.heap.size w0 w' ∧ KeepBut w w' g none := by
 have HI0 := aM_ hI
 have HK := aM_ (KeepBut.refl w g none)
 have HL := aM_ hB.size
 clear hI
 have HW0 := aM_ hB.size
 have HB := aM_ hB
 clear hB
 have H : ((D_Upto.f s0_0 (wrap64 ((wrap64 (a2 - a1)) + 1))).bind fun bt103 => (some (wrap64 (a1 + bt103.1),bt103.2))) = some (r1,r2) := h
 clear h
 replace H := oB_ H
 obtain ⟨⟨t103,t104⟩,A40,H⟩ := H
 replace H : (some (wrap64 (a1 + t103),t104)) = some (r1,r2) := H
 have A4 := aM_ A40
 clear A40
 simp only [Option.some.injEq,Prod.mk.injEq] at H
 obtain ⟨rfl,rfl⟩ := H
 go_enter Try.func12,Try.ntmps12
 go_wp2_with (first | ((with_reducible refine gate_callee (f := 13) rfl ?_);refine goesL_ (some 13) rfl rfl Try.func13 (by kernel_rfl) rfl #[.pointer (some ⟨g,0,none⟩),.int .i64 (wrap64 ((wrap64 (a2 - a1)) + 1))] rfl (by (try simp only [List.map_toArray,List.map_cons,List.map_nil]);first | done | rfl) ?_;(with_reducible refine (D_Upto.calls g s0_0 (wrap64 ((wrap64 (a2 - a1)) + 1)) t103 t104 w0 _ ?side1 ?side2 A4.out).mono ?_);(case side1 => repeat (first | (with_reducible first | exact HI0.out | apply IsS65.alloc | apply IsS65.drewN | apply IsS65.drew | apply IsS65.set_0) | exact HI0.out));(case side2 => repeat (first | (with_reducible first | exact HB.out | apply bA_ | apply bN_ | apply bD_ | refine bS_ ?_ (IsS65.ge HI0.out)) | exact HB.out));rintro e w5 ⟨rfl,hi,hb,hk⟩;refine ⟨_,rfl,?_⟩;have n0_ := aM_ (KeepBut.trans (by repeat (first | (with_reducible first | exact HK.out | apply KeepBut.set_ | apply eN_ | apply eD_ | apply eA_) | exact HK.out)) hk (.inl rfl));have n1_ := aM_ (hb);have n2_ := aM_ (hi);clear HK;clear HB;clear HI0;have HK := n0_;have HB := n1_;have HI0 := n2_;clear n0_ n1_ n2_;(try clear hb);(try clear hb2);(try clear hk);(try clear hi)))
 go_ret
 exact ⟨by first | rfl | (simp [*] <;> rfl),by repeat (first | (with_reducible first | exact HI0.out | apply IsS65.alloc | apply IsS65.drewN | apply IsS65.drew | apply IsS65.set_0) | exact HI0.out),by repeat (first | (with_reducible first | exact HB.out | apply bA_ | apply bN_ | apply bD_ | refine bS_ ?_ (IsS65.ge HI0.out)) | exact HB.out),by repeat (first | (with_reducible first | exact HK.out | apply KeepBut.set_ | apply eN_ | apply eD_ | apply eA_) | exact HK.out)⟩

/-! ### D_Range: function 25 -/
def D_Range.f (s0_0 : Int) (a1 : Int) (a2 : Int) : Option (Int × Int × Int) := (D_Between.f s0_0 a1 a2).bind fun bt106 => ((D_Between.f bt106.2 a1 a2).bind fun bt108 => (some (mn bt106.1 bt108.1,mx bt106.1 bt108.1,bt108.2)))
set_option maxHeartbeats 8000000 in
set_option maxRecDepth 100000 in
theorem D_Range.calls (g : Nat) (s0_0 : Int) (a1 : Int) (a2 : Int) (r1 : Int) (r2 : Int) (r3 : Int) (w0 w : World) (hI : IsS65 w0 w g s0_0) (hB : Below w0.heap.size w0 w) (h : D_Range.f s0_0 a1 a2 = some (r1,r2,r3)) :
  Calls Try.prog 25 #[.pointer (some ⟨g,0,none⟩),.int .i64 a1,.int .i64 a2] w fun e w' => e = .returned (.agg #[.int .i64 r1,.int .i64 r2]) ∧ IsS65 w0 w' g r3 ∧ Below w0.heap.size w0 w' ∧ KeepBut w w' g none := by
 have hu34 := Try.underlying34
 have HI0 := aM_ hI
 have HK := aM_ (KeepBut.refl w g none)
 have HL := aM_ hB.size
 clear hI
 have HW0 := aM_ hB.size
 have HB := aM_ hB
 clear hB
 have H : ((D_Between.f s0_0 a1 a2).bind fun bt106 => ((D_Between.f bt106.2 a1 a2).bind fun bt108 => (some (mn bt106.1 bt108.1,mx bt106.1 bt108.1,bt108.2)))) = some (r1,r2,r3) := h
 clear h
 replace H := oB_ H
 obtain ⟨⟨t106,t107⟩,A40,H⟩ := H
 replace H : ((D_Between.f t107 a1 a2).bind fun bt108 => (some (mn t106 bt108.1,mx t106 bt108.1,bt108.2))) = some (r1,r2,r3) := H
 have A4 := aM_ A40
 clear A40
 replace H := oB_ H
 obtain ⟨⟨t108,t109⟩,A50,H⟩ := H
 replace H : (some (mn t106 t108,mx t106 t108,t109)) = some (r1,r2,r3) := H
 have A5 := aM_ A50
 clear A50
 obtain ⟨ji6,hji6⟩ : ∃ j_ : Int,(mn t106 t108) = j_ := ⟨_,rfl⟩
 replace H : (some (ji6,mx t106 t108,t109)) = some (r1,r2,r3) := by first | (rw [hji6] at H;exact H) | (simp only [hji6] at H ⊢;exact H)
 (try rw [hji6] at A4)
 (try rw [hji6] at A5)
 have hji6_ : (if t108 < t106 then t108 else t106) = ji6 := hji6
 obtain ⟨ji7,hji7⟩ : ∃ j_ : Int,(mx t106 t108) = j_ := ⟨_,rfl⟩
 replace H : (some (ji6,ji7,t109)) = some (r1,r2,r3) := by first | (rw [hji7] at H;exact H) | (simp only [hji7] at H ⊢;exact H)
 (try rw [hji7] at A4)
 (try rw [hji7] at A5)
 have hji7_ : (if t106 < t108 then t108 else t106) = ji7 := hji7
 simp only [Option.some.injEq,Prod.mk.injEq] at H
 obtain ⟨rfl,rfl,rfl⟩ := H
 go_enter Try.func25,Try.ntmps25
 go_wp2_with (first | ((with_reducible refine gate_dst (N := 6) rfl ?_);refine box_event ?hg (N := 6) ?hd (cs := #[.int .i64 0,.int .i64 0]) (t := 34) ?hr ?_;(case hd => rfl);(case hg => rfl);(case hr => first | (go_simp;done) | (go_simp;rfl));intro gb105 hg w8 hbox hb;have n0_ := aM_ (IsS65.below (by repeat (first | (with_reducible first | exact HI0.out | apply IsS65.alloc | apply IsS65.drewN | apply IsS65.drew | apply IsS65.set_0) | exact HI0.out)) hb);have n1_ := aM_ (KeepBut.trans (by repeat (first | (with_reducible first | exact HK.out | apply KeepBut.set_ | apply eN_ | apply eD_ | apply eA_) | exact HK.out)) (KeepBut.of_below hb g none) (.inl rfl));have n2_ := aM_ (bT_ (by repeat (first | (with_reducible first | exact HB.out | apply bA_ | apply bN_ | apply bD_ | refine bS_ ?_ (IsS65.ge HI0.out)) | exact HB.out)) hb);have n3_ := aM_ (hbox);have n4_ := aM_ ((by rw [hg];exact (keep_size (w := w) (g := g) (row := none) (by repeat (first | (with_reducible first | exact HK.out | apply KeepBut.set_ | apply eN_ | apply eD_ | apply eA_) | exact HK.out))) : w.heap.size ≤ gb105));have n5_ := aM_ ((Nat.le_trans HW0.out (by rw [hg];exact (keep_size (w := w) (g := g) (row := none) (by repeat (first | (with_reducible first | exact HK.out | apply KeepBut.set_ | apply eN_ | apply eD_ | apply eA_) | exact HK.out))) : w.heap.size ≤ gb105) : w0.heap.size ≤ gb105));have n6_ := aM_ ((by rw [hg];exact Nat.ne_of_lt (IsS65.lt (show IsS65 w0 _ g s0_0 from by repeat (first | (with_reducible first | exact HI0.out | apply IsS65.alloc | apply IsS65.drewN | apply IsS65.drew | apply IsS65.set_0) | exact HI0.out))) : g ≠ gb105));have n7_ := aM_ ((by rw [hg];exact Nat.ne_of_gt (IsS65.lt (show IsS65 w0 _ g s0_0 from by repeat (first | (with_reducible first | exact HI0.out | apply IsS65.alloc | apply IsS65.drewN | apply IsS65.drew | apply IsS65.set_0) | exact HI0.out))) : gb105 ≠ g));clear HI0;clear HK;clear HB;have HI0 := n0_;have HK := n1_;have HB := n2_;have BK105 := n3_;have GW105 := n4_;have GE105 := n5_;have NB0_105 := n6_;have NB105_0 := n7_;clear n0_ n1_ n2_ n3_ n4_ n5_ n6_ n7_;clear hb hbox hg) | ((with_reducible refine gate_callee (f := 12) rfl ?_);refine goesL_ (some 12) rfl rfl Try.func12 (by kernel_rfl) rfl #[.pointer (some ⟨g,0,none⟩),.int .i64 a1,.int .i64 a2] rfl (by (try simp only [List.map_toArray,List.map_cons,List.map_nil]);first | done | rfl) ?_;(with_reducible refine (D_Between.calls g s0_0 a1 a2 t106 t107 w0 _ ?side1 ?side2 A4.out).mono ?_);(case side1 => repeat (first | (with_reducible first | exact HI0.out | apply IsS65.alloc | apply IsS65.drewN | apply IsS65.drew | apply IsS65.set_0 | refine IsS65.far ?_ NB0_105.out _) | exact HI0.out));(case side2 => repeat (first | (with_reducible first | exact HB.out | apply bA_ | apply bN_ | apply bD_ | refine bS_ ?_ (IsS65.ge HI0.out) | refine bS_ ?_ GE105.out) | exact HB.out));rintro e w9 ⟨rfl,hi,hb,hk⟩;refine ⟨_,rfl,?_⟩;have n0_ := aM_ (KeepBut.blk hk (g' := gb105) (o := .cells #[.int .i64 0,.int .i64 0] 34 (0,0)) (by (with_reducible repeat (first | refine kN_ ?_ _ | refine kD_ ?_ | refine kA_ ?_ _));exact BK105.out) NB105_0.out (by simp));have n1_ := aM_ (KeepBut.trans (by repeat (first | (with_reducible first | exact HK.out | apply KeepBut.set_ | apply eN_ | apply eD_ | apply eA_ | refine keep_far ?_ GW105.out _) | exact HK.out)) hk (.inl rfl));have n2_ := aM_ (hb);have n3_ := aM_ (hi);clear BK105;clear HK;clear HB;clear HI0;have BK105 := n0_;have HK := n1_;have HB := n2_;have HI0 := n3_;clear n0_ n1_ n2_ n3_;(try clear hb);(try clear hb2);(try clear hk);(try clear hi)) | ((with_reducible refine gate_callee (f := 12) rfl ?_);refine goesL_ (some 16) rfl rfl Try.func12 (by kernel_rfl) rfl #[.pointer (some ⟨g,0,none⟩),.int .i64 a1,.int .i64 a2] rfl (by (try simp only [List.map_toArray,List.map_cons,List.map_nil]);first | done | rfl) ?_;(with_reducible refine (D_Between.calls g t107 a1 a2 t108 t109 w0 _ ?side1 ?side2 A5.out).mono ?_);(case side1 => repeat (first | (with_reducible first | exact HI0.out | apply IsS65.alloc | apply IsS65.drewN | apply IsS65.drew | apply IsS65.set_0 | refine IsS65.far ?_ NB0_105.out _) | exact HI0.out));(case side2 => repeat (first | (with_reducible first | exact HB.out | apply bA_ | apply bN_ | apply bD_ | refine bS_ ?_ (IsS65.ge HI0.out) | refine bS_ ?_ GE105.out) | exact HB.out));rintro e w10 ⟨rfl,hi,hb,hk⟩;refine ⟨_,rfl,?_⟩;have n0_ := aM_ (KeepBut.blk hk (g' := gb105) (o := .cells #[.int .i64 0,.int .i64 0] 34 (0,0)) (by (with_reducible repeat (first | refine kN_ ?_ _ | refine kD_ ?_ | refine kA_ ?_ _));exact BK105.out) NB105_0.out (by simp));have n1_ := aM_ (KeepBut.trans (by repeat (first | (with_reducible first | exact HK.out | apply KeepBut.set_ | apply eN_ | apply eD_ | apply eA_ | refine keep_far ?_ GW105.out _) | exact HK.out)) hk (.inl rfl));have n2_ := aM_ (hb);have n3_ := aM_ (hi);clear BK105;clear HK;clear HB;clear HI0;have BK105 := n0_;have HK := n1_;have HB := n2_;have HI0 := n3_;clear n0_ n1_ n2_ n3_;(try clear hb);(try clear hb2);(try clear hk);(try clear hi);have hnb11 := NB105_0.out;have hnc11 := NB0_105.out;have hcz12_0 : w10.cell? ⟨gb105,0,none⟩ = some (.int .i64 0) := (blk_cell BK105.out 0).trans rfl;have hcz12_1 : w10.cell? ⟨gb105,1,none⟩ = some (.int .i64 0) := (blk_cell BK105.out 1).trans rfl;have hfz12_0 := blk_frozen BK105.out 0;have hfz12_1 := blk_frozen BK105.out 1))
 refine bodyPost_ret (results_cell_row rfl _ _ gb105 34 #[.int .i64 ji6,.int .i64 ji7] (0,0) _ rfl (by (with_reducible repeat (first | refine kN_ ?_ _ | refine kD_ ?_ | refine kA_ ?_ _));refine blk_put (cs := #[.int .i64 ji6,.int .i64 0]) ?_ 1 _ rfl;(with_reducible repeat (first | refine kN_ ?_ _ | refine kD_ ?_ | refine kA_ ?_ _));refine blk_put (cs := #[.int .i64 0,.int .i64 0]) ?_ 0 _ rfl;(with_reducible repeat (first | refine kN_ ?_ _ | refine kD_ ?_ | refine kA_ ?_ _));exact BK105.out) Try.underlying34 rfl (by kernel_rfl)) rfl ?_
 exact ⟨by first | rfl | (simp [errW_none,errW_some] <;> rfl) | (simp only [← hji6,← hji7];first | rfl | (simp [errW_none,errW_some] <;> rfl)) | (simp [*,errW_none,errW_some] <;> rfl),by repeat (first | (with_reducible first | exact HI0.out | apply IsS65.alloc | apply IsS65.drewN | apply IsS65.drew | apply IsS65.set_0 | refine IsS65.far ?_ NB0_105.out _) | exact HI0.out),by repeat (first | (with_reducible first | exact HB.out | apply bA_ | apply bN_ | apply bD_ | refine bS_ ?_ (IsS65.ge HI0.out) | refine bS_ ?_ GE105.out) | exact HB.out),by repeat (first | (with_reducible first | exact HK.out | apply KeepBut.set_ | apply eN_ | apply eD_ | apply eA_ | refine keep_far ?_ GW105.out _) | exact HK.out)⟩

end Go.Proofs.Ytdbpobadeibjaab.GE
