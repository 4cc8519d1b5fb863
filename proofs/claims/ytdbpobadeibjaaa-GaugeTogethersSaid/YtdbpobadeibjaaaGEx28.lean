-- written for this claim by a program of this session (wip/gp), over the kit's own printer; Lean checks it
import Derived.Test.YtdbpobadeibjaaaGEx0
import Derived.Test.YtdbpobadeibjaaaGEx14
import Derived.Test.YtdbpobadeibjaaaGEx15
import Derived.Test.YtdbpobadeibjaaaGEx16
import Derived.Test.YtdbpobadeibjaaaGEx21
namespace Go.Proofs.Ytdbpobadeibjaaa.GE
open Go.RowKit Go.Proofs.YtdbpobadeibjaaaW.PrintWords Go.Proofs.YtdbpobadeibjaaaW.PrintLast Go.Proofs.YtdbpobadeibjaaaW.PrintMore
attribute [local go_sem] max2_int min2_int max_two min_two max_three min_three max_four min_four
set_option linter.unusedVariables false
set_option linter.unusedSimpArgs false

/-! ### L_shown: function 44 -/
def L_shown.l0 : Nat → List (S36) → Int → List (S70) → Int → Int → Option ((List (S70)) × Int)
 | 0,_,_,_,_,_ => none
 | k + 1,x1,x2,x9,x10,x1000 => if x10 > 0 then ((D_Upto.f x1000 (x1.length : Int)).bind fun bt362 => ((D_One.f bt362.2 9).bind fun bt364 => (if bt364.1 = true then ((D_Between.f bt364.2 (-50) 50).bind fun bt366 => ((K_Showing.f k bt366.2 x1 bt362.1 (wrap64 (x2 + bt366.1))).bind fun bt368 => (if x9.length < 8796093022208 then (L_shown.l0 k x1 x2 (x9 ++ [(⟨bt362.1,bt368.1⟩ : S70)]) (wrap64 (x10 - 1)) bt368.2) else (none)))) else ((K_Showing.f k bt364.2 x1 bt362.1 x2).bind fun bt373 => (if x9.length < 8796093022208 then (L_shown.l0 k x1 x2 (x9 ++ [(⟨bt362.1,bt373.1⟩ : S70)]) (wrap64 (x10 - 1)) bt373.2) else (none)))))) else (some (x9,x1000))
def L_shown.f (k : Nat) (s0_0 : Int) (l1 : List (S36)) (a2 : Int) (a3 : Int) : Option ((List (S70)) × Int) := (D_Upto.f s0_0 (wrap64 (a3 + 1))).bind fun bt360 => (L_shown.l0 k l1 a2 ([] : List (S70)) bt360.1 bt360.2)
set_option maxHeartbeats 8000000 in
set_option maxRecDepth 100000 in
theorem L_shown.calls (k : Nat) (g : Nat) (s0_0 : Int) (A1 : Option Addr) (c1 : Nat) (l1 : List (S36)) (a2 : Int) (a3 : Int) (r1 : List (S70)) (r2 : Int) (w0 w : World) (hI : IsS76 w0 w g s0_0) (hB : Below w0.heap.size w0 w) (hr1 : ∀ W_,KeepBut w W_ g none → Kd.C k36 W_ A1 l1.length l1) (hc1 : l1.length ≤ c1) (h : L_shown.f k s0_0 l1 a2 a3 = some (r1,r2)) :
  Calls Try.prog 44 #[.pointer (some ⟨g,0,none⟩),.slice A1 l1.length c1,.int .i64 a2,.int .i64 a3] w fun e w' => ∃ v0_ : Value,e = .returned (v0_) ∧ Kd.R k70 70 w' w.heap.size (fun _ => True) v0_ r1 ∧ IsS76 w0 w' g r2 ∧ Below w0.heap.size w0 w' ∧ KeepBut w w' g none := by
 have hu70 := Try.underlying70
 have HR1 := aM_ hr1
 have HC1 := aM_ hc1
 clear hr1 hc1
 have HI0 := aM_ hI
 have HK := aM_ (KeepBut.refl w g none)
 have HL := aM_ hB.size
 clear hI
 have HW0 := aM_ hB.size
 have HB := aM_ hB
 clear hB
 have H : ((D_Upto.f s0_0 (wrap64 (a3 + 1))).bind fun bt360 => (L_shown.l0 k l1 a2 ([] : List (S70)) bt360.1 bt360.2)) = some (r1,r2) := h
 clear h
 replace H := oB_ H
 obtain ⟨⟨t360,t361⟩,A50,H⟩ := H
 replace H : (L_shown.l0 k l1 a2 ([] : List (S70)) t360 t361) = some (r1,r2) := H
 have A5 := aM_ A50
 clear A50
 have H' := aM_ H
 clear H
 go_enter Try.func44,Try.ntmps44
 go_wp2_with (first | ((with_reducible refine gate_callee (f := 16) rfl ?_);refine goesL_ (some 16) rfl rfl Try.func16 (by kernel_rfl) rfl #[.pointer (some ⟨g,0,none⟩),.int .i64 (wrap64 (a3 + 1))] rfl (by (try simp only [List.map_toArray,List.map_cons,List.map_nil]);first | done | rfl) ?_;(with_reducible refine (D_Upto.calls g s0_0 (wrap64 (a3 + 1)) t360 t361 w0 _ ?side1 ?side2 A5.out).mono ?_);(case side1 => repeat (first | (with_reducible first | exact HI0.out | apply IsS76.alloc | apply IsS76.drewN | apply IsS76.drew | apply IsS76.set_0) | exact HI0.out));(case side2 => repeat (first | (with_reducible first | exact HB.out | apply bA_ | apply bN_ | apply bD_ | refine bS_ ?_ (IsS76.ge HI0.out)) | exact HB.out));rintro e w6 ⟨rfl,hi,hb,hk⟩;refine ⟨_,rfl,?_⟩;have n0_ := aM_ (KeepBut.trans (by repeat (first | (with_reducible first | exact HK.out | apply KeepBut.set_ | apply eN_ | apply eD_ | apply eA_) | exact HK.out)) hk (.inl rfl));have n1_ := aM_ (hb);have n2_ := aM_ (hi);clear HK;clear HB;clear HI0;have HK := n0_;have HB := n1_;have HI0 := n2_;clear n0_ n1_ n2_;(try clear hb);(try clear hb2);(try clear hk);(try clear hi)))
 go_loopg [9,10] k (fun kq v9 v10 w' => ∃ (x9_1 : List (S70)) (x10_1 : Int) (x1000_1 : Int),v10 = .int .i64 x10_1 ∧ Aside0 (L_shown.l0 kq l1 a2 x9_1 x10_1 x1000_1 = some (r1,r2)) ∧ Aside0 (kq ≤ k) ∧ Aside0 (Kd.R k70 70 w' w.heap.size (fun _ => True) v9 x9_1) ∧ Aside0 (IsS76 w0 w' g x1000_1) ∧ Aside0 (KeepBut w w' g none) ∧ Aside0 (Below w0.heap.size w0 w'))
 case atStart => exact ⟨(([] : List (S70))),(t360),(t361),(by first | rfl | (simp;done) | (simp [*];done)),H',⟨Nat.le_refl _⟩,⟨by first | exact Kd.R_nil _ _ _ _ _ | exact Kd.N_nil _ _ _ _ _ | exact Kd.V_nil _ _ _ _ _ | exact Kd.Q_nil _ _ _ _ _ | exact Kd.S_nil _ _ _ _ _⟩,⟨by repeat (first | (with_reducible first | exact HI0.out | apply IsS76.alloc | apply IsS76.drewN | apply IsS76.drew | apply IsS76.set_0) | exact HI0.out)⟩,⟨by repeat (first | (with_reducible first | exact HK.out | apply KeepBut.set_ | apply eN_ | apply eD_ | apply eA_) | exact HK.out)⟩,⟨by repeat (first | (with_reducible first | exact HB.out | apply bA_ | apply bN_ | apply bD_ | refine bS_ ?_ (IsS76.ge HI0.out)) | exact HB.out)⟩⟩
 case round =>
  clear H'
  try clear c1
  try clear p2
  try clear c4
  try clear p6
  obtain ⟨x9_1,x10_1,x1000_1,rfl,HA,HK1,HO_9,HI0,HK,HB⟩ := hrel
  cases gk with
  | zero => exact absurd HA.out (by simp [L_shown.l0])
  | succ k1 =>
   have H := HA.out
   clear HA
   simp only [L_shown.l0] at H
   by_cases c7 : x10_1 > 0
   ·rw [if_pos c7] at H
    have c7b0 : decide (0 < x10_1) = true := decide_eq_true c7
    clear c7
    replace H := oB_ H
    obtain ⟨⟨t362,t363⟩,A80,H⟩ := H
    replace H : ((D_One.f t363 9).bind fun bt364 => (if bt364.1 = true then ((D_Between.f bt364.2 (-50) 50).bind fun bt366 => ((K_Showing.f k1 bt366.2 l1 t362 (wrap64 (a2 + bt366.1))).bind fun bt368 => (if x9_1.length < 8796093022208 then (L_shown.l0 k1 l1 a2 (x9_1 ++ [(⟨t362,bt368.1⟩ : S70)]) (wrap64 (x10_1 - 1)) bt368.2) else (none)))) else ((K_Showing.f k1 bt364.2 l1 t362 a2).bind fun bt373 => (if x9_1.length < 8796093022208 then (L_shown.l0 k1 l1 a2 (x9_1 ++ [(⟨t362,bt373.1⟩ : S70)]) (wrap64 (x10_1 - 1)) bt373.2) else (none))))) = some (r1,r2) := H
    have A8 := aM_ A80
    clear A80
    replace H := oB_ H
    obtain ⟨⟨t364,t365⟩,A90,H⟩ := H
    replace H : (if t364 = true then ((D_Between.f t365 (-50) 50).bind fun bt366 => ((K_Showing.f k1 bt366.2 l1 t362 (wrap64 (a2 + bt366.1))).bind fun bt368 => (if x9_1.length < 8796093022208 then (L_shown.l0 k1 l1 a2 (x9_1 ++ [(⟨t362,bt368.1⟩ : S70)]) (wrap64 (x10_1 - 1)) bt368.2) else (none)))) else ((K_Showing.f k1 t365 l1 t362 a2).bind fun bt373 => (if x9_1.length < 8796093022208 then (L_shown.l0 k1 l1 a2 (x9_1 ++ [(⟨t362,bt373.1⟩ : S70)]) (wrap64 (x10_1 - 1)) bt373.2) else (none)))) = some (r1,r2) := H
    have A9 := aM_ A90
    clear A90
    by_cases c10 : t364 = true
    ·subst c10
     have H1 : ((D_Between.f t365 (-50) 50).bind fun bt366 => ((K_Showing.f k1 bt366.2 l1 t362 (wrap64 (a2 + bt366.1))).bind fun bt368 => (if x9_1.length < 8796093022208 then (L_shown.l0 k1 l1 a2 (x9_1 ++ [(⟨t362,bt368.1⟩ : S70)]) (wrap64 (x10_1 - 1)) bt368.2) else (none)))) = some (r1,r2) := by rw [if_pos rfl] at H;exact H
     clear H
     have H := H1
     clear H1
     replace H := oB_ H
     obtain ⟨⟨t366,t367⟩,A110,H⟩ := H
     replace H : ((K_Showing.f k1 t367 l1 t362 (wrap64 (a2 + t366))).bind fun bt368 => (if x9_1.length < 8796093022208 then (L_shown.l0 k1 l1 a2 (x9_1 ++ [(⟨t362,bt368.1⟩ : S70)]) (wrap64 (x10_1 - 1)) bt368.2) else (none))) = some (r1,r2) := H
     have A11 := aM_ A110
     clear A110
     replace H := oB_ H
     obtain ⟨⟨t368,t369⟩,A120,H⟩ := H
     replace H : (if x9_1.length < 8796093022208 then (L_shown.l0 k1 l1 a2 (x9_1 ++ [(⟨t362,t368⟩ : S70)]) (wrap64 (x10_1 - 1)) t369) else (none)) = some (r1,r2) := H
     have A12 := aM_ A120
     clear A120
     by_cases c13 : x9_1.length < 8796093022208
     ·rw [if_pos c13] at H
      have LMc13 := aM_ c13
      clear c13
      obtain ⟨y370,hy370⟩ : ∃ y_ : List (S70),y_ = (x9_1 ++ [(⟨t362,t368⟩ : S70)]) := ⟨_,rfl⟩
      replace H : (L_shown.l0 k1 l1 a2 y370 (wrap64 (x10_1 - 1)) t369) = some (r1,r2) := by first | (rw [hy370];with_reducible exact H) | (have H2_ := (Option.bind_some _ _).symm.trans H;rw [hy370];with_reducible exact H2_) | (have H2_ := (Option.bind_some _ _).symm.trans H;with_reducible exact H2_) | with_reducible exact H | (rw [hy370];exact H) | exact H
      have Ny370 := aM_ hy370
      clear hy370
      have H' := aM_ H
      clear H
      go_wp2_with (first | ((with_reducible refine gate_callee (f := 16) rfl ?_);refine goesL_ (some 24) rfl rfl Try.func16 (by kernel_rfl) rfl #[.pointer (some ⟨g,0,none⟩),.int .i64 (l1.length : Int)] rfl (by (try simp only [List.map_toArray,List.map_cons,List.map_nil]);first | done | rfl) ?_;(with_reducible refine (D_Upto.calls g x1000_1 (l1.length : Int) t362 t363 w0 _ ?side1 ?side2 A8.out).mono ?_);(case side1 => repeat (first | (with_reducible first | exact HI0.out | apply IsS76.alloc | apply IsS76.drewN | apply IsS76.drew | apply IsS76.set_0) | exact HI0.out));(case side2 => repeat (first | (with_reducible first | exact HB.out | apply bA_ | apply bN_ | apply bD_ | refine bS_ ?_ (IsS76.ge HI0.out)) | exact HB.out));rintro e w14 ⟨rfl,hi,hb,hk⟩;refine ⟨_,rfl,?_⟩;have n0_ := aM_ (Kd.R_mono (Kd.R_keep (IsS76.apart (show IsS76 w0 _ g x1000_1 from by repeat (first | (with_reducible first | exact HI0.out | apply IsS76.alloc | apply IsS76.drewN | apply IsS76.drew | apply IsS76.set_0) | exact HI0.out)) (by (with_reducible repeat (first | apply Kd.R_alloc | apply Kd.R_drewN | apply Kd.R_drew));exact HO_9.out) (by decide)) hk (fun _ h => h.2)) (fun _ h => h.1));have n1_ := aM_ (KeepBut.trans (by repeat (first | (with_reducible first | exact HK.out | apply KeepBut.set_ | apply eN_ | apply eD_ | apply eA_) | exact HK.out)) hk (.inl rfl));have n2_ := aM_ (hb);have n3_ := aM_ (hi);clear HO_9;clear HK;clear HB;clear HI0;have HO_9 := n0_;have HK := n1_;have HB := n2_;have HI0 := n3_;clear n0_ n1_ n2_ n3_;(try clear hb);(try clear hb2);(try clear hk);(try clear hi)) | ((with_reducible refine gate_callee (f := 18) rfl ?_);refine goesL_ (some 27) rfl rfl Try.func18 (by kernel_rfl) rfl #[.pointer (some ⟨g,0,none⟩),.int .i64 9] rfl (by (try simp only [List.map_toArray,List.map_cons,List.map_nil]);first | done | rfl) ?_;(with_reducible refine (D_One.calls g t363 9 true t365 w0 _ ?side1 ?side2 A9.out).mono ?_);(case side1 => repeat (first | (with_reducible first | exact HI0.out | apply IsS76.alloc | apply IsS76.drewN | apply IsS76.drew | apply IsS76.set_0) | exact HI0.out));(case side2 => repeat (first | (with_reducible first | exact HB.out | apply bA_ | apply bN_ | apply bD_ | refine bS_ ?_ (IsS76.ge HI0.out)) | exact HB.out));rintro e w15 ⟨rfl,hi,hb,hk⟩;refine ⟨_,rfl,?_⟩;have n0_ := aM_ (Kd.R_mono (Kd.R_keep (IsS76.apart (show IsS76 w0 _ g t363 from by repeat (first | (with_reducible first | exact HI0.out | apply IsS76.alloc | apply IsS76.drewN | apply IsS76.drew | apply IsS76.set_0) | exact HI0.out)) (by (with_reducible repeat (first | apply Kd.R_alloc | apply Kd.R_drewN | apply Kd.R_drew));exact HO_9.out) (by decide)) hk (fun _ h => h.2)) (fun _ h => h.1));have n1_ := aM_ (KeepBut.trans (by repeat (first | (with_reducible first | exact HK.out | apply KeepBut.set_ | apply eN_ | apply eD_ | apply eA_) | exact HK.out)) hk (.inl rfl));have n2_ := aM_ (hb);have n3_ := aM_ (hi);clear HO_9;clear HK;clear HB;clear HI0;have HO_9 := n0_;have HK := n1_;have HB := n2_;have HI0 := n3_;clear n0_ n1_ n2_ n3_;(try clear hb);(try clear hb2);(try clear hk);(try clear hi)) | ((with_reducible refine gate_callee (f := 20) rfl ?_);refine goesL_ (some 30) rfl rfl Try.func20 (by kernel_rfl) rfl #[.pointer (some ⟨g,0,none⟩),.int .i64 (-50),.int .i64 50] rfl (by (try simp only [List.map_toArray,List.map_cons,List.map_nil]);first | done | rfl) ?_;(with_reducible refine (D_Between.calls g t365 (-50) 50 t366 t367 w0 _ ?side1 ?side2 A11.out).mono ?_);(case side1 => repeat (first | (with_reducible first | exact HI0.out | apply IsS76.alloc | apply IsS76.drewN | apply IsS76.drew | apply IsS76.set_0) | exact HI0.out));(case side2 => repeat (first | (with_reducible first | exact HB.out | apply bA_ | apply bN_ | apply bD_ | refine bS_ ?_ (IsS76.ge HI0.out)) | exact HB.out));rintro e w16 ⟨rfl,hi,hb,hk⟩;refine ⟨_,rfl,?_⟩;have n0_ := aM_ (Kd.R_mono (Kd.R_keep (IsS76.apart (show IsS76 w0 _ g t365 from by repeat (first | (with_reducible first | exact HI0.out | apply IsS76.alloc | apply IsS76.drewN | apply IsS76.drew | apply IsS76.set_0) | exact HI0.out)) (by (with_reducible repeat (first | apply Kd.R_alloc | apply Kd.R_drewN | apply Kd.R_drew));exact HO_9.out) (by decide)) hk (fun _ h => h.2)) (fun _ h => h.1));have n1_ := aM_ (KeepBut.trans (by repeat (first | (with_reducible first | exact HK.out | apply KeepBut.set_ | apply eN_ | apply eD_ | apply eA_) | exact HK.out)) hk (.inl rfl));have n2_ := aM_ (hb);have n3_ := aM_ (hi);clear HO_9;clear HK;clear HB;clear HI0;have HO_9 := n0_;have HK := n1_;have HB := n2_;have HI0 := n3_;clear n0_ n1_ n2_ n3_;(try clear hb);(try clear hb2);(try clear hk);(try clear hi)) | ((with_reducible refine gate_callee (f := 19) rfl ?_);refine goesL_ (some 38) rfl rfl Try.func19 (by kernel_rfl) rfl #[.pointer (some ⟨g,0,none⟩),.slice A1 l1.length c1,.int .i64 t362,.int .i64 (wrap64 (a2 + t366))] rfl (by (try simp only [List.map_toArray,List.map_cons,List.map_nil]);first | done | rfl) ?_;(with_reducible refine (K_Showing.calls k1 g t367 _ _ l1 t362 (wrap64 (a2 + t366)) t368 t369 w0 _ ?side1 ?side2 ?side3 ?side4 A12.out).mono ?_);(case side1 => repeat (first | (with_reducible first | exact HI0.out | apply IsS76.alloc | apply IsS76.drewN | apply IsS76.drew | apply IsS76.set_0) | exact HI0.out));(case side2 => repeat (first | (with_reducible first | exact HB.out | apply bA_ | apply bN_ | apply bD_ | refine bS_ ?_ (IsS76.ge HI0.out)) | exact HB.out));(case side3 => exact Kd.C_foot_step HR1.out (by repeat (first | (with_reducible first | exact HK.out | apply KeepBut.set_ | apply eN_ | apply eD_ | apply eA_) | exact HK.out)));(case side4 => exact HC1.out);rintro e w17 ⟨rfl,hi,hb,hk⟩;refine ⟨_,rfl,?_⟩;have n0_ := aM_ (Kd.R_mono (Kd.R_keep (IsS76.apart (show IsS76 w0 _ g t367 from by repeat (first | (with_reducible first | exact HI0.out | apply IsS76.alloc | apply IsS76.drewN | apply IsS76.drew | apply IsS76.set_0) | exact HI0.out)) (by (with_reducible repeat (first | apply Kd.R_alloc | apply Kd.R_drewN | apply Kd.R_drew));exact HO_9.out) (by decide)) hk (fun _ h => h.2)) (fun _ h => h.1));have n1_ := aM_ (KeepBut.trans (by repeat (first | (with_reducible first | exact HK.out | apply KeepBut.set_ | apply eN_ | apply eD_ | apply eA_) | exact HK.out)) hk (.inl rfl));have n2_ := aM_ (hb);have n3_ := aM_ (hi);clear HO_9;clear HK;clear HB;clear HI0;have HO_9 := n0_;have HK := n1_;have HB := n2_;have HI0 := n3_;clear n0_ n1_ n2_ n3_;(try clear hb);(try clear hb2);(try clear hk);(try clear hi)) | ((with_reducible refine gate_builtin (b := .append) (xs := #[.tmp 32,.tmp 40]) rfl ?_);at_builtin;refine Kd.R_append k70 w.heap.size rfl (.tmp 32) (.tmp 40) 66 70 (.agg #[(.int .i64 0),(.int .i64 0)]) 16 rfl Try.underlying66 info70 rfl (by decide) (by omega) u9 x9_1 (⟨t362,t368⟩ : S70) [.int .i64 t362,.int .i64 t368] (fun _ => True) (fun _ => False) rfl rfl ?aP (fun _ hk => hk.elim) ?aF ?aO (Below.refl _ _) ?aS ?aL ?_;(case aP => exact k70_mkM _ _ _ (⟨t362,t368⟩ : S70));(case aF => exact (fun _ _ => trivial));(case aO => exact (by (with_reducible repeat (first | apply Kd.R_alloc | apply Kd.R_drewN | apply Kd.R_drew));exact HO_9.out));(case aS => exact (keep_size (w := w) (g := g) (row := none) (by repeat (first | (with_reducible first | exact HK.out | apply KeepBut.set_ | apply eN_ | apply eD_ | apply eA_) | exact HK.out))));(case aL => have := LMc13.out;omega);intro v371 w18 ho hb hg hat;rw [← Ny370.out] at ho;have n0_ := aM_ (IsS76.grown (by repeat (first | (with_reducible first | exact HI0.out | apply IsS76.alloc | apply IsS76.drewN | apply IsS76.drew | apply IsS76.set_0) | exact HI0.out)) hg (IsS76.own_ne HI0.out HO_9.out (by decide)));have n1_ := aM_ (below_weaken (by repeat (first | (with_reducible first | exact HB.out | apply bA_ | apply bN_ | apply bD_ | refine bS_ ?_ (IsS76.ge HI0.out)) | exact HB.out)) HL.out hb);have n2_ := aM_ (KeepBut.trans (by repeat (first | (with_reducible first | exact HK.out | apply KeepBut.set_ | apply eN_ | apply eD_ | apply eA_) | exact HK.out)) (KeepBut.of_grown hg g) (Kd.R_base2 HO_9.out));have n3_ := aM_ (ho);clear HI0;clear HB;clear HK;clear HO_9;have HI0 := n0_;have HB := n1_;have HK := n2_;have HO372 := n3_;clear n0_ n1_ n2_ n3_;clear ho hb hg hat))
      go_roundg k1
      case measure => have := HK1.out;omega
      case rel => exact ⟨(y370),(wrap64 (x10_1 - 1)),(t369),(by first | rfl | (simp;done) | (simp [*];done)),H',⟨by have := HK1.out;omega⟩,⟨by (with_reducible repeat (first | apply Kd.R_alloc | apply Kd.R_drewN | apply Kd.R_drew));exact HO372.out⟩,⟨by repeat (first | (with_reducible first | exact HI0.out | apply IsS76.alloc | apply IsS76.drewN | apply IsS76.drew | apply IsS76.set_0) | exact HI0.out)⟩,⟨by repeat (first | (with_reducible first | exact HK.out | apply KeepBut.set_ | apply eN_ | apply eD_ | apply eA_) | exact HK.out)⟩,⟨by repeat (first | (with_reducible first | exact HB.out | apply bA_ | apply bN_ | apply bD_ | refine bS_ ?_ (IsS76.ge HI0.out)) | exact HB.out)⟩⟩
     ·rw [if_neg c13] at H
      exact absurd H (by simp)
    ·replace c10 := Bool.eq_false_iff.mpr c10
     subst c10
     have H1 : ((K_Showing.f k1 t365 l1 t362 a2).bind fun bt373 => (if x9_1.length < 8796093022208 then (L_shown.l0 k1 l1 a2 (x9_1 ++ [(⟨t362,bt373.1⟩ : S70)]) (wrap64 (x10_1 - 1)) bt373.2) else (none))) = some (r1,r2) := by rw [if_neg (show ¬ (false = true) by decide)] at H;exact H
     clear H
     have H := H1
     clear H1
     replace H := oB_ H
     obtain ⟨⟨t373,t374⟩,A190,H⟩ := H
     replace H : (if x9_1.length < 8796093022208 then (L_shown.l0 k1 l1 a2 (x9_1 ++ [(⟨t362,t373⟩ : S70)]) (wrap64 (x10_1 - 1)) t374) else (none)) = some (r1,r2) := H
     have A19 := aM_ A190
     clear A190
     by_cases c20 : x9_1.length < 8796093022208
     ·rw [if_pos c20] at H
      have LMc20 := aM_ c20
      clear c20
      obtain ⟨y375,hy375⟩ : ∃ y_ : List (S70),y_ = (x9_1 ++ [(⟨t362,t373⟩ : S70)]) := ⟨_,rfl⟩
      replace H : (L_shown.l0 k1 l1 a2 y375 (wrap64 (x10_1 - 1)) t374) = some (r1,r2) := by first | (rw [hy375];with_reducible exact H) | (have H2_ := (Option.bind_some _ _).symm.trans H;rw [hy375];with_reducible exact H2_) | (have H2_ := (Option.bind_some _ _).symm.trans H;with_reducible exact H2_) | with_reducible exact H | (rw [hy375];exact H) | exact H
      have Ny375 := aM_ hy375
      clear hy375
      have H' := aM_ H
      clear H
      go_wp2_with (first | ((with_reducible refine gate_callee (f := 16) rfl ?_);refine goesL_ (some 24) rfl rfl Try.func16 (by kernel_rfl) rfl #[.pointer (some ⟨g,0,none⟩),.int .i64 (l1.length : Int)] rfl (by (try simp only [List.map_toArray,List.map_cons,List.map_nil]);first | done | rfl) ?_;(with_reducible refine (D_Upto.calls g x1000_1 (l1.length : Int) t362 t363 w0 _ ?side1 ?side2 A8.out).mono ?_);(case side1 => repeat (first | (with_reducible first | exact HI0.out | apply IsS76.alloc | apply IsS76.drewN | apply IsS76.drew | apply IsS76.set_0) | exact HI0.out));(case side2 => repeat (first | (with_reducible first | exact HB.out | apply bA_ | apply bN_ | apply bD_ | refine bS_ ?_ (IsS76.ge HI0.out)) | exact HB.out));rintro e w21 ⟨rfl,hi,hb,hk⟩;refine ⟨_,rfl,?_⟩;have n0_ := aM_ (Kd.R_mono (Kd.R_keep (IsS76.apart (show IsS76 w0 _ g x1000_1 from by repeat (first | (with_reducible first | exact HI0.out | apply IsS76.alloc | apply IsS76.drewN | apply IsS76.drew | apply IsS76.set_0) | exact HI0.out)) (by (with_reducible repeat (first | apply Kd.R_alloc | apply Kd.R_drewN | apply Kd.R_drew));exact HO_9.out) (by decide)) hk (fun _ h => h.2)) (fun _ h => h.1));have n1_ := aM_ (KeepBut.trans (by repeat (first | (with_reducible first | exact HK.out | apply KeepBut.set_ | apply eN_ | apply eD_ | apply eA_) | exact HK.out)) hk (.inl rfl));have n2_ := aM_ (hb);have n3_ := aM_ (hi);clear HO_9;clear HK;clear HB;clear HI0;have HO_9 := n0_;have HK := n1_;have HB := n2_;have HI0 := n3_;clear n0_ n1_ n2_ n3_;(try clear hb);(try clear hb2);(try clear hk);(try clear hi)) | ((with_reducible refine gate_callee (f := 18) rfl ?_);refine goesL_ (some 27) rfl rfl Try.func18 (by kernel_rfl) rfl #[.pointer (some ⟨g,0,none⟩),.int .i64 9] rfl (by (try simp only [List.map_toArray,List.map_cons,List.map_nil]);first | done | rfl) ?_;(with_reducible refine (D_One.calls g t363 9 false t365 w0 _ ?side1 ?side2 A9.out).mono ?_);(case side1 => repeat (first | (with_reducible first | exact HI0.out | apply IsS76.alloc | apply IsS76.drewN | apply IsS76.drew | apply IsS76.set_0) | exact HI0.out));(case side2 => repeat (first | (with_reducible first | exact HB.out | apply bA_ | apply bN_ | apply bD_ | refine bS_ ?_ (IsS76.ge HI0.out)) | exact HB.out));rintro e w22 ⟨rfl,hi,hb,hk⟩;refine ⟨_,rfl,?_⟩;have n0_ := aM_ (Kd.R_mono (Kd.R_keep (IsS76.apart (show IsS76 w0 _ g t363 from by repeat (first | (with_reducible first | exact HI0.out | apply IsS76.alloc | apply IsS76.drewN | apply IsS76.drew | apply IsS76.set_0) | exact HI0.out)) (by (with_reducible repeat (first | apply Kd.R_alloc | apply Kd.R_drewN | apply Kd.R_drew));exact HO_9.out) (by decide)) hk (fun _ h => h.2)) (fun _ h => h.1));have n1_ := aM_ (KeepBut.trans (by repeat (first | (with_reducible first | exact HK.out | apply KeepBut.set_ | apply eN_ | apply eD_ | apply eA_) | exact HK.out)) hk (.inl rfl));have n2_ := aM_ (hb);have n3_ := aM_ (hi);clear HO_9;clear HK;clear HB;clear HI0;have HO_9 := n0_;have HK := n1_;have HB := n2_;have HI0 := n3_;clear n0_ n1_ n2_ n3_;(try clear hb);(try clear hb2);(try clear hk);(try clear hi)) | ((with_reducible refine gate_callee (f := 19) rfl ?_);refine goesL_ (some 38) rfl rfl Try.func19 (by kernel_rfl) rfl #[.pointer (some ⟨g,0,none⟩),.slice A1 l1.length c1,.int .i64 t362,.int .i64 a2] rfl (by (try simp only [List.map_toArray,List.map_cons,List.map_nil]);first | done | rfl) ?_;(with_reducible refine (K_Showing.calls k1 g t365 _ _ l1 t362 a2 t373 t374 w0 _ ?side1 ?side2 ?side3 ?side4 A19.out).mono ?_);(case side1 => repeat (first | (with_reducible first | exact HI0.out | apply IsS76.alloc | apply IsS76.drewN | apply IsS76.drew | apply IsS76.set_0) | exact HI0.out));(case side2 => repeat (first | (with_reducible first | exact HB.out | apply bA_ | apply bN_ | apply bD_ | refine bS_ ?_ (IsS76.ge HI0.out)) | exact HB.out));(case side3 => exact Kd.C_foot_step HR1.out (by repeat (first | (with_reducible first | exact HK.out | apply KeepBut.set_ | apply eN_ | apply eD_ | apply eA_) | exact HK.out)));(case side4 => exact HC1.out);rintro e w23 ⟨rfl,hi,hb,hk⟩;refine ⟨_,rfl,?_⟩;have n0_ := aM_ (Kd.R_mono (Kd.R_keep (IsS76.apart (show IsS76 w0 _ g t365 from by repeat (first | (with_reducible first | exact HI0.out | apply IsS76.alloc | apply IsS76.drewN | apply IsS76.drew | apply IsS76.set_0) | exact HI0.out)) (by (with_reducible repeat (first | apply Kd.R_alloc | apply Kd.R_drewN | apply Kd.R_drew));exact HO_9.out) (by decide)) hk (fun _ h => h.2)) (fun _ h => h.1));have n1_ := aM_ (KeepBut.trans (by repeat (first | (with_reducible first | exact HK.out | apply KeepBut.set_ | apply eN_ | apply eD_ | apply eA_) | exact HK.out)) hk (.inl rfl));have n2_ := aM_ (hb);have n3_ := aM_ (hi);clear HO_9;clear HK;clear HB;clear HI0;have HO_9 := n0_;have HK := n1_;have HB := n2_;have HI0 := n3_;clear n0_ n1_ n2_ n3_;(try clear hb);(try clear hb2);(try clear hk);(try clear hi)) | ((with_reducible refine gate_builtin (b := .append) (xs := #[.tmp 32,.tmp 40]) rfl ?_);at_builtin;refine Kd.R_append k70 w.heap.size rfl (.tmp 32) (.tmp 40) 66 70 (.agg #[(.int .i64 0),(.int .i64 0)]) 16 rfl Try.underlying66 info70 rfl (by decide) (by omega) u9 x9_1 (⟨t362,t373⟩ : S70) [.int .i64 t362,.int .i64 t373] (fun _ => True) (fun _ => False) rfl rfl ?aP (fun _ hk => hk.elim) ?aF ?aO (Below.refl _ _) ?aS ?aL ?_;(case aP => exact k70_mkM _ _ _ (⟨t362,t373⟩ : S70));(case aF => exact (fun _ _ => trivial));(case aO => exact (by (with_reducible repeat (first | apply Kd.R_alloc | apply Kd.R_drewN | apply Kd.R_drew));exact HO_9.out));(case aS => exact (keep_size (w := w) (g := g) (row := none) (by repeat (first | (with_reducible first | exact HK.out | apply KeepBut.set_ | apply eN_ | apply eD_ | apply eA_) | exact HK.out))));(case aL => have := LMc20.out;omega);intro v376 w24 ho hb hg hat;rw [← Ny375.out] at ho;have n0_ := aM_ (IsS76.grown (by repeat (first | (with_reducible first | exact HI0.out | apply IsS76.alloc | apply IsS76.drewN | apply IsS76.drew | apply IsS76.set_0) | exact HI0.out)) hg (IsS76.own_ne HI0.out HO_9.out (by decide)));have n1_ := aM_ (below_weaken (by repeat (first | (with_reducible first | exact HB.out | apply bA_ | apply bN_ | apply bD_ | refine bS_ ?_ (IsS76.ge HI0.out)) | exact HB.out)) HL.out hb);have n2_ := aM_ (KeepBut.trans (by repeat (first | (with_reducible first | exact HK.out | apply KeepBut.set_ | apply eN_ | apply eD_ | apply eA_) | exact HK.out)) (KeepBut.of_grown hg g) (Kd.R_base2 HO_9.out));have n3_ := aM_ (ho);clear HI0;clear HB;clear HK;clear HO_9;have HI0 := n0_;have HB := n1_;have HK := n2_;have HO377 := n3_;clear n0_ n1_ n2_ n3_;clear ho hb hg hat))
      go_roundg k1
      case measure => have := HK1.out;omega
      case rel => exact ⟨(y375),(wrap64 (x10_1 - 1)),(t374),(by first | rfl | (simp;done) | (simp [*];done)),H',⟨by have := HK1.out;omega⟩,⟨by (with_reducible repeat (first | apply Kd.R_alloc | apply Kd.R_drewN | apply Kd.R_drew));exact HO377.out⟩,⟨by repeat (first | (with_reducible first | exact HI0.out | apply IsS76.alloc | apply IsS76.drewN | apply IsS76.drew | apply IsS76.set_0) | exact HI0.out)⟩,⟨by repeat (first | (with_reducible first | exact HK.out | apply KeepBut.set_ | apply eN_ | apply eD_ | apply eA_) | exact HK.out)⟩,⟨by repeat (first | (with_reducible first | exact HB.out | apply bA_ | apply bN_ | apply bD_ | refine bS_ ?_ (IsS76.ge HI0.out)) | exact HB.out)⟩⟩
     ·rw [if_neg c20] at H
      exact absurd H (by simp)
   ·rw [if_neg c7] at H
    have c7b0 : decide (0 < x10_1) = false := decide_eq_false c7
    clear c7
    simp only [Option.some.injEq,Prod.mk.injEq] at H
    obtain ⟨rfl,rfl⟩ := H
    go_wp2
    go_ret
    exact ⟨_,by first | rfl | (simp [*] <;> rfl),by (with_reducible repeat (first | apply Kd.R_alloc | apply Kd.R_drewN | apply Kd.R_drew));exact HO_9.out,by repeat (first | (with_reducible first | exact HI0.out | apply IsS76.alloc | apply IsS76.drewN | apply IsS76.drew | apply IsS76.set_0) | exact HI0.out),by repeat (first | (with_reducible first | exact HB.out | apply bA_ | apply bN_ | apply bD_ | refine bS_ ?_ (IsS76.ge HI0.out)) | exact HB.out),by repeat (first | (with_reducible first | exact HK.out | apply KeepBut.set_ | apply eN_ | apply eD_ | apply eA_) | exact HK.out)⟩

end Go.Proofs.Ytdbpobadeibjaaa.GE
