-- written for this claim by a program of this session (wip/gp), over the kit's own printer; Lean checks it
import Derived.Test.YtdbpobadeibjaabGSx0
import Derived.Test.YtdbpobadeibjaabGSx3
import Derived.Test.YtdbpobadeibjaabGSx4
import Derived.Test.YtdbpobadeibjaabGSx9
import Derived.Test.YtdbpobadeibjaabGSx10
namespace Go.Proofs.Ytdbpobadeibjaab.GS
open Go.RowKit Go.Proofs.YtdbpobadeibjaabW.PrintWords Go.Proofs.YtdbpobadeibjaabW.PrintLast Go.Proofs.YtdbpobadeibjaabW.PrintMore
attribute [local go_sem] max2_int min2_int max_two min_two max_three min_three max_four min_four
set_option linter.unusedVariables false
set_option linter.unusedSimpArgs false

-- NOT PRINTED: function 4 (L_GaugeAccepts)

/-! ### L_shown: function 26 -/
def L_shown.l0 : Nat → List (S49) → Int → List (S32) → Int → Int → Option ((List (S32)) × Int)
 | 0,_,_,_,_,_ => none
 | k + 1,x1,x2,x9,x10,x1000 => if x10 > 0 then ((D_Upto.f x1000 (x1.length : Int)).bind fun bt501 => ((D_One.f bt501.2 9).bind fun bt503 => (if bt503.1 = true then ((D_Between.f bt503.2 (-50) 50).bind fun bt505 => ((K_Showing.f k bt505.2 x1 bt501.1 (wrap64 (x2 + bt505.1))).bind fun bt507 => (if x9.length < 8796093022208 then (L_shown.l0 k x1 x2 (x9 ++ [(⟨bt501.1,bt507.1⟩ : S32)]) (wrap64 (x10 - 1)) bt507.2) else (none)))) else ((K_Showing.f k bt503.2 x1 bt501.1 x2).bind fun bt512 => (if x9.length < 8796093022208 then (L_shown.l0 k x1 x2 (x9 ++ [(⟨bt501.1,bt512.1⟩ : S32)]) (wrap64 (x10 - 1)) bt512.2) else (none)))))) else (some (x9,x1000))
def L_shown.f (k : Nat) (s0_0 : Int) (l1 : List (S49)) (a2 : Int) (a3 : Int) : Option ((List (S32)) × Int) := (D_Upto.f s0_0 (wrap64 (a3 + 1))).bind fun bt499 => (L_shown.l0 k l1 a2 ([] : List (S32)) bt499.1 bt499.2)
set_option maxHeartbeats 8000000 in
set_option maxRecDepth 100000 in
theorem L_shown.calls (k : Nat) (g : Nat) (s0_0 : Int) (A1 : Option Addr) (c1 : Nat) (l1 : List (S49)) (a2 : Int) (a3 : Int) (r1 : List (S32)) (r2 : Int) (w0 w : World) (hI : IsS65 w0 w g s0_0) (hB : Below w0.heap.size w0 w) (hr1 : ∀ W_,KeepBut w W_ g none → Kd.C k49 W_ A1 l1.length l1) (hc1 : l1.length ≤ c1) (h : L_shown.f k s0_0 l1 a2 a3 = some (r1,r2)) :
  Calls Try.prog 26 #[.pointer (some ⟨g,0,none⟩),.slice A1 l1.length c1,.int .i64 a2,.int .i64 a3] w fun e w' => ∃ v0_ : Value,e = .returned (v0_) ∧ Kd.R k32 32 w' w.heap.size (fun _ => True) v0_ r1 ∧ IsS65 w0 w' g r2 ∧ Below w0.heap.size w0 w' ∧ KeepBut w w' g none := by
 have hu32 := Try.underlying32
 have HR1 := aM_ hr1
 have HC1 := aM_ hc1
 clear hr1 hc1
 have HI0 := aM_ hI
 have HK := aM_ (KeepBut.refl w g none)
 have HL := aM_ hB.size
 clear hI
 have HW0 := aM_ hB.size
 have HB := aM_ hB
 clear hB
 have H : ((D_Upto.f s0_0 (wrap64 (a3 + 1))).bind fun bt499 => (L_shown.l0 k l1 a2 ([] : List (S32)) bt499.1 bt499.2)) = some (r1,r2) := h
 clear h
 replace H := oB_ H
 obtain ⟨⟨t499,t500⟩,A50,H⟩ := H
 replace H : (L_shown.l0 k l1 a2 ([] : List (S32)) t499 t500) = some (r1,r2) := H
 have A5 := aM_ A50
 clear A50
 have H' := aM_ H
 clear H
 go_enter Try.func26,Try.ntmps26
 go_wp2_with (first | ((with_reducible refine gate_callee (f := 13) rfl ?_);refine goesL_ (some 16) rfl rfl Try.func13 (by kernel_rfl) rfl #[.pointer (some ⟨g,0,none⟩),.int .i64 (wrap64 (a3 + 1))] rfl (by (try simp only [List.map_toArray,List.map_cons,List.map_nil]);first | done | rfl) ?_;(with_reducible refine (D_Upto.calls g s0_0 (wrap64 (a3 + 1)) t499 t500 w0 _ ?side1 ?side2 A5.out).mono ?_);(case side1 => repeat (first | (with_reducible first | exact HI0.out | apply IsS65.alloc | apply IsS65.drewN | apply IsS65.drew | apply IsS65.set_0) | exact HI0.out));(case side2 => repeat (first | (with_reducible first | exact HB.out | apply bA_ | apply bN_ | apply bD_ | refine bS_ ?_ (IsS65.ge HI0.out)) | exact HB.out));rintro e w6 ⟨rfl,hi,hb,hk⟩;refine ⟨_,rfl,?_⟩;have n0_ := aM_ (KeepBut.trans (by repeat (first | (with_reducible first | exact HK.out | apply KeepBut.set_ | apply eN_ | apply eD_ | apply eA_) | exact HK.out)) hk (.inl rfl));have n1_ := aM_ (hb);have n2_ := aM_ (hi);clear HK;clear HB;clear HI0;have HK := n0_;have HB := n1_;have HI0 := n2_;clear n0_ n1_ n2_;(try clear hb);(try clear hb2);(try clear hk);(try clear hi)))
 go_loopg [9,10] k (fun kq v9 v10 w' => ∃ (x9_1 : List (S32)) (x10_1 : Int) (x1000_1 : Int),v10 = .int .i64 x10_1 ∧ Aside0 (L_shown.l0 kq l1 a2 x9_1 x10_1 x1000_1 = some (r1,r2)) ∧ Aside0 (kq ≤ k) ∧ Aside0 (Kd.R k32 32 w' w.heap.size (fun _ => True) v9 x9_1) ∧ Aside0 (IsS65 w0 w' g x1000_1) ∧ Aside0 (KeepBut w w' g none) ∧ Aside0 (Below w0.heap.size w0 w'))
 case atStart => exact ⟨(([] : List (S32))),(t499),(t500),(by first | rfl | (simp;done) | (simp [*];done)),H',⟨Nat.le_refl _⟩,⟨by first | exact Kd.R_nil _ _ _ _ _ | exact Kd.N_nil _ _ _ _ _ | exact Kd.V_nil _ _ _ _ _ | exact Kd.Q_nil _ _ _ _ _ | exact Kd.S_nil _ _ _ _ _⟩,⟨by repeat (first | (with_reducible first | exact HI0.out | apply IsS65.alloc | apply IsS65.drewN | apply IsS65.drew | apply IsS65.set_0) | exact HI0.out)⟩,⟨by repeat (first | (with_reducible first | exact HK.out | apply KeepBut.set_ | apply eN_ | apply eD_ | apply eA_) | exact HK.out)⟩,⟨by repeat (first | (with_reducible first | exact HB.out | apply bA_ | apply bN_ | apply bD_ | refine bS_ ?_ (IsS65.ge HI0.out)) | exact HB.out)⟩⟩
 case round =>
  clear H'
  try clear c1
  try clear c2
  try clear p2
  try clear p6
  obtain ⟨x9_1,x10_1,x1000_1,rfl,HA,HK1,HO_9,HI0,HK,HB⟩ := hrel
  cases gk with
  | zero => exact absurd HA.out (by simp [L_shown.l0])
  | succ k1 =>
   have H := HA.out
   clear HA
   simp only [L_shown.l0] at H
   by_cases c7 : x10_1 > 0
   ·rw [if_pos c7] at H
    have c7b0 : decide (0 < x10_1) = true := decide_eq_true c7
    clear c7
    replace H := oB_ H
    obtain ⟨⟨t501,t502⟩,A80,H⟩ := H
    replace H : ((D_One.f t502 9).bind fun bt503 => (if bt503.1 = true then ((D_Between.f bt503.2 (-50) 50).bind fun bt505 => ((K_Showing.f k1 bt505.2 l1 t501 (wrap64 (a2 + bt505.1))).bind fun bt507 => (if x9_1.length < 8796093022208 then (L_shown.l0 k1 l1 a2 (x9_1 ++ [(⟨t501,bt507.1⟩ : S32)]) (wrap64 (x10_1 - 1)) bt507.2) else (none)))) else ((K_Showing.f k1 bt503.2 l1 t501 a2).bind fun bt512 => (if x9_1.length < 8796093022208 then (L_shown.l0 k1 l1 a2 (x9_1 ++ [(⟨t501,bt512.1⟩ : S32)]) (wrap64 (x10_1 - 1)) bt512.2) else (none))))) = some (r1,r2) := H
    have A8 := aM_ A80
    clear A80
    replace H := oB_ H
    obtain ⟨⟨t503,t504⟩,A90,H⟩ := H
    replace H : (if t503 = true then ((D_Between.f t504 (-50) 50).bind fun bt505 => ((K_Showing.f k1 bt505.2 l1 t501 (wrap64 (a2 + bt505.1))).bind fun bt507 => (if x9_1.length < 8796093022208 then (L_shown.l0 k1 l1 a2 (x9_1 ++ [(⟨t501,bt507.1⟩ : S32)]) (wrap64 (x10_1 - 1)) bt507.2) else (none)))) else ((K_Showing.f k1 t504 l1 t501 a2).bind fun bt512 => (if x9_1.length < 8796093022208 then (L_shown.l0 k1 l1 a2 (x9_1 ++ [(⟨t501,bt512.1⟩ : S32)]) (wrap64 (x10_1 - 1)) bt512.2) else (none)))) = some (r1,r2) := H
    have A9 := aM_ A90
    clear A90
    by_cases c10 : t503 = true
    ·subst c10
     have H1 : ((D_Between.f t504 (-50) 50).bind fun bt505 => ((K_Showing.f k1 bt505.2 l1 t501 (wrap64 (a2 + bt505.1))).bind fun bt507 => (if x9_1.length < 8796093022208 then (L_shown.l0 k1 l1 a2 (x9_1 ++ [(⟨t501,bt507.1⟩ : S32)]) (wrap64 (x10_1 - 1)) bt507.2) else (none)))) = some (r1,r2) := by rw [if_pos rfl] at H;exact H
     clear H
     have H := H1
     clear H1
     replace H := oB_ H
     obtain ⟨⟨t505,t506⟩,A110,H⟩ := H
     replace H : ((K_Showing.f k1 t506 l1 t501 (wrap64 (a2 + t505))).bind fun bt507 => (if x9_1.length < 8796093022208 then (L_shown.l0 k1 l1 a2 (x9_1 ++ [(⟨t501,bt507.1⟩ : S32)]) (wrap64 (x10_1 - 1)) bt507.2) else (none))) = some (r1,r2) := H
     have A11 := aM_ A110
     clear A110
     replace H := oB_ H
     obtain ⟨⟨t507,t508⟩,A120,H⟩ := H
     replace H : (if x9_1.length < 8796093022208 then (L_shown.l0 k1 l1 a2 (x9_1 ++ [(⟨t501,t507⟩ : S32)]) (wrap64 (x10_1 - 1)) t508) else (none)) = some (r1,r2) := H
     have A12 := aM_ A120
     clear A120
     by_cases c13 : x9_1.length < 8796093022208
     ·rw [if_pos c13] at H
      have LMc13 := aM_ c13
      clear c13
      obtain ⟨y509,hy509⟩ : ∃ y_ : List (S32),y_ = (x9_1 ++ [(⟨t501,t507⟩ : S32)]) := ⟨_,rfl⟩
      replace H : (L_shown.l0 k1 l1 a2 y509 (wrap64 (x10_1 - 1)) t508) = some (r1,r2) := by first | (rw [hy509];with_reducible exact H) | (have H2_ := (Option.bind_some _ _).symm.trans H;rw [hy509];with_reducible exact H2_) | (have H2_ := (Option.bind_some _ _).symm.trans H;with_reducible exact H2_) | with_reducible exact H | (rw [hy509];exact H) | exact H
      have Ny509 := aM_ hy509
      clear hy509
      have H' := aM_ H
      clear H
      go_wp2_with (first | ((with_reducible refine gate_callee (f := 13) rfl ?_);refine goesL_ (some 24) rfl rfl Try.func13 (by kernel_rfl) rfl #[.pointer (some ⟨g,0,none⟩),.int .i64 (l1.length : Int)] rfl (by (try simp only [List.map_toArray,List.map_cons,List.map_nil]);first | done | rfl) ?_;(with_reducible refine (D_Upto.calls g x1000_1 (l1.length : Int) t501 t502 w0 _ ?side1 ?side2 A8.out).mono ?_);(case side1 => repeat (first | (with_reducible first | exact HI0.out | apply IsS65.alloc | apply IsS65.drewN | apply IsS65.drew | apply IsS65.set_0) | exact HI0.out));(case side2 => repeat (first | (with_reducible first | exact HB.out | apply bA_ | apply bN_ | apply bD_ | refine bS_ ?_ (IsS65.ge HI0.out)) | exact HB.out));rintro e w14 ⟨rfl,hi,hb,hk⟩;refine ⟨_,rfl,?_⟩;have n0_ := aM_ (Kd.R_mono (Kd.R_keep (IsS65.apart (show IsS65 w0 _ g x1000_1 from by repeat (first | (with_reducible first | exact HI0.out | apply IsS65.alloc | apply IsS65.drewN | apply IsS65.drew | apply IsS65.set_0) | exact HI0.out)) (by exact lo_ HO_9) (by decide)) hk (fun _ h => h.2)) (fun _ h => h.1));have n1_ := aM_ (KeepBut.trans (by repeat (first | (with_reducible first | exact HK.out | apply KeepBut.set_ | apply eN_ | apply eD_ | apply eA_) | exact HK.out)) hk (.inl rfl));have n2_ := aM_ (hb);have n3_ := aM_ (hi);clear HO_9;clear HK;clear HB;clear HI0;have HO_9 := n0_;have HK := n1_;have HB := n2_;have HI0 := n3_;clear n0_ n1_ n2_ n3_;(try clear hb);(try clear hb2);(try clear hk);(try clear hi)) | ((with_reducible refine gate_callee (f := 43) rfl ?_);refine goesL_ (some 27) rfl rfl Try.func43 (by kernel_rfl) rfl #[.pointer (some ⟨g,0,none⟩),.int .i64 9] rfl (by (try simp only [List.map_toArray,List.map_cons,List.map_nil]);first | done | rfl) ?_;(with_reducible refine (D_One.calls g t502 9 true t504 w0 _ ?side1 ?side2 A9.out).mono ?_);(case side1 => repeat (first | (with_reducible first | exact HI0.out | apply IsS65.alloc | apply IsS65.drewN | apply IsS65.drew | apply IsS65.set_0) | exact HI0.out));(case side2 => repeat (first | (with_reducible first | exact HB.out | apply bA_ | apply bN_ | apply bD_ | refine bS_ ?_ (IsS65.ge HI0.out)) | exact HB.out));rintro e w15 ⟨rfl,hi,hb,hk⟩;refine ⟨_,rfl,?_⟩;have n0_ := aM_ (Kd.R_mono (Kd.R_keep (IsS65.apart (show IsS65 w0 _ g t502 from by repeat (first | (with_reducible first | exact HI0.out | apply IsS65.alloc | apply IsS65.drewN | apply IsS65.drew | apply IsS65.set_0) | exact HI0.out)) (by exact lo_ HO_9) (by decide)) hk (fun _ h => h.2)) (fun _ h => h.1));have n1_ := aM_ (KeepBut.trans (by repeat (first | (with_reducible first | exact HK.out | apply KeepBut.set_ | apply eN_ | apply eD_ | apply eA_) | exact HK.out)) hk (.inl rfl));have n2_ := aM_ (hb);have n3_ := aM_ (hi);clear HO_9;clear HK;clear HB;clear HI0;have HO_9 := n0_;have HK := n1_;have HB := n2_;have HI0 := n3_;clear n0_ n1_ n2_ n3_;(try clear hb);(try clear hb2);(try clear hk);(try clear hi)) | ((with_reducible refine gate_callee (f := 12) rfl ?_);refine goesL_ (some 30) rfl rfl Try.func12 (by kernel_rfl) rfl #[.pointer (some ⟨g,0,none⟩),.int .i64 (-50),.int .i64 50] rfl (by (try simp only [List.map_toArray,List.map_cons,List.map_nil]);first | done | rfl) ?_;(with_reducible refine (D_Between.calls g t504 (-50) 50 t505 t506 w0 _ ?side1 ?side2 A11.out).mono ?_);(case side1 => repeat (first | (with_reducible first | exact HI0.out | apply IsS65.alloc | apply IsS65.drewN | apply IsS65.drew | apply IsS65.set_0) | exact HI0.out));(case side2 => repeat (first | (with_reducible first | exact HB.out | apply bA_ | apply bN_ | apply bD_ | refine bS_ ?_ (IsS65.ge HI0.out)) | exact HB.out));rintro e w16 ⟨rfl,hi,hb,hk⟩;refine ⟨_,rfl,?_⟩;have n0_ := aM_ (Kd.R_mono (Kd.R_keep (IsS65.apart (show IsS65 w0 _ g t504 from by repeat (first | (with_reducible first | exact HI0.out | apply IsS65.alloc | apply IsS65.drewN | apply IsS65.drew | apply IsS65.set_0) | exact HI0.out)) (by exact lo_ HO_9) (by decide)) hk (fun _ h => h.2)) (fun _ h => h.1));have n1_ := aM_ (KeepBut.trans (by repeat (first | (with_reducible first | exact HK.out | apply KeepBut.set_ | apply eN_ | apply eD_ | apply eA_) | exact HK.out)) hk (.inl rfl));have n2_ := aM_ (hb);have n3_ := aM_ (hi);clear HO_9;clear HK;clear HB;clear HI0;have HO_9 := n0_;have HK := n1_;have HB := n2_;have HI0 := n3_;clear n0_ n1_ n2_ n3_;(try clear hb);(try clear hb2);(try clear hk);(try clear hi)) | ((with_reducible refine gate_callee (f := 14) rfl ?_);refine goesL_ (some 38) rfl rfl Try.func14 (by kernel_rfl) rfl #[.pointer (some ⟨g,0,none⟩),.slice A1 l1.length c1,.int .i64 t501,.int .i64 (wrap64 (a2 + t505))] rfl (by (try simp only [List.map_toArray,List.map_cons,List.map_nil]);first | done | rfl) ?_;(with_reducible refine (K_Showing.calls k1 g t506 _ _ l1 t501 (wrap64 (a2 + t505)) t507 t508 w0 _ ?side1 ?side2 ?side3 ?side4 A12.out).mono ?_);(case side1 => repeat (first | (with_reducible first | exact HI0.out | apply IsS65.alloc | apply IsS65.drewN | apply IsS65.drew | apply IsS65.set_0) | exact HI0.out));(case side2 => repeat (first | (with_reducible first | exact HB.out | apply bA_ | apply bN_ | apply bD_ | refine bS_ ?_ (IsS65.ge HI0.out)) | exact HB.out));(case side3 => exact Kd.C_foot_step HR1.out (by repeat (first | (with_reducible first | exact HK.out | apply KeepBut.set_ | apply eN_ | apply eD_ | apply eA_) | exact HK.out)));(case side4 => exact HC1.out);rintro e w17 ⟨rfl,hi,hb,hk⟩;refine ⟨_,rfl,?_⟩;have n0_ := aM_ (Kd.R_mono (Kd.R_keep (IsS65.apart (show IsS65 w0 _ g t506 from by repeat (first | (with_reducible first | exact HI0.out | apply IsS65.alloc | apply IsS65.drewN | apply IsS65.drew | apply IsS65.set_0) | exact HI0.out)) (by exact lo_ HO_9) (by decide)) hk (fun _ h => h.2)) (fun _ h => h.1));have n1_ := aM_ (KeepBut.trans (by repeat (first | (with_reducible first | exact HK.out | apply KeepBut.set_ | apply eN_ | apply eD_ | apply eA_) | exact HK.out)) hk (.inl rfl));have n2_ := aM_ (hb);have n3_ := aM_ (hi);clear HO_9;clear HK;clear HB;clear HI0;have HO_9 := n0_;have HK := n1_;have HB := n2_;have HI0 := n3_;clear n0_ n1_ n2_ n3_;(try clear hb);(try clear hb2);(try clear hk);(try clear hi)) | ((with_reducible refine gate_builtin (b := .append) (xs := #[.tmp 32,.tmp 40]) rfl ?_);at_builtin;refine Kd.R_append k32 w.heap.size rfl (.tmp 32) (.tmp 40) 28 32 (.agg #[(.int .i64 0),(.int .i64 0)]) 16 rfl Try.underlying28 info32 rfl (by decide) (by omega) u9 x9_1 (⟨t501,t507⟩ : S32) [.int .i64 t501,.int .i64 t507] (fun _ => True) (fun _ => False) rfl rfl ?aP (fun _ hk => hk.elim) ?aF ?aO (Below.refl _ _) ?aS ?aL ?_;(case aP => exact k32_mkM _ _ _ (⟨t501,t507⟩ : S32));(case aF => exact (fun _ _ => trivial));(case aO => exact (by exact lo_ HO_9));(case aS => exact (keep_size (w := w) (g := g) (row := none) (by repeat (first | (with_reducible first | exact HK.out | apply KeepBut.set_ | apply eN_ | apply eD_ | apply eA_) | exact HK.out))));(case aL => have := LMc13.out;omega);intro v510 w18 ho hb hg hat;rw [← Ny509.out] at ho;have n0_ := aM_ (IsS65.grown (by repeat (first | (with_reducible first | exact HI0.out | apply IsS65.alloc | apply IsS65.drewN | apply IsS65.drew | apply IsS65.set_0) | exact HI0.out)) hg (IsS65.own_ne HI0.out HO_9.out (by decide)));have n1_ := aM_ (below_weaken (by repeat (first | (with_reducible first | exact HB.out | apply bA_ | apply bN_ | apply bD_ | refine bS_ ?_ (IsS65.ge HI0.out)) | exact HB.out)) HL.out hb);have n2_ := aM_ (KeepBut.trans (by repeat (first | (with_reducible first | exact HK.out | apply KeepBut.set_ | apply eN_ | apply eD_ | apply eA_) | exact HK.out)) (KeepBut.of_grown hg g) (Kd.R_base2 HO_9.out));have n3_ := aM_ (ho);clear HI0;clear HB;clear HK;clear HO_9;have HI0 := n0_;have HB := n1_;have HK := n2_;have HO511 := n3_;clear n0_ n1_ n2_ n3_;clear ho hb hg hat))
      go_roundg k1
      case measure => have := HK1.out;omega
      case rel => exact ⟨(y509),(wrap64 (x10_1 - 1)),(t508),(by first | rfl | (simp;done) | (simp [*];done)),H',⟨by have := HK1.out;omega⟩,⟨by exact lo_ HO511⟩,⟨by repeat (first | (with_reducible first | exact HI0.out | apply IsS65.alloc | apply IsS65.drewN | apply IsS65.drew | apply IsS65.set_0) | exact HI0.out)⟩,⟨by repeat (first | (with_reducible first | exact HK.out | apply KeepBut.set_ | apply eN_ | apply eD_ | apply eA_) | exact HK.out)⟩,⟨by repeat (first | (with_reducible first | exact HB.out | apply bA_ | apply bN_ | apply bD_ | refine bS_ ?_ (IsS65.ge HI0.out)) | exact HB.out)⟩⟩
     ·rw [if_neg c13] at H
      exact absurd H (by simp)
    ·replace c10 := Bool.eq_false_iff.mpr c10
     subst c10
     have H1 : ((K_Showing.f k1 t504 l1 t501 a2).bind fun bt512 => (if x9_1.length < 8796093022208 then (L_shown.l0 k1 l1 a2 (x9_1 ++ [(⟨t501,bt512.1⟩ : S32)]) (wrap64 (x10_1 - 1)) bt512.2) else (none))) = some (r1,r2) := by rw [if_neg (show ¬ (false = true) by decide)] at H;exact H
     clear H
     have H := H1
     clear H1
     replace H := oB_ H
     obtain ⟨⟨t512,t513⟩,A190,H⟩ := H
     replace H : (if x9_1.length < 8796093022208 then (L_shown.l0 k1 l1 a2 (x9_1 ++ [(⟨t501,t512⟩ : S32)]) (wrap64 (x10_1 - 1)) t513) else (none)) = some (r1,r2) := H
     have A19 := aM_ A190
     clear A190
     by_cases c20 : x9_1.length < 8796093022208
     ·rw [if_pos c20] at H
      have LMc20 := aM_ c20
      clear c20
      obtain ⟨y514,hy514⟩ : ∃ y_ : List (S32),y_ = (x9_1 ++ [(⟨t501,t512⟩ : S32)]) := ⟨_,rfl⟩
      replace H : (L_shown.l0 k1 l1 a2 y514 (wrap64 (x10_1 - 1)) t513) = some (r1,r2) := by first | (rw [hy514];with_reducible exact H) | (have H2_ := (Option.bind_some _ _).symm.trans H;rw [hy514];with_reducible exact H2_) | (have H2_ := (Option.bind_some _ _).symm.trans H;with_reducible exact H2_) | with_reducible exact H | (rw [hy514];exact H) | exact H
      have Ny514 := aM_ hy514
      clear hy514
      have H' := aM_ H
      clear H
      go_wp2_with (first | ((with_reducible refine gate_callee (f := 13) rfl ?_);refine goesL_ (some 24) rfl rfl Try.func13 (by kernel_rfl) rfl #[.pointer (some ⟨g,0,none⟩),.int .i64 (l1.length : Int)] rfl (by (try simp only [List.map_toArray,List.map_cons,List.map_nil]);first | done | rfl) ?_;(with_reducible refine (D_Upto.calls g x1000_1 (l1.length : Int) t501 t502 w0 _ ?side1 ?side2 A8.out).mono ?_);(case side1 => repeat (first | (with_reducible first | exact HI0.out | apply IsS65.alloc | apply IsS65.drewN | apply IsS65.drew | apply IsS65.set_0) | exact HI0.out));(case side2 => repeat (first | (with_reducible first | exact HB.out | apply bA_ | apply bN_ | apply bD_ | refine bS_ ?_ (IsS65.ge HI0.out)) | exact HB.out));rintro e w21 ⟨rfl,hi,hb,hk⟩;refine ⟨_,rfl,?_⟩;have n0_ := aM_ (Kd.R_mono (Kd.R_keep (IsS65.apart (show IsS65 w0 _ g x1000_1 from by repeat (first | (with_reducible first | exact HI0.out | apply IsS65.alloc | apply IsS65.drewN | apply IsS65.drew | apply IsS65.set_0) | exact HI0.out)) (by exact lo_ HO_9) (by decide)) hk (fun _ h => h.2)) (fun _ h => h.1));have n1_ := aM_ (KeepBut.trans (by repeat (first | (with_reducible first | exact HK.out | apply KeepBut.set_ | apply eN_ | apply eD_ | apply eA_) | exact HK.out)) hk (.inl rfl));have n2_ := aM_ (hb);have n3_ := aM_ (hi);clear HO_9;clear HK;clear HB;clear HI0;have HO_9 := n0_;have HK := n1_;have HB := n2_;have HI0 := n3_;clear n0_ n1_ n2_ n3_;(try clear hb);(try clear hb2);(try clear hk);(try clear hi)) | ((with_reducible refine gate_callee (f := 43) rfl ?_);refine goesL_ (some 27) rfl rfl Try.func43 (by kernel_rfl) rfl #[.pointer (some ⟨g,0,none⟩),.int .i64 9] rfl (by (try simp only [List.map_toArray,List.map_cons,List.map_nil]);first | done | rfl) ?_;(with_reducible refine (D_One.calls g t502 9 false t504 w0 _ ?side1 ?side2 A9.out).mono ?_);(case side1 => repeat (first | (with_reducible first | exact HI0.out | apply IsS65.alloc | apply IsS65.drewN | apply IsS65.drew | apply IsS65.set_0) | exact HI0.out));(case side2 => repeat (first | (with_reducible first | exact HB.out | apply bA_ | apply bN_ | apply bD_ | refine bS_ ?_ (IsS65.ge HI0.out)) | exact HB.out));rintro e w22 ⟨rfl,hi,hb,hk⟩;refine ⟨_,rfl,?_⟩;have n0_ := aM_ (Kd.R_mono (Kd.R_keep (IsS65.apart (show IsS65 w0 _ g t502 from by repeat (first | (with_reducible first | exact HI0.out | apply IsS65.alloc | apply IsS65.drewN | apply IsS65.drew | apply IsS65.set_0) | exact HI0.out)) (by exact lo_ HO_9) (by decide)) hk (fun _ h => h.2)) (fun _ h => h.1));have n1_ := aM_ (KeepBut.trans (by repeat (first | (with_reducible first | exact HK.out | apply KeepBut.set_ | apply eN_ | apply eD_ | apply eA_) | exact HK.out)) hk (.inl rfl));have n2_ := aM_ (hb);have n3_ := aM_ (hi);clear HO_9;clear HK;clear HB;clear HI0;have HO_9 := n0_;have HK := n1_;have HB := n2_;have HI0 := n3_;clear n0_ n1_ n2_ n3_;(try clear hb);(try clear hb2);(try clear hk);(try clear hi)) | ((with_reducible refine gate_callee (f := 14) rfl ?_);refine goesL_ (some 38) rfl rfl Try.func14 (by kernel_rfl) rfl #[.pointer (some ⟨g,0,none⟩),.slice A1 l1.length c1,.int .i64 t501,.int .i64 a2] rfl (by (try simp only [List.map_toArray,List.map_cons,List.map_nil]);first | done | rfl) ?_;(with_reducible refine (K_Showing.calls k1 g t504 _ _ l1 t501 a2 t512 t513 w0 _ ?side1 ?side2 ?side3 ?side4 A19.out).mono ?_);(case side1 => repeat (first | (with_reducible first | exact HI0.out | apply IsS65.alloc | apply IsS65.drewN | apply IsS65.drew | apply IsS65.set_0) | exact HI0.out));(case side2 => repeat (first | (with_reducible first | exact HB.out | apply bA_ | apply bN_ | apply bD_ | refine bS_ ?_ (IsS65.ge HI0.out)) | exact HB.out));(case side3 => exact Kd.C_foot_step HR1.out (by repeat (first | (with_reducible first | exact HK.out | apply KeepBut.set_ | apply eN_ | apply eD_ | apply eA_) | exact HK.out)));(case side4 => exact HC1.out);rintro e w23 ⟨rfl,hi,hb,hk⟩;refine ⟨_,rfl,?_⟩;have n0_ := aM_ (Kd.R_mono (Kd.R_keep (IsS65.apart (show IsS65 w0 _ g t504 from by repeat (first | (with_reducible first | exact HI0.out | apply IsS65.alloc | apply IsS65.drewN | apply IsS65.drew | apply IsS65.set_0) | exact HI0.out)) (by exact lo_ HO_9) (by decide)) hk (fun _ h => h.2)) (fun _ h => h.1));have n1_ := aM_ (KeepBut.trans (by repeat (first | (with_reducible first | exact HK.out | apply KeepBut.set_ | apply eN_ | apply eD_ | apply eA_) | exact HK.out)) hk (.inl rfl));have n2_ := aM_ (hb);have n3_ := aM_ (hi);clear HO_9;clear HK;clear HB;clear HI0;have HO_9 := n0_;have HK := n1_;have HB := n2_;have HI0 := n3_;clear n0_ n1_ n2_ n3_;(try clear hb);(try clear hb2);(try clear hk);(try clear hi)) | ((with_reducible refine gate_builtin (b := .append) (xs := #[.tmp 32,.tmp 40]) rfl ?_);at_builtin;refine Kd.R_append k32 w.heap.size rfl (.tmp 32) (.tmp 40) 28 32 (.agg #[(.int .i64 0),(.int .i64 0)]) 16 rfl Try.underlying28 info32 rfl (by decide) (by omega) u9 x9_1 (⟨t501,t512⟩ : S32) [.int .i64 t501,.int .i64 t512] (fun _ => True) (fun _ => False) rfl rfl ?aP (fun _ hk => hk.elim) ?aF ?aO (Below.refl _ _) ?aS ?aL ?_;(case aP => exact k32_mkM _ _ _ (⟨t501,t512⟩ : S32));(case aF => exact (fun _ _ => trivial));(case aO => exact (by exact lo_ HO_9));(case aS => exact (keep_size (w := w) (g := g) (row := none) (by repeat (first | (with_reducible first | exact HK.out | apply KeepBut.set_ | apply eN_ | apply eD_ | apply eA_) | exact HK.out))));(case aL => have := LMc20.out;omega);intro v515 w24 ho hb hg hat;rw [← Ny514.out] at ho;have n0_ := aM_ (IsS65.grown (by repeat (first | (with_reducible first | exact HI0.out | apply IsS65.alloc | apply IsS65.drewN | apply IsS65.drew | apply IsS65.set_0) | exact HI0.out)) hg (IsS65.own_ne HI0.out HO_9.out (by decide)));have n1_ := aM_ (below_weaken (by repeat (first | (with_reducible first | exact HB.out | apply bA_ | apply bN_ | apply bD_ | refine bS_ ?_ (IsS65.ge HI0.out)) | exact HB.out)) HL.out hb);have n2_ := aM_ (KeepBut.trans (by repeat (first | (with_reducible first | exact HK.out | apply KeepBut.set_ | apply eN_ | apply eD_ | apply eA_) | exact HK.out)) (KeepBut.of_grown hg g) (Kd.R_base2 HO_9.out));have n3_ := aM_ (ho);clear HI0;clear HB;clear HK;clear HO_9;have HI0 := n0_;have HB := n1_;have HK := n2_;have HO516 := n3_;clear n0_ n1_ n2_ n3_;clear ho hb hg hat))
      go_roundg k1
      case measure => have := HK1.out;omega
      case rel => exact ⟨(y514),(wrap64 (x10_1 - 1)),(t513),(by first | rfl | (simp;done) | (simp [*];done)),H',⟨by have := HK1.out;omega⟩,⟨by exact lo_ HO516⟩,⟨by repeat (first | (with_reducible first | exact HI0.out | apply IsS65.alloc | apply IsS65.drewN | apply IsS65.drew | apply IsS65.set_0) | exact HI0.out)⟩,⟨by repeat (first | (with_reducible first | exact HK.out | apply KeepBut.set_ | apply eN_ | apply eD_ | apply eA_) | exact HK.out)⟩,⟨by repeat (first | (with_reducible first | exact HB.out | apply bA_ | apply bN_ | apply bD_ | refine bS_ ?_ (IsS65.ge HI0.out)) | exact HB.out)⟩⟩
     ·rw [if_neg c20] at H
      exact absurd H (by simp)
   ·rw [if_neg c7] at H
    have c7b0 : decide (0 < x10_1) = false := decide_eq_false c7
    clear c7
    simp only [Option.some.injEq,Prod.mk.injEq] at H
    obtain ⟨rfl,rfl⟩ := H
    go_wp2
    go_ret
    exact ⟨_,by first | rfl | (simp [*] <;> rfl),by exact lo_ HO_9,by repeat (first | (with_reducible first | exact HI0.out | apply IsS65.alloc | apply IsS65.drewN | apply IsS65.drew | apply IsS65.set_0) | exact HI0.out),by repeat (first | (with_reducible first | exact HB.out | apply bA_ | apply bN_ | apply bD_ | refine bS_ ?_ (IsS65.ge HI0.out)) | exact HB.out),by repeat (first | (with_reducible first | exact HK.out | apply KeepBut.set_ | apply eN_ | apply eD_ | apply eA_) | exact HK.out)⟩

end Go.Proofs.Ytdbpobadeibjaab.GS
