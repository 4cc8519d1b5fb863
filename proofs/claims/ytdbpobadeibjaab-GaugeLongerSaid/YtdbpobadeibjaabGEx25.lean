-- written for this claim by a program of this session (wip/gp), over the kit's own printer; Lean checks it
import Derived.Test.YtdbpobadeibjaabGEx0
import Derived.Test.YtdbpobadeibjaabGEx3
import Derived.Test.YtdbpobadeibjaabGEx4
import Derived.Test.YtdbpobadeibjaabGEx5
import Derived.Test.YtdbpobadeibjaabGEx10
import Derived.Test.YtdbpobadeibjaabGEx16
import Derived.Test.YtdbpobadeibjaabGEx20
import Derived.Test.YtdbpobadeibjaabGEx24
import Derived.Test.YtdbpobadeibjaabVLast
namespace Go.Proofs.Ytdbpobadeibjaab.GE
open Go.RowKit Go.Proofs.YtdbpobadeibjaabW.PrintWords Go.Proofs.YtdbpobadeibjaabW.PrintLast Go.Proofs.YtdbpobadeibjaabW.PrintMore
attribute [local go_sem] max2_int min2_int max_two min_two max_three min_three max_four min_four
set_option linter.unusedVariables false
set_option linter.unusedSimpArgs false

/-! ### L_GaugeLonger: function 7 -/
mutual
def L_GaugeLonger.l0 : Nat → List Int → List (S49) → List (S34) → List (List (S32)) → Int → Int → Option (Bool)
 | 0,_,_,_,_,_,_ => none
 | k + 1,x0,x4,x5,x6,x7,x347000 => if x7 > 0 then ((D_Between.f x347000 (-2000) 2000).bind fun bt353 => ((D_Upto.f bt353.2 300).bind fun bt355 => ((D_Upto.f bt355.2 300).bind fun bt357 => ((L_span.f (wrap64 (bt353.1 - bt355.1)) (wrap64 (bt353.1 + bt357.1))).bind fun bt359 => (if x5.length < 8796093022208 then ((D_Upto.f bt357.2 3).bind fun bt364 => (L_GaugeLonger.l1 k x0 x4 (x5 ++ [(⟨bt359.1,bt359.2⟩ : S34)]) x6 x7 bt353.1 ([] : List (S32)) bt364.1 bt364.2)) else (none)))))) else (if 0 ≤ (wrap64 ((x6.length : Int) - 1)) then (if (wrap64 ((x6.length : Int) - 1)) ≤ (x5.length : Int) then (if (wrap64 ((x6.length : Int) - 1)) ≤ (x6.length : Int) then ((gauge_Sheet.f k x4 0 (x5.take ((wrap64 ((x6.length : Int) - 1)) : Int).toNat) (x6.take ((wrap64 ((x6.length : Int) - 1)) : Int).toNat)).bind fun bt384 => ((gauge_Sheet.f k x4 0 x5 x6).bind fun bt387 => (if bt384.2.2 = 0 then (if bt387.2.2 = 0 then (if ((bt384.1 == 1) != (bt384.2.1 == (-1))) = true then (L_GaugeLonger.j2 k x0 bt384.1 bt384.2.1 bt387.1 bt387.2.1 true) else (if ((bt387.1 == 1) != (bt387.2.1 == (-1))) = true then (L_GaugeLonger.j2 k x0 bt384.1 bt384.2.1 bt387.1 bt387.2.1 true) else (if bt384.2.1 ≥ (wrap64 ((x6.length : Int) - 1)) then (L_GaugeLonger.j2 k x0 bt384.1 bt384.2.1 bt387.1 bt387.2.1 true) else (L_GaugeLonger.j2 k x0 bt384.1 bt384.2.1 bt387.1 bt387.2.1 (decide (bt387.2.1 > (wrap64 ((x6.length : Int) - 1)))))))) else (L_GaugeLonger.j2 k x0 bt384.1 bt384.2.1 bt387.1 bt387.2.1 true)) else (L_GaugeLonger.j2 k x0 bt384.1 bt384.2.1 bt387.1 bt387.2.1 true)))) else (none)) else (none)) else (none))
def L_GaugeLonger.l1 : Nat → List Int → List (S49) → List (S34) → List (List (S32)) → Int → Int → List (S32) → Int → Int → Option (Bool)
 | 0,_,_,_,_,_,_,_,_,_ => none
 | k + 1,x0,x4,x5,x6,x7,x8,x9,x10,x347000 => if x10 > 0 then ((D_Upto.f x347000 (x4.length : Int)).bind fun bt366 => ((K_Showing.f k bt366.2 x4 bt366.1 x8).bind fun bt368 => (if x9.length < 8796093022208 then (L_GaugeLonger.l1 k x0 x4 x5 x6 x7 x8 (x9 ++ [(⟨bt366.1,bt368.1⟩ : S32)]) (wrap64 (x10 - 1)) bt368.2) else (none)))) else (if x6.length < 5864062014805 then (L_GaugeLonger.l0 k x0 x4 x5 (x6 ++ [x9]) (wrap64 (x7 - 1)) x347000) else (none))
def L_GaugeLonger.j2 : Nat → List Int → Int → Int → Int → Int → Bool → Option (Bool)
 | 0,_,_,_,_,_,_ => none
 | k + 1,x0,x13,x14,x16,x17,x119 => if x119 = true then (some false) else (if x13 = 1 then (if x13 = 2 then (if x16 = 2 then (if x17 = x14 then ((L_widers.f x0).bind fun t390 => (if t390 = true then ((L_awake.f k).bind fun t391 => (some t391)) else (some false))) else (some false)) else (some false)) else ((L_widers.f x0).bind fun t392 => (if t392 = true then ((L_awake.f k).bind fun t393 => (some t393)) else (some false)))) else (if x16 = 1 then (some false) else (if x13 = 2 then (if x16 = 2 then (if x17 = x14 then ((L_widers.f x0).bind fun t394 => (if t394 = true then ((L_awake.f k).bind fun t395 => (some t395)) else (some false))) else (some false)) else (some false)) else ((L_widers.f x0).bind fun t396 => (if t396 = true then ((L_awake.f k).bind fun t397 => (some t397)) else (some false))))))
end
def L_GaugeLonger.f (k : Nat) (l0 : List Int) : Option (Bool) := (K_NewDice.f l0).bind fun t345 => ((K_BenchOf.f t345 3).bind fun bt347 => ((D_Between.f bt347.2 1 5).bind fun bt351 => (L_GaugeLonger.l0 k l0 bt347.1 ([] : List (S34)) ([] : List (List (S32))) bt351.1 bt351.2)))
def L_GaugeLonger.T18 : Bool × List (List Nat × List Nat) := (true,[([],[]),([],[]),([],[]),([1,2],[1,2]),([],[]),([],[]),([4,5],[4,5]),([0,3,6],[0,3,6]),([7],[7]),([8],[8]),([8],[8]),([8],[8]),([9,7,0,1,2,3,4,5,6,7,8,9],[9]),([10,12,0,1,2,3,4,5,6,7,8,9,10,12],[10]),([11,13,0,1,2,3,4,5,6,7,8,9,10,11,12,13],[11])])
def L_GaugeLonger.B18 : List Nat := [0,0,0,6,0,0,48,127,255,511,511,511,1023,6143,16383]
theorem L_GaugeLonger.tab18 : rtab .any (opsOf Try.f7 18) = L_GaugeLonger.T18 := by kernel_rfl
theorem L_GaugeLonger.bits18 : waitsOk L_GaugeLonger.T18.2 L_GaugeLonger.B18 = true := by kernel_rfl
set_option maxHeartbeats 8000000 in
set_option maxRecDepth 100000 in
theorem L_GaugeLonger.calls (k : Nat) (A0 : Option Addr) (c0 : Nat) (l0 : List Int) (r : Bool) (w : World) (hr0 : Kd.C (Kd.int .i64) w A0 l0.length l0) (hc0 : l0.length ≤ c0) (h : L_GaugeLonger.f k l0 = some r) :
  Calls Try.prog 7 #[.slice A0 l0.length c0] w fun e w' => e = .returned (.bool r) ∧ Below w.heap.size w w' := by
 have hu32 := Try.underlying32
 have HR0 := aM_ hr0
 have HC0 := aM_ hc0
 clear hr0 hc0
 have HB := aM_ (Below.refl w.heap.size w)
 have H : ((K_NewDice.f l0).bind fun t345 => ((K_BenchOf.f t345 3).bind fun bt347 => ((D_Between.f bt347.2 1 5).bind fun bt351 => (L_GaugeLonger.l0 k l0 bt347.1 ([] : List (S34)) ([] : List (List (S32))) bt351.1 bt351.2)))) = some r := h
 clear h
 replace H := oB_ H
 obtain ⟨t345,A20,H⟩ := H
 replace H : ((K_BenchOf.f t345 3).bind fun bt347 => ((D_Between.f bt347.2 1 5).bind fun bt351 => (L_GaugeLonger.l0 k l0 bt347.1 ([] : List (S34)) ([] : List (List (S32))) bt351.1 bt351.2))) = some r := H
 have A2 := aM_ A20
 clear A20
 replace H := oB_ H
 obtain ⟨⟨t347,t350⟩,A30,H⟩ := H
 replace H : ((D_Between.f t350 1 5).bind fun bt351 => (L_GaugeLonger.l0 k l0 t347 ([] : List (S34)) ([] : List (List (S32))) bt351.1 bt351.2)) = some r := H
 have A3 := aM_ A30
 clear A30
 replace H := oB_ H
 obtain ⟨⟨t351,t352⟩,A40,H⟩ := H
 replace H : (L_GaugeLonger.l0 k l0 t347 ([] : List (S34)) ([] : List (List (S32))) t351 t352) = some r := H
 have A4 := aM_ A40
 clear A40
 have H' := aM_ H
 clear H
 go_enter Try.func7,Try.ntmps7
 go_wp2_with (first | ((with_reducible refine gate_callee (f := 9) rfl ?_);refine goesL_ (some 20) rfl rfl Try.func9 (by kernel_rfl) rfl #[.slice A0 l0.length c0] rfl (by (try simp only [List.map_toArray,List.map_cons,List.map_nil]);first | done | rfl) ?_;(with_reducible refine (K_NewDice.calls _ _ l0 t345 w _ ?side1 ?side2 ?side3 A2.out).mono ?_);(case side1 => repeat (first | (with_reducible first | exact HB.out | apply bA_ | apply bN_ | apply bD_) | exact HB.out));(case side2 => exact HR0.out);(case side3 => exact HC0.out);rintro e w5 ⟨g346,rfl,hi,hb,hb2⟩;refine ⟨_,rfl,?_⟩;have n0_ := aM_ (hb);have n1_ := aM_ (hi);clear HB;have HB := n0_;have HI346 := n1_;clear n0_ n1_;(try clear hb);(try clear hb2);(try clear hk);(try clear hi)) | ((with_reducible refine gate_callee (f := 10) rfl ?_);refine goesL_ (some 22) rfl rfl Try.func10 (by kernel_rfl) rfl #[.pointer (some ⟨g346,0,none⟩),.int .i64 3] rfl (by (try simp only [List.map_toArray,List.map_cons,List.map_nil]);first | done | rfl) ?_;(with_reducible refine (K_BenchOf.calls g346 t345 3 t347 t350 w _ ?side1 ?side2 A3.out).mono ?_);(case side1 => repeat (first | (with_reducible first | exact HI346.out | apply IsS65.alloc | apply IsS65.drewN | apply IsS65.drew | apply IsS65.set_0) | exact HI346.out));(case side2 => repeat (first | (with_reducible first | exact HB.out | apply bA_ | apply bN_ | apply bD_ | refine bS_ ?_ (IsS65.ge HI346.out)) | exact HB.out));rintro e w6 ⟨v348,rfl,ho0,hi,hb,hk⟩;refine ⟨_,rfl,?_⟩;have n0_ := aM_ (Kd.R_lower ho0 (below_size (by repeat (first | (with_reducible first | exact HB.out | apply bA_ | apply bN_ | apply bD_ | refine bS_ ?_ (IsS65.ge HI346.out)) | exact HB.out))));have n1_ := aM_ (hb);have n2_ := aM_ (hi);clear HB;clear HI346;have HO349 := n0_;have HB := n1_;have HI346 := n2_;clear n0_ n1_ n2_;(try clear hb);(try clear hb2);(try clear hk);(try clear hi);(try clear ho0)) | ((with_reducible refine gate_callee (f := 12) rfl ?_);refine goesL_ (some 24) rfl rfl Try.func12 (by kernel_rfl) rfl #[.pointer (some ⟨g346,0,none⟩),.int .i64 1,.int .i64 5] rfl (by (try simp only [List.map_toArray,List.map_cons,List.map_nil]);first | done | rfl) ?_;(with_reducible refine (D_Between.calls g346 t350 1 5 t351 t352 w _ ?side1 ?side2 A4.out).mono ?_);(case side1 => repeat (first | (with_reducible first | exact HI346.out | apply IsS65.alloc | apply IsS65.drewN | apply IsS65.drew | apply IsS65.set_0) | exact HI346.out));(case side2 => repeat (first | (with_reducible first | exact HB.out | apply bA_ | apply bN_ | apply bD_ | refine bS_ ?_ (IsS65.ge HI346.out)) | exact HB.out));rintro e w7 ⟨rfl,hi,hb,hk⟩;refine ⟨_,rfl,?_⟩;have n0_ := aM_ (Kd.R_mono (Kd.R_keep (IsS65.apart (show IsS65 w _ g346 t350 from by repeat (first | (with_reducible first | exact HI346.out | apply IsS65.alloc | apply IsS65.drewN | apply IsS65.drew | apply IsS65.set_0) | exact HI346.out)) (by (with_reducible repeat (first | apply Kd.R_alloc | apply Kd.R_drewN | apply Kd.R_drew));exact HO349.out) (by decide)) hk (fun _ h => h.2)) (fun _ h => h.1));have n1_ := aM_ (hb);have n2_ := aM_ (hi);clear HO349;clear HB;clear HI346;have HO349 := n0_;have HB := n1_;have HI346 := n2_;clear n0_ n1_ n2_;(try clear hb);(try clear hb2);(try clear hk);(try clear hi)))
 go_loopg [5,6,7] k (fun kq v5 v6 v7 w' => ∃ (x5_1 : List (S34)) (x6_1 : List (List (S32))) (x7_1 : Int) (x347000_1 : Int),v7 = .int .i64 x7_1 ∧ Aside0 (L_GaugeLonger.l0 kq l0 t347 x5_1 x6_1 x7_1 x347000_1 = some r) ∧ Aside0 (kq ≤ k) ∧ Aside0 (Kd.R k49 49 w' w.heap.size (fun _ => True) v348 t347) ∧ Aside0 (Kd.R k34 34 w' w.heap.size (fun _ => True) v5 x5_1) ∧ Aside0 (Kd.S (Kd.slice 32 k32) 28 w' w.heap.size (fun _ => True) v6 x6_1) ∧ Aside0 (IsS65 w w' g346 x347000_1) ∧ Aside0 (Below w.heap.size w w'))
 case atStart => exact ⟨(([] : List (S34))),(([] : List (List (S32)))),(t351),(t352),(by first | rfl | (simp;done) | (simp [*];done)),H',⟨Nat.le_refl _⟩,⟨by (with_reducible repeat (first | apply Kd.R_alloc | apply Kd.R_drewN | apply Kd.R_drew));exact HO349.out⟩,⟨by first | exact Kd.R_nil _ _ _ _ _ | exact Kd.N_nil _ _ _ _ _ | exact Kd.V_nil _ _ _ _ _ | exact Kd.Q_nil _ _ _ _ _ | exact Kd.S_nil _ _ _ _ _⟩,⟨by first | exact Kd.S_nil _ _ _ _ _ | exact Kd.N_nil _ _ _ _ _ | exact Kd.V_nil _ _ _ _ _ | exact Kd.Q_nil _ _ _ _ _ | exact Kd.R_nil _ _ _ _ _⟩,⟨by repeat (first | (with_reducible first | exact HI346.out | apply IsS65.alloc | apply IsS65.drewN | apply IsS65.drew | apply IsS65.set_0) | exact HI346.out)⟩,⟨by repeat (first | (with_reducible first | exact HB.out | apply bA_ | apply bN_ | apply bD_ | refine bS_ ?_ (IsS65.ge HI346.out)) | exact HB.out)⟩⟩
 case round =>
  clear H'
  try clear c1
  try clear p2
  try clear c7
  obtain ⟨x5_1,x6_1,x7_1,x347000_1,rfl,HA,HK1,HO_4,HO_5,HO_6,HI346,HB⟩ := hrel
  cases gk with
  | zero => exact absurd HA.out (by simp [L_GaugeLonger.l0])
  | succ k1 =>
   have H := HA.out
   clear HA
   simp only [L_GaugeLonger.l0] at H
   by_cases c8 : x7_1 > 0
   ·rw [if_pos c8] at H
    have c8b0 : decide (0 < x7_1) = true := decide_eq_true c8
    clear c8
    replace H := oB_ H
    obtain ⟨⟨t353,t354⟩,A90,H⟩ := H
    replace H : ((D_Upto.f t354 300).bind fun bt355 => ((D_Upto.f bt355.2 300).bind fun bt357 => ((L_span.f (wrap64 (t353 - bt355.1)) (wrap64 (t353 + bt357.1))).bind fun bt359 => (if x5_1.length < 8796093022208 then ((D_Upto.f bt357.2 3).bind fun bt364 => (L_GaugeLonger.l1 k1 l0 t347 (x5_1 ++ [(⟨bt359.1,bt359.2⟩ : S34)]) x6_1 x7_1 t353 ([] : List (S32)) bt364.1 bt364.2)) else (none))))) = some r := H
    have A9 := aM_ A90
    clear A90
    replace H := oB_ H
    obtain ⟨⟨t355,t356⟩,A100,H⟩ := H
    replace H : ((D_Upto.f t356 300).bind fun bt357 => ((L_span.f (wrap64 (t353 - t355)) (wrap64 (t353 + bt357.1))).bind fun bt359 => (if x5_1.length < 8796093022208 then ((D_Upto.f bt357.2 3).bind fun bt364 => (L_GaugeLonger.l1 k1 l0 t347 (x5_1 ++ [(⟨bt359.1,bt359.2⟩ : S34)]) x6_1 x7_1 t353 ([] : List (S32)) bt364.1 bt364.2)) else (none)))) = some r := H
    have A10 := aM_ A100
    clear A100
    replace H := oB_ H
    obtain ⟨⟨t357,t358⟩,A110,H⟩ := H
    replace H : ((L_span.f (wrap64 (t353 - t355)) (wrap64 (t353 + t357))).bind fun bt359 => (if x5_1.length < 8796093022208 then ((D_Upto.f t358 3).bind fun bt364 => (L_GaugeLonger.l1 k1 l0 t347 (x5_1 ++ [(⟨bt359.1,bt359.2⟩ : S34)]) x6_1 x7_1 t353 ([] : List (S32)) bt364.1 bt364.2)) else (none))) = some r := H
    have A11 := aM_ A110
    clear A110
    replace H := oB_ H
    obtain ⟨⟨t359,t360⟩,A120,H⟩ := H
    replace H : (if x5_1.length < 8796093022208 then ((D_Upto.f t358 3).bind fun bt364 => (L_GaugeLonger.l1 k1 l0 t347 (x5_1 ++ [(⟨t359,t360⟩ : S34)]) x6_1 x7_1 t353 ([] : List (S32)) bt364.1 bt364.2)) else (none)) = some r := H
    have A12 := aM_ A120
    clear A120
    by_cases c13 : x5_1.length < 8796093022208
    ·rw [if_pos c13] at H
     have LMc13 := aM_ c13
     clear c13
     obtain ⟨y361,hy361⟩ : ∃ y_ : List (S34),y_ = (x5_1 ++ [(⟨t359,t360⟩ : S34)]) := ⟨_,rfl⟩
     replace H : ((D_Upto.f t358 3).bind fun bt364 => (L_GaugeLonger.l1 k1 l0 t347 y361 x6_1 x7_1 t353 ([] : List (S32)) bt364.1 bt364.2)) = some r := by first | (rw [hy361];with_reducible exact H) | (have H2_ := (Option.bind_some _ _).symm.trans H;rw [hy361];with_reducible exact H2_) | (have H2_ := (Option.bind_some _ _).symm.trans H;with_reducible exact H2_) | with_reducible exact H | (rw [hy361];exact H) | exact H
     have Ny361 := aM_ hy361
     clear hy361
     replace H := oB_ H
     obtain ⟨⟨t364,t365⟩,A140,H⟩ := H
     replace H : (L_GaugeLonger.l1 k1 l0 t347 y361 x6_1 x7_1 t353 ([] : List (S32)) t364 t365) = some r := H
     have A14 := aM_ A140
     clear A140
     have H' := aM_ H
     clear H
     go_wp2_with (first | ((with_reducible refine gate_callee (f := 12) rfl ?_);refine goesL_ (some 30) rfl rfl Try.func12 (by kernel_rfl) rfl #[.pointer (some ⟨g346,0,none⟩),.int .i64 (-2000),.int .i64 2000] rfl (by (try simp only [List.map_toArray,List.map_cons,List.map_nil]);first | done | rfl) ?_;(with_reducible refine (D_Between.calls g346 x347000_1 (-2000) 2000 t353 t354 w _ ?side1 ?side2 A9.out).mono ?_);(case side1 => repeat (first | (with_reducible first | exact HI346.out | apply IsS65.alloc | apply IsS65.drewN | apply IsS65.drew | apply IsS65.set_0) | exact HI346.out));(case side2 => repeat (first | (with_reducible first | exact HB.out | apply bA_ | apply bN_ | apply bD_ | refine bS_ ?_ (IsS65.ge HI346.out)) | exact HB.out));rintro e w15 ⟨rfl,hi,hb,hk⟩;refine ⟨_,rfl,?_⟩;have n0_ := aM_ (Kd.R_mono (Kd.R_keep (IsS65.apart (show IsS65 w _ g346 x347000_1 from by repeat (first | (with_reducible first | exact HI346.out | apply IsS65.alloc | apply IsS65.drewN | apply IsS65.drew | apply IsS65.set_0) | exact HI346.out)) (by (with_reducible repeat (first | apply Kd.R_alloc | apply Kd.R_drewN | apply Kd.R_drew));exact HO_4.out) (by decide)) hk (fun _ h => h.2)) (fun _ h => h.1));have n1_ := aM_ (Kd.R_mono (Kd.R_keep (IsS65.apart (show IsS65 w _ g346 x347000_1 from by repeat (first | (with_reducible first | exact HI346.out | apply IsS65.alloc | apply IsS65.drewN | apply IsS65.drew | apply IsS65.set_0) | exact HI346.out)) (by (with_reducible repeat (first | apply Kd.R_alloc | apply Kd.R_drewN | apply Kd.R_drew));exact HO_5.out) (by decide)) hk (fun _ h => h.2)) (fun _ h => h.1));have n2_ := aM_ (Kd.S_mono (Kd.S_keep (IsS65.apartS (show IsS65 w _ g346 x347000_1 from by repeat (first | (with_reducible first | exact HI346.out | apply IsS65.alloc | apply IsS65.drewN | apply IsS65.drew | apply IsS65.set_0) | exact HI346.out)) (by (with_reducible repeat (first | apply Kd.S_alloc | apply Kd.S_drewN | apply Kd.S_drew));exact HO_6.out) (by decide)) hk (fun _ h => h.2)) (fun _ h => h.1));have n3_ := aM_ (hb);have n4_ := aM_ (hi);clear HO_4;clear HO_5;clear HO_6;clear HB;clear HI346;have HO_4 := n0_;have HO_5 := n1_;have HO_6 := n2_;have HB := n3_;have HI346 := n4_;clear n0_ n1_ n2_ n3_ n4_;(try clear hb);(try clear hb2);(try clear hk);(try clear hi)) | ((with_reducible refine gate_callee (f := 13) rfl ?_);refine goesL_ (some 34) rfl rfl Try.func13 (by kernel_rfl) rfl #[.pointer (some ⟨g346,0,none⟩),.int .i64 300] rfl (by (try simp only [List.map_toArray,List.map_cons,List.map_nil]);first | done | rfl) ?_;(with_reducible refine (D_Upto.calls g346 t354 300 t355 t356 w _ ?side1 ?side2 A10.out).mono ?_);(case side1 => repeat (first | (with_reducible first | exact HI346.out | apply IsS65.alloc | apply IsS65.drewN | apply IsS65.drew | apply IsS65.set_0) | exact HI346.out));(case side2 => repeat (first | (with_reducible first | exact HB.out | apply bA_ | apply bN_ | apply bD_ | refine bS_ ?_ (IsS65.ge HI346.out)) | exact HB.out));rintro e w16 ⟨rfl,hi,hb,hk⟩;refine ⟨_,rfl,?_⟩;have n0_ := aM_ (Kd.R_mono (Kd.R_keep (IsS65.apart (show IsS65 w _ g346 t354 from by repeat (first | (with_reducible first | exact HI346.out | apply IsS65.alloc | apply IsS65.drewN | apply IsS65.drew | apply IsS65.set_0) | exact HI346.out)) (by (with_reducible repeat (first | apply Kd.R_alloc | apply Kd.R_drewN | apply Kd.R_drew));exact HO_4.out) (by decide)) hk (fun _ h => h.2)) (fun _ h => h.1));have n1_ := aM_ (Kd.R_mono (Kd.R_keep (IsS65.apart (show IsS65 w _ g346 t354 from by repeat (first | (with_reducible first | exact HI346.out | apply IsS65.alloc | apply IsS65.drewN | apply IsS65.drew | apply IsS65.set_0) | exact HI346.out)) (by (with_reducible repeat (first | apply Kd.R_alloc | apply Kd.R_drewN | apply Kd.R_drew));exact HO_5.out) (by decide)) hk (fun _ h => h.2)) (fun _ h => h.1));have n2_ := aM_ (Kd.S_mono (Kd.S_keep (IsS65.apartS (show IsS65 w _ g346 t354 from by repeat (first | (with_reducible first | exact HI346.out | apply IsS65.alloc | apply IsS65.drewN | apply IsS65.drew | apply IsS65.set_0) | exact HI346.out)) (by (with_reducible repeat (first | apply Kd.S_alloc | apply Kd.S_drewN | apply Kd.S_drew));exact HO_6.out) (by decide)) hk (fun _ h => h.2)) (fun _ h => h.1));have n3_ := aM_ (hb);have n4_ := aM_ (hi);clear HO_4;clear HO_5;clear HO_6;clear HB;clear HI346;have HO_4 := n0_;have HO_5 := n1_;have HO_6 := n2_;have HB := n3_;have HI346 := n4_;clear n0_ n1_ n2_ n3_ n4_;(try clear hb);(try clear hb2);(try clear hk);(try clear hi)) | ((with_reducible refine gate_callee (f := 13) rfl ?_);refine goesL_ (some 38) rfl rfl Try.func13 (by kernel_rfl) rfl #[.pointer (some ⟨g346,0,none⟩),.int .i64 300] rfl (by (try simp only [List.map_toArray,List.map_cons,List.map_nil]);first | done | rfl) ?_;(with_reducible refine (D_Upto.calls g346 t356 300 t357 t358 w _ ?side1 ?side2 A11.out).mono ?_);(case side1 => repeat (first | (with_reducible first | exact HI346.out | apply IsS65.alloc | apply IsS65.drewN | apply IsS65.drew | apply IsS65.set_0) | exact HI346.out));(case side2 => repeat (first | (with_reducible first | exact HB.out | apply bA_ | apply bN_ | apply bD_ | refine bS_ ?_ (IsS65.ge HI346.out)) | exact HB.out));rintro e w17 ⟨rfl,hi,hb,hk⟩;refine ⟨_,rfl,?_⟩;have n0_ := aM_ (Kd.R_mono (Kd.R_keep (IsS65.apart (show IsS65 w _ g346 t356 from by repeat (first | (with_reducible first | exact HI346.out | apply IsS65.alloc | apply IsS65.drewN | apply IsS65.drew | apply IsS65.set_0) | exact HI346.out)) (by (with_reducible repeat (first | apply Kd.R_alloc | apply Kd.R_drewN | apply Kd.R_drew));exact HO_4.out) (by decide)) hk (fun _ h => h.2)) (fun _ h => h.1));have n1_ := aM_ (Kd.R_mono (Kd.R_keep (IsS65.apart (show IsS65 w _ g346 t356 from by repeat (first | (with_reducible first | exact HI346.out | apply IsS65.alloc | apply IsS65.drewN | apply IsS65.drew | apply IsS65.set_0) | exact HI346.out)) (by (with_reducible repeat (first | apply Kd.R_alloc | apply Kd.R_drewN | apply Kd.R_drew));exact HO_5.out) (by decide)) hk (fun _ h => h.2)) (fun _ h => h.1));have n2_ := aM_ (Kd.S_mono (Kd.S_keep (IsS65.apartS (show IsS65 w _ g346 t356 from by repeat (first | (with_reducible first | exact HI346.out | apply IsS65.alloc | apply IsS65.drewN | apply IsS65.drew | apply IsS65.set_0) | exact HI346.out)) (by (with_reducible repeat (first | apply Kd.S_alloc | apply Kd.S_drewN | apply Kd.S_drew));exact HO_6.out) (by decide)) hk (fun _ h => h.2)) (fun _ h => h.1));have n3_ := aM_ (hb);have n4_ := aM_ (hi);clear HO_4;clear HO_5;clear HO_6;clear HB;clear HI346;have HO_4 := n0_;have HO_5 := n1_;have HO_6 := n2_;have HB := n3_;have HI346 := n4_;clear n0_ n1_ n2_ n3_ n4_;(try clear hb);(try clear hb2);(try clear hk);(try clear hi)) | ((with_reducible refine gate_callee (f := 24) rfl ?_);refine goesL_ (some 40) rfl rfl Try.func24 (by kernel_rfl) rfl #[.int .i64 (wrap64 (t353 - t355)),.int .i64 (wrap64 (t353 + t357))] rfl (by (try simp only [List.map_toArray,List.map_cons,List.map_nil]);first | done | rfl) ?_;(with_reducible refine (L_span.calls (wrap64 (t353 - t355)) (wrap64 (t353 + t357)) t359 t360 _ A12.out).mono ?_);rintro e w18 ⟨rfl,hb⟩;refine ⟨_,rfl,?_⟩;have n0_ := aM_ (Kd.R_below (by (with_reducible repeat (first | apply Kd.R_alloc | apply Kd.R_drewN | apply Kd.R_drew));exact HO_4.out) hb);have n1_ := aM_ (Kd.R_below (by (with_reducible repeat (first | apply Kd.R_alloc | apply Kd.R_drewN | apply Kd.R_drew));exact HO_5.out) hb);have n2_ := aM_ (Kd.S_below (by (with_reducible repeat (first | apply Kd.S_alloc | apply Kd.S_drewN | apply Kd.S_drew));exact HO_6.out) hb);have n3_ := aM_ (IsS65.below (by repeat (first | (with_reducible first | exact HI346.out | apply IsS65.alloc | apply IsS65.drewN | apply IsS65.drew | apply IsS65.set_0) | exact HI346.out)) hb);have n4_ := aM_ (bT_ (by repeat (first | (with_reducible first | exact HB.out | apply bA_ | apply bN_ | apply bD_ | refine bS_ ?_ (IsS65.ge HI346.out)) | exact HB.out)) hb);clear HO_4;clear HO_5;clear HO_6;clear HI346;clear HB;have HO_4 := n0_;have HO_5 := n1_;have HO_6 := n2_;have HI346 := n3_;have HB := n4_;clear n0_ n1_ n2_ n3_ n4_;(try clear hb);(try clear hb2);(try clear hk);(try clear hi)) | ((with_reducible refine gate_builtin (b := .append) (xs := #[.tmp 31,.tmp 41]) rfl ?_);at_builtin;refine Kd.R_append k34 (w0 := w) w.heap.size rfl (.tmp 31) (.tmp 41) 44 34 (.agg #[(.int .i64 0),(.int .i64 0)]) 16 rfl Try.underlying44 info34 rfl (by decide) (by omega) u5 x5_1 (⟨t359,t360⟩ : S34) [.int .i64 t359,.int .i64 t360] (fun _ => True) (fun _ => False) rfl rfl ?aP (fun _ hk => hk.elim) ?aF ?aO ?aB ?aS ?aL ?_;(case aP => exact k34_mkM _ _ _ (⟨t359,t360⟩ : S34));(case aB => exact (by repeat (first | (with_reducible first | exact HB.out | apply bA_ | apply bN_ | apply bD_ | refine bS_ ?_ (IsS65.ge HI346.out)) | exact HB.out)));(case aF => exact (fun _ _ => trivial));(case aO => exact (by (with_reducible repeat (first | apply Kd.R_alloc | apply Kd.R_drewN | apply Kd.R_drew));exact HO_5.out));(case aS => exact (below_size (by repeat (first | (with_reducible first | exact HB.out | apply bA_ | apply bN_ | apply bD_ | refine bS_ ?_ (IsS65.ge HI346.out)) | exact HB.out))));(case aL => have := LMc13.out;omega);intro v362 w19 ho hb hg hat;rw [← Ny361.out] at ho;have n0_ := aM_ (Kd.R_over' (by (with_reducible repeat (first | apply Kd.R_alloc | apply Kd.R_drewN | apply Kd.R_drew));exact HO_4.out) (Kd.R_typed (by (with_reducible repeat (first | apply Kd.R_alloc | apply Kd.R_drewN | apply Kd.R_drew));exact HO_5.out)) (by decide) hg);have n1_ := aM_ (Kd.S_over' (by (with_reducible repeat (first | apply Kd.S_alloc | apply Kd.S_drewN | apply Kd.S_drew));exact HO_6.out) (Kd.R_typed (by (with_reducible repeat (first | apply Kd.R_alloc | apply Kd.R_drewN | apply Kd.R_drew));exact HO_5.out)) (by decide) hg);have n2_ := aM_ (IsS65.grown (by repeat (first | (with_reducible first | exact HI346.out | apply IsS65.alloc | apply IsS65.drewN | apply IsS65.drew | apply IsS65.set_0) | exact HI346.out)) hg (IsS65.own_ne HI346.out HO_5.out (by decide)));have n3_ := aM_ (hb);have n4_ := aM_ (ho);clear HO_4;clear HO_6;clear HI346;clear HB;clear HO_5;have HO_4 := n0_;have HO_6 := n1_;have HI346 := n2_;have HB := n3_;have HO363 := n4_;clear n0_ n1_ n2_ n3_ n4_;clear ho hb hg hat) | ((with_reducible refine gate_callee (f := 13) rfl ?_);refine goesL_ (some 44) rfl rfl Try.func13 (by kernel_rfl) rfl #[.pointer (some ⟨g346,0,none⟩),.int .i64 3] rfl (by (try simp only [List.map_toArray,List.map_cons,List.map_nil]);first | done | rfl) ?_;(with_reducible refine (D_Upto.calls g346 t358 3 t364 t365 w _ ?side1 ?side2 A14.out).mono ?_);(case side1 => repeat (first | (with_reducible first | exact HI346.out | apply IsS65.alloc | apply IsS65.drewN | apply IsS65.drew | apply IsS65.set_0) | exact HI346.out));(case side2 => repeat (first | (with_reducible first | exact HB.out | apply bA_ | apply bN_ | apply bD_ | refine bS_ ?_ (IsS65.ge HI346.out)) | exact HB.out));rintro e w20 ⟨rfl,hi,hb,hk⟩;refine ⟨_,rfl,?_⟩;have n0_ := aM_ (Kd.R_mono (Kd.R_keep (IsS65.apart (show IsS65 w _ g346 t358 from by repeat (first | (with_reducible first | exact HI346.out | apply IsS65.alloc | apply IsS65.drewN | apply IsS65.drew | apply IsS65.set_0) | exact HI346.out)) (by (with_reducible repeat (first | apply Kd.R_alloc | apply Kd.R_drewN | apply Kd.R_drew));exact HO_4.out) (by decide)) hk (fun _ h => h.2)) (fun _ h => h.1));have n1_ := aM_ (Kd.S_mono (Kd.S_keep (IsS65.apartS (show IsS65 w _ g346 t358 from by repeat (first | (with_reducible first | exact HI346.out | apply IsS65.alloc | apply IsS65.drewN | apply IsS65.drew | apply IsS65.set_0) | exact HI346.out)) (by (with_reducible repeat (first | apply Kd.S_alloc | apply Kd.S_drewN | apply Kd.S_drew));exact HO_6.out) (by decide)) hk (fun _ h => h.2)) (fun _ h => h.1));have n2_ := aM_ (Kd.R_mono (Kd.R_keep (IsS65.apart (show IsS65 w _ g346 t358 from by repeat (first | (with_reducible first | exact HI346.out | apply IsS65.alloc | apply IsS65.drewN | apply IsS65.drew | apply IsS65.set_0) | exact HI346.out)) (by (with_reducible repeat (first | apply Kd.R_alloc | apply Kd.R_drewN | apply Kd.R_drew));exact HO363.out) (by decide)) hk (fun _ h => h.2)) (fun _ h => h.1));have n3_ := aM_ (hb);have n4_ := aM_ (hi);clear HO_4;clear HO_6;clear HO363;clear HB;clear HI346;have HO_4 := n0_;have HO_6 := n1_;have HO363 := n2_;have HB := n3_;have HI346 := n4_;clear n0_ n1_ n2_ n3_ n4_;(try clear hb);(try clear hb2);(try clear hk);(try clear hi)))
     go_loopg [9,10] k1 (fun kq v9 v10 w' => ∃ (x9_2 : List (S32)) (x10_2 : Int) (x347000_2 : Int),v10 = .int .i64 x10_2 ∧ Aside0 (L_GaugeLonger.l1 kq l0 t347 y361 x6_1 x7_1 t353 x9_2 x10_2 x347000_2 = some r) ∧ Aside0 (kq ≤ k1) ∧ Aside0 (Kd.R k49 49 w' w.heap.size (fun _ => True) v348 t347) ∧ Aside0 (Kd.R k34 34 w' w.heap.size (fun _ => True) v362 y361) ∧ Aside0 (Kd.S (Kd.slice 32 k32) 28 w' w.heap.size (fun k_ => some k_ ≠ (v9 : Value).ownBlock) u6 x6_1) ∧ Aside0 (Kd.R k32 32 w' w.heap.size (fun _ => True) v9 x9_2) ∧ Aside0 (IsS65 w w' g346 x347000_2) ∧ Aside0 (Below w.heap.size w w'))
     case atStart => exact ⟨(([] : List (S32))),(t364),(t365),(by first | rfl | (simp;done) | (simp [*];done)),H',⟨Nat.le_refl _⟩,⟨by (with_reducible repeat (first | apply Kd.R_alloc | apply Kd.R_drewN | apply Kd.R_drew));exact HO_4.out⟩,⟨by (with_reducible repeat (first | apply Kd.R_alloc | apply Kd.R_drewN | apply Kd.R_drew));exact HO363.out⟩,⟨by (with_reducible repeat (first | apply Kd.S_alloc | apply Kd.S_drewN | apply Kd.S_drew));exact Kd.S_mono HO_6.out (fun _ hk => (by simp [Value.ownBlock]))⟩,⟨by first | exact Kd.R_nil _ _ _ _ _ | exact Kd.N_nil _ _ _ _ _ | exact Kd.V_nil _ _ _ _ _ | exact Kd.Q_nil _ _ _ _ _ | exact Kd.S_nil _ _ _ _ _⟩,⟨by repeat (first | (with_reducible first | exact HI346.out | apply IsS65.alloc | apply IsS65.drewN | apply IsS65.drew | apply IsS65.set_0) | exact HI346.out)⟩,⟨by repeat (first | (with_reducible first | exact HB.out | apply bA_ | apply bN_ | apply bD_ | refine bS_ ?_ (IsS65.ge HI346.out)) | exact HB.out)⟩⟩
     case round =>
      clear H'
      try clear c1
      try clear c2
      try clear p2
      try clear p6
      try clear c7
      try clear c8
      try clear c8b0
      try clear c9
      try clear c10
      try clear c12
      try clear c13
      try clear p2
      obtain ⟨x9_2,x10_2,x347000_2,rfl,HA,HK2,HO_4,HO_5,HO_6,HO_9,HI346,HB⟩ := hrel
      cases gk with
      | zero => exact absurd HA.out (by simp [L_GaugeLonger.l1])
      | succ k2 =>
       have H := HA.out
       clear HA
       simp only [L_GaugeLonger.l1] at H
       by_cases c21 : x10_2 > 0
       ·rw [if_pos c21] at H
        have c21b0 : decide (0 < x10_2) = true := decide_eq_true c21
        clear c21
        replace H := oB_ H
        obtain ⟨⟨t366,t367⟩,A220,H⟩ := H
        replace H : ((K_Showing.f k2 t367 t347 t366 t353).bind fun bt368 => (if x9_2.length < 8796093022208 then (L_GaugeLonger.l1 k2 l0 t347 y361 x6_1 x7_1 t353 (x9_2 ++ [(⟨t366,bt368.1⟩ : S32)]) (wrap64 (x10_2 - 1)) bt368.2) else (none))) = some r := H
        have A22 := aM_ A220
        clear A220
        replace H := oB_ H
        obtain ⟨⟨t368,t369⟩,A230,H⟩ := H
        replace H : (if x9_2.length < 8796093022208 then (L_GaugeLonger.l1 k2 l0 t347 y361 x6_1 x7_1 t353 (x9_2 ++ [(⟨t366,t368⟩ : S32)]) (wrap64 (x10_2 - 1)) t369) else (none)) = some r := H
        have A23 := aM_ A230
        clear A230
        by_cases c24 : x9_2.length < 8796093022208
        ·rw [if_pos c24] at H
         have LMc24 := aM_ c24
         clear c24
         obtain ⟨y370,hy370⟩ : ∃ y_ : List (S32),y_ = (x9_2 ++ [(⟨t366,t368⟩ : S32)]) := ⟨_,rfl⟩
         replace H : (L_GaugeLonger.l1 k2 l0 t347 y361 x6_1 x7_1 t353 y370 (wrap64 (x10_2 - 1)) t369) = some r := by first | (rw [hy370];with_reducible exact H) | (have H2_ := (Option.bind_some _ _).symm.trans H;rw [hy370];with_reducible exact H2_) | (have H2_ := (Option.bind_some _ _).symm.trans H;with_reducible exact H2_) | with_reducible exact H | (rw [hy370];exact H) | exact H
         have Ny370 := aM_ hy370
         clear hy370
         have H' := aM_ H
         clear H
         obtain ⟨Ao25,co25,eo25⟩ := Kd.R_slice HO_4.out
         subst eo25
         go_wp2_with (first | ((with_reducible refine gate_callee (f := 13) rfl ?_);refine goesL_ (some 52) rfl rfl Try.func13 (by kernel_rfl) rfl #[.pointer (some ⟨g346,0,none⟩),.int .i64 (t347.length : Int)] rfl (by (try simp only [List.map_toArray,List.map_cons,List.map_nil]);first | done | rfl) ?_;(with_reducible refine (D_Upto.calls g346 x347000_2 (t347.length : Int) t366 t367 w _ ?side1 ?side2 A22.out).mono ?_);(case side1 => repeat (first | (with_reducible first | exact HI346.out | apply IsS65.alloc | apply IsS65.drewN | apply IsS65.drew | apply IsS65.set_0) | exact HI346.out));(case side2 => repeat (first | (with_reducible first | exact HB.out | apply bA_ | apply bN_ | apply bD_ | refine bS_ ?_ (IsS65.ge HI346.out)) | exact HB.out));rintro e w26 ⟨rfl,hi,hb,hk⟩;refine ⟨_,rfl,?_⟩;have n0_ := aM_ (Kd.R_mono (Kd.R_keep (IsS65.apart (show IsS65 w _ g346 x347000_2 from by repeat (first | (with_reducible first | exact HI346.out | apply IsS65.alloc | apply IsS65.drewN | apply IsS65.drew | apply IsS65.set_0) | exact HI346.out)) (by (with_reducible repeat (first | apply Kd.R_alloc | apply Kd.R_drewN | apply Kd.R_drew));exact HO_4.out) (by decide)) hk (fun _ h => h.2)) (fun _ h => h.1));have n1_ := aM_ (Kd.R_mono (Kd.R_keep (IsS65.apart (show IsS65 w _ g346 x347000_2 from by repeat (first | (with_reducible first | exact HI346.out | apply IsS65.alloc | apply IsS65.drewN | apply IsS65.drew | apply IsS65.set_0) | exact HI346.out)) (by (with_reducible repeat (first | apply Kd.R_alloc | apply Kd.R_drewN | apply Kd.R_drew));exact HO_5.out) (by decide)) hk (fun _ h => h.2)) (fun _ h => h.1));have n2_ := aM_ (Kd.S_mono (Kd.S_keep (IsS65.apartS (show IsS65 w _ g346 x347000_2 from by repeat (first | (with_reducible first | exact HI346.out | apply IsS65.alloc | apply IsS65.drewN | apply IsS65.drew | apply IsS65.set_0) | exact HI346.out)) (by (with_reducible repeat (first | apply Kd.S_alloc | apply Kd.S_drewN | apply Kd.S_drew));exact HO_6.out) (by decide)) hk (fun _ h => h.2)) (fun _ h => h.1));have n3_ := aM_ (Kd.R_mono (Kd.R_keep (IsS65.apart (show IsS65 w _ g346 x347000_2 from by repeat (first | (with_reducible first | exact HI346.out | apply IsS65.alloc | apply IsS65.drewN | apply IsS65.drew | apply IsS65.set_0) | exact HI346.out)) (by (with_reducible repeat (first | apply Kd.R_alloc | apply Kd.R_drewN | apply Kd.R_drew));exact HO_9.out) (by decide)) hk (fun _ h => h.2)) (fun _ h => h.1));have n4_ := aM_ (hb);have n5_ := aM_ (hi);clear HO_4;clear HO_5;clear HO_6;clear HO_9;clear HB;clear HI346;have HO_4 := n0_;have HO_5 := n1_;have HO_6 := n2_;have HO_9 := n3_;have HB := n4_;have HI346 := n5_;clear n0_ n1_ n2_ n3_ n4_ n5_;(try clear hb);(try clear hb2);(try clear hk);(try clear hi)) | ((with_reducible refine gate_callee (f := 14) rfl ?_);refine goesL_ (some 59) rfl rfl Try.func14 (by kernel_rfl) rfl #[.pointer (some ⟨g346,0,none⟩),.slice Ao25 t347.length co25,.int .i64 t366,.int .i64 t353] rfl (by (try simp only [List.map_toArray,List.map_cons,List.map_nil]);first | done | rfl) ?_;(with_reducible refine (K_Showing.calls k2 g346 t367 _ _ t347 t366 t353 t368 t369 w _ ?side1 ?side2 ?side3 ?side4 A23.out).mono ?_);(case side1 => repeat (first | (with_reducible first | exact HI346.out | apply IsS65.alloc | apply IsS65.drewN | apply IsS65.drew | apply IsS65.set_0) | exact HI346.out));(case side2 => repeat (first | (with_reducible first | exact HB.out | apply bA_ | apply bN_ | apply bD_ | refine bS_ ?_ (IsS65.ge HI346.out)) | exact HB.out));(case side3 => exact Kd.C_foot_own (IsS65.apart (show IsS65 w _ g346 t367 from by repeat (first | (with_reducible first | exact HI346.out | apply IsS65.alloc | apply IsS65.drewN | apply IsS65.drew | apply IsS65.set_0) | exact HI346.out)) (by (with_reducible repeat (first | apply Kd.R_alloc | apply Kd.R_drewN | apply Kd.R_drew));exact HO_4.out) (by decide)) (fun _ h_ => h_.2));(case side4 => exact (Kd.R_reads' HO_4.out).2.1);rintro e w27 ⟨rfl,hi,hb,hk⟩;refine ⟨_,rfl,?_⟩;have n0_ := aM_ (Kd.R_mono (Kd.R_keep (IsS65.apart (show IsS65 w _ g346 t367 from by repeat (first | (with_reducible first | exact HI346.out | apply IsS65.alloc | apply IsS65.drewN | apply IsS65.drew | apply IsS65.set_0) | exact HI346.out)) (by (with_reducible repeat (first | apply Kd.R_alloc | apply Kd.R_drewN | apply Kd.R_drew));exact HO_4.out) (by decide)) hk (fun _ h => h.2)) (fun _ h => h.1));have n1_ := aM_ (Kd.R_mono (Kd.R_keep (IsS65.apart (show IsS65 w _ g346 t367 from by repeat (first | (with_reducible first | exact HI346.out | apply IsS65.alloc | apply IsS65.drewN | apply IsS65.drew | apply IsS65.set_0) | exact HI346.out)) (by (with_reducible repeat (first | apply Kd.R_alloc | apply Kd.R_drewN | apply Kd.R_drew));exact HO_5.out) (by decide)) hk (fun _ h => h.2)) (fun _ h => h.1));have n2_ := aM_ (Kd.S_mono (Kd.S_keep (IsS65.apartS (show IsS65 w _ g346 t367 from by repeat (first | (with_reducible first | exact HI346.out | apply IsS65.alloc | apply IsS65.drewN | apply IsS65.drew | apply IsS65.set_0) | exact HI346.out)) (by (with_reducible repeat (first | apply Kd.S_alloc | apply Kd.S_drewN | apply Kd.S_drew));exact HO_6.out) (by decide)) hk (fun _ h => h.2)) (fun _ h => h.1));have n3_ := aM_ (Kd.R_mono (Kd.R_keep (IsS65.apart (show IsS65 w _ g346 t367 from by repeat (first | (with_reducible first | exact HI346.out | apply IsS65.alloc | apply IsS65.drewN | apply IsS65.drew | apply IsS65.set_0) | exact HI346.out)) (by (with_reducible repeat (first | apply Kd.R_alloc | apply Kd.R_drewN | apply Kd.R_drew));exact HO_9.out) (by decide)) hk (fun _ h => h.2)) (fun _ h => h.1));have n4_ := aM_ (hb);have n5_ := aM_ (hi);clear HO_4;clear HO_5;clear HO_6;clear HO_9;clear HB;clear HI346;have HO_4 := n0_;have HO_5 := n1_;have HO_6 := n2_;have HO_9 := n3_;have HB := n4_;have HI346 := n5_;clear n0_ n1_ n2_ n3_ n4_ n5_;(try clear hb);(try clear hb2);(try clear hk);(try clear hi)) | ((with_reducible refine gate_builtin (b := .append) (xs := #[.tmp 53,.tmp 61]) rfl ?_);at_builtin;refine Kd.R_append k32 (w0 := w) w.heap.size rfl (.tmp 53) (.tmp 61) 28 32 (.agg #[(.int .i64 0),(.int .i64 0)]) 16 rfl Try.underlying28 info32 rfl (by decide) (by omega) u9 x9_2 (⟨t366,t368⟩ : S32) [.int .i64 t366,.int .i64 t368] (fun _ => True) (fun _ => False) rfl rfl ?aP (fun _ hk => hk.elim) ?aF ?aO ?aB ?aS ?aL ?_;(case aP => exact k32_mkM _ _ _ (⟨t366,t368⟩ : S32));(case aB => exact (by repeat (first | (with_reducible first | exact HB.out | apply bA_ | apply bN_ | apply bD_ | refine bS_ ?_ (IsS65.ge HI346.out)) | exact HB.out)));(case aF => exact (fun _ _ => trivial));(case aO => exact (by (with_reducible repeat (first | apply Kd.R_alloc | apply Kd.R_drewN | apply Kd.R_drew));exact HO_9.out));(case aS => exact (below_size (by repeat (first | (with_reducible first | exact HB.out | apply bA_ | apply bN_ | apply bD_ | refine bS_ ?_ (IsS65.ge HI346.out)) | exact HB.out))));(case aL => have := LMc24.out;omega);intro v371 w28 ho hb hg hat;rw [← Ny370.out] at ho;have n0_ := aM_ (Kd.R_over' (by (with_reducible repeat (first | apply Kd.R_alloc | apply Kd.R_drewN | apply Kd.R_drew));exact HO_4.out) (Kd.R_typed (by (with_reducible repeat (first | apply Kd.R_alloc | apply Kd.R_drewN | apply Kd.R_drew));exact HO_9.out)) (by decide) hg);have n1_ := aM_ (Kd.R_over' (by (with_reducible repeat (first | apply Kd.R_alloc | apply Kd.R_drewN | apply Kd.R_drew));exact HO_5.out) (Kd.R_typed (by (with_reducible repeat (first | apply Kd.R_alloc | apply Kd.R_drewN | apply Kd.R_drew));exact HO_9.out)) (by decide) hg);have n2_ := aM_ (Kd.S_after (ok := (fun _ => True)) (by (with_reducible repeat (first | apply Kd.S_alloc | apply Kd.S_drewN | apply Kd.S_drew));exact Kd.S_mono HO_6.out (fun _ hk => ⟨trivial,hk⟩)) hg hat);have n3_ := aM_ (IsS65.grown (by repeat (first | (with_reducible first | exact HI346.out | apply IsS65.alloc | apply IsS65.drewN | apply IsS65.drew | apply IsS65.set_0) | exact HI346.out)) hg (IsS65.own_ne HI346.out HO_9.out (by decide)));have n4_ := aM_ (hb);have n5_ := aM_ (ho);clear HO_4;clear HO_5;clear HO_6;clear HI346;clear HB;clear HO_9;have HO_4 := n0_;have HO_5 := n1_;have HO_6 := n2_;have HI346 := n3_;have HB := n4_;have HO372 := n5_;clear n0_ n1_ n2_ n3_ n4_ n5_;clear ho hb hg hat))
         go_roundg k2
         case measure => have := HK1.out;have := HK2.out;omega
         case rel => exact ⟨(y370),(wrap64 (x10_2 - 1)),(t369),(by first | rfl | (simp;done) | (simp [*];done)),H',⟨by have := HK1.out;have := HK2.out;omega⟩,⟨by (with_reducible repeat (first | apply Kd.R_alloc | apply Kd.R_drewN | apply Kd.R_drew));exact HO_4.out⟩,⟨by (with_reducible repeat (first | apply Kd.R_alloc | apply Kd.R_drewN | apply Kd.R_drew));exact HO_5.out⟩,⟨by (with_reducible repeat (first | apply Kd.S_alloc | apply Kd.S_drewN | apply Kd.S_drew));exact Kd.S_mono HO_6.out (fun _ hk => hk.2)⟩,⟨by (with_reducible repeat (first | apply Kd.R_alloc | apply Kd.R_drewN | apply Kd.R_drew));exact HO372.out⟩,⟨by repeat (first | (with_reducible first | exact HI346.out | apply IsS65.alloc | apply IsS65.drewN | apply IsS65.drew | apply IsS65.set_0) | exact HI346.out)⟩,⟨by repeat (first | (with_reducible first | exact HB.out | apply bA_ | apply bN_ | apply bD_ | refine bS_ ?_ (IsS65.ge HI346.out)) | exact HB.out)⟩⟩
        ·rw [if_neg c24] at H
         exact absurd H (by simp)
       ·rw [if_neg c21] at H
        have c21b0 : decide (0 < x10_2) = false := decide_eq_false c21
        clear c21
        by_cases c29 : x6_1.length < 5864062014805
        ·rw [if_pos c29] at H
         have LMc29 := aM_ c29
         clear c29
         obtain ⟨y373,hy373⟩ : ∃ y_ : List (List (S32)),y_ = (x6_1 ++ [x9_2]) := ⟨_,rfl⟩
         replace H : (L_GaugeLonger.l0 k2 l0 t347 y361 y373 (wrap64 (x7_1 - 1)) x347000_2) = some r := by first | (rw [hy373];with_reducible exact H) | (have H2_ := (Option.bind_some _ _).symm.trans H;rw [hy373];with_reducible exact H2_) | (have H2_ := (Option.bind_some _ _).symm.trans H;with_reducible exact H2_) | with_reducible exact H | (rw [hy373];exact H) | exact H
         have Ny373 := aM_ hy373
         clear hy373
         have H' := aM_ H
         clear H
         obtain ⟨Ao31,co31,eo31⟩ := Kd.R_slice HO_9.out
         subst eo31
         go_wp2_with (first | ((with_reducible refine gate_builtin (b := .append) (xs := #[.tmp 63,.tmp 65]) rfl ?_);at_builtin;refine Kd.S_append (Kd.slice 32 k32) (w0 := w) w.heap.size rfl (.tmp 63) (.tmp 65) 51 28 (.slice none 0 0) 24 rfl Try.underlying51 info28 rfl (by decide) (by omega) u6 x6_1 x9_2 [.slice Ao31 x9_2.length co31] (fun _ => True) (fun k_ => some k_ = (.slice Ao31 x9_2.length co31 : Value).ownBlock) rfl rfl ?aP (fun k_ hk_ => ((Kd.R_mono (ok' := fun k_ => ((fun _ => True)) k_ ∧ some k_ ≠ (u6 : Value).ownBlock) (Kd.R_apart' (HO_9.out) (Kd.S_typed HO_6.out) (by decide)) (fun k_ hk => ⟨trivial,hk.2⟩))).1 k_ hk_.symm) ?aF ?aO ?aB ?aS ?aL ?_;(case aP => exact Kd.M_row (Kd.R_mono (Kd.R_tight rfl (Kd.R_mono (ok' := fun k_ => ((fun _ => True)) k_ ∧ some k_ ≠ (u6 : Value).ownBlock) (Kd.R_apart' (HO_9.out) (Kd.S_typed HO_6.out) (by decide)) (fun k_ hk => ⟨trivial,hk.2⟩))) (fun _ h_ => h_)));(case aB => exact (by repeat (first | (with_reducible first | exact HB.out | apply bA_ | apply bN_ | apply bD_ | refine bS_ ?_ (IsS65.ge HI346.out)) | exact HB.out)));(case aF => exact (fun _ _ => trivial));(case aO => exact (by (with_reducible repeat (first | apply Kd.S_alloc | apply Kd.S_drewN | apply Kd.S_drew));exact Kd.S_mono HO_6.out (fun k_ hk => ⟨trivial,fun e_ => hk e_⟩)));(case aS => exact (below_size (by repeat (first | (with_reducible first | exact HB.out | apply bA_ | apply bN_ | apply bD_ | refine bS_ ?_ (IsS65.ge HI346.out)) | exact HB.out))));(case aL => have := LMc29.out;omega);intro v374 w30 ho hb hg hat;rw [← Ny373.out] at ho;have n0_ := aM_ (Kd.R_over' (by (with_reducible repeat (first | apply Kd.R_alloc | apply Kd.R_drewN | apply Kd.R_drew));exact HO_4.out) (Kd.S_typed (by (with_reducible repeat (first | apply Kd.S_alloc | apply Kd.S_drewN | apply Kd.S_drew));exact HO_6.out)) (by decide) hg);have n1_ := aM_ (Kd.R_over' (by (with_reducible repeat (first | apply Kd.R_alloc | apply Kd.R_drewN | apply Kd.R_drew));exact HO_5.out) (Kd.S_typed (by (with_reducible repeat (first | apply Kd.S_alloc | apply Kd.S_drewN | apply Kd.S_drew));exact HO_6.out)) (by decide) hg);have n2_ := aM_ (IsS65.grown (by repeat (first | (with_reducible first | exact HI346.out | apply IsS65.alloc | apply IsS65.drewN | apply IsS65.drew | apply IsS65.set_0) | exact HI346.out)) hg (IsS65.own_neS HI346.out HO_6.out (by decide)));have n3_ := aM_ (hb);have n4_ := aM_ (ho);clear HO_4;clear HO_5;clear HI346;clear HB;clear HO_6;clear HO_9;have HO_4 := n0_;have HO_5 := n1_;have HI346 := n2_;have HB := n3_;have HO375 := n4_;clear n0_ n1_ n2_ n3_ n4_;clear ho hb hg hat))
         go_roundg k2
         case measure => have := HK1.out;have := HK2.out;omega
         case rel => exact ⟨(y361),(y373),(wrap64 (x7_1 - 1)),(x347000_2),(by first | rfl | (simp;done) | (simp [*];done)),H',⟨by have := HK1.out;have := HK2.out;omega⟩,⟨by (with_reducible repeat (first | apply Kd.R_alloc | apply Kd.R_drewN | apply Kd.R_drew));exact HO_4.out⟩,⟨by (with_reducible repeat (first | apply Kd.R_alloc | apply Kd.R_drewN | apply Kd.R_drew));exact HO_5.out⟩,⟨by (with_reducible repeat (first | apply Kd.S_alloc | apply Kd.S_drewN | apply Kd.S_drew));exact HO375.out⟩,⟨by repeat (first | (with_reducible first | exact HI346.out | apply IsS65.alloc | apply IsS65.drewN | apply IsS65.drew | apply IsS65.set_0) | exact HI346.out)⟩,⟨by repeat (first | (with_reducible first | exact HB.out | apply bA_ | apply bN_ | apply bD_ | refine bS_ ?_ (IsS65.ge HI346.out)) | exact HB.out)⟩⟩
        ·rw [if_neg c29] at H
         exact absurd H (by simp)
    ·rw [if_neg c13] at H
     exact absurd H (by simp)
   ·rw [if_neg c8] at H
    have c8b0 : decide (0 < x7_1) = false := decide_eq_false c8
    clear c8
    obtain ⟨ji32,hji32⟩ : ∃ j_ : Int,(wrap64 ((x6_1.length : Int) - 1)) = j_ := ⟨_,rfl⟩
    replace H : (if 0 ≤ (ji32) then (if (ji32) ≤ (x5_1.length : Int) then (if (ji32) ≤ (x6_1.length : Int) then ((gauge_Sheet.f k1 t347 0 (x5_1.take ((ji32) : Int).toNat) (x6_1.take ((ji32) : Int).toNat)).bind fun bt384 => ((gauge_Sheet.f k1 t347 0 x5_1 x6_1).bind fun bt387 => (if bt384.2.2 = 0 then (if bt387.2.2 = 0 then (if ((bt384.1 == 1) != (bt384.2.1 == (-1))) = true then (L_GaugeLonger.j2 k1 l0 bt384.1 bt384.2.1 bt387.1 bt387.2.1 true) else (if ((bt387.1 == 1) != (bt387.2.1 == (-1))) = true then (L_GaugeLonger.j2 k1 l0 bt384.1 bt384.2.1 bt387.1 bt387.2.1 true) else (if bt384.2.1 ≥ (ji32) then (L_GaugeLonger.j2 k1 l0 bt384.1 bt384.2.1 bt387.1 bt387.2.1 true) else (L_GaugeLonger.j2 k1 l0 bt384.1 bt384.2.1 bt387.1 bt387.2.1 (decide (bt387.2.1 > (ji32))))))) else (L_GaugeLonger.j2 k1 l0 bt384.1 bt384.2.1 bt387.1 bt387.2.1 true)) else (L_GaugeLonger.j2 k1 l0 bt384.1 bt384.2.1 bt387.1 bt387.2.1 true)))) else (none)) else (none)) else (none)) = some r := by first | (rw [hji32] at H;exact H) | (simp only [hji32] at H ⊢;exact H)
    have hji32w : (IntKind.i64.wrap ((x6_1.length : Int) - 1)) = ji32 := (i64_w _).trans hji32
    by_cases c33 : 0 ≤ (ji32)
    ·rw [if_pos c33] at H
     have c33b0 := eq_true c33
     have c33b1 : decide (0 ≤ (ji32)) = true := decide_eq_true c33
     clear c33
     by_cases c34 : (ji32) ≤ (x5_1.length : Int)
     ·rw [if_pos c34] at H
      have c34b0 := eq_true c34
      have c34b1 : decide ((ji32) ≤ (x5_1.length : Int)) = true := decide_eq_true c34
      clear c34
      obtain ⟨y376,hy376⟩ : ∃ y_ : List (S34),y_ = (x5_1.take ((ji32) : Int).toNat) := ⟨_,rfl⟩
      replace H : (if (ji32) ≤ (x6_1.length : Int) then ((gauge_Sheet.f k1 t347 0 y376 (x6_1.take ((ji32) : Int).toNat)).bind fun bt384 => ((gauge_Sheet.f k1 t347 0 x5_1 x6_1).bind fun bt387 => (if bt384.2.2 = 0 then (if bt387.2.2 = 0 then (if ((bt384.1 == 1) != (bt384.2.1 == (-1))) = true then (L_GaugeLonger.j2 k1 l0 bt384.1 bt384.2.1 bt387.1 bt387.2.1 true) else (if ((bt387.1 == 1) != (bt387.2.1 == (-1))) = true then (L_GaugeLonger.j2 k1 l0 bt384.1 bt384.2.1 bt387.1 bt387.2.1 true) else (if bt384.2.1 ≥ (ji32) then (L_GaugeLonger.j2 k1 l0 bt384.1 bt384.2.1 bt387.1 bt387.2.1 true) else (L_GaugeLonger.j2 k1 l0 bt384.1 bt384.2.1 bt387.1 bt387.2.1 (decide (bt387.2.1 > (ji32))))))) else (L_GaugeLonger.j2 k1 l0 bt384.1 bt384.2.1 bt387.1 bt387.2.1 true)) else (L_GaugeLonger.j2 k1 l0 bt384.1 bt384.2.1 bt387.1 bt387.2.1 true)))) else (none)) = some r := by first | (rw [hy376];with_reducible exact H) | (have H2_ := (Option.bind_some _ _).symm.trans H;rw [hy376];with_reducible exact H2_) | (have H2_ := (Option.bind_some _ _).symm.trans H;with_reducible exact H2_) | with_reducible exact H | (rw [hy376];exact H) | exact H
      have Ny376 := aM_ hy376
      clear hy376
      have c35b0 := eq_true (of_decide_eq_true (by first | (with_reducible assumption) | assumption) : 0 ≤ (ji32))
      by_cases c36 : (ji32) ≤ (x6_1.length : Int)
      ·rw [if_pos c36] at H
       have c36b0 := eq_true c36
       have c36b1 : decide ((ji32) ≤ (x6_1.length : Int)) = true := decide_eq_true c36
       clear c36
       obtain ⟨y380,hy380⟩ : ∃ y_ : List (List (S32)),y_ = (x6_1.take ((ji32) : Int).toNat) := ⟨_,rfl⟩
       replace H : ((gauge_Sheet.f k1 t347 0 y376 y380).bind fun bt384 => ((gauge_Sheet.f k1 t347 0 x5_1 x6_1).bind fun bt387 => (if bt384.2.2 = 0 then (if bt387.2.2 = 0 then (if ((bt384.1 == 1) != (bt384.2.1 == (-1))) = true then (L_GaugeLonger.j2 k1 l0 bt384.1 bt384.2.1 bt387.1 bt387.2.1 true) else (if ((bt387.1 == 1) != (bt387.2.1 == (-1))) = true then (L_GaugeLonger.j2 k1 l0 bt384.1 bt384.2.1 bt387.1 bt387.2.1 true) else (if bt384.2.1 ≥ (ji32) then (L_GaugeLonger.j2 k1 l0 bt384.1 bt384.2.1 bt387.1 bt387.2.1 true) else (L_GaugeLonger.j2 k1 l0 bt384.1 bt384.2.1 bt387.1 bt387.2.1 (decide (bt387.2.1 > (ji32))))))) else (L_GaugeLonger.j2 k1 l0 bt384.1 bt384.2.1 bt387.1 bt387.2.1 true)) else (L_GaugeLonger.j2 k1 l0 bt384.1 bt384.2.1 bt387.1 bt387.2.1 true)))) = some r := by first | (rw [hy380];with_reducible exact H) | (have H2_ := (Option.bind_some _ _).symm.trans H;rw [hy380];with_reducible exact H2_) | (have H2_ := (Option.bind_some _ _).symm.trans H;with_reducible exact H2_) | with_reducible exact H | (rw [hy380];exact H) | exact H
       have Ny380 := aM_ hy380
       clear hy380
       replace H := oB_ H
       obtain ⟨⟨t384,t385,t386⟩,A370,H⟩ := H
       replace H : ((gauge_Sheet.f k1 t347 0 x5_1 x6_1).bind fun bt387 => (if t386 = 0 then (if bt387.2.2 = 0 then (if ((t384 == 1) != (t385 == (-1))) = true then (L_GaugeLonger.j2 k1 l0 t384 t385 bt387.1 bt387.2.1 true) else (if ((bt387.1 == 1) != (bt387.2.1 == (-1))) = true then (L_GaugeLonger.j2 k1 l0 t384 t385 bt387.1 bt387.2.1 true) else (if t385 ≥ (ji32) then (L_GaugeLonger.j2 k1 l0 t384 t385 bt387.1 bt387.2.1 true) else (L_GaugeLonger.j2 k1 l0 t384 t385 bt387.1 bt387.2.1 (decide (bt387.2.1 > (ji32))))))) else (L_GaugeLonger.j2 k1 l0 t384 t385 bt387.1 bt387.2.1 true)) else (L_GaugeLonger.j2 k1 l0 t384 t385 bt387.1 bt387.2.1 true))) = some r := H
       have A37 := aM_ A370
       clear A370
       replace H := oB_ H
       obtain ⟨⟨t387,t388,t389⟩,A380,H⟩ := H
       replace H : (if t386 = 0 then (if t389 = 0 then (if ((t384 == 1) != (t385 == (-1))) = true then (L_GaugeLonger.j2 k1 l0 t384 t385 t387 t388 true) else (if ((t387 == 1) != (t388 == (-1))) = true then (L_GaugeLonger.j2 k1 l0 t384 t385 t387 t388 true) else (if t385 ≥ (ji32) then (L_GaugeLonger.j2 k1 l0 t384 t385 t387 t388 true) else (L_GaugeLonger.j2 k1 l0 t384 t385 t387 t388 (decide (t388 > (ji32))))))) else (L_GaugeLonger.j2 k1 l0 t384 t385 t387 t388 true)) else (L_GaugeLonger.j2 k1 l0 t384 t385 t387 t388 true)) = some r := H
       have A38 := aM_ A380
       clear A380
       have HC39 := aM_ H
       clear H
       obtain ⟨Ao40,co40,eo40⟩ := Kd.S_slice HO_6.out
       subst eo40
       try go_wp2
       have n0_ := aM_ (Kd.R_drew HO_4.out)
       have n1_ := aM_ (Kd.R_drew HO_5.out)
       have n2_ := aM_ (Kd.S_drew HO_6.out)
       have n3_ := aM_ (IsS65.drew HI346.out)
       have n4_ := aM_ (bD_ HB.out)
       clear HO_4
       clear HO_5
       clear HO_6
       clear HI346
       clear HB
       have HO_4 := n0_
       have HO_5 := n1_
       have HO_6 := n2_
       have HI346 := n3_
       have HB := n4_
       clear n0_ n1_ n2_ n3_ n4_
       obtain ⟨Ao43,co43,eo43⟩ := Kd.R_slice HO_5.out
       (first | subst eo43 | (injection eo43 with f1_ f2_ f3_;have f4_ := f1_.symm;have f5_ := f3_.symm;clear f1_ f2_ f3_;subst f4_;subst f5_))
       have q42 : ((ji32) : Int) ≤ ((x5_1.length : Int) : Int) := of_decide_eq_true (by first | (with_reducible assumption) | assumption)
       obtain ⟨i042,hi042,_,hsz42,_⟩ := info_parts info34
       have hroom42 : x5_1.length ≤ co43 := (Kd.R_reads' HO_5.out).2.1
       have hC42 : Kd.C k34 _ Ao43 x5_1.length x5_1 := (Kd.R_reads' HO_5.out).2.2
       have hcut42 := cut_to (P := Try.prog) 44 34 .i64 Try.underlying44 hi042 Ao43 x5_1.length co43 (ji32) (of_decide_eq_true (by first | (with_reducible assumption) | assumption)) q42 hroom42
       have hr42 := Kd.C_take (m := ((ji32) : Int).toNat) hC42 (by omega)
       have hy42 : y376.length = ((ji32) : Int).toNat := (by rw [Ny376.out,List.length_take];omega)
       rw [← Ny376.out] at hr42
       rw [← hy42] at hcut42
       have HR379 := aM_ hr42
       have HC379 := aM_ (show y376.length ≤ co43 from by omega)
       clear hr42 hC42 hroom42 hi042 hsz42
       have KY42 := aM_ hy42
       clear hy42
       have KL42 := aM_ (show ((ji32) : Int).toNat ≤ x5_1.length from by omega)
       replace q42 := eq_true q42
       have q44 : ((ji32) : Int) ≤ ((x6_1.length : Int) : Int) := of_decide_eq_true (by first | (with_reducible assumption) | assumption)
       obtain ⟨i044,hi044,_,hsz44,_⟩ := info_parts info28
       have hroom44 : x6_1.length ≤ co40 := (Kd.S_reads' HO_6.out).2.1
       have hC44 : Kd.C (Kd.slice 32 k32) _ Ao40 x6_1.length x6_1 := (Kd.S_reads' HO_6.out).2.2
       have hcut44 := cut_to (P := Try.prog) 51 28 .i64 Try.underlying51 hi044 Ao40 x6_1.length co40 (ji32) (of_decide_eq_true (by first | (with_reducible assumption) | assumption)) q44 hroom44
       have hr44 := Kd.C_take (m := ((ji32) : Int).toNat) hC44 (by omega)
       have hy44 : y380.length = ((ji32) : Int).toNat := (by rw [Ny380.out,List.length_take];omega)
       rw [← Ny380.out] at hr44
       rw [← hy44] at hcut44
       have HR383 := aM_ hr44
       have HC383 := aM_ (show y380.length ≤ co40 from by omega)
       clear hr44 hC44 hroom44 hi044 hsz44
       have KY44 := aM_ hy44
       clear hy44
       have KL44 := aM_ (show ((ji32) : Int).toNat ≤ x6_1.length from by omega)
       replace q44 := eq_true q44
       obtain ⟨Ao45,co45,eo45⟩ := Kd.R_slice HO_4.out
       (first | subst eo45 | (injection eo45 with f1_ f2_ f3_;have f4_ := f1_.symm;have f5_ := f3_.symm;clear f1_ f2_ f3_;subst f4_;subst f5_))
       refine start_ (n := 15) (S := fun w' => True) (ds := []) #[false,false,false,false,false,false,false,false,false,false,false,false,false,false,false] (by kernel_rfl) rfl rfl trivial (fun hHeld => ?_);refine with_tabW L_GaugeLonger.tab18 L_GaugeLonger.bits18 (fun HT_ HW_ => ?_)
       generalize wr.drew = w41 at HO_4 HO_5 HO_6 HI346 HB HR379 HR383 hHeld ⊢
       refine pure_ (i := 0) (N := some 71) (v := ?_) (a' := ?_) #[true,false,false,false,false,false,false,false,false,false,false,false,false,false,false] rfl rfl (any_of HT_.out (by kernel_rfl)) (fun _ _ _ h => h) (Or.inl ⟨by rfl,?_⟩) ?_ ?_
       rotate_left
       ·intro w'
        go_simp
        with_reducible rfl
       rotate_left
       ·simp only [Act.put,sB_,sZ_,sS_,i64_w,i32_w]
        rfl
       refine pure_ (i := 1) (N := some 72) (v := ?_) (a' := ?_) #[true,true,false,false,false,false,false,false,false,false,false,false,false,false,false] rfl rfl (any_of HT_.out (by kernel_rfl)) (fun _ _ _ h => h) (Or.inl ⟨by rfl,?_⟩) ?_ ?_
       rotate_left
       ·intro w'
        go_simp
        with_reducible rfl
       rotate_left
       ·simp only [Act.put,sB_,sZ_,sS_,i64_w,i32_w]
        rfl
       refine pure_ (i := 2) (N := some 73) (v := ?_) (a' := ?_) #[true,true,true,false,false,false,false,false,false,false,false,false,false,false,false] rfl rfl (any_of HT_.out (by kernel_rfl)) (fun _ _ _ h => h) (Or.inl ⟨by rfl,?_⟩) ?_ ?_
       rotate_left
       ·intro w'
        go_simp
        with_reducible rfl
       rotate_left
       ·simp only [Act.put,sB_,sZ_,sS_,i64_w,i32_w]
        rfl
       refine pure_ (i := 3) (N := some 74) (v := ?_) (a' := ?_) #[true,true,true,true,false,false,false,false,false,false,false,false,false,false,false] rfl rfl (any_of HT_.out (by kernel_rfl)) (fun _ _ _ h => h) (Or.inl ⟨by rfl,?_⟩) ?_ ?_
       rotate_left
       ·intro w'
        go_simp
        with_reducible rfl
       rotate_left
       ·simp only [Act.put,sB_,sZ_,sS_,i64_w,i32_w]
        rfl
       refine pure_ (i := 4) (N := some 75) (v := ?_) (a' := ?_) #[true,true,true,true,true,false,false,false,false,false,false,false,false,false,false] rfl rfl (any_of HT_.out (by kernel_rfl)) (fun _ _ _ h => h) (Or.inl ⟨by rfl,?_⟩) ?_ ?_
       rotate_left
       ·intro w'
        go_simp
        with_reducible rfl
       rotate_left
       ·simp only [Act.put,sB_,sZ_,sS_,i64_w,i32_w]
        rfl
       refine pure_ (i := 5) (N := some 76) (v := ?_) (a' := ?_) #[true,true,true,true,true,true,false,false,false,false,false,false,false,false,false] rfl rfl (any_of HT_.out (by kernel_rfl)) (fun _ _ _ h => h) (Or.inl ⟨by rfl,?_⟩) ?_ ?_
       rotate_left
       ·intro w'
        go_simp
        with_reducible rfl
       rotate_left
       ·simp only [Act.put,sB_,sZ_,sS_,i64_w,i32_w]
        rfl
       refine pure_ (i := 6) (N := some 77) (v := ?_) (a' := ?_) #[true,true,true,true,true,true,true,false,false,false,false,false,false,false,false] rfl rfl (any_of HT_.out (by kernel_rfl)) (fun _ _ _ h => h) (Or.inl ⟨by rfl,?_⟩) ?_ ?_
       rotate_left
       ·intro w'
        go_simp
        with_reducible rfl
       rotate_left
       ·simp only [Act.put,sB_,sZ_,sS_,i64_w,i32_w]
        rfl
       refine one_ (i := 7) (N := some 78) #[true,true,true,true,true,true,true,true,false,false,false,false,false,false,false] rfl rfl (one_of HT_.out (by kernel_rfl)) (by decide) (fun K hK => ?_)
       refine goes_ Try.func27 (by kernel_rfl) rfl #[.slice Ao45 t347.length co45,.int .i64 0,.slice Ao43 y376.length co43,.slice Ao40 y380.length co40] (by rfl) rfl rfl (by (try simp only [List.map_toArray,List.map_cons,List.map_nil]);first | done | rfl) ?_
       with_reducible refine (gauge_Sheet.calls k1 _ _ t347 0 _ _ y376 _ _ y380 t384 t385 t386 _ ?side1 ?side2 ?side3 ?side4 ?side5 ?side6 A37.out).mono ?_
       (case side1 => repeat (first | exact (Kd.R_reads' HO_4.out).2.2 | (with_reducible refine Kd.C_alloc ?_ _) | (with_reducible refine Kd.C_drewN ?_ _) | (with_reducible refine Kd.C_drew ?_)))
       (case side2 => exact (Kd.R_reads' HO_4.out).2.1)
       (case side3 => repeat (first | exact (by repeat (first | (with_reducible exact HR379.out) | (with_reducible refine Kd.C_alloc ?_ _) | (with_reducible refine Kd.C_drewN ?_ _) | (with_reducible refine Kd.C_drew ?_) | exact HR379.out)) | (with_reducible refine Kd.C_alloc ?_ _) | (with_reducible refine Kd.C_drewN ?_ _) | (with_reducible refine Kd.C_drew ?_)))
       (case side4 => exact HC379.out)
       (case side5 => repeat (first | exact (by repeat (first | (with_reducible exact HR383.out) | (with_reducible refine Kd.C_alloc ?_ _) | (with_reducible refine Kd.C_drewN ?_ _) | (with_reducible refine Kd.C_drew ?_) | exact HR383.out)) | (with_reducible refine Kd.C_alloc ?_ _) | (with_reducible refine Kd.C_drewN ?_ _) | (with_reducible refine Kd.C_drew ?_)))
       (case side6 => exact HC383.out)
       rintro e w46 ⟨rfl,hb⟩
       refine ⟨_,rfl,?_⟩
       have n0_ := aM_ (Kd.R_below (by (with_reducible repeat (first | apply Kd.R_alloc | apply Kd.R_drewN | apply Kd.R_drew));exact HO_4.out) hb)
       have n1_ := aM_ (Kd.R_below (by (with_reducible repeat (first | apply Kd.R_alloc | apply Kd.R_drewN | apply Kd.R_drew));exact HO_5.out) hb)
       have n2_ := aM_ (Kd.S_below (by (with_reducible repeat (first | apply Kd.S_alloc | apply Kd.S_drewN | apply Kd.S_drew));exact HO_6.out) hb)
       have n3_ := aM_ (IsS65.below (by repeat (first | (with_reducible first | exact HI346.out | apply IsS65.alloc | apply IsS65.drewN | apply IsS65.drew | apply IsS65.set_0) | exact HI346.out)) hb)
       have n4_ := aM_ (Kd.C_below (by repeat (first | (with_reducible exact HR379.out) | (with_reducible refine Kd.C_alloc ?_ _) | (with_reducible refine Kd.C_drewN ?_ _) | (with_reducible refine Kd.C_drew ?_) | exact HR379.out)) hb)
       have n5_ := aM_ (Kd.C_below (by repeat (first | (with_reducible exact HR383.out) | (with_reducible refine Kd.C_alloc ?_ _) | (with_reducible refine Kd.C_drewN ?_ _) | (with_reducible refine Kd.C_drew ?_) | exact HR383.out)) hb)
       have n6_ := aM_ (bT_ (by repeat (first | (with_reducible first | exact HB.out | apply bA_ | apply bN_ | apply bD_ | refine bS_ ?_ (IsS65.ge HI346.out)) | exact HB.out)) hb)
       clear HO_4
       clear HO_5
       clear HO_6
       clear HI346
       clear HR379
       clear HR383
       clear HB
       have HO_4 := n0_
       have HO_5 := n1_
       have HO_6 := n2_
       have HI346 := n3_
       have HR379 := n4_
       have HR383 := n5_
       have HB := n6_
       clear n0_ n1_ n2_ n3_ n4_ n5_ n6_
       (try clear hb)
       (try clear hb2)
       (try clear hk)
       (try clear hi)
       refine hK.out _ _ trivial (fun hHeld => ?_)
       clear hK K
       refine norm_ (a' := ?_) ?_ ?_
       rotate_left
       ·show Act.put _ (some 78) _ = _
        simp only [Act.put,sB_,sZ_,sS_,i64_w,i32_w]
        rfl
       refine pure_ (i := 8) (N := some 70) (v := ?_) (a' := ?_) #[true,true,true,true,true,true,true,true,true,false,false,false,false,false,false] rfl rfl (any_of HT_.out (by kernel_rfl)) (fun _ _ _ h => h) (Or.inl ⟨by rfl,?_⟩) ?_ ?_
       rotate_left
       ·intro w'
        go_simp
        with_reducible rfl
       rotate_left
       ·simp only [Act.put,sB_,sZ_,sS_,i64_w,i32_w]
        rfl
       refine pure_ (i := 9) (N := some 79) (v := ?_) (a' := ?_) #[true,true,true,true,true,true,true,true,true,true,false,false,false,false,false] rfl rfl (any_of HT_.out (by kernel_rfl)) (fun _ _ _ h => h) (Or.inl ⟨by rfl,?_⟩) ?_ ?_
       rotate_left
       ·intro w'
        go_simp
        with_reducible rfl
       rotate_left
       ·simp only [Act.put,sB_,sZ_,sS_,i64_w,i32_w]
        rfl
       refine pure_ (i := 10) (N := some 80) (v := ?_) (a' := ?_) #[true,true,true,true,true,true,true,true,true,true,true,false,false,false,false] rfl rfl (any_of HT_.out (by kernel_rfl)) (fun _ _ _ h => h) (Or.inl ⟨by rfl,?_⟩) ?_ ?_
       rotate_left
       ·intro w'
        go_simp
        with_reducible rfl
       rotate_left
       ·simp only [Act.put,sB_,sZ_,sS_,i64_w,i32_w]
        rfl
       refine pure_ (i := 11) (N := some 81) (v := ?_) (a' := ?_) #[true,true,true,true,true,true,true,true,true,true,true,true,false,false,false] rfl rfl (any_of HT_.out (by kernel_rfl)) (fun _ _ _ h => h) (Or.inl ⟨by rfl,?_⟩) ?_ ?_
       rotate_left
       ·intro w'
        go_simp
        with_reducible rfl
       rotate_left
       ·simp only [Act.put,sB_,sZ_,sS_,i64_w,i32_w]
        rfl
       refine pure_ (i := 12) (N := some 13) (v := ?_) (a' := ?_) #[true,true,true,true,true,true,true,true,true,true,true,true,true,false,false] rfl rfl (any_of HT_.out (by kernel_rfl)) (fun _ _ _ h => h) (Or.inl ⟨by rfl,?_⟩) ?_ ?_
       rotate_left
       ·intro w'
        go_simp
        with_reducible rfl
       rotate_left
       ·simp only [Act.put,sB_,sZ_,sS_,i64_w,i32_w]
        rfl
       refine pure_ (i := 13) (N := some 14) (v := ?_) (a' := ?_) #[true,true,true,true,true,true,true,true,true,true,true,true,true,true,false] rfl rfl (any_of HT_.out (by kernel_rfl)) (fun _ _ _ h => h) (Or.inl ⟨by rfl,?_⟩) ?_ ?_
       rotate_left
       ·intro w'
        go_simp
        with_reducible rfl
       rotate_left
       ·simp only [Act.put,sB_,sZ_,sS_,i64_w,i32_w]
        rfl
       refine pure_ (i := 14) (N := some 15) (v := ?_) (a' := ?_) #[true,true,true,true,true,true,true,true,true,true,true,true,true,true,true] rfl rfl (any_of HT_.out (by kernel_rfl)) (fun _ _ _ h => h) (Or.inl ⟨by rfl,?_⟩) ?_ ?_
       rotate_left
       ·intro w'
        go_simp
        with_reducible rfl
       rotate_left
       ·simp only [Act.put,sB_,sZ_,sS_,i64_w,i32_w]
        rfl
       refine done_ (done_of HT_.out (by kernel_rfl)) ?_
       go_upto_region 20 with (first | ((with_reducible refine gate_callee (f := 27) rfl ?_);refine goesL_ (some 86) rfl rfl Try.func27 (by kernel_rfl) rfl #[.slice Ao45 t347.length co45,.int .i64 0,.slice Ao43 x5_1.length co43,.slice Ao40 x6_1.length co40] rfl (by (try simp only [List.map_toArray,List.map_cons,List.map_nil]);first | done | rfl) ?_;(with_reducible refine (gauge_Sheet.calls k1 _ _ t347 0 _ _ x5_1 _ _ x6_1 t387 t388 t389 _ ?side1 ?side2 ?side3 ?side4 ?side5 ?side6 A38.out).mono ?_);(case side1 => repeat (first | exact (Kd.R_reads' HO_4.out).2.2 | (with_reducible refine Kd.C_alloc ?_ _) | (with_reducible refine Kd.C_drewN ?_ _) | (with_reducible refine Kd.C_drew ?_)));(case side2 => exact (Kd.R_reads' HO_4.out).2.1);(case side3 => repeat (first | exact (Kd.R_reads' HO_5.out).2.2 | (with_reducible refine Kd.C_alloc ?_ _) | (with_reducible refine Kd.C_drewN ?_ _) | (with_reducible refine Kd.C_drew ?_)));(case side4 => exact (Kd.R_reads' HO_5.out).2.1);(case side5 => repeat (first | exact (Kd.S_reads' HO_6.out).2.2 | (with_reducible refine Kd.C_alloc ?_ _) | (with_reducible refine Kd.C_drewN ?_ _) | (with_reducible refine Kd.C_drew ?_)));(case side6 => exact (Kd.S_reads' HO_6.out).2.1);rintro e w47 ⟨rfl,hb⟩;refine ⟨_,rfl,?_⟩;have n0_ := aM_ (Kd.R_below (by (with_reducible repeat (first | apply Kd.R_alloc | apply Kd.R_drewN | apply Kd.R_drew));exact HO_4.out) hb);have n1_ := aM_ (Kd.R_below (by (with_reducible repeat (first | apply Kd.R_alloc | apply Kd.R_drewN | apply Kd.R_drew));exact HO_5.out) hb);have n2_ := aM_ (Kd.S_below (by (with_reducible repeat (first | apply Kd.S_alloc | apply Kd.S_drewN | apply Kd.S_drew));exact HO_6.out) hb);have n3_ := aM_ (IsS65.below (by repeat (first | (with_reducible first | exact HI346.out | apply IsS65.alloc | apply IsS65.drewN | apply IsS65.drew | apply IsS65.set_0) | exact HI346.out)) hb);have n4_ := aM_ (Kd.C_below (by repeat (first | (with_reducible exact HR379.out) | (with_reducible refine Kd.C_alloc ?_ _) | (with_reducible refine Kd.C_drewN ?_ _) | (with_reducible refine Kd.C_drew ?_) | exact HR379.out)) hb);have n5_ := aM_ (Kd.C_below (by repeat (first | (with_reducible exact HR383.out) | (with_reducible refine Kd.C_alloc ?_ _) | (with_reducible refine Kd.C_drewN ?_ _) | (with_reducible refine Kd.C_drew ?_) | exact HR383.out)) hb);have n6_ := aM_ (bT_ (by repeat (first | (with_reducible first | exact HB.out | apply bA_ | apply bN_ | apply bD_ | refine bS_ ?_ (IsS65.ge HI346.out)) | exact HB.out)) hb);clear HO_4;clear HO_5;clear HO_6;clear HI346;clear HR379;clear HR383;clear HB;have HO_4 := n0_;have HO_5 := n1_;have HO_6 := n2_;have HI346 := n3_;have HR379 := n4_;have HR383 := n5_;have HB := n6_;clear n0_ n1_ n2_ n3_ n4_ n5_ n6_;(try clear hb);(try clear hb2);(try clear hk);(try clear hi)))
       (try simp only [Act.put,sB_,sZ_,sS_])
       go_cut [119] (fun v119 wc => ∃ (kq : Nat) (x119_38 : Bool),v119 = .bool x119_38 ∧ Aside0 (L_GaugeLonger.j2 kq l0 t384 t385 t387 t388 x119_38 = some r) ∧ Aside0 (kq ≤ k1) ∧ Aside0 (Kd.C k34 wc Ao43 y376.length y376) ∧ Aside0 (Kd.C (Kd.slice 32 k32) wc Ao40 y380.length y380) ∧ Aside0 (Below w.heap.size w wc))
       case first =>
        have H := HC39.out
        clear HC39
        by_cases c48 : t386 = 0
        ·rw [if_pos c48] at H
         have c48b0 : (t386 == 0) = true := beq_iff_eq.mpr c48
         have c48b1 : (t386 != 0) = false := bne_eq_false_iff_eq.mpr c48
         clear c48
         (first | rw [c48b0] | (simp only [i64_w,i32_w];rw [c48b0]) | skip)
         by_cases c49 : t389 = 0
         ·rw [if_pos c49] at H
          have c49b0 : (t389 == 0) = true := beq_iff_eq.mpr c49
          have c49b1 : (t389 != 0) = false := bne_eq_false_iff_eq.mpr c49
          clear c49
          by_cases c50 : ((t384 == 1) != (t385 == (-1))) = true
          ·rw [if_pos c50] at H
           have c50b0 : ((t384 == 1) != (t385 == (-1))) = true := c50
           (try (have c50b1 : decide ((t384 == 1) = (t385 == (-1))) = false := by simpa using c50))
           (try (have c50b2 : ((t384 == 1) == (t385 == (-1))) = false := by simpa using c50))
           (try (have c50b3 : ¬ ((t384 == 1) = (t385 == (-1))) := by simpa using c50))
           clear c50
           have H' := aM_ H
           clear H
           go_wp2
           go_meet
           case rel => exact ⟨_,(true),(by first | rfl | (simp;done) | (simp [*];done)),H',⟨by have := HK1.out;first | omega | exact Nat.le_refl _⟩,⟨by repeat (first | (with_reducible exact HR379.out) | (with_reducible refine Kd.C_alloc ?_ _) | (with_reducible refine Kd.C_drewN ?_ _) | (with_reducible refine Kd.C_drew ?_) | exact HR379.out)⟩,⟨by repeat (first | (with_reducible exact HR383.out) | (with_reducible refine Kd.C_alloc ?_ _) | (with_reducible refine Kd.C_drewN ?_ _) | (with_reducible refine Kd.C_drew ?_) | exact HR383.out)⟩,⟨by repeat (first | (with_reducible first | exact HB.out | apply bA_ | apply bN_ | apply bD_ | refine bS_ ?_ (IsS65.ge HI346.out)) | exact HB.out)⟩⟩
          ·rw [if_neg c50] at H
           have c50b0 : ((t384 == 1) != (t385 == (-1))) = false := by simpa using c50
           (try (have c50b1 : decide ((t384 == 1) = (t385 == (-1))) = true := by simpa using c50))
           (try (have c50b2 : ((t384 == 1) == (t385 == (-1))) = true := by simpa using c50))
           clear c50
           by_cases c51 : ((t387 == 1) != (t388 == (-1))) = true
           ·rw [if_pos c51] at H
            have c51b0 : ((t387 == 1) != (t388 == (-1))) = true := c51
            (try (have c51b1 : decide ((t387 == 1) = (t388 == (-1))) = false := by simpa using c51))
            (try (have c51b2 : ((t387 == 1) == (t388 == (-1))) = false := by simpa using c51))
            (try (have c51b3 : ¬ ((t387 == 1) = (t388 == (-1))) := by simpa using c51))
            clear c51
            have H' := aM_ H
            clear H
            go_wp2
            go_meet
            case rel => exact ⟨_,(true),(by first | rfl | (simp;done) | (simp [*];done)),H',⟨by have := HK1.out;first | omega | exact Nat.le_refl _⟩,⟨by repeat (first | (with_reducible exact HR379.out) | (with_reducible refine Kd.C_alloc ?_ _) | (with_reducible refine Kd.C_drewN ?_ _) | (with_reducible refine Kd.C_drew ?_) | exact HR379.out)⟩,⟨by repeat (first | (with_reducible exact HR383.out) | (with_reducible refine Kd.C_alloc ?_ _) | (with_reducible refine Kd.C_drewN ?_ _) | (with_reducible refine Kd.C_drew ?_) | exact HR383.out)⟩,⟨by repeat (first | (with_reducible first | exact HB.out | apply bA_ | apply bN_ | apply bD_ | refine bS_ ?_ (IsS65.ge HI346.out)) | exact HB.out)⟩⟩
           ·rw [if_neg c51] at H
            have c51b0 : ((t387 == 1) != (t388 == (-1))) = false := by simpa using c51
            (try (have c51b1 : decide ((t387 == 1) = (t388 == (-1))) = true := by simpa using c51))
            (try (have c51b2 : ((t387 == 1) == (t388 == (-1))) = true := by simpa using c51))
            clear c51
            by_cases c52 : t385 ≥ (ji32)
            ·rw [if_pos c52] at H
             have c52b0 : decide ((ji32) ≤ t385) = true := decide_eq_true c52
             clear c52
             have H' := aM_ H
             clear H
             go_wp2
             go_meet
             case rel => exact ⟨_,(true),(by first | rfl | (simp;done) | (simp [*];done)),H',⟨by have := HK1.out;first | omega | exact Nat.le_refl _⟩,⟨by repeat (first | (with_reducible exact HR379.out) | (with_reducible refine Kd.C_alloc ?_ _) | (with_reducible refine Kd.C_drewN ?_ _) | (with_reducible refine Kd.C_drew ?_) | exact HR379.out)⟩,⟨by repeat (first | (with_reducible exact HR383.out) | (with_reducible refine Kd.C_alloc ?_ _) | (with_reducible refine Kd.C_drewN ?_ _) | (with_reducible refine Kd.C_drew ?_) | exact HR383.out)⟩,⟨by repeat (first | (with_reducible first | exact HB.out | apply bA_ | apply bN_ | apply bD_ | refine bS_ ?_ (IsS65.ge HI346.out)) | exact HB.out)⟩⟩
            ·rw [if_neg c52] at H
             have c52b0 : decide ((ji32) ≤ t385) = false := decide_eq_false c52
             clear c52
             have H' := aM_ H
             clear H
             go_wp2
             go_meet
             case rel => exact ⟨_,(decide (t388 > (ji32))),(by first | rfl | (simp;done) | (simp only [← hji32] <;> (first | rfl | simp)) | (simp [*];done)),H',⟨by have := HK1.out;first | omega | exact Nat.le_refl _⟩,⟨by repeat (first | (with_reducible exact HR379.out) | (with_reducible refine Kd.C_alloc ?_ _) | (with_reducible refine Kd.C_drewN ?_ _) | (with_reducible refine Kd.C_drew ?_) | exact HR379.out)⟩,⟨by repeat (first | (with_reducible exact HR383.out) | (with_reducible refine Kd.C_alloc ?_ _) | (with_reducible refine Kd.C_drewN ?_ _) | (with_reducible refine Kd.C_drew ?_) | exact HR383.out)⟩,⟨by repeat (first | (with_reducible first | exact HB.out | apply bA_ | apply bN_ | apply bD_ | refine bS_ ?_ (IsS65.ge HI346.out)) | exact HB.out)⟩⟩
         ·rw [if_neg c49] at H
          have c49b0 : (t389 == 0) = false := beq_eq_false_iff_ne.mpr c49
          have c49b1 : (t389 != 0) = true := bne_iff_ne.mpr c49
          have H' := aM_ H
          clear H
          go_wp2
          go_meet
          case rel => exact ⟨_,(true),(by first | rfl | (simp;done) | (simp [*];done)),H',⟨by have := HK1.out;first | omega | exact Nat.le_refl _⟩,⟨by repeat (first | (with_reducible exact HR379.out) | (with_reducible refine Kd.C_alloc ?_ _) | (with_reducible refine Kd.C_drewN ?_ _) | (with_reducible refine Kd.C_drew ?_) | exact HR379.out)⟩,⟨by repeat (first | (with_reducible exact HR383.out) | (with_reducible refine Kd.C_alloc ?_ _) | (with_reducible refine Kd.C_drewN ?_ _) | (with_reducible refine Kd.C_drew ?_) | exact HR383.out)⟩,⟨by repeat (first | (with_reducible first | exact HB.out | apply bA_ | apply bN_ | apply bD_ | refine bS_ ?_ (IsS65.ge HI346.out)) | exact HB.out)⟩⟩
        ·rw [if_neg c48] at H
         have c48b0 : (t386 == 0) = false := beq_eq_false_iff_ne.mpr c48
         have c48b1 : (t386 != 0) = true := bne_iff_ne.mpr c48
         (first | rw [c48b0] | (simp only [i64_w,i32_w];rw [c48b0]) | skip)
         have H' := aM_ H
         clear H
         go_wp2
         go_meet
         case rel => exact ⟨_,(true),(by first | rfl | (simp;done) | (simp [*];done)),H',⟨by have := HK1.out;first | omega | exact Nat.le_refl _⟩,⟨by repeat (first | (with_reducible exact HR379.out) | (with_reducible refine Kd.C_alloc ?_ _) | (with_reducible refine Kd.C_drewN ?_ _) | (with_reducible refine Kd.C_drew ?_) | exact HR379.out)⟩,⟨by repeat (first | (with_reducible exact HR383.out) | (with_reducible refine Kd.C_alloc ?_ _) | (with_reducible refine Kd.C_drewN ?_ _) | (with_reducible refine Kd.C_drew ?_) | exact HR383.out)⟩,⟨by repeat (first | (with_reducible first | exact HB.out | apply bA_ | apply bN_ | apply bD_ | refine bS_ ?_ (IsS65.ge HI346.out)) | exact HB.out)⟩⟩
       case rest =>
        clear HC39
        try clear c1
        try clear c2
        try clear p2
        try clear c3
        try clear c4
        try clear q4
        try clear c5
        try clear p6
        try clear c7
        try clear c8
        try clear c8b0
        try clear c9
        try clear c10
        try clear c12
        try clear c13
        try clear c14
        try clear c21
        try clear c21b0
        try clear c24
        try clear c27
        try clear c29
        try clear c33
        try clear c33b0
        try clear c33b1
        try clear c34
        try clear c34b0
        try clear c34b1
        try clear c35
        try clear c35b0
        try clear c36
        try clear c36b0
        try clear c36b1
        try clear q42
        try clear q44
        try clear c48
        try clear c48b0
        try clear c48b1
        try clear c49
        try clear c49b0
        try clear c49b1
        try clear c50
        try clear c50b0
        try clear c50b1
        try clear c50b2
        try clear c51
        try clear c51b0
        try clear c51b1
        try clear c51b2
        try clear c52
        try clear c52b0
        try clear p2
        try clear p6
        try clear q42
        try clear q44
        obtain ⟨kq,x119_38,rfl,HA,HJ38,HR379,HR383,HB⟩ := hcut
        cases kq with
        | zero => exact absurd HA.out (by simp [L_GaugeLonger.j2])
        | succ kj38 =>
         have H := HA.out
         clear HA
         simp only [L_GaugeLonger.j2] at H
         by_cases c53 : x119_38 = true
         ·subst c53
          have H1 : (some false) = some r := by rw [if_pos rfl] at H;exact H
          clear H
          have H := H1
          clear H1
          obtain rfl := Option.some.inj H
          go_wp2
          go_ret
          exact ⟨by first | rfl | (simp [errW_none,errW_some] <;> rfl) | (simp only [← hji32];first | rfl | (simp [errW_none,errW_some] <;> rfl)) | (simp [*,errW_none,errW_some] <;> rfl),by repeat (first | (with_reducible first | exact HB.out | apply bA_ | apply bN_ | apply bD_) | exact HB.out)⟩
         ·replace c53 := Bool.eq_false_iff.mpr c53
          subst c53
          have H1 : (if t384 = 1 then (if t384 = 2 then (if t387 = 2 then (if t388 = t385 then ((L_widers.f l0).bind fun t390 => (if t390 = true then ((L_awake.f kj38).bind fun t391 => (some t391)) else (some false))) else (some false)) else (some false)) else ((L_widers.f l0).bind fun t392 => (if t392 = true then ((L_awake.f kj38).bind fun t393 => (some t393)) else (some false)))) else (if t387 = 1 then (some false) else (if t384 = 2 then (if t387 = 2 then (if t388 = t385 then ((L_widers.f l0).bind fun t394 => (if t394 = true then ((L_awake.f kj38).bind fun t395 => (some t395)) else (some false))) else (some false)) else (some false)) else ((L_widers.f l0).bind fun t396 => (if t396 = true then ((L_awake.f kj38).bind fun t397 => (some t397)) else (some false)))))) = some r := by rw [if_neg (show ¬ (false = true) by decide)] at H;exact H
          clear H
          have H := H1
          clear H1
          by_cases c54 : t384 = 1
          ·rw [if_pos c54] at H
           have c54b0 : (t384 == 1) = true := beq_iff_eq.mpr c54
           have c54b1 : (t384 != 1) = false := bne_eq_false_iff_eq.mpr c54
           clear c54
           by_cases c55 : t384 = 2
           ·rw [if_pos c55] at H
            have c55b0 : (t384 == 2) = true := beq_iff_eq.mpr c55
            have c55b1 : (t384 != 2) = false := bne_eq_false_iff_eq.mpr c55
            clear c55
            by_cases c56 : t387 = 2
            ·rw [if_pos c56] at H
             have c56b0 : (t387 == 2) = true := beq_iff_eq.mpr c56
             have c56b1 : (t387 != 2) = false := bne_eq_false_iff_eq.mpr c56
             clear c56
             by_cases c57 : t388 = t385
             ·rw [if_pos c57] at H
              have c57b0 : (t388 == t385) = true := beq_iff_eq.mpr c57
              have c57b1 : (t388 != t385) = false := bne_eq_false_iff_eq.mpr c57
              clear c57
              replace H := oB_ H
              obtain ⟨t390,A580,H⟩ := H
              replace H : (if t390 = true then ((L_awake.f kj38).bind fun t391 => (some t391)) else (some false)) = some r := H
              have A58 := aM_ A580
              clear A580
              by_cases c59 : t390 = true
              ·subst c59
               have H1 : ((L_awake.f kj38).bind fun t391 => (some t391)) = some r := by rw [if_pos rfl] at H;exact H
               clear H
               have H := H1
               clear H1
               replace H := oB_ H
               obtain ⟨t391,A600,H⟩ := H
               replace H : (some t391) = some r := H
               have A60 := aM_ A600
               clear A600
               obtain rfl := Option.some.inj H
               go_wp2_with (first | (go_at_call 29;(with_reducible refine (L_widers.calls _ _ l0 true _ ?side1 ?side2 A58.out).mono ?_);(case side1 => repeat (first | exact (Kd.C_below HR0.out HB.out) | (with_reducible refine Kd.C_alloc ?_ _) | (with_reducible refine Kd.C_drewN ?_ _) | (with_reducible refine Kd.C_drew ?_)));(case side2 => exact HC0.out);rintro e w61 ⟨rfl,hb⟩;have n0_ := aM_ (Kd.C_below (by repeat (first | (with_reducible exact HR379.out) | (with_reducible refine Kd.C_alloc ?_ _) | (with_reducible refine Kd.C_drewN ?_ _) | (with_reducible refine Kd.C_drew ?_) | exact HR379.out)) hb);have n1_ := aM_ (Kd.C_below (by repeat (first | (with_reducible exact HR383.out) | (with_reducible refine Kd.C_alloc ?_ _) | (with_reducible refine Kd.C_drewN ?_ _) | (with_reducible refine Kd.C_drew ?_) | exact HR383.out)) hb);have n2_ := aM_ (bT_ (by repeat (first | (with_reducible first | exact HB.out | apply bA_ | apply bN_ | apply bD_) | exact HB.out)) hb);clear HR379;clear HR383;clear HB;have HR379 := n0_;have HR383 := n1_;have HB := n2_;clear n0_ n1_ n2_;(try clear hb);(try clear hb2);(try clear hk);(try clear hi)) | (go_at_call 18;(with_reducible refine (L_awake.calls kj38  t391 _ A60.out).mono ?_);rintro e w62 ⟨rfl,hb⟩;have n0_ := aM_ (Kd.C_below (by repeat (first | (with_reducible exact HR379.out) | (with_reducible refine Kd.C_alloc ?_ _) | (with_reducible refine Kd.C_drewN ?_ _) | (with_reducible refine Kd.C_drew ?_) | exact HR379.out)) hb);have n1_ := aM_ (Kd.C_below (by repeat (first | (with_reducible exact HR383.out) | (with_reducible refine Kd.C_alloc ?_ _) | (with_reducible refine Kd.C_drewN ?_ _) | (with_reducible refine Kd.C_drew ?_) | exact HR383.out)) hb);have n2_ := aM_ (bT_ (by repeat (first | (with_reducible first | exact HB.out | apply bA_ | apply bN_ | apply bD_) | exact HB.out)) hb);clear HR379;clear HR383;clear HB;have HR379 := n0_;have HR383 := n1_;have HB := n2_;clear n0_ n1_ n2_;(try clear hb);(try clear hb2);(try clear hk);(try clear hi)))
               go_ret
               exact ⟨by first | rfl | (simp [errW_none,errW_some] <;> rfl) | (simp only [← hji32];first | rfl | (simp [errW_none,errW_some] <;> rfl)) | (simp [*,errW_none,errW_some] <;> rfl),by repeat (first | (with_reducible first | exact HB.out | apply bA_ | apply bN_ | apply bD_) | exact HB.out)⟩
              ·replace c59 := Bool.eq_false_iff.mpr c59
               subst c59
               have H1 : (some false) = some r := by rw [if_neg (show ¬ (false = true) by decide)] at H;exact H
               clear H
               have H := H1
               clear H1
               obtain rfl := Option.some.inj H
               go_wp2_with (first | (go_at_call 29;(with_reducible refine (L_widers.calls _ _ l0 false _ ?side1 ?side2 A58.out).mono ?_);(case side1 => repeat (first | exact (Kd.C_below HR0.out HB.out) | (with_reducible refine Kd.C_alloc ?_ _) | (with_reducible refine Kd.C_drewN ?_ _) | (with_reducible refine Kd.C_drew ?_)));(case side2 => exact HC0.out);rintro e w63 ⟨rfl,hb⟩;have n0_ := aM_ (Kd.C_below (by repeat (first | (with_reducible exact HR379.out) | (with_reducible refine Kd.C_alloc ?_ _) | (with_reducible refine Kd.C_drewN ?_ _) | (with_reducible refine Kd.C_drew ?_) | exact HR379.out)) hb);have n1_ := aM_ (Kd.C_below (by repeat (first | (with_reducible exact HR383.out) | (with_reducible refine Kd.C_alloc ?_ _) | (with_reducible refine Kd.C_drewN ?_ _) | (with_reducible refine Kd.C_drew ?_) | exact HR383.out)) hb);have n2_ := aM_ (bT_ (by repeat (first | (with_reducible first | exact HB.out | apply bA_ | apply bN_ | apply bD_) | exact HB.out)) hb);clear HR379;clear HR383;clear HB;have HR379 := n0_;have HR383 := n1_;have HB := n2_;clear n0_ n1_ n2_;(try clear hb);(try clear hb2);(try clear hk);(try clear hi)))
               go_ret
               exact ⟨by first | rfl | (simp [errW_none,errW_some] <;> rfl) | (simp only [← hji32];first | rfl | (simp [errW_none,errW_some] <;> rfl)) | (simp [*,errW_none,errW_some] <;> rfl),by repeat (first | (with_reducible first | exact HB.out | apply bA_ | apply bN_ | apply bD_) | exact HB.out)⟩
             ·rw [if_neg c57] at H
              have c57b0 : (t388 == t385) = false := beq_eq_false_iff_ne.mpr c57
              have c57b1 : (t388 != t385) = true := bne_iff_ne.mpr c57
              obtain rfl := Option.some.inj H
              go_wp2
              go_ret
              exact ⟨by first | rfl | (simp [errW_none,errW_some] <;> rfl) | (simp only [← hji32];first | rfl | (simp [errW_none,errW_some] <;> rfl)) | (simp [*,errW_none,errW_some] <;> rfl),by repeat (first | (with_reducible first | exact HB.out | apply bA_ | apply bN_ | apply bD_) | exact HB.out)⟩
            ·rw [if_neg c56] at H
             have c56b0 : (t387 == 2) = false := beq_eq_false_iff_ne.mpr c56
             have c56b1 : (t387 != 2) = true := bne_iff_ne.mpr c56
             obtain rfl := Option.some.inj H
             go_wp2
             go_ret
             exact ⟨by first | rfl | (simp [errW_none,errW_some] <;> rfl) | (simp only [← hji32];first | rfl | (simp [errW_none,errW_some] <;> rfl)) | (simp [*,errW_none,errW_some] <;> rfl),by repeat (first | (with_reducible first | exact HB.out | apply bA_ | apply bN_ | apply bD_) | exact HB.out)⟩
           ·rw [if_neg c55] at H
            have c55b0 : (t384 == 2) = false := beq_eq_false_iff_ne.mpr c55
            have c55b1 : (t384 != 2) = true := bne_iff_ne.mpr c55
            replace H := oB_ H
            obtain ⟨t392,A640,H⟩ := H
            replace H : (if t392 = true then ((L_awake.f kj38).bind fun t393 => (some t393)) else (some false)) = some r := H
            have A64 := aM_ A640
            clear A640
            by_cases c65 : t392 = true
            ·subst c65
             have H1 : ((L_awake.f kj38).bind fun t393 => (some t393)) = some r := by rw [if_pos rfl] at H;exact H
             clear H
             have H := H1
             clear H1
             replace H := oB_ H
             obtain ⟨t393,A660,H⟩ := H
             replace H : (some t393) = some r := H
             have A66 := aM_ A660
             clear A660
             obtain rfl := Option.some.inj H
             go_wp2_with (first | (go_at_call 29;(with_reducible refine (L_widers.calls _ _ l0 true _ ?side1 ?side2 A64.out).mono ?_);(case side1 => repeat (first | exact (Kd.C_below HR0.out HB.out) | (with_reducible refine Kd.C_alloc ?_ _) | (with_reducible refine Kd.C_drewN ?_ _) | (with_reducible refine Kd.C_drew ?_)));(case side2 => exact HC0.out);rintro e w67 ⟨rfl,hb⟩;have n0_ := aM_ (Kd.C_below (by repeat (first | (with_reducible exact HR379.out) | (with_reducible refine Kd.C_alloc ?_ _) | (with_reducible refine Kd.C_drewN ?_ _) | (with_reducible refine Kd.C_drew ?_) | exact HR379.out)) hb);have n1_ := aM_ (Kd.C_below (by repeat (first | (with_reducible exact HR383.out) | (with_reducible refine Kd.C_alloc ?_ _) | (with_reducible refine Kd.C_drewN ?_ _) | (with_reducible refine Kd.C_drew ?_) | exact HR383.out)) hb);have n2_ := aM_ (bT_ (by repeat (first | (with_reducible first | exact HB.out | apply bA_ | apply bN_ | apply bD_) | exact HB.out)) hb);clear HR379;clear HR383;clear HB;have HR379 := n0_;have HR383 := n1_;have HB := n2_;clear n0_ n1_ n2_;(try clear hb);(try clear hb2);(try clear hk);(try clear hi)) | (go_at_call 18;(with_reducible refine (L_awake.calls kj38  t393 _ A66.out).mono ?_);rintro e w68 ⟨rfl,hb⟩;have n0_ := aM_ (Kd.C_below (by repeat (first | (with_reducible exact HR379.out) | (with_reducible refine Kd.C_alloc ?_ _) | (with_reducible refine Kd.C_drewN ?_ _) | (with_reducible refine Kd.C_drew ?_) | exact HR379.out)) hb);have n1_ := aM_ (Kd.C_below (by repeat (first | (with_reducible exact HR383.out) | (with_reducible refine Kd.C_alloc ?_ _) | (with_reducible refine Kd.C_drewN ?_ _) | (with_reducible refine Kd.C_drew ?_) | exact HR383.out)) hb);have n2_ := aM_ (bT_ (by repeat (first | (with_reducible first | exact HB.out | apply bA_ | apply bN_ | apply bD_) | exact HB.out)) hb);clear HR379;clear HR383;clear HB;have HR379 := n0_;have HR383 := n1_;have HB := n2_;clear n0_ n1_ n2_;(try clear hb);(try clear hb2);(try clear hk);(try clear hi)))
             go_ret
             exact ⟨by first | rfl | (simp [errW_none,errW_some] <;> rfl) | (simp only [← hji32];first | rfl | (simp [errW_none,errW_some] <;> rfl)) | (simp [*,errW_none,errW_some] <;> rfl),by repeat (first | (with_reducible first | exact HB.out | apply bA_ | apply bN_ | apply bD_) | exact HB.out)⟩
            ·replace c65 := Bool.eq_false_iff.mpr c65
             subst c65
             have H1 : (some false) = some r := by rw [if_neg (show ¬ (false = true) by decide)] at H;exact H
             clear H
             have H := H1
             clear H1
             obtain rfl := Option.some.inj H
             go_wp2_with (first | (go_at_call 29;(with_reducible refine (L_widers.calls _ _ l0 false _ ?side1 ?side2 A64.out).mono ?_);(case side1 => repeat (first | exact (Kd.C_below HR0.out HB.out) | (with_reducible refine Kd.C_alloc ?_ _) | (with_reducible refine Kd.C_drewN ?_ _) | (with_reducible refine Kd.C_drew ?_)));(case side2 => exact HC0.out);rintro e w69 ⟨rfl,hb⟩;have n0_ := aM_ (Kd.C_below (by repeat (first | (with_reducible exact HR379.out) | (with_reducible refine Kd.C_alloc ?_ _) | (with_reducible refine Kd.C_drewN ?_ _) | (with_reducible refine Kd.C_drew ?_) | exact HR379.out)) hb);have n1_ := aM_ (Kd.C_below (by repeat (first | (with_reducible exact HR383.out) | (with_reducible refine Kd.C_alloc ?_ _) | (with_reducible refine Kd.C_drewN ?_ _) | (with_reducible refine Kd.C_drew ?_) | exact HR383.out)) hb);have n2_ := aM_ (bT_ (by repeat (first | (with_reducible first | exact HB.out | apply bA_ | apply bN_ | apply bD_) | exact HB.out)) hb);clear HR379;clear HR383;clear HB;have HR379 := n0_;have HR383 := n1_;have HB := n2_;clear n0_ n1_ n2_;(try clear hb);(try clear hb2);(try clear hk);(try clear hi)))
             go_ret
             exact ⟨by first | rfl | (simp [errW_none,errW_some] <;> rfl) | (simp only [← hji32];first | rfl | (simp [errW_none,errW_some] <;> rfl)) | (simp [*,errW_none,errW_some] <;> rfl),by repeat (first | (with_reducible first | exact HB.out | apply bA_ | apply bN_ | apply bD_) | exact HB.out)⟩
          ·rw [if_neg c54] at H
           have c54b0 : (t384 == 1) = false := beq_eq_false_iff_ne.mpr c54
           have c54b1 : (t384 != 1) = true := bne_iff_ne.mpr c54
           by_cases c70 : t387 = 1
           ·rw [if_pos c70] at H
            have c70b0 : (t387 == 1) = true := beq_iff_eq.mpr c70
            have c70b1 : (t387 != 1) = false := bne_eq_false_iff_eq.mpr c70
            clear c70
            obtain rfl := Option.some.inj H
            go_wp2
            go_ret
            exact ⟨by first | rfl | (simp [errW_none,errW_some] <;> rfl) | (simp only [← hji32];first | rfl | (simp [errW_none,errW_some] <;> rfl)) | (simp [*,errW_none,errW_some] <;> rfl),by repeat (first | (with_reducible first | exact HB.out | apply bA_ | apply bN_ | apply bD_) | exact HB.out)⟩
           ·rw [if_neg c70] at H
            have c70b0 : (t387 == 1) = false := beq_eq_false_iff_ne.mpr c70
            have c70b1 : (t387 != 1) = true := bne_iff_ne.mpr c70
            by_cases c71 : t384 = 2
            ·rw [if_pos c71] at H
             have c71b0 : (t384 == 2) = true := beq_iff_eq.mpr c71
             have c71b1 : (t384 != 2) = false := bne_eq_false_iff_eq.mpr c71
             clear c71
             by_cases c72 : t387 = 2
             ·rw [if_pos c72] at H
              have c72b0 : (t387 == 2) = true := beq_iff_eq.mpr c72
              have c72b1 : (t387 != 2) = false := bne_eq_false_iff_eq.mpr c72
              clear c72
              by_cases c73 : t388 = t385
              ·rw [if_pos c73] at H
               have c73b0 : (t388 == t385) = true := beq_iff_eq.mpr c73
               have c73b1 : (t388 != t385) = false := bne_eq_false_iff_eq.mpr c73
               clear c73
               replace H := oB_ H
               obtain ⟨t394,A740,H⟩ := H
               replace H : (if t394 = true then ((L_awake.f kj38).bind fun t395 => (some t395)) else (some false)) = some r := H
               have A74 := aM_ A740
               clear A740
               by_cases c75 : t394 = true
               ·subst c75
                have H1 : ((L_awake.f kj38).bind fun t395 => (some t395)) = some r := by rw [if_pos rfl] at H;exact H
                clear H
                have H := H1
                clear H1
                replace H := oB_ H
                obtain ⟨t395,A760,H⟩ := H
                replace H : (some t395) = some r := H
                have A76 := aM_ A760
                clear A760
                obtain rfl := Option.some.inj H
                go_wp2_with (first | (go_at_call 29;(with_reducible refine (L_widers.calls _ _ l0 true _ ?side1 ?side2 A74.out).mono ?_);(case side1 => repeat (first | exact (Kd.C_below HR0.out HB.out) | (with_reducible refine Kd.C_alloc ?_ _) | (with_reducible refine Kd.C_drewN ?_ _) | (with_reducible refine Kd.C_drew ?_)));(case side2 => exact HC0.out);rintro e w77 ⟨rfl,hb⟩;have n0_ := aM_ (Kd.C_below (by repeat (first | (with_reducible exact HR379.out) | (with_reducible refine Kd.C_alloc ?_ _) | (with_reducible refine Kd.C_drewN ?_ _) | (with_reducible refine Kd.C_drew ?_) | exact HR379.out)) hb);have n1_ := aM_ (Kd.C_below (by repeat (first | (with_reducible exact HR383.out) | (with_reducible refine Kd.C_alloc ?_ _) | (with_reducible refine Kd.C_drewN ?_ _) | (with_reducible refine Kd.C_drew ?_) | exact HR383.out)) hb);have n2_ := aM_ (bT_ (by repeat (first | (with_reducible first | exact HB.out | apply bA_ | apply bN_ | apply bD_) | exact HB.out)) hb);clear HR379;clear HR383;clear HB;have HR379 := n0_;have HR383 := n1_;have HB := n2_;clear n0_ n1_ n2_;(try clear hb);(try clear hb2);(try clear hk);(try clear hi)) | (go_at_call 18;(with_reducible refine (L_awake.calls kj38  t395 _ A76.out).mono ?_);rintro e w78 ⟨rfl,hb⟩;have n0_ := aM_ (Kd.C_below (by repeat (first | (with_reducible exact HR379.out) | (with_reducible refine Kd.C_alloc ?_ _) | (with_reducible refine Kd.C_drewN ?_ _) | (with_reducible refine Kd.C_drew ?_) | exact HR379.out)) hb);have n1_ := aM_ (Kd.C_below (by repeat (first | (with_reducible exact HR383.out) | (with_reducible refine Kd.C_alloc ?_ _) | (with_reducible refine Kd.C_drewN ?_ _) | (with_reducible refine Kd.C_drew ?_) | exact HR383.out)) hb);have n2_ := aM_ (bT_ (by repeat (first | (with_reducible first | exact HB.out | apply bA_ | apply bN_ | apply bD_) | exact HB.out)) hb);clear HR379;clear HR383;clear HB;have HR379 := n0_;have HR383 := n1_;have HB := n2_;clear n0_ n1_ n2_;(try clear hb);(try clear hb2);(try clear hk);(try clear hi)))
                go_ret
                exact ⟨by first | rfl | (simp [errW_none,errW_some] <;> rfl) | (simp only [← hji32];first | rfl | (simp [errW_none,errW_some] <;> rfl)) | (simp [*,errW_none,errW_some] <;> rfl),by repeat (first | (with_reducible first | exact HB.out | apply bA_ | apply bN_ | apply bD_) | exact HB.out)⟩
               ·replace c75 := Bool.eq_false_iff.mpr c75
                subst c75
                have H1 : (some false) = some r := by rw [if_neg (show ¬ (false = true) by decide)] at H;exact H
                clear H
                have H := H1
                clear H1
                obtain rfl := Option.some.inj H
                go_wp2_with (first | (go_at_call 29;(with_reducible refine (L_widers.calls _ _ l0 false _ ?side1 ?side2 A74.out).mono ?_);(case side1 => repeat (first | exact (Kd.C_below HR0.out HB.out) | (with_reducible refine Kd.C_alloc ?_ _) | (with_reducible refine Kd.C_drewN ?_ _) | (with_reducible refine Kd.C_drew ?_)));(case side2 => exact HC0.out);rintro e w79 ⟨rfl,hb⟩;have n0_ := aM_ (Kd.C_below (by repeat (first | (with_reducible exact HR379.out) | (with_reducible refine Kd.C_alloc ?_ _) | (with_reducible refine Kd.C_drewN ?_ _) | (with_reducible refine Kd.C_drew ?_) | exact HR379.out)) hb);have n1_ := aM_ (Kd.C_below (by repeat (first | (with_reducible exact HR383.out) | (with_reducible refine Kd.C_alloc ?_ _) | (with_reducible refine Kd.C_drewN ?_ _) | (with_reducible refine Kd.C_drew ?_) | exact HR383.out)) hb);have n2_ := aM_ (bT_ (by repeat (first | (with_reducible first | exact HB.out | apply bA_ | apply bN_ | apply bD_) | exact HB.out)) hb);clear HR379;clear HR383;clear HB;have HR379 := n0_;have HR383 := n1_;have HB := n2_;clear n0_ n1_ n2_;(try clear hb);(try clear hb2);(try clear hk);(try clear hi)))
                go_ret
                exact ⟨by first | rfl | (simp [errW_none,errW_some] <;> rfl) | (simp only [← hji32];first | rfl | (simp [errW_none,errW_some] <;> rfl)) | (simp [*,errW_none,errW_some] <;> rfl),by repeat (first | (with_reducible first | exact HB.out | apply bA_ | apply bN_ | apply bD_) | exact HB.out)⟩
              ·rw [if_neg c73] at H
               have c73b0 : (t388 == t385) = false := beq_eq_false_iff_ne.mpr c73
               have c73b1 : (t388 != t385) = true := bne_iff_ne.mpr c73
               obtain rfl := Option.some.inj H
               go_wp2
               go_ret
               exact ⟨by first | rfl | (simp [errW_none,errW_some] <;> rfl) | (simp only [← hji32];first | rfl | (simp [errW_none,errW_some] <;> rfl)) | (simp [*,errW_none,errW_some] <;> rfl),by repeat (first | (with_reducible first | exact HB.out | apply bA_ | apply bN_ | apply bD_) | exact HB.out)⟩
             ·rw [if_neg c72] at H
              have c72b0 : (t387 == 2) = false := beq_eq_false_iff_ne.mpr c72
              have c72b1 : (t387 != 2) = true := bne_iff_ne.mpr c72
              obtain rfl := Option.some.inj H
              go_wp2
              go_ret
              exact ⟨by first | rfl | (simp [errW_none,errW_some] <;> rfl) | (simp only [← hji32];first | rfl | (simp [errW_none,errW_some] <;> rfl)) | (simp [*,errW_none,errW_some] <;> rfl),by repeat (first | (with_reducible first | exact HB.out | apply bA_ | apply bN_ | apply bD_) | exact HB.out)⟩
            ·rw [if_neg c71] at H
             have c71b0 : (t384 == 2) = false := beq_eq_false_iff_ne.mpr c71
             have c71b1 : (t384 != 2) = true := bne_iff_ne.mpr c71
             replace H := oB_ H
             obtain ⟨t396,A800,H⟩ := H
             replace H : (if t396 = true then ((L_awake.f kj38).bind fun t397 => (some t397)) else (some false)) = some r := H
             have A80 := aM_ A800
             clear A800
             by_cases c81 : t396 = true
             ·subst c81
              have H1 : ((L_awake.f kj38).bind fun t397 => (some t397)) = some r := by rw [if_pos rfl] at H;exact H
              clear H
              have H := H1
              clear H1
              replace H := oB_ H
              obtain ⟨t397,A820,H⟩ := H
              replace H : (some t397) = some r := H
              have A82 := aM_ A820
              clear A820
              obtain rfl := Option.some.inj H
              go_wp2_with (first | (go_at_call 29;(with_reducible refine (L_widers.calls _ _ l0 true _ ?side1 ?side2 A80.out).mono ?_);(case side1 => repeat (first | exact (Kd.C_below HR0.out HB.out) | (with_reducible refine Kd.C_alloc ?_ _) | (with_reducible refine Kd.C_drewN ?_ _) | (with_reducible refine Kd.C_drew ?_)));(case side2 => exact HC0.out);rintro e w83 ⟨rfl,hb⟩;have n0_ := aM_ (Kd.C_below (by repeat (first | (with_reducible exact HR379.out) | (with_reducible refine Kd.C_alloc ?_ _) | (with_reducible refine Kd.C_drewN ?_ _) | (with_reducible refine Kd.C_drew ?_) | exact HR379.out)) hb);have n1_ := aM_ (Kd.C_below (by repeat (first | (with_reducible exact HR383.out) | (with_reducible refine Kd.C_alloc ?_ _) | (with_reducible refine Kd.C_drewN ?_ _) | (with_reducible refine Kd.C_drew ?_) | exact HR383.out)) hb);have n2_ := aM_ (bT_ (by repeat (first | (with_reducible first | exact HB.out | apply bA_ | apply bN_ | apply bD_) | exact HB.out)) hb);clear HR379;clear HR383;clear HB;have HR379 := n0_;have HR383 := n1_;have HB := n2_;clear n0_ n1_ n2_;(try clear hb);(try clear hb2);(try clear hk);(try clear hi)) | (go_at_call 18;(with_reducible refine (L_awake.calls kj38  t397 _ A82.out).mono ?_);rintro e w84 ⟨rfl,hb⟩;have n0_ := aM_ (Kd.C_below (by repeat (first | (with_reducible exact HR379.out) | (with_reducible refine Kd.C_alloc ?_ _) | (with_reducible refine Kd.C_drewN ?_ _) | (with_reducible refine Kd.C_drew ?_) | exact HR379.out)) hb);have n1_ := aM_ (Kd.C_below (by repeat (first | (with_reducible exact HR383.out) | (with_reducible refine Kd.C_alloc ?_ _) | (with_reducible refine Kd.C_drewN ?_ _) | (with_reducible refine Kd.C_drew ?_) | exact HR383.out)) hb);have n2_ := aM_ (bT_ (by repeat (first | (with_reducible first | exact HB.out | apply bA_ | apply bN_ | apply bD_) | exact HB.out)) hb);clear HR379;clear HR383;clear HB;have HR379 := n0_;have HR383 := n1_;have HB := n2_;clear n0_ n1_ n2_;(try clear hb);(try clear hb2);(try clear hk);(try clear hi)))
              go_ret
              exact ⟨by first | rfl | (simp [errW_none,errW_some] <;> rfl) | (simp only [← hji32];first | rfl | (simp [errW_none,errW_some] <;> rfl)) | (simp [*,errW_none,errW_some] <;> rfl),by repeat (first | (with_reducible first | exact HB.out | apply bA_ | apply bN_ | apply bD_) | exact HB.out)⟩
             ·replace c81 := Bool.eq_false_iff.mpr c81
              subst c81
              have H1 : (some false) = some r := by rw [if_neg (show ¬ (false = true) by decide)] at H;exact H
              clear H
              have H := H1
              clear H1
              obtain rfl := Option.some.inj H
              go_wp2_with (first | (go_at_call 29;(with_reducible refine (L_widers.calls _ _ l0 false _ ?side1 ?side2 A80.out).mono ?_);(case side1 => repeat (first | exact (Kd.C_below HR0.out HB.out) | (with_reducible refine Kd.C_alloc ?_ _) | (with_reducible refine Kd.C_drewN ?_ _) | (with_reducible refine Kd.C_drew ?_)));(case side2 => exact HC0.out);rintro e w85 ⟨rfl,hb⟩;have n0_ := aM_ (Kd.C_below (by repeat (first | (with_reducible exact HR379.out) | (with_reducible refine Kd.C_alloc ?_ _) | (with_reducible refine Kd.C_drewN ?_ _) | (with_reducible refine Kd.C_drew ?_) | exact HR379.out)) hb);have n1_ := aM_ (Kd.C_below (by repeat (first | (with_reducible exact HR383.out) | (with_reducible refine Kd.C_alloc ?_ _) | (with_reducible refine Kd.C_drewN ?_ _) | (with_reducible refine Kd.C_drew ?_) | exact HR383.out)) hb);have n2_ := aM_ (bT_ (by repeat (first | (with_reducible first | exact HB.out | apply bA_ | apply bN_ | apply bD_) | exact HB.out)) hb);clear HR379;clear HR383;clear HB;have HR379 := n0_;have HR383 := n1_;have HB := n2_;clear n0_ n1_ n2_;(try clear hb);(try clear hb2);(try clear hk);(try clear hi)))
              go_ret
              exact ⟨by first | rfl | (simp [errW_none,errW_some] <;> rfl) | (simp only [← hji32];first | rfl | (simp [errW_none,errW_some] <;> rfl)) | (simp [*,errW_none,errW_some] <;> rfl),by repeat (first | (with_reducible first | exact HB.out | apply bA_ | apply bN_ | apply bD_) | exact HB.out)⟩
      ·rw [if_neg c36] at H
       exact absurd H (by simp)
     ·rw [if_neg c34] at H
      exact absurd H (by simp)
    ·rw [if_neg c33] at H
     exact absurd H (by simp)

def L_GaugeLonger.Pure : Prop := ∀ (l0 : List Int),l0.length ≤ maxLen → l0.length * 8 ≤ 140737488351232 → (∀ x ∈ l0,(Lit.int .i64 x).wf = true) → ∃ k,L_GaugeLonger.f k l0 = some true
theorem L_GaugeLonger.walk (P : L_GaugeLonger.Pure) (a0 : Option Addr) (len0 cap0 : Nat) (z0 : List Int) (w : World) (w0 : (a0 = none ∧ len0 = 0 ∧ cap0 = 0 ∧ z0 = []) ∨ ∃ x,a0 = some x ∧ len0 ≤ cap0 ∧ cap0 ≤ maxLen ∧ z0.length = cap0 ∧ (∀ i,i < z0.length → w.cell? (x.add i) = some (.int .i64 (z0.getD i 0))) ∧ ∀ n ∈ z0,(Lit.int .i64 n).wf = true) (y0 : len0 * 8 ≤ 140737488351232) :
  Calls Try.prog 7 #[.slice a0 len0 cap0] w fun e w' => e = .returned (.bool true) ∧ Below w.heap.size w w' := by
 obtain ⟨l0,rfl,hr0,hm0,hw0,hc0⟩ := ReadsInt.ofRowC w0
 obtain ⟨k,h⟩ := P l0 hm0 y0 hw0
 refine (L_GaugeLonger.calls k _ _ l0 true w (Kd.C_of_reads (d := (0 : Int)) (h1 := fun _ => rfl) hr0) hc0 h).mono ?_
 rintro e w' ⟨rfl,hd⟩
 exact ⟨rfl,hd⟩

end Go.Proofs.Ytdbpobadeibjaab.GE
