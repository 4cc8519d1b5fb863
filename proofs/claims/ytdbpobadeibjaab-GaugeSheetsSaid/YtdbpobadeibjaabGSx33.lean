-- written for this claim by a program of this session (wip/gp), over the kit's own printer; Lean checks it
import Derived.Test.YtdbpobadeibjaabGSx0
import Derived.Test.YtdbpobadeibjaabGSx5
import Derived.Test.YtdbpobadeibjaabGSx7
import Derived.Test.YtdbpobadeibjaabGSx32
namespace Go.Proofs.Ytdbpobadeibjaab.GS
open Go.RowKit Go.Proofs.YtdbpobadeibjaabW.PrintWords Go.Proofs.YtdbpobadeibjaabW.PrintLast Go.Proofs.YtdbpobadeibjaabW.PrintMore
attribute [local go_sem] max2_int min2_int max_two min_two max_three min_three max_four min_four
set_option linter.unusedVariables false
set_option linter.unusedSimpArgs false

/-! ### R_Sheet: function 28 -/
def R_Sheet.l0 : Nat → List (S49) → Int → List (S34) → List (List (S32)) → List Int → Int → Option (Int × Int × Int)
 | 0,_,_,_,_,_,_ => none
 | k + 1,x0,x1,x2,x3,x12,x13 => if x13 < (x3.length : Int) then (if 0 ≤ x13 then (if x13 < (x2.length : Int) then ((R_test.f k x0 x1 ((rd_T34 x2 x13).f0) ((rd_T34 x2 x13).f1) (rd_L8 x3 x13)).bind fun bt546 => (if bt546.2 = 0 then (if x12.length < 17592186044416 then (R_Sheet.l0 k x0 x1 x2 x3 (x12 ++ [bt546.1]) (wrap64 (x13 + 1))) else (none)) else (some (0,0,bt546.2)))) else (none)) else (none)) else ((R_worst.f k x12).bind fun bt551 => (some (bt551.1,bt551.2,0)))
def R_Sheet.f (k : Nat) (l0 : List (S49)) (a1 : Int) (l2 : List (S34)) (l3 : List (List (S32))) : Option (Int × Int × Int) := (R_Check.f k l0).bind fun t542 => (if t542 = 0 then ((R_beyond.f a1 0 1000000000).bind fun t543 => (if t543 = true then (some (0,0,2)) else (if (l2.length : Int) > 20 then (some (0,0,8)) else (if (l3.length : Int) = (l2.length : Int) then (R_Sheet.l0 k l0 a1 l2 l3 ([] : List Int) 0) else (some (0,0,3)))))) else (some (0,0,t542)))
def R_Sheet.T14 : Bool × List (List Nat × List Nat) := (true,[([],[]),([],[]),([],[]),([],[]),([2,3],[2,3]),([4],[4]),([],[]),([],[]),([6,7],[6,7]),([8],[8]),([0,1,5,9],[0,1,5,9]),([10],[10]),([11],[11]),([11],[11]),([12,10,0,1,2,3,4,5,6,7,8,9,10,11,12],[12]),([13,14,0,1,2,3,4,5,6,7,8,9,10,11,12,13,14],[13])])
def R_Sheet.B14 : List Nat := [0,0,0,0,12,28,0,0,192,448,1023,2047,4095,4095,8191,32767]
theorem R_Sheet.tab14 : rtab .any (opsOf Try.f28 14) = R_Sheet.T14 := by kernel_rfl
theorem R_Sheet.bits14 : waitsOk R_Sheet.T14.2 R_Sheet.B14 = true := by kernel_rfl
set_option maxHeartbeats 8000000 in
set_option maxRecDepth 100000 in
theorem R_Sheet.calls (k : Nat) (A0 : Option Addr) (c0 : Nat) (l0 : List (S49)) (a1 : Int) (A2 : Option Addr) (c2 : Nat) (l2 : List (S34)) (A3 : Option Addr) (c3 : Nat) (l3 : List (List (S32))) (r1 : Int) (r2 : Int) (r3 : Int) (w : World) (hr0 : Kd.C k49 w A0 l0.length l0) (hc0 : l0.length ≤ c0) (hr2 : Kd.C k34 w A2 l2.length l2) (hc2 : l2.length ≤ c2) (hr3 : Kd.C (Kd.slice 32 k32) w A3 l3.length l3) (hc3 : l3.length ≤ c3) (h : R_Sheet.f k l0 a1 l2 l3 = some (r1,r2,r3)) :
  Calls Try.prog 28 #[.slice A0 l0.length c0,.int .i64 a1,.slice A2 l2.length c2,.slice A3 l3.length c3] w fun e w' => e = .returned (.tuple #[.int .i64 r1,.int .i64 r2,.int .i64 r3]) ∧ Below w.heap.size w w' := by
 have hu34 := Try.underlying34
 have HR0 := aM_ hr0
 have HC0 := aM_ hc0
 clear hr0 hc0
 have HR2 := aM_ hr2
 have HC2 := aM_ hc2
 clear hr2 hc2
 have HR3 := aM_ hr3
 have HC3 := aM_ hc3
 clear hr3 hc3
 have HB := aM_ (Below.refl w.heap.size w)
 have H : ((R_Check.f k l0).bind fun t542 => (if t542 = 0 then ((R_beyond.f a1 0 1000000000).bind fun t543 => (if t543 = true then (some (0,0,2)) else (if (l2.length : Int) > 20 then (some (0,0,8)) else (if (l3.length : Int) = (l2.length : Int) then (R_Sheet.l0 k l0 a1 l2 l3 ([] : List Int) 0) else (some (0,0,3)))))) else (some (0,0,t542)))) = some (r1,r2,r3) := h
 clear h
 replace H := oB_ H
 obtain ⟨t542,A50,H⟩ := H
 replace H : (if t542 = 0 then ((R_beyond.f a1 0 1000000000).bind fun t543 => (if t543 = true then (some (0,0,2)) else (if (l2.length : Int) > 20 then (some (0,0,8)) else (if (l3.length : Int) = (l2.length : Int) then (R_Sheet.l0 k l0 a1 l2 l3 ([] : List Int) 0) else (some (0,0,3)))))) else (some (0,0,t542))) = some (r1,r2,r3) := H
 have A5 := aM_ A50
 clear A50
 by_cases c6 : t542 = 0
 ·rw [if_pos c6] at H
  have c6b0 : (t542 == 0) = true := beq_iff_eq.mpr c6
  have c6b1 : (t542 != 0) = false := bne_eq_false_iff_eq.mpr c6
  clear c6
  replace H := oB_ H
  obtain ⟨t543,A70,H⟩ := H
  replace H : (if t543 = true then (some (0,0,2)) else (if (l2.length : Int) > 20 then (some (0,0,8)) else (if (l3.length : Int) = (l2.length : Int) then (R_Sheet.l0 k l0 a1 l2 l3 ([] : List Int) 0) else (some (0,0,3))))) = some (r1,r2,r3) := H
  have A7 := aM_ A70
  clear A70
  by_cases c8 : t543 = true
  ·subst c8
   have H1 : (some (0,0,2)) = some (r1,r2,r3) := by rw [if_pos rfl] at H;exact H
   clear H
   have H := H1
   clear H1
   simp only [Option.some.injEq,Prod.mk.injEq] at H
   obtain ⟨rfl,rfl,rfl⟩ := H
   go_enter Try.func28,Try.ntmps28
   go_wp2_with (first | ((with_reducible refine gate_callee (f := 48) rfl ?_);refine goesL_ (some 19) rfl rfl Try.func48 (by kernel_rfl) rfl #[.slice A0 l0.length c0] rfl (by (try simp only [List.map_toArray,List.map_cons,List.map_nil]);first | done | rfl) ?_;(with_reducible refine (R_Check.calls k _ _ l0 t542 _ ?side1 ?side2 A5.out).mono ?_);(case side1 => repeat (first | exact HR0.out | (with_reducible refine Kd.C_alloc ?_ _) | (with_reducible refine Kd.C_drewN ?_ _) | (with_reducible refine Kd.C_drew ?_)));(case side2 => exact HC0.out);rintro e w9 ⟨rfl,hb⟩;refine ⟨_,rfl,?_⟩;have n0_ := aM_ (bT_ (by exact lb_ HB) hb);clear HB;have HB := n0_;clear n0_;(try clear hb);(try clear hb2);(try clear hk);(try clear hi)) | ((with_reducible refine gate_callee (f := 49) rfl ?_);refine goesL_ (some 24) rfl rfl Try.func49 (by kernel_rfl) rfl #[.int .i64 a1,.int .i64 0,.int .i64 1000000000] rfl (by (try simp only [List.map_toArray,List.map_cons,List.map_nil]);first | done | rfl) ?_;(with_reducible refine (R_beyond.calls a1 0 1000000000 true _ A7.out).mono ?_);rintro e w' ⟨rfl,⟨nd,rfl⟩⟩;refine ⟨_,rfl,?_⟩))
   go_ret3
   exact ⟨by first | rfl | (simp [*] <;> rfl),by exact lb_ HB⟩
  ·replace c8 := Bool.eq_false_iff.mpr c8
   subst c8
   have H1 : (if (l2.length : Int) > 20 then (some (0,0,8)) else (if (l3.length : Int) = (l2.length : Int) then (R_Sheet.l0 k l0 a1 l2 l3 ([] : List Int) 0) else (some (0,0,3)))) = some (r1,r2,r3) := by rw [if_neg (show ¬ (false = true) by decide)] at H;exact H
   clear H
   have H := H1
   clear H1
   by_cases c10 : (l2.length : Int) > 20
   ·rw [if_pos c10] at H
    have c10b0 : decide (20 < (l2.length : Int)) = true := decide_eq_true c10
    have c10b1 : decide (20 < l2.length) = true := decide_eq_true (by omega)
    clear c10
    simp only [Option.some.injEq,Prod.mk.injEq] at H
    obtain ⟨rfl,rfl,rfl⟩ := H
    go_enter Try.func28,Try.ntmps28
    go_wp2_with (first | ((with_reducible refine gate_callee (f := 48) rfl ?_);refine goesL_ (some 19) rfl rfl Try.func48 (by kernel_rfl) rfl #[.slice A0 l0.length c0] rfl (by (try simp only [List.map_toArray,List.map_cons,List.map_nil]);first | done | rfl) ?_;(with_reducible refine (R_Check.calls k _ _ l0 t542 _ ?side1 ?side2 A5.out).mono ?_);(case side1 => repeat (first | exact HR0.out | (with_reducible refine Kd.C_alloc ?_ _) | (with_reducible refine Kd.C_drewN ?_ _) | (with_reducible refine Kd.C_drew ?_)));(case side2 => exact HC0.out);rintro e w11 ⟨rfl,hb⟩;refine ⟨_,rfl,?_⟩;have n0_ := aM_ (bT_ (by exact lb_ HB) hb);clear HB;have HB := n0_;clear n0_;(try clear hb);(try clear hb2);(try clear hk);(try clear hi)) | ((with_reducible refine gate_callee (f := 49) rfl ?_);refine goesL_ (some 24) rfl rfl Try.func49 (by kernel_rfl) rfl #[.int .i64 a1,.int .i64 0,.int .i64 1000000000] rfl (by (try simp only [List.map_toArray,List.map_cons,List.map_nil]);first | done | rfl) ?_;(with_reducible refine (R_beyond.calls a1 0 1000000000 false _ A7.out).mono ?_);rintro e w' ⟨rfl,⟨nd,rfl⟩⟩;refine ⟨_,rfl,?_⟩))
    go_ret3
    exact ⟨by first | rfl | (simp [*] <;> rfl),by exact lb_ HB⟩
   ·rw [if_neg c10] at H
    have c10b0 : decide (20 < (l2.length : Int)) = false := decide_eq_false c10
    have c10b1 : decide (20 < l2.length) = false := decide_eq_false (by omega)
    clear c10
    by_cases c12 : (l3.length : Int) = (l2.length : Int)
    ·rw [if_pos c12] at H
     have c12b0 : ((l3.length : Int) == (l2.length : Int)) = true := beq_iff_eq.mpr c12
     have c12b1 : ((l3.length : Int) != (l2.length : Int)) = false := bne_eq_false_iff_eq.mpr c12
     have c12b2 : (l3.length == l2.length) = true := by first | simpa using c12 | (simp at c12 ⊢;omega)
     clear c12
     have H' := aM_ H
     clear H
     go_enter Try.func28,Try.ntmps28
     go_wp2_with (first | ((with_reducible refine gate_callee (f := 48) rfl ?_);refine goesL_ (some 19) rfl rfl Try.func48 (by kernel_rfl) rfl #[.slice A0 l0.length c0] rfl (by (try simp only [List.map_toArray,List.map_cons,List.map_nil]);first | done | rfl) ?_;(with_reducible refine (R_Check.calls k _ _ l0 t542 _ ?side1 ?side2 A5.out).mono ?_);(case side1 => repeat (first | exact HR0.out | (with_reducible refine Kd.C_alloc ?_ _) | (with_reducible refine Kd.C_drewN ?_ _) | (with_reducible refine Kd.C_drew ?_)));(case side2 => exact HC0.out);rintro e w13 ⟨rfl,hb⟩;refine ⟨_,rfl,?_⟩;have n0_ := aM_ (bT_ (by exact lb_ HB) hb);clear HB;have HB := n0_;clear n0_;(try clear hb);(try clear hb2);(try clear hk);(try clear hi)) | ((with_reducible refine gate_callee (f := 49) rfl ?_);refine goesL_ (some 24) rfl rfl Try.func49 (by kernel_rfl) rfl #[.int .i64 a1,.int .i64 0,.int .i64 1000000000] rfl (by (try simp only [List.map_toArray,List.map_cons,List.map_nil]);first | done | rfl) ?_;(with_reducible refine (R_beyond.calls a1 0 1000000000 false _ A7.out).mono ?_);rintro e w' ⟨rfl,⟨nd,rfl⟩⟩;refine ⟨_,rfl,?_⟩))
     go_loopg [12,13] k (fun kq v12 v13 w' => ∃ (x12_1 : List Int) (x13_1 : Int),v13 = .int .i64 x13_1 ∧ Aside0 (R_Sheet.l0 kq l0 a1 l2 l3 x12_1 x13_1 = some (r1,r2,r3)) ∧ Aside0 (kq ≤ k) ∧ Aside0 (Kd.R (Kd.int .i64) 3 w' w.heap.size (fun _ => True) v12 x12_1) ∧ Aside0 (Below w.heap.size w w'))
     case atStart => exact ⟨(([] : List Int)),(0),(by first | rfl | (simp;done) | (simp [*];done)),H',⟨Nat.le_refl _⟩,⟨by first | exact Kd.R_nil _ _ _ _ _ | exact Kd.N_nil _ _ _ _ _ | exact Kd.V_nil _ _ _ _ _ | exact Kd.Q_nil _ _ _ _ _ | exact Kd.S_nil _ _ _ _ _⟩,⟨by exact lb_ HB⟩⟩
     case round =>
      clear H'
      try clear c1
      try clear c2
      try clear p2
      try clear c3
      try clear c4
      try clear c6
      try clear c6b0
      try clear c6b1
      try clear c8
      try clear c10
      try clear c10b0
      try clear c10b1
      try clear c12
      try clear c12b0
      try clear c12b1
      try clear c12b2
      obtain ⟨x12_1,x13_1,rfl,HA,HK1,HO_12,HB⟩ := hrel
      cases gk with
      | zero => exact absurd HA.out (by simp [R_Sheet.l0])
      | succ k1 =>
       have H := HA.out
       clear HA
       simp only [R_Sheet.l0] at H
       by_cases c14 : x13_1 < (l3.length : Int)
       ·rw [if_pos c14] at H
        have c14b0 : decide (x13_1 < (l3.length : Int)) = true := decide_eq_true c14
        clear c14
        by_cases c15 : 0 ≤ x13_1
        ·rw [if_pos c15] at H
         have c15b0 : decide (0 ≤ x13_1) = true := decide_eq_true c15
         clear c15
         by_cases c16 : x13_1 < (l2.length : Int)
         ·rw [if_pos c16] at H
          have c16b0 : decide (x13_1 < (l2.length : Int)) = true := decide_eq_true c16
          clear c16
          replace H := oB_ H
          obtain ⟨⟨t546,t547⟩,A170,H⟩ := H
          replace H : (if t547 = 0 then (if x12_1.length < 17592186044416 then (R_Sheet.l0 k1 l0 a1 l2 l3 (x12_1 ++ [t546]) (wrap64 (x13_1 + 1))) else (none)) else (some (0,0,t547))) = some (r1,r2,r3) := H
          have A17 := aM_ A170
          clear A170
          by_cases c18 : t547 = 0
          ·rw [if_pos c18] at H
           have c18b0 : (t547 == 0) = true := beq_iff_eq.mpr c18
           have c18b1 : (t547 != 0) = false := bne_eq_false_iff_eq.mpr c18
           clear c18
           by_cases c19 : x12_1.length < 17592186044416
           ·rw [if_pos c19] at H
            have LMc19 := aM_ c19
            clear c19
            obtain ⟨y548,hy548⟩ : ∃ y_ : List Int,y_ = (x12_1 ++ [t546]) := ⟨_,rfl⟩
            replace H : (R_Sheet.l0 k1 l0 a1 l2 l3 y548 (wrap64 (x13_1 + 1))) = some (r1,r2,r3) := by first | (rw [hy548];with_reducible exact H) | (have H2_ := (Option.bind_some _ _).symm.trans H;rw [hy548];with_reducible exact H2_) | (have H2_ := (Option.bind_some _ _).symm.trans H;with_reducible exact H2_) | with_reducible exact H | (rw [hy548];exact H) | exact H
            have Ny548 := aM_ hy548
            clear hy548
            have H' := aM_ H
            clear H
            try go_wp2
            have n0_ := aM_ (Kd.R_drew HO_12.out)
            have n1_ := aM_ (bD_ HB.out)
            clear HO_12
            clear HB
            have HO_12 := n0_
            have HB := n1_
            clear n0_ n1_
            have p544 : 0 ≤ (x13_1 : Int) := of_decide_eq_true (by first | (with_reducible assumption) | assumption)
            have q544 : x13_1 < (l2.length : Int) := of_decide_eq_true (by first | (with_reducible assumption) | assumption)
            obtain ⟨ad544,e544,hx544_0,hx544_1⟩ := at_T34 HR2.out x13_1 p544 q544
            have hw544_1 := hx544_1
            have hw544_0 := hx544_0
            cases e544
            replace hx544_0 := (HB.out.cell (World.block_lt_of_cell? w _ hx544_0)).trans hx544_0
            replace hx544_1 := (HB.out.cell (World.block_lt_of_cell? w _ hx544_1)).trans hx544_1
            replace p544 := eq_true p544
            replace q544 := eq_true q544
            have p545 : 0 ≤ (x13_1 : Int) := of_decide_eq_true (by first | (with_reducible assumption) | assumption)
            have q545 : x13_1 < (l3.length : Int) := of_decide_eq_true (by first | (with_reducible assumption) | assumption)
            obtain ⟨ad545,A545_0,c545_0,e545,hx545_0,hl545_0,hi545_0⟩ := at_L8 HR3.out x13_1 p545 q545
            have hw545_0 := hx545_0
            cases e545
            replace hx545_0 := (HB.out.cell (World.block_lt_of_cell? w _ hx545_0)).trans hx545_0
            have HR545_0 := aM_ hi545_0
            have HC545_0 := aM_ hl545_0
            clear hi545_0 hl545_0
            replace p545 := eq_true p545
            replace q545 := eq_true q545
            refine start_ (n := 16) (S := fun w' => w'.cell? (ad544.add ((x13_1).toNat * 2)) = some (.int .i64 ((rd_T34 l2 x13_1).f0)) ∧ w'.cell? ⟨(ad544.add ((x13_1).toNat * 2)).block,(ad544.add ((x13_1).toNat * 2)).off + 1,none⟩ = some (.int .i64 ((rd_T34 l2 x13_1).f1)) ∧ w'.cell? (ad545.add (x13_1).toNat) = some (.slice A545_0 (rd_L8 l3 x13_1).length c545_0)) (ds := []) #[false,false,false,false,false,false,false,false,false,false,false,false,false,false,false,false] (by kernel_rfl) rfl rfl ⟨((HB.out.cell (World.block_lt_of_cell? w _ hw544_0)).trans hw544_0),((HB.out.cell (World.block_lt_of_cell? w _ hw544_1)).trans hw544_1),((HB.out.cell (World.block_lt_of_cell? w _ hw545_0)).trans hw545_0)⟩ (fun hHeld => ?_);refine with_tabW R_Sheet.tab14 R_Sheet.bits14 (fun HT_ HW_ => ?_)
            generalize wr.drew = w20 at HO_12 HB HR545_0 hx544_0 hx544_1 hx545_0 hHeld ⊢
            refine pure_ (i := 0) (N := some 40) (v := ?_) (a' := ?_) #[true,false,false,false,false,false,false,false,false,false,false,false,false,false,false,false] rfl rfl (any_of HT_.out (by kernel_rfl)) (fun _ _ _ h => h) (Or.inl ⟨by rfl,?_⟩) ?_ ?_
            rotate_left
            ·intro w'
             go_simp
             with_reducible rfl
            rotate_left
            ·simp only [Act.put,sB_,sZ_,sS_,i64_w,i32_w]
             rfl
            refine pure_ (i := 1) (N := some 41) (v := ?_) (a' := ?_) #[true,true,false,false,false,false,false,false,false,false,false,false,false,false,false,false] rfl rfl (any_of HT_.out (by kernel_rfl)) (fun _ _ _ h => h) (Or.inl ⟨by rfl,?_⟩) ?_ ?_
            rotate_left
            ·intro w'
             go_simp
             with_reducible rfl
            rotate_left
            ·simp only [Act.put,sB_,sZ_,sS_,i64_w,i32_w]
             rfl
            refine pure_ (i := 2) (N := some 42) (v := ?_) (a' := ?_) #[true,true,true,false,false,false,false,false,false,false,false,false,false,false,false,false] rfl rfl (any_of HT_.out (by kernel_rfl)) (fun _ _ _ h => h) (Or.inl ⟨by rfl,?_⟩) ?_ ?_
            rotate_left
            ·intro w'
             go_simp
             with_reducible rfl
            rotate_left
            ·simp only [Act.put,sB_,sZ_,sS_,i64_w,i32_w]
             rfl
            refine pure_ (i := 3) (N := some 43) (v := ?_) (a' := ?_) #[true,true,true,true,false,false,false,false,false,false,false,false,false,false,false,false] rfl rfl (any_of HT_.out (by kernel_rfl)) (fun _ _ _ h => h) (Or.inl ⟨by rfl,?_⟩) ?_ ?_
            rotate_left
            ·intro w'
             go_simp
             with_reducible rfl
            rotate_left
            ·simp only [Act.put,sB_,sZ_,sS_,i64_w,i32_w]
             rfl
            refine pure_ (i := 4) (N := some 44) (v := ?_) (a' := ?_) #[true,true,true,true,true,false,false,false,false,false,false,false,false,false,false,false] rfl rfl (any_of HT_.out (by kernel_rfl)) (fun _ _ _ h => h) (Or.inl ⟨by rfl,?_⟩) ?_ ?_
            rotate_left
            ·intro w'
             go_simp
             with_reducible rfl
            rotate_left
            ·simp only [Act.put,sB_,sZ_,sS_,i64_w,i32_w]
             rfl
            refine pure_ (i := 6) (N := some 46) (v := ?_) (a' := ?_) #[true,true,true,true,true,false,true,false,false,false,false,false,false,false,false,false] rfl rfl (any_of HT_.out (by kernel_rfl)) (fun _ _ _ h => h) (Or.inl ⟨by rfl,?_⟩) ?_ ?_
            rotate_left
            ·intro w'
             go_simp
             with_reducible rfl
            rotate_left
            ·simp only [Act.put,sB_,sZ_,sS_,i64_w,i32_w]
             rfl
            refine pure_ (i := 7) (N := some 47) (v := ?_) (a' := ?_) #[true,true,true,true,true,false,true,true,false,false,false,false,false,false,false,false] rfl rfl (any_of HT_.out (by kernel_rfl)) (fun _ _ _ h => h) (Or.inl ⟨by rfl,?_⟩) ?_ ?_
            rotate_left
            ·intro w'
             go_simp
             with_reducible rfl
            rotate_left
            ·simp only [Act.put,sB_,sZ_,sS_,i64_w,i32_w]
             rfl
            refine pure_ (i := 8) (N := some 48) (v := ?_) (a' := ?_) #[true,true,true,true,true,false,true,true,true,false,false,false,false,false,false,false] rfl rfl (any_of HT_.out (by kernel_rfl)) (fun _ _ _ h => h) (Or.inl ⟨by rfl,?_⟩) ?_ ?_
            rotate_left
            ·intro w'
             go_simp
             with_reducible rfl
            rotate_left
            ·simp only [Act.put,sB_,sZ_,sS_,i64_w,i32_w]
             rfl
            refine take_ (i := 5) (N := some 45) (v := ?_) (a' := ?_) #[true,true,true,true,true,true,true,true,true,false,false,false,false,false,false,false] rfl rfl (take_ofW HT_.out HW_.out (by kernel_rfl)) (fun _ _ _ h => h) (Or.inl ⟨by rfl,?_⟩) hHeld ?_ ?_
            rotate_left
            ·rintro w' ⟨s0,s1,s2⟩
             go_simp
             with_reducible rfl
            rotate_left
            ·simp only [Act.put,sB_,sZ_,sS_,i64_w,i32_w]
             rfl
            refine take_ (i := 9) (N := some 49) (v := ?_) (a' := ?_) #[true,true,true,true,true,true,true,true,true,true,false,false,false,false,false,false] rfl rfl (take_ofW HT_.out HW_.out (by kernel_rfl)) (fun _ _ _ h => h) (Or.inl ⟨by rfl,?_⟩) hHeld ?_ ?_
            rotate_left
            ·rintro w' ⟨s0,s1,s2⟩
             go_simp
             with_reducible rfl
            rotate_left
            ·simp only [Act.put,sB_,sZ_,sS_,i64_w,i32_w]
             rfl
            refine one_ (i := 10) (N := some 50) #[true,true,true,true,true,true,true,true,true,true,true,false,false,false,false,false] rfl rfl (one_of HT_.out (by kernel_rfl)) (by decide) (fun K hK => ?_)
            refine goes_ Try.func60 (by kernel_rfl) rfl #[.slice A0 l0.length c0,.int .i64 a1,.agg #[.int .i64 ((rd_T34 l2 x13_1).f0),.int .i64 ((rd_T34 l2 x13_1).f1)],.slice A545_0 (rd_L8 l3 x13_1).length c545_0] (by rfl) rfl rfl (by (try simp only [List.map_toArray,List.map_cons,List.map_nil]);first | done | rfl) ?_
            with_reducible refine (R_test.calls k1 _ _ l0 a1 ((rd_T34 l2 x13_1).f0) ((rd_T34 l2 x13_1).f1) _ _ (rd_L8 l3 x13_1) t546 t547 _ ?side1 ?side2 ?side3 ?side4 A17.out).mono ?_
            (case side1 => exact Kd.C_below HR0.out (lb_ HB))
            (case side2 => exact HC0.out)
            (case side3 => repeat (first | exact (Kd.C_below HR545_0.out HB.out) | (with_reducible refine Kd.C_alloc ?_ _) | (with_reducible refine Kd.C_drewN ?_ _) | (with_reducible refine Kd.C_drew ?_)))
            (case side4 => exact HC545_0.out)
            rintro e w21 ⟨rfl,hb⟩
            refine ⟨_,rfl,?_⟩
            have n0_ := aM_ (Kd.R_below (by exact lo_ HO_12) hb)
            have n1_ := aM_ (bT_ (by exact lb_ HB) hb)
            clear HO_12
            clear HB
            have HO_12 := n0_
            have HB := n1_
            clear n0_ n1_
            (try clear hb)
            (try clear hb2)
            (try clear hk)
            (try clear hi)
            refine hK.out _ _ ⟨((HB.out.cell (World.block_lt_of_cell? w _ hw544_0)).trans hw544_0),((HB.out.cell (World.block_lt_of_cell? w _ hw544_1)).trans hw544_1),((HB.out.cell (World.block_lt_of_cell? w _ hw545_0)).trans hw545_0)⟩ (fun hHeld => ?_)
            clear hK K
            refine norm_ (a' := ?_) ?_ ?_
            rotate_left
            ·show Act.put _ (some 50) _ = _
             simp only [Act.put,sB_,sZ_,sS_,i64_w,i32_w]
             rfl
            refine pure_ (i := 11) (N := some 39) (v := ?_) (a' := ?_) #[true,true,true,true,true,true,true,true,true,true,true,true,false,false,false,false] rfl rfl (any_of HT_.out (by kernel_rfl)) (fun _ _ _ h => h) (Or.inl ⟨by rfl,?_⟩) ?_ ?_
            rotate_left
            ·intro w'
             go_simp
             with_reducible rfl
            rotate_left
            ·simp only [Act.put,sB_,sZ_,sS_,i64_w,i32_w]
             rfl
            refine pure_ (i := 12) (N := some 51) (v := ?_) (a' := ?_) #[true,true,true,true,true,true,true,true,true,true,true,true,true,false,false,false] rfl rfl (any_of HT_.out (by kernel_rfl)) (fun _ _ _ h => h) (Or.inl ⟨by rfl,?_⟩) ?_ ?_
            rotate_left
            ·intro w'
             go_simp
             with_reducible rfl
            rotate_left
            ·simp only [Act.put,sB_,sZ_,sS_,i64_w,i32_w]
             rfl
            refine pure_ (i := 13) (N := some 52) (v := ?_) (a' := ?_) #[true,true,true,true,true,true,true,true,true,true,true,true,true,true,false,false] rfl rfl (any_of HT_.out (by kernel_rfl)) (fun _ _ _ h => h) (Or.inl ⟨by rfl,?_⟩) ?_ ?_
            rotate_left
            ·intro w'
             go_simp
             with_reducible rfl
            rotate_left
            ·simp only [Act.put,sB_,sZ_,sS_,i64_w,i32_w]
             rfl
            refine pure_ (i := 14) (N := some 14) (v := ?_) (a' := ?_) #[true,true,true,true,true,true,true,true,true,true,true,true,true,true,true,false] rfl rfl (any_of HT_.out (by kernel_rfl)) (fun _ _ _ h => h) (Or.inl ⟨by rfl,?_⟩) ?_ ?_
            rotate_left
            ·intro w'
             go_simp
             with_reducible rfl
            rotate_left
            ·simp only [Act.put,sB_,sZ_,sS_,i64_w,i32_w]
             rfl
            refine pure_ (i := 15) (N := some 15) (v := ?_) (a' := ?_) #[true,true,true,true,true,true,true,true,true,true,true,true,true,true,true,true] rfl rfl (any_of HT_.out (by kernel_rfl)) (fun _ _ _ h => h) (Or.inl ⟨by rfl,?_⟩) ?_ ?_
            rotate_left
            ·intro w'
             go_simp
             with_reducible rfl
            rotate_left
            ·simp only [Act.put,sB_,sZ_,sS_,i64_w,i32_w]
             rfl
            refine done_ (done_of HT_.out (by kernel_rfl)) ?_
            try go_wp2_with (first | ((with_reducible refine gate_builtin (b := .append) (xs := #[.tmp 56,.tmp 58]) rfl ?_);at_builtin;refine Kd.R_append (Kd.int .i64) (w0 := w) w.heap.size rfl (.tmp 56) (.tmp 58) 22 3 (.int .i64 0) 8 rfl Try.underlying22 info3 rfl (by decide) (by omega) u12 x12_1 t546 [.int .i64 t546] (fun _ => True) (fun _ => False) rfl rfl ?aP (fun _ hk => hk.elim) ?aF ?aO ?aB ?aS ?aL ?_;(case aP => exact rfl);(case aB => exact (by exact lb_ HB));(case aF => exact (fun _ _ => trivial));(case aO => exact (by exact lo_ HO_12));(case aS => exact (below_size (by exact lb_ HB)));(case aL => have := LMc19.out;omega);intro v549 w22 ho hb hg hat;rw [← Ny548.out] at ho;have n0_ := aM_ (hb);have n1_ := aM_ (ho);clear HB;clear HO_12;have HB := n0_;have HO550 := n1_;clear n0_ n1_;clear ho hb hg hat))
            go_roundg k1
            case measure => have := HK1.out;omega
            case rel => exact ⟨(y548),(wrap64 (x13_1 + 1)),(by first | rfl | (simp;done) | (simp [*];done)),H',⟨by have := HK1.out;omega⟩,⟨by exact lo_ HO550⟩,⟨by exact lb_ HB⟩⟩
           ·rw [if_neg c19] at H
            exact absurd H (by simp)
          ·rw [if_neg c18] at H
           have c18b0 : (t547 == 0) = false := beq_eq_false_iff_ne.mpr c18
           have c18b1 : (t547 != 0) = true := bne_iff_ne.mpr c18
           simp only [Option.some.injEq,Prod.mk.injEq] at H
           obtain ⟨rfl,rfl,rfl⟩ := H
           try go_wp2
           have n0_ := aM_ (Kd.R_drew HO_12.out)
           have n1_ := aM_ (bD_ HB.out)
           clear HO_12
           clear HB
           have HO_12 := n0_
           have HB := n1_
           clear n0_ n1_
           have p544 : 0 ≤ (x13_1 : Int) := of_decide_eq_true (by first | (with_reducible assumption) | assumption)
           have q544 : x13_1 < (l2.length : Int) := of_decide_eq_true (by first | (with_reducible assumption) | assumption)
           obtain ⟨ad544,e544,hx544_0,hx544_1⟩ := at_T34 HR2.out x13_1 p544 q544
           have hw544_1 := hx544_1
           have hw544_0 := hx544_0
           cases e544
           replace hx544_0 := (HB.out.cell (World.block_lt_of_cell? w _ hx544_0)).trans hx544_0
           replace hx544_1 := (HB.out.cell (World.block_lt_of_cell? w _ hx544_1)).trans hx544_1
           replace p544 := eq_true p544
           replace q544 := eq_true q544
           have p545 : 0 ≤ (x13_1 : Int) := of_decide_eq_true (by first | (with_reducible assumption) | assumption)
           have q545 : x13_1 < (l3.length : Int) := of_decide_eq_true (by first | (with_reducible assumption) | assumption)
           obtain ⟨ad545,A545_0,c545_0,e545,hx545_0,hl545_0,hi545_0⟩ := at_L8 HR3.out x13_1 p545 q545
           have hw545_0 := hx545_0
           cases e545
           replace hx545_0 := (HB.out.cell (World.block_lt_of_cell? w _ hx545_0)).trans hx545_0
           have HR545_0 := aM_ hi545_0
           have HC545_0 := aM_ hl545_0
           clear hi545_0 hl545_0
           replace p545 := eq_true p545
           replace q545 := eq_true q545
           refine start_ (n := 16) (S := fun w' => w'.cell? (ad544.add ((x13_1).toNat * 2)) = some (.int .i64 ((rd_T34 l2 x13_1).f0)) ∧ w'.cell? ⟨(ad544.add ((x13_1).toNat * 2)).block,(ad544.add ((x13_1).toNat * 2)).off + 1,none⟩ = some (.int .i64 ((rd_T34 l2 x13_1).f1)) ∧ w'.cell? (ad545.add (x13_1).toNat) = some (.slice A545_0 (rd_L8 l3 x13_1).length c545_0)) (ds := []) #[false,false,false,false,false,false,false,false,false,false,false,false,false,false,false,false] (by kernel_rfl) rfl rfl ⟨((HB.out.cell (World.block_lt_of_cell? w _ hw544_0)).trans hw544_0),((HB.out.cell (World.block_lt_of_cell? w _ hw544_1)).trans hw544_1),((HB.out.cell (World.block_lt_of_cell? w _ hw545_0)).trans hw545_0)⟩ (fun hHeld => ?_);refine with_tabW R_Sheet.tab14 R_Sheet.bits14 (fun HT_ HW_ => ?_)
           generalize wr.drew = w23 at HO_12 HB HR545_0 hx544_0 hx544_1 hx545_0 hHeld ⊢
           refine pure_ (i := 0) (N := some 40) (v := ?_) (a' := ?_) #[true,false,false,false,false,false,false,false,false,false,false,false,false,false,false,false] rfl rfl (any_of HT_.out (by kernel_rfl)) (fun _ _ _ h => h) (Or.inl ⟨by rfl,?_⟩) ?_ ?_
           rotate_left
           ·intro w'
            go_simp
            with_reducible rfl
           rotate_left
           ·simp only [Act.put,sB_,sZ_,sS_,i64_w,i32_w]
            rfl
           refine pure_ (i := 1) (N := some 41) (v := ?_) (a' := ?_) #[true,true,false,false,false,false,false,false,false,false,false,false,false,false,false,false] rfl rfl (any_of HT_.out (by kernel_rfl)) (fun _ _ _ h => h) (Or.inl ⟨by rfl,?_⟩) ?_ ?_
           rotate_left
           ·intro w'
            go_simp
            with_reducible rfl
           rotate_left
           ·simp only [Act.put,sB_,sZ_,sS_,i64_w,i32_w]
            rfl
           refine pure_ (i := 2) (N := some 42) (v := ?_) (a' := ?_) #[true,true,true,false,false,false,false,false,false,false,false,false,false,false,false,false] rfl rfl (any_of HT_.out (by kernel_rfl)) (fun _ _ _ h => h) (Or.inl ⟨by rfl,?_⟩) ?_ ?_
           rotate_left
           ·intro w'
            go_simp
            with_reducible rfl
           rotate_left
           ·simp only [Act.put,sB_,sZ_,sS_,i64_w,i32_w]
            rfl
           refine pure_ (i := 3) (N := some 43) (v := ?_) (a' := ?_) #[true,true,true,true,false,false,false,false,false,false,false,false,false,false,false,false] rfl rfl (any_of HT_.out (by kernel_rfl)) (fun _ _ _ h => h) (Or.inl ⟨by rfl,?_⟩) ?_ ?_
           rotate_left
           ·intro w'
            go_simp
            with_reducible rfl
           rotate_left
           ·simp only [Act.put,sB_,sZ_,sS_,i64_w,i32_w]
            rfl
           refine pure_ (i := 4) (N := some 44) (v := ?_) (a' := ?_) #[true,true,true,true,true,false,false,false,false,false,false,false,false,false,false,false] rfl rfl (any_of HT_.out (by kernel_rfl)) (fun _ _ _ h => h) (Or.inl ⟨by rfl,?_⟩) ?_ ?_
           rotate_left
           ·intro w'
            go_simp
            with_reducible rfl
           rotate_left
           ·simp only [Act.put,sB_,sZ_,sS_,i64_w,i32_w]
            rfl
           refine pure_ (i := 6) (N := some 46) (v := ?_) (a' := ?_) #[true,true,true,true,true,false,true,false,false,false,false,false,false,false,false,false] rfl rfl (any_of HT_.out (by kernel_rfl)) (fun _ _ _ h => h) (Or.inl ⟨by rfl,?_⟩) ?_ ?_
           rotate_left
           ·intro w'
            go_simp
            with_reducible rfl
           rotate_left
           ·simp only [Act.put,sB_,sZ_,sS_,i64_w,i32_w]
            rfl
           refine pure_ (i := 7) (N := some 47) (v := ?_) (a' := ?_) #[true,true,true,true,true,false,true,true,false,false,false,false,false,false,false,false] rfl rfl (any_of HT_.out (by kernel_rfl)) (fun _ _ _ h => h) (Or.inl ⟨by rfl,?_⟩) ?_ ?_
           rotate_left
           ·intro w'
            go_simp
            with_reducible rfl
           rotate_left
           ·simp only [Act.put,sB_,sZ_,sS_,i64_w,i32_w]
            rfl
           refine pure_ (i := 8) (N := some 48) (v := ?_) (a' := ?_) #[true,true,true,true,true,false,true,true,true,false,false,false,false,false,false,false] rfl rfl (any_of HT_.out (by kernel_rfl)) (fun _ _ _ h => h) (Or.inl ⟨by rfl,?_⟩) ?_ ?_
           rotate_left
           ·intro w'
            go_simp
            with_reducible rfl
           rotate_left
           ·simp only [Act.put,sB_,sZ_,sS_,i64_w,i32_w]
            rfl
           refine take_ (i := 5) (N := some 45) (v := ?_) (a' := ?_) #[true,true,true,true,true,true,true,true,true,false,false,false,false,false,false,false] rfl rfl (take_ofW HT_.out HW_.out (by kernel_rfl)) (fun _ _ _ h => h) (Or.inl ⟨by rfl,?_⟩) hHeld ?_ ?_
           rotate_left
           ·rintro w' ⟨s0,s1,s2⟩
            go_simp
            with_reducible rfl
           rotate_left
           ·simp only [Act.put,sB_,sZ_,sS_,i64_w,i32_w]
            rfl
           refine take_ (i := 9) (N := some 49) (v := ?_) (a' := ?_) #[true,true,true,true,true,true,true,true,true,true,false,false,false,false,false,false] rfl rfl (take_ofW HT_.out HW_.out (by kernel_rfl)) (fun _ _ _ h => h) (Or.inl ⟨by rfl,?_⟩) hHeld ?_ ?_
           rotate_left
           ·rintro w' ⟨s0,s1,s2⟩
            go_simp
            with_reducible rfl
           rotate_left
           ·simp only [Act.put,sB_,sZ_,sS_,i64_w,i32_w]
            rfl
           refine one_ (i := 10) (N := some 50) #[true,true,true,true,true,true,true,true,true,true,true,false,false,false,false,false] rfl rfl (one_of HT_.out (by kernel_rfl)) (by decide) (fun K hK => ?_)
           refine goes_ Try.func60 (by kernel_rfl) rfl #[.slice A0 l0.length c0,.int .i64 a1,.agg #[.int .i64 ((rd_T34 l2 x13_1).f0),.int .i64 ((rd_T34 l2 x13_1).f1)],.slice A545_0 (rd_L8 l3 x13_1).length c545_0] (by rfl) rfl rfl (by (try simp only [List.map_toArray,List.map_cons,List.map_nil]);first | done | rfl) ?_
           with_reducible refine (R_test.calls k1 _ _ l0 a1 ((rd_T34 l2 x13_1).f0) ((rd_T34 l2 x13_1).f1) _ _ (rd_L8 l3 x13_1) t546 t547 _ ?side1 ?side2 ?side3 ?side4 A17.out).mono ?_
           (case side1 => exact Kd.C_below HR0.out (lb_ HB))
           (case side2 => exact HC0.out)
           (case side3 => repeat (first | exact (Kd.C_below HR545_0.out HB.out) | (with_reducible refine Kd.C_alloc ?_ _) | (with_reducible refine Kd.C_drewN ?_ _) | (with_reducible refine Kd.C_drew ?_)))
           (case side4 => exact HC545_0.out)
           rintro e w24 ⟨rfl,hb⟩
           refine ⟨_,rfl,?_⟩
           have n0_ := aM_ (Kd.R_below (by exact lo_ HO_12) hb)
           have n1_ := aM_ (bT_ (by exact lb_ HB) hb)
           clear HO_12
           clear HB
           have HO_12 := n0_
           have HB := n1_
           clear n0_ n1_
           (try clear hb)
           (try clear hb2)
           (try clear hk)
           (try clear hi)
           refine hK.out _ _ ⟨((HB.out.cell (World.block_lt_of_cell? w _ hw544_0)).trans hw544_0),((HB.out.cell (World.block_lt_of_cell? w _ hw544_1)).trans hw544_1),((HB.out.cell (World.block_lt_of_cell? w _ hw545_0)).trans hw545_0)⟩ (fun hHeld => ?_)
           clear hK K
           refine norm_ (a' := ?_) ?_ ?_
           rotate_left
           ·show Act.put _ (some 50) _ = _
            simp only [Act.put,sB_,sZ_,sS_,i64_w,i32_w]
            rfl
           refine pure_ (i := 11) (N := some 39) (v := ?_) (a' := ?_) #[true,true,true,true,true,true,true,true,true,true,true,true,false,false,false,false] rfl rfl (any_of HT_.out (by kernel_rfl)) (fun _ _ _ h => h) (Or.inl ⟨by rfl,?_⟩) ?_ ?_
           rotate_left
           ·intro w'
            go_simp
            with_reducible rfl
           rotate_left
           ·simp only [Act.put,sB_,sZ_,sS_,i64_w,i32_w]
            rfl
           refine pure_ (i := 12) (N := some 51) (v := ?_) (a' := ?_) #[true,true,true,true,true,true,true,true,true,true,true,true,true,false,false,false] rfl rfl (any_of HT_.out (by kernel_rfl)) (fun _ _ _ h => h) (Or.inl ⟨by rfl,?_⟩) ?_ ?_
           rotate_left
           ·intro w'
            go_simp
            with_reducible rfl
           rotate_left
           ·simp only [Act.put,sB_,sZ_,sS_,i64_w,i32_w]
            rfl
           refine pure_ (i := 13) (N := some 52) (v := ?_) (a' := ?_) #[true,true,true,true,true,true,true,true,true,true,true,true,true,true,false,false] rfl rfl (any_of HT_.out (by kernel_rfl)) (fun _ _ _ h => h) (Or.inl ⟨by rfl,?_⟩) ?_ ?_
           rotate_left
           ·intro w'
            go_simp
            with_reducible rfl
           rotate_left
           ·simp only [Act.put,sB_,sZ_,sS_,i64_w,i32_w]
            rfl
           refine pure_ (i := 14) (N := some 14) (v := ?_) (a' := ?_) #[true,true,true,true,true,true,true,true,true,true,true,true,true,true,true,false] rfl rfl (any_of HT_.out (by kernel_rfl)) (fun _ _ _ h => h) (Or.inl ⟨by rfl,?_⟩) ?_ ?_
           rotate_left
           ·intro w'
            go_simp
            with_reducible rfl
           rotate_left
           ·simp only [Act.put,sB_,sZ_,sS_,i64_w,i32_w]
            rfl
           refine pure_ (i := 15) (N := some 15) (v := ?_) (a' := ?_) #[true,true,true,true,true,true,true,true,true,true,true,true,true,true,true,true] rfl rfl (any_of HT_.out (by kernel_rfl)) (fun _ _ _ h => h) (Or.inl ⟨by rfl,?_⟩) ?_ ?_
           rotate_left
           ·intro w'
            go_simp
            with_reducible rfl
           rotate_left
           ·simp only [Act.put,sB_,sZ_,sS_,i64_w,i32_w]
            rfl
           refine done_ (done_of HT_.out (by kernel_rfl)) ?_
           try go_wp2
           go_ret3
           exact ⟨by first | rfl | (simp [*] <;> rfl),by exact lb_ HB⟩
         ·rw [if_neg c16] at H
          exact absurd H (by simp)
        ·rw [if_neg c15] at H
         exact absurd H (by simp)
       ·rw [if_neg c14] at H
        have c14b0 : decide (x13_1 < (l3.length : Int)) = false := decide_eq_false c14
        clear c14
        replace H := oB_ H
        obtain ⟨⟨t551,t552⟩,A250,H⟩ := H
        replace H : (some (t551,t552,0)) = some (r1,r2,r3) := H
        have A25 := aM_ A250
        clear A250
        simp only [Option.some.injEq,Prod.mk.injEq] at H
        obtain ⟨rfl,rfl,rfl⟩ := H
        obtain ⟨Ao26,co26,eo26⟩ := Kd.R_slice HO_12.out
        subst eo26
        go_wp2_with (first | ((with_reducible refine gate_callee (f := 61) rfl ?_);refine goesL_ (some 62) rfl rfl Try.func61 (by kernel_rfl) rfl #[.slice Ao26 x12_1.length co26] rfl (by (try simp only [List.map_toArray,List.map_cons,List.map_nil]);first | done | rfl) ?_;(with_reducible refine (R_worst.calls k1 _ _ x12_1 t551 t552 _ ?side1 ?side2 A25.out).mono ?_);(case side1 => exact lc_ (Kd.R_reads' HO_12.out).2.2);(case side2 => exact (Kd.R_reads' HO_12.out).2.1);rintro e w27 ⟨rfl,hb⟩;refine ⟨_,rfl,?_⟩;have n0_ := aM_ (Kd.R_below (by exact lo_ HO_12) hb);have n1_ := aM_ (bT_ (by exact lb_ HB) hb);clear HO_12;clear HB;have HO_12 := n0_;have HB := n1_;clear n0_ n1_;(try clear hb);(try clear hb2);(try clear hk);(try clear hi)))
        go_ret3
        exact ⟨by first | rfl | (simp [*] <;> rfl),by exact lb_ HB⟩
    ·rw [if_neg c12] at H
     have c12b0 : ((l3.length : Int) == (l2.length : Int)) = false := beq_eq_false_iff_ne.mpr c12
     have c12b1 : ((l3.length : Int) != (l2.length : Int)) = true := bne_iff_ne.mpr c12
     have c12b2 : (l3.length == l2.length) = false := by first | simpa using c12 | (simp at c12 ⊢;omega)
     simp only [Option.some.injEq,Prod.mk.injEq] at H
     obtain ⟨rfl,rfl,rfl⟩ := H
     go_enter Try.func28,Try.ntmps28
     go_wp2_with (first | ((with_reducible refine gate_callee (f := 48) rfl ?_);refine goesL_ (some 19) rfl rfl Try.func48 (by kernel_rfl) rfl #[.slice A0 l0.length c0] rfl (by (try simp only [List.map_toArray,List.map_cons,List.map_nil]);first | done | rfl) ?_;(with_reducible refine (R_Check.calls k _ _ l0 t542 _ ?side1 ?side2 A5.out).mono ?_);(case side1 => repeat (first | exact HR0.out | (with_reducible refine Kd.C_alloc ?_ _) | (with_reducible refine Kd.C_drewN ?_ _) | (with_reducible refine Kd.C_drew ?_)));(case side2 => exact HC0.out);rintro e w28 ⟨rfl,hb⟩;refine ⟨_,rfl,?_⟩;have n0_ := aM_ (bT_ (by exact lb_ HB) hb);clear HB;have HB := n0_;clear n0_;(try clear hb);(try clear hb2);(try clear hk);(try clear hi)) | ((with_reducible refine gate_callee (f := 49) rfl ?_);refine goesL_ (some 24) rfl rfl Try.func49 (by kernel_rfl) rfl #[.int .i64 a1,.int .i64 0,.int .i64 1000000000] rfl (by (try simp only [List.map_toArray,List.map_cons,List.map_nil]);first | done | rfl) ?_;(with_reducible refine (R_beyond.calls a1 0 1000000000 false _ A7.out).mono ?_);rintro e w' ⟨rfl,⟨nd,rfl⟩⟩;refine ⟨_,rfl,?_⟩))
     go_ret3
     exact ⟨by first | rfl | (simp [*] <;> rfl),by exact lb_ HB⟩
 ·rw [if_neg c6] at H
  have c6b0 : (t542 == 0) = false := beq_eq_false_iff_ne.mpr c6
  have c6b1 : (t542 != 0) = true := bne_iff_ne.mpr c6
  simp only [Option.some.injEq,Prod.mk.injEq] at H
  obtain ⟨rfl,rfl,rfl⟩ := H
  go_enter Try.func28,Try.ntmps28
  go_wp2_with (first | ((with_reducible refine gate_callee (f := 48) rfl ?_);refine goesL_ (some 19) rfl rfl Try.func48 (by kernel_rfl) rfl #[.slice A0 l0.length c0] rfl (by (try simp only [List.map_toArray,List.map_cons,List.map_nil]);first | done | rfl) ?_;(with_reducible refine (R_Check.calls k _ _ l0 t542 _ ?side1 ?side2 A5.out).mono ?_);(case side1 => repeat (first | exact HR0.out | (with_reducible refine Kd.C_alloc ?_ _) | (with_reducible refine Kd.C_drewN ?_ _) | (with_reducible refine Kd.C_drew ?_)));(case side2 => exact HC0.out);rintro e w29 ⟨rfl,hb⟩;refine ⟨_,rfl,?_⟩;have n0_ := aM_ (bT_ (by exact lb_ HB) hb);clear HB;have HB := n0_;clear n0_;(try clear hb);(try clear hb2);(try clear hk);(try clear hi)))
  go_ret3
  exact ⟨by first | rfl | (simp [*] <;> rfl),by exact lb_ HB⟩

end Go.Proofs.Ytdbpobadeibjaab.GS
