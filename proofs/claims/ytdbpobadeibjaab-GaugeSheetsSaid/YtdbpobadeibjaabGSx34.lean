-- written for this claim by a program of this session (wip/gp), over the kit's own printer; Lean checks it
import Derived.Test.YtdbpobadeibjaabGSx0
import Derived.Test.YtdbpobadeibjaabGSx3
import Derived.Test.YtdbpobadeibjaabGSx4
import Derived.Test.YtdbpobadeibjaabGSx5
import Derived.Test.YtdbpobadeibjaabGSx20
import Derived.Test.YtdbpobadeibjaabGSx24
import Derived.Test.YtdbpobadeibjaabGSx30
import Derived.Test.YtdbpobadeibjaabGSx33
namespace Go.Proofs.Ytdbpobadeibjaab.GS
open Go.RowKit Go.Proofs.YtdbpobadeibjaabW.PrintWords Go.Proofs.YtdbpobadeibjaabW.PrintLast Go.Proofs.YtdbpobadeibjaabW.PrintMore
attribute [local go_sem] max2_int min2_int max_two min_two max_three min_three max_four min_four
set_option linter.unusedVariables false
set_option linter.unusedSimpArgs false

/-! ### L_GaugeSheets: function 6 -/
mutual
def L_GaugeSheets.j0 : Nat → List (S49) → Int → List (S34) → List (List (S32)) → List Int → Bool → Option (Bool)
 | 0,_,_,_,_,_,_ => none
 | k + 1,x0,x1,x2,x3,x4,x37 => if x37 = true then ((L_awake.f k).bind fun t553 => (some t553)) else (L_GaugeSheets.l0 k x0 x1 x2 x3 x4 0)
def L_GaugeSheets.l0 : Nat → List (S49) → Int → List (S34) → List (List (S32)) → List Int → Int → Option (Bool)
 | 0,_,_,_,_,_,_ => none
 | k + 1,x0,x1,x2,x3,x4,x11 => if x11 < (x3.length : Int) then (if 0 ≤ x11 then (if ((rd_L8 x3 x11).length : Int) > 20 then ((L_awake.f k).bind fun t555 => (some t555)) else (L_GaugeSheets.l0 k x0 x1 x2 x3 x4 (wrap64 (x11 + 1)))) else (none)) else ((K_NewDice.f x4).bind fun t556 => ((K_BenchOf.f t556 4).bind fun bt558 => ((D_Upto.f bt558.2 7).bind fun bt562 => (L_GaugeSheets.l1 k x0 x1 x2 x3 bt558.1 ([] : List (S34)) ([] : List (List (S32))) bt562.1 bt562.2))))
def L_GaugeSheets.l1 : Nat → List (S49) → Int → List (S34) → List (List (S32)) → List (S49) → List (S34) → List (List (S32)) → Int → Int → Option (Bool)
 | 0,_,_,_,_,_,_,_,_,_ => none
 | k + 1,x0,x1,x2,x3,x13,x14,x15,x16,x558000 => if x16 > 0 then ((D_Between.f x558000 (-5000) 5000).bind fun bt564 => ((D_Range.f bt564.2 (wrap64 (bt564.1 - 200)) (wrap64 (bt564.1 + 200))).bind fun bt566 => (if x14.length < 8796093022208 then ((L_shown.f k bt566.2.2 x13 bt564.1 3).bind fun bt572 => (if x15.length < 5864062014805 then (L_GaugeSheets.l1 k x0 x1 x2 x3 x13 (x14 ++ [(⟨bt566.1,bt566.2.1⟩ : S34)]) (x15 ++ [bt572.1]) (wrap64 (x16 - 1)) bt572.2) else (none))) else (none)))) else ((K_Mod.f x1 300).bind fun t579 => ((gauge_Sheet.f k x0 x1 x2 x3).bind fun bt580 => ((R_Sheet.f k x0 x1 x2 x3).bind fun bt583 => (if bt580.1 = bt583.1 then (if bt580.2.1 = bt583.2.1 then (L_GaugeSheets.j3 k x13 x14 x15 (wrap64 (900 + t579)) (bt580.2.2 != bt583.2.2)) else (L_GaugeSheets.j3 k x13 x14 x15 (wrap64 (900 + t579)) true)) else (L_GaugeSheets.j3 k x13 x14 x15 (wrap64 (900 + t579)) true)))))
def L_GaugeSheets.j3 : Nat → List (S49) → List (S34) → List (List (S32)) → Int → Bool → Option (Bool)
 | 0,_,_,_,_,_ => none
 | k + 1,x13,x14,x15,x18,x113 => if x113 = true then (some false) else ((gauge_Sheet.f k x13 x18 x14 x15).bind fun bt586 => ((R_Sheet.f k x13 x18 x14 x15).bind fun bt589 => (if bt586.1 = bt589.1 then (if bt586.2.1 = bt589.2.1 then (if bt586.2.2 = bt589.2.2 then ((L_awake.f k).bind fun t592 => (some t592)) else (some false)) else (some false)) else (some false))))
end
def L_GaugeSheets.f (k : Nat) (l0 : List (S49)) (a1 : Int) (l2 : List (S34)) (l3 : List (List (S32))) (l4 : List Int) : Option (Bool) := if (l0.length : Int) > 20 then (L_GaugeSheets.j0 k l0 a1 l2 l3 l4 true) else (if (l2.length : Int) > 30 then (L_GaugeSheets.j0 k l0 a1 l2 l3 l4 true) else (L_GaugeSheets.j0 k l0 a1 l2 l3 l4 (decide ((l3.length : Int) > 30))))
set_option maxHeartbeats 8000000 in
set_option maxRecDepth 100000 in
theorem L_GaugeSheets.calls (k : Nat) (A0 : Option Addr) (c0 : Nat) (l0 : List (S49)) (a1 : Int) (A2 : Option Addr) (c2 : Nat) (l2 : List (S34)) (A3 : Option Addr) (c3 : Nat) (l3 : List (List (S32))) (A4 : Option Addr) (c4 : Nat) (l4 : List Int) (r : Bool) (w : World) (hr0 : Kd.C k49 w A0 l0.length l0) (hc0 : l0.length ≤ c0) (hr2 : Kd.C k34 w A2 l2.length l2) (hc2 : l2.length ≤ c2) (hr3 : Kd.C (Kd.slice 32 k32) w A3 l3.length l3) (hc3 : l3.length ≤ c3) (hr4 : Kd.C (Kd.int .i64) w A4 l4.length l4) (hc4 : l4.length ≤ c4) (h : L_GaugeSheets.f k l0 a1 l2 l3 l4 = some r) :
  Calls Try.prog 6 #[.slice A0 l0.length c0,.int .i64 a1,.slice A2 l2.length c2,.slice A3 l3.length c3,.slice A4 l4.length c4] w fun e w' => e = .returned (.bool r) ∧ Below w.heap.size w w' := by
 have HR0 := aM_ hr0
 have HC0 := aM_ hc0
 clear hr0 hc0
 have HR2 := aM_ hr2
 have HC2 := aM_ hc2
 clear hr2 hc2
 have HR3 := aM_ hr3
 have HC3 := aM_ hc3
 clear hr3 hc3
 have HR4 := aM_ hr4
 have HC4 := aM_ hc4
 clear hr4 hc4
 have HB := aM_ (Below.refl w.heap.size w)
 have H : (if (l0.length : Int) > 20 then (L_GaugeSheets.j0 k l0 a1 l2 l3 l4 true) else (if (l2.length : Int) > 30 then (L_GaugeSheets.j0 k l0 a1 l2 l3 l4 true) else (L_GaugeSheets.j0 k l0 a1 l2 l3 l4 (decide ((l3.length : Int) > 30))))) = some r := h
 clear h
 have HC6 := aM_ H
 clear H
 go_enter Try.func6,Try.ntmps6
 go_upto_region 1 with (fail)
 go_cut [37] (fun v37 wc => ∃ (kq : Nat) (x37_5 : Bool),v37 = .bool x37_5 ∧ Aside0 (L_GaugeSheets.j0 kq l0 a1 l2 l3 l4 x37_5 = some r) ∧ Aside0 (kq ≤ k) ∧ Aside0 (Below w.heap.size w wc))
 case first =>
  have H := HC6.out
  clear HC6
  by_cases c7 : (l0.length : Int) > 20
  ·rw [if_pos c7] at H
   have c7b0 : decide (20 < (l0.length : Int)) = true := decide_eq_true c7
   have c7b1 : decide (20 < l0.length) = true := decide_eq_true (by omega)
   clear c7
   (first | rw [c7b0] | (simp only [i64_w,i32_w];rw [c7b0]) | skip)
   have H' := aM_ H
   clear H
   go_wp2
   go_meet
   case rel => exact ⟨_,(true),(by first | rfl | (simp;done) | (simp [*];done)),H',⟨by first | omega | exact Nat.le_refl _⟩,⟨by exact lb_ HB⟩⟩
  ·rw [if_neg c7] at H
   have c7b0 : decide (20 < (l0.length : Int)) = false := decide_eq_false c7
   have c7b1 : decide (20 < l0.length) = false := decide_eq_false (by omega)
   clear c7
   (first | rw [c7b0] | (simp only [i64_w,i32_w];rw [c7b0]) | skip)
   by_cases c8 : (l2.length : Int) > 30
   ·rw [if_pos c8] at H
    have c8b0 : decide (30 < (l2.length : Int)) = true := decide_eq_true c8
    have c8b1 : decide (30 < l2.length) = true := decide_eq_true (by omega)
    clear c8
    have H' := aM_ H
    clear H
    go_wp2
    go_meet
    case rel => exact ⟨_,(true),(by first | rfl | (simp;done) | (simp [*];done)),H',⟨by first | omega | exact Nat.le_refl _⟩,⟨by exact lb_ HB⟩⟩
   ·rw [if_neg c8] at H
    have c8b0 : decide (30 < (l2.length : Int)) = false := decide_eq_false c8
    have c8b1 : decide (30 < l2.length) = false := decide_eq_false (by omega)
    clear c8
    have H' := aM_ H
    clear H
    go_wp2
    go_meet
    case rel => exact ⟨_,(decide ((l3.length : Int) > 30)),(by first | rfl | (simp;done) | (simp [*];done)),H',⟨by first | omega | exact Nat.le_refl _⟩,⟨by exact lb_ HB⟩⟩
 case rest =>
  clear HC6
  try clear c2
  try clear p2
  try clear c3
  try clear c4
  try clear c6
  try clear c7
  try clear c7b0
  try clear c7b1
  try clear c8
  try clear c8b0
  try clear c8b1
  obtain ⟨kq,x37_5,rfl,HA,HJ5,HB⟩ := hcut
  cases kq with
  | zero => exact absurd HA.out (by simp [L_GaugeSheets.j0])
  | succ kj5 =>
   have H := HA.out
   clear HA
   simp only [L_GaugeSheets.j0] at H
   by_cases c9 : x37_5 = true
   ·subst c9
    have H1 : ((L_awake.f kj5).bind fun t553 => (some t553)) = some r := by rw [if_pos rfl] at H;exact H
    clear H
    have H := H1
    clear H1
    replace H := oB_ H
    obtain ⟨t553,A100,H⟩ := H
    replace H : (some t553) = some r := H
    have A10 := aM_ A100
    clear A100
    obtain rfl := Option.some.inj H
    go_wp2_with (first | ((with_reducible refine gate_callee (f := 18) rfl ?_);refine goesL_ (some 38) rfl rfl Try.func18 (by kernel_rfl) rfl #[] rfl (by (try simp only [List.map_toArray,List.map_cons,List.map_nil]);first | done | rfl) ?_;(with_reducible refine (L_awake.calls kj5  t553 _ A10.out).mono ?_);rintro e w11 ⟨rfl,hb⟩;refine ⟨_,rfl,?_⟩;have n0_ := aM_ (bT_ (by exact lb_ HB) hb);clear HB;have HB := n0_;clear n0_;(try clear hb);(try clear hb2);(try clear hk);(try clear hi)))
    go_ret
    exact ⟨by first | rfl | (simp [*] <;> rfl),by exact lb_ HB⟩
   ·replace c9 := Bool.eq_false_iff.mpr c9
    subst c9
    have H1 : (L_GaugeSheets.l0 kj5 l0 a1 l2 l3 l4 0) = some r := by rw [if_neg (show ¬ (false = true) by decide)] at H;exact H
    clear H
    have H := H1
    clear H1
    have H' := aM_ H
    clear H
    go_wp2
    go_loopg [11] kj5 (fun kq v11 w' => ∃ (x11_2 : Int),v11 = .int .i64 x11_2 ∧ Aside0 (L_GaugeSheets.l0 kq l0 a1 l2 l3 l4 x11_2 = some r) ∧ Aside0 (kq ≤ kj5) ∧ Aside0 (Below w.heap.size w w'))
    case atStart => exact ⟨(0),(by first | rfl | (simp;done) | (simp [*];done)),H',⟨Nat.le_refl _⟩,⟨by exact lb_ HB⟩⟩
    case round =>
     clear H'
     try clear c1
     try clear c2
     try clear p2
     try clear c3
     try clear c4
     try clear c6
     try clear c7
     try clear c7b0
     try clear c7b1
     try clear c8
     try clear c8b0
     try clear c8b1
     try clear c9
     try clear p2
     obtain ⟨x11_2,rfl,HA,HK2,HB⟩ := hrel
     cases gk with
     | zero => exact absurd HA.out (by simp [L_GaugeSheets.l0])
     | succ k2 =>
      have H := HA.out
      clear HA
      simp only [L_GaugeSheets.l0] at H
      by_cases c12 : x11_2 < (l3.length : Int)
      ·rw [if_pos c12] at H
       have c12b0 : decide (x11_2 < (l3.length : Int)) = true := decide_eq_true c12
       clear c12
       by_cases c13 : 0 ≤ x11_2
       ·rw [if_pos c13] at H
        have c13b0 : decide (0 ≤ x11_2) = true := decide_eq_true c13
        clear c13
        by_cases c14 : ((rd_L8 l3 x11_2).length : Int) > 20
        ·rw [if_pos c14] at H
         have c14b0 : decide (20 < ((rd_L8 l3 x11_2).length : Int)) = true := decide_eq_true c14
         have c14b1 : decide (20 < (rd_L8 l3 x11_2).length) = true := decide_eq_true (by omega)
         clear c14
         replace H := oB_ H
         obtain ⟨t555,A150,H⟩ := H
         replace H : (some t555) = some r := H
         have A15 := aM_ A150
         clear A150
         obtain rfl := Option.some.inj H
         have p554 : 0 ≤ (x11_2 : Int) := of_decide_eq_true (by first | (with_reducible assumption) | assumption)
         have q554 : x11_2 < (l3.length : Int) := of_decide_eq_true (by first | (with_reducible assumption) | assumption)
         obtain ⟨ad554,A554_0,c554_0,e554,hx554_0,hl554_0,hi554_0⟩ := at_L8 HR3.out x11_2 p554 q554
         cases e554
         replace hx554_0 := (HB.out.cell (World.block_lt_of_cell? w _ hx554_0)).trans hx554_0
         have HR554_0 := aM_ hi554_0
         have HC554_0 := aM_ hl554_0
         clear hi554_0 hl554_0
         replace p554 := eq_true p554
         replace q554 := eq_true q554
         go_wp2_with (first | ((with_reducible refine gate_callee (f := 18) rfl ?_);refine goesL_ (some 51) rfl rfl Try.func18 (by kernel_rfl) rfl #[] rfl (by (try simp only [List.map_toArray,List.map_cons,List.map_nil]);first | done | rfl) ?_;(with_reducible refine (L_awake.calls k2  t555 _ A15.out).mono ?_);rintro e w16 ⟨rfl,hb⟩;refine ⟨_,rfl,?_⟩;have n0_ := aM_ (bT_ (by exact lb_ HB) hb);clear HB;have HB := n0_;clear n0_;(try clear hb);(try clear hb2);(try clear hk);(try clear hi)))
         go_ret
         exact ⟨by first | rfl | (simp [*] <;> rfl),by exact lb_ HB⟩
        ·rw [if_neg c14] at H
         have c14b0 : decide (20 < ((rd_L8 l3 x11_2).length : Int)) = false := decide_eq_false c14
         have c14b1 : decide (20 < (rd_L8 l3 x11_2).length) = false := decide_eq_false (by omega)
         clear c14
         have H' := aM_ H
         clear H
         have p554 : 0 ≤ (x11_2 : Int) := of_decide_eq_true (by first | (with_reducible assumption) | assumption)
         have q554 : x11_2 < (l3.length : Int) := of_decide_eq_true (by first | (with_reducible assumption) | assumption)
         obtain ⟨ad554,A554_0,c554_0,e554,hx554_0,hl554_0,hi554_0⟩ := at_L8 HR3.out x11_2 p554 q554
         cases e554
         replace hx554_0 := (HB.out.cell (World.block_lt_of_cell? w _ hx554_0)).trans hx554_0
         have HR554_0 := aM_ hi554_0
         have HC554_0 := aM_ hl554_0
         clear hi554_0 hl554_0
         replace p554 := eq_true p554
         replace q554 := eq_true q554
         go_wp2
         go_roundg k2
         case measure => have := HJ5.out;have := HK2.out;omega
         case rel => exact ⟨(wrap64 (x11_2 + 1)),(by first | rfl | (simp;done) | (simp [*];done)),H',⟨by have := HJ5.out;have := HK2.out;omega⟩,⟨by exact lb_ HB⟩⟩
       ·rw [if_neg c13] at H
        exact absurd H (by simp)
      ·rw [if_neg c12] at H
       have c12b0 : decide (x11_2 < (l3.length : Int)) = false := decide_eq_false c12
       clear c12
       replace H := oB_ H
       obtain ⟨t556,A170,H⟩ := H
       replace H : ((K_BenchOf.f t556 4).bind fun bt558 => ((D_Upto.f bt558.2 7).bind fun bt562 => (L_GaugeSheets.l1 k2 l0 a1 l2 l3 bt558.1 ([] : List (S34)) ([] : List (List (S32))) bt562.1 bt562.2))) = some r := H
       have A17 := aM_ A170
       clear A170
       replace H := oB_ H
       obtain ⟨⟨t558,t561⟩,A180,H⟩ := H
       replace H : ((D_Upto.f t561 7).bind fun bt562 => (L_GaugeSheets.l1 k2 l0 a1 l2 l3 t558 ([] : List (S34)) ([] : List (List (S32))) bt562.1 bt562.2)) = some r := H
       have A18 := aM_ A180
       clear A180
       replace H := oB_ H
       obtain ⟨⟨t562,t563⟩,A190,H⟩ := H
       replace H : (L_GaugeSheets.l1 k2 l0 a1 l2 l3 t558 ([] : List (S34)) ([] : List (List (S32))) t562 t563) = some r := H
       have A19 := aM_ A190
       clear A190
       have H' := aM_ H
       clear H
       go_wp2_with (first | ((with_reducible refine gate_callee (f := 9) rfl ?_);refine goesL_ (some 53) rfl rfl Try.func9 (by kernel_rfl) rfl #[.slice A4 l4.length c4] rfl (by (try simp only [List.map_toArray,List.map_cons,List.map_nil]);first | done | rfl) ?_;(with_reducible refine (K_NewDice.calls _ _ l4 t556 w _ ?side1 ?side2 ?side3 A17.out).mono ?_);(case side1 => exact lb_ HB);(case side2 => exact HR4.out);(case side3 => exact HC4.out);rintro e w20 ⟨g557,rfl,hi,hb,hb2⟩;refine ⟨_,rfl,?_⟩;have n0_ := aM_ (hb);have n1_ := aM_ (hi);clear HB;have HB := n0_;have HI557 := n1_;clear n0_ n1_;(try clear hb);(try clear hb2);(try clear hk);(try clear hi)) | ((with_reducible refine gate_callee (f := 10) rfl ?_);refine goesL_ (some 55) rfl rfl Try.func10 (by kernel_rfl) rfl #[.pointer (some ⟨g557,0,none⟩),.int .i64 4] rfl (by (try simp only [List.map_toArray,List.map_cons,List.map_nil]);first | done | rfl) ?_;(with_reducible refine (K_BenchOf.calls g557 t556 4 t558 t561 w _ ?side1 ?side2 A18.out).mono ?_);(case side1 => repeat (first | (with_reducible first | exact HI557.out | apply IsS65.alloc | apply IsS65.drewN | apply IsS65.drew | apply IsS65.set_0) | exact HI557.out));(case side2 => repeat (first | (with_reducible first | exact HB.out | apply bA_ | apply bN_ | apply bD_ | refine bS_ ?_ (IsS65.ge HI557.out)) | exact HB.out));rintro e w21 ⟨v559,rfl,ho0,hi,hb,hk⟩;refine ⟨_,rfl,?_⟩;have n0_ := aM_ (Kd.R_lower ho0 (below_size (by repeat (first | (with_reducible first | exact HB.out | apply bA_ | apply bN_ | apply bD_ | refine bS_ ?_ (IsS65.ge HI557.out)) | exact HB.out))));have n1_ := aM_ (hb);have n2_ := aM_ (hi);clear HB;clear HI557;have HO560 := n0_;have HB := n1_;have HI557 := n2_;clear n0_ n1_ n2_;(try clear hb);(try clear hb2);(try clear hk);(try clear hi);(try clear ho0)) | ((with_reducible refine gate_callee (f := 13) rfl ?_);refine goesL_ (some 57) rfl rfl Try.func13 (by kernel_rfl) rfl #[.pointer (some ⟨g557,0,none⟩),.int .i64 7] rfl (by (try simp only [List.map_toArray,List.map_cons,List.map_nil]);first | done | rfl) ?_;(with_reducible refine (D_Upto.calls g557 t561 7 t562 t563 w _ ?side1 ?side2 A19.out).mono ?_);(case side1 => repeat (first | (with_reducible first | exact HI557.out | apply IsS65.alloc | apply IsS65.drewN | apply IsS65.drew | apply IsS65.set_0) | exact HI557.out));(case side2 => repeat (first | (with_reducible first | exact HB.out | apply bA_ | apply bN_ | apply bD_ | refine bS_ ?_ (IsS65.ge HI557.out)) | exact HB.out));rintro e w22 ⟨rfl,hi,hb,hk⟩;refine ⟨_,rfl,?_⟩;have n0_ := aM_ (Kd.R_mono (Kd.R_keep (IsS65.apart (show IsS65 w _ g557 t561 from by repeat (first | (with_reducible first | exact HI557.out | apply IsS65.alloc | apply IsS65.drewN | apply IsS65.drew | apply IsS65.set_0) | exact HI557.out)) (by exact lo_ HO560) (by decide)) hk (fun _ h => h.2)) (fun _ h => h.1));have n1_ := aM_ (hb);have n2_ := aM_ (hi);clear HO560;clear HB;clear HI557;have HO560 := n0_;have HB := n1_;have HI557 := n2_;clear n0_ n1_ n2_;(try clear hb);(try clear hb2);(try clear hk);(try clear hi)))
       go_loopg [14,15,16] k2 (fun kq v14 v15 v16 w' => ∃ (x14_3 : List (S34)) (x15_3 : List (List (S32))) (x16_3 : Int) (x558000_3 : Int),v16 = .int .i64 x16_3 ∧ Aside0 (L_GaugeSheets.l1 kq l0 a1 l2 l3 t558 x14_3 x15_3 x16_3 x558000_3 = some r) ∧ Aside0 (kq ≤ k2) ∧ Aside0 (Kd.R k49 49 w' w.heap.size (fun _ => True) v559 t558) ∧ Aside0 (Kd.R k34 34 w' w.heap.size (fun _ => True) v14 x14_3) ∧ Aside0 (Kd.S (Kd.slice 32 k32) 28 w' w.heap.size (fun _ => True) v15 x15_3) ∧ Aside0 (IsS65 w w' g557 x558000_3) ∧ Aside0 (Below w.heap.size w w'))
       case atStart => exact ⟨(([] : List (S34))),(([] : List (List (S32)))),(t562),(t563),(by first | rfl | (simp;done) | (simp [*];done)),H',⟨Nat.le_refl _⟩,⟨by exact lo_ HO560⟩,⟨by first | exact Kd.R_nil _ _ _ _ _ | exact Kd.N_nil _ _ _ _ _ | exact Kd.V_nil _ _ _ _ _ | exact Kd.Q_nil _ _ _ _ _ | exact Kd.S_nil _ _ _ _ _⟩,⟨by first | exact Kd.S_nil _ _ _ _ _ | exact Kd.N_nil _ _ _ _ _ | exact Kd.V_nil _ _ _ _ _ | exact Kd.Q_nil _ _ _ _ _ | exact Kd.R_nil _ _ _ _ _⟩,⟨by repeat (first | (with_reducible first | exact HI557.out | apply IsS65.alloc | apply IsS65.drewN | apply IsS65.drew | apply IsS65.set_0) | exact HI557.out)⟩,⟨by repeat (first | (with_reducible first | exact HB.out | apply bA_ | apply bN_ | apply bD_ | refine bS_ ?_ (IsS65.ge HI557.out)) | exact HB.out)⟩⟩
       case round =>
        clear H'
        try clear c1
        try clear c2
        try clear p2
        try clear c3
        try clear c4
        try clear c5
        try clear p5
        try clear q5
        try clear hx5
        try clear c6
        try clear p6
        try clear c7
        try clear c7b0
        try clear c7b1
        try clear c8
        try clear c8b0
        try clear c8b1
        try clear c9
        try clear c10
        try clear c12
        try clear c12b0
        try clear c13
        try clear c13b0
        try clear c14
        try clear c14b0
        try clear c14b1
        try clear c18
        try clear hx554_0
        try clear p2
        try clear p554
        try clear q554
        obtain ⟨x14_3,x15_3,x16_3,x558000_3,rfl,HA,HK3,HO_13,HO_14,HO_15,HI557,HB⟩ := hrel
        cases gk with
        | zero => exact absurd HA.out (by simp [L_GaugeSheets.l1])
        | succ k3 =>
         have H := HA.out
         clear HA
         simp only [L_GaugeSheets.l1] at H
         by_cases c23 : x16_3 > 0
         ·rw [if_pos c23] at H
          have c23b0 : decide (0 < x16_3) = true := decide_eq_true c23
          clear c23
          replace H := oB_ H
          obtain ⟨⟨t564,t565⟩,A240,H⟩ := H
          replace H : ((D_Range.f t565 (wrap64 (t564 - 200)) (wrap64 (t564 + 200))).bind fun bt566 => (if x14_3.length < 8796093022208 then ((L_shown.f k3 bt566.2.2 t558 t564 3).bind fun bt572 => (if x15_3.length < 5864062014805 then (L_GaugeSheets.l1 k3 l0 a1 l2 l3 t558 (x14_3 ++ [(⟨bt566.1,bt566.2.1⟩ : S34)]) (x15_3 ++ [bt572.1]) (wrap64 (x16_3 - 1)) bt572.2) else (none))) else (none))) = some r := H
          have A24 := aM_ A240
          clear A240
          replace H := oB_ H
          obtain ⟨⟨t566,t567,t568⟩,A250,H⟩ := H
          replace H : (if x14_3.length < 8796093022208 then ((L_shown.f k3 t568 t558 t564 3).bind fun bt572 => (if x15_3.length < 5864062014805 then (L_GaugeSheets.l1 k3 l0 a1 l2 l3 t558 (x14_3 ++ [(⟨t566,t567⟩ : S34)]) (x15_3 ++ [bt572.1]) (wrap64 (x16_3 - 1)) bt572.2) else (none))) else (none)) = some r := H
          have A25 := aM_ A250
          clear A250
          by_cases c26 : x14_3.length < 8796093022208
          ·rw [if_pos c26] at H
           have LMc26 := aM_ c26
           clear c26
           obtain ⟨y569,hy569⟩ : ∃ y_ : List (S34),y_ = (x14_3 ++ [(⟨t566,t567⟩ : S34)]) := ⟨_,rfl⟩
           replace H : ((L_shown.f k3 t568 t558 t564 3).bind fun bt572 => (if x15_3.length < 5864062014805 then (L_GaugeSheets.l1 k3 l0 a1 l2 l3 t558 y569 (x15_3 ++ [bt572.1]) (wrap64 (x16_3 - 1)) bt572.2) else (none))) = some r := by first | (rw [hy569];with_reducible exact H) | (have H2_ := (Option.bind_some _ _).symm.trans H;rw [hy569];with_reducible exact H2_) | (have H2_ := (Option.bind_some _ _).symm.trans H;with_reducible exact H2_) | with_reducible exact H | (rw [hy569];exact H) | exact H
           have Ny569 := aM_ hy569
           clear hy569
           replace H := oB_ H
           obtain ⟨⟨t572,t575⟩,A270,H⟩ := H
           replace H : (if x15_3.length < 5864062014805 then (L_GaugeSheets.l1 k3 l0 a1 l2 l3 t558 y569 (x15_3 ++ [t572]) (wrap64 (x16_3 - 1)) t575) else (none)) = some r := H
           have A27 := aM_ A270
           clear A270
           by_cases c28 : x15_3.length < 5864062014805
           ·rw [if_pos c28] at H
            have LMc28 := aM_ c28
            clear c28
            obtain ⟨y576,hy576⟩ : ∃ y_ : List (List (S32)),y_ = (x15_3 ++ [t572]) := ⟨_,rfl⟩
            replace H : (L_GaugeSheets.l1 k3 l0 a1 l2 l3 t558 y569 y576 (wrap64 (x16_3 - 1)) t575) = some r := by first | (rw [hy576];with_reducible exact H) | (have H2_ := (Option.bind_some _ _).symm.trans H;rw [hy576];with_reducible exact H2_) | (have H2_ := (Option.bind_some _ _).symm.trans H;with_reducible exact H2_) | with_reducible exact H | (rw [hy576];exact H) | exact H
            have Ny576 := aM_ hy576
            clear hy576
            have H' := aM_ H
            clear H
            go_wp2_with (first | ((with_reducible refine gate_callee (f := 12) rfl ?_);refine goesL_ (some 63) rfl rfl Try.func12 (by kernel_rfl) rfl #[.pointer (some ⟨g557,0,none⟩),.int .i64 (-5000),.int .i64 5000] rfl (by (try simp only [List.map_toArray,List.map_cons,List.map_nil]);first | done | rfl) ?_;(with_reducible refine (D_Between.calls g557 x558000_3 (-5000) 5000 t564 t565 w _ ?side1 ?side2 A24.out).mono ?_);(case side1 => repeat (first | (with_reducible first | exact HI557.out | apply IsS65.alloc | apply IsS65.drewN | apply IsS65.drew | apply IsS65.set_0) | exact HI557.out));(case side2 => repeat (first | (with_reducible first | exact HB.out | apply bA_ | apply bN_ | apply bD_ | refine bS_ ?_ (IsS65.ge HI557.out)) | exact HB.out));rintro e w29 ⟨rfl,hi,hb,hk⟩;refine ⟨_,rfl,?_⟩;have n0_ := aM_ (Kd.R_mono (Kd.R_keep (IsS65.apart (show IsS65 w _ g557 x558000_3 from by repeat (first | (with_reducible first | exact HI557.out | apply IsS65.alloc | apply IsS65.drewN | apply IsS65.drew | apply IsS65.set_0) | exact HI557.out)) (by exact lo_ HO_13) (by decide)) hk (fun _ h => h.2)) (fun _ h => h.1));have n1_ := aM_ (Kd.R_mono (Kd.R_keep (IsS65.apart (show IsS65 w _ g557 x558000_3 from by repeat (first | (with_reducible first | exact HI557.out | apply IsS65.alloc | apply IsS65.drewN | apply IsS65.drew | apply IsS65.set_0) | exact HI557.out)) (by exact lo_ HO_14) (by decide)) hk (fun _ h => h.2)) (fun _ h => h.1));have n2_ := aM_ (Kd.S_mono (Kd.S_keep (IsS65.apartS (show IsS65 w _ g557 x558000_3 from by repeat (first | (with_reducible first | exact HI557.out | apply IsS65.alloc | apply IsS65.drewN | apply IsS65.drew | apply IsS65.set_0) | exact HI557.out)) (by (with_reducible repeat (first | apply Kd.S_alloc | apply Kd.S_drewN | apply Kd.S_drew));exact HO_15.out) (by decide)) hk (fun _ h => h.2)) (fun _ h => h.1));have n3_ := aM_ (hb);have n4_ := aM_ (hi);clear HO_13;clear HO_14;clear HO_15;clear HB;clear HI557;have HO_13 := n0_;have HO_14 := n1_;have HO_15 := n2_;have HB := n3_;have HI557 := n4_;clear n0_ n1_ n2_ n3_ n4_;(try clear hb);(try clear hb2);(try clear hk);(try clear hi)) | ((with_reducible refine gate_callee (f := 25) rfl ?_);refine goesL_ (some 70) rfl rfl Try.func25 (by kernel_rfl) rfl #[.pointer (some ⟨g557,0,none⟩),.int .i64 (wrap64 (t564 - 200)),.int .i64 (wrap64 (t564 + 200))] rfl (by (try simp only [List.map_toArray,List.map_cons,List.map_nil]);first | done | rfl) ?_;(with_reducible refine (D_Range.calls g557 t565 (wrap64 (t564 - 200)) (wrap64 (t564 + 200)) t566 t567 t568 w _ ?side1 ?side2 A25.out).mono ?_);(case side1 => repeat (first | (with_reducible first | exact HI557.out | apply IsS65.alloc | apply IsS65.drewN | apply IsS65.drew | apply IsS65.set_0) | exact HI557.out));(case side2 => repeat (first | (with_reducible first | exact HB.out | apply bA_ | apply bN_ | apply bD_ | refine bS_ ?_ (IsS65.ge HI557.out)) | exact HB.out));rintro e w30 ⟨rfl,hi,hb,hk⟩;refine ⟨_,rfl,?_⟩;have n0_ := aM_ (Kd.R_mono (Kd.R_keep (IsS65.apart (show IsS65 w _ g557 t565 from by repeat (first | (with_reducible first | exact HI557.out | apply IsS65.alloc | apply IsS65.drewN | apply IsS65.drew | apply IsS65.set_0) | exact HI557.out)) (by exact lo_ HO_13) (by decide)) hk (fun _ h => h.2)) (fun _ h => h.1));have n1_ := aM_ (Kd.R_mono (Kd.R_keep (IsS65.apart (show IsS65 w _ g557 t565 from by repeat (first | (with_reducible first | exact HI557.out | apply IsS65.alloc | apply IsS65.drewN | apply IsS65.drew | apply IsS65.set_0) | exact HI557.out)) (by exact lo_ HO_14) (by decide)) hk (fun _ h => h.2)) (fun _ h => h.1));have n2_ := aM_ (Kd.S_mono (Kd.S_keep (IsS65.apartS (show IsS65 w _ g557 t565 from by repeat (first | (with_reducible first | exact HI557.out | apply IsS65.alloc | apply IsS65.drewN | apply IsS65.drew | apply IsS65.set_0) | exact HI557.out)) (by (with_reducible repeat (first | apply Kd.S_alloc | apply Kd.S_drewN | apply Kd.S_drew));exact HO_15.out) (by decide)) hk (fun _ h => h.2)) (fun _ h => h.1));have n3_ := aM_ (hb);have n4_ := aM_ (hi);clear HO_13;clear HO_14;clear HO_15;clear HB;clear HI557;have HO_13 := n0_;have HO_14 := n1_;have HO_15 := n2_;have HB := n3_;have HI557 := n4_;clear n0_ n1_ n2_ n3_ n4_;(try clear hb);(try clear hb2);(try clear hk);(try clear hi)) | ((with_reducible refine gate_builtin (b := .append) (xs := #[.tmp 64,.tmp 71]) rfl ?_);at_builtin;refine Kd.R_append k34 (w0 := w) w.heap.size rfl (.tmp 64) (.tmp 71) 44 34 (.agg #[(.int .i64 0),(.int .i64 0)]) 16 rfl Try.underlying44 info34 rfl (by decide) (by omega) u14 x14_3 (⟨t566,t567⟩ : S34) [.int .i64 t566,.int .i64 t567] (fun _ => True) (fun _ => False) rfl rfl ?aP (fun _ hk => hk.elim) ?aF ?aO ?aB ?aS ?aL ?_;(case aP => exact k34_mkM _ _ _ (⟨t566,t567⟩ : S34));(case aB => exact (by repeat (first | (with_reducible first | exact HB.out | apply bA_ | apply bN_ | apply bD_ | refine bS_ ?_ (IsS65.ge HI557.out)) | exact HB.out)));(case aF => exact (fun _ _ => trivial));(case aO => exact (by exact lo_ HO_14));(case aS => exact (below_size (by repeat (first | (with_reducible first | exact HB.out | apply bA_ | apply bN_ | apply bD_ | refine bS_ ?_ (IsS65.ge HI557.out)) | exact HB.out))));(case aL => have := LMc26.out;omega);intro v570 w31 ho hb hg hat;rw [← Ny569.out] at ho;have n0_ := aM_ (Kd.R_over' (by exact lo_ HO_13) (Kd.R_typed (by exact lo_ HO_14)) (by decide) hg);have n1_ := aM_ (Kd.S_over' (by (with_reducible repeat (first | apply Kd.S_alloc | apply Kd.S_drewN | apply Kd.S_drew));exact HO_15.out) (Kd.R_typed (by exact lo_ HO_14)) (by decide) hg);have n2_ := aM_ (IsS65.grown (by repeat (first | (with_reducible first | exact HI557.out | apply IsS65.alloc | apply IsS65.drewN | apply IsS65.drew | apply IsS65.set_0) | exact HI557.out)) hg (IsS65.own_ne HI557.out HO_14.out (by decide)));have n3_ := aM_ (hb);have n4_ := aM_ (ho);clear HO_13;clear HO_15;clear HI557;clear HB;clear HO_14;have HO_13 := n0_;have HO_15 := n1_;have HI557 := n2_;have HB := n3_;have HO571 := n4_;clear n0_ n1_ n2_ n3_ n4_;clear ho hb hg hat;obtain ⟨Ao32,co32,eo32⟩ := Kd.R_slice HO_13.out;subst eo32) | ((with_reducible refine gate_callee (f := 26) rfl ?_);refine goesL_ (some 77) rfl rfl Try.func26 (by kernel_rfl) rfl #[.pointer (some ⟨g557,0,none⟩),.slice Ao32 t558.length co32,.int .i64 t564,.int .i64 3] rfl (by (try simp only [List.map_toArray,List.map_cons,List.map_nil]);first | done | rfl) ?_;(with_reducible refine (L_shown.calls k3 g557 t568 _ _ t558 t564 3 t572 t575 w _ ?side1 ?side2 ?side3 ?side4 A27.out).mono ?_);(case side1 => repeat (first | (with_reducible first | exact HI557.out | apply IsS65.alloc | apply IsS65.drewN | apply IsS65.drew | apply IsS65.set_0) | exact HI557.out));(case side2 => repeat (first | (with_reducible first | exact HB.out | apply bA_ | apply bN_ | apply bD_ | refine bS_ ?_ (IsS65.ge HI557.out)) | exact HB.out));(case side3 => exact Kd.C_foot_own (IsS65.apart (show IsS65 w _ g557 t568 from by repeat (first | (with_reducible first | exact HI557.out | apply IsS65.alloc | apply IsS65.drewN | apply IsS65.drew | apply IsS65.set_0) | exact HI557.out)) (by exact lo_ HO_13) (by decide)) (fun _ h_ => h_.2));(case side4 => exact (Kd.R_reads' HO_13.out).2.1);rintro e w33 ⟨v573,rfl,ho0,hi,hb,hk⟩;refine ⟨_,rfl,?_⟩;have n0_ := aM_ (Kd.R_mono (Kd.R_keep (IsS65.apart (show IsS65 w _ g557 t568 from by repeat (first | (with_reducible first | exact HI557.out | apply IsS65.alloc | apply IsS65.drewN | apply IsS65.drew | apply IsS65.set_0) | exact HI557.out)) (by exact lo_ HO_13) (by decide)) hk (fun _ h => h.2)) (fun _ h => h.1));have n1_ := aM_ (Kd.S_mono (Kd.S_told (Kd.S_oldK (IsS65.apartS (show IsS65 w _ g557 t568 from by repeat (first | (with_reducible first | exact HI557.out | apply IsS65.alloc | apply IsS65.drewN | apply IsS65.drew | apply IsS65.set_0) | exact HI557.out)) (by (with_reducible repeat (first | apply Kd.S_alloc | apply Kd.S_drewN | apply Kd.S_drew));exact HO_15.out) (by decide)) hk) (Kd.R_base ho0)) (fun _ h_ => h_.1));have n2_ := aM_ (Kd.R_mono (Kd.R_keep (IsS65.apart (show IsS65 w _ g557 t568 from by repeat (first | (with_reducible first | exact HI557.out | apply IsS65.alloc | apply IsS65.drewN | apply IsS65.drew | apply IsS65.set_0) | exact HI557.out)) (by exact lo_ HO571) (by decide)) hk (fun _ h => h.2)) (fun _ h => h.1));have n3_ := aM_ (Kd.R_lower ho0 (below_size (by repeat (first | (with_reducible first | exact HB.out | apply bA_ | apply bN_ | apply bD_ | refine bS_ ?_ (IsS65.ge HI557.out)) | exact HB.out))));have n4_ := aM_ (hb);have n5_ := aM_ (hi);clear HO_13;clear HO_15;clear HO571;clear HB;clear HI557;have HO_13 := n0_;have HO_15 := n1_;have HO571 := n2_;have HO574 := n3_;have HB := n4_;have HI557 := n5_;clear n0_ n1_ n2_ n3_ n4_ n5_;(try clear hb);(try clear hb2);(try clear hk);(try clear hi);(try clear ho0);obtain ⟨Ao35,co35,eo35⟩ := Kd.R_slice HO574.out;subst eo35) | ((with_reducible refine gate_builtin (b := .append) (xs := #[.tmp 73,.tmp 78]) rfl ?_);at_builtin;refine Kd.S_append (Kd.slice 32 k32) (w0 := w) w.heap.size rfl (.tmp 73) (.tmp 78) 51 28 (.slice none 0 0) 24 rfl Try.underlying51 info28 rfl (by decide) (by omega) u15 x15_3 t572 [.slice Ao35 t572.length co35] (fun _ => True) (fun k_ => some k_ = (.slice Ao35 t572.length co35 : Value).ownBlock) rfl rfl ?aP (fun k_ hk_ => ((Kd.R_mono (ok' := fun k_ => ((fun _ => True)) k_ ∧ some k_ ≠ (u15 : Value).ownBlock) (Kd.R_apart' (HO574.out) (Kd.S_typed HO_15.out) (by decide)) (fun k_ hk => ⟨trivial,hk.2⟩))).1 k_ hk_.symm) ?aF ?aO ?aB ?aS ?aL ?_;(case aP => exact Kd.M_row (Kd.R_mono (Kd.R_tight rfl (Kd.R_mono (ok' := fun k_ => ((fun _ => True)) k_ ∧ some k_ ≠ (u15 : Value).ownBlock) (Kd.R_apart' (HO574.out) (Kd.S_typed HO_15.out) (by decide)) (fun k_ hk => ⟨trivial,hk.2⟩))) (fun _ h_ => h_)));(case aB => exact (by repeat (first | (with_reducible first | exact HB.out | apply bA_ | apply bN_ | apply bD_ | refine bS_ ?_ (IsS65.ge HI557.out)) | exact HB.out)));(case aF => exact (fun _ _ => trivial));(case aO => exact (by (with_reducible repeat (first | apply Kd.S_alloc | apply Kd.S_drewN | apply Kd.S_drew));exact Kd.S_mono HO_15.out (fun k_ hk => ⟨trivial,fun e_ => hk.2 e_⟩)));(case aS => exact (below_size (by repeat (first | (with_reducible first | exact HB.out | apply bA_ | apply bN_ | apply bD_ | refine bS_ ?_ (IsS65.ge HI557.out)) | exact HB.out))));(case aL => have := LMc28.out;omega);intro v577 w34 ho hb hg hat;rw [← Ny576.out] at ho;have n0_ := aM_ (Kd.R_over' (by exact lo_ HO_13) (Kd.S_typed (by (with_reducible repeat (first | apply Kd.S_alloc | apply Kd.S_drewN | apply Kd.S_drew));exact HO_15.out)) (by decide) hg);have n1_ := aM_ (IsS65.grown (by repeat (first | (with_reducible first | exact HI557.out | apply IsS65.alloc | apply IsS65.drewN | apply IsS65.drew | apply IsS65.set_0) | exact HI557.out)) hg (IsS65.own_neS HI557.out HO_15.out (by decide)));have n2_ := aM_ (Kd.R_over' (by exact lo_ HO571) (Kd.S_typed (by (with_reducible repeat (first | apply Kd.S_alloc | apply Kd.S_drewN | apply Kd.S_drew));exact HO_15.out)) (by decide) hg);have n3_ := aM_ (hb);have n4_ := aM_ (ho);clear HO_13;clear HI557;clear HO571;clear HB;clear HO_15;clear HO574;have HO_13 := n0_;have HI557 := n1_;have HO571 := n2_;have HB := n3_;have HO578 := n4_;clear n0_ n1_ n2_ n3_ n4_;clear ho hb hg hat))
            go_roundg k3
            case measure => have := HJ5.out;have := HK2.out;have := HK3.out;omega
            case rel => exact ⟨(y569),(y576),(wrap64 (x16_3 - 1)),(t575),(by first | rfl | (simp;done) | (simp [*];done)),H',⟨by have := HJ5.out;have := HK2.out;have := HK3.out;omega⟩,⟨by exact lo_ HO_13⟩,⟨by exact lo_ HO571⟩,⟨by (with_reducible repeat (first | apply Kd.S_alloc | apply Kd.S_drewN | apply Kd.S_drew));exact HO578.out⟩,⟨by repeat (first | (with_reducible first | exact HI557.out | apply IsS65.alloc | apply IsS65.drewN | apply IsS65.drew | apply IsS65.set_0) | exact HI557.out)⟩,⟨by repeat (first | (with_reducible first | exact HB.out | apply bA_ | apply bN_ | apply bD_ | refine bS_ ?_ (IsS65.ge HI557.out)) | exact HB.out)⟩⟩
           ·rw [if_neg c28] at H
            exact absurd H (by simp)
          ·rw [if_neg c26] at H
           exact absurd H (by simp)
         ·rw [if_neg c23] at H
          have c23b0 : decide (0 < x16_3) = false := decide_eq_false c23
          clear c23
          replace H := oB_ H
          obtain ⟨t579,A360,H⟩ := H
          replace H : ((gauge_Sheet.f k3 l0 a1 l2 l3).bind fun bt580 => ((R_Sheet.f k3 l0 a1 l2 l3).bind fun bt583 => (if bt580.1 = bt583.1 then (if bt580.2.1 = bt583.2.1 then (L_GaugeSheets.j3 k3 t558 x14_3 x15_3 (wrap64 (900 + t579)) (bt580.2.2 != bt583.2.2)) else (L_GaugeSheets.j3 k3 t558 x14_3 x15_3 (wrap64 (900 + t579)) true)) else (L_GaugeSheets.j3 k3 t558 x14_3 x15_3 (wrap64 (900 + t579)) true)))) = some r := H
          have A36 := aM_ A360
          clear A360
          replace H := oB_ H
          obtain ⟨⟨t580,t581,t582⟩,A370,H⟩ := H
          replace H : ((R_Sheet.f k3 l0 a1 l2 l3).bind fun bt583 => (if t580 = bt583.1 then (if t581 = bt583.2.1 then (L_GaugeSheets.j3 k3 t558 x14_3 x15_3 (wrap64 (900 + t579)) (t582 != bt583.2.2)) else (L_GaugeSheets.j3 k3 t558 x14_3 x15_3 (wrap64 (900 + t579)) true)) else (L_GaugeSheets.j3 k3 t558 x14_3 x15_3 (wrap64 (900 + t579)) true))) = some r := H
          have A37 := aM_ A370
          clear A370
          replace H := oB_ H
          obtain ⟨⟨t583,t584,t585⟩,A380,H⟩ := H
          replace H : (if t580 = t583 then (if t581 = t584 then (L_GaugeSheets.j3 k3 t558 x14_3 x15_3 (wrap64 (900 + t579)) (t582 != t585)) else (L_GaugeSheets.j3 k3 t558 x14_3 x15_3 (wrap64 (900 + t579)) true)) else (L_GaugeSheets.j3 k3 t558 x14_3 x15_3 (wrap64 (900 + t579)) true)) = some r := H
          have A38 := aM_ A380
          clear A380
          have HC39 := aM_ H
          clear H
          go_upto_region 21 with (first | ((with_reducible refine gate_callee (f := 11) rfl ?_);refine goesL_ (some 81) rfl rfl Try.func11 (by kernel_rfl) rfl #[.int .i64 a1,.int .i64 300] rfl (by (try simp only [List.map_toArray,List.map_cons,List.map_nil]);first | done | rfl) ?_;(with_reducible refine (K_Mod.calls a1 300 t579 _ A36.out).mono ?_);rintro e w' ⟨rfl,⟨nd,rfl⟩⟩;refine ⟨_,rfl,?_⟩) | ((with_reducible refine gate_callee (f := 27) rfl ?_);refine goesL_ (some 88) rfl rfl Try.func27 (by kernel_rfl) rfl #[.slice A0 l0.length c0,.int .i64 a1,.slice A2 l2.length c2,.slice A3 l3.length c3] rfl (by (try simp only [List.map_toArray,List.map_cons,List.map_nil]);first | done | rfl) ?_;(with_reducible refine (gauge_Sheet.calls k3 _ _ l0 a1 _ _ l2 _ _ l3 t580 t581 t582 _ ?side1 ?side2 ?side3 ?side4 ?side5 ?side6 A37.out).mono ?_);(case side1 => repeat (first | exact (Kd.C_below HR0.out (by repeat (first | (with_reducible first | exact HB.out | apply bA_ | apply bN_ | apply bD_ | refine bS_ ?_ (IsS65.ge HI557.out)) | exact HB.out))) | (with_reducible refine Kd.C_alloc ?_ _) | (with_reducible refine Kd.C_drewN ?_ _) | (with_reducible refine Kd.C_drew ?_)));(case side2 => exact HC0.out);(case side3 => repeat (first | exact (Kd.C_below HR2.out (by repeat (first | (with_reducible first | exact HB.out | apply bA_ | apply bN_ | apply bD_ | refine bS_ ?_ (IsS65.ge HI557.out)) | exact HB.out))) | (with_reducible refine Kd.C_alloc ?_ _) | (with_reducible refine Kd.C_drewN ?_ _) | (with_reducible refine Kd.C_drew ?_)));(case side4 => exact HC2.out);(case side5 => repeat (first | exact (Kd.C_below HR3.out (by repeat (first | (with_reducible first | exact HB.out | apply bA_ | apply bN_ | apply bD_ | refine bS_ ?_ (IsS65.ge HI557.out)) | exact HB.out))) | (with_reducible refine Kd.C_alloc ?_ _) | (with_reducible refine Kd.C_drewN ?_ _) | (with_reducible refine Kd.C_drew ?_)));(case side6 => exact HC3.out);rintro e w40 ⟨rfl,hb⟩;refine ⟨_,rfl,?_⟩;have n0_ := aM_ (Kd.R_below (by exact lo_ HO_13) hb);have n1_ := aM_ (Kd.R_below (by exact lo_ HO_14) hb);have n2_ := aM_ (Kd.S_below (by (with_reducible repeat (first | apply Kd.S_alloc | apply Kd.S_drewN | apply Kd.S_drew));exact HO_15.out) hb);have n3_ := aM_ (IsS65.below (by repeat (first | (with_reducible first | exact HI557.out | apply IsS65.alloc | apply IsS65.drewN | apply IsS65.drew | apply IsS65.set_0) | exact HI557.out)) hb);have n4_ := aM_ (bT_ (by repeat (first | (with_reducible first | exact HB.out | apply bA_ | apply bN_ | apply bD_ | refine bS_ ?_ (IsS65.ge HI557.out)) | exact HB.out)) hb);clear HO_13;clear HO_14;clear HO_15;clear HI557;clear HB;have HO_13 := n0_;have HO_14 := n1_;have HO_15 := n2_;have HI557 := n3_;have HB := n4_;clear n0_ n1_ n2_ n3_ n4_;(try clear hb);(try clear hb2);(try clear hk);(try clear hi)) | ((with_reducible refine gate_callee (f := 28) rfl ?_);refine goesL_ (some 97) rfl rfl Try.func28 (by kernel_rfl) rfl #[.slice A0 l0.length c0,.int .i64 a1,.slice A2 l2.length c2,.slice A3 l3.length c3] rfl (by (try simp only [List.map_toArray,List.map_cons,List.map_nil]);first | done | rfl) ?_;(with_reducible refine (R_Sheet.calls k3 _ _ l0 a1 _ _ l2 _ _ l3 t583 t584 t585 _ ?side1 ?side2 ?side3 ?side4 ?side5 ?side6 A38.out).mono ?_);(case side1 => exact Kd.C_below HR0.out (lb_ HB));(case side2 => exact HC0.out);(case side3 => exact Kd.C_below HR2.out (lb_ HB));(case side4 => exact HC2.out);(case side5 => exact Kd.C_below HR3.out (lb_ HB));(case side6 => exact HC3.out);rintro e w41 ⟨rfl,hb⟩;refine ⟨_,rfl,?_⟩;have n0_ := aM_ (Kd.R_below (by exact lo_ HO_13) hb);have n1_ := aM_ (Kd.R_below (by exact lo_ HO_14) hb);have n2_ := aM_ (Kd.S_below (by (with_reducible repeat (first | apply Kd.S_alloc | apply Kd.S_drewN | apply Kd.S_drew));exact HO_15.out) hb);have n3_ := aM_ (IsS65.below (by repeat (first | (with_reducible first | exact HI557.out | apply IsS65.alloc | apply IsS65.drewN | apply IsS65.drew | apply IsS65.set_0) | exact HI557.out)) hb);have n4_ := aM_ (bT_ (by repeat (first | (with_reducible first | exact HB.out | apply bA_ | apply bN_ | apply bD_ | refine bS_ ?_ (IsS65.ge HI557.out)) | exact HB.out)) hb);clear HO_13;clear HO_14;clear HO_15;clear HI557;clear HB;have HO_13 := n0_;have HO_14 := n1_;have HO_15 := n2_;have HI557 := n3_;have HB := n4_;clear n0_ n1_ n2_ n3_ n4_;(try clear hb);(try clear hb2);(try clear hk);(try clear hi)))
          (try simp only [Act.put,sB_,sZ_,sS_])
          go_cut [113] (fun v113 wc => ∃ (kq : Nat) (x113_38 : Bool),v113 = .bool x113_38 ∧ Aside0 (L_GaugeSheets.j3 kq t558 x14_3 x15_3 (wrap64 (900 + t579)) x113_38 = some r) ∧ Aside0 (kq ≤ k3) ∧ Aside0 (Kd.R k49 49 wc w.heap.size (fun _ => True) v559 t558) ∧ Aside0 (Kd.R k34 34 wc w.heap.size (fun _ => True) u14 x14_3) ∧ Aside0 (Kd.S (Kd.slice 32 k32) 28 wc w.heap.size (fun _ => True) u15 x15_3) ∧ Aside0 (Below w.heap.size w wc))
          case first =>
           have H := HC39.out
           clear HC39
           by_cases c42 : t580 = t583
           ·rw [if_pos c42] at H
            have c42b0 : (t580 == t583) = true := beq_iff_eq.mpr c42
            have c42b1 : (t580 != t583) = false := bne_eq_false_iff_eq.mpr c42
            clear c42
            (first | rw [c42b0] | (simp only [i64_w,i32_w];rw [c42b0]) | skip)
            by_cases c43 : t581 = t584
            ·rw [if_pos c43] at H
             have c43b0 : (t581 == t584) = true := beq_iff_eq.mpr c43
             have c43b1 : (t581 != t584) = false := bne_eq_false_iff_eq.mpr c43
             clear c43
             have H' := aM_ H
             clear H
             go_wp2
             go_meet
             case rel => exact ⟨_,((t582 != t585)),(by first | rfl | (simp;done) | (simp [*];done)),H',⟨by have := HJ5.out;have := HK2.out;have := HK3.out;first | omega | exact Nat.le_refl _⟩,⟨by exact lo_ HO_13⟩,⟨by exact lo_ HO_14⟩,⟨by (with_reducible repeat (first | apply Kd.S_alloc | apply Kd.S_drewN | apply Kd.S_drew));exact HO_15.out⟩,⟨by repeat (first | (with_reducible first | exact HB.out | apply bA_ | apply bN_ | apply bD_ | refine bS_ ?_ (IsS65.ge HI557.out)) | exact HB.out)⟩⟩
            ·rw [if_neg c43] at H
             have c43b0 : (t581 == t584) = false := beq_eq_false_iff_ne.mpr c43
             have c43b1 : (t581 != t584) = true := bne_iff_ne.mpr c43
             have H' := aM_ H
             clear H
             go_wp2
             go_meet
             case rel => exact ⟨_,(true),(by first | rfl | (simp;done) | (simp [*];done)),H',⟨by have := HJ5.out;have := HK2.out;have := HK3.out;first | omega | exact Nat.le_refl _⟩,⟨by exact lo_ HO_13⟩,⟨by exact lo_ HO_14⟩,⟨by (with_reducible repeat (first | apply Kd.S_alloc | apply Kd.S_drewN | apply Kd.S_drew));exact HO_15.out⟩,⟨by repeat (first | (with_reducible first | exact HB.out | apply bA_ | apply bN_ | apply bD_ | refine bS_ ?_ (IsS65.ge HI557.out)) | exact HB.out)⟩⟩
           ·rw [if_neg c42] at H
            have c42b0 : (t580 == t583) = false := beq_eq_false_iff_ne.mpr c42
            have c42b1 : (t580 != t583) = true := bne_iff_ne.mpr c42
            (first | rw [c42b0] | (simp only [i64_w,i32_w];rw [c42b0]) | skip)
            have H' := aM_ H
            clear H
            go_wp2
            go_meet
            case rel => exact ⟨_,(true),(by first | rfl | (simp;done) | (simp [*];done)),H',⟨by have := HJ5.out;have := HK2.out;have := HK3.out;first | omega | exact Nat.le_refl _⟩,⟨by exact lo_ HO_13⟩,⟨by exact lo_ HO_14⟩,⟨by (with_reducible repeat (first | apply Kd.S_alloc | apply Kd.S_drewN | apply Kd.S_drew));exact HO_15.out⟩,⟨by repeat (first | (with_reducible first | exact HB.out | apply bA_ | apply bN_ | apply bD_ | refine bS_ ?_ (IsS65.ge HI557.out)) | exact HB.out)⟩⟩
          case rest =>
           clear HC39
           try clear c1
           try clear c2
           try clear p2
           try clear c3
           try clear c4
           try clear c5
           try clear p5
           try clear q5
           try clear hx5
           try clear c6
           try clear p6
           try clear c7
           try clear c7b0
           try clear c7b1
           try clear c8
           try clear c8b0
           try clear c8b1
           try clear c9
           try clear c10
           try clear c11
           try clear c12
           try clear c12b0
           try clear c13
           try clear c13b0
           try clear c14
           try clear c14b0
           try clear c14b1
           try clear c18
           try clear c23
           try clear c23b0
           try clear c25
           try clear c26
           try clear c27
           try clear c28
           try clear c42
           try clear c42b0
           try clear c42b1
           try clear c43
           try clear c43b0
           try clear c43b1
           try clear hx554_0
           try clear p2
           try clear p5
           try clear p554
           try clear p6
           try clear q5
           try clear q554
           obtain ⟨kq,x113_38,rfl,HA,HJ38,HO_13,HO_14,HO_15,HB⟩ := hcut
           cases kq with
           | zero => exact absurd HA.out (by simp [L_GaugeSheets.j3])
           | succ kj38 =>
            have H := HA.out
            clear HA
            simp only [L_GaugeSheets.j3] at H
            by_cases c44 : x113_38 = true
            ·subst c44
             have H1 : (some false) = some r := by rw [if_pos rfl] at H;exact H
             clear H
             have H := H1
             clear H1
             obtain rfl := Option.some.inj H
             go_wp2
             go_ret
             exact ⟨by first | rfl | (simp [*] <;> rfl),by exact lb_ HB⟩
            ·replace c44 := Bool.eq_false_iff.mpr c44
             subst c44
             have H1 : ((gauge_Sheet.f kj38 t558 (wrap64 (900 + t579)) x14_3 x15_3).bind fun bt586 => ((R_Sheet.f kj38 t558 (wrap64 (900 + t579)) x14_3 x15_3).bind fun bt589 => (if bt586.1 = bt589.1 then (if bt586.2.1 = bt589.2.1 then (if bt586.2.2 = bt589.2.2 then ((L_awake.f kj38).bind fun t592 => (some t592)) else (some false)) else (some false)) else (some false)))) = some r := by rw [if_neg (show ¬ (false = true) by decide)] at H;exact H
             clear H
             have H := H1
             clear H1
             replace H := oB_ H
             obtain ⟨⟨t586,t587,t588⟩,A450,H⟩ := H
             replace H : ((R_Sheet.f kj38 t558 (wrap64 (900 + t579)) x14_3 x15_3).bind fun bt589 => (if t586 = bt589.1 then (if t587 = bt589.2.1 then (if t588 = bt589.2.2 then ((L_awake.f kj38).bind fun t592 => (some t592)) else (some false)) else (some false)) else (some false))) = some r := H
             have A45 := aM_ A450
             clear A450
             replace H := oB_ H
             obtain ⟨⟨t589,t590,t591⟩,A460,H⟩ := H
             replace H : (if t586 = t589 then (if t587 = t590 then (if t588 = t591 then ((L_awake.f kj38).bind fun t592 => (some t592)) else (some false)) else (some false)) else (some false)) = some r := H
             have A46 := aM_ A460
             clear A460
             by_cases c47 : t586 = t589
             ·rw [if_pos c47] at H
              have c47b0 : (t586 == t589) = true := beq_iff_eq.mpr c47
              have c47b1 : (t586 != t589) = false := bne_eq_false_iff_eq.mpr c47
              clear c47
              by_cases c48 : t587 = t590
              ·rw [if_pos c48] at H
               have c48b0 : (t587 == t590) = true := beq_iff_eq.mpr c48
               have c48b1 : (t587 != t590) = false := bne_eq_false_iff_eq.mpr c48
               clear c48
               by_cases c49 : t588 = t591
               ·rw [if_pos c49] at H
                have c49b0 : (t588 == t591) = true := beq_iff_eq.mpr c49
                have c49b1 : (t588 != t591) = false := bne_eq_false_iff_eq.mpr c49
                clear c49
                replace H := oB_ H
                obtain ⟨t592,A500,H⟩ := H
                replace H : (some t592) = some r := H
                have A50 := aM_ A500
                clear A500
                obtain rfl := Option.some.inj H
                obtain ⟨Ao51,co51,eo51⟩ := Kd.R_slice HO_13.out
                subst eo51
                obtain ⟨Ao52,co52,eo52⟩ := Kd.R_slice HO_14.out
                subst eo52
                obtain ⟨Ao53,co53,eo53⟩ := Kd.S_slice HO_15.out
                subst eo53
                go_wp2_with (first | ((with_reducible refine gate_callee (f := 27) rfl ?_);refine goesL_ (some 119) rfl rfl Try.func27 (by kernel_rfl) rfl #[.slice Ao51 t558.length co51,.int .i64 (wrap64 (900 + t579)),.slice Ao52 x14_3.length co52,.slice Ao53 x15_3.length co53] rfl (by (try simp only [List.map_toArray,List.map_cons,List.map_nil]);first | done | rfl) ?_;(with_reducible refine (gauge_Sheet.calls kj38 _ _ t558 (wrap64 (900 + t579)) _ _ x14_3 _ _ x15_3 t586 t587 t588 _ ?side1 ?side2 ?side3 ?side4 ?side5 ?side6 A45.out).mono ?_);(case side1 => exact lc_ (Kd.R_reads' HO_13.out).2.2);(case side2 => exact (Kd.R_reads' HO_13.out).2.1);(case side3 => exact lc_ (Kd.R_reads' HO_14.out).2.2);(case side4 => exact (Kd.R_reads' HO_14.out).2.1);(case side5 => repeat (first | exact (Kd.S_reads' HO_15.out).2.2 | (with_reducible refine Kd.C_alloc ?_ _) | (with_reducible refine Kd.C_drewN ?_ _) | (with_reducible refine Kd.C_drew ?_)));(case side6 => exact (Kd.S_reads' HO_15.out).2.1);rintro e w54 ⟨rfl,hb⟩;refine ⟨_,rfl,?_⟩;have n0_ := aM_ (Kd.R_below (by exact lo_ HO_13) hb);have n1_ := aM_ (Kd.R_below (by exact lo_ HO_14) hb);have n2_ := aM_ (Kd.S_below (by (with_reducible repeat (first | apply Kd.S_alloc | apply Kd.S_drewN | apply Kd.S_drew));exact HO_15.out) hb);have n3_ := aM_ (bT_ (by exact lb_ HB) hb);clear HO_13;clear HO_14;clear HO_15;clear HB;have HO_13 := n0_;have HO_14 := n1_;have HO_15 := n2_;have HB := n3_;clear n0_ n1_ n2_ n3_;(try clear hb);(try clear hb2);(try clear hk);(try clear hi)) | ((with_reducible refine gate_callee (f := 28) rfl ?_);refine goesL_ (some 128) rfl rfl Try.func28 (by kernel_rfl) rfl #[.slice Ao51 t558.length co51,.int .i64 (wrap64 (900 + t579)),.slice Ao52 x14_3.length co52,.slice Ao53 x15_3.length co53] rfl (by (try simp only [List.map_toArray,List.map_cons,List.map_nil]);first | done | rfl) ?_;(with_reducible refine (R_Sheet.calls kj38 _ _ t558 (wrap64 (900 + t579)) _ _ x14_3 _ _ x15_3 t589 t590 t591 _ ?side1 ?side2 ?side3 ?side4 ?side5 ?side6 A46.out).mono ?_);(case side1 => exact lc_ (Kd.R_reads' HO_13.out).2.2);(case side2 => exact (Kd.R_reads' HO_13.out).2.1);(case side3 => exact lc_ (Kd.R_reads' HO_14.out).2.2);(case side4 => exact (Kd.R_reads' HO_14.out).2.1);(case side5 => repeat (first | exact (Kd.S_reads' HO_15.out).2.2 | (with_reducible refine Kd.C_alloc ?_ _) | (with_reducible refine Kd.C_drewN ?_ _) | (with_reducible refine Kd.C_drew ?_)));(case side6 => exact (Kd.S_reads' HO_15.out).2.1);rintro e w55 ⟨rfl,hb⟩;refine ⟨_,rfl,?_⟩;have n0_ := aM_ (Kd.R_below (by exact lo_ HO_13) hb);have n1_ := aM_ (Kd.R_below (by exact lo_ HO_14) hb);have n2_ := aM_ (Kd.S_below (by (with_reducible repeat (first | apply Kd.S_alloc | apply Kd.S_drewN | apply Kd.S_drew));exact HO_15.out) hb);have n3_ := aM_ (bT_ (by exact lb_ HB) hb);clear HO_13;clear HO_14;clear HO_15;clear HB;have HO_13 := n0_;have HO_14 := n1_;have HO_15 := n2_;have HB := n3_;clear n0_ n1_ n2_ n3_;(try clear hb);(try clear hb2);(try clear hk);(try clear hi)) | (go_at_call 18;(with_reducible refine (L_awake.calls kj38  t592 _ A50.out).mono ?_);rintro e w56 ⟨rfl,hb⟩;have n0_ := aM_ (Kd.R_below (by exact lo_ HO_13) hb);have n1_ := aM_ (Kd.R_below (by exact lo_ HO_14) hb);have n2_ := aM_ (Kd.S_below (by (with_reducible repeat (first | apply Kd.S_alloc | apply Kd.S_drewN | apply Kd.S_drew));exact HO_15.out) hb);have n3_ := aM_ (bT_ (by exact lb_ HB) hb);clear HO_13;clear HO_14;clear HO_15;clear HB;have HO_13 := n0_;have HO_14 := n1_;have HO_15 := n2_;have HB := n3_;clear n0_ n1_ n2_ n3_;(try clear hb);(try clear hb2);(try clear hk);(try clear hi)))
                go_ret
                exact ⟨by first | rfl | (simp [*] <;> rfl),by exact lb_ HB⟩
               ·rw [if_neg c49] at H
                have c49b0 : (t588 == t591) = false := beq_eq_false_iff_ne.mpr c49
                have c49b1 : (t588 != t591) = true := bne_iff_ne.mpr c49
                obtain rfl := Option.some.inj H
                obtain ⟨Ao57,co57,eo57⟩ := Kd.R_slice HO_13.out
                subst eo57
                obtain ⟨Ao58,co58,eo58⟩ := Kd.R_slice HO_14.out
                subst eo58
                obtain ⟨Ao59,co59,eo59⟩ := Kd.S_slice HO_15.out
                subst eo59
                go_wp2_with (first | ((with_reducible refine gate_callee (f := 27) rfl ?_);refine goesL_ (some 119) rfl rfl Try.func27 (by kernel_rfl) rfl #[.slice Ao57 t558.length co57,.int .i64 (wrap64 (900 + t579)),.slice Ao58 x14_3.length co58,.slice Ao59 x15_3.length co59] rfl (by (try simp only [List.map_toArray,List.map_cons,List.map_nil]);first | done | rfl) ?_;(with_reducible refine (gauge_Sheet.calls kj38 _ _ t558 (wrap64 (900 + t579)) _ _ x14_3 _ _ x15_3 t586 t587 t588 _ ?side1 ?side2 ?side3 ?side4 ?side5 ?side6 A45.out).mono ?_);(case side1 => exact lc_ (Kd.R_reads' HO_13.out).2.2);(case side2 => exact (Kd.R_reads' HO_13.out).2.1);(case side3 => exact lc_ (Kd.R_reads' HO_14.out).2.2);(case side4 => exact (Kd.R_reads' HO_14.out).2.1);(case side5 => repeat (first | exact (Kd.S_reads' HO_15.out).2.2 | (with_reducible refine Kd.C_alloc ?_ _) | (with_reducible refine Kd.C_drewN ?_ _) | (with_reducible refine Kd.C_drew ?_)));(case side6 => exact (Kd.S_reads' HO_15.out).2.1);rintro e w60 ⟨rfl,hb⟩;refine ⟨_,rfl,?_⟩;have n0_ := aM_ (Kd.R_below (by exact lo_ HO_13) hb);have n1_ := aM_ (Kd.R_below (by exact lo_ HO_14) hb);have n2_ := aM_ (Kd.S_below (by (with_reducible repeat (first | apply Kd.S_alloc | apply Kd.S_drewN | apply Kd.S_drew));exact HO_15.out) hb);have n3_ := aM_ (bT_ (by exact lb_ HB) hb);clear HO_13;clear HO_14;clear HO_15;clear HB;have HO_13 := n0_;have HO_14 := n1_;have HO_15 := n2_;have HB := n3_;clear n0_ n1_ n2_ n3_;(try clear hb);(try clear hb2);(try clear hk);(try clear hi)) | ((with_reducible refine gate_callee (f := 28) rfl ?_);refine goesL_ (some 128) rfl rfl Try.func28 (by kernel_rfl) rfl #[.slice Ao57 t558.length co57,.int .i64 (wrap64 (900 + t579)),.slice Ao58 x14_3.length co58,.slice Ao59 x15_3.length co59] rfl (by (try simp only [List.map_toArray,List.map_cons,List.map_nil]);first | done | rfl) ?_;(with_reducible refine (R_Sheet.calls kj38 _ _ t558 (wrap64 (900 + t579)) _ _ x14_3 _ _ x15_3 t589 t590 t591 _ ?side1 ?side2 ?side3 ?side4 ?side5 ?side6 A46.out).mono ?_);(case side1 => exact lc_ (Kd.R_reads' HO_13.out).2.2);(case side2 => exact (Kd.R_reads' HO_13.out).2.1);(case side3 => exact lc_ (Kd.R_reads' HO_14.out).2.2);(case side4 => exact (Kd.R_reads' HO_14.out).2.1);(case side5 => repeat (first | exact (Kd.S_reads' HO_15.out).2.2 | (with_reducible refine Kd.C_alloc ?_ _) | (with_reducible refine Kd.C_drewN ?_ _) | (with_reducible refine Kd.C_drew ?_)));(case side6 => exact (Kd.S_reads' HO_15.out).2.1);rintro e w61 ⟨rfl,hb⟩;refine ⟨_,rfl,?_⟩;have n0_ := aM_ (Kd.R_below (by exact lo_ HO_13) hb);have n1_ := aM_ (Kd.R_below (by exact lo_ HO_14) hb);have n2_ := aM_ (Kd.S_below (by (with_reducible repeat (first | apply Kd.S_alloc | apply Kd.S_drewN | apply Kd.S_drew));exact HO_15.out) hb);have n3_ := aM_ (bT_ (by exact lb_ HB) hb);clear HO_13;clear HO_14;clear HO_15;clear HB;have HO_13 := n0_;have HO_14 := n1_;have HO_15 := n2_;have HB := n3_;clear n0_ n1_ n2_ n3_;(try clear hb);(try clear hb2);(try clear hk);(try clear hi)))
                go_ret
                exact ⟨by first | rfl | (simp [*] <;> rfl),by exact lb_ HB⟩
              ·rw [if_neg c48] at H
               have c48b0 : (t587 == t590) = false := beq_eq_false_iff_ne.mpr c48
               have c48b1 : (t587 != t590) = true := bne_iff_ne.mpr c48
               obtain rfl := Option.some.inj H
               obtain ⟨Ao62,co62,eo62⟩ := Kd.R_slice HO_13.out
               subst eo62
               obtain ⟨Ao63,co63,eo63⟩ := Kd.R_slice HO_14.out
               subst eo63
               obtain ⟨Ao64,co64,eo64⟩ := Kd.S_slice HO_15.out
               subst eo64
               go_wp2_with (first | ((with_reducible refine gate_callee (f := 27) rfl ?_);refine goesL_ (some 119) rfl rfl Try.func27 (by kernel_rfl) rfl #[.slice Ao62 t558.length co62,.int .i64 (wrap64 (900 + t579)),.slice Ao63 x14_3.length co63,.slice Ao64 x15_3.length co64] rfl (by (try simp only [List.map_toArray,List.map_cons,List.map_nil]);first | done | rfl) ?_;(with_reducible refine (gauge_Sheet.calls kj38 _ _ t558 (wrap64 (900 + t579)) _ _ x14_3 _ _ x15_3 t586 t587 t588 _ ?side1 ?side2 ?side3 ?side4 ?side5 ?side6 A45.out).mono ?_);(case side1 => exact lc_ (Kd.R_reads' HO_13.out).2.2);(case side2 => exact (Kd.R_reads' HO_13.out).2.1);(case side3 => exact lc_ (Kd.R_reads' HO_14.out).2.2);(case side4 => exact (Kd.R_reads' HO_14.out).2.1);(case side5 => repeat (first | exact (Kd.S_reads' HO_15.out).2.2 | (with_reducible refine Kd.C_alloc ?_ _) | (with_reducible refine Kd.C_drewN ?_ _) | (with_reducible refine Kd.C_drew ?_)));(case side6 => exact (Kd.S_reads' HO_15.out).2.1);rintro e w65 ⟨rfl,hb⟩;refine ⟨_,rfl,?_⟩;have n0_ := aM_ (Kd.R_below (by exact lo_ HO_13) hb);have n1_ := aM_ (Kd.R_below (by exact lo_ HO_14) hb);have n2_ := aM_ (Kd.S_below (by (with_reducible repeat (first | apply Kd.S_alloc | apply Kd.S_drewN | apply Kd.S_drew));exact HO_15.out) hb);have n3_ := aM_ (bT_ (by exact lb_ HB) hb);clear HO_13;clear HO_14;clear HO_15;clear HB;have HO_13 := n0_;have HO_14 := n1_;have HO_15 := n2_;have HB := n3_;clear n0_ n1_ n2_ n3_;(try clear hb);(try clear hb2);(try clear hk);(try clear hi)) | ((with_reducible refine gate_callee (f := 28) rfl ?_);refine goesL_ (some 128) rfl rfl Try.func28 (by kernel_rfl) rfl #[.slice Ao62 t558.length co62,.int .i64 (wrap64 (900 + t579)),.slice Ao63 x14_3.length co63,.slice Ao64 x15_3.length co64] rfl (by (try simp only [List.map_toArray,List.map_cons,List.map_nil]);first | done | rfl) ?_;(with_reducible refine (R_Sheet.calls kj38 _ _ t558 (wrap64 (900 + t579)) _ _ x14_3 _ _ x15_3 t589 t590 t591 _ ?side1 ?side2 ?side3 ?side4 ?side5 ?side6 A46.out).mono ?_);(case side1 => exact lc_ (Kd.R_reads' HO_13.out).2.2);(case side2 => exact (Kd.R_reads' HO_13.out).2.1);(case side3 => exact lc_ (Kd.R_reads' HO_14.out).2.2);(case side4 => exact (Kd.R_reads' HO_14.out).2.1);(case side5 => repeat (first | exact (Kd.S_reads' HO_15.out).2.2 | (with_reducible refine Kd.C_alloc ?_ _) | (with_reducible refine Kd.C_drewN ?_ _) | (with_reducible refine Kd.C_drew ?_)));(case side6 => exact (Kd.S_reads' HO_15.out).2.1);rintro e w66 ⟨rfl,hb⟩;refine ⟨_,rfl,?_⟩;have n0_ := aM_ (Kd.R_below (by exact lo_ HO_13) hb);have n1_ := aM_ (Kd.R_below (by exact lo_ HO_14) hb);have n2_ := aM_ (Kd.S_below (by (with_reducible repeat (first | apply Kd.S_alloc | apply Kd.S_drewN | apply Kd.S_drew));exact HO_15.out) hb);have n3_ := aM_ (bT_ (by exact lb_ HB) hb);clear HO_13;clear HO_14;clear HO_15;clear HB;have HO_13 := n0_;have HO_14 := n1_;have HO_15 := n2_;have HB := n3_;clear n0_ n1_ n2_ n3_;(try clear hb);(try clear hb2);(try clear hk);(try clear hi)))
               go_ret
               exact ⟨by first | rfl | (simp [*] <;> rfl),by exact lb_ HB⟩
             ·rw [if_neg c47] at H
              have c47b0 : (t586 == t589) = false := beq_eq_false_iff_ne.mpr c47
              have c47b1 : (t586 != t589) = true := bne_iff_ne.mpr c47
              obtain rfl := Option.some.inj H
              obtain ⟨Ao67,co67,eo67⟩ := Kd.R_slice HO_13.out
              subst eo67
              obtain ⟨Ao68,co68,eo68⟩ := Kd.R_slice HO_14.out
              subst eo68
              obtain ⟨Ao69,co69,eo69⟩ := Kd.S_slice HO_15.out
              subst eo69
              go_wp2_with (first | ((with_reducible refine gate_callee (f := 27) rfl ?_);refine goesL_ (some 119) rfl rfl Try.func27 (by kernel_rfl) rfl #[.slice Ao67 t558.length co67,.int .i64 (wrap64 (900 + t579)),.slice Ao68 x14_3.length co68,.slice Ao69 x15_3.length co69] rfl (by (try simp only [List.map_toArray,List.map_cons,List.map_nil]);first | done | rfl) ?_;(with_reducible refine (gauge_Sheet.calls kj38 _ _ t558 (wrap64 (900 + t579)) _ _ x14_3 _ _ x15_3 t586 t587 t588 _ ?side1 ?side2 ?side3 ?side4 ?side5 ?side6 A45.out).mono ?_);(case side1 => exact lc_ (Kd.R_reads' HO_13.out).2.2);(case side2 => exact (Kd.R_reads' HO_13.out).2.1);(case side3 => exact lc_ (Kd.R_reads' HO_14.out).2.2);(case side4 => exact (Kd.R_reads' HO_14.out).2.1);(case side5 => repeat (first | exact (Kd.S_reads' HO_15.out).2.2 | (with_reducible refine Kd.C_alloc ?_ _) | (with_reducible refine Kd.C_drewN ?_ _) | (with_reducible refine Kd.C_drew ?_)));(case side6 => exact (Kd.S_reads' HO_15.out).2.1);rintro e w70 ⟨rfl,hb⟩;refine ⟨_,rfl,?_⟩;have n0_ := aM_ (Kd.R_below (by exact lo_ HO_13) hb);have n1_ := aM_ (Kd.R_below (by exact lo_ HO_14) hb);have n2_ := aM_ (Kd.S_below (by (with_reducible repeat (first | apply Kd.S_alloc | apply Kd.S_drewN | apply Kd.S_drew));exact HO_15.out) hb);have n3_ := aM_ (bT_ (by exact lb_ HB) hb);clear HO_13;clear HO_14;clear HO_15;clear HB;have HO_13 := n0_;have HO_14 := n1_;have HO_15 := n2_;have HB := n3_;clear n0_ n1_ n2_ n3_;(try clear hb);(try clear hb2);(try clear hk);(try clear hi)) | ((with_reducible refine gate_callee (f := 28) rfl ?_);refine goesL_ (some 128) rfl rfl Try.func28 (by kernel_rfl) rfl #[.slice Ao67 t558.length co67,.int .i64 (wrap64 (900 + t579)),.slice Ao68 x14_3.length co68,.slice Ao69 x15_3.length co69] rfl (by (try simp only [List.map_toArray,List.map_cons,List.map_nil]);first | done | rfl) ?_;(with_reducible refine (R_Sheet.calls kj38 _ _ t558 (wrap64 (900 + t579)) _ _ x14_3 _ _ x15_3 t589 t590 t591 _ ?side1 ?side2 ?side3 ?side4 ?side5 ?side6 A46.out).mono ?_);(case side1 => exact lc_ (Kd.R_reads' HO_13.out).2.2);(case side2 => exact (Kd.R_reads' HO_13.out).2.1);(case side3 => exact lc_ (Kd.R_reads' HO_14.out).2.2);(case side4 => exact (Kd.R_reads' HO_14.out).2.1);(case side5 => repeat (first | exact (Kd.S_reads' HO_15.out).2.2 | (with_reducible refine Kd.C_alloc ?_ _) | (with_reducible refine Kd.C_drewN ?_ _) | (with_reducible refine Kd.C_drew ?_)));(case side6 => exact (Kd.S_reads' HO_15.out).2.1);rintro e w71 ⟨rfl,hb⟩;refine ⟨_,rfl,?_⟩;have n0_ := aM_ (Kd.R_below (by exact lo_ HO_13) hb);have n1_ := aM_ (Kd.R_below (by exact lo_ HO_14) hb);have n2_ := aM_ (Kd.S_below (by (with_reducible repeat (first | apply Kd.S_alloc | apply Kd.S_drewN | apply Kd.S_drew));exact HO_15.out) hb);have n3_ := aM_ (bT_ (by exact lb_ HB) hb);clear HO_13;clear HO_14;clear HO_15;clear HB;have HO_13 := n0_;have HO_14 := n1_;have HO_15 := n2_;have HB := n3_;clear n0_ n1_ n2_ n3_;(try clear hb);(try clear hb2);(try clear hk);(try clear hi)))
              go_ret
              exact ⟨by first | rfl | (simp [*] <;> rfl),by exact lb_ HB⟩

end Go.Proofs.Ytdbpobadeibjaab.GS
