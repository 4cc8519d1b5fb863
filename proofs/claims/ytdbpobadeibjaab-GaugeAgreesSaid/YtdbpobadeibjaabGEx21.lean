-- written for this claim by a program of this session (wip/gp), over the kit's own printer; Lean checks it
import Derived.Test.YtdbpobadeibjaabGEx0
import Derived.Test.YtdbpobadeibjaabGEx1
import Derived.Test.YtdbpobadeibjaabGEx3
import Derived.Test.YtdbpobadeibjaabGEx4
import Derived.Test.YtdbpobadeibjaabGEx5
import Derived.Test.YtdbpobadeibjaabGEx10
import Derived.Test.YtdbpobadeibjaabGEx14
import Derived.Test.YtdbpobadeibjaabGEx15
import Derived.Test.YtdbpobadeibjaabGEx16
import Derived.Test.YtdbpobadeibjaabGEx20
namespace Go.Proofs.Ytdbpobadeibjaab.GE
open Go.RowKit Go.Proofs.YtdbpobadeibjaabW.PrintWords Go.Proofs.YtdbpobadeibjaabW.PrintLast Go.Proofs.YtdbpobadeibjaabW.PrintMore
attribute [local go_sem] max2_int min2_int max_two min_two max_three min_three max_four min_four
set_option linter.unusedVariables false
set_option linter.unusedSimpArgs false

attribute [local go_sem high] eqA34
/-! ### L_GaugeAgrees: function 3 -/
mutual
def L_GaugeAgrees.l0 : Nat → List (S49) → Int → List (S32) → List (S32) → Int → Int → Option (Bool)
 | 0,_,_,_,_,_,_ => none
 | k + 1,x6,x7,x8,x9,x10,x256000 => if x10 > 0 then ((D_Upto.f x256000 (x6.length : Int)).bind fun bt263 => ((K_Showing.f k bt263.2 x6 bt263.1 x7).bind fun bt265 => ((some (([(⟨bt263.1,bt265.1⟩ : S32)] : List (S32)) : List (S32))).bind fun y268 => (if x8.length + y268.length < 8796093022208 then ((some (([(⟨bt263.1,bt265.1⟩ : S32)] : List (S32)) : List (S32))).bind fun y274 => (if y274.length + x9.length < 8796093022208 then (L_GaugeAgrees.l0 k x6 x7 (x8 ++ y268) (y274 ++ x9) (wrap64 (x10 - 1)) bt265.2) else (none))) else (none))))) else ((gauge_Together.f k x6 x8).bind fun bt280 => ((gauge_Together.f k x6 x9).bind fun bt284 => (if bt280.2.2 = 0 then (if bt284.2.2 = 0 then (if (!(bt280.1 == bt284.1) || (!(bt280.2.1 == bt284.2.1))) = true then (L_GaugeAgrees.j1 k x6 x8 true bt280.1 bt280.2.1) else (if x7 < bt280.1 then (L_GaugeAgrees.j1 k x6 x8 true bt280.1 bt280.2.1) else (L_GaugeAgrees.j1 k x6 x8 (decide (x7 > bt280.2.1)) bt280.1 bt280.2.1))) else (L_GaugeAgrees.j1 k x6 x8 true bt280.1 bt280.2.1)) else (L_GaugeAgrees.j1 k x6 x8 true bt280.1 bt280.2.1))))
def L_GaugeAgrees.j1 : Nat → List (S49) → List (S32) → Bool → Int → Int → Option (Bool)
 | 0,_,_,_,_,_ => none
 | k + 1,x6,x8,x86,x284000,x284001 => if x86 = true then (some false) else (L_GaugeAgrees.l1 k x6 x8 0 x284000 x284001)
def L_GaugeAgrees.l1 : Nat → List (S49) → List (S32) → Int → Int → Int → Option (Bool)
 | 0,_,_,_,_,_ => none
 | k + 1,x6,x8,x17,x284000,x284001 => if x17 < (x8.length : Int) then (if 0 ≤ x17 then ((gauge_True.f x6 ((rd_T32 x8 x17).f0) ((rd_T32 x8 x17).f1)).bind fun bt291 => (if bt291.2.2 = 0 then ((K_Within.f x284000 x284001 bt291.1 bt291.2.1).bind fun t295 => (if t295 = true then (L_GaugeAgrees.l1 k x6 x8 (wrap64 (x17 + 1)) x284000 x284001) else (some false))) else (some false))) else (none)) else ((L_awake.f k).bind fun t288 => (some t288))
end
def L_GaugeAgrees.f (k : Nat) (l0 : List Int) (a1 : Int) : Option (Bool) := (K_NewDice.f l0).bind fun t254 => ((K_BenchOf.f t254 4).bind fun bt256 => ((K_Mod.f a1 200001).bind fun t260 => ((D_Between.f bt256.2 1 5).bind fun bt261 => (L_GaugeAgrees.l0 k bt256.1 (wrap64 (t260 - 100000)) ([] : List (S32)) ([] : List (S32)) bt261.1 bt261.2))))
def L_GaugeAgrees.T10 : Bool × List (List Nat × List Nat) := (true,[([],[]),([],[]),([1],[1]),([0,2],[0,2]),([],[]),([4],[4]),([],[]),([5,6,3],[5,6]),([3,7,0,1,2,3],[0,3]),([7,8,0,1,2,3,4,5,6,7,8],[6,7])])
def L_GaugeAgrees.B10 : List Nat := [0,0,2,7,0,16,0,127,255,511]
theorem L_GaugeAgrees.tab10 : rtab .any (opsOf Try.f3 10) = L_GaugeAgrees.T10 := by kernel_rfl
theorem L_GaugeAgrees.bits10 : waitsOk L_GaugeAgrees.T10.2 L_GaugeAgrees.B10 = true := by kernel_rfl
def L_GaugeAgrees.T18 : Bool × List (List Nat × List Nat) := (true,[([],[]),([],[]),([],[]),([1,2],[1,2]),([3],[3]),([4],[4]),([],[]),([],[]),([6,7],[6,7]),([8],[8]),([9],[9]),([0,5,10],[0,5,10]),([11],[11]),([12],[12]),([12],[12]),([],[]),([15,13,11,0,1,2,3,4,5,6,7,8,9,10,11,12,13,15],[13,15]),([14,16,0,1,2,3,4,5,6,7,8,9,10,11,12,13,14,15,16],[14])])
def L_GaugeAgrees.B18 : List Nat := [0,0,0,6,14,30,0,0,192,448,960,2047,4095,8191,8191,0,49151,131071]
theorem L_GaugeAgrees.tab18 : rtab .any (opsOf Try.f3 18) = L_GaugeAgrees.T18 := by kernel_rfl
theorem L_GaugeAgrees.bits18 : waitsOk L_GaugeAgrees.T18.2 L_GaugeAgrees.B18 = true := by kernel_rfl
set_option maxHeartbeats 8000000 in
set_option maxRecDepth 100000 in
theorem L_GaugeAgrees.calls (k : Nat) (A0 : Option Addr) (c0 : Nat) (l0 : List Int) (a1 : Int) (r : Bool) (w : World) (hr0 : Kd.C (Kd.int .i64) w A0 l0.length l0) (hc0 : l0.length ≤ c0) (h : L_GaugeAgrees.f k l0 a1 = some r) :
  Calls Try.prog 3 #[.slice A0 l0.length c0,.int .i64 a1] w fun e w' => e = .returned (.bool r) ∧ Below w.heap.size w w' := by
 have hu32 := Try.underlying32
 have hu34 := Try.underlying34
 have HR0 := aM_ hr0
 have HC0 := aM_ hc0
 clear hr0 hc0
 have HB := aM_ (Below.refl w.heap.size w)
 have H : ((K_NewDice.f l0).bind fun t254 => ((K_BenchOf.f t254 4).bind fun bt256 => ((K_Mod.f a1 200001).bind fun t260 => ((D_Between.f bt256.2 1 5).bind fun bt261 => (L_GaugeAgrees.l0 k bt256.1 (wrap64 (t260 - 100000)) ([] : List (S32)) ([] : List (S32)) bt261.1 bt261.2))))) = some r := h
 clear h
 replace H := oB_ H
 obtain ⟨t254,A30,H⟩ := H
 replace H : ((K_BenchOf.f t254 4).bind fun bt256 => ((K_Mod.f a1 200001).bind fun t260 => ((D_Between.f bt256.2 1 5).bind fun bt261 => (L_GaugeAgrees.l0 k bt256.1 (wrap64 (t260 - 100000)) ([] : List (S32)) ([] : List (S32)) bt261.1 bt261.2)))) = some r := H
 have A3 := aM_ A30
 clear A30
 replace H := oB_ H
 obtain ⟨⟨t256,t259⟩,A40,H⟩ := H
 replace H : ((K_Mod.f a1 200001).bind fun t260 => ((D_Between.f t259 1 5).bind fun bt261 => (L_GaugeAgrees.l0 k t256 (wrap64 (t260 - 100000)) ([] : List (S32)) ([] : List (S32)) bt261.1 bt261.2))) = some r := H
 have A4 := aM_ A40
 clear A40
 replace H := oB_ H
 obtain ⟨t260,A50,H⟩ := H
 replace H : ((D_Between.f t259 1 5).bind fun bt261 => (L_GaugeAgrees.l0 k t256 (wrap64 (t260 - 100000)) ([] : List (S32)) ([] : List (S32)) bt261.1 bt261.2)) = some r := H
 have A5 := aM_ A50
 clear A50
 replace H := oB_ H
 obtain ⟨⟨t261,t262⟩,A60,H⟩ := H
 replace H : (L_GaugeAgrees.l0 k t256 (wrap64 (t260 - 100000)) ([] : List (S32)) ([] : List (S32)) t261 t262) = some r := H
 have A6 := aM_ A60
 clear A60
 have H' := aM_ H
 clear H
 go_enter Try.func3,Try.ntmps3
 go_wp2_with (first | ((with_reducible refine gate_callee (f := 9) rfl ?_);refine goesL_ (some 21) rfl rfl Try.func9 (by kernel_rfl) rfl #[.slice A0 l0.length c0] rfl (by (try simp only [List.map_toArray,List.map_cons,List.map_nil]);first | done | rfl) ?_;(with_reducible refine (K_NewDice.calls _ _ l0 t254 w _ ?side1 ?side2 ?side3 A3.out).mono ?_);(case side1 => repeat (first | (with_reducible first | exact HB.out | apply bA_ | apply bN_ | apply bD_) | exact HB.out));(case side2 => exact HR0.out);(case side3 => exact HC0.out);rintro e w7 ⟨g255,rfl,hi,hb,hb2⟩;refine ⟨_,rfl,?_⟩;have n0_ := aM_ (hb);have n1_ := aM_ (hi);clear HB;have HB := n0_;have HI255 := n1_;clear n0_ n1_;(try clear hb);(try clear hb2);(try clear hk);(try clear hi)) | ((with_reducible refine gate_callee (f := 10) rfl ?_);refine goesL_ (some 23) rfl rfl Try.func10 (by kernel_rfl) rfl #[.pointer (some ⟨g255,0,none⟩),.int .i64 4] rfl (by (try simp only [List.map_toArray,List.map_cons,List.map_nil]);first | done | rfl) ?_;(with_reducible refine (K_BenchOf.calls g255 t254 4 t256 t259 w _ ?side1 ?side2 A4.out).mono ?_);(case side1 => repeat (first | (with_reducible first | exact HI255.out | apply IsS65.alloc | apply IsS65.drewN | apply IsS65.drew | apply IsS65.set_0) | exact HI255.out));(case side2 => repeat (first | (with_reducible first | exact HB.out | apply bA_ | apply bN_ | apply bD_ | refine bS_ ?_ (IsS65.ge HI255.out)) | exact HB.out));rintro e w8 ⟨v257,rfl,ho0,hi,hb,hk⟩;refine ⟨_,rfl,?_⟩;have n0_ := aM_ (Kd.R_lower ho0 (below_size (by repeat (first | (with_reducible first | exact HB.out | apply bA_ | apply bN_ | apply bD_ | refine bS_ ?_ (IsS65.ge HI255.out)) | exact HB.out))));have n1_ := aM_ (hb);have n2_ := aM_ (hi);clear HB;clear HI255;have HO258 := n0_;have HB := n1_;have HI255 := n2_;clear n0_ n1_ n2_;(try clear hb);(try clear hb2);(try clear hk);(try clear hi);(try clear ho0)) | ((with_reducible refine gate_callee (f := 11) rfl ?_);refine goesL_ (some 25) rfl rfl Try.func11 (by kernel_rfl) rfl #[.int .i64 a1,.int .i64 200001] rfl (by (try simp only [List.map_toArray,List.map_cons,List.map_nil]);first | done | rfl) ?_;(with_reducible refine (K_Mod.calls a1 200001 t260 _ A5.out).mono ?_);rintro e w' ⟨rfl,⟨nd,rfl⟩⟩;refine ⟨_,rfl,?_⟩) | ((with_reducible refine gate_callee (f := 12) rfl ?_);refine goesL_ (some 28) rfl rfl Try.func12 (by kernel_rfl) rfl #[.pointer (some ⟨g255,0,none⟩),.int .i64 1,.int .i64 5] rfl (by (try simp only [List.map_toArray,List.map_cons,List.map_nil]);first | done | rfl) ?_;(with_reducible refine (D_Between.calls g255 t259 1 5 t261 t262 w _ ?side1 ?side2 A6.out).mono ?_);(case side1 => repeat (first | (with_reducible first | exact HI255.out | apply IsS65.alloc | apply IsS65.drewN | apply IsS65.drew | apply IsS65.set_0) | exact HI255.out));(case side2 => repeat (first | (with_reducible first | exact HB.out | apply bA_ | apply bN_ | apply bD_ | refine bS_ ?_ (IsS65.ge HI255.out)) | exact HB.out));rintro e w9 ⟨rfl,hi,hb,hk⟩;refine ⟨_,rfl,?_⟩;have n0_ := aM_ (Kd.R_mono (Kd.R_keep (IsS65.apart (show IsS65 w _ g255 t259 from by repeat (first | (with_reducible first | exact HI255.out | apply IsS65.alloc | apply IsS65.drewN | apply IsS65.drew | apply IsS65.set_0) | exact HI255.out)) (by (with_reducible repeat (first | apply Kd.R_alloc | apply Kd.R_drewN | apply Kd.R_drew));exact HO258.out) (by decide)) hk (fun _ h => h.2)) (fun _ h => h.1));have n1_ := aM_ (hb);have n2_ := aM_ (hi);clear HO258;clear HB;clear HI255;have HO258 := n0_;have HB := n1_;have HI255 := n2_;clear n0_ n1_ n2_;(try clear hb);(try clear hb2);(try clear hk);(try clear hi)))
 go_loopg [8,9,10] k (fun kq v8 v9 v10 w' => ∃ (x8_1 : List (S32)) (x9_1 : List (S32)) (x10_1 : Int) (x256000_1 : Int),v10 = .int .i64 x10_1 ∧ Aside0 (L_GaugeAgrees.l0 kq t256 (wrap64 (t260 - 100000)) x8_1 x9_1 x10_1 x256000_1 = some r) ∧ Aside0 (kq ≤ k) ∧ Aside0 (Kd.R k49 49 w' w.heap.size (fun _ => True) v257 t256) ∧ Aside0 (Kd.R k32 32 w' w.heap.size (fun k_ => some k_ ≠ (v9 : Value).ownBlock) v8 x8_1) ∧ Aside0 (Kd.R k32 32 w' w.heap.size (fun k_ => some k_ ≠ (v8 : Value).ownBlock) v9 x9_1) ∧ Aside0 (IsS65 w w' g255 x256000_1) ∧ Aside0 (Below w.heap.size w w'))
 case atStart => exact ⟨(([] : List (S32))),(([] : List (S32))),(t261),(t262),(by first | rfl | (simp;done) | (simp [*];done)),H',⟨Nat.le_refl _⟩,⟨by (with_reducible repeat (first | apply Kd.R_alloc | apply Kd.R_drewN | apply Kd.R_drew));exact HO258.out⟩,⟨by first | exact Kd.R_nil _ _ _ _ _ | exact Kd.N_nil _ _ _ _ _ | exact Kd.V_nil _ _ _ _ _ | exact Kd.Q_nil _ _ _ _ _ | exact Kd.S_nil _ _ _ _ _⟩,⟨by first | exact Kd.R_nil _ _ _ _ _ | exact Kd.N_nil _ _ _ _ _ | exact Kd.V_nil _ _ _ _ _ | exact Kd.Q_nil _ _ _ _ _ | exact Kd.S_nil _ _ _ _ _⟩,⟨by repeat (first | (with_reducible first | exact HI255.out | apply IsS65.alloc | apply IsS65.drewN | apply IsS65.drew | apply IsS65.set_0) | exact HI255.out)⟩,⟨by repeat (first | (with_reducible first | exact HB.out | apply bA_ | apply bN_ | apply bD_ | refine bS_ ?_ (IsS65.ge HI255.out)) | exact HB.out)⟩⟩
 case round =>
  clear H'
  try clear c1
  try clear p2
  try clear c3
  try clear p6
  try clear c9
  obtain ⟨x8_1,x9_1,x10_1,x256000_1,rfl,HA,HK1,HO_6,HO_8,HO_9,HI255,HB⟩ := hrel
  cases gk with
  | zero => exact absurd HA.out (by simp [L_GaugeAgrees.l0])
  | succ k1 =>
   have H := HA.out
   clear HA
   simp only [L_GaugeAgrees.l0] at H
   by_cases c10 : x10_1 > 0
   ·rw [if_pos c10] at H
    have c10b0 : decide (0 < x10_1) = true := decide_eq_true c10
    clear c10
    replace H := oB_ H
    obtain ⟨⟨t263,t264⟩,A110,H⟩ := H
    replace H : ((K_Showing.f k1 t264 t256 t263 (wrap64 (t260 - 100000))).bind fun bt265 => ((some (([(⟨t263,bt265.1⟩ : S32)] : List (S32)) : List (S32))).bind fun y268 => (if x8_1.length + y268.length < 8796093022208 then ((some (([(⟨t263,bt265.1⟩ : S32)] : List (S32)) : List (S32))).bind fun y274 => (if y274.length + x9_1.length < 8796093022208 then (L_GaugeAgrees.l0 k1 t256 (wrap64 (t260 - 100000)) (x8_1 ++ y268) (y274 ++ x9_1) (wrap64 (x10_1 - 1)) bt265.2) else (none))) else (none)))) = some r := H
    have A11 := aM_ A110
    clear A110
    replace H := oB_ H
    obtain ⟨⟨t265,t266⟩,A120,H⟩ := H
    replace H : ((some (([(⟨t263,t265⟩ : S32)] : List (S32)) : List (S32))).bind fun y268 => (if x8_1.length + y268.length < 8796093022208 then ((some (([(⟨t263,t265⟩ : S32)] : List (S32)) : List (S32))).bind fun y274 => (if y274.length + x9_1.length < 8796093022208 then (L_GaugeAgrees.l0 k1 t256 (wrap64 (t260 - 100000)) (x8_1 ++ y268) (y274 ++ x9_1) (wrap64 (x10_1 - 1)) t266) else (none))) else (none))) = some r := H
    have A12 := aM_ A120
    clear A120
    obtain ⟨y268,hy268⟩ : ∃ y_ : List (S32),y_ = (([(⟨t263,t265⟩ : S32)] : List (S32))) := ⟨_,rfl⟩
    replace H : (if x8_1.length + y268.length < 8796093022208 then ((some (([(⟨t263,t265⟩ : S32)] : List (S32)) : List (S32))).bind fun y274 => (if y274.length + x9_1.length < 8796093022208 then (L_GaugeAgrees.l0 k1 t256 (wrap64 (t260 - 100000)) (x8_1 ++ y268) (y274 ++ x9_1) (wrap64 (x10_1 - 1)) t266) else (none))) else (none)) = some r := by first | (rw [hy268];with_reducible exact H) | (have H2_ := (Option.bind_some _ _).symm.trans H;rw [hy268];with_reducible exact H2_) | (have H2_ := (Option.bind_some _ _).symm.trans H;with_reducible exact H2_) | with_reducible exact H | (rw [hy268];exact H) | exact H
    have Ny268 := aM_ hy268
    clear hy268
    by_cases c13 : x8_1.length + y268.length < 8796093022208
    ·rw [if_pos c13] at H
     have LMc13 := aM_ c13
     clear c13
     obtain ⟨y271,hy271⟩ : ∃ y_ : List (S32),y_ = (x8_1 ++ y268) := ⟨_,rfl⟩
     replace H : ((some (([(⟨t263,t265⟩ : S32)] : List (S32)) : List (S32))).bind fun y274 => (if y274.length + x9_1.length < 8796093022208 then (L_GaugeAgrees.l0 k1 t256 (wrap64 (t260 - 100000)) y271 (y274 ++ x9_1) (wrap64 (x10_1 - 1)) t266) else (none))) = some r := by first | (rw [hy271];with_reducible exact H) | (have H2_ := (Option.bind_some _ _).symm.trans H;rw [hy271];with_reducible exact H2_) | (have H2_ := (Option.bind_some _ _).symm.trans H;with_reducible exact H2_) | with_reducible exact H | (rw [hy271];exact H) | exact H
     have Ny271 := aM_ hy271
     clear hy271
     obtain ⟨y274,hy274⟩ : ∃ y_ : List (S32),y_ = (([(⟨t263,t265⟩ : S32)] : List (S32))) := ⟨_,rfl⟩
     replace H : (if y274.length + x9_1.length < 8796093022208 then (L_GaugeAgrees.l0 k1 t256 (wrap64 (t260 - 100000)) y271 (y274 ++ x9_1) (wrap64 (x10_1 - 1)) t266) else (none)) = some r := by first | (rw [hy274];with_reducible exact H) | (have H2_ := (Option.bind_some _ _).symm.trans H;rw [hy274];with_reducible exact H2_) | (have H2_ := (Option.bind_some _ _).symm.trans H;with_reducible exact H2_) | with_reducible exact H | (rw [hy274];exact H) | exact H
     have Ny274 := aM_ hy274
     clear hy274
     by_cases c14 : y274.length + x9_1.length < 8796093022208
     ·rw [if_pos c14] at H
      have LMc14 := aM_ c14
      clear c14
      obtain ⟨y277,hy277⟩ : ∃ y_ : List (S32),y_ = (y274 ++ x9_1) := ⟨_,rfl⟩
      replace H : (L_GaugeAgrees.l0 k1 t256 (wrap64 (t260 - 100000)) y271 y277 (wrap64 (x10_1 - 1)) t266) = some r := by first | (rw [hy277];with_reducible exact H) | (have H2_ := (Option.bind_some _ _).symm.trans H;rw [hy277];with_reducible exact H2_) | (have H2_ := (Option.bind_some _ _).symm.trans H;with_reducible exact H2_) | with_reducible exact H | (rw [hy277];exact H) | exact H
      have Ny277 := aM_ hy277
      clear hy277
      have H' := aM_ H
      clear H
      obtain ⟨Ao15,co15,eo15⟩ := Kd.R_slice HO_6.out
      subst eo15
      try go_wp2_with (first | ((with_reducible refine gate_callee (f := 13) rfl ?_);refine goesL_ (some 36) rfl rfl Try.func13 (by kernel_rfl) rfl #[.pointer (some ⟨g255,0,none⟩),.int .i64 (t256.length : Int)] rfl (by (try simp only [List.map_toArray,List.map_cons,List.map_nil]);first | done | rfl) ?_;(with_reducible refine (D_Upto.calls g255 x256000_1 (t256.length : Int) t263 t264 w _ ?side1 ?side2 A11.out).mono ?_);(case side1 => repeat (first | (with_reducible first | exact HI255.out | apply IsS65.alloc | apply IsS65.drewN | apply IsS65.drew | apply IsS65.set_0) | exact HI255.out));(case side2 => repeat (first | (with_reducible first | exact HB.out | apply bA_ | apply bN_ | apply bD_ | refine bS_ ?_ (IsS65.ge HI255.out)) | exact HB.out));rintro e w16 ⟨rfl,hi,hb,hk⟩;refine ⟨_,rfl,?_⟩;have n0_ := aM_ (Kd.R_mono (Kd.R_keep (IsS65.apart (show IsS65 w _ g255 x256000_1 from by repeat (first | (with_reducible first | exact HI255.out | apply IsS65.alloc | apply IsS65.drewN | apply IsS65.drew | apply IsS65.set_0) | exact HI255.out)) (by (with_reducible repeat (first | apply Kd.R_alloc | apply Kd.R_drewN | apply Kd.R_drew));exact HO_6.out) (by decide)) hk (fun _ h => h.2)) (fun _ h => h.1));have n1_ := aM_ (Kd.R_mono (Kd.R_keep (IsS65.apart (show IsS65 w _ g255 x256000_1 from by repeat (first | (with_reducible first | exact HI255.out | apply IsS65.alloc | apply IsS65.drewN | apply IsS65.drew | apply IsS65.set_0) | exact HI255.out)) (by (with_reducible repeat (first | apply Kd.R_alloc | apply Kd.R_drewN | apply Kd.R_drew));exact HO_8.out) (by decide)) hk (fun _ h => h.2)) (fun _ h => h.1));have n2_ := aM_ (Kd.R_mono (Kd.R_keep (IsS65.apart (show IsS65 w _ g255 x256000_1 from by repeat (first | (with_reducible first | exact HI255.out | apply IsS65.alloc | apply IsS65.drewN | apply IsS65.drew | apply IsS65.set_0) | exact HI255.out)) (by (with_reducible repeat (first | apply Kd.R_alloc | apply Kd.R_drewN | apply Kd.R_drew));exact HO_9.out) (by decide)) hk (fun _ h => h.2)) (fun _ h => h.1));have n3_ := aM_ (hb);have n4_ := aM_ (hi);clear HO_6;clear HO_8;clear HO_9;clear HB;clear HI255;have HO_6 := n0_;have HO_8 := n1_;have HO_9 := n2_;have HB := n3_;have HI255 := n4_;clear n0_ n1_ n2_ n3_ n4_;(try clear hb);(try clear hb2);(try clear hk);(try clear hi)) | ((with_reducible refine gate_callee (f := 14) rfl ?_);refine goesL_ (some 42) rfl rfl Try.func14 (by kernel_rfl) rfl #[.pointer (some ⟨g255,0,none⟩),.slice Ao15 t256.length co15,.int .i64 t263,.int .i64 (wrap64 (t260 - 100000))] rfl (by (try simp only [List.map_toArray,List.map_cons,List.map_nil]);first | done | rfl) ?_;(with_reducible refine (K_Showing.calls k1 g255 t264 _ _ t256 t263 (wrap64 (t260 - 100000)) t265 t266 w _ ?side1 ?side2 ?side3 ?side4 A12.out).mono ?_);(case side1 => repeat (first | (with_reducible first | exact HI255.out | apply IsS65.alloc | apply IsS65.drewN | apply IsS65.drew | apply IsS65.set_0) | exact HI255.out));(case side2 => repeat (first | (with_reducible first | exact HB.out | apply bA_ | apply bN_ | apply bD_ | refine bS_ ?_ (IsS65.ge HI255.out)) | exact HB.out));(case side3 => exact Kd.C_foot_own (IsS65.apart (show IsS65 w _ g255 t264 from by repeat (first | (with_reducible first | exact HI255.out | apply IsS65.alloc | apply IsS65.drewN | apply IsS65.drew | apply IsS65.set_0) | exact HI255.out)) (by (with_reducible repeat (first | apply Kd.R_alloc | apply Kd.R_drewN | apply Kd.R_drew));exact HO_6.out) (by decide)) (fun _ h_ => h_.2));(case side4 => exact (Kd.R_reads' HO_6.out).2.1);rintro e w17 ⟨rfl,hi,hb,hk⟩;refine ⟨_,rfl,?_⟩;have n0_ := aM_ (Kd.R_mono (Kd.R_keep (IsS65.apart (show IsS65 w _ g255 t264 from by repeat (first | (with_reducible first | exact HI255.out | apply IsS65.alloc | apply IsS65.drewN | apply IsS65.drew | apply IsS65.set_0) | exact HI255.out)) (by (with_reducible repeat (first | apply Kd.R_alloc | apply Kd.R_drewN | apply Kd.R_drew));exact HO_6.out) (by decide)) hk (fun _ h => h.2)) (fun _ h => h.1));have n1_ := aM_ (Kd.R_mono (Kd.R_keep (IsS65.apart (show IsS65 w _ g255 t264 from by repeat (first | (with_reducible first | exact HI255.out | apply IsS65.alloc | apply IsS65.drewN | apply IsS65.drew | apply IsS65.set_0) | exact HI255.out)) (by (with_reducible repeat (first | apply Kd.R_alloc | apply Kd.R_drewN | apply Kd.R_drew));exact HO_8.out) (by decide)) hk (fun _ h => h.2)) (fun _ h => h.1));have n2_ := aM_ (Kd.R_mono (Kd.R_keep (IsS65.apart (show IsS65 w _ g255 t264 from by repeat (first | (with_reducible first | exact HI255.out | apply IsS65.alloc | apply IsS65.drewN | apply IsS65.drew | apply IsS65.set_0) | exact HI255.out)) (by (with_reducible repeat (first | apply Kd.R_alloc | apply Kd.R_drewN | apply Kd.R_drew));exact HO_9.out) (by decide)) hk (fun _ h => h.2)) (fun _ h => h.1));have n3_ := aM_ (hb);have n4_ := aM_ (hi);clear HO_6;clear HO_8;clear HO_9;clear HB;clear HI255;have HO_6 := n0_;have HO_8 := n1_;have HO_9 := n2_;have HB := n3_;have HI255 := n4_;clear n0_ n1_ n2_ n3_ n4_;(try clear hb);(try clear hb2);(try clear hk);(try clear hi)) | ((with_reducible refine gate_dst (N := 12) rfl ?_);refine box_event ?hg (N := 12) ?hd (cs := #[.int .i64 0,.int .i64 0]) (t := 32) ?hr ?_;(case hd => rfl);(case hg => rfl);(case hr => first | (go_simp;done) | (go_simp;rfl));intro gb267 hg w18 hbox hb;have n0_ := aM_ (Kd.R_below (by (with_reducible repeat (first | apply Kd.R_alloc | apply Kd.R_drewN | apply Kd.R_drew));exact HO_6.out) hb);have n1_ := aM_ (Kd.R_below (Kd.R_elderB (by (with_reducible repeat (first | apply Kd.R_alloc | apply Kd.R_drewN | apply Kd.R_drew));exact HO_8.out) gb267 (Nat.le_of_eq hg.symm)) hb);have n2_ := aM_ (Kd.R_below (Kd.R_elderB (by (with_reducible repeat (first | apply Kd.R_alloc | apply Kd.R_drewN | apply Kd.R_drew));exact HO_9.out) gb267 (Nat.le_of_eq hg.symm)) hb);have n3_ := aM_ (IsS65.below (by repeat (first | (with_reducible first | exact HI255.out | apply IsS65.alloc | apply IsS65.drewN | apply IsS65.drew | apply IsS65.set_0) | exact HI255.out)) hb);have n4_ := aM_ (bT_ (by repeat (first | (with_reducible first | exact HB.out | apply bA_ | apply bN_ | apply bD_ | refine bS_ ?_ (IsS65.ge HI255.out)) | exact HB.out)) hb);have n5_ := aM_ (hbox);have n6_ := aM_ ((by rw [hg];exact (below_size (by repeat (first | (with_reducible first | exact HB.out | apply bA_ | apply bN_ | apply bD_ | refine bS_ ?_ (IsS65.ge HI255.out)) | exact HB.out))) : w.heap.size ≤ gb267));have n7_ := aM_ ((by rw [hg];exact (below_size (by repeat (first | (with_reducible first | exact HB.out | apply bA_ | apply bN_ | apply bD_ | refine bS_ ?_ (IsS65.ge HI255.out)) | exact HB.out))) : w.heap.size ≤ gb267));have n8_ := aM_ ((by rw [hg];exact Nat.ne_of_lt (IsS65.lt (show IsS65 w _ g255 t266 from by repeat (first | (with_reducible first | exact HI255.out | apply IsS65.alloc | apply IsS65.drewN | apply IsS65.drew | apply IsS65.set_0) | exact HI255.out))) : g255 ≠ gb267));have n9_ := aM_ ((by rw [hg];exact Nat.ne_of_gt (IsS65.lt (show IsS65 w _ g255 t266 from by repeat (first | (with_reducible first | exact HI255.out | apply IsS65.alloc | apply IsS65.drewN | apply IsS65.drew | apply IsS65.set_0) | exact HI255.out))) : gb267 ≠ g255));clear HO_6;clear HO_8;clear HO_9;clear HI255;clear HB;have HO_6 := n0_;have HO_8 := n1_;have HO_9 := n2_;have HI255 := n3_;have HB := n4_;have BK267 := n5_;have GW267 := n6_;have GE267 := n7_;have NB255_267 := n8_;have NB267_255 := n9_;clear n0_ n1_ n2_ n3_ n4_ n5_ n6_ n7_ n8_ n9_;clear hb hbox hg;have hnb19 := NB267_255.out;have hnc19 := NB255_267.out;have hcz20_0 : w18.cell? ⟨gb267,0,none⟩ = some (.int .i64 0) := (blk_cell BK267.out 0).trans rfl;have hcz20_1 : w18.cell? ⟨gb267,1,none⟩ = some (.int .i64 0) := (blk_cell BK267.out 1).trans rfl;have hfz20_0 := blk_frozen BK267.out 0;have hfz20_1 := blk_frozen BK267.out 1;obtain ⟨Ao21,co21,eo21⟩ := Kd.R_slice HO_8.out;subst eo21;obtain ⟨Ao22,co22,eo22⟩ := Kd.R_slice HO_9.out;subst eo22))
      have n0_ : Aside0 (Kd.R k49 49 ((w18.setCell ⟨gb267,0,none⟩ (.int .i64 t263)).setCell ⟨gb267,1,none⟩ (.int .i64 t265)) w.heap.size (fun _ => True) (.slice Ao15 t256.length co15) t256) := ⟨by (with_reducible repeat (first | apply Kd.R_alloc | apply Kd.R_drewN | apply Kd.R_drew));exact Kd.R_mono (Kd.R_far (p := ⟨gb267,1,none⟩) (Kd.R_far (p := ⟨gb267,0,none⟩) (Kd.R_types HO_6.out BK267.out (by decide)) (fun _ hk => hk.2) (.int .i64 t263)) (fun _ hk => hk.2) (.int .i64 t265)) (fun _ hk => trivial)⟩
      have n1_ : Aside0 (Kd.R k32 32 ((w18.setCell ⟨gb267,0,none⟩ (.int .i64 t263)).setCell ⟨gb267,1,none⟩ (.int .i64 t265)) w.heap.size (fun k_ => some k_ ≠ (.slice Ao22 x9_1.length co22 : Value).ownBlock ∧ k_ ≠ gb267) (.slice Ao21 x8_1.length co21) x8_1) := ⟨by (with_reducible repeat (first | apply Kd.R_alloc | apply Kd.R_drewN | apply Kd.R_drew));exact Kd.R_mono (Kd.R_far (p := ⟨gb267,1,none⟩) (Kd.R_far (p := ⟨gb267,0,none⟩) (Kd.R_mono HO_8.out (fun k_ hk => (⟨hk,hk.2⟩ : _ ∧ k_ ≠ gb267))) (fun _ hk => hk.2) (.int .i64 t263)) (fun _ hk => hk.2) (.int .i64 t265)) (fun _ hk => ⟨hk.1.1,hk.1.2⟩)⟩
      have n2_ : Aside0 (Kd.R k32 32 ((w18.setCell ⟨gb267,0,none⟩ (.int .i64 t263)).setCell ⟨gb267,1,none⟩ (.int .i64 t265)) w.heap.size (fun k_ => some k_ ≠ (.slice Ao21 x8_1.length co21 : Value).ownBlock ∧ k_ ≠ gb267) (.slice Ao22 x9_1.length co22) x9_1) := ⟨by (with_reducible repeat (first | apply Kd.R_alloc | apply Kd.R_drewN | apply Kd.R_drew));exact Kd.R_mono (Kd.R_far (p := ⟨gb267,1,none⟩) (Kd.R_far (p := ⟨gb267,0,none⟩) (Kd.R_mono HO_9.out (fun k_ hk => (⟨hk,hk.2⟩ : _ ∧ k_ ≠ gb267))) (fun _ hk => hk.2) (.int .i64 t263)) (fun _ hk => hk.2) (.int .i64 t265)) (fun _ hk => ⟨hk.1.1,hk.1.2⟩)⟩
      have n3_ : Aside0 (((w18.setCell ⟨gb267,0,none⟩ (.int .i64 t263)).setCell ⟨gb267,1,none⟩ (.int .i64 t265)).heap[gb267]? = some (.cells #[.int .i64 t263,.int .i64 t265] 32 (0,0))) := ⟨by (with_reducible repeat (first | refine kN_ ?_ _ | refine kD_ ?_ | refine kA_ ?_ _));refine blk_put (cs := #[.int .i64 t263,.int .i64 0]) ?_ 1 _ rfl;(with_reducible repeat (first | refine kN_ ?_ _ | refine kD_ ?_ | refine kA_ ?_ _));refine blk_put (cs := #[.int .i64 0,.int .i64 0]) ?_ 0 _ rfl;(with_reducible repeat (first | refine kN_ ?_ _ | refine kD_ ?_ | refine kA_ ?_ _));exact BK267.out⟩
      have n4_ : Aside0 (IsS65 w ((w18.setCell ⟨gb267,0,none⟩ (.int .i64 t263)).setCell ⟨gb267,1,none⟩ (.int .i64 t265)) g255 t266) := ⟨by repeat (first | (with_reducible first | exact HI255.out | apply IsS65.alloc | apply IsS65.drewN | apply IsS65.drew | apply IsS65.set_0 | refine IsS65.far ?_ NB255_267.out _) | exact HI255.out)⟩
      have n5_ : Aside0 (Below w.heap.size w ((w18.setCell ⟨gb267,0,none⟩ (.int .i64 t263)).setCell ⟨gb267,1,none⟩ (.int .i64 t265))) := ⟨by repeat (first | (with_reducible first | exact HB.out | apply bA_ | apply bN_ | apply bD_ | refine bS_ ?_ (IsS65.ge HI255.out) | refine bS_ ?_ GE267.out) | exact HB.out)⟩
      (try clear HO_6)
      (try clear HO_8)
      (try clear HO_9)
      (try clear BK267)
      (try clear HI255)
      (try clear HB)
      generalize ((w18.setCell ⟨gb267,0,none⟩ (.int .i64 t263)).setCell ⟨gb267,1,none⟩ (.int .i64 t265)) = w23 at n0_ n1_ n2_ n3_ n4_ n5_ ⊢
      have HO_6 := n0_
      have HO_8 := n1_
      have HO_9 := n2_
      have BK267 := n3_
      have HI255 := n4_
      have HB := n5_
      clear n0_ n1_ n2_ n3_ n4_ n5_
      have n0_ := aM_ (Kd.R_drew HO_6.out)
      have n1_ := aM_ (Kd.R_drew HO_8.out)
      have n2_ := aM_ (Kd.R_drew HO_9.out)
      have n3_ := aM_ (kD_ BK267.out)
      have n4_ := aM_ (IsS65.drew HI255.out)
      have n5_ := aM_ (bD_ HB.out)
      clear HO_6
      clear HO_8
      clear HO_9
      clear BK267
      clear HI255
      clear HB
      have HO_6 := n0_
      have HO_8 := n1_
      have HO_9 := n2_
      have BK267 := n3_
      have HI255 := n4_
      have HB := n5_
      clear n0_ n1_ n2_ n3_ n4_ n5_
      refine start_ (n := 10) (S := fun w' => w'.cell? ⟨gb267,0,none⟩ = some (.int .i64 t263) ∧ w'.cell? ⟨gb267,1,none⟩ = some (.int .i64 t265)) (ds := []) #[false,false,false,false,false,false,false,false,false,false] (by kernel_rfl) rfl rfl ⟨(blk_cell BK267.out 0).trans rfl,(blk_cell BK267.out 1).trans rfl⟩ (fun hHeld => ?_);refine with_tabW L_GaugeAgrees.tab10 L_GaugeAgrees.bits10 (fun HT_ HW_ => ?_)
      generalize w23.drew = w24 at HO_6 HO_8 HO_9 BK267 HI255 HB hHeld ⊢
      refine pure_ (i := 0) (N := some 44) (v := ?_) (a' := ?_) #[true,false,false,false,false,false,false,false,false,false] rfl rfl (any_of HT_.out (by kernel_rfl)) (fun _ _ _ h => h) (Or.inl ⟨by rfl,?_⟩) ?_ ?_
      rotate_left
      ·intro w'
       go_simp
       with_reducible rfl
      rotate_left
      ·simp only [Act.put,sB_,sZ_,sS_,i64_w,i32_w]
       rfl
      refine pure_ (i := 6) (N := some 50) (v := ?_) (a' := ?_) #[true,false,false,false,false,false,true,false,false,false] rfl rfl (any_of HT_.out (by kernel_rfl)) (fun _ _ _ h => h) (Or.inl ⟨by rfl,?_⟩) ?_ ?_
      rotate_left
      ·intro w'
       go_simp
       with_reducible rfl
      rotate_left
      ·simp only [Act.put,sB_,sZ_,sS_,i64_w,i32_w]
       rfl
      refine take_ (i := 1) (N := some 45) (v := ?_) (a' := ?_) #[true,true,false,false,false,false,true,false,false,false] rfl rfl (take_ofW HT_.out HW_.out (by kernel_rfl)) (fun _ _ _ h => h) (Or.inl ⟨by rfl,?_⟩) hHeld ?_ ?_
      rotate_left
      ·rintro w' ⟨s0,s1⟩
       go_simp
       with_reducible rfl
      rotate_left
      ·simp only [Act.put,sB_,sZ_,sS_,i64_w,i32_w]
       rfl
      refine take_ (i := 4) (N := some 48) (v := ?_) (a' := ?_) #[true,true,false,false,true,false,true,false,false,false] rfl rfl (take_ofW HT_.out HW_.out (by kernel_rfl)) (fun _ _ _ h => h) (Or.inl ⟨by rfl,?_⟩) hHeld ?_ ?_
      rotate_left
      ·rintro w' ⟨s0,s1⟩
       go_simp
       with_reducible rfl
      rotate_left
      ·simp only [Act.put,sB_,sZ_,sS_,i64_w,i32_w]
       rfl
      refine join_ (σ := Value × Value × Value) 3 #[true,true,true,true,true,true,true,false,false,false] (fun s_ => [(46,s_.1),(47,s_.2.1),(49,s_.2.2)]) (fun s_ w' => (w'.cell? ⟨gb267,0,none⟩ = some (.int .i64 t263) ∧ w'.cell? ⟨gb267,1,none⟩ = some (.int .i64 t265)) ∧ (Kd.R k32 32 w' w.heap.size (fun k_ => some k_ ≠ (s_.2.1 : Value).ownBlock ∧ some k_ ≠ (s_.2.2 : Value).ownBlock ∧ some k_ ≠ (.slice Ao22 x9_1.length co22 : Value).ownBlock ∧ k_ ≠ gb267) s_.1 y268) ∧ (Kd.R k32 32 w' w.heap.size (fun k_ => some k_ ≠ (s_.1 : Value).ownBlock ∧ some k_ ≠ (s_.2.2 : Value).ownBlock ∧ some k_ ≠ (.slice Ao22 x9_1.length co22 : Value).ownBlock ∧ k_ ≠ gb267) s_.2.1 y271) ∧ (Kd.R k32 32 w' w.heap.size (fun k_ => some k_ ≠ (s_.1 : Value).ownBlock ∧ some k_ ≠ (s_.2.1 : Value).ownBlock ∧ some k_ ≠ (.slice Ao22 x9_1.length co22 : Value).ownBlock ∧ k_ ≠ gb267) s_.2.2 y274) ∧ (Kd.R k49 49 w' w.heap.size (fun _ => True) (.slice Ao15 t256.length co15) t256) ∧ (Kd.R k32 32 w' w.heap.size (fun k_ => some k_ ≠ (s_.1 : Value).ownBlock ∧ some k_ ≠ (s_.2.1 : Value).ownBlock ∧ some k_ ≠ (s_.2.2 : Value).ownBlock ∧ k_ ≠ gb267) (.slice Ao22 x9_1.length co22) x9_1) ∧ (w'.heap[gb267]? = some (.cells #[.int .i64 t263,.int .i64 t265] 32 (0,0))) ∧ (IsS65 w w' g255 t266) ∧ (Below w.heap.size w w')) ?_ ?_
      rotate_left
      ·intro hCont
       refine two_ (i := 2) (j := 5) (Ni := some 46) (Nj := some 49) #[true,true,true,false,true,false,true,false,false,false] #[true,true,false,false,true,true,true,false,false,false] rfl rfl rfl rfl (two_of HT_.out (by kernel_rfl)) (by decide) (by decide) (fun K hK => ?_) (fun K hK => ?_)
       ·skip
        refine Kd.R_lit_step k32 _ 32 ?hg (N := 46) ?hd (xs := ([(⟨t263,t265⟩ : S32)] : List (S32))) (inner := [.int .i64 t263,.int .i64 t265]) (ok := fun _ => True) (okp := fun _ => True) ?hr ?hp (fun _ hk => hk) trivial (Below.refl _ _) (Nat.le_refl _) (by simp) ?_;(case hd => rfl);(case hg => rfl);(case hr => first | (go_simp;done) | (go_simp;rfl));(case hp => exact (Reps.c2 (show Kd.M k32 _ _ _ (⟨t263,t265⟩ : S32) [.int .i64 t263,.int .i64 t265] from (k32_mkM _ _ _ (⟨t263,t265⟩ : S32) )) (Reps.none _ _)))
        intro v269 w25 ho26 hb hg_ hnew_
        clear hg_ hnew_
        (first | rw [← Ny268.out] at ho26 | (simp only [Int.reduceToNat] at ho26;rw [← Ny268.out] at ho26))
        have n0_ := aM_ (Kd.R_below (by (with_reducible repeat (first | apply Kd.R_alloc | apply Kd.R_drewN | apply Kd.R_drew));exact HO_6.out) hb)
        have n1_ := aM_ (Kd.R_elder' (by (with_reducible repeat (first | apply Kd.R_alloc | apply Kd.R_drewN | apply Kd.R_drew));exact HO_8.out) (Kd.R_base ho26) hb)
        have n2_ := aM_ (Kd.R_elder' (by (with_reducible repeat (first | apply Kd.R_alloc | apply Kd.R_drewN | apply Kd.R_drew));exact HO_9.out) (Kd.R_base ho26) hb)
        have n3_ := aM_ (Kd.R_lower (Kd.R_newB (Kd.R_new' (Kd.R_new' ho26 (Kd.R_lt (by (with_reducible repeat (first | apply Kd.R_alloc | apply Kd.R_drewN | apply Kd.R_drew));exact HO_8.out))) (Kd.R_lt (by (with_reducible repeat (first | apply Kd.R_alloc | apply Kd.R_drewN | apply Kd.R_drew));exact HO_9.out))) (g := gb267) (o := .cells #[.int .i64 t263,.int .i64 t265] 32 (0,0)) (by (with_reducible repeat (first | refine kN_ ?_ _ | refine kD_ ?_ | refine kA_ ?_ _));exact BK267.out)) (below_size (by repeat (first | (with_reducible first | exact HB.out | apply bA_ | apply bN_ | apply bD_ | refine bS_ ?_ (IsS65.ge HI255.out) | refine bS_ ?_ GE267.out) | exact HB.out))))
        have n4_ := aM_ (IsS65.below (by repeat (first | (with_reducible first | exact HI255.out | apply IsS65.alloc | apply IsS65.drewN | apply IsS65.drew | apply IsS65.set_0 | refine IsS65.far ?_ NB255_267.out _) | exact HI255.out)) hb)
        have n5_ := aM_ (kB_ (g := gb267) (o := .cells #[.int .i64 t263,.int .i64 t265] 32 (0,0)) (by (with_reducible repeat (first | refine kN_ ?_ _ | refine kD_ ?_ | refine kA_ ?_ _));exact BK267.out) hb)
        have n6_ := aM_ (bT_ (by repeat (first | (with_reducible first | exact HB.out | apply bA_ | apply bN_ | apply bD_ | refine bS_ ?_ (IsS65.ge HI255.out) | refine bS_ ?_ GE267.out) | exact HB.out)) hb)
        clear HO_6
        clear HO_8
        clear HO_9
        clear HI255
        clear BK267
        clear HB
        have HO_6 := n0_
        have HO_8 := n1_
        have HO_9 := n2_
        have HO270 := n3_
        have HI255 := n4_
        have BK267 := n5_
        have HB := n6_
        clear n0_ n1_ n2_ n3_ n4_ n5_ n6_
        clear hb ho26
        obtain ⟨Ao28,co28,eo28⟩ := Kd.R_slice HO270.out
        (first | subst eo28 | (injection eo28 with f1_ f2_ f3_;have f4_ := f1_.symm;have f5_ := f3_.symm;clear f1_ f2_ f3_;subst f4_;subst f5_))
        refine hK.out _ _ ⟨(blk_cell BK267.out 0).trans rfl,(blk_cell BK267.out 1).trans rfl⟩ (fun hHeld => ?_)
        clear hK K
        refine norm_ (a' := ?_) ?_ ?_
        rotate_left
        ·show Act.put _ (some 46) _ = _
         simp only [Act.put,sB_,sZ_,sS_,i64_w,i32_w]
         rfl
        refine two_ (i := 3) (j := 5) (Ni := some 47) (Nj := some 49) #[true,true,true,true,true,false,true,false,false,false] #[true,true,true,false,true,true,true,false,false,false] rfl rfl rfl rfl (two_of HT_.out (by kernel_rfl)) (by decide) (by decide) (fun K hK => ?_) (fun K hK => ?_)
        ·skip
         refine Kd.R_append_rows_step k32 (w0 := w) w.heap.size (by rfl) (.tmp 44) (.tmp 46) 28 32 (.agg #[(.int .i64 0),(.int .i64 0)]) 16 rfl Try.underlying28 info32 rfl (by decide) (by omega) (.slice Ao21 x8_1.length co21) x8_1 y268 _ _ _ (fun k_ => some k_ ≠ (.slice Ao22 x9_1.length co22 : Value).ownBlock ∧ some k_ ≠ (.slice Ao28 y268.length co28 : Value).ownBlock ∧ k_ ≠ gb267) (fun _ => False) rfl rfl ?aO ?aR (fun _ _ h => h) (fun _ h => h.elim) ?aF ?aB ?aS ?aL ?_
         (case aR => repeat (first | exact (Kd.R_reads' HO270.out).2.2 | (with_reducible refine Kd.C_alloc ?_ _) | (with_reducible refine Kd.C_drewN ?_ _) | (with_reducible refine Kd.C_drew ?_)))
         (case aB => exact (by repeat (first | (with_reducible first | exact HB.out | apply bA_ | apply bN_ | apply bD_ | refine bS_ ?_ (IsS65.ge HI255.out) | refine bS_ ?_ GE267.out) | exact HB.out)))
         (case aF => exact (fun k_ hk => ⟨Kd.fresh' (Kd.R_lt (by (with_reducible repeat (first | apply Kd.R_alloc | apply Kd.R_drewN | apply Kd.R_drew));exact HO_9.out)) k_ hk,Kd.fresh' (Kd.R_lt (by (with_reducible repeat (first | apply Kd.R_alloc | apply Kd.R_drewN | apply Kd.R_drew));exact HO270.out)) k_ hk,Kd.freshB (g := gb267) (o := .cells #[.int .i64 t263,.int .i64 t265] 32 (0,0)) (by (with_reducible repeat (first | refine kN_ ?_ _ | refine kD_ ?_ | refine kA_ ?_ _));exact BK267.out) k_ hk⟩))
         (case aO => exact (by (with_reducible repeat (first | apply Kd.R_alloc | apply Kd.R_drewN | apply Kd.R_drew));exact Kd.R_mono HO_8.out (fun _ hk => ⟨hk.1.1,⟨hk.2,hk.1.2⟩⟩)))
         (case aS => exact (below_size (by repeat (first | (with_reducible first | exact HB.out | apply bA_ | apply bN_ | apply bD_ | refine bS_ ?_ (IsS65.ge HI255.out) | refine bS_ ?_ GE267.out) | exact HB.out))))
         (case aL => have := LMc13.out;omega)
         intro v272 w27 ho hb hg hat
         rw [← Ny271.out] at ho
         have n0_ := aM_ (Kd.R_over' (by (with_reducible repeat (first | apply Kd.R_alloc | apply Kd.R_drewN | apply Kd.R_drew));exact HO_6.out) (Kd.R_typed (by (with_reducible repeat (first | apply Kd.R_alloc | apply Kd.R_drewN | apply Kd.R_drew));exact HO_8.out)) (by decide) hg)
         have n1_ := aM_ (Kd.R_after (ok := (fun k_ => some k_ ≠ (.slice Ao28 y268.length co28 : Value).ownBlock ∧ k_ ≠ gb267)) (by (with_reducible repeat (first | apply Kd.R_alloc | apply Kd.R_drewN | apply Kd.R_drew));exact Kd.R_mono HO_9.out (fun _ hk => ⟨⟨hk.2,hk.1.2⟩,hk.1.1⟩)) hg hat)
         have n2_ := aM_ (IsS65.grown (by repeat (first | (with_reducible first | exact HI255.out | apply IsS65.alloc | apply IsS65.drewN | apply IsS65.drew | apply IsS65.set_0 | refine IsS65.far ?_ NB255_267.out _) | exact HI255.out)) hg (IsS65.own_ne HI255.out HO_8.out (by decide)))
         have n3_ := aM_ (blk_grown (g := gb267) (o := .cells #[.int .i64 t263,.int .i64 t265] 32 (0,0)) (by (with_reducible repeat (first | refine kN_ ?_ _ | refine kD_ ?_ | refine kA_ ?_ _));exact BK267.out) hg (Kd.R_away HO_8.out (fun _ hk => hk.1.2)))
         have n4_ := aM_ (Kd.R_after (ok := (fun k_ => some k_ ≠ (.slice Ao22 x9_1.length co22 : Value).ownBlock ∧ k_ ≠ gb267)) (by (with_reducible repeat (first | apply Kd.R_alloc | apply Kd.R_drewN | apply Kd.R_drew));exact Kd.R_mono HO270.out (fun _ hk => ⟨⟨hk.1.2,hk.2⟩,hk.1.1.2⟩)) hg hat)
         have n5_ := aM_ (hb)
         have n6_ := aM_ (ho)
         clear HO_6
         clear HO_9
         clear HI255
         clear BK267
         clear HO270
         clear HB
         clear HO_8
         have HO_6 := n0_
         have HO_9 := n1_
         have HI255 := n2_
         have BK267 := n3_
         have HO270 := n4_
         have HB := n5_
         have HO273 := n6_
         clear n0_ n1_ n2_ n3_ n4_ n5_ n6_
         clear ho hb hg hat
         refine hK.out _ _ ⟨(blk_cell BK267.out 0).trans rfl,(blk_cell BK267.out 1).trans rfl⟩ (fun hHeld => ?_)
         clear hK K
         refine norm_ (a' := ?_) ?_ ?_
         rotate_left
         ·show Act.put _ (some 47) _ = _
          simp only [Act.put,sB_,sZ_,sS_,i64_w,i32_w]
          rfl
         refine one_ (i := 5) (N := some 49) #[true,true,true,true,true,true,true,false,false,false] rfl rfl (one_of HT_.out (by kernel_rfl)) (by decide) (fun K hK => ?_)
         refine Kd.R_lit_step k32 _ 32 ?hg (N := 49) ?hd (xs := ([(⟨t263,t265⟩ : S32)] : List (S32))) (inner := [.int .i64 t263,.int .i64 t265]) (ok := fun _ => True) (okp := fun _ => True) ?hr ?hp (fun _ hk => hk) trivial (Below.refl _ _) (Nat.le_refl _) (by simp) ?_;(case hd => rfl);(case hg => rfl);(case hr => first | (go_simp;done) | (go_simp;rfl));(case hp => exact (Reps.c2 (show Kd.M k32 _ _ _ (⟨t263,t265⟩ : S32) [.int .i64 t263,.int .i64 t265] from (k32_mkM _ _ _ (⟨t263,t265⟩ : S32) )) (Reps.none _ _)))
         intro v275 w29 ho30 hb hg_ hnew_
         clear hg_ hnew_
         (first | rw [← Ny274.out] at ho30 | (simp only [Int.reduceToNat] at ho30;rw [← Ny274.out] at ho30))
         have n0_ := aM_ (Kd.R_below (by (with_reducible repeat (first | apply Kd.R_alloc | apply Kd.R_drewN | apply Kd.R_drew));exact HO_6.out) hb)
         have n1_ := aM_ (Kd.R_elder' (by (with_reducible repeat (first | apply Kd.R_alloc | apply Kd.R_drewN | apply Kd.R_drew));exact HO_9.out) (Kd.R_base ho30) hb)
         have n2_ := aM_ (Kd.R_elder' (by (with_reducible repeat (first | apply Kd.R_alloc | apply Kd.R_drewN | apply Kd.R_drew));exact HO270.out) (Kd.R_base ho30) hb)
         have n3_ := aM_ (Kd.R_elder' (by (with_reducible repeat (first | apply Kd.R_alloc | apply Kd.R_drewN | apply Kd.R_drew));exact HO273.out) (Kd.R_base ho30) hb)
         have n4_ := aM_ (Kd.R_lower (Kd.R_newB (Kd.R_new' (Kd.R_new' (Kd.R_new' ho30 (Kd.R_lt (by (with_reducible repeat (first | apply Kd.R_alloc | apply Kd.R_drewN | apply Kd.R_drew));exact HO_9.out))) (Kd.R_lt (by (with_reducible repeat (first | apply Kd.R_alloc | apply Kd.R_drewN | apply Kd.R_drew));exact HO270.out))) (Kd.R_lt (by (with_reducible repeat (first | apply Kd.R_alloc | apply Kd.R_drewN | apply Kd.R_drew));exact HO273.out))) (g := gb267) (o := .cells #[.int .i64 t263,.int .i64 t265] 32 (0,0)) (by (with_reducible repeat (first | refine kN_ ?_ _ | refine kD_ ?_ | refine kA_ ?_ _));exact BK267.out)) (below_size (by repeat (first | (with_reducible first | exact HB.out | apply bA_ | apply bN_ | apply bD_ | refine bS_ ?_ (IsS65.ge HI255.out) | refine bS_ ?_ GE267.out) | exact HB.out))))
         have n5_ := aM_ (IsS65.below (by repeat (first | (with_reducible first | exact HI255.out | apply IsS65.alloc | apply IsS65.drewN | apply IsS65.drew | apply IsS65.set_0 | refine IsS65.far ?_ NB255_267.out _) | exact HI255.out)) hb)
         have n6_ := aM_ (kB_ (g := gb267) (o := .cells #[.int .i64 t263,.int .i64 t265] 32 (0,0)) (by (with_reducible repeat (first | refine kN_ ?_ _ | refine kD_ ?_ | refine kA_ ?_ _));exact BK267.out) hb)
         have n7_ := aM_ (bT_ (by repeat (first | (with_reducible first | exact HB.out | apply bA_ | apply bN_ | apply bD_ | refine bS_ ?_ (IsS65.ge HI255.out) | refine bS_ ?_ GE267.out) | exact HB.out)) hb)
         clear HO_6
         clear HO_9
         clear HO270
         clear HO273
         clear HI255
         clear BK267
         clear HB
         have HO_6 := n0_
         have HO_9 := n1_
         have HO270 := n2_
         have HO273 := n3_
         have HO276 := n4_
         have HI255 := n5_
         have BK267 := n6_
         have HB := n7_
         clear n0_ n1_ n2_ n3_ n4_ n5_ n6_ n7_
         clear hb ho30
         refine hK.out _ _ ⟨(blk_cell BK267.out 0).trans rfl,(blk_cell BK267.out 1).trans rfl⟩ (fun hHeld => ?_)
         clear hK K
         refine norm_ (a' := ?_) ?_ ?_
         rotate_left
         ·show Act.put _ (some 49) _ = _
          simp only [Act.put,sB_,sZ_,sS_,i64_w,i32_w]
          rfl
         exact norm_ (by simp only [putAll,Act.put,sB_,sZ_,sS_]) (hCont (.slice Ao28 y268.length co28,v272,v275) _ ⟨hHeld,(by (with_reducible repeat (first | apply Kd.R_alloc | apply Kd.R_drewN | apply Kd.R_drew));exact Kd.R_mono HO270.out (fun _ hk => ⟨hk.1.2,⟨hk.2,⟨hk.1.1.1,hk.1.1.2⟩⟩⟩)),(by (with_reducible repeat (first | apply Kd.R_alloc | apply Kd.R_drewN | apply Kd.R_drew));exact Kd.R_mono HO273.out (fun _ hk => ⟨hk.1.2.1,⟨hk.2,⟨hk.1.1,hk.1.2.2⟩⟩⟩)),(by (with_reducible repeat (first | apply Kd.R_alloc | apply Kd.R_drewN | apply Kd.R_drew));exact Kd.R_mono HO276.out (fun _ hk => ⟨hk.1.1.2,⟨hk.1.2,⟨hk.1.1.1.2,hk.2⟩⟩⟩)),(by (with_reducible repeat (first | apply Kd.R_alloc | apply Kd.R_drewN | apply Kd.R_drew));exact HO_6.out),(by (with_reducible repeat (first | apply Kd.R_alloc | apply Kd.R_drewN | apply Kd.R_drew));exact Kd.R_mono HO_9.out (fun _ hk => ⟨hk.1.1.1,⟨hk.1.2,⟨hk.2,hk.1.1.2⟩⟩⟩)),(by (with_reducible repeat (first | refine kN_ ?_ _ | refine kD_ ?_ | refine kA_ ?_ _));exact BK267.out),(by repeat (first | (with_reducible first | exact HI255.out | apply IsS65.alloc | apply IsS65.drewN | apply IsS65.drew | apply IsS65.set_0 | refine IsS65.far ?_ NB255_267.out _) | exact HI255.out)),(by repeat (first | (with_reducible first | exact HB.out | apply bA_ | apply bN_ | apply bD_ | refine bS_ ?_ (IsS65.ge HI255.out) | refine bS_ ?_ GE267.out) | exact HB.out))⟩)
        ·skip
         refine Kd.R_lit_step k32 _ 32 ?hg (N := 49) ?hd (xs := ([(⟨t263,t265⟩ : S32)] : List (S32))) (inner := [.int .i64 t263,.int .i64 t265]) (ok := fun _ => True) (okp := fun _ => True) ?hr ?hp (fun _ hk => hk) trivial (Below.refl _ _) (Nat.le_refl _) (by simp) ?_;(case hd => rfl);(case hg => rfl);(case hr => first | (go_simp;done) | (go_simp;rfl));(case hp => exact (Reps.c2 (show Kd.M k32 _ _ _ (⟨t263,t265⟩ : S32) [.int .i64 t263,.int .i64 t265] from (k32_mkM _ _ _ (⟨t263,t265⟩ : S32) )) (Reps.none _ _)))
         intro v275 w27 ho28 hb hg_ hnew_
         clear hg_ hnew_
         (first | rw [← Ny274.out] at ho28 | (simp only [Int.reduceToNat] at ho28;rw [← Ny274.out] at ho28))
         have n0_ := aM_ (Kd.R_below (by (with_reducible repeat (first | apply Kd.R_alloc | apply Kd.R_drewN | apply Kd.R_drew));exact HO_6.out) hb)
         have n1_ := aM_ (Kd.R_elder' (by (with_reducible repeat (first | apply Kd.R_alloc | apply Kd.R_drewN | apply Kd.R_drew));exact HO_8.out) (Kd.R_base ho28) hb)
         have n2_ := aM_ (Kd.R_elder' (by (with_reducible repeat (first | apply Kd.R_alloc | apply Kd.R_drewN | apply Kd.R_drew));exact HO_9.out) (Kd.R_base ho28) hb)
         have n3_ := aM_ (Kd.R_elder' (by (with_reducible repeat (first | apply Kd.R_alloc | apply Kd.R_drewN | apply Kd.R_drew));exact HO270.out) (Kd.R_base ho28) hb)
         have n4_ := aM_ (Kd.R_lower (Kd.R_newB (Kd.R_new' (Kd.R_new' (Kd.R_new' ho28 (Kd.R_lt (by (with_reducible repeat (first | apply Kd.R_alloc | apply Kd.R_drewN | apply Kd.R_drew));exact HO_8.out))) (Kd.R_lt (by (with_reducible repeat (first | apply Kd.R_alloc | apply Kd.R_drewN | apply Kd.R_drew));exact HO_9.out))) (Kd.R_lt (by (with_reducible repeat (first | apply Kd.R_alloc | apply Kd.R_drewN | apply Kd.R_drew));exact HO270.out))) (g := gb267) (o := .cells #[.int .i64 t263,.int .i64 t265] 32 (0,0)) (by (with_reducible repeat (first | refine kN_ ?_ _ | refine kD_ ?_ | refine kA_ ?_ _));exact BK267.out)) (below_size (by repeat (first | (with_reducible first | exact HB.out | apply bA_ | apply bN_ | apply bD_ | refine bS_ ?_ (IsS65.ge HI255.out) | refine bS_ ?_ GE267.out) | exact HB.out))))
         have n5_ := aM_ (IsS65.below (by repeat (first | (with_reducible first | exact HI255.out | apply IsS65.alloc | apply IsS65.drewN | apply IsS65.drew | apply IsS65.set_0 | refine IsS65.far ?_ NB255_267.out _) | exact HI255.out)) hb)
         have n6_ := aM_ (kB_ (g := gb267) (o := .cells #[.int .i64 t263,.int .i64 t265] 32 (0,0)) (by (with_reducible repeat (first | refine kN_ ?_ _ | refine kD_ ?_ | refine kA_ ?_ _));exact BK267.out) hb)
         have n7_ := aM_ (bT_ (by repeat (first | (with_reducible first | exact HB.out | apply bA_ | apply bN_ | apply bD_ | refine bS_ ?_ (IsS65.ge HI255.out) | refine bS_ ?_ GE267.out) | exact HB.out)) hb)
         clear HO_6
         clear HO_8
         clear HO_9
         clear HO270
         clear HI255
         clear BK267
         clear HB
         have HO_6 := n0_
         have HO_8 := n1_
         have HO_9 := n2_
         have HO270 := n3_
         have HO276 := n4_
         have HI255 := n5_
         have BK267 := n6_
         have HB := n7_
         clear n0_ n1_ n2_ n3_ n4_ n5_ n6_ n7_
         clear hb ho28
         obtain ⟨Ao30,co30,eo30⟩ := Kd.R_slice HO270.out
         (first | subst eo30 | (injection eo30 with f1_ f2_ f3_;have f4_ := f1_.symm;have f5_ := f3_.symm;clear f1_ f2_ f3_;subst f4_;subst f5_))
         refine hK.out _ _ ⟨(blk_cell BK267.out 0).trans rfl,(blk_cell BK267.out 1).trans rfl⟩ (fun hHeld => ?_)
         clear hK K
         refine norm_ (a' := ?_) ?_ ?_
         rotate_left
         ·show Act.put _ (some 49) _ = _
          simp only [Act.put,sB_,sZ_,sS_,i64_w,i32_w]
          rfl
         refine one_ (i := 3) (N := some 47) #[true,true,true,true,true,true,true,false,false,false] rfl rfl (one_of HT_.out (by kernel_rfl)) (by decide) (fun K hK => ?_)
         refine Kd.R_append_rows_step k32 (w0 := w) w.heap.size (by rfl) (.tmp 44) (.tmp 46) 28 32 (.agg #[(.int .i64 0),(.int .i64 0)]) 16 rfl Try.underlying28 info32 rfl (by decide) (by omega) (.slice Ao21 x8_1.length co21) x8_1 y268 _ _ _ (fun k_ => some k_ ≠ (.slice Ao22 x9_1.length co22 : Value).ownBlock ∧ some k_ ≠ (.slice Ao30 y268.length co30 : Value).ownBlock ∧ some k_ ≠ (v275 : Value).ownBlock ∧ k_ ≠ gb267) (fun _ => False) rfl rfl ?aO ?aR (fun _ _ h => h) (fun _ h => h.elim) ?aF ?aB ?aS ?aL ?_
         (case aR => repeat (first | exact (Kd.R_reads' HO270.out).2.2 | (with_reducible refine Kd.C_alloc ?_ _) | (with_reducible refine Kd.C_drewN ?_ _) | (with_reducible refine Kd.C_drew ?_)))
         (case aB => exact (by repeat (first | (with_reducible first | exact HB.out | apply bA_ | apply bN_ | apply bD_ | refine bS_ ?_ (IsS65.ge HI255.out) | refine bS_ ?_ GE267.out) | exact HB.out)))
         (case aF => exact (fun k_ hk => ⟨Kd.fresh' (Kd.R_lt (by (with_reducible repeat (first | apply Kd.R_alloc | apply Kd.R_drewN | apply Kd.R_drew));exact HO_9.out)) k_ hk,Kd.fresh' (Kd.R_lt (by (with_reducible repeat (first | apply Kd.R_alloc | apply Kd.R_drewN | apply Kd.R_drew));exact HO270.out)) k_ hk,Kd.fresh' (Kd.R_lt (by (with_reducible repeat (first | apply Kd.R_alloc | apply Kd.R_drewN | apply Kd.R_drew));exact HO276.out)) k_ hk,Kd.freshB (g := gb267) (o := .cells #[.int .i64 t263,.int .i64 t265] 32 (0,0)) (by (with_reducible repeat (first | refine kN_ ?_ _ | refine kD_ ?_ | refine kA_ ?_ _));exact BK267.out) k_ hk⟩))
         (case aO => exact (by (with_reducible repeat (first | apply Kd.R_alloc | apply Kd.R_drewN | apply Kd.R_drew));exact Kd.R_mono HO_8.out (fun _ hk => ⟨hk.1.1.1,⟨hk.1.2,⟨hk.2,hk.1.1.2⟩⟩⟩)))
         (case aS => exact (below_size (by repeat (first | (with_reducible first | exact HB.out | apply bA_ | apply bN_ | apply bD_ | refine bS_ ?_ (IsS65.ge HI255.out) | refine bS_ ?_ GE267.out) | exact HB.out))))
         (case aL => have := LMc13.out;omega)
         intro v272 w29 ho hb hg hat
         rw [← Ny271.out] at ho
         have n0_ := aM_ (Kd.R_over' (by (with_reducible repeat (first | apply Kd.R_alloc | apply Kd.R_drewN | apply Kd.R_drew));exact HO_6.out) (Kd.R_typed (by (with_reducible repeat (first | apply Kd.R_alloc | apply Kd.R_drewN | apply Kd.R_drew));exact HO_8.out)) (by decide) hg)
         have n1_ := aM_ (Kd.R_after (ok := (fun k_ => some k_ ≠ (.slice Ao30 y268.length co30 : Value).ownBlock ∧ some k_ ≠ (v275 : Value).ownBlock ∧ k_ ≠ gb267)) (by (with_reducible repeat (first | apply Kd.R_alloc | apply Kd.R_drewN | apply Kd.R_drew));exact Kd.R_mono HO_9.out (fun _ hk => ⟨⟨hk.1.2,⟨hk.2,hk.1.1.2⟩⟩,hk.1.1.1⟩)) hg hat)
         have n2_ := aM_ (IsS65.grown (by repeat (first | (with_reducible first | exact HI255.out | apply IsS65.alloc | apply IsS65.drewN | apply IsS65.drew | apply IsS65.set_0 | refine IsS65.far ?_ NB255_267.out _) | exact HI255.out)) hg (IsS65.own_ne HI255.out HO_8.out (by decide)))
         have n3_ := aM_ (blk_grown (g := gb267) (o := .cells #[.int .i64 t263,.int .i64 t265] 32 (0,0)) (by (with_reducible repeat (first | refine kN_ ?_ _ | refine kD_ ?_ | refine kA_ ?_ _));exact BK267.out) hg (Kd.R_away HO_8.out (fun _ hk => hk.1.1.2)))
         have n4_ := aM_ (Kd.R_after (ok := (fun k_ => some k_ ≠ (.slice Ao22 x9_1.length co22 : Value).ownBlock ∧ some k_ ≠ (v275 : Value).ownBlock ∧ k_ ≠ gb267)) (by (with_reducible repeat (first | apply Kd.R_alloc | apply Kd.R_drewN | apply Kd.R_drew));exact Kd.R_mono HO270.out (fun _ hk => ⟨⟨hk.1.1.2,⟨hk.2,hk.1.2⟩⟩,hk.1.1.1.2⟩)) hg hat)
         have n5_ := aM_ (Kd.R_after (ok := (fun k_ => some k_ ≠ (.slice Ao22 x9_1.length co22 : Value).ownBlock ∧ some k_ ≠ (.slice Ao30 y268.length co30 : Value).ownBlock ∧ k_ ≠ gb267)) (by (with_reducible repeat (first | apply Kd.R_alloc | apply Kd.R_drewN | apply Kd.R_drew));exact Kd.R_mono HO276.out (fun _ hk => ⟨⟨hk.1.1.2,⟨hk.1.2,hk.2⟩⟩,hk.1.1.1.2⟩)) hg hat)
         have n6_ := aM_ (hb)
         have n7_ := aM_ (ho)
         clear HO_6
         clear HO_9
         clear HI255
         clear BK267
         clear HO270
         clear HO276
         clear HB
         clear HO_8
         have HO_6 := n0_
         have HO_9 := n1_
         have HI255 := n2_
         have BK267 := n3_
         have HO270 := n4_
         have HO276 := n5_
         have HB := n6_
         have HO273 := n7_
         clear n0_ n1_ n2_ n3_ n4_ n5_ n6_ n7_
         clear ho hb hg hat
         refine hK.out _ _ ⟨(blk_cell BK267.out 0).trans rfl,(blk_cell BK267.out 1).trans rfl⟩ (fun hHeld => ?_)
         clear hK K
         refine norm_ (a' := ?_) ?_ ?_
         rotate_left
         ·show Act.put _ (some 47) _ = _
          simp only [Act.put,sB_,sZ_,sS_,i64_w,i32_w]
          rfl
         exact norm_ (by simp only [putAll,Act.put,sB_,sZ_,sS_]) (hCont (.slice Ao30 y268.length co30,v272,v275) _ ⟨hHeld,(by (with_reducible repeat (first | apply Kd.R_alloc | apply Kd.R_drewN | apply Kd.R_drew));exact Kd.R_mono HO270.out (fun _ hk => ⟨hk.2,⟨hk.1.2.1,⟨hk.1.1,hk.1.2.2⟩⟩⟩)),(by (with_reducible repeat (first | apply Kd.R_alloc | apply Kd.R_drewN | apply Kd.R_drew));exact Kd.R_mono HO273.out (fun _ hk => ⟨hk.2.1,⟨hk.2.2.1,⟨hk.1,hk.2.2.2⟩⟩⟩)),(by (with_reducible repeat (first | apply Kd.R_alloc | apply Kd.R_drewN | apply Kd.R_drew));exact Kd.R_mono HO276.out (fun _ hk => ⟨hk.1.2.1,⟨hk.2,⟨hk.1.1,hk.1.2.2⟩⟩⟩)),(by (with_reducible repeat (first | apply Kd.R_alloc | apply Kd.R_drewN | apply Kd.R_drew));exact HO_6.out),(by (with_reducible repeat (first | apply Kd.R_alloc | apply Kd.R_drewN | apply Kd.R_drew));exact Kd.R_mono HO_9.out (fun _ hk => ⟨hk.1.1,⟨hk.2,⟨hk.1.2.1,hk.1.2.2⟩⟩⟩)),(by (with_reducible repeat (first | refine kN_ ?_ _ | refine kD_ ?_ | refine kA_ ?_ _));exact BK267.out),(by repeat (first | (with_reducible first | exact HI255.out | apply IsS65.alloc | apply IsS65.drewN | apply IsS65.drew | apply IsS65.set_0 | refine IsS65.far ?_ NB255_267.out _) | exact HI255.out)),(by repeat (first | (with_reducible first | exact HB.out | apply bA_ | apply bN_ | apply bD_ | refine bS_ ?_ (IsS65.ge HI255.out) | refine bS_ ?_ GE267.out) | exact HB.out))⟩)
       ·skip
        refine Kd.R_lit_step k32 _ 32 ?hg (N := 49) ?hd (xs := ([(⟨t263,t265⟩ : S32)] : List (S32))) (inner := [.int .i64 t263,.int .i64 t265]) (ok := fun _ => True) (okp := fun _ => True) ?hr ?hp (fun _ hk => hk) trivial (Below.refl _ _) (Nat.le_refl _) (by simp) ?_;(case hd => rfl);(case hg => rfl);(case hr => first | (go_simp;done) | (go_simp;rfl));(case hp => exact (Reps.c2 (show Kd.M k32 _ _ _ (⟨t263,t265⟩ : S32) [.int .i64 t263,.int .i64 t265] from (k32_mkM _ _ _ (⟨t263,t265⟩ : S32) )) (Reps.none _ _)))
        intro v275 w25 ho26 hb hg_ hnew_
        clear hg_ hnew_
        (first | rw [← Ny274.out] at ho26 | (simp only [Int.reduceToNat] at ho26;rw [← Ny274.out] at ho26))
        have n0_ := aM_ (Kd.R_below (by (with_reducible repeat (first | apply Kd.R_alloc | apply Kd.R_drewN | apply Kd.R_drew));exact HO_6.out) hb)
        have n1_ := aM_ (Kd.R_elder' (by (with_reducible repeat (first | apply Kd.R_alloc | apply Kd.R_drewN | apply Kd.R_drew));exact HO_8.out) (Kd.R_base ho26) hb)
        have n2_ := aM_ (Kd.R_elder' (by (with_reducible repeat (first | apply Kd.R_alloc | apply Kd.R_drewN | apply Kd.R_drew));exact HO_9.out) (Kd.R_base ho26) hb)
        have n3_ := aM_ (Kd.R_lower (Kd.R_newB (Kd.R_new' (Kd.R_new' ho26 (Kd.R_lt (by (with_reducible repeat (first | apply Kd.R_alloc | apply Kd.R_drewN | apply Kd.R_drew));exact HO_8.out))) (Kd.R_lt (by (with_reducible repeat (first | apply Kd.R_alloc | apply Kd.R_drewN | apply Kd.R_drew));exact HO_9.out))) (g := gb267) (o := .cells #[.int .i64 t263,.int .i64 t265] 32 (0,0)) (by (with_reducible repeat (first | refine kN_ ?_ _ | refine kD_ ?_ | refine kA_ ?_ _));exact BK267.out)) (below_size (by repeat (first | (with_reducible first | exact HB.out | apply bA_ | apply bN_ | apply bD_ | refine bS_ ?_ (IsS65.ge HI255.out) | refine bS_ ?_ GE267.out) | exact HB.out))))
        have n4_ := aM_ (IsS65.below (by repeat (first | (with_reducible first | exact HI255.out | apply IsS65.alloc | apply IsS65.drewN | apply IsS65.drew | apply IsS65.set_0 | refine IsS65.far ?_ NB255_267.out _) | exact HI255.out)) hb)
        have n5_ := aM_ (kB_ (g := gb267) (o := .cells #[.int .i64 t263,.int .i64 t265] 32 (0,0)) (by (with_reducible repeat (first | refine kN_ ?_ _ | refine kD_ ?_ | refine kA_ ?_ _));exact BK267.out) hb)
        have n6_ := aM_ (bT_ (by repeat (first | (with_reducible first | exact HB.out | apply bA_ | apply bN_ | apply bD_ | refine bS_ ?_ (IsS65.ge HI255.out) | refine bS_ ?_ GE267.out) | exact HB.out)) hb)
        clear HO_6
        clear HO_8
        clear HO_9
        clear HI255
        clear BK267
        clear HB
        have HO_6 := n0_
        have HO_8 := n1_
        have HO_9 := n2_
        have HO276 := n3_
        have HI255 := n4_
        have BK267 := n5_
        have HB := n6_
        clear n0_ n1_ n2_ n3_ n4_ n5_ n6_
        clear hb ho26
        refine hK.out _ _ ⟨(blk_cell BK267.out 0).trans rfl,(blk_cell BK267.out 1).trans rfl⟩ (fun hHeld => ?_)
        clear hK K
        refine norm_ (a' := ?_) ?_ ?_
        rotate_left
        ·show Act.put _ (some 49) _ = _
         simp only [Act.put,sB_,sZ_,sS_,i64_w,i32_w]
         rfl
        refine one_ (i := 2) (N := some 46) #[true,true,true,false,true,true,true,false,false,false] rfl rfl (one_of HT_.out (by kernel_rfl)) (by decide) (fun K hK => ?_)
        refine Kd.R_lit_step k32 _ 32 ?hg (N := 46) ?hd (xs := ([(⟨t263,t265⟩ : S32)] : List (S32))) (inner := [.int .i64 t263,.int .i64 t265]) (ok := fun _ => True) (okp := fun _ => True) ?hr ?hp (fun _ hk => hk) trivial (Below.refl _ _) (Nat.le_refl _) (by simp) ?_;(case hd => rfl);(case hg => rfl);(case hr => first | (go_simp;done) | (go_simp;rfl));(case hp => exact (Reps.c2 (show Kd.M k32 _ _ _ (⟨t263,t265⟩ : S32) [.int .i64 t263,.int .i64 t265] from (k32_mkM _ _ _ (⟨t263,t265⟩ : S32) )) (Reps.none _ _)))
        intro v269 w27 ho28 hb hg_ hnew_
        clear hg_ hnew_
        (first | rw [← Ny268.out] at ho28 | (simp only [Int.reduceToNat] at ho28;rw [← Ny268.out] at ho28))
        have n0_ := aM_ (Kd.R_below (by (with_reducible repeat (first | apply Kd.R_alloc | apply Kd.R_drewN | apply Kd.R_drew));exact HO_6.out) hb)
        have n1_ := aM_ (Kd.R_elder' (by (with_reducible repeat (first | apply Kd.R_alloc | apply Kd.R_drewN | apply Kd.R_drew));exact HO_8.out) (Kd.R_base ho28) hb)
        have n2_ := aM_ (Kd.R_elder' (by (with_reducible repeat (first | apply Kd.R_alloc | apply Kd.R_drewN | apply Kd.R_drew));exact HO_9.out) (Kd.R_base ho28) hb)
        have n3_ := aM_ (Kd.R_elder' (by (with_reducible repeat (first | apply Kd.R_alloc | apply Kd.R_drewN | apply Kd.R_drew));exact HO276.out) (Kd.R_base ho28) hb)
        have n4_ := aM_ (Kd.R_lower (Kd.R_newB (Kd.R_new' (Kd.R_new' (Kd.R_new' ho28 (Kd.R_lt (by (with_reducible repeat (first | apply Kd.R_alloc | apply Kd.R_drewN | apply Kd.R_drew));exact HO_8.out))) (Kd.R_lt (by (with_reducible repeat (first | apply Kd.R_alloc | apply Kd.R_drewN | apply Kd.R_drew));exact HO_9.out))) (Kd.R_lt (by (with_reducible repeat (first | apply Kd.R_alloc | apply Kd.R_drewN | apply Kd.R_drew));exact HO276.out))) (g := gb267) (o := .cells #[.int .i64 t263,.int .i64 t265] 32 (0,0)) (by (with_reducible repeat (first | refine kN_ ?_ _ | refine kD_ ?_ | refine kA_ ?_ _));exact BK267.out)) (below_size (by repeat (first | (with_reducible first | exact HB.out | apply bA_ | apply bN_ | apply bD_ | refine bS_ ?_ (IsS65.ge HI255.out) | refine bS_ ?_ GE267.out) | exact HB.out))))
        have n5_ := aM_ (IsS65.below (by repeat (first | (with_reducible first | exact HI255.out | apply IsS65.alloc | apply IsS65.drewN | apply IsS65.drew | apply IsS65.set_0 | refine IsS65.far ?_ NB255_267.out _) | exact HI255.out)) hb)
        have n6_ := aM_ (kB_ (g := gb267) (o := .cells #[.int .i64 t263,.int .i64 t265] 32 (0,0)) (by (with_reducible repeat (first | refine kN_ ?_ _ | refine kD_ ?_ | refine kA_ ?_ _));exact BK267.out) hb)
        have n7_ := aM_ (bT_ (by repeat (first | (with_reducible first | exact HB.out | apply bA_ | apply bN_ | apply bD_ | refine bS_ ?_ (IsS65.ge HI255.out) | refine bS_ ?_ GE267.out) | exact HB.out)) hb)
        clear HO_6
        clear HO_8
        clear HO_9
        clear HO276
        clear HI255
        clear BK267
        clear HB
        have HO_6 := n0_
        have HO_8 := n1_
        have HO_9 := n2_
        have HO276 := n3_
        have HO270 := n4_
        have HI255 := n5_
        have BK267 := n6_
        have HB := n7_
        clear n0_ n1_ n2_ n3_ n4_ n5_ n6_ n7_
        clear hb ho28
        obtain ⟨Ao30,co30,eo30⟩ := Kd.R_slice HO270.out
        (first | subst eo30 | (injection eo30 with f1_ f2_ f3_;have f4_ := f1_.symm;have f5_ := f3_.symm;clear f1_ f2_ f3_;subst f4_;subst f5_))
        refine hK.out _ _ ⟨(blk_cell BK267.out 0).trans rfl,(blk_cell BK267.out 1).trans rfl⟩ (fun hHeld => ?_)
        clear hK K
        refine norm_ (a' := ?_) ?_ ?_
        rotate_left
        ·show Act.put _ (some 46) _ = _
         simp only [Act.put,sB_,sZ_,sS_,i64_w,i32_w]
         rfl
        refine one_ (i := 3) (N := some 47) #[true,true,true,true,true,true,true,false,false,false] rfl rfl (one_of HT_.out (by kernel_rfl)) (by decide) (fun K hK => ?_)
        refine Kd.R_append_rows_step k32 (w0 := w) w.heap.size (by rfl) (.tmp 44) (.tmp 46) 28 32 (.agg #[(.int .i64 0),(.int .i64 0)]) 16 rfl Try.underlying28 info32 rfl (by decide) (by omega) (.slice Ao21 x8_1.length co21) x8_1 y268 _ _ _ (fun k_ => some k_ ≠ (.slice Ao22 x9_1.length co22 : Value).ownBlock ∧ some k_ ≠ (v275 : Value).ownBlock ∧ some k_ ≠ (.slice Ao30 y268.length co30 : Value).ownBlock ∧ k_ ≠ gb267) (fun _ => False) rfl rfl ?aO ?aR (fun _ _ h => h) (fun _ h => h.elim) ?aF ?aB ?aS ?aL ?_
        (case aR => repeat (first | exact (Kd.R_reads' HO270.out).2.2 | (with_reducible refine Kd.C_alloc ?_ _) | (with_reducible refine Kd.C_drewN ?_ _) | (with_reducible refine Kd.C_drew ?_)))
        (case aB => exact (by repeat (first | (with_reducible first | exact HB.out | apply bA_ | apply bN_ | apply bD_ | refine bS_ ?_ (IsS65.ge HI255.out) | refine bS_ ?_ GE267.out) | exact HB.out)))
        (case aF => exact (fun k_ hk => ⟨Kd.fresh' (Kd.R_lt (by (with_reducible repeat (first | apply Kd.R_alloc | apply Kd.R_drewN | apply Kd.R_drew));exact HO_9.out)) k_ hk,Kd.fresh' (Kd.R_lt (by (with_reducible repeat (first | apply Kd.R_alloc | apply Kd.R_drewN | apply Kd.R_drew));exact HO276.out)) k_ hk,Kd.fresh' (Kd.R_lt (by (with_reducible repeat (first | apply Kd.R_alloc | apply Kd.R_drewN | apply Kd.R_drew));exact HO270.out)) k_ hk,Kd.freshB (g := gb267) (o := .cells #[.int .i64 t263,.int .i64 t265] 32 (0,0)) (by (with_reducible repeat (first | refine kN_ ?_ _ | refine kD_ ?_ | refine kA_ ?_ _));exact BK267.out) k_ hk⟩))
        (case aO => exact (by (with_reducible repeat (first | apply Kd.R_alloc | apply Kd.R_drewN | apply Kd.R_drew));exact Kd.R_mono HO_8.out (fun _ hk => ⟨hk.1.1.1,⟨hk.1.2,⟨hk.2,hk.1.1.2⟩⟩⟩)))
        (case aS => exact (below_size (by repeat (first | (with_reducible first | exact HB.out | apply bA_ | apply bN_ | apply bD_ | refine bS_ ?_ (IsS65.ge HI255.out) | refine bS_ ?_ GE267.out) | exact HB.out))))
        (case aL => have := LMc13.out;omega)
        intro v272 w29 ho hb hg hat
        rw [← Ny271.out] at ho
        have n0_ := aM_ (Kd.R_over' (by (with_reducible repeat (first | apply Kd.R_alloc | apply Kd.R_drewN | apply Kd.R_drew));exact HO_6.out) (Kd.R_typed (by (with_reducible repeat (first | apply Kd.R_alloc | apply Kd.R_drewN | apply Kd.R_drew));exact HO_8.out)) (by decide) hg)
        have n1_ := aM_ (Kd.R_after (ok := (fun k_ => some k_ ≠ (v275 : Value).ownBlock ∧ some k_ ≠ (.slice Ao30 y268.length co30 : Value).ownBlock ∧ k_ ≠ gb267)) (by (with_reducible repeat (first | apply Kd.R_alloc | apply Kd.R_drewN | apply Kd.R_drew));exact Kd.R_mono HO_9.out (fun _ hk => ⟨⟨hk.1.2,⟨hk.2,hk.1.1.2⟩⟩,hk.1.1.1⟩)) hg hat)
        have n2_ := aM_ (IsS65.grown (by repeat (first | (with_reducible first | exact HI255.out | apply IsS65.alloc | apply IsS65.drewN | apply IsS65.drew | apply IsS65.set_0 | refine IsS65.far ?_ NB255_267.out _) | exact HI255.out)) hg (IsS65.own_ne HI255.out HO_8.out (by decide)))
        have n3_ := aM_ (blk_grown (g := gb267) (o := .cells #[.int .i64 t263,.int .i64 t265] 32 (0,0)) (by (with_reducible repeat (first | refine kN_ ?_ _ | refine kD_ ?_ | refine kA_ ?_ _));exact BK267.out) hg (Kd.R_away HO_8.out (fun _ hk => hk.1.1.2)))
        have n4_ := aM_ (Kd.R_after (ok := (fun k_ => some k_ ≠ (.slice Ao22 x9_1.length co22 : Value).ownBlock ∧ some k_ ≠ (.slice Ao30 y268.length co30 : Value).ownBlock ∧ k_ ≠ gb267)) (by (with_reducible repeat (first | apply Kd.R_alloc | apply Kd.R_drewN | apply Kd.R_drew));exact Kd.R_mono HO276.out (fun _ hk => ⟨⟨hk.1.1.2,⟨hk.2,hk.1.2⟩⟩,hk.1.1.1.2⟩)) hg hat)
        have n5_ := aM_ (Kd.R_after (ok := (fun k_ => some k_ ≠ (.slice Ao22 x9_1.length co22 : Value).ownBlock ∧ some k_ ≠ (v275 : Value).ownBlock ∧ k_ ≠ gb267)) (by (with_reducible repeat (first | apply Kd.R_alloc | apply Kd.R_drewN | apply Kd.R_drew));exact Kd.R_mono HO270.out (fun _ hk => ⟨⟨hk.1.1.2,⟨hk.1.2,hk.2⟩⟩,hk.1.1.1.2⟩)) hg hat)
        have n6_ := aM_ (hb)
        have n7_ := aM_ (ho)
        clear HO_6
        clear HO_9
        clear HI255
        clear BK267
        clear HO276
        clear HO270
        clear HB
        clear HO_8
        have HO_6 := n0_
        have HO_9 := n1_
        have HI255 := n2_
        have BK267 := n3_
        have HO276 := n4_
        have HO270 := n5_
        have HB := n6_
        have HO273 := n7_
        clear n0_ n1_ n2_ n3_ n4_ n5_ n6_ n7_
        clear ho hb hg hat
        refine hK.out _ _ ⟨(blk_cell BK267.out 0).trans rfl,(blk_cell BK267.out 1).trans rfl⟩ (fun hHeld => ?_)
        clear hK K
        refine norm_ (a' := ?_) ?_ ?_
        rotate_left
        ·show Act.put _ (some 47) _ = _
         simp only [Act.put,sB_,sZ_,sS_,i64_w,i32_w]
         rfl
        exact norm_ (by simp only [putAll,Act.put,sB_,sZ_,sS_]) (hCont (.slice Ao30 y268.length co30,v272,v275) _ ⟨hHeld,(by (with_reducible repeat (first | apply Kd.R_alloc | apply Kd.R_drewN | apply Kd.R_drew));exact Kd.R_mono HO270.out (fun _ hk => ⟨hk.2,⟨hk.1.2.1,⟨hk.1.1,hk.1.2.2⟩⟩⟩)),(by (with_reducible repeat (first | apply Kd.R_alloc | apply Kd.R_drewN | apply Kd.R_drew));exact Kd.R_mono HO273.out (fun _ hk => ⟨hk.2.2.1,⟨hk.2.1,⟨hk.1,hk.2.2.2⟩⟩⟩)),(by (with_reducible repeat (first | apply Kd.R_alloc | apply Kd.R_drewN | apply Kd.R_drew));exact Kd.R_mono HO276.out (fun _ hk => ⟨hk.1.2.1,⟨hk.2,⟨hk.1.1,hk.1.2.2⟩⟩⟩)),(by (with_reducible repeat (first | apply Kd.R_alloc | apply Kd.R_drewN | apply Kd.R_drew));exact HO_6.out),(by (with_reducible repeat (first | apply Kd.R_alloc | apply Kd.R_drewN | apply Kd.R_drew));exact Kd.R_mono HO_9.out (fun _ hk => ⟨hk.1.2.1,⟨hk.2,⟨hk.1.1,hk.1.2.2⟩⟩⟩)),(by (with_reducible repeat (first | refine kN_ ?_ _ | refine kD_ ?_ | refine kA_ ?_ _));exact BK267.out),(by repeat (first | (with_reducible first | exact HI255.out | apply IsS65.alloc | apply IsS65.drewN | apply IsS65.drew | apply IsS65.set_0 | refine IsS65.far ?_ NB255_267.out _) | exact HI255.out)),(by repeat (first | (with_reducible first | exact HB.out | apply bA_ | apply bN_ | apply bD_ | refine bS_ ?_ (IsS65.ge HI255.out) | refine bS_ ?_ GE267.out) | exact HB.out))⟩)
      rintro ⟨v269,v272,v275⟩ w31 ⟨hS_,h0_,h1_,h2_,h3_,h4_,h5_,h6_,h7_⟩
      have n0_ : Aside0 (Kd.R k32 32 w31 w.heap.size (fun k_ => some k_ ≠ (v272 : Value).ownBlock ∧ some k_ ≠ (v275 : Value).ownBlock ∧ some k_ ≠ (.slice Ao22 x9_1.length co22 : Value).ownBlock ∧ k_ ≠ gb267) v269 y268) := ⟨h0_⟩
      have n1_ : Aside0 (Kd.R k32 32 w31 w.heap.size (fun k_ => some k_ ≠ (v269 : Value).ownBlock ∧ some k_ ≠ (v275 : Value).ownBlock ∧ some k_ ≠ (.slice Ao22 x9_1.length co22 : Value).ownBlock ∧ k_ ≠ gb267) v272 y271) := ⟨h1_⟩
      have n2_ : Aside0 (Kd.R k32 32 w31 w.heap.size (fun k_ => some k_ ≠ (v269 : Value).ownBlock ∧ some k_ ≠ (v272 : Value).ownBlock ∧ some k_ ≠ (.slice Ao22 x9_1.length co22 : Value).ownBlock ∧ k_ ≠ gb267) v275 y274) := ⟨h2_⟩
      have n3_ : Aside0 (Kd.R k49 49 w31 w.heap.size (fun _ => True) (.slice Ao15 t256.length co15) t256) := ⟨h3_⟩
      have n4_ : Aside0 (Kd.R k32 32 w31 w.heap.size (fun k_ => some k_ ≠ (v269 : Value).ownBlock ∧ some k_ ≠ (v272 : Value).ownBlock ∧ some k_ ≠ (v275 : Value).ownBlock ∧ k_ ≠ gb267) (.slice Ao22 x9_1.length co22) x9_1) := ⟨h4_⟩
      have n5_ : Aside0 (w31.heap[gb267]? = some (.cells #[.int .i64 t263,.int .i64 t265] 32 (0,0))) := ⟨h5_⟩
      have n6_ : Aside0 (IsS65 w w31 g255 t266) := ⟨h6_⟩
      have n7_ : Aside0 (Below w.heap.size w w31) := ⟨h7_⟩
      clear HO_6
      clear HO_8
      clear HO_9
      clear BK267
      clear HI255
      clear HB
      clear h0_ h1_ h2_ h3_ h4_ h5_ h6_ h7_
      have HO270 := n0_
      have HO273 := n1_
      have HO276 := n2_
      have HO_6 := n3_
      have HO_9 := n4_
      have BK267 := n5_
      have HI255 := n6_
      have HB := n7_
      clear n0_ n1_ n2_ n3_ n4_ n5_ n6_ n7_
      have hHeld : w31.cell? ⟨gb267,0,none⟩ = some (.int .i64 t263) ∧ w31.cell? ⟨gb267,1,none⟩ = some (.int .i64 t265) := hS_
      refine norm_ (a' := ?_) ?_ ?_
      rotate_left
      ·simp only [putAll,Act.put,sB_,sZ_,sS_]
       rfl
      refine one_ (i := 7) (N := some 51) #[true,true,true,true,true,true,true,true,false,false] rfl rfl (one_of HT_.out (by kernel_rfl)) (by decide) (fun K hK => ?_)
      refine Kd.R_append_rows_step k32 (w0 := w) w.heap.size (by rfl) (.tmp 49) (.tmp 50) 28 32 (.agg #[(.int .i64 0),(.int .i64 0)]) 16 rfl Try.underlying28 info32 rfl (by decide) (by omega) v275 y274 x9_1 _ _ _ (fun k_ => some k_ ≠ (.slice Ao22 x9_1.length co22 : Value).ownBlock ∧ some k_ ≠ (v269 : Value).ownBlock ∧ some k_ ≠ (v272 : Value).ownBlock ∧ k_ ≠ gb267) (fun _ => False) rfl rfl ?aO ?aR (fun _ _ h => h) (fun _ h => h.elim) ?aF ?aB ?aS ?aL ?_
      (case aR => repeat (first | exact (Kd.R_reads' HO_9.out).2.2 | (with_reducible refine Kd.C_alloc ?_ _) | (with_reducible refine Kd.C_drewN ?_ _) | (with_reducible refine Kd.C_drew ?_)))
      (case aB => exact (by repeat (first | (with_reducible first | exact HB.out | apply bA_ | apply bN_ | apply bD_ | refine bS_ ?_ (IsS65.ge HI255.out) | refine bS_ ?_ GE267.out) | exact HB.out)))
      (case aF => exact (fun k_ hk => ⟨Kd.fresh' (Kd.R_lt (by (with_reducible repeat (first | apply Kd.R_alloc | apply Kd.R_drewN | apply Kd.R_drew));exact HO_9.out)) k_ hk,Kd.fresh' (Kd.R_lt (by (with_reducible repeat (first | apply Kd.R_alloc | apply Kd.R_drewN | apply Kd.R_drew));exact HO270.out)) k_ hk,Kd.fresh' (Kd.R_lt (by (with_reducible repeat (first | apply Kd.R_alloc | apply Kd.R_drewN | apply Kd.R_drew));exact HO273.out)) k_ hk,Kd.freshB (g := gb267) (o := .cells #[.int .i64 t263,.int .i64 t265] 32 (0,0)) (by (with_reducible repeat (first | refine kN_ ?_ _ | refine kD_ ?_ | refine kA_ ?_ _));exact BK267.out) k_ hk⟩))
      (case aO => exact (by (with_reducible repeat (first | apply Kd.R_alloc | apply Kd.R_drewN | apply Kd.R_drew));exact Kd.R_mono HO276.out (fun _ hk => ⟨hk.2.2.1,⟨hk.1,⟨hk.2.1,hk.2.2.2⟩⟩⟩)))
      (case aS => exact (below_size (by repeat (first | (with_reducible first | exact HB.out | apply bA_ | apply bN_ | apply bD_ | refine bS_ ?_ (IsS65.ge HI255.out) | refine bS_ ?_ GE267.out) | exact HB.out))))
      (case aL => have := LMc14.out;omega)
      intro v278 w32 ho hb hg hat
      rw [← Ny277.out] at ho
      have n0_ := aM_ (Kd.R_over' (by (with_reducible repeat (first | apply Kd.R_alloc | apply Kd.R_drewN | apply Kd.R_drew));exact HO_6.out) (Kd.R_typed (by (with_reducible repeat (first | apply Kd.R_alloc | apply Kd.R_drewN | apply Kd.R_drew));exact HO276.out)) (by decide) hg)
      have n1_ := aM_ (Kd.R_after (ok := (fun k_ => some k_ ≠ (v269 : Value).ownBlock ∧ some k_ ≠ (v272 : Value).ownBlock ∧ k_ ≠ gb267)) (by (with_reducible repeat (first | apply Kd.R_alloc | apply Kd.R_drewN | apply Kd.R_drew));exact Kd.R_mono HO_9.out (fun _ hk => ⟨⟨hk.1,⟨hk.2.1,hk.2.2.2⟩⟩,hk.2.2.1⟩)) hg hat)
      have n2_ := aM_ (IsS65.grown (by repeat (first | (with_reducible first | exact HI255.out | apply IsS65.alloc | apply IsS65.drewN | apply IsS65.drew | apply IsS65.set_0 | refine IsS65.far ?_ NB255_267.out _) | exact HI255.out)) hg (IsS65.own_ne HI255.out HO276.out (by decide)))
      have n3_ := aM_ (blk_grown (g := gb267) (o := .cells #[.int .i64 t263,.int .i64 t265] 32 (0,0)) (by (with_reducible repeat (first | refine kN_ ?_ _ | refine kD_ ?_ | refine kA_ ?_ _));exact BK267.out) hg (Kd.R_away HO276.out (fun _ hk => hk.2.2.2)))
      have n4_ := aM_ (Kd.R_after (ok := (fun k_ => some k_ ≠ (.slice Ao22 x9_1.length co22 : Value).ownBlock ∧ some k_ ≠ (v272 : Value).ownBlock ∧ k_ ≠ gb267)) (by (with_reducible repeat (first | apply Kd.R_alloc | apply Kd.R_drewN | apply Kd.R_drew));exact Kd.R_mono HO270.out (fun _ hk => ⟨⟨hk.2.2.1,⟨hk.1,hk.2.2.2⟩⟩,hk.2.1⟩)) hg hat)
      have n5_ := aM_ (Kd.R_after (ok := (fun k_ => some k_ ≠ (.slice Ao22 x9_1.length co22 : Value).ownBlock ∧ some k_ ≠ (v269 : Value).ownBlock ∧ k_ ≠ gb267)) (by (with_reducible repeat (first | apply Kd.R_alloc | apply Kd.R_drewN | apply Kd.R_drew));exact Kd.R_mono HO273.out (fun _ hk => ⟨⟨hk.2.2.1,⟨hk.1,hk.2.2.2⟩⟩,hk.2.1⟩)) hg hat)
      have n6_ := aM_ (hb)
      have n7_ := aM_ (ho)
      clear HO_6
      clear HO_9
      clear HI255
      clear BK267
      clear HO270
      clear HO273
      clear HB
      clear HO276
      have HO_6 := n0_
      have HO_9 := n1_
      have HI255 := n2_
      have BK267 := n3_
      have HO270 := n4_
      have HO273 := n5_
      have HB := n6_
      have HO279 := n7_
      clear n0_ n1_ n2_ n3_ n4_ n5_ n6_ n7_
      clear ho hb hg hat
      refine hK.out _ _ ⟨(blk_cell BK267.out 0).trans rfl,(blk_cell BK267.out 1).trans rfl⟩ (fun hHeld => ?_)
      clear hK K
      refine norm_ (a' := ?_) ?_ ?_
      rotate_left
      ·show Act.put _ (some 51) _ = _
       simp only [Act.put,sB_,sZ_,sS_,i64_w,i32_w]
       rfl
      refine pure_ (i := 8) (N := some 8) (v := ?_) (a' := ?_) #[true,true,true,true,true,true,true,true,true,false] rfl rfl (any_of HT_.out (by kernel_rfl)) (fun _ _ _ h => h) (Or.inl ⟨by rfl,?_⟩) ?_ ?_
      rotate_left
      ·intro w'
       go_simp
       with_reducible rfl
      rotate_left
      ·simp only [Act.put,sB_,sZ_,sS_,i64_w,i32_w]
       rfl
      refine pure_ (i := 9) (N := some 9) (v := ?_) (a' := ?_) #[true,true,true,true,true,true,true,true,true,true] rfl rfl (any_of HT_.out (by kernel_rfl)) (fun _ _ _ h => h) (Or.inl ⟨by rfl,?_⟩) ?_ ?_
      rotate_left
      ·intro w'
       go_simp
       with_reducible rfl
      rotate_left
      ·simp only [Act.put,sB_,sZ_,sS_,i64_w,i32_w]
       rfl
      refine done_ (done_of HT_.out (by kernel_rfl)) ?_
      try go_wp2
      go_roundg k1
      case measure => have := HK1.out;omega
      case rel => exact ⟨(y271),(y277),(wrap64 (x10_1 - 1)),(t266),(by first | rfl | (simp;done) | (simp [*];done)),H',⟨by have := HK1.out;omega⟩,⟨by (with_reducible repeat (first | apply Kd.R_alloc | apply Kd.R_drewN | apply Kd.R_drew));exact HO_6.out⟩,⟨by (with_reducible repeat (first | apply Kd.R_alloc | apply Kd.R_drewN | apply Kd.R_drew));exact Kd.R_mono HO273.out (fun _ hk => hk.2)⟩,⟨by (with_reducible repeat (first | apply Kd.R_alloc | apply Kd.R_drewN | apply Kd.R_drew));exact Kd.R_mono HO279.out (fun _ hk => hk.2.2.1)⟩,⟨by repeat (first | (with_reducible first | exact HI255.out | apply IsS65.alloc | apply IsS65.drewN | apply IsS65.drew | apply IsS65.set_0 | refine IsS65.far ?_ NB255_267.out _) | exact HI255.out)⟩,⟨by repeat (first | (with_reducible first | exact HB.out | apply bA_ | apply bN_ | apply bD_ | refine bS_ ?_ (IsS65.ge HI255.out) | refine bS_ ?_ GE267.out) | exact HB.out)⟩⟩
     ·rw [if_neg c14] at H
      exact absurd H (by simp)
    ·rw [if_neg c13] at H
     exact absurd H (by simp)
   ·rw [if_neg c10] at H
    have c10b0 : decide (0 < x10_1) = false := decide_eq_false c10
    clear c10
    replace H := oB_ H
    obtain ⟨⟨t280,t281,t282⟩,A330,H⟩ := H
    replace H : ((gauge_Together.f k1 t256 x9_1).bind fun bt284 => (if t282 = 0 then (if bt284.2.2 = 0 then (if (!(t280 == bt284.1) || (!(t281 == bt284.2.1))) = true then (L_GaugeAgrees.j1 k1 t256 x8_1 true t280 t281) else (if (wrap64 (t260 - 100000)) < t280 then (L_GaugeAgrees.j1 k1 t256 x8_1 true t280 t281) else (L_GaugeAgrees.j1 k1 t256 x8_1 (decide ((wrap64 (t260 - 100000)) > t281)) t280 t281))) else (L_GaugeAgrees.j1 k1 t256 x8_1 true t280 t281)) else (L_GaugeAgrees.j1 k1 t256 x8_1 true t280 t281))) = some r := H
    have A33 := aM_ A330
    clear A330
    replace H := oB_ H
    obtain ⟨⟨t284,t285,t286⟩,A340,H⟩ := H
    replace H : (if t282 = 0 then (if t286 = 0 then (if (!(t280 == t284) || (!(t281 == t285))) = true then (L_GaugeAgrees.j1 k1 t256 x8_1 true t280 t281) else (if (wrap64 (t260 - 100000)) < t280 then (L_GaugeAgrees.j1 k1 t256 x8_1 true t280 t281) else (L_GaugeAgrees.j1 k1 t256 x8_1 (decide ((wrap64 (t260 - 100000)) > t281)) t280 t281))) else (L_GaugeAgrees.j1 k1 t256 x8_1 true t280 t281)) else (L_GaugeAgrees.j1 k1 t256 x8_1 true t280 t281)) = some r := H
    have A34 := aM_ A340
    clear A340
    have HC35 := aM_ H
    clear H
    obtain ⟨Ao36,co36,eo36⟩ := Kd.R_slice HO_6.out
    subst eo36
    obtain ⟨Ao37,co37,eo37⟩ := Kd.R_slice HO_8.out
    subst eo37
    go_upto_region 13 with (first | ((with_reducible refine gate_callee (f := 15) rfl ?_);refine goesL_ (some 55) rfl rfl Try.func15 (by kernel_rfl) rfl #[.slice Ao36 t256.length co36,.slice Ao37 x8_1.length co37] rfl (by (try simp only [List.map_toArray,List.map_cons,List.map_nil]);first | done | rfl) ?_;(with_reducible refine (gauge_Together.calls k1 _ _ t256 _ _ x8_1 t280 t281 t282 _ ?side1 ?side2 ?side3 ?side4 A33.out).mono ?_);(case side1 => repeat (first | exact (Kd.R_reads' HO_6.out).2.2 | (with_reducible refine Kd.C_alloc ?_ _) | (with_reducible refine Kd.C_drewN ?_ _) | (with_reducible refine Kd.C_drew ?_)));(case side2 => exact (Kd.R_reads' HO_6.out).2.1);(case side3 => repeat (first | exact (Kd.R_reads' HO_8.out).2.2 | (with_reducible refine Kd.C_alloc ?_ _) | (with_reducible refine Kd.C_drewN ?_ _) | (with_reducible refine Kd.C_drew ?_)));(case side4 => exact (Kd.R_reads' HO_8.out).2.1);rintro e w38 ⟨rfl,hb⟩;refine ⟨_,rfl,?_⟩;have n0_ := aM_ (Kd.R_below (by (with_reducible repeat (first | apply Kd.R_alloc | apply Kd.R_drewN | apply Kd.R_drew));exact HO_6.out) hb);have n1_ := aM_ (Kd.R_below (by (with_reducible repeat (first | apply Kd.R_alloc | apply Kd.R_drewN | apply Kd.R_drew));exact HO_8.out) hb);have n2_ := aM_ (Kd.R_below (by (with_reducible repeat (first | apply Kd.R_alloc | apply Kd.R_drewN | apply Kd.R_drew));exact HO_9.out) hb);have n3_ := aM_ (IsS65.below (by repeat (first | (with_reducible first | exact HI255.out | apply IsS65.alloc | apply IsS65.drewN | apply IsS65.drew | apply IsS65.set_0) | exact HI255.out)) hb);have n4_ := aM_ (bT_ (by repeat (first | (with_reducible first | exact HB.out | apply bA_ | apply bN_ | apply bD_ | refine bS_ ?_ (IsS65.ge HI255.out)) | exact HB.out)) hb);clear HO_6;clear HO_8;clear HO_9;clear HI255;clear HB;have HO_6 := n0_;have HO_8 := n1_;have HO_9 := n2_;have HI255 := n3_;have HB := n4_;clear n0_ n1_ n2_ n3_ n4_;(try clear hb);(try clear hb2);(try clear hk);(try clear hi)) | ((with_reducible refine gate_dst (N := 13) rfl ?_);refine box_event ?hg (N := 13) ?hd (cs := #[.int .i64 0,.int .i64 0]) (t := 34) ?hr ?_;(case hd => rfl);(case hg => rfl);(case hr => first | (go_simp;done) | (go_simp;rfl));intro gb283 hg w39 hbox hb;have n0_ := aM_ (Kd.R_below (by (with_reducible repeat (first | apply Kd.R_alloc | apply Kd.R_drewN | apply Kd.R_drew));exact HO_6.out) hb);have n1_ := aM_ (Kd.R_below (by (with_reducible repeat (first | apply Kd.R_alloc | apply Kd.R_drewN | apply Kd.R_drew));exact HO_8.out) hb);have n2_ := aM_ (Kd.R_below (by (with_reducible repeat (first | apply Kd.R_alloc | apply Kd.R_drewN | apply Kd.R_drew));exact HO_9.out) hb);have n3_ := aM_ (IsS65.below (by repeat (first | (with_reducible first | exact HI255.out | apply IsS65.alloc | apply IsS65.drewN | apply IsS65.drew | apply IsS65.set_0) | exact HI255.out)) hb);have n4_ := aM_ (bT_ (by repeat (first | (with_reducible first | exact HB.out | apply bA_ | apply bN_ | apply bD_ | refine bS_ ?_ (IsS65.ge HI255.out)) | exact HB.out)) hb);have n5_ := aM_ (hbox);have n6_ := aM_ ((by rw [hg];exact (below_size (by repeat (first | (with_reducible first | exact HB.out | apply bA_ | apply bN_ | apply bD_ | refine bS_ ?_ (IsS65.ge HI255.out)) | exact HB.out))) : w.heap.size ≤ gb283));have n7_ := aM_ ((by rw [hg];exact (below_size (by repeat (first | (with_reducible first | exact HB.out | apply bA_ | apply bN_ | apply bD_ | refine bS_ ?_ (IsS65.ge HI255.out)) | exact HB.out))) : w.heap.size ≤ gb283));have n8_ := aM_ ((by rw [hg];exact Nat.ne_of_lt (IsS65.lt (show IsS65 w _ g255 x256000_1 from by repeat (first | (with_reducible first | exact HI255.out | apply IsS65.alloc | apply IsS65.drewN | apply IsS65.drew | apply IsS65.set_0) | exact HI255.out))) : g255 ≠ gb283));have n9_ := aM_ ((by rw [hg];exact Nat.ne_of_gt (IsS65.lt (show IsS65 w _ g255 x256000_1 from by repeat (first | (with_reducible first | exact HI255.out | apply IsS65.alloc | apply IsS65.drewN | apply IsS65.drew | apply IsS65.set_0) | exact HI255.out))) : gb283 ≠ g255));clear HO_6;clear HO_8;clear HO_9;clear HI255;clear HB;have HO_6 := n0_;have HO_8 := n1_;have HO_9 := n2_;have HI255 := n3_;have HB := n4_;have BK283 := n5_;have GW283 := n6_;have GE283 := n7_;have NB255_283 := n8_;have NB283_255 := n9_;clear n0_ n1_ n2_ n3_ n4_ n5_ n6_ n7_ n8_ n9_;clear hb hbox hg;have hnb40 := NB283_255.out;have hnc40 := NB255_283.out;have hcz41_0 : w39.cell? ⟨gb283,0,none⟩ = some (.int .i64 0) := (blk_cell BK283.out 0).trans rfl;have hcz41_1 : w39.cell? ⟨gb283,1,none⟩ = some (.int .i64 0) := (blk_cell BK283.out 1).trans rfl;have hfz41_0 := blk_frozen BK283.out 0;have hfz41_1 := blk_frozen BK283.out 1;obtain ⟨Ao42,co42,eo42⟩ := Kd.R_slice HO_9.out;subst eo42) | ((with_reducible refine gate_callee (f := 15) rfl ?_);refine goesL_ (some 61) rfl rfl Try.func15 (by kernel_rfl) rfl #[.slice Ao36 t256.length co36,.slice Ao42 x9_1.length co42] rfl (by (try simp only [List.map_toArray,List.map_cons,List.map_nil]);first | done | rfl) ?_;(with_reducible refine (gauge_Together.calls k1 _ _ t256 _ _ x9_1 t284 t285 t286 _ ?side1 ?side2 ?side3 ?side4 A34.out).mono ?_);(case side1 => refine (Kd.R_reads' (e := 49) (base := w.heap.size) (ok := fun k_ => True) (n := t256.length) (c := co36) ?_).2.2;exact (by (with_reducible repeat (first | apply Kd.R_alloc | apply Kd.R_drewN | apply Kd.R_drew));exact (Kd.R_mono (Kd.R_far (p := ⟨gb283,1,none⟩) (Kd.R_far (p := ⟨gb283,0,none⟩) (Kd.R_types HO_6.out BK283.out (by decide)) (fun _ hk => hk.2) (.int .i64 t280)) (fun _ hk => hk.2) (.int .i64 t281)) (fun _ h_ => h_.1))));(case side2 => exact (Kd.R_reads' HO_6.out).2.1);(case side3 => refine (Kd.R_reads' (e := 32) (base := w.heap.size) (ok := fun k_ => some k_ ≠ (.slice Ao37 x8_1.length co37 : Value).ownBlock) (n := x9_1.length) (c := co42) ?_).2.2;exact (by (with_reducible repeat (first | apply Kd.R_alloc | apply Kd.R_drewN | apply Kd.R_drew));exact (Kd.R_mono (Kd.R_far (p := ⟨gb283,1,none⟩) (Kd.R_far (p := ⟨gb283,0,none⟩) (Kd.R_types HO_9.out BK283.out (by decide)) (fun _ hk => hk.2) (.int .i64 t280)) (fun _ hk => hk.2) (.int .i64 t281)) (fun _ h_ => h_.1))));(case side4 => exact (Kd.R_reads' HO_9.out).2.1);rintro e w43 ⟨rfl,hb⟩;refine ⟨_,rfl,?_⟩;have n0_ := aM_ (Kd.R_below (by (with_reducible repeat (first | apply Kd.R_alloc | apply Kd.R_drewN | apply Kd.R_drew));exact (Kd.R_mono (Kd.R_far (p := ⟨gb283,1,none⟩) (Kd.R_far (p := ⟨gb283,0,none⟩) (Kd.R_types HO_6.out BK283.out (by decide)) (fun _ hk => hk.2) (.int .i64 t280)) (fun _ hk => hk.2) (.int .i64 t281)) (fun _ h_ => h_.1))) hb);have n1_ := aM_ (Kd.R_below (by (with_reducible repeat (first | apply Kd.R_alloc | apply Kd.R_drewN | apply Kd.R_drew));exact (Kd.R_mono (Kd.R_far (p := ⟨gb283,1,none⟩) (Kd.R_far (p := ⟨gb283,0,none⟩) (Kd.R_types HO_8.out BK283.out (by decide)) (fun _ hk => hk.2) (.int .i64 t280)) (fun _ hk => hk.2) (.int .i64 t281)) (fun _ h_ => h_.1))) hb);have n2_ := aM_ (Kd.R_below (by (with_reducible repeat (first | apply Kd.R_alloc | apply Kd.R_drewN | apply Kd.R_drew));exact (Kd.R_mono (Kd.R_far (p := ⟨gb283,1,none⟩) (Kd.R_far (p := ⟨gb283,0,none⟩) (Kd.R_types HO_9.out BK283.out (by decide)) (fun _ hk => hk.2) (.int .i64 t280)) (fun _ hk => hk.2) (.int .i64 t281)) (fun _ h_ => h_.1))) hb);have n3_ := aM_ (IsS65.below (show IsS65 w ((w39.setCell ⟨gb283,0,none⟩ (.int .i64 t280)).setCell ⟨gb283,1,none⟩ (.int .i64 t281)) g255 x256000_1 from by repeat (first | (with_reducible first | exact HI255.out | apply IsS65.alloc | apply IsS65.drewN | apply IsS65.drew | apply IsS65.set_0 | refine IsS65.far ?_ NB255_283.out _) | exact HI255.out)) hb);have n4_ := aM_ (kB_ (g := gb283) (o := .cells #[.int .i64 t280,.int .i64 t281] 34 (0,0)) (by (with_reducible repeat (first | refine kN_ ?_ _ | refine kD_ ?_ | refine kA_ ?_ _));refine blk_put (cs := #[.int .i64 t280,.int .i64 0]) ?_ 1 _ rfl;(with_reducible repeat (first | refine kN_ ?_ _ | refine kD_ ?_ | refine kA_ ?_ _));refine blk_put (cs := #[.int .i64 0,.int .i64 0]) ?_ 0 _ rfl;(with_reducible repeat (first | refine kN_ ?_ _ | refine kD_ ?_ | refine kA_ ?_ _));exact BK283.out) hb);have n5_ := aM_ (bT_ (by repeat (first | (with_reducible first | exact HB.out | apply bA_ | apply bN_ | apply bD_ | refine bS_ ?_ (IsS65.ge HI255.out) | refine bS_ ?_ GE283.out) | exact HB.out)) hb);clear HO_6;clear HO_8;clear HO_9;clear HI255;clear BK283;clear HB;have HO_6 := n0_;have HO_8 := n1_;have HO_9 := n2_;have HI255 := n3_;have BK283 := n4_;have HB := n5_;clear n0_ n1_ n2_ n3_ n4_ n5_;(try clear hb);(try clear hb2);(try clear hk);(try clear hi)) | ((with_reducible refine gate_dst (N := 15) rfl ?_);refine box_event ?hg (N := 15) ?hd (cs := #[.int .i64 0,.int .i64 0]) (t := 34) ?hr ?_;(case hd => rfl);(case hg => rfl);(case hr => first | (go_simp;done) | (go_simp;rfl));intro gb287 hg w44 hbox hb;have n0_ := aM_ (Kd.R_below (by (with_reducible repeat (first | apply Kd.R_alloc | apply Kd.R_drewN | apply Kd.R_drew));exact HO_6.out) hb);have n1_ := aM_ (Kd.R_below (by (with_reducible repeat (first | apply Kd.R_alloc | apply Kd.R_drewN | apply Kd.R_drew));exact HO_8.out) hb);have n2_ := aM_ (Kd.R_below (by (with_reducible repeat (first | apply Kd.R_alloc | apply Kd.R_drewN | apply Kd.R_drew));exact HO_9.out) hb);have n3_ := aM_ (IsS65.below (by repeat (first | (with_reducible first | exact HI255.out | apply IsS65.alloc | apply IsS65.drewN | apply IsS65.drew | apply IsS65.set_0 | refine IsS65.far ?_ NB255_283.out _) | exact HI255.out)) hb);have n4_ := aM_ (kB_ (g := gb283) (o := .cells #[.int .i64 t280,.int .i64 t281] 34 (0,0)) (by (with_reducible repeat (first | refine kN_ ?_ _ | refine kD_ ?_ | refine kA_ ?_ _));exact BK283.out) hb);have n5_ := aM_ (bT_ (by repeat (first | (with_reducible first | exact HB.out | apply bA_ | apply bN_ | apply bD_ | refine bS_ ?_ (IsS65.ge HI255.out) | refine bS_ ?_ GE283.out) | exact HB.out)) hb);have n6_ := aM_ (hbox);have n7_ := aM_ ((by rw [hg];exact (below_size (by repeat (first | (with_reducible first | exact HB.out | apply bA_ | apply bN_ | apply bD_ | refine bS_ ?_ (IsS65.ge HI255.out) | refine bS_ ?_ GE283.out) | exact HB.out))) : w.heap.size ≤ gb287));have n8_ := aM_ ((by rw [hg];exact (below_size (by repeat (first | (with_reducible first | exact HB.out | apply bA_ | apply bN_ | apply bD_ | refine bS_ ?_ (IsS65.ge HI255.out) | refine bS_ ?_ GE283.out) | exact HB.out))) : w.heap.size ≤ gb287));have n9_ := aM_ ((by rw [hg];exact Nat.ne_of_lt (blk_lt (g := gb283) (o := .cells #[.int .i64 t280,.int .i64 t281] 34 (0,0)) (by (with_reducible repeat (first | refine kN_ ?_ _ | refine kD_ ?_ | refine kA_ ?_ _));exact BK283.out)) : gb283 ≠ gb287));have n10_ := aM_ ((by rw [hg];exact Nat.ne_of_gt (blk_lt (g := gb283) (o := .cells #[.int .i64 t280,.int .i64 t281] 34 (0,0)) (by (with_reducible repeat (first | refine kN_ ?_ _ | refine kD_ ?_ | refine kA_ ?_ _));exact BK283.out)) : gb287 ≠ gb283));have n11_ := aM_ ((by rw [hg];exact Nat.ne_of_lt (IsS65.lt (show IsS65 w _ g255 x256000_1 from by repeat (first | (with_reducible first | exact HI255.out | apply IsS65.alloc | apply IsS65.drewN | apply IsS65.drew | apply IsS65.set_0 | refine IsS65.far ?_ NB255_283.out _) | exact HI255.out))) : g255 ≠ gb287));have n12_ := aM_ ((by rw [hg];exact Nat.ne_of_gt (IsS65.lt (show IsS65 w _ g255 x256000_1 from by repeat (first | (with_reducible first | exact HI255.out | apply IsS65.alloc | apply IsS65.drewN | apply IsS65.drew | apply IsS65.set_0 | refine IsS65.far ?_ NB255_283.out _) | exact HI255.out))) : gb287 ≠ g255));clear HO_6;clear HO_8;clear HO_9;clear HI255;clear BK283;clear HB;have HO_6 := n0_;have HO_8 := n1_;have HO_9 := n2_;have HI255 := n3_;have BK283 := n4_;have HB := n5_;have BK287 := n6_;have GW287 := n7_;have GE287 := n8_;have NB283_287 := n9_;have NB287_283 := n10_;have NB255_287 := n11_;have NB287_255 := n12_;clear n0_ n1_ n2_ n3_ n4_ n5_ n6_ n7_ n8_ n9_ n10_ n11_ n12_;clear hb hbox hg;have hnb45 := NB287_283.out;have hnc45 := NB283_287.out;have hnb46 := NB287_255.out;have hnc46 := NB255_287.out;have hcz47_0 : w44.cell? ⟨gb287,0,none⟩ = some (.int .i64 0) := (blk_cell BK287.out 0).trans rfl;have hcz47_1 : w44.cell? ⟨gb287,1,none⟩ = some (.int .i64 0) := (blk_cell BK287.out 1).trans rfl;have hfz47_0 := blk_frozen BK287.out 0;have hfz47_1 := blk_frozen BK287.out 1))
    (try simp only [Act.put,sB_,sZ_,sS_])
    go_cut [86] (fun v86 wc => ∃ (kq : Nat) (x86_34 : Bool),v86 = .bool x86_34 ∧ Aside0 (L_GaugeAgrees.j1 kq t256 x8_1 x86_34 t280 t281 = some r) ∧ Aside0 (kq ≤ k1) ∧ Aside0 (Kd.R k49 49 wc w.heap.size (fun _ => True) (.slice Ao36 t256.length co36) t256) ∧ Aside0 (Kd.R k32 32 wc w.heap.size (fun _ => True) (.slice Ao37 x8_1.length co37) x8_1) ∧ Aside0 (wc.heap[gb283]? = some (.cells #[.int .i64 t280,.int .i64 t281] 34 (0,0))) ∧ Aside0 (wc.heap[gb287]? = some (.cells #[.int .i64 t284,.int .i64 t285] 34 (0,0))) ∧ Aside0 (Below w.heap.size w wc))
    case first =>
     have H := HC35.out
     clear HC35
     by_cases c48 : t282 = 0
     ·rw [if_pos c48] at H
      have c48b0 : (t282 == 0) = true := beq_iff_eq.mpr c48
      have c48b1 : (t282 != 0) = false := bne_eq_false_iff_eq.mpr c48
      clear c48
      (first | rw [c48b0] | (simp only [i64_w,i32_w];rw [c48b0]) | skip)
      by_cases c49 : t286 = 0
      ·rw [if_pos c49] at H
       have c49b0 : (t286 == 0) = true := beq_iff_eq.mpr c49
       have c49b1 : (t286 != 0) = false := bne_eq_false_iff_eq.mpr c49
       clear c49
       by_cases c50 : (!(t280 == t284) || (!(t281 == t285))) = true
       ·rw [if_pos c50] at H
        have c50b0 : (!(t280 == t284) || (!(t281 == t285))) = true := c50
        clear c50
        have H' := aM_ H
        clear H
        have hnb51 := NB283_287.out
        have hnc51 := NB287_283.out
        have hnb52 := NB283_255.out
        have hnc52 := NB255_283.out
        have hcz53_0 : w44.cell? ⟨gb283,0,none⟩ = some (.int .i64 t280) := (blk_cell BK283.out 0).trans rfl
        have hcz53_1 : w44.cell? ⟨gb283,1,none⟩ = some (.int .i64 t281) := (blk_cell BK283.out 1).trans rfl
        have hfz53_0 := blk_frozen BK283.out 0
        have hfz53_1 := blk_frozen BK283.out 1
        have hnb54 := NB287_255.out
        have hnc54 := NB255_287.out
        have hcz55_0 : w44.cell? ⟨gb287,0,none⟩ = some (.int .i64 0) := (blk_cell BK287.out 0).trans rfl
        have hcz55_1 : w44.cell? ⟨gb287,1,none⟩ = some (.int .i64 0) := (blk_cell BK287.out 1).trans rfl
        have hfz55_0 := blk_frozen BK287.out 0
        have hfz55_1 := blk_frozen BK287.out 1
        go_wp2
        go_meet
        case rel => exact ⟨_,(true),(by first | rfl | (simp;done) | (simp [*];done)),H',⟨by have := HK1.out;first | omega | exact Nat.le_refl _⟩,⟨by (with_reducible repeat (first | apply Kd.R_alloc | apply Kd.R_drewN | apply Kd.R_drew));exact Kd.R_mono (Kd.R_far (p := ⟨gb287,1,none⟩) (Kd.R_far (p := ⟨gb287,0,none⟩) (Kd.R_types HO_6.out BK287.out (by decide)) (fun _ hk => hk.2) (.int .i64 t284)) (fun _ hk => hk.2) (.int .i64 t285)) (fun _ hk => trivial)⟩,⟨by (with_reducible repeat (first | apply Kd.R_alloc | apply Kd.R_drewN | apply Kd.R_drew));exact Kd.R_mono (Kd.R_far (p := ⟨gb287,1,none⟩) (Kd.R_far (p := ⟨gb287,0,none⟩) (Kd.R_types HO_8.out BK287.out (by decide)) (fun _ hk => hk.2) (.int .i64 t284)) (fun _ hk => hk.2) (.int .i64 t285)) (fun _ hk => trivial)⟩,⟨by (with_reducible repeat (first | refine kN_ ?_ _ | refine kD_ ?_ | refine kA_ ?_ _));refine blk_far ?_ NB283_287.out _;(with_reducible repeat (first | refine kN_ ?_ _ | refine kD_ ?_ | refine kA_ ?_ _));refine blk_far ?_ NB283_287.out _;(with_reducible repeat (first | refine kN_ ?_ _ | refine kD_ ?_ | refine kA_ ?_ _));exact BK283.out⟩,⟨by (with_reducible repeat (first | refine kN_ ?_ _ | refine kD_ ?_ | refine kA_ ?_ _));refine blk_put (cs := #[.int .i64 t284,.int .i64 0]) ?_ 1 _ rfl;(with_reducible repeat (first | refine kN_ ?_ _ | refine kD_ ?_ | refine kA_ ?_ _));refine blk_put (cs := #[.int .i64 0,.int .i64 0]) ?_ 0 _ rfl;(with_reducible repeat (first | refine kN_ ?_ _ | refine kD_ ?_ | refine kA_ ?_ _));exact BK287.out⟩,⟨by repeat (first | (with_reducible first | exact HB.out | apply bA_ | apply bN_ | apply bD_ | refine bS_ ?_ (IsS65.ge HI255.out) | refine bS_ ?_ GE283.out | refine bS_ ?_ GE287.out) | exact HB.out)⟩⟩
       ·rw [if_neg c50] at H
        have c50b0 : (!(t280 == t284) || (!(t281 == t285))) = false := by simpa using c50
        clear c50
        by_cases c56 : (wrap64 (t260 - 100000)) < t280
        ·rw [if_pos c56] at H
         have c56b0 : decide ((wrap64 (t260 - 100000)) < t280) = true := decide_eq_true c56
         clear c56
         have H' := aM_ H
         clear H
         have hnb57 := NB283_287.out
         have hnc57 := NB287_283.out
         have hnb58 := NB283_255.out
         have hnc58 := NB255_283.out
         have hcz59_0 : w44.cell? ⟨gb283,0,none⟩ = some (.int .i64 t280) := (blk_cell BK283.out 0).trans rfl
         have hcz59_1 : w44.cell? ⟨gb283,1,none⟩ = some (.int .i64 t281) := (blk_cell BK283.out 1).trans rfl
         have hfz59_0 := blk_frozen BK283.out 0
         have hfz59_1 := blk_frozen BK283.out 1
         have hnb60 := NB287_255.out
         have hnc60 := NB255_287.out
         have hcz61_0 : w44.cell? ⟨gb287,0,none⟩ = some (.int .i64 0) := (blk_cell BK287.out 0).trans rfl
         have hcz61_1 : w44.cell? ⟨gb287,1,none⟩ = some (.int .i64 0) := (blk_cell BK287.out 1).trans rfl
         have hfz61_0 := blk_frozen BK287.out 0
         have hfz61_1 := blk_frozen BK287.out 1
         go_wp2
         go_meet
         case rel => exact ⟨_,(true),(by first | rfl | (simp;done) | (simp [*];done)),H',⟨by have := HK1.out;first | omega | exact Nat.le_refl _⟩,⟨by (with_reducible repeat (first | apply Kd.R_alloc | apply Kd.R_drewN | apply Kd.R_drew));exact Kd.R_mono (Kd.R_far (p := ⟨gb287,1,none⟩) (Kd.R_far (p := ⟨gb287,0,none⟩) (Kd.R_types HO_6.out BK287.out (by decide)) (fun _ hk => hk.2) (.int .i64 t284)) (fun _ hk => hk.2) (.int .i64 t285)) (fun _ hk => trivial)⟩,⟨by (with_reducible repeat (first | apply Kd.R_alloc | apply Kd.R_drewN | apply Kd.R_drew));exact Kd.R_mono (Kd.R_far (p := ⟨gb287,1,none⟩) (Kd.R_far (p := ⟨gb287,0,none⟩) (Kd.R_types HO_8.out BK287.out (by decide)) (fun _ hk => hk.2) (.int .i64 t284)) (fun _ hk => hk.2) (.int .i64 t285)) (fun _ hk => trivial)⟩,⟨by (with_reducible repeat (first | refine kN_ ?_ _ | refine kD_ ?_ | refine kA_ ?_ _));refine blk_far ?_ NB283_287.out _;(with_reducible repeat (first | refine kN_ ?_ _ | refine kD_ ?_ | refine kA_ ?_ _));refine blk_far ?_ NB283_287.out _;(with_reducible repeat (first | refine kN_ ?_ _ | refine kD_ ?_ | refine kA_ ?_ _));exact BK283.out⟩,⟨by (with_reducible repeat (first | refine kN_ ?_ _ | refine kD_ ?_ | refine kA_ ?_ _));refine blk_put (cs := #[.int .i64 t284,.int .i64 0]) ?_ 1 _ rfl;(with_reducible repeat (first | refine kN_ ?_ _ | refine kD_ ?_ | refine kA_ ?_ _));refine blk_put (cs := #[.int .i64 0,.int .i64 0]) ?_ 0 _ rfl;(with_reducible repeat (first | refine kN_ ?_ _ | refine kD_ ?_ | refine kA_ ?_ _));exact BK287.out⟩,⟨by repeat (first | (with_reducible first | exact HB.out | apply bA_ | apply bN_ | apply bD_ | refine bS_ ?_ (IsS65.ge HI255.out) | refine bS_ ?_ GE283.out | refine bS_ ?_ GE287.out) | exact HB.out)⟩⟩
        ·rw [if_neg c56] at H
         have c56b0 : decide ((wrap64 (t260 - 100000)) < t280) = false := decide_eq_false c56
         clear c56
         have H' := aM_ H
         clear H
         have hnb62 := NB283_287.out
         have hnc62 := NB287_283.out
         have hnb63 := NB283_255.out
         have hnc63 := NB255_283.out
         have hcz64_0 : w44.cell? ⟨gb283,0,none⟩ = some (.int .i64 t280) := (blk_cell BK283.out 0).trans rfl
         have hcz64_1 : w44.cell? ⟨gb283,1,none⟩ = some (.int .i64 t281) := (blk_cell BK283.out 1).trans rfl
         have hfz64_0 := blk_frozen BK283.out 0
         have hfz64_1 := blk_frozen BK283.out 1
         have hnb65 := NB287_255.out
         have hnc65 := NB255_287.out
         have hcz66_0 : w44.cell? ⟨gb287,0,none⟩ = some (.int .i64 0) := (blk_cell BK287.out 0).trans rfl
         have hcz66_1 : w44.cell? ⟨gb287,1,none⟩ = some (.int .i64 0) := (blk_cell BK287.out 1).trans rfl
         have hfz66_0 := blk_frozen BK287.out 0
         have hfz66_1 := blk_frozen BK287.out 1
         go_wp2
         go_meet
         case rel => exact ⟨_,(decide ((wrap64 (t260 - 100000)) > t281)),(by first | rfl | (simp;done) | (simp [*];done)),H',⟨by have := HK1.out;first | omega | exact Nat.le_refl _⟩,⟨by (with_reducible repeat (first | apply Kd.R_alloc | apply Kd.R_drewN | apply Kd.R_drew));exact Kd.R_mono (Kd.R_far (p := ⟨gb287,1,none⟩) (Kd.R_far (p := ⟨gb287,0,none⟩) (Kd.R_types HO_6.out BK287.out (by decide)) (fun _ hk => hk.2) (.int .i64 t284)) (fun _ hk => hk.2) (.int .i64 t285)) (fun _ hk => trivial)⟩,⟨by (with_reducible repeat (first | apply Kd.R_alloc | apply Kd.R_drewN | apply Kd.R_drew));exact Kd.R_mono (Kd.R_far (p := ⟨gb287,1,none⟩) (Kd.R_far (p := ⟨gb287,0,none⟩) (Kd.R_types HO_8.out BK287.out (by decide)) (fun _ hk => hk.2) (.int .i64 t284)) (fun _ hk => hk.2) (.int .i64 t285)) (fun _ hk => trivial)⟩,⟨by (with_reducible repeat (first | refine kN_ ?_ _ | refine kD_ ?_ | refine kA_ ?_ _));refine blk_far ?_ NB283_287.out _;(with_reducible repeat (first | refine kN_ ?_ _ | refine kD_ ?_ | refine kA_ ?_ _));refine blk_far ?_ NB283_287.out _;(with_reducible repeat (first | refine kN_ ?_ _ | refine kD_ ?_ | refine kA_ ?_ _));exact BK283.out⟩,⟨by (with_reducible repeat (first | refine kN_ ?_ _ | refine kD_ ?_ | refine kA_ ?_ _));refine blk_put (cs := #[.int .i64 t284,.int .i64 0]) ?_ 1 _ rfl;(with_reducible repeat (first | refine kN_ ?_ _ | refine kD_ ?_ | refine kA_ ?_ _));refine blk_put (cs := #[.int .i64 0,.int .i64 0]) ?_ 0 _ rfl;(with_reducible repeat (first | refine kN_ ?_ _ | refine kD_ ?_ | refine kA_ ?_ _));exact BK287.out⟩,⟨by repeat (first | (with_reducible first | exact HB.out | apply bA_ | apply bN_ | apply bD_ | refine bS_ ?_ (IsS65.ge HI255.out) | refine bS_ ?_ GE283.out | refine bS_ ?_ GE287.out) | exact HB.out)⟩⟩
      ·rw [if_neg c49] at H
       have c49b0 : (t286 == 0) = false := beq_eq_false_iff_ne.mpr c49
       have c49b1 : (t286 != 0) = true := bne_iff_ne.mpr c49
       have H' := aM_ H
       clear H
       go_wp2
       go_meet
       case rel => exact ⟨_,(true),(by first | rfl | (simp;done) | (simp [*];done)),H',⟨by have := HK1.out;first | omega | exact Nat.le_refl _⟩,⟨by (with_reducible repeat (first | apply Kd.R_alloc | apply Kd.R_drewN | apply Kd.R_drew));exact Kd.R_mono (Kd.R_far (p := ⟨gb287,1,none⟩) (Kd.R_far (p := ⟨gb287,0,none⟩) (Kd.R_types HO_6.out BK287.out (by decide)) (fun _ hk => hk.2) (.int .i64 t284)) (fun _ hk => hk.2) (.int .i64 t285)) (fun _ hk => trivial)⟩,⟨by (with_reducible repeat (first | apply Kd.R_alloc | apply Kd.R_drewN | apply Kd.R_drew));exact Kd.R_mono (Kd.R_far (p := ⟨gb287,1,none⟩) (Kd.R_far (p := ⟨gb287,0,none⟩) (Kd.R_types HO_8.out BK287.out (by decide)) (fun _ hk => hk.2) (.int .i64 t284)) (fun _ hk => hk.2) (.int .i64 t285)) (fun _ hk => trivial)⟩,⟨by (with_reducible repeat (first | refine kN_ ?_ _ | refine kD_ ?_ | refine kA_ ?_ _));refine blk_far ?_ NB283_287.out _;(with_reducible repeat (first | refine kN_ ?_ _ | refine kD_ ?_ | refine kA_ ?_ _));refine blk_far ?_ NB283_287.out _;(with_reducible repeat (first | refine kN_ ?_ _ | refine kD_ ?_ | refine kA_ ?_ _));exact BK283.out⟩,⟨by (with_reducible repeat (first | refine kN_ ?_ _ | refine kD_ ?_ | refine kA_ ?_ _));refine blk_put (cs := #[.int .i64 t284,.int .i64 0]) ?_ 1 _ rfl;(with_reducible repeat (first | refine kN_ ?_ _ | refine kD_ ?_ | refine kA_ ?_ _));refine blk_put (cs := #[.int .i64 0,.int .i64 0]) ?_ 0 _ rfl;(with_reducible repeat (first | refine kN_ ?_ _ | refine kD_ ?_ | refine kA_ ?_ _));exact BK287.out⟩,⟨by repeat (first | (with_reducible first | exact HB.out | apply bA_ | apply bN_ | apply bD_ | refine bS_ ?_ (IsS65.ge HI255.out) | refine bS_ ?_ GE283.out | refine bS_ ?_ GE287.out) | exact HB.out)⟩⟩
     ·rw [if_neg c48] at H
      have c48b0 : (t282 == 0) = false := beq_eq_false_iff_ne.mpr c48
      have c48b1 : (t282 != 0) = true := bne_iff_ne.mpr c48
      (first | rw [c48b0] | (simp only [i64_w,i32_w];rw [c48b0]) | skip)
      have H' := aM_ H
      clear H
      go_wp2
      go_meet
      case rel => exact ⟨_,(true),(by first | rfl | (simp;done) | (simp [*];done)),H',⟨by have := HK1.out;first | omega | exact Nat.le_refl _⟩,⟨by (with_reducible repeat (first | apply Kd.R_alloc | apply Kd.R_drewN | apply Kd.R_drew));exact Kd.R_mono (Kd.R_far (p := ⟨gb287,1,none⟩) (Kd.R_far (p := ⟨gb287,0,none⟩) (Kd.R_types HO_6.out BK287.out (by decide)) (fun _ hk => hk.2) (.int .i64 t284)) (fun _ hk => hk.2) (.int .i64 t285)) (fun _ hk => trivial)⟩,⟨by (with_reducible repeat (first | apply Kd.R_alloc | apply Kd.R_drewN | apply Kd.R_drew));exact Kd.R_mono (Kd.R_far (p := ⟨gb287,1,none⟩) (Kd.R_far (p := ⟨gb287,0,none⟩) (Kd.R_types HO_8.out BK287.out (by decide)) (fun _ hk => hk.2) (.int .i64 t284)) (fun _ hk => hk.2) (.int .i64 t285)) (fun _ hk => trivial)⟩,⟨by (with_reducible repeat (first | refine kN_ ?_ _ | refine kD_ ?_ | refine kA_ ?_ _));refine blk_far ?_ NB283_287.out _;(with_reducible repeat (first | refine kN_ ?_ _ | refine kD_ ?_ | refine kA_ ?_ _));refine blk_far ?_ NB283_287.out _;(with_reducible repeat (first | refine kN_ ?_ _ | refine kD_ ?_ | refine kA_ ?_ _));exact BK283.out⟩,⟨by (with_reducible repeat (first | refine kN_ ?_ _ | refine kD_ ?_ | refine kA_ ?_ _));refine blk_put (cs := #[.int .i64 t284,.int .i64 0]) ?_ 1 _ rfl;(with_reducible repeat (first | refine kN_ ?_ _ | refine kD_ ?_ | refine kA_ ?_ _));refine blk_put (cs := #[.int .i64 0,.int .i64 0]) ?_ 0 _ rfl;(with_reducible repeat (first | refine kN_ ?_ _ | refine kD_ ?_ | refine kA_ ?_ _));exact BK287.out⟩,⟨by repeat (first | (with_reducible first | exact HB.out | apply bA_ | apply bN_ | apply bD_ | refine bS_ ?_ (IsS65.ge HI255.out) | refine bS_ ?_ GE283.out | refine bS_ ?_ GE287.out) | exact HB.out)⟩⟩
    case rest =>
     clear HC35
     try clear c1
     try clear c2
     try clear p2
     try clear c4
     try clear c5
     try clear c6
     try clear p6
     try clear c10
     try clear c10b0
     try clear c13
     try clear c14
     try clear c15
     try clear c40
     try clear c45
     try clear c46
     try clear c48
     try clear c48b0
     try clear c48b1
     try clear c49
     try clear c49b0
     try clear c49b1
     try clear c50
     try clear c50b0
     try clear c51
     try clear c52
     try clear c54
     try clear c56
     try clear c56b0
     try clear c57
     try clear c58
     try clear c60
     try clear c62
     try clear c63
     try clear p64
     try clear c65
     try clear hcz41_0
     try clear hcz41_1
     try clear hcz47_0
     try clear hcz47_1
     try clear hcz53_0
     try clear hcz53_1
     try clear hcz55_0
     try clear hcz55_1
     try clear hcz59_0
     try clear hcz59_1
     try clear hcz61_0
     try clear hcz61_1
     try clear hcz64_0
     try clear hcz64_1
     try clear hcz66_0
     try clear hcz66_1
     try clear hfz41_0
     try clear hfz41_1
     try clear hfz47_0
     try clear hfz47_1
     try clear hfz53_0
     try clear hfz53_1
     try clear hfz55_0
     try clear hfz55_1
     try clear hfz59_0
     try clear hfz59_1
     try clear hfz61_0
     try clear hfz61_1
     try clear hfz64_0
     try clear hfz64_1
     try clear hfz66_0
     try clear hfz66_1
     obtain ⟨kq,x86_34,rfl,HA,HJ34,HO_6,HO_8,BK283,BK287,HB⟩ := hcut
     cases kq with
     | zero => exact absurd HA.out (by simp [L_GaugeAgrees.j1])
     | succ kj34 =>
      have H := HA.out
      clear HA
      simp only [L_GaugeAgrees.j1] at H
      by_cases c67 : x86_34 = true
      ·subst c67
       have H1 : (some false) = some r := by rw [if_pos rfl] at H;exact H
       clear H
       have H := H1
       clear H1
       obtain rfl := Option.some.inj H
       go_wp2
       go_ret
       exact ⟨by first | rfl | (simp [*] <;> rfl),by repeat (first | (with_reducible first | exact HB.out | apply bA_ | apply bN_ | apply bD_ | refine bS_ ?_ GE283.out | refine bS_ ?_ GE287.out) | exact HB.out)⟩
      ·replace c67 := Bool.eq_false_iff.mpr c67
       subst c67
       have H1 : (L_GaugeAgrees.l1 kj34 t256 x8_1 0 t280 t281) = some r := by rw [if_neg (show ¬ (false = true) by decide)] at H;exact H
       clear H
       have H := H1
       clear H1
       have H' := aM_ H
       clear H
       go_wp2
       go_loopg [17] kj34 (fun kq v17 w' => ∃ (x17_3 : Int),v17 = .int .i64 x17_3 ∧ Aside0 (L_GaugeAgrees.l1 kq t256 x8_1 x17_3 t280 t281 = some r) ∧ Aside0 (kq ≤ kj34) ∧ Aside0 (Kd.R k49 49 w' w.heap.size (fun _ => True) (.slice Ao36 t256.length co36) t256) ∧ Aside0 (Kd.R k32 32 w' w.heap.size (fun _ => True) (.slice Ao37 x8_1.length co37) x8_1) ∧ Aside0 (w'.heap[gb283]? = some (.cells #[.int .i64 t280,.int .i64 t281] 34 (0,0))) ∧ Aside0 (w'.heap[gb287]? = some (.cells #[.int .i64 t284,.int .i64 t285] 34 (0,0))) ∧ Aside0 (Below w.heap.size w w'))
       case atStart => exact ⟨(0),(by first | rfl | (simp;done) | (simp [*];done)),H',⟨Nat.le_refl _⟩,⟨by (with_reducible repeat (first | apply Kd.R_alloc | apply Kd.R_drewN | apply Kd.R_drew));exact HO_6.out⟩,⟨by (with_reducible repeat (first | apply Kd.R_alloc | apply Kd.R_drewN | apply Kd.R_drew));exact HO_8.out⟩,⟨by (with_reducible repeat (first | refine kN_ ?_ _ | refine kD_ ?_ | refine kA_ ?_ _));exact BK283.out⟩,⟨by (with_reducible repeat (first | refine kN_ ?_ _ | refine kD_ ?_ | refine kA_ ?_ _));exact BK287.out⟩,⟨by repeat (first | (with_reducible first | exact HB.out | apply bA_ | apply bN_ | apply bD_ | refine bS_ ?_ GE283.out | refine bS_ ?_ GE287.out) | exact HB.out)⟩⟩
       case round =>
        clear H'
        try clear c1
        try clear c2
        try clear p2
        try clear c4
        try clear c5
        try clear c6
        try clear p6
        try clear c10
        try clear c10b0
        try clear c13
        try clear c14
        try clear c15
        try clear c40
        try clear c45
        try clear c46
        try clear c48
        try clear c48b0
        try clear c48b1
        try clear c49
        try clear c49b0
        try clear c49b1
        try clear c50
        try clear c50b0
        try clear c51
        try clear c52
        try clear c54
        try clear c56
        try clear c56b0
        try clear c57
        try clear c58
        try clear c60
        try clear c62
        try clear c63
        try clear p64
        try clear c65
        try clear c67
        try clear hcz41_0
        try clear hcz41_1
        try clear hcz47_0
        try clear hcz47_1
        try clear hcz53_0
        try clear hcz53_1
        try clear hcz55_0
        try clear hcz55_1
        try clear hcz59_0
        try clear hcz59_1
        try clear hcz61_0
        try clear hcz61_1
        try clear hcz64_0
        try clear hcz64_1
        try clear hcz66_0
        try clear hcz66_1
        try clear hfz41_0
        try clear hfz41_1
        try clear hfz47_0
        try clear hfz47_1
        try clear hfz53_0
        try clear hfz53_1
        try clear hfz55_0
        try clear hfz55_1
        try clear hfz59_0
        try clear hfz59_1
        try clear hfz61_0
        try clear hfz61_1
        try clear hfz64_0
        try clear hfz64_1
        try clear hfz66_0
        try clear hfz66_1
        try clear p2
        try clear p6
        try clear p64
        obtain ⟨x17_3,rfl,HA,HK3,HO_6,HO_8,BK283,BK287,HB⟩ := hrel
        cases gk with
        | zero => exact absurd HA.out (by simp [L_GaugeAgrees.l1])
        | succ k3 =>
         have H := HA.out
         clear HA
         simp only [L_GaugeAgrees.l1] at H
         by_cases c68 : x17_3 < (x8_1.length : Int)
         ·rw [if_pos c68] at H
          have c68b0 : decide (x17_3 < (x8_1.length : Int)) = true := decide_eq_true c68
          clear c68
          by_cases c69 : 0 ≤ x17_3
          ·rw [if_pos c69] at H
           have c69b0 : decide (0 ≤ x17_3) = true := decide_eq_true c69
           clear c69
           replace H := oB_ H
           obtain ⟨⟨t291,t292,t293⟩,A700,H⟩ := H
           replace H : (if t293 = 0 then ((K_Within.f t280 t281 t291 t292).bind fun t295 => (if t295 = true then (L_GaugeAgrees.l1 k3 t256 x8_1 (wrap64 (x17_3 + 1)) t280 t281) else (some false))) else (some false)) = some r := H
           have A70 := aM_ A700
           clear A700
           by_cases c71 : t293 = 0
           ·rw [if_pos c71] at H
            have c71b0 : (t293 == 0) = true := beq_iff_eq.mpr c71
            have c71b1 : (t293 != 0) = false := bne_eq_false_iff_eq.mpr c71
            clear c71
            replace H := oB_ H
            obtain ⟨t295,A720,H⟩ := H
            replace H : (if t295 = true then (L_GaugeAgrees.l1 k3 t256 x8_1 (wrap64 (x17_3 + 1)) t280 t281) else (some false)) = some r := H
            have A72 := aM_ A720
            clear A720
            by_cases c73 : t295 = true
            ·subst c73
             have H1 : (L_GaugeAgrees.l1 k3 t256 x8_1 (wrap64 (x17_3 + 1)) t280 t281) = some r := by rw [if_pos rfl] at H;exact H
             clear H
             have H := H1
             clear H1
             have H' := aM_ H
             clear H
             try go_wp2
             have n0_ := aM_ (Kd.R_drew HO_6.out)
             have n1_ := aM_ (Kd.R_drew HO_8.out)
             have n2_ := aM_ (kD_ BK283.out)
             have n3_ := aM_ (kD_ BK287.out)
             have n4_ := aM_ (bD_ HB.out)
             clear HO_6
             clear HO_8
             clear BK283
             clear BK287
             clear HB
             have HO_6 := n0_
             have HO_8 := n1_
             have BK283 := n2_
             have BK287 := n3_
             have HB := n4_
             clear n0_ n1_ n2_ n3_ n4_
             have p289 : 0 ≤ (x17_3 : Int) := of_decide_eq_true (by first | (with_reducible assumption) | assumption)
             have q289 : x17_3 < (x8_1.length : Int) := of_decide_eq_true (by first | (with_reducible assumption) | assumption)
             obtain ⟨ad289,e289,hx289_0,hx289_1⟩ := at_T32 (Kd.R_reads' HO_8.out).2.2 x17_3 p289 q289
             cases e289
             replace p289 := eq_true p289
             replace q289 := eq_true q289
             have p290 : 0 ≤ (x17_3 : Int) := of_decide_eq_true (by first | (with_reducible assumption) | assumption)
             have q290 : x17_3 < (x8_1.length : Int) := of_decide_eq_true (by first | (with_reducible assumption) | assumption)
             obtain ⟨ad290,e290,hx290_0,hx290_1⟩ := at_T32 (Kd.R_reads' HO_8.out).2.2 x17_3 p290 q290
             obtain rfl : ad289 = ad290 := (by injection e290)
             replace p290 := eq_true p290
             replace q290 := eq_true q290
             refine start_ (n := 18) (S := fun w' => w'.cell? (ad289.add ((x17_3).toNat * 2)) = some (.int .i64 ((rd_T32 x8_1 x17_3).f0)) ∧ w'.cell? ⟨(ad289.add ((x17_3).toNat * 2)).block,(ad289.add ((x17_3).toNat * 2)).off + 1,none⟩ = some (.int .i64 ((rd_T32 x8_1 x17_3).f1)) ∧ w'.cell? (ad289.add ((x17_3).toNat * 2)) = some (.int .i64 ((rd_T32 x8_1 x17_3).f0)) ∧ w'.cell? ⟨(ad289.add ((x17_3).toNat * 2)).block,(ad289.add ((x17_3).toNat * 2)).off + 1,none⟩ = some (.int .i64 ((rd_T32 x8_1 x17_3).f1))) (ds := []) #[false,false,false,false,false,false,false,false,false,false,false,false,false,false,false,false,false,false] (by kernel_rfl) rfl rfl ⟨hx289_0,hx289_1,hx290_0,hx290_1⟩ (fun hHeld => ?_);refine with_tabW L_GaugeAgrees.tab18 L_GaugeAgrees.bits18 (fun HT_ HW_ => ?_)
             generalize wr.drew = w74 at HO_6 HO_8 BK283 BK287 HB hx289_0 hx289_1 hx290_0 hx290_1 hHeld ⊢
             refine pure_ (i := 0) (N := some 94) (v := ?_) (a' := ?_) #[true,false,false,false,false,false,false,false,false,false,false,false,false,false,false,false,false,false] rfl rfl (any_of HT_.out (by kernel_rfl)) (fun _ _ _ h => h) (Or.inl ⟨by rfl,?_⟩) ?_ ?_
             rotate_left
             ·intro w'
              go_simp
              with_reducible rfl
             rotate_left
             ·simp only [Act.put,sB_,sZ_,sS_,i64_w,i32_w]
              rfl
             refine pure_ (i := 1) (N := some 95) (v := ?_) (a' := ?_) #[true,true,false,false,false,false,false,false,false,false,false,false,false,false,false,false,false,false] rfl rfl (any_of HT_.out (by kernel_rfl)) (fun _ _ _ h => h) (Or.inl ⟨by rfl,?_⟩) ?_ ?_
             rotate_left
             ·intro w'
              go_simp
              with_reducible rfl
             rotate_left
             ·simp only [Act.put,sB_,sZ_,sS_,i64_w,i32_w]
              rfl
             refine pure_ (i := 2) (N := some 96) (v := ?_) (a' := ?_) #[true,true,true,false,false,false,false,false,false,false,false,false,false,false,false,false,false,false] rfl rfl (any_of HT_.out (by kernel_rfl)) (fun _ _ _ h => h) (Or.inl ⟨by rfl,?_⟩) ?_ ?_
             rotate_left
             ·intro w'
              go_simp
              with_reducible rfl
             rotate_left
             ·simp only [Act.put,sB_,sZ_,sS_,i64_w,i32_w]
              rfl
             refine pure_ (i := 3) (N := some 97) (v := ?_) (a' := ?_) #[true,true,true,true,false,false,false,false,false,false,false,false,false,false,false,false,false,false] rfl rfl (any_of HT_.out (by kernel_rfl)) (fun _ _ _ h => h) (Or.inl ⟨by rfl,?_⟩) ?_ ?_
             rotate_left
             ·intro w'
              go_simp
              with_reducible rfl
             rotate_left
             ·simp only [Act.put,sB_,sZ_,sS_,i64_w,i32_w]
              rfl
             refine pure_ (i := 4) (N := some 98) (v := ?_) (a' := ?_) #[true,true,true,true,true,false,false,false,false,false,false,false,false,false,false,false,false,false] rfl rfl (any_of HT_.out (by kernel_rfl)) (fun _ _ _ h => h) (Or.inl ⟨by rfl,?_⟩) ?_ ?_
             rotate_left
             ·intro w'
              go_simp
              with_reducible rfl
             rotate_left
             ·simp only [Act.put,sB_,sZ_,sS_,i64_w,i32_w]
              rfl
             refine pure_ (i := 6) (N := some 100) (v := ?_) (a' := ?_) #[true,true,true,true,true,false,true,false,false,false,false,false,false,false,false,false,false,false] rfl rfl (any_of HT_.out (by kernel_rfl)) (fun _ _ _ h => h) (Or.inl ⟨by rfl,?_⟩) ?_ ?_
             rotate_left
             ·intro w'
              go_simp
              with_reducible rfl
             rotate_left
             ·simp only [Act.put,sB_,sZ_,sS_,i64_w,i32_w]
              rfl
             refine pure_ (i := 7) (N := some 101) (v := ?_) (a' := ?_) #[true,true,true,true,true,false,true,true,false,false,false,false,false,false,false,false,false,false] rfl rfl (any_of HT_.out (by kernel_rfl)) (fun _ _ _ h => h) (Or.inl ⟨by rfl,?_⟩) ?_ ?_
             rotate_left
             ·intro w'
              go_simp
              with_reducible rfl
             rotate_left
             ·simp only [Act.put,sB_,sZ_,sS_,i64_w,i32_w]
              rfl
             refine pure_ (i := 8) (N := some 102) (v := ?_) (a' := ?_) #[true,true,true,true,true,false,true,true,true,false,false,false,false,false,false,false,false,false] rfl rfl (any_of HT_.out (by kernel_rfl)) (fun _ _ _ h => h) (Or.inl ⟨by rfl,?_⟩) ?_ ?_
             rotate_left
             ·intro w'
              go_simp
              with_reducible rfl
             rotate_left
             ·simp only [Act.put,sB_,sZ_,sS_,i64_w,i32_w]
              rfl
             refine pure_ (i := 9) (N := some 103) (v := ?_) (a' := ?_) #[true,true,true,true,true,false,true,true,true,true,false,false,false,false,false,false,false,false] rfl rfl (any_of HT_.out (by kernel_rfl)) (fun _ _ _ h => h) (Or.inl ⟨by rfl,?_⟩) ?_ ?_
             rotate_left
             ·intro w'
              go_simp
              with_reducible rfl
             rotate_left
             ·simp only [Act.put,sB_,sZ_,sS_,i64_w,i32_w]
              rfl
             refine take_ (i := 5) (N := some 99) (v := ?_) (a' := ?_) #[true,true,true,true,true,true,true,true,true,true,false,false,false,false,false,false,false,false] rfl rfl (take_ofW HT_.out HW_.out (by kernel_rfl)) (fun _ _ _ h => h) (Or.inl ⟨by rfl,?_⟩) hHeld ?_ ?_
             rotate_left
             ·rintro w' ⟨s0,s1,s2,s3⟩
              go_simp
              with_reducible rfl
             rotate_left
             ·simp only [Act.put,sB_,sZ_,sS_,i64_w,i32_w]
              rfl
             refine take_ (i := 10) (N := some 104) (v := ?_) (a' := ?_) #[true,true,true,true,true,true,true,true,true,true,true,false,false,false,false,false,false,false] rfl rfl (take_ofW HT_.out HW_.out (by kernel_rfl)) (fun _ _ _ h => h) (Or.inl ⟨by rfl,?_⟩) hHeld ?_ ?_
             rotate_left
             ·rintro w' ⟨s0,s1,s2,s3⟩
              go_simp
              with_reducible rfl
             rotate_left
             ·simp only [Act.put,sB_,sZ_,sS_,i64_w,i32_w]
              rfl
             refine join_ (σ := Nat) 2 #[true,true,true,true,true,true,true,true,true,true,true,true,true,true,true,true,false,false] (fun s_ => [(105,.tuple #[.agg #[.int .i64 t291,.int .i64 t292],.int .i64 t293]),(18,.pointer (some ⟨s_,0,none⟩)),(93,.tuple #[.agg #[.int .i64 t291,.int .i64 t292],.int .i64 t293]),(106,.agg #[.int .i64 t291,.int .i64 t292]),(107,.int .i64 t293)]) (fun s_ w' => (w'.cell? (ad289.add ((x17_3).toNat * 2)) = some (.int .i64 ((rd_T32 x8_1 x17_3).f0)) ∧ w'.cell? ⟨(ad289.add ((x17_3).toNat * 2)).block,(ad289.add ((x17_3).toNat * 2)).off + 1,none⟩ = some (.int .i64 ((rd_T32 x8_1 x17_3).f1)) ∧ w'.cell? (ad289.add ((x17_3).toNat * 2)) = some (.int .i64 ((rd_T32 x8_1 x17_3).f0)) ∧ w'.cell? ⟨(ad289.add ((x17_3).toNat * 2)).block,(ad289.add ((x17_3).toNat * 2)).off + 1,none⟩ = some (.int .i64 ((rd_T32 x8_1 x17_3).f1))) ∧ (Kd.R k49 49 w' w.heap.size (fun _ => True) (.slice Ao36 t256.length co36) t256) ∧ (Kd.R k32 32 w' w.heap.size (fun _ => True) (.slice (some ad289) x8_1.length co37) x8_1) ∧ (w'.heap[gb283]? = some (.cells #[.int .i64 t280,.int .i64 t281] 34 (0,0))) ∧ (w'.heap[gb287]? = some (.cells #[.int .i64 t284,.int .i64 t285] 34 (0,0))) ∧ (w'.heap[s_]? = some (.cells #[.int .i64 0,.int .i64 0] 34 (0,0))) ∧ (w.heap.size ≤ s_) ∧ (w.heap.size ≤ s_) ∧ (gb283 ≠ s_) ∧ (s_ ≠ gb283) ∧ (gb287 ≠ s_) ∧ (s_ ≠ gb287) ∧ (Below w.heap.size w w')) ?_ ?_
             rotate_left
             ·intro hCont
              refine two_ (i := 11) (j := 15) (Ni := some 105) (Nj := some 18) #[true,true,true,true,true,true,true,true,true,true,true,true,false,false,false,false,false,false] #[true,true,true,true,true,true,true,true,true,true,true,false,false,false,false,true,false,false] rfl rfl rfl rfl (two_of HT_.out (by kernel_rfl)) (by decide) (by decide) (fun K hK => ?_) (fun K hK => ?_)
              ·skip
               refine goes_ Try.func16 (by kernel_rfl) rfl #[.slice Ao36 t256.length co36,.int .i64 ((rd_T32 x8_1 x17_3).f0),.int .i64 ((rd_T32 x8_1 x17_3).f1)] (by rfl) rfl rfl (by (try simp only [List.map_toArray,List.map_cons,List.map_nil]);first | done | rfl) ?_
               with_reducible refine (gauge_True.calls _ _ t256 ((rd_T32 x8_1 x17_3).f0) ((rd_T32 x8_1 x17_3).f1) t291 t292 t293 _ ?side1 ?side2 A70.out).mono ?_
               (case side1 => repeat (first | exact (Kd.R_reads' HO_6.out).2.2 | (with_reducible refine Kd.C_alloc ?_ _) | (with_reducible refine Kd.C_drewN ?_ _) | (with_reducible refine Kd.C_drew ?_)))
               (case side2 => exact (Kd.R_reads' HO_6.out).2.1)
               rintro e w75 ⟨rfl,hb⟩
               have HS0_ := (hb.cell (World.block_lt_of_cell? _ _ (hHeld.1))).trans (hHeld.1)
               have HS1_ := (hb.cell (World.block_lt_of_cell? _ _ (hHeld.2.1))).trans (hHeld.2.1)
               have HS2_ := (hb.cell (World.block_lt_of_cell? _ _ (hHeld.2.2.1))).trans (hHeld.2.2.1)
               have HS3_ := (hb.cell (World.block_lt_of_cell? _ _ (hHeld.2.2.2))).trans (hHeld.2.2.2)
               refine ⟨_,rfl,?_⟩
               have n0_ := aM_ (Kd.R_below (by (with_reducible repeat (first | apply Kd.R_alloc | apply Kd.R_drewN | apply Kd.R_drew));exact HO_6.out) hb)
               have n1_ := aM_ (Kd.R_below (by (with_reducible repeat (first | apply Kd.R_alloc | apply Kd.R_drewN | apply Kd.R_drew));exact HO_8.out) hb)
               have n2_ := aM_ (kB_ (g := gb283) (o := .cells #[.int .i64 t280,.int .i64 t281] 34 (0,0)) (by (with_reducible repeat (first | refine kN_ ?_ _ | refine kD_ ?_ | refine kA_ ?_ _));exact BK283.out) hb)
               have n3_ := aM_ (kB_ (g := gb287) (o := .cells #[.int .i64 t284,.int .i64 t285] 34 (0,0)) (by (with_reducible repeat (first | refine kN_ ?_ _ | refine kD_ ?_ | refine kA_ ?_ _));exact BK287.out) hb)
               have n4_ := aM_ (bT_ (by repeat (first | (with_reducible first | exact HB.out | apply bA_ | apply bN_ | apply bD_ | refine bS_ ?_ GE283.out | refine bS_ ?_ GE287.out) | exact HB.out)) hb)
               clear HO_6
               clear HO_8
               clear BK283
               clear BK287
               clear HB
               have HO_6 := n0_
               have HO_8 := n1_
               have BK283 := n2_
               have BK287 := n3_
               have HB := n4_
               clear n0_ n1_ n2_ n3_ n4_
               (try clear hb)
               (try clear hb2)
               (try clear hk)
               (try clear hi)
               refine hK.out _ _ ⟨HS0_,HS1_,HS2_,HS3_⟩ (fun hHeld => ?_)
               clear hK K
               refine norm_ (a' := ?_) ?_ ?_
               rotate_left
               ·show Act.put _ (some 105) _ = _
                simp only [Act.put,sB_,sZ_,sS_,i64_w,i32_w]
                rfl
               refine pure_ (i := 12) (N := some 93) (v := ?_) (a' := ?_) #[true,true,true,true,true,true,true,true,true,true,true,true,true,false,false,false,false,false] rfl rfl (any_of HT_.out (by kernel_rfl)) (fun _ _ _ h => h) (Or.inl ⟨by rfl,?_⟩) ?_ ?_
               rotate_left
               ·intro w'
                go_simp
                with_reducible rfl
               rotate_left
               ·simp only [Act.put,sB_,sZ_,sS_,i64_w,i32_w]
                rfl
               refine pure_ (i := 13) (N := some 106) (v := ?_) (a' := ?_) #[true,true,true,true,true,true,true,true,true,true,true,true,true,true,false,false,false,false] rfl rfl (any_of HT_.out (by kernel_rfl)) (fun _ _ _ h => h) (Or.inl ⟨by rfl,?_⟩) ?_ ?_
               rotate_left
               ·intro w'
                go_simp
                with_reducible rfl
               rotate_left
               ·simp only [Act.put,sB_,sZ_,sS_,i64_w,i32_w]
                rfl
               refine pure_ (i := 14) (N := some 107) (v := ?_) (a' := ?_) #[true,true,true,true,true,true,true,true,true,true,true,true,true,true,true,false,false,false] rfl rfl (any_of HT_.out (by kernel_rfl)) (fun _ _ _ h => h) (Or.inl ⟨by rfl,?_⟩) ?_ ?_
               rotate_left
               ·intro w'
                go_simp
                with_reducible rfl
               rotate_left
               ·simp only [Act.put,sB_,sZ_,sS_,i64_w,i32_w]
                rfl
               refine one_ (i := 15) (N := some 18) #[true,true,true,true,true,true,true,true,true,true,true,true,true,true,true,true,false,false] rfl rfl (one_of HT_.out (by kernel_rfl)) (by decide) (fun K hK => ?_)
               refine box_step ?hg (N := 18) ?hd (cs := #[.int .i64 0,.int .i64 0]) (t := 34) ?hr ?_;(case hd => rfl);(case hg => rfl);(case hr => first | (go_simp;done) | (go_simp;rfl))
               intro gb294 hg w76 hbox hb
               have HS0_ := (hb.cell (World.block_lt_of_cell? _ _ (hHeld.1))).trans (hHeld.1)
               have HS1_ := (hb.cell (World.block_lt_of_cell? _ _ (hHeld.2.1))).trans (hHeld.2.1)
               have HS2_ := (hb.cell (World.block_lt_of_cell? _ _ (hHeld.2.2.1))).trans (hHeld.2.2.1)
               have HS3_ := (hb.cell (World.block_lt_of_cell? _ _ (hHeld.2.2.2))).trans (hHeld.2.2.2)
               have n0_ := aM_ (Kd.R_below (by (with_reducible repeat (first | apply Kd.R_alloc | apply Kd.R_drewN | apply Kd.R_drew));exact HO_6.out) hb)
               have n1_ := aM_ (Kd.R_below (by (with_reducible repeat (first | apply Kd.R_alloc | apply Kd.R_drewN | apply Kd.R_drew));exact HO_8.out) hb)
               have n2_ := aM_ (kB_ (g := gb283) (o := .cells #[.int .i64 t280,.int .i64 t281] 34 (0,0)) (by (with_reducible repeat (first | refine kN_ ?_ _ | refine kD_ ?_ | refine kA_ ?_ _));exact BK283.out) hb)
               have n3_ := aM_ (kB_ (g := gb287) (o := .cells #[.int .i64 t284,.int .i64 t285] 34 (0,0)) (by (with_reducible repeat (first | refine kN_ ?_ _ | refine kD_ ?_ | refine kA_ ?_ _));exact BK287.out) hb)
               have n4_ := aM_ (bT_ (by repeat (first | (with_reducible first | exact HB.out | apply bA_ | apply bN_ | apply bD_ | refine bS_ ?_ GE283.out | refine bS_ ?_ GE287.out) | exact HB.out)) hb)
               have n5_ := aM_ (hbox)
               have n6_ := aM_ ((by rw [hg];exact (below_size (by repeat (first | (with_reducible first | exact HB.out | apply bA_ | apply bN_ | apply bD_ | refine bS_ ?_ GE283.out | refine bS_ ?_ GE287.out) | exact HB.out))) : w.heap.size ≤ gb294))
               have n7_ := aM_ ((by rw [hg];exact (below_size (by repeat (first | (with_reducible first | exact HB.out | apply bA_ | apply bN_ | apply bD_ | refine bS_ ?_ GE283.out | refine bS_ ?_ GE287.out) | exact HB.out))) : w.heap.size ≤ gb294))
               have n8_ := aM_ ((by rw [hg];exact Nat.ne_of_lt (blk_lt (g := gb283) (o := .cells #[.int .i64 t280,.int .i64 t281] 34 (0,0)) (by (with_reducible repeat (first | refine kN_ ?_ _ | refine kD_ ?_ | refine kA_ ?_ _));exact BK283.out)) : gb283 ≠ gb294))
               have n9_ := aM_ ((by rw [hg];exact Nat.ne_of_gt (blk_lt (g := gb283) (o := .cells #[.int .i64 t280,.int .i64 t281] 34 (0,0)) (by (with_reducible repeat (first | refine kN_ ?_ _ | refine kD_ ?_ | refine kA_ ?_ _));exact BK283.out)) : gb294 ≠ gb283))
               have n10_ := aM_ ((by rw [hg];exact Nat.ne_of_lt (blk_lt (g := gb287) (o := .cells #[.int .i64 t284,.int .i64 t285] 34 (0,0)) (by (with_reducible repeat (first | refine kN_ ?_ _ | refine kD_ ?_ | refine kA_ ?_ _));exact BK287.out)) : gb287 ≠ gb294))
               have n11_ := aM_ ((by rw [hg];exact Nat.ne_of_gt (blk_lt (g := gb287) (o := .cells #[.int .i64 t284,.int .i64 t285] 34 (0,0)) (by (with_reducible repeat (first | refine kN_ ?_ _ | refine kD_ ?_ | refine kA_ ?_ _));exact BK287.out)) : gb294 ≠ gb287))
               clear HO_6
               clear HO_8
               clear BK283
               clear BK287
               clear HB
               have HO_6 := n0_
               have HO_8 := n1_
               have BK283 := n2_
               have BK287 := n3_
               have HB := n4_
               have BK294 := n5_
               have GW294 := n6_
               have GE294 := n7_
               have NB283_294 := n8_
               have NB294_283 := n9_
               have NB287_294 := n10_
               have NB294_287 := n11_
               clear n0_ n1_ n2_ n3_ n4_ n5_ n6_ n7_ n8_ n9_ n10_ n11_
               clear hb hbox hg
               refine hK.out _ _ ⟨HS0_,HS1_,HS2_,HS3_⟩ (fun hHeld => ?_)
               clear hK K
               refine norm_ (a' := ?_) ?_ ?_
               rotate_left
               ·show Act.put _ (some 18) _ = _
                simp only [Act.put,sB_,sZ_,sS_,i64_w,i32_w]
                rfl
               exact norm_ (by simp only [putAll,Act.put,sB_,sZ_,sS_]) (hCont (gb294) _ ⟨hHeld,(by (with_reducible repeat (first | apply Kd.R_alloc | apply Kd.R_drewN | apply Kd.R_drew));exact HO_6.out),(by (with_reducible repeat (first | apply Kd.R_alloc | apply Kd.R_drewN | apply Kd.R_drew));exact HO_8.out),(by (with_reducible repeat (first | refine kN_ ?_ _ | refine kD_ ?_ | refine kA_ ?_ _));exact BK283.out),(by (with_reducible repeat (first | refine kN_ ?_ _ | refine kD_ ?_ | refine kA_ ?_ _));exact BK287.out),(by (with_reducible repeat (first | refine kN_ ?_ _ | refine kD_ ?_ | refine kA_ ?_ _));exact BK294.out),GW294.out,GE294.out,NB283_294.out,NB294_283.out,NB287_294.out,NB294_287.out,(by repeat (first | (with_reducible first | exact HB.out | apply bA_ | apply bN_ | apply bD_ | refine bS_ ?_ GE283.out | refine bS_ ?_ GE287.out | refine bS_ ?_ GE294.out) | exact HB.out))⟩)
              ·skip
               refine box_step ?hg (N := 18) ?hd (cs := #[.int .i64 0,.int .i64 0]) (t := 34) ?hr ?_;(case hd => rfl);(case hg => rfl);(case hr => first | (go_simp;done) | (go_simp;rfl))
               intro gb294 hg w75 hbox hb
               have HS0_ := (hb.cell (World.block_lt_of_cell? _ _ (hHeld.1))).trans (hHeld.1)
               have HS1_ := (hb.cell (World.block_lt_of_cell? _ _ (hHeld.2.1))).trans (hHeld.2.1)
               have HS2_ := (hb.cell (World.block_lt_of_cell? _ _ (hHeld.2.2.1))).trans (hHeld.2.2.1)
               have HS3_ := (hb.cell (World.block_lt_of_cell? _ _ (hHeld.2.2.2))).trans (hHeld.2.2.2)
               have n0_ := aM_ (Kd.R_below (by (with_reducible repeat (first | apply Kd.R_alloc | apply Kd.R_drewN | apply Kd.R_drew));exact HO_6.out) hb)
               have n1_ := aM_ (Kd.R_below (by (with_reducible repeat (first | apply Kd.R_alloc | apply Kd.R_drewN | apply Kd.R_drew));exact HO_8.out) hb)
               have n2_ := aM_ (kB_ (g := gb283) (o := .cells #[.int .i64 t280,.int .i64 t281] 34 (0,0)) (by (with_reducible repeat (first | refine kN_ ?_ _ | refine kD_ ?_ | refine kA_ ?_ _));exact BK283.out) hb)
               have n3_ := aM_ (kB_ (g := gb287) (o := .cells #[.int .i64 t284,.int .i64 t285] 34 (0,0)) (by (with_reducible repeat (first | refine kN_ ?_ _ | refine kD_ ?_ | refine kA_ ?_ _));exact BK287.out) hb)
               have n4_ := aM_ (bT_ (by repeat (first | (with_reducible first | exact HB.out | apply bA_ | apply bN_ | apply bD_ | refine bS_ ?_ GE283.out | refine bS_ ?_ GE287.out) | exact HB.out)) hb)
               have n5_ := aM_ (hbox)
               have n6_ := aM_ ((by rw [hg];exact (below_size (by repeat (first | (with_reducible first | exact HB.out | apply bA_ | apply bN_ | apply bD_ | refine bS_ ?_ GE283.out | refine bS_ ?_ GE287.out) | exact HB.out))) : w.heap.size ≤ gb294))
               have n7_ := aM_ ((by rw [hg];exact (below_size (by repeat (first | (with_reducible first | exact HB.out | apply bA_ | apply bN_ | apply bD_ | refine bS_ ?_ GE283.out | refine bS_ ?_ GE287.out) | exact HB.out))) : w.heap.size ≤ gb294))
               have n8_ := aM_ ((by rw [hg];exact Nat.ne_of_lt (blk_lt (g := gb283) (o := .cells #[.int .i64 t280,.int .i64 t281] 34 (0,0)) (by (with_reducible repeat (first | refine kN_ ?_ _ | refine kD_ ?_ | refine kA_ ?_ _));exact BK283.out)) : gb283 ≠ gb294))
               have n9_ := aM_ ((by rw [hg];exact Nat.ne_of_gt (blk_lt (g := gb283) (o := .cells #[.int .i64 t280,.int .i64 t281] 34 (0,0)) (by (with_reducible repeat (first | refine kN_ ?_ _ | refine kD_ ?_ | refine kA_ ?_ _));exact BK283.out)) : gb294 ≠ gb283))
               have n10_ := aM_ ((by rw [hg];exact Nat.ne_of_lt (blk_lt (g := gb287) (o := .cells #[.int .i64 t284,.int .i64 t285] 34 (0,0)) (by (with_reducible repeat (first | refine kN_ ?_ _ | refine kD_ ?_ | refine kA_ ?_ _));exact BK287.out)) : gb287 ≠ gb294))
               have n11_ := aM_ ((by rw [hg];exact Nat.ne_of_gt (blk_lt (g := gb287) (o := .cells #[.int .i64 t284,.int .i64 t285] 34 (0,0)) (by (with_reducible repeat (first | refine kN_ ?_ _ | refine kD_ ?_ | refine kA_ ?_ _));exact BK287.out)) : gb294 ≠ gb287))
               clear HO_6
               clear HO_8
               clear BK283
               clear BK287
               clear HB
               have HO_6 := n0_
               have HO_8 := n1_
               have BK283 := n2_
               have BK287 := n3_
               have HB := n4_
               have BK294 := n5_
               have GW294 := n6_
               have GE294 := n7_
               have NB283_294 := n8_
               have NB294_283 := n9_
               have NB287_294 := n10_
               have NB294_287 := n11_
               clear n0_ n1_ n2_ n3_ n4_ n5_ n6_ n7_ n8_ n9_ n10_ n11_
               clear hb hbox hg
               refine hK.out _ _ ⟨HS0_,HS1_,HS2_,HS3_⟩ (fun hHeld => ?_)
               clear hK K
               refine norm_ (a' := ?_) ?_ ?_
               rotate_left
               ·show Act.put _ (some 18) _ = _
                simp only [Act.put,sB_,sZ_,sS_,i64_w,i32_w]
                rfl
               refine one_ (i := 11) (N := some 105) #[true,true,true,true,true,true,true,true,true,true,true,true,false,false,false,true,false,false] rfl rfl (one_of HT_.out (by kernel_rfl)) (by decide) (fun K hK => ?_)
               refine goes_ Try.func16 (by kernel_rfl) rfl #[.slice Ao36 t256.length co36,.int .i64 ((rd_T32 x8_1 x17_3).f0),.int .i64 ((rd_T32 x8_1 x17_3).f1)] (by rfl) rfl rfl (by (try simp only [List.map_toArray,List.map_cons,List.map_nil]);first | done | rfl) ?_
               with_reducible refine (gauge_True.calls _ _ t256 ((rd_T32 x8_1 x17_3).f0) ((rd_T32 x8_1 x17_3).f1) t291 t292 t293 _ ?side1 ?side2 A70.out).mono ?_
               (case side1 => repeat (first | exact (Kd.R_reads' HO_6.out).2.2 | (with_reducible refine Kd.C_alloc ?_ _) | (with_reducible refine Kd.C_drewN ?_ _) | (with_reducible refine Kd.C_drew ?_)))
               (case side2 => exact (Kd.R_reads' HO_6.out).2.1)
               rintro e w76 ⟨rfl,hb⟩
               have HS0_ := (hb.cell (World.block_lt_of_cell? _ _ (hHeld.1))).trans (hHeld.1)
               have HS1_ := (hb.cell (World.block_lt_of_cell? _ _ (hHeld.2.1))).trans (hHeld.2.1)
               have HS2_ := (hb.cell (World.block_lt_of_cell? _ _ (hHeld.2.2.1))).trans (hHeld.2.2.1)
               have HS3_ := (hb.cell (World.block_lt_of_cell? _ _ (hHeld.2.2.2))).trans (hHeld.2.2.2)
               refine ⟨_,rfl,?_⟩
               have n0_ := aM_ (Kd.R_below (by (with_reducible repeat (first | apply Kd.R_alloc | apply Kd.R_drewN | apply Kd.R_drew));exact HO_6.out) hb)
               have n1_ := aM_ (Kd.R_below (by (with_reducible repeat (first | apply Kd.R_alloc | apply Kd.R_drewN | apply Kd.R_drew));exact HO_8.out) hb)
               have n2_ := aM_ (kB_ (g := gb283) (o := .cells #[.int .i64 t280,.int .i64 t281] 34 (0,0)) (by (with_reducible repeat (first | refine kN_ ?_ _ | refine kD_ ?_ | refine kA_ ?_ _));exact BK283.out) hb)
               have n3_ := aM_ (kB_ (g := gb287) (o := .cells #[.int .i64 t284,.int .i64 t285] 34 (0,0)) (by (with_reducible repeat (first | refine kN_ ?_ _ | refine kD_ ?_ | refine kA_ ?_ _));exact BK287.out) hb)
               have n4_ := aM_ (kB_ (g := gb294) (o := .cells #[.int .i64 0,.int .i64 0] 34 (0,0)) (by (with_reducible repeat (first | refine kN_ ?_ _ | refine kD_ ?_ | refine kA_ ?_ _));exact BK294.out) hb)
               have n5_ := aM_ (bT_ (by repeat (first | (with_reducible first | exact HB.out | apply bA_ | apply bN_ | apply bD_ | refine bS_ ?_ GE283.out | refine bS_ ?_ GE287.out | refine bS_ ?_ GE294.out) | exact HB.out)) hb)
               clear HO_6
               clear HO_8
               clear BK283
               clear BK287
               clear BK294
               clear HB
               have HO_6 := n0_
               have HO_8 := n1_
               have BK283 := n2_
               have BK287 := n3_
               have BK294 := n4_
               have HB := n5_
               clear n0_ n1_ n2_ n3_ n4_ n5_
               (try clear hb)
               (try clear hb2)
               (try clear hk)
               (try clear hi)
               refine hK.out _ _ ⟨HS0_,HS1_,HS2_,HS3_⟩ (fun hHeld => ?_)
               clear hK K
               refine norm_ (a' := ?_) ?_ ?_
               rotate_left
               ·show Act.put _ (some 105) _ = _
                simp only [Act.put,sB_,sZ_,sS_,i64_w,i32_w]
                rfl
               refine pure_ (i := 12) (N := some 93) (v := ?_) (a' := ?_) #[true,true,true,true,true,true,true,true,true,true,true,true,true,false,false,true,false,false] rfl rfl (any_of HT_.out (by kernel_rfl)) (fun _ _ _ h => h) (Or.inl ⟨by rfl,?_⟩) ?_ ?_
               rotate_left
               ·intro w'
                go_simp
                with_reducible rfl
               rotate_left
               ·simp only [Act.put,sB_,sZ_,sS_,i64_w,i32_w]
                rfl
               refine pure_ (i := 13) (N := some 106) (v := ?_) (a' := ?_) #[true,true,true,true,true,true,true,true,true,true,true,true,true,true,false,true,false,false] rfl rfl (any_of HT_.out (by kernel_rfl)) (fun _ _ _ h => h) (Or.inl ⟨by rfl,?_⟩) ?_ ?_
               rotate_left
               ·intro w'
                go_simp
                with_reducible rfl
               rotate_left
               ·simp only [Act.put,sB_,sZ_,sS_,i64_w,i32_w]
                rfl
               refine pure_ (i := 14) (N := some 107) (v := ?_) (a' := ?_) #[true,true,true,true,true,true,true,true,true,true,true,true,true,true,true,true,false,false] rfl rfl (any_of HT_.out (by kernel_rfl)) (fun _ _ _ h => h) (Or.inl ⟨by rfl,?_⟩) ?_ ?_
               rotate_left
               ·intro w'
                go_simp
                with_reducible rfl
               rotate_left
               ·simp only [Act.put,sB_,sZ_,sS_,i64_w,i32_w]
                rfl
               exact norm_ (by simp only [putAll,Act.put,sB_,sZ_,sS_]) (hCont (gb294) _ ⟨hHeld,(by (with_reducible repeat (first | apply Kd.R_alloc | apply Kd.R_drewN | apply Kd.R_drew));exact HO_6.out),(by (with_reducible repeat (first | apply Kd.R_alloc | apply Kd.R_drewN | apply Kd.R_drew));exact HO_8.out),(by (with_reducible repeat (first | refine kN_ ?_ _ | refine kD_ ?_ | refine kA_ ?_ _));exact BK283.out),(by (with_reducible repeat (first | refine kN_ ?_ _ | refine kD_ ?_ | refine kA_ ?_ _));exact BK287.out),(by (with_reducible repeat (first | refine kN_ ?_ _ | refine kD_ ?_ | refine kA_ ?_ _));exact BK294.out),GW294.out,GE294.out,NB283_294.out,NB294_283.out,NB287_294.out,NB294_287.out,(by repeat (first | (with_reducible first | exact HB.out | apply bA_ | apply bN_ | apply bD_ | refine bS_ ?_ GE283.out | refine bS_ ?_ GE287.out | refine bS_ ?_ GE294.out) | exact HB.out))⟩)
             rintro gb294 w77 ⟨hS_,h0_,h1_,h2_,h3_,h4_,h5_,h6_,h7_,h8_,h9_,h10_,h11_⟩
             have n0_ : Aside0 (Kd.R k49 49 w77 w.heap.size (fun _ => True) (.slice Ao36 t256.length co36) t256) := ⟨h0_⟩
             have n1_ : Aside0 (Kd.R k32 32 w77 w.heap.size (fun _ => True) (.slice (some ad289) x8_1.length co37) x8_1) := ⟨h1_⟩
             have n2_ : Aside0 (w77.heap[gb283]? = some (.cells #[.int .i64 t280,.int .i64 t281] 34 (0,0))) := ⟨h2_⟩
             have n3_ : Aside0 (w77.heap[gb287]? = some (.cells #[.int .i64 t284,.int .i64 t285] 34 (0,0))) := ⟨h3_⟩
             have n4_ : Aside0 (w77.heap[gb294]? = some (.cells #[.int .i64 0,.int .i64 0] 34 (0,0))) := ⟨h4_⟩
             have n5_ : Aside0 (w.heap.size ≤ gb294) := ⟨h5_⟩
             have n6_ : Aside0 (w.heap.size ≤ gb294) := ⟨h6_⟩
             have n7_ : Aside0 (gb283 ≠ gb294) := ⟨h7_⟩
             have n8_ : Aside0 (gb294 ≠ gb283) := ⟨h8_⟩
             have n9_ : Aside0 (gb287 ≠ gb294) := ⟨h9_⟩
             have n10_ : Aside0 (gb294 ≠ gb287) := ⟨h10_⟩
             have n11_ : Aside0 (Below w.heap.size w w77) := ⟨h11_⟩
             clear HO_6
             clear HO_8
             clear BK283
             clear BK287
             clear HB
             clear h0_ h1_ h2_ h3_ h4_ h5_ h6_ h7_ h8_ h9_ h10_ h11_
             have HO_6 := n0_
             have HO_8 := n1_
             have BK283 := n2_
             have BK287 := n3_
             have BK294 := n4_
             have GW294 := n5_
             have GE294 := n6_
             have NB283_294 := n7_
             have NB294_283 := n8_
             have NB287_294 := n9_
             have NB294_287 := n10_
             have HB := n11_
             clear n0_ n1_ n2_ n3_ n4_ n5_ n6_ n7_ n8_ n9_ n10_ n11_
             have hHeld : w77.cell? (ad289.add ((x17_3).toNat * 2)) = some (.int .i64 ((rd_T32 x8_1 x17_3).f0)) ∧ w77.cell? ⟨(ad289.add ((x17_3).toNat * 2)).block,(ad289.add ((x17_3).toNat * 2)).off + 1,none⟩ = some (.int .i64 ((rd_T32 x8_1 x17_3).f1)) ∧ w77.cell? (ad289.add ((x17_3).toNat * 2)) = some (.int .i64 ((rd_T32 x8_1 x17_3).f0)) ∧ w77.cell? ⟨(ad289.add ((x17_3).toNat * 2)).block,(ad289.add ((x17_3).toNat * 2)).off + 1,none⟩ = some (.int .i64 ((rd_T32 x8_1 x17_3).f1)) := hS_
             refine norm_ (a' := ?_) ?_ ?_
             rotate_left
             ·simp only [putAll,Act.put,sB_,sZ_,sS_]
              rfl
             refine one_ (i := 16) (N := none) #[true,true,true,true,true,true,true,true,true,true,true,true,true,true,true,true,true,false] rfl rfl (one_of HT_.out (by kernel_rfl)) (by decide) (fun K hK => ?_)
             have hs78 : w77.cell? ⟨gb294,0,none⟩ = some (.int .i64 0) := (blk_cell BK294.out 0).trans rfl
             have hfs78 := blk_frozen BK294.out 0
             have hns78_0 := NB283_294.out
             have hns78_1 := NB287_294.out
             have hms78_0 := NB294_283.out
             have hms78_1 := NB294_287.out
             have hs79 : w77.cell? ⟨gb294,1,none⟩ = some (.int .i64 0) := (blk_cell BK294.out 1).trans rfl
             have hfs79 := blk_frozen BK294.out 1
             have hns79_0 := NB283_294.out
             have hns79_1 := NB287_294.out
             have hms79_0 := NB294_283.out
             have hms79_1 := NB294_287.out
             refine skip_ (w1 := ?_) (by rfl) rfl ?_ ?_
             rotate_left
             ·go_simp
              rfl
             refine hK.out _ _ ⟨((cell_far (p := ⟨gb294,_,none⟩) (by first | exact Kd.own_blk (Kd.R_ne HO_8.out BK294.out (by decide)) | (rw [add_block];exact Kd.own_blk (Kd.R_ne HO_8.out BK294.out (by decide))) | (show (Addr.add _ _).block ≠ _;rw [add_block];exact Kd.own_blk (Kd.R_ne HO_8.out BK294.out (by decide))) | (dsimp only;exact Kd.own_blk (Kd.R_ne HO_8.out BK294.out (by decide)))) _).trans (((cell_far (p := ⟨gb294,_,none⟩) (by first | exact Kd.own_blk (Kd.R_ne HO_8.out BK294.out (by decide)) | (rw [add_block];exact Kd.own_blk (Kd.R_ne HO_8.out BK294.out (by decide))) | (show (Addr.add _ _).block ≠ _;rw [add_block];exact Kd.own_blk (Kd.R_ne HO_8.out BK294.out (by decide))) | (dsimp only;exact Kd.own_blk (Kd.R_ne HO_8.out BK294.out (by decide)))) _).trans (hHeld.1)))),((cell_far (p := ⟨gb294,_,none⟩) (by first | exact Kd.own_blk (Kd.R_ne HO_8.out BK294.out (by decide)) | (rw [add_block];exact Kd.own_blk (Kd.R_ne HO_8.out BK294.out (by decide))) | (show (Addr.add _ _).block ≠ _;rw [add_block];exact Kd.own_blk (Kd.R_ne HO_8.out BK294.out (by decide))) | (dsimp only;exact Kd.own_blk (Kd.R_ne HO_8.out BK294.out (by decide)))) _).trans (((cell_far (p := ⟨gb294,_,none⟩) (by first | exact Kd.own_blk (Kd.R_ne HO_8.out BK294.out (by decide)) | (rw [add_block];exact Kd.own_blk (Kd.R_ne HO_8.out BK294.out (by decide))) | (show (Addr.add _ _).block ≠ _;rw [add_block];exact Kd.own_blk (Kd.R_ne HO_8.out BK294.out (by decide))) | (dsimp only;exact Kd.own_blk (Kd.R_ne HO_8.out BK294.out (by decide)))) _).trans (hHeld.2.1)))),((cell_far (p := ⟨gb294,_,none⟩) (by first | exact Kd.own_blk (Kd.R_ne HO_8.out BK294.out (by decide)) | (rw [add_block];exact Kd.own_blk (Kd.R_ne HO_8.out BK294.out (by decide))) | (show (Addr.add _ _).block ≠ _;rw [add_block];exact Kd.own_blk (Kd.R_ne HO_8.out BK294.out (by decide))) | (dsimp only;exact Kd.own_blk (Kd.R_ne HO_8.out BK294.out (by decide)))) _).trans (((cell_far (p := ⟨gb294,_,none⟩) (by first | exact Kd.own_blk (Kd.R_ne HO_8.out BK294.out (by decide)) | (rw [add_block];exact Kd.own_blk (Kd.R_ne HO_8.out BK294.out (by decide))) | (show (Addr.add _ _).block ≠ _;rw [add_block];exact Kd.own_blk (Kd.R_ne HO_8.out BK294.out (by decide))) | (dsimp only;exact Kd.own_blk (Kd.R_ne HO_8.out BK294.out (by decide)))) _).trans (hHeld.2.2.1)))),((cell_far (p := ⟨gb294,_,none⟩) (by first | exact Kd.own_blk (Kd.R_ne HO_8.out BK294.out (by decide)) | (rw [add_block];exact Kd.own_blk (Kd.R_ne HO_8.out BK294.out (by decide))) | (show (Addr.add _ _).block ≠ _;rw [add_block];exact Kd.own_blk (Kd.R_ne HO_8.out BK294.out (by decide))) | (dsimp only;exact Kd.own_blk (Kd.R_ne HO_8.out BK294.out (by decide)))) _).trans (((cell_far (p := ⟨gb294,_,none⟩) (by first | exact Kd.own_blk (Kd.R_ne HO_8.out BK294.out (by decide)) | (rw [add_block];exact Kd.own_blk (Kd.R_ne HO_8.out BK294.out (by decide))) | (show (Addr.add _ _).block ≠ _;rw [add_block];exact Kd.own_blk (Kd.R_ne HO_8.out BK294.out (by decide))) | (dsimp only;exact Kd.own_blk (Kd.R_ne HO_8.out BK294.out (by decide)))) _).trans (hHeld.2.2.2))))⟩ (fun hHeld => ?_)
             clear hK K
             refine pure_ (i := 17) (N := some 19) (v := ?_) (a' := ?_) #[true,true,true,true,true,true,true,true,true,true,true,true,true,true,true,true,true,true] rfl rfl (any_of HT_.out (by kernel_rfl)) (fun _ _ _ h => h) (Or.inl ⟨by rfl,?_⟩) ?_ ?_
             rotate_left
             ·intro w'
              go_simp
              with_reducible rfl
             rotate_left
             ·simp only [Act.put,sB_,sZ_,sS_,i64_w,i32_w]
              rfl
             refine done_ (done_of HT_.out (by kernel_rfl)) ?_
             have hnb80 := NB283_287.out
             have hnc80 := NB287_283.out
             have hnb81 := NB283_294.out
             have hnc81 := NB294_283.out
             have hcz82_0 : w77.cell? ⟨gb283,0,none⟩ = some (.int .i64 t280) := (blk_cell BK283.out 0).trans rfl
             have hcz82_1 : w77.cell? ⟨gb283,1,none⟩ = some (.int .i64 t281) := (blk_cell BK283.out 1).trans rfl
             have hfz82_0 := blk_frozen BK283.out 0
             have hfz82_1 := blk_frozen BK283.out 1
             have hnb83 := NB294_287.out
             have hnc83 := NB287_294.out
             have hcz84_0 : w77.cell? ⟨gb294,0,none⟩ = some (.int .i64 0) := (blk_cell BK294.out 0).trans rfl
             have hcz84_1 : w77.cell? ⟨gb294,1,none⟩ = some (.int .i64 0) := (blk_cell BK294.out 1).trans rfl
             have hfz84_0 := blk_frozen BK294.out 0
             have hfz84_1 := blk_frozen BK294.out 1
             try go_wp2_with (first | (go_at_call 17;(with_reducible refine (K_Within.calls t280 t281 t291 t292 true _ A72.out).mono ?_);rintro e w85 ⟨rfl,hb⟩;have n0_ := aM_ (Kd.R_below (by (with_reducible repeat (first | apply Kd.R_alloc | apply Kd.R_drewN | apply Kd.R_drew));exact (Kd.R_mono (Kd.R_far (p := ⟨gb294,1,none⟩) (Kd.R_far (p := ⟨gb294,0,none⟩) (Kd.R_types HO_6.out BK294.out (by decide)) (fun _ hk => hk.2) (.int .i64 t291)) (fun _ hk => hk.2) (.int .i64 t292)) (fun _ h_ => h_.1))) hb);have n1_ := aM_ (Kd.R_below (by (with_reducible repeat (first | apply Kd.R_alloc | apply Kd.R_drewN | apply Kd.R_drew));exact (Kd.R_mono (Kd.R_far (p := ⟨gb294,1,none⟩) (Kd.R_far (p := ⟨gb294,0,none⟩) (Kd.R_types HO_8.out BK294.out (by decide)) (fun _ hk => hk.2) (.int .i64 t291)) (fun _ hk => hk.2) (.int .i64 t292)) (fun _ h_ => h_.1))) hb);have n2_ := aM_ (kB_ (g := gb283) (o := .cells #[.int .i64 t280,.int .i64 t281] 34 (0,0)) (by (with_reducible repeat (first | refine kN_ ?_ _ | refine kD_ ?_ | refine kA_ ?_ _));refine blk_far ?_ NB283_294.out _;(with_reducible repeat (first | refine kN_ ?_ _ | refine kD_ ?_ | refine kA_ ?_ _));refine blk_far ?_ NB283_294.out _;(with_reducible repeat (first | refine kN_ ?_ _ | refine kD_ ?_ | refine kA_ ?_ _));exact BK283.out) hb);have n3_ := aM_ (kB_ (g := gb287) (o := .cells #[.int .i64 t284,.int .i64 t285] 34 (0,0)) (by (with_reducible repeat (first | refine kN_ ?_ _ | refine kD_ ?_ | refine kA_ ?_ _));refine blk_far ?_ NB287_294.out _;(with_reducible repeat (first | refine kN_ ?_ _ | refine kD_ ?_ | refine kA_ ?_ _));refine blk_far ?_ NB287_294.out _;(with_reducible repeat (first | refine kN_ ?_ _ | refine kD_ ?_ | refine kA_ ?_ _));exact BK287.out) hb);have n4_ := aM_ (kB_ (g := gb294) (o := .cells #[.int .i64 t291,.int .i64 t292] 34 (0,0)) (by (with_reducible repeat (first | refine kN_ ?_ _ | refine kD_ ?_ | refine kA_ ?_ _));refine blk_put (cs := #[.int .i64 t291,.int .i64 0]) ?_ 1 _ rfl;(with_reducible repeat (first | refine kN_ ?_ _ | refine kD_ ?_ | refine kA_ ?_ _));refine blk_put (cs := #[.int .i64 0,.int .i64 0]) ?_ 0 _ rfl;(with_reducible repeat (first | refine kN_ ?_ _ | refine kD_ ?_ | refine kA_ ?_ _));exact BK294.out) hb);have n5_ := aM_ (bT_ (by repeat (first | (with_reducible first | exact HB.out | apply bA_ | apply bN_ | apply bD_ | refine bS_ ?_ GE283.out | refine bS_ ?_ GE287.out | refine bS_ ?_ GE294.out) | exact HB.out)) hb);clear HO_6;clear HO_8;clear BK283;clear BK287;clear BK294;clear HB;have HO_6 := n0_;have HO_8 := n1_;have BK283 := n2_;have BK287 := n3_;have BK294 := n4_;have HB := n5_;clear n0_ n1_ n2_ n3_ n4_ n5_;(try clear hb);(try clear hb2);(try clear hk);(try clear hi)))
             go_roundg k3
             case measure => have := HK1.out;have := HJ34.out;have := HK3.out;omega
             case rel => exact ⟨(wrap64 (x17_3 + 1)),(by first | rfl | (simp;done) | (simp [*];done)),H',⟨by have := HK1.out;have := HJ34.out;have := HK3.out;omega⟩,⟨by (with_reducible repeat (first | apply Kd.R_alloc | apply Kd.R_drewN | apply Kd.R_drew));exact HO_6.out⟩,⟨by (with_reducible repeat (first | apply Kd.R_alloc | apply Kd.R_drewN | apply Kd.R_drew));exact HO_8.out⟩,⟨by (with_reducible repeat (first | refine kN_ ?_ _ | refine kD_ ?_ | refine kA_ ?_ _));exact BK283.out⟩,⟨by (with_reducible repeat (first | refine kN_ ?_ _ | refine kD_ ?_ | refine kA_ ?_ _));exact BK287.out⟩,⟨by repeat (first | (with_reducible first | exact HB.out | apply bA_ | apply bN_ | apply bD_ | refine bS_ ?_ GE283.out | refine bS_ ?_ GE287.out | refine bS_ ?_ GE294.out) | exact HB.out)⟩⟩
            ·replace c73 := Bool.eq_false_iff.mpr c73
             subst c73
             have H1 : (some false) = some r := by rw [if_neg (show ¬ (false = true) by decide)] at H;exact H
             clear H
             have H := H1
             clear H1
             obtain rfl := Option.some.inj H
             try go_wp2
             have n0_ := aM_ (Kd.R_drew HO_6.out)
             have n1_ := aM_ (Kd.R_drew HO_8.out)
             have n2_ := aM_ (kD_ BK283.out)
             have n3_ := aM_ (kD_ BK287.out)
             have n4_ := aM_ (bD_ HB.out)
             clear HO_6
             clear HO_8
             clear BK283
             clear BK287
             clear HB
             have HO_6 := n0_
             have HO_8 := n1_
             have BK283 := n2_
             have BK287 := n3_
             have HB := n4_
             clear n0_ n1_ n2_ n3_ n4_
             have p289 : 0 ≤ (x17_3 : Int) := of_decide_eq_true (by first | (with_reducible assumption) | assumption)
             have q289 : x17_3 < (x8_1.length : Int) := of_decide_eq_true (by first | (with_reducible assumption) | assumption)
             obtain ⟨ad289,e289,hx289_0,hx289_1⟩ := at_T32 (Kd.R_reads' HO_8.out).2.2 x17_3 p289 q289
             cases e289
             replace p289 := eq_true p289
             replace q289 := eq_true q289
             have p290 : 0 ≤ (x17_3 : Int) := of_decide_eq_true (by first | (with_reducible assumption) | assumption)
             have q290 : x17_3 < (x8_1.length : Int) := of_decide_eq_true (by first | (with_reducible assumption) | assumption)
             obtain ⟨ad290,e290,hx290_0,hx290_1⟩ := at_T32 (Kd.R_reads' HO_8.out).2.2 x17_3 p290 q290
             obtain rfl : ad289 = ad290 := (by injection e290)
             replace p290 := eq_true p290
             replace q290 := eq_true q290
             refine start_ (n := 18) (S := fun w' => w'.cell? (ad289.add ((x17_3).toNat * 2)) = some (.int .i64 ((rd_T32 x8_1 x17_3).f0)) ∧ w'.cell? ⟨(ad289.add ((x17_3).toNat * 2)).block,(ad289.add ((x17_3).toNat * 2)).off + 1,none⟩ = some (.int .i64 ((rd_T32 x8_1 x17_3).f1)) ∧ w'.cell? (ad289.add ((x17_3).toNat * 2)) = some (.int .i64 ((rd_T32 x8_1 x17_3).f0)) ∧ w'.cell? ⟨(ad289.add ((x17_3).toNat * 2)).block,(ad289.add ((x17_3).toNat * 2)).off + 1,none⟩ = some (.int .i64 ((rd_T32 x8_1 x17_3).f1))) (ds := []) #[false,false,false,false,false,false,false,false,false,false,false,false,false,false,false,false,false,false] (by kernel_rfl) rfl rfl ⟨hx289_0,hx289_1,hx290_0,hx290_1⟩ (fun hHeld => ?_);refine with_tabW L_GaugeAgrees.tab18 L_GaugeAgrees.bits18 (fun HT_ HW_ => ?_)
             generalize wr.drew = w86 at HO_6 HO_8 BK283 BK287 HB hx289_0 hx289_1 hx290_0 hx290_1 hHeld ⊢
             refine pure_ (i := 0) (N := some 94) (v := ?_) (a' := ?_) #[true,false,false,false,false,false,false,false,false,false,false,false,false,false,false,false,false,false] rfl rfl (any_of HT_.out (by kernel_rfl)) (fun _ _ _ h => h) (Or.inl ⟨by rfl,?_⟩) ?_ ?_
             rotate_left
             ·intro w'
              go_simp
              with_reducible rfl
             rotate_left
             ·simp only [Act.put,sB_,sZ_,sS_,i64_w,i32_w]
              rfl
             refine pure_ (i := 1) (N := some 95) (v := ?_) (a' := ?_) #[true,true,false,false,false,false,false,false,false,false,false,false,false,false,false,false,false,false] rfl rfl (any_of HT_.out (by kernel_rfl)) (fun _ _ _ h => h) (Or.inl ⟨by rfl,?_⟩) ?_ ?_
             rotate_left
             ·intro w'
              go_simp
              with_reducible rfl
             rotate_left
             ·simp only [Act.put,sB_,sZ_,sS_,i64_w,i32_w]
              rfl
             refine pure_ (i := 2) (N := some 96) (v := ?_) (a' := ?_) #[true,true,true,false,false,false,false,false,false,false,false,false,false,false,false,false,false,false] rfl rfl (any_of HT_.out (by kernel_rfl)) (fun _ _ _ h => h) (Or.inl ⟨by rfl,?_⟩) ?_ ?_
             rotate_left
             ·intro w'
              go_simp
              with_reducible rfl
             rotate_left
             ·simp only [Act.put,sB_,sZ_,sS_,i64_w,i32_w]
              rfl
             refine pure_ (i := 3) (N := some 97) (v := ?_) (a' := ?_) #[true,true,true,true,false,false,false,false,false,false,false,false,false,false,false,false,false,false] rfl rfl (any_of HT_.out (by kernel_rfl)) (fun _ _ _ h => h) (Or.inl ⟨by rfl,?_⟩) ?_ ?_
             rotate_left
             ·intro w'
              go_simp
              with_reducible rfl
             rotate_left
             ·simp only [Act.put,sB_,sZ_,sS_,i64_w,i32_w]
              rfl
             refine pure_ (i := 4) (N := some 98) (v := ?_) (a' := ?_) #[true,true,true,true,true,false,false,false,false,false,false,false,false,false,false,false,false,false] rfl rfl (any_of HT_.out (by kernel_rfl)) (fun _ _ _ h => h) (Or.inl ⟨by rfl,?_⟩) ?_ ?_
             rotate_left
             ·intro w'
              go_simp
              with_reducible rfl
             rotate_left
             ·simp only [Act.put,sB_,sZ_,sS_,i64_w,i32_w]
              rfl
             refine pure_ (i := 6) (N := some 100) (v := ?_) (a' := ?_) #[true,true,true,true,true,false,true,false,false,false,false,false,false,false,false,false,false,false] rfl rfl (any_of HT_.out (by kernel_rfl)) (fun _ _ _ h => h) (Or.inl ⟨by rfl,?_⟩) ?_ ?_
             rotate_left
             ·intro w'
              go_simp
              with_reducible rfl
             rotate_left
             ·simp only [Act.put,sB_,sZ_,sS_,i64_w,i32_w]
              rfl
             refine pure_ (i := 7) (N := some 101) (v := ?_) (a' := ?_) #[true,true,true,true,true,false,true,true,false,false,false,false,false,false,false,false,false,false] rfl rfl (any_of HT_.out (by kernel_rfl)) (fun _ _ _ h => h) (Or.inl ⟨by rfl,?_⟩) ?_ ?_
             rotate_left
             ·intro w'
              go_simp
              with_reducible rfl
             rotate_left
             ·simp only [Act.put,sB_,sZ_,sS_,i64_w,i32_w]
              rfl
             refine pure_ (i := 8) (N := some 102) (v := ?_) (a' := ?_) #[true,true,true,true,true,false,true,true,true,false,false,false,false,false,false,false,false,false] rfl rfl (any_of HT_.out (by kernel_rfl)) (fun _ _ _ h => h) (Or.inl ⟨by rfl,?_⟩) ?_ ?_
             rotate_left
             ·intro w'
              go_simp
              with_reducible rfl
             rotate_left
             ·simp only [Act.put,sB_,sZ_,sS_,i64_w,i32_w]
              rfl
             refine pure_ (i := 9) (N := some 103) (v := ?_) (a' := ?_) #[true,true,true,true,true,false,true,true,true,true,false,false,false,false,false,false,false,false] rfl rfl (any_of HT_.out (by kernel_rfl)) (fun _ _ _ h => h) (Or.inl ⟨by rfl,?_⟩) ?_ ?_
             rotate_left
             ·intro w'
              go_simp
              with_reducible rfl
             rotate_left
             ·simp only [Act.put,sB_,sZ_,sS_,i64_w,i32_w]
              rfl
             refine take_ (i := 5) (N := some 99) (v := ?_) (a' := ?_) #[true,true,true,true,true,true,true,true,true,true,false,false,false,false,false,false,false,false] rfl rfl (take_ofW HT_.out HW_.out (by kernel_rfl)) (fun _ _ _ h => h) (Or.inl ⟨by rfl,?_⟩) hHeld ?_ ?_
             rotate_left
             ·rintro w' ⟨s0,s1,s2,s3⟩
              go_simp
              with_reducible rfl
             rotate_left
             ·simp only [Act.put,sB_,sZ_,sS_,i64_w,i32_w]
              rfl
             refine take_ (i := 10) (N := some 104) (v := ?_) (a' := ?_) #[true,true,true,true,true,true,true,true,true,true,true,false,false,false,false,false,false,false] rfl rfl (take_ofW HT_.out HW_.out (by kernel_rfl)) (fun _ _ _ h => h) (Or.inl ⟨by rfl,?_⟩) hHeld ?_ ?_
             rotate_left
             ·rintro w' ⟨s0,s1,s2,s3⟩
              go_simp
              with_reducible rfl
             rotate_left
             ·simp only [Act.put,sB_,sZ_,sS_,i64_w,i32_w]
              rfl
             refine join_ (σ := Nat) 2 #[true,true,true,true,true,true,true,true,true,true,true,true,true,true,true,true,false,false] (fun s_ => [(105,.tuple #[.agg #[.int .i64 t291,.int .i64 t292],.int .i64 t293]),(18,.pointer (some ⟨s_,0,none⟩)),(93,.tuple #[.agg #[.int .i64 t291,.int .i64 t292],.int .i64 t293]),(106,.agg #[.int .i64 t291,.int .i64 t292]),(107,.int .i64 t293)]) (fun s_ w' => (w'.cell? (ad289.add ((x17_3).toNat * 2)) = some (.int .i64 ((rd_T32 x8_1 x17_3).f0)) ∧ w'.cell? ⟨(ad289.add ((x17_3).toNat * 2)).block,(ad289.add ((x17_3).toNat * 2)).off + 1,none⟩ = some (.int .i64 ((rd_T32 x8_1 x17_3).f1)) ∧ w'.cell? (ad289.add ((x17_3).toNat * 2)) = some (.int .i64 ((rd_T32 x8_1 x17_3).f0)) ∧ w'.cell? ⟨(ad289.add ((x17_3).toNat * 2)).block,(ad289.add ((x17_3).toNat * 2)).off + 1,none⟩ = some (.int .i64 ((rd_T32 x8_1 x17_3).f1))) ∧ (Kd.R k49 49 w' w.heap.size (fun _ => True) (.slice Ao36 t256.length co36) t256) ∧ (Kd.R k32 32 w' w.heap.size (fun _ => True) (.slice (some ad289) x8_1.length co37) x8_1) ∧ (w'.heap[gb283]? = some (.cells #[.int .i64 t280,.int .i64 t281] 34 (0,0))) ∧ (w'.heap[gb287]? = some (.cells #[.int .i64 t284,.int .i64 t285] 34 (0,0))) ∧ (w'.heap[s_]? = some (.cells #[.int .i64 0,.int .i64 0] 34 (0,0))) ∧ (w.heap.size ≤ s_) ∧ (w.heap.size ≤ s_) ∧ (gb283 ≠ s_) ∧ (s_ ≠ gb283) ∧ (gb287 ≠ s_) ∧ (s_ ≠ gb287) ∧ (Below w.heap.size w w')) ?_ ?_
             rotate_left
             ·intro hCont
              refine two_ (i := 11) (j := 15) (Ni := some 105) (Nj := some 18) #[true,true,true,true,true,true,true,true,true,true,true,true,false,false,false,false,false,false] #[true,true,true,true,true,true,true,true,true,true,true,false,false,false,false,true,false,false] rfl rfl rfl rfl (two_of HT_.out (by kernel_rfl)) (by decide) (by decide) (fun K hK => ?_) (fun K hK => ?_)
              ·skip
               refine goes_ Try.func16 (by kernel_rfl) rfl #[.slice Ao36 t256.length co36,.int .i64 ((rd_T32 x8_1 x17_3).f0),.int .i64 ((rd_T32 x8_1 x17_3).f1)] (by rfl) rfl rfl (by (try simp only [List.map_toArray,List.map_cons,List.map_nil]);first | done | rfl) ?_
               with_reducible refine (gauge_True.calls _ _ t256 ((rd_T32 x8_1 x17_3).f0) ((rd_T32 x8_1 x17_3).f1) t291 t292 t293 _ ?side1 ?side2 A70.out).mono ?_
               (case side1 => repeat (first | exact (Kd.R_reads' HO_6.out).2.2 | (with_reducible refine Kd.C_alloc ?_ _) | (with_reducible refine Kd.C_drewN ?_ _) | (with_reducible refine Kd.C_drew ?_)))
               (case side2 => exact (Kd.R_reads' HO_6.out).2.1)
               rintro e w87 ⟨rfl,hb⟩
               have HS0_ := (hb.cell (World.block_lt_of_cell? _ _ (hHeld.1))).trans (hHeld.1)
               have HS1_ := (hb.cell (World.block_lt_of_cell? _ _ (hHeld.2.1))).trans (hHeld.2.1)
               have HS2_ := (hb.cell (World.block_lt_of_cell? _ _ (hHeld.2.2.1))).trans (hHeld.2.2.1)
               have HS3_ := (hb.cell (World.block_lt_of_cell? _ _ (hHeld.2.2.2))).trans (hHeld.2.2.2)
               refine ⟨_,rfl,?_⟩
               have n0_ := aM_ (Kd.R_below (by (with_reducible repeat (first | apply Kd.R_alloc | apply Kd.R_drewN | apply Kd.R_drew));exact HO_6.out) hb)
               have n1_ := aM_ (Kd.R_below (by (with_reducible repeat (first | apply Kd.R_alloc | apply Kd.R_drewN | apply Kd.R_drew));exact HO_8.out) hb)
               have n2_ := aM_ (kB_ (g := gb283) (o := .cells #[.int .i64 t280,.int .i64 t281] 34 (0,0)) (by (with_reducible repeat (first | refine kN_ ?_ _ | refine kD_ ?_ | refine kA_ ?_ _));exact BK283.out) hb)
               have n3_ := aM_ (kB_ (g := gb287) (o := .cells #[.int .i64 t284,.int .i64 t285] 34 (0,0)) (by (with_reducible repeat (first | refine kN_ ?_ _ | refine kD_ ?_ | refine kA_ ?_ _));exact BK287.out) hb)
               have n4_ := aM_ (bT_ (by repeat (first | (with_reducible first | exact HB.out | apply bA_ | apply bN_ | apply bD_ | refine bS_ ?_ GE283.out | refine bS_ ?_ GE287.out) | exact HB.out)) hb)
               clear HO_6
               clear HO_8
               clear BK283
               clear BK287
               clear HB
               have HO_6 := n0_
               have HO_8 := n1_
               have BK283 := n2_
               have BK287 := n3_
               have HB := n4_
               clear n0_ n1_ n2_ n3_ n4_
               (try clear hb)
               (try clear hb2)
               (try clear hk)
               (try clear hi)
               refine hK.out _ _ ⟨HS0_,HS1_,HS2_,HS3_⟩ (fun hHeld => ?_)
               clear hK K
               refine norm_ (a' := ?_) ?_ ?_
               rotate_left
               ·show Act.put _ (some 105) _ = _
                simp only [Act.put,sB_,sZ_,sS_,i64_w,i32_w]
                rfl
               refine pure_ (i := 12) (N := some 93) (v := ?_) (a' := ?_) #[true,true,true,true,true,true,true,true,true,true,true,true,true,false,false,false,false,false] rfl rfl (any_of HT_.out (by kernel_rfl)) (fun _ _ _ h => h) (Or.inl ⟨by rfl,?_⟩) ?_ ?_
               rotate_left
               ·intro w'
                go_simp
                with_reducible rfl
               rotate_left
               ·simp only [Act.put,sB_,sZ_,sS_,i64_w,i32_w]
                rfl
               refine pure_ (i := 13) (N := some 106) (v := ?_) (a' := ?_) #[true,true,true,true,true,true,true,true,true,true,true,true,true,true,false,false,false,false] rfl rfl (any_of HT_.out (by kernel_rfl)) (fun _ _ _ h => h) (Or.inl ⟨by rfl,?_⟩) ?_ ?_
               rotate_left
               ·intro w'
                go_simp
                with_reducible rfl
               rotate_left
               ·simp only [Act.put,sB_,sZ_,sS_,i64_w,i32_w]
                rfl
               refine pure_ (i := 14) (N := some 107) (v := ?_) (a' := ?_) #[true,true,true,true,true,true,true,true,true,true,true,true,true,true,true,false,false,false] rfl rfl (any_of HT_.out (by kernel_rfl)) (fun _ _ _ h => h) (Or.inl ⟨by rfl,?_⟩) ?_ ?_
               rotate_left
               ·intro w'
                go_simp
                with_reducible rfl
               rotate_left
               ·simp only [Act.put,sB_,sZ_,sS_,i64_w,i32_w]
                rfl
               refine one_ (i := 15) (N := some 18) #[true,true,true,true,true,true,true,true,true,true,true,true,true,true,true,true,false,false] rfl rfl (one_of HT_.out (by kernel_rfl)) (by decide) (fun K hK => ?_)
               refine box_step ?hg (N := 18) ?hd (cs := #[.int .i64 0,.int .i64 0]) (t := 34) ?hr ?_;(case hd => rfl);(case hg => rfl);(case hr => first | (go_simp;done) | (go_simp;rfl))
               intro gb294 hg w88 hbox hb
               have HS0_ := (hb.cell (World.block_lt_of_cell? _ _ (hHeld.1))).trans (hHeld.1)
               have HS1_ := (hb.cell (World.block_lt_of_cell? _ _ (hHeld.2.1))).trans (hHeld.2.1)
               have HS2_ := (hb.cell (World.block_lt_of_cell? _ _ (hHeld.2.2.1))).trans (hHeld.2.2.1)
               have HS3_ := (hb.cell (World.block_lt_of_cell? _ _ (hHeld.2.2.2))).trans (hHeld.2.2.2)
               have n0_ := aM_ (Kd.R_below (by (with_reducible repeat (first | apply Kd.R_alloc | apply Kd.R_drewN | apply Kd.R_drew));exact HO_6.out) hb)
               have n1_ := aM_ (Kd.R_below (by (with_reducible repeat (first | apply Kd.R_alloc | apply Kd.R_drewN | apply Kd.R_drew));exact HO_8.out) hb)
               have n2_ := aM_ (kB_ (g := gb283) (o := .cells #[.int .i64 t280,.int .i64 t281] 34 (0,0)) (by (with_reducible repeat (first | refine kN_ ?_ _ | refine kD_ ?_ | refine kA_ ?_ _));exact BK283.out) hb)
               have n3_ := aM_ (kB_ (g := gb287) (o := .cells #[.int .i64 t284,.int .i64 t285] 34 (0,0)) (by (with_reducible repeat (first | refine kN_ ?_ _ | refine kD_ ?_ | refine kA_ ?_ _));exact BK287.out) hb)
               have n4_ := aM_ (bT_ (by repeat (first | (with_reducible first | exact HB.out | apply bA_ | apply bN_ | apply bD_ | refine bS_ ?_ GE283.out | refine bS_ ?_ GE287.out) | exact HB.out)) hb)
               have n5_ := aM_ (hbox)
               have n6_ := aM_ ((by rw [hg];exact (below_size (by repeat (first | (with_reducible first | exact HB.out | apply bA_ | apply bN_ | apply bD_ | refine bS_ ?_ GE283.out | refine bS_ ?_ GE287.out) | exact HB.out))) : w.heap.size ≤ gb294))
               have n7_ := aM_ ((by rw [hg];exact (below_size (by repeat (first | (with_reducible first | exact HB.out | apply bA_ | apply bN_ | apply bD_ | refine bS_ ?_ GE283.out | refine bS_ ?_ GE287.out) | exact HB.out))) : w.heap.size ≤ gb294))
               have n8_ := aM_ ((by rw [hg];exact Nat.ne_of_lt (blk_lt (g := gb283) (o := .cells #[.int .i64 t280,.int .i64 t281] 34 (0,0)) (by (with_reducible repeat (first | refine kN_ ?_ _ | refine kD_ ?_ | refine kA_ ?_ _));exact BK283.out)) : gb283 ≠ gb294))
               have n9_ := aM_ ((by rw [hg];exact Nat.ne_of_gt (blk_lt (g := gb283) (o := .cells #[.int .i64 t280,.int .i64 t281] 34 (0,0)) (by (with_reducible repeat (first | refine kN_ ?_ _ | refine kD_ ?_ | refine kA_ ?_ _));exact BK283.out)) : gb294 ≠ gb283))
               have n10_ := aM_ ((by rw [hg];exact Nat.ne_of_lt (blk_lt (g := gb287) (o := .cells #[.int .i64 t284,.int .i64 t285] 34 (0,0)) (by (with_reducible repeat (first | refine kN_ ?_ _ | refine kD_ ?_ | refine kA_ ?_ _));exact BK287.out)) : gb287 ≠ gb294))
               have n11_ := aM_ ((by rw [hg];exact Nat.ne_of_gt (blk_lt (g := gb287) (o := .cells #[.int .i64 t284,.int .i64 t285] 34 (0,0)) (by (with_reducible repeat (first | refine kN_ ?_ _ | refine kD_ ?_ | refine kA_ ?_ _));exact BK287.out)) : gb294 ≠ gb287))
               clear HO_6
               clear HO_8
               clear BK283
               clear BK287
               clear HB
               have HO_6 := n0_
               have HO_8 := n1_
               have BK283 := n2_
               have BK287 := n3_
               have HB := n4_
               have BK294 := n5_
               have GW294 := n6_
               have GE294 := n7_
               have NB283_294 := n8_
               have NB294_283 := n9_
               have NB287_294 := n10_
               have NB294_287 := n11_
               clear n0_ n1_ n2_ n3_ n4_ n5_ n6_ n7_ n8_ n9_ n10_ n11_
               clear hb hbox hg
               refine hK.out _ _ ⟨HS0_,HS1_,HS2_,HS3_⟩ (fun hHeld => ?_)
               clear hK K
               refine norm_ (a' := ?_) ?_ ?_
               rotate_left
               ·show Act.put _ (some 18) _ = _
                simp only [Act.put,sB_,sZ_,sS_,i64_w,i32_w]
                rfl
               exact norm_ (by simp only [putAll,Act.put,sB_,sZ_,sS_]) (hCont (gb294) _ ⟨hHeld,(by (with_reducible repeat (first | apply Kd.R_alloc | apply Kd.R_drewN | apply Kd.R_drew));exact HO_6.out),(by (with_reducible repeat (first | apply Kd.R_alloc | apply Kd.R_drewN | apply Kd.R_drew));exact HO_8.out),(by (with_reducible repeat (first | refine kN_ ?_ _ | refine kD_ ?_ | refine kA_ ?_ _));exact BK283.out),(by (with_reducible repeat (first | refine kN_ ?_ _ | refine kD_ ?_ | refine kA_ ?_ _));exact BK287.out),(by (with_reducible repeat (first | refine kN_ ?_ _ | refine kD_ ?_ | refine kA_ ?_ _));exact BK294.out),GW294.out,GE294.out,NB283_294.out,NB294_283.out,NB287_294.out,NB294_287.out,(by repeat (first | (with_reducible first | exact HB.out | apply bA_ | apply bN_ | apply bD_ | refine bS_ ?_ GE283.out | refine bS_ ?_ GE287.out | refine bS_ ?_ GE294.out) | exact HB.out))⟩)
              ·skip
               refine box_step ?hg (N := 18) ?hd (cs := #[.int .i64 0,.int .i64 0]) (t := 34) ?hr ?_;(case hd => rfl);(case hg => rfl);(case hr => first | (go_simp;done) | (go_simp;rfl))
               intro gb294 hg w87 hbox hb
               have HS0_ := (hb.cell (World.block_lt_of_cell? _ _ (hHeld.1))).trans (hHeld.1)
               have HS1_ := (hb.cell (World.block_lt_of_cell? _ _ (hHeld.2.1))).trans (hHeld.2.1)
               have HS2_ := (hb.cell (World.block_lt_of_cell? _ _ (hHeld.2.2.1))).trans (hHeld.2.2.1)
               have HS3_ := (hb.cell (World.block_lt_of_cell? _ _ (hHeld.2.2.2))).trans (hHeld.2.2.2)
               have n0_ := aM_ (Kd.R_below (by (with_reducible repeat (first | apply Kd.R_alloc | apply Kd.R_drewN | apply Kd.R_drew));exact HO_6.out) hb)
               have n1_ := aM_ (Kd.R_below (by (with_reducible repeat (first | apply Kd.R_alloc | apply Kd.R_drewN | apply Kd.R_drew));exact HO_8.out) hb)
               have n2_ := aM_ (kB_ (g := gb283) (o := .cells #[.int .i64 t280,.int .i64 t281] 34 (0,0)) (by (with_reducible repeat (first | refine kN_ ?_ _ | refine kD_ ?_ | refine kA_ ?_ _));exact BK283.out) hb)
               have n3_ := aM_ (kB_ (g := gb287) (o := .cells #[.int .i64 t284,.int .i64 t285] 34 (0,0)) (by (with_reducible repeat (first | refine kN_ ?_ _ | refine kD_ ?_ | refine kA_ ?_ _));exact BK287.out) hb)
               have n4_ := aM_ (bT_ (by repeat (first | (with_reducible first | exact HB.out | apply bA_ | apply bN_ | apply bD_ | refine bS_ ?_ GE283.out | refine bS_ ?_ GE287.out) | exact HB.out)) hb)
               have n5_ := aM_ (hbox)
               have n6_ := aM_ ((by rw [hg];exact (below_size (by repeat (first | (with_reducible first | exact HB.out | apply bA_ | apply bN_ | apply bD_ | refine bS_ ?_ GE283.out | refine bS_ ?_ GE287.out) | exact HB.out))) : w.heap.size ≤ gb294))
               have n7_ := aM_ ((by rw [hg];exact (below_size (by repeat (first | (with_reducible first | exact HB.out | apply bA_ | apply bN_ | apply bD_ | refine bS_ ?_ GE283.out | refine bS_ ?_ GE287.out) | exact HB.out))) : w.heap.size ≤ gb294))
               have n8_ := aM_ ((by rw [hg];exact Nat.ne_of_lt (blk_lt (g := gb283) (o := .cells #[.int .i64 t280,.int .i64 t281] 34 (0,0)) (by (with_reducible repeat (first | refine kN_ ?_ _ | refine kD_ ?_ | refine kA_ ?_ _));exact BK283.out)) : gb283 ≠ gb294))
               have n9_ := aM_ ((by rw [hg];exact Nat.ne_of_gt (blk_lt (g := gb283) (o := .cells #[.int .i64 t280,.int .i64 t281] 34 (0,0)) (by (with_reducible repeat (first | refine kN_ ?_ _ | refine kD_ ?_ | refine kA_ ?_ _));exact BK283.out)) : gb294 ≠ gb283))
               have n10_ := aM_ ((by rw [hg];exact Nat.ne_of_lt (blk_lt (g := gb287) (o := .cells #[.int .i64 t284,.int .i64 t285] 34 (0,0)) (by (with_reducible repeat (first | refine kN_ ?_ _ | refine kD_ ?_ | refine kA_ ?_ _));exact BK287.out)) : gb287 ≠ gb294))
               have n11_ := aM_ ((by rw [hg];exact Nat.ne_of_gt (blk_lt (g := gb287) (o := .cells #[.int .i64 t284,.int .i64 t285] 34 (0,0)) (by (with_reducible repeat (first | refine kN_ ?_ _ | refine kD_ ?_ | refine kA_ ?_ _));exact BK287.out)) : gb294 ≠ gb287))
               clear HO_6
               clear HO_8
               clear BK283
               clear BK287
               clear HB
               have HO_6 := n0_
               have HO_8 := n1_
               have BK283 := n2_
               have BK287 := n3_
               have HB := n4_
               have BK294 := n5_
               have GW294 := n6_
               have GE294 := n7_
               have NB283_294 := n8_
               have NB294_283 := n9_
               have NB287_294 := n10_
               have NB294_287 := n11_
               clear n0_ n1_ n2_ n3_ n4_ n5_ n6_ n7_ n8_ n9_ n10_ n11_
               clear hb hbox hg
               refine hK.out _ _ ⟨HS0_,HS1_,HS2_,HS3_⟩ (fun hHeld => ?_)
               clear hK K
               refine norm_ (a' := ?_) ?_ ?_
               rotate_left
               ·show Act.put _ (some 18) _ = _
                simp only [Act.put,sB_,sZ_,sS_,i64_w,i32_w]
                rfl
               refine one_ (i := 11) (N := some 105) #[true,true,true,true,true,true,true,true,true,true,true,true,false,false,false,true,false,false] rfl rfl (one_of HT_.out (by kernel_rfl)) (by decide) (fun K hK => ?_)
               refine goes_ Try.func16 (by kernel_rfl) rfl #[.slice Ao36 t256.length co36,.int .i64 ((rd_T32 x8_1 x17_3).f0),.int .i64 ((rd_T32 x8_1 x17_3).f1)] (by rfl) rfl rfl (by (try simp only [List.map_toArray,List.map_cons,List.map_nil]);first | done | rfl) ?_
               with_reducible refine (gauge_True.calls _ _ t256 ((rd_T32 x8_1 x17_3).f0) ((rd_T32 x8_1 x17_3).f1) t291 t292 t293 _ ?side1 ?side2 A70.out).mono ?_
               (case side1 => repeat (first | exact (Kd.R_reads' HO_6.out).2.2 | (with_reducible refine Kd.C_alloc ?_ _) | (with_reducible refine Kd.C_drewN ?_ _) | (with_reducible refine Kd.C_drew ?_)))
               (case side2 => exact (Kd.R_reads' HO_6.out).2.1)
               rintro e w88 ⟨rfl,hb⟩
               have HS0_ := (hb.cell (World.block_lt_of_cell? _ _ (hHeld.1))).trans (hHeld.1)
               have HS1_ := (hb.cell (World.block_lt_of_cell? _ _ (hHeld.2.1))).trans (hHeld.2.1)
               have HS2_ := (hb.cell (World.block_lt_of_cell? _ _ (hHeld.2.2.1))).trans (hHeld.2.2.1)
               have HS3_ := (hb.cell (World.block_lt_of_cell? _ _ (hHeld.2.2.2))).trans (hHeld.2.2.2)
               refine ⟨_,rfl,?_⟩
               have n0_ := aM_ (Kd.R_below (by (with_reducible repeat (first | apply Kd.R_alloc | apply Kd.R_drewN | apply Kd.R_drew));exact HO_6.out) hb)
               have n1_ := aM_ (Kd.R_below (by (with_reducible repeat (first | apply Kd.R_alloc | apply Kd.R_drewN | apply Kd.R_drew));exact HO_8.out) hb)
               have n2_ := aM_ (kB_ (g := gb283) (o := .cells #[.int .i64 t280,.int .i64 t281] 34 (0,0)) (by (with_reducible repeat (first | refine kN_ ?_ _ | refine kD_ ?_ | refine kA_ ?_ _));exact BK283.out) hb)
               have n3_ := aM_ (kB_ (g := gb287) (o := .cells #[.int .i64 t284,.int .i64 t285] 34 (0,0)) (by (with_reducible repeat (first | refine kN_ ?_ _ | refine kD_ ?_ | refine kA_ ?_ _));exact BK287.out) hb)
               have n4_ := aM_ (kB_ (g := gb294) (o := .cells #[.int .i64 0,.int .i64 0] 34 (0,0)) (by (with_reducible repeat (first | refine kN_ ?_ _ | refine kD_ ?_ | refine kA_ ?_ _));exact BK294.out) hb)
               have n5_ := aM_ (bT_ (by repeat (first | (with_reducible first | exact HB.out | apply bA_ | apply bN_ | apply bD_ | refine bS_ ?_ GE283.out | refine bS_ ?_ GE287.out | refine bS_ ?_ GE294.out) | exact HB.out)) hb)
               clear HO_6
               clear HO_8
               clear BK283
               clear BK287
               clear BK294
               clear HB
               have HO_6 := n0_
               have HO_8 := n1_
               have BK283 := n2_
               have BK287 := n3_
               have BK294 := n4_
               have HB := n5_
               clear n0_ n1_ n2_ n3_ n4_ n5_
               (try clear hb)
               (try clear hb2)
               (try clear hk)
               (try clear hi)
               refine hK.out _ _ ⟨HS0_,HS1_,HS2_,HS3_⟩ (fun hHeld => ?_)
               clear hK K
               refine norm_ (a' := ?_) ?_ ?_
               rotate_left
               ·show Act.put _ (some 105) _ = _
                simp only [Act.put,sB_,sZ_,sS_,i64_w,i32_w]
                rfl
               refine pure_ (i := 12) (N := some 93) (v := ?_) (a' := ?_) #[true,true,true,true,true,true,true,true,true,true,true,true,true,false,false,true,false,false] rfl rfl (any_of HT_.out (by kernel_rfl)) (fun _ _ _ h => h) (Or.inl ⟨by rfl,?_⟩) ?_ ?_
               rotate_left
               ·intro w'
                go_simp
                with_reducible rfl
               rotate_left
               ·simp only [Act.put,sB_,sZ_,sS_,i64_w,i32_w]
                rfl
               refine pure_ (i := 13) (N := some 106) (v := ?_) (a' := ?_) #[true,true,true,true,true,true,true,true,true,true,true,true,true,true,false,true,false,false] rfl rfl (any_of HT_.out (by kernel_rfl)) (fun _ _ _ h => h) (Or.inl ⟨by rfl,?_⟩) ?_ ?_
               rotate_left
               ·intro w'
                go_simp
                with_reducible rfl
               rotate_left
               ·simp only [Act.put,sB_,sZ_,sS_,i64_w,i32_w]
                rfl
               refine pure_ (i := 14) (N := some 107) (v := ?_) (a' := ?_) #[true,true,true,true,true,true,true,true,true,true,true,true,true,true,true,true,false,false] rfl rfl (any_of HT_.out (by kernel_rfl)) (fun _ _ _ h => h) (Or.inl ⟨by rfl,?_⟩) ?_ ?_
               rotate_left
               ·intro w'
                go_simp
                with_reducible rfl
               rotate_left
               ·simp only [Act.put,sB_,sZ_,sS_,i64_w,i32_w]
                rfl
               exact norm_ (by simp only [putAll,Act.put,sB_,sZ_,sS_]) (hCont (gb294) _ ⟨hHeld,(by (with_reducible repeat (first | apply Kd.R_alloc | apply Kd.R_drewN | apply Kd.R_drew));exact HO_6.out),(by (with_reducible repeat (first | apply Kd.R_alloc | apply Kd.R_drewN | apply Kd.R_drew));exact HO_8.out),(by (with_reducible repeat (first | refine kN_ ?_ _ | refine kD_ ?_ | refine kA_ ?_ _));exact BK283.out),(by (with_reducible repeat (first | refine kN_ ?_ _ | refine kD_ ?_ | refine kA_ ?_ _));exact BK287.out),(by (with_reducible repeat (first | refine kN_ ?_ _ | refine kD_ ?_ | refine kA_ ?_ _));exact BK294.out),GW294.out,GE294.out,NB283_294.out,NB294_283.out,NB287_294.out,NB294_287.out,(by repeat (first | (with_reducible first | exact HB.out | apply bA_ | apply bN_ | apply bD_ | refine bS_ ?_ GE283.out | refine bS_ ?_ GE287.out | refine bS_ ?_ GE294.out) | exact HB.out))⟩)
             rintro gb294 w89 ⟨hS_,h0_,h1_,h2_,h3_,h4_,h5_,h6_,h7_,h8_,h9_,h10_,h11_⟩
             have n0_ : Aside0 (Kd.R k49 49 w89 w.heap.size (fun _ => True) (.slice Ao36 t256.length co36) t256) := ⟨h0_⟩
             have n1_ : Aside0 (Kd.R k32 32 w89 w.heap.size (fun _ => True) (.slice (some ad289) x8_1.length co37) x8_1) := ⟨h1_⟩
             have n2_ : Aside0 (w89.heap[gb283]? = some (.cells #[.int .i64 t280,.int .i64 t281] 34 (0,0))) := ⟨h2_⟩
             have n3_ : Aside0 (w89.heap[gb287]? = some (.cells #[.int .i64 t284,.int .i64 t285] 34 (0,0))) := ⟨h3_⟩
             have n4_ : Aside0 (w89.heap[gb294]? = some (.cells #[.int .i64 0,.int .i64 0] 34 (0,0))) := ⟨h4_⟩
             have n5_ : Aside0 (w.heap.size ≤ gb294) := ⟨h5_⟩
             have n6_ : Aside0 (w.heap.size ≤ gb294) := ⟨h6_⟩
             have n7_ : Aside0 (gb283 ≠ gb294) := ⟨h7_⟩
             have n8_ : Aside0 (gb294 ≠ gb283) := ⟨h8_⟩
             have n9_ : Aside0 (gb287 ≠ gb294) := ⟨h9_⟩
             have n10_ : Aside0 (gb294 ≠ gb287) := ⟨h10_⟩
             have n11_ : Aside0 (Below w.heap.size w w89) := ⟨h11_⟩
             clear HO_6
             clear HO_8
             clear BK283
             clear BK287
             clear HB
             clear h0_ h1_ h2_ h3_ h4_ h5_ h6_ h7_ h8_ h9_ h10_ h11_
             have HO_6 := n0_
             have HO_8 := n1_
             have BK283 := n2_
             have BK287 := n3_
             have BK294 := n4_
             have GW294 := n5_
             have GE294 := n6_
             have NB283_294 := n7_
             have NB294_283 := n8_
             have NB287_294 := n9_
             have NB294_287 := n10_
             have HB := n11_
             clear n0_ n1_ n2_ n3_ n4_ n5_ n6_ n7_ n8_ n9_ n10_ n11_
             have hHeld : w89.cell? (ad289.add ((x17_3).toNat * 2)) = some (.int .i64 ((rd_T32 x8_1 x17_3).f0)) ∧ w89.cell? ⟨(ad289.add ((x17_3).toNat * 2)).block,(ad289.add ((x17_3).toNat * 2)).off + 1,none⟩ = some (.int .i64 ((rd_T32 x8_1 x17_3).f1)) ∧ w89.cell? (ad289.add ((x17_3).toNat * 2)) = some (.int .i64 ((rd_T32 x8_1 x17_3).f0)) ∧ w89.cell? ⟨(ad289.add ((x17_3).toNat * 2)).block,(ad289.add ((x17_3).toNat * 2)).off + 1,none⟩ = some (.int .i64 ((rd_T32 x8_1 x17_3).f1)) := hS_
             refine norm_ (a' := ?_) ?_ ?_
             rotate_left
             ·simp only [putAll,Act.put,sB_,sZ_,sS_]
              rfl
             refine one_ (i := 16) (N := none) #[true,true,true,true,true,true,true,true,true,true,true,true,true,true,true,true,true,false] rfl rfl (one_of HT_.out (by kernel_rfl)) (by decide) (fun K hK => ?_)
             have hs90 : w89.cell? ⟨gb294,0,none⟩ = some (.int .i64 0) := (blk_cell BK294.out 0).trans rfl
             have hfs90 := blk_frozen BK294.out 0
             have hns90_0 := NB283_294.out
             have hns90_1 := NB287_294.out
             have hms90_0 := NB294_283.out
             have hms90_1 := NB294_287.out
             have hs91 : w89.cell? ⟨gb294,1,none⟩ = some (.int .i64 0) := (blk_cell BK294.out 1).trans rfl
             have hfs91 := blk_frozen BK294.out 1
             have hns91_0 := NB283_294.out
             have hns91_1 := NB287_294.out
             have hms91_0 := NB294_283.out
             have hms91_1 := NB294_287.out
             refine skip_ (w1 := ?_) (by rfl) rfl ?_ ?_
             rotate_left
             ·go_simp
              rfl
             refine hK.out _ _ ⟨((cell_far (p := ⟨gb294,_,none⟩) (by first | exact Kd.own_blk (Kd.R_ne HO_8.out BK294.out (by decide)) | (rw [add_block];exact Kd.own_blk (Kd.R_ne HO_8.out BK294.out (by decide))) | (show (Addr.add _ _).block ≠ _;rw [add_block];exact Kd.own_blk (Kd.R_ne HO_8.out BK294.out (by decide))) | (dsimp only;exact Kd.own_blk (Kd.R_ne HO_8.out BK294.out (by decide)))) _).trans (((cell_far (p := ⟨gb294,_,none⟩) (by first | exact Kd.own_blk (Kd.R_ne HO_8.out BK294.out (by decide)) | (rw [add_block];exact Kd.own_blk (Kd.R_ne HO_8.out BK294.out (by decide))) | (show (Addr.add _ _).block ≠ _;rw [add_block];exact Kd.own_blk (Kd.R_ne HO_8.out BK294.out (by decide))) | (dsimp only;exact Kd.own_blk (Kd.R_ne HO_8.out BK294.out (by decide)))) _).trans (hHeld.1)))),((cell_far (p := ⟨gb294,_,none⟩) (by first | exact Kd.own_blk (Kd.R_ne HO_8.out BK294.out (by decide)) | (rw [add_block];exact Kd.own_blk (Kd.R_ne HO_8.out BK294.out (by decide))) | (show (Addr.add _ _).block ≠ _;rw [add_block];exact Kd.own_blk (Kd.R_ne HO_8.out BK294.out (by decide))) | (dsimp only;exact Kd.own_blk (Kd.R_ne HO_8.out BK294.out (by decide)))) _).trans (((cell_far (p := ⟨gb294,_,none⟩) (by first | exact Kd.own_blk (Kd.R_ne HO_8.out BK294.out (by decide)) | (rw [add_block];exact Kd.own_blk (Kd.R_ne HO_8.out BK294.out (by decide))) | (show (Addr.add _ _).block ≠ _;rw [add_block];exact Kd.own_blk (Kd.R_ne HO_8.out BK294.out (by decide))) | (dsimp only;exact Kd.own_blk (Kd.R_ne HO_8.out BK294.out (by decide)))) _).trans (hHeld.2.1)))),((cell_far (p := ⟨gb294,_,none⟩) (by first | exact Kd.own_blk (Kd.R_ne HO_8.out BK294.out (by decide)) | (rw [add_block];exact Kd.own_blk (Kd.R_ne HO_8.out BK294.out (by decide))) | (show (Addr.add _ _).block ≠ _;rw [add_block];exact Kd.own_blk (Kd.R_ne HO_8.out BK294.out (by decide))) | (dsimp only;exact Kd.own_blk (Kd.R_ne HO_8.out BK294.out (by decide)))) _).trans (((cell_far (p := ⟨gb294,_,none⟩) (by first | exact Kd.own_blk (Kd.R_ne HO_8.out BK294.out (by decide)) | (rw [add_block];exact Kd.own_blk (Kd.R_ne HO_8.out BK294.out (by decide))) | (show (Addr.add _ _).block ≠ _;rw [add_block];exact Kd.own_blk (Kd.R_ne HO_8.out BK294.out (by decide))) | (dsimp only;exact Kd.own_blk (Kd.R_ne HO_8.out BK294.out (by decide)))) _).trans (hHeld.2.2.1)))),((cell_far (p := ⟨gb294,_,none⟩) (by first | exact Kd.own_blk (Kd.R_ne HO_8.out BK294.out (by decide)) | (rw [add_block];exact Kd.own_blk (Kd.R_ne HO_8.out BK294.out (by decide))) | (show (Addr.add _ _).block ≠ _;rw [add_block];exact Kd.own_blk (Kd.R_ne HO_8.out BK294.out (by decide))) | (dsimp only;exact Kd.own_blk (Kd.R_ne HO_8.out BK294.out (by decide)))) _).trans (((cell_far (p := ⟨gb294,_,none⟩) (by first | exact Kd.own_blk (Kd.R_ne HO_8.out BK294.out (by decide)) | (rw [add_block];exact Kd.own_blk (Kd.R_ne HO_8.out BK294.out (by decide))) | (show (Addr.add _ _).block ≠ _;rw [add_block];exact Kd.own_blk (Kd.R_ne HO_8.out BK294.out (by decide))) | (dsimp only;exact Kd.own_blk (Kd.R_ne HO_8.out BK294.out (by decide)))) _).trans (hHeld.2.2.2))))⟩ (fun hHeld => ?_)
             clear hK K
             refine pure_ (i := 17) (N := some 19) (v := ?_) (a' := ?_) #[true,true,true,true,true,true,true,true,true,true,true,true,true,true,true,true,true,true] rfl rfl (any_of HT_.out (by kernel_rfl)) (fun _ _ _ h => h) (Or.inl ⟨by rfl,?_⟩) ?_ ?_
             rotate_left
             ·intro w'
              go_simp
              with_reducible rfl
             rotate_left
             ·simp only [Act.put,sB_,sZ_,sS_,i64_w,i32_w]
              rfl
             refine done_ (done_of HT_.out (by kernel_rfl)) ?_
             have hnb92 := NB283_287.out
             have hnc92 := NB287_283.out
             have hnb93 := NB283_294.out
             have hnc93 := NB294_283.out
             have hcz94_0 : w89.cell? ⟨gb283,0,none⟩ = some (.int .i64 t280) := (blk_cell BK283.out 0).trans rfl
             have hcz94_1 : w89.cell? ⟨gb283,1,none⟩ = some (.int .i64 t281) := (blk_cell BK283.out 1).trans rfl
             have hfz94_0 := blk_frozen BK283.out 0
             have hfz94_1 := blk_frozen BK283.out 1
             have hnb95 := NB294_287.out
             have hnc95 := NB287_294.out
             have hcz96_0 : w89.cell? ⟨gb294,0,none⟩ = some (.int .i64 0) := (blk_cell BK294.out 0).trans rfl
             have hcz96_1 : w89.cell? ⟨gb294,1,none⟩ = some (.int .i64 0) := (blk_cell BK294.out 1).trans rfl
             have hfz96_0 := blk_frozen BK294.out 0
             have hfz96_1 := blk_frozen BK294.out 1
             try go_wp2_with (first | (go_at_call 17;(with_reducible refine (K_Within.calls t280 t281 t291 t292 false _ A72.out).mono ?_);rintro e w97 ⟨rfl,hb⟩;have n0_ := aM_ (Kd.R_below (by (with_reducible repeat (first | apply Kd.R_alloc | apply Kd.R_drewN | apply Kd.R_drew));exact (Kd.R_mono (Kd.R_far (p := ⟨gb294,1,none⟩) (Kd.R_far (p := ⟨gb294,0,none⟩) (Kd.R_types HO_6.out BK294.out (by decide)) (fun _ hk => hk.2) (.int .i64 t291)) (fun _ hk => hk.2) (.int .i64 t292)) (fun _ h_ => h_.1))) hb);have n1_ := aM_ (Kd.R_below (by (with_reducible repeat (first | apply Kd.R_alloc | apply Kd.R_drewN | apply Kd.R_drew));exact (Kd.R_mono (Kd.R_far (p := ⟨gb294,1,none⟩) (Kd.R_far (p := ⟨gb294,0,none⟩) (Kd.R_types HO_8.out BK294.out (by decide)) (fun _ hk => hk.2) (.int .i64 t291)) (fun _ hk => hk.2) (.int .i64 t292)) (fun _ h_ => h_.1))) hb);have n2_ := aM_ (kB_ (g := gb283) (o := .cells #[.int .i64 t280,.int .i64 t281] 34 (0,0)) (by (with_reducible repeat (first | refine kN_ ?_ _ | refine kD_ ?_ | refine kA_ ?_ _));refine blk_far ?_ NB283_294.out _;(with_reducible repeat (first | refine kN_ ?_ _ | refine kD_ ?_ | refine kA_ ?_ _));refine blk_far ?_ NB283_294.out _;(with_reducible repeat (first | refine kN_ ?_ _ | refine kD_ ?_ | refine kA_ ?_ _));exact BK283.out) hb);have n3_ := aM_ (kB_ (g := gb287) (o := .cells #[.int .i64 t284,.int .i64 t285] 34 (0,0)) (by (with_reducible repeat (first | refine kN_ ?_ _ | refine kD_ ?_ | refine kA_ ?_ _));refine blk_far ?_ NB287_294.out _;(with_reducible repeat (first | refine kN_ ?_ _ | refine kD_ ?_ | refine kA_ ?_ _));refine blk_far ?_ NB287_294.out _;(with_reducible repeat (first | refine kN_ ?_ _ | refine kD_ ?_ | refine kA_ ?_ _));exact BK287.out) hb);have n4_ := aM_ (kB_ (g := gb294) (o := .cells #[.int .i64 t291,.int .i64 t292] 34 (0,0)) (by (with_reducible repeat (first | refine kN_ ?_ _ | refine kD_ ?_ | refine kA_ ?_ _));refine blk_put (cs := #[.int .i64 t291,.int .i64 0]) ?_ 1 _ rfl;(with_reducible repeat (first | refine kN_ ?_ _ | refine kD_ ?_ | refine kA_ ?_ _));refine blk_put (cs := #[.int .i64 0,.int .i64 0]) ?_ 0 _ rfl;(with_reducible repeat (first | refine kN_ ?_ _ | refine kD_ ?_ | refine kA_ ?_ _));exact BK294.out) hb);have n5_ := aM_ (bT_ (by repeat (first | (with_reducible first | exact HB.out | apply bA_ | apply bN_ | apply bD_ | refine bS_ ?_ GE283.out | refine bS_ ?_ GE287.out | refine bS_ ?_ GE294.out) | exact HB.out)) hb);clear HO_6;clear HO_8;clear BK283;clear BK287;clear BK294;clear HB;have HO_6 := n0_;have HO_8 := n1_;have BK283 := n2_;have BK287 := n3_;have BK294 := n4_;have HB := n5_;clear n0_ n1_ n2_ n3_ n4_ n5_;(try clear hb);(try clear hb2);(try clear hk);(try clear hi)))
             go_ret
             exact ⟨by first | rfl | (simp [*] <;> rfl),by repeat (first | (with_reducible first | exact HB.out | apply bA_ | apply bN_ | apply bD_ | refine bS_ ?_ GE283.out | refine bS_ ?_ GE287.out | refine bS_ ?_ GE294.out) | exact HB.out)⟩
           ·rw [if_neg c71] at H
            have c71b0 : (t293 == 0) = false := beq_eq_false_iff_ne.mpr c71
            have c71b1 : (t293 != 0) = true := bne_iff_ne.mpr c71
            obtain rfl := Option.some.inj H
            try go_wp2
            have n0_ := aM_ (Kd.R_drew HO_6.out)
            have n1_ := aM_ (Kd.R_drew HO_8.out)
            have n2_ := aM_ (kD_ BK283.out)
            have n3_ := aM_ (kD_ BK287.out)
            have n4_ := aM_ (bD_ HB.out)
            clear HO_6
            clear HO_8
            clear BK283
            clear BK287
            clear HB
            have HO_6 := n0_
            have HO_8 := n1_
            have BK283 := n2_
            have BK287 := n3_
            have HB := n4_
            clear n0_ n1_ n2_ n3_ n4_
            have p289 : 0 ≤ (x17_3 : Int) := of_decide_eq_true (by first | (with_reducible assumption) | assumption)
            have q289 : x17_3 < (x8_1.length : Int) := of_decide_eq_true (by first | (with_reducible assumption) | assumption)
            obtain ⟨ad289,e289,hx289_0,hx289_1⟩ := at_T32 (Kd.R_reads' HO_8.out).2.2 x17_3 p289 q289
            cases e289
            replace p289 := eq_true p289
            replace q289 := eq_true q289
            have p290 : 0 ≤ (x17_3 : Int) := of_decide_eq_true (by first | (with_reducible assumption) | assumption)
            have q290 : x17_3 < (x8_1.length : Int) := of_decide_eq_true (by first | (with_reducible assumption) | assumption)
            obtain ⟨ad290,e290,hx290_0,hx290_1⟩ := at_T32 (Kd.R_reads' HO_8.out).2.2 x17_3 p290 q290
            obtain rfl : ad289 = ad290 := (by injection e290)
            replace p290 := eq_true p290
            replace q290 := eq_true q290
            refine start_ (n := 18) (S := fun w' => w'.cell? (ad289.add ((x17_3).toNat * 2)) = some (.int .i64 ((rd_T32 x8_1 x17_3).f0)) ∧ w'.cell? ⟨(ad289.add ((x17_3).toNat * 2)).block,(ad289.add ((x17_3).toNat * 2)).off + 1,none⟩ = some (.int .i64 ((rd_T32 x8_1 x17_3).f1)) ∧ w'.cell? (ad289.add ((x17_3).toNat * 2)) = some (.int .i64 ((rd_T32 x8_1 x17_3).f0)) ∧ w'.cell? ⟨(ad289.add ((x17_3).toNat * 2)).block,(ad289.add ((x17_3).toNat * 2)).off + 1,none⟩ = some (.int .i64 ((rd_T32 x8_1 x17_3).f1))) (ds := []) #[false,false,false,false,false,false,false,false,false,false,false,false,false,false,false,false,false,false] (by kernel_rfl) rfl rfl ⟨hx289_0,hx289_1,hx290_0,hx290_1⟩ (fun hHeld => ?_);refine with_tabW L_GaugeAgrees.tab18 L_GaugeAgrees.bits18 (fun HT_ HW_ => ?_)
            generalize wr.drew = w98 at HO_6 HO_8 BK283 BK287 HB hx289_0 hx289_1 hx290_0 hx290_1 hHeld ⊢
            refine pure_ (i := 0) (N := some 94) (v := ?_) (a' := ?_) #[true,false,false,false,false,false,false,false,false,false,false,false,false,false,false,false,false,false] rfl rfl (any_of HT_.out (by kernel_rfl)) (fun _ _ _ h => h) (Or.inl ⟨by rfl,?_⟩) ?_ ?_
            rotate_left
            ·intro w'
             go_simp
             with_reducible rfl
            rotate_left
            ·simp only [Act.put,sB_,sZ_,sS_,i64_w,i32_w]
             rfl
            refine pure_ (i := 1) (N := some 95) (v := ?_) (a' := ?_) #[true,true,false,false,false,false,false,false,false,false,false,false,false,false,false,false,false,false] rfl rfl (any_of HT_.out (by kernel_rfl)) (fun _ _ _ h => h) (Or.inl ⟨by rfl,?_⟩) ?_ ?_
            rotate_left
            ·intro w'
             go_simp
             with_reducible rfl
            rotate_left
            ·simp only [Act.put,sB_,sZ_,sS_,i64_w,i32_w]
             rfl
            refine pure_ (i := 2) (N := some 96) (v := ?_) (a' := ?_) #[true,true,true,false,false,false,false,false,false,false,false,false,false,false,false,false,false,false] rfl rfl (any_of HT_.out (by kernel_rfl)) (fun _ _ _ h => h) (Or.inl ⟨by rfl,?_⟩) ?_ ?_
            rotate_left
            ·intro w'
             go_simp
             with_reducible rfl
            rotate_left
            ·simp only [Act.put,sB_,sZ_,sS_,i64_w,i32_w]
             rfl
            refine pure_ (i := 3) (N := some 97) (v := ?_) (a' := ?_) #[true,true,true,true,false,false,false,false,false,false,false,false,false,false,false,false,false,false] rfl rfl (any_of HT_.out (by kernel_rfl)) (fun _ _ _ h => h) (Or.inl ⟨by rfl,?_⟩) ?_ ?_
            rotate_left
            ·intro w'
             go_simp
             with_reducible rfl
            rotate_left
            ·simp only [Act.put,sB_,sZ_,sS_,i64_w,i32_w]
             rfl
            refine pure_ (i := 4) (N := some 98) (v := ?_) (a' := ?_) #[true,true,true,true,true,false,false,false,false,false,false,false,false,false,false,false,false,false] rfl rfl (any_of HT_.out (by kernel_rfl)) (fun _ _ _ h => h) (Or.inl ⟨by rfl,?_⟩) ?_ ?_
            rotate_left
            ·intro w'
             go_simp
             with_reducible rfl
            rotate_left
            ·simp only [Act.put,sB_,sZ_,sS_,i64_w,i32_w]
             rfl
            refine pure_ (i := 6) (N := some 100) (v := ?_) (a' := ?_) #[true,true,true,true,true,false,true,false,false,false,false,false,false,false,false,false,false,false] rfl rfl (any_of HT_.out (by kernel_rfl)) (fun _ _ _ h => h) (Or.inl ⟨by rfl,?_⟩) ?_ ?_
            rotate_left
            ·intro w'
             go_simp
             with_reducible rfl
            rotate_left
            ·simp only [Act.put,sB_,sZ_,sS_,i64_w,i32_w]
             rfl
            refine pure_ (i := 7) (N := some 101) (v := ?_) (a' := ?_) #[true,true,true,true,true,false,true,true,false,false,false,false,false,false,false,false,false,false] rfl rfl (any_of HT_.out (by kernel_rfl)) (fun _ _ _ h => h) (Or.inl ⟨by rfl,?_⟩) ?_ ?_
            rotate_left
            ·intro w'
             go_simp
             with_reducible rfl
            rotate_left
            ·simp only [Act.put,sB_,sZ_,sS_,i64_w,i32_w]
             rfl
            refine pure_ (i := 8) (N := some 102) (v := ?_) (a' := ?_) #[true,true,true,true,true,false,true,true,true,false,false,false,false,false,false,false,false,false] rfl rfl (any_of HT_.out (by kernel_rfl)) (fun _ _ _ h => h) (Or.inl ⟨by rfl,?_⟩) ?_ ?_
            rotate_left
            ·intro w'
             go_simp
             with_reducible rfl
            rotate_left
            ·simp only [Act.put,sB_,sZ_,sS_,i64_w,i32_w]
             rfl
            refine pure_ (i := 9) (N := some 103) (v := ?_) (a' := ?_) #[true,true,true,true,true,false,true,true,true,true,false,false,false,false,false,false,false,false] rfl rfl (any_of HT_.out (by kernel_rfl)) (fun _ _ _ h => h) (Or.inl ⟨by rfl,?_⟩) ?_ ?_
            rotate_left
            ·intro w'
             go_simp
             with_reducible rfl
            rotate_left
            ·simp only [Act.put,sB_,sZ_,sS_,i64_w,i32_w]
             rfl
            refine take_ (i := 5) (N := some 99) (v := ?_) (a' := ?_) #[true,true,true,true,true,true,true,true,true,true,false,false,false,false,false,false,false,false] rfl rfl (take_ofW HT_.out HW_.out (by kernel_rfl)) (fun _ _ _ h => h) (Or.inl ⟨by rfl,?_⟩) hHeld ?_ ?_
            rotate_left
            ·rintro w' ⟨s0,s1,s2,s3⟩
             go_simp
             with_reducible rfl
            rotate_left
            ·simp only [Act.put,sB_,sZ_,sS_,i64_w,i32_w]
             rfl
            refine take_ (i := 10) (N := some 104) (v := ?_) (a' := ?_) #[true,true,true,true,true,true,true,true,true,true,true,false,false,false,false,false,false,false] rfl rfl (take_ofW HT_.out HW_.out (by kernel_rfl)) (fun _ _ _ h => h) (Or.inl ⟨by rfl,?_⟩) hHeld ?_ ?_
            rotate_left
            ·rintro w' ⟨s0,s1,s2,s3⟩
             go_simp
             with_reducible rfl
            rotate_left
            ·simp only [Act.put,sB_,sZ_,sS_,i64_w,i32_w]
             rfl
            refine join_ (σ := Nat) 2 #[true,true,true,true,true,true,true,true,true,true,true,true,true,true,true,true,false,false] (fun s_ => [(105,.tuple #[.agg #[.int .i64 t291,.int .i64 t292],.int .i64 t293]),(18,.pointer (some ⟨s_,0,none⟩)),(93,.tuple #[.agg #[.int .i64 t291,.int .i64 t292],.int .i64 t293]),(106,.agg #[.int .i64 t291,.int .i64 t292]),(107,.int .i64 t293)]) (fun s_ w' => (w'.cell? (ad289.add ((x17_3).toNat * 2)) = some (.int .i64 ((rd_T32 x8_1 x17_3).f0)) ∧ w'.cell? ⟨(ad289.add ((x17_3).toNat * 2)).block,(ad289.add ((x17_3).toNat * 2)).off + 1,none⟩ = some (.int .i64 ((rd_T32 x8_1 x17_3).f1)) ∧ w'.cell? (ad289.add ((x17_3).toNat * 2)) = some (.int .i64 ((rd_T32 x8_1 x17_3).f0)) ∧ w'.cell? ⟨(ad289.add ((x17_3).toNat * 2)).block,(ad289.add ((x17_3).toNat * 2)).off + 1,none⟩ = some (.int .i64 ((rd_T32 x8_1 x17_3).f1))) ∧ (Kd.R k49 49 w' w.heap.size (fun _ => True) (.slice Ao36 t256.length co36) t256) ∧ (Kd.R k32 32 w' w.heap.size (fun _ => True) (.slice (some ad289) x8_1.length co37) x8_1) ∧ (w'.heap[gb283]? = some (.cells #[.int .i64 t280,.int .i64 t281] 34 (0,0))) ∧ (w'.heap[gb287]? = some (.cells #[.int .i64 t284,.int .i64 t285] 34 (0,0))) ∧ (w'.heap[s_]? = some (.cells #[.int .i64 0,.int .i64 0] 34 (0,0))) ∧ (w.heap.size ≤ s_) ∧ (w.heap.size ≤ s_) ∧ (gb283 ≠ s_) ∧ (s_ ≠ gb283) ∧ (gb287 ≠ s_) ∧ (s_ ≠ gb287) ∧ (Below w.heap.size w w')) ?_ ?_
            rotate_left
            ·intro hCont
             refine two_ (i := 11) (j := 15) (Ni := some 105) (Nj := some 18) #[true,true,true,true,true,true,true,true,true,true,true,true,false,false,false,false,false,false] #[true,true,true,true,true,true,true,true,true,true,true,false,false,false,false,true,false,false] rfl rfl rfl rfl (two_of HT_.out (by kernel_rfl)) (by decide) (by decide) (fun K hK => ?_) (fun K hK => ?_)
             ·skip
              refine goes_ Try.func16 (by kernel_rfl) rfl #[.slice Ao36 t256.length co36,.int .i64 ((rd_T32 x8_1 x17_3).f0),.int .i64 ((rd_T32 x8_1 x17_3).f1)] (by rfl) rfl rfl (by (try simp only [List.map_toArray,List.map_cons,List.map_nil]);first | done | rfl) ?_
              with_reducible refine (gauge_True.calls _ _ t256 ((rd_T32 x8_1 x17_3).f0) ((rd_T32 x8_1 x17_3).f1) t291 t292 t293 _ ?side1 ?side2 A70.out).mono ?_
              (case side1 => repeat (first | exact (Kd.R_reads' HO_6.out).2.2 | (with_reducible refine Kd.C_alloc ?_ _) | (with_reducible refine Kd.C_drewN ?_ _) | (with_reducible refine Kd.C_drew ?_)))
              (case side2 => exact (Kd.R_reads' HO_6.out).2.1)
              rintro e w99 ⟨rfl,hb⟩
              have HS0_ := (hb.cell (World.block_lt_of_cell? _ _ (hHeld.1))).trans (hHeld.1)
              have HS1_ := (hb.cell (World.block_lt_of_cell? _ _ (hHeld.2.1))).trans (hHeld.2.1)
              have HS2_ := (hb.cell (World.block_lt_of_cell? _ _ (hHeld.2.2.1))).trans (hHeld.2.2.1)
              have HS3_ := (hb.cell (World.block_lt_of_cell? _ _ (hHeld.2.2.2))).trans (hHeld.2.2.2)
              refine ⟨_,rfl,?_⟩
              have n0_ := aM_ (Kd.R_below (by (with_reducible repeat (first | apply Kd.R_alloc | apply Kd.R_drewN | apply Kd.R_drew));exact HO_6.out) hb)
              have n1_ := aM_ (Kd.R_below (by (with_reducible repeat (first | apply Kd.R_alloc | apply Kd.R_drewN | apply Kd.R_drew));exact HO_8.out) hb)
              have n2_ := aM_ (kB_ (g := gb283) (o := .cells #[.int .i64 t280,.int .i64 t281] 34 (0,0)) (by (with_reducible repeat (first | refine kN_ ?_ _ | refine kD_ ?_ | refine kA_ ?_ _));exact BK283.out) hb)
              have n3_ := aM_ (kB_ (g := gb287) (o := .cells #[.int .i64 t284,.int .i64 t285] 34 (0,0)) (by (with_reducible repeat (first | refine kN_ ?_ _ | refine kD_ ?_ | refine kA_ ?_ _));exact BK287.out) hb)
              have n4_ := aM_ (bT_ (by repeat (first | (with_reducible first | exact HB.out | apply bA_ | apply bN_ | apply bD_ | refine bS_ ?_ GE283.out | refine bS_ ?_ GE287.out) | exact HB.out)) hb)
              clear HO_6
              clear HO_8
              clear BK283
              clear BK287
              clear HB
              have HO_6 := n0_
              have HO_8 := n1_
              have BK283 := n2_
              have BK287 := n3_
              have HB := n4_
              clear n0_ n1_ n2_ n3_ n4_
              (try clear hb)
              (try clear hb2)
              (try clear hk)
              (try clear hi)
              refine hK.out _ _ ⟨HS0_,HS1_,HS2_,HS3_⟩ (fun hHeld => ?_)
              clear hK K
              refine norm_ (a' := ?_) ?_ ?_
              rotate_left
              ·show Act.put _ (some 105) _ = _
               simp only [Act.put,sB_,sZ_,sS_,i64_w,i32_w]
               rfl
              refine pure_ (i := 12) (N := some 93) (v := ?_) (a' := ?_) #[true,true,true,true,true,true,true,true,true,true,true,true,true,false,false,false,false,false] rfl rfl (any_of HT_.out (by kernel_rfl)) (fun _ _ _ h => h) (Or.inl ⟨by rfl,?_⟩) ?_ ?_
              rotate_left
              ·intro w'
               go_simp
               with_reducible rfl
              rotate_left
              ·simp only [Act.put,sB_,sZ_,sS_,i64_w,i32_w]
               rfl
              refine pure_ (i := 13) (N := some 106) (v := ?_) (a' := ?_) #[true,true,true,true,true,true,true,true,true,true,true,true,true,true,false,false,false,false] rfl rfl (any_of HT_.out (by kernel_rfl)) (fun _ _ _ h => h) (Or.inl ⟨by rfl,?_⟩) ?_ ?_
              rotate_left
              ·intro w'
               go_simp
               with_reducible rfl
              rotate_left
              ·simp only [Act.put,sB_,sZ_,sS_,i64_w,i32_w]
               rfl
              refine pure_ (i := 14) (N := some 107) (v := ?_) (a' := ?_) #[true,true,true,true,true,true,true,true,true,true,true,true,true,true,true,false,false,false] rfl rfl (any_of HT_.out (by kernel_rfl)) (fun _ _ _ h => h) (Or.inl ⟨by rfl,?_⟩) ?_ ?_
              rotate_left
              ·intro w'
               go_simp
               with_reducible rfl
              rotate_left
              ·simp only [Act.put,sB_,sZ_,sS_,i64_w,i32_w]
               rfl
              refine one_ (i := 15) (N := some 18) #[true,true,true,true,true,true,true,true,true,true,true,true,true,true,true,true,false,false] rfl rfl (one_of HT_.out (by kernel_rfl)) (by decide) (fun K hK => ?_)
              refine box_step ?hg (N := 18) ?hd (cs := #[.int .i64 0,.int .i64 0]) (t := 34) ?hr ?_;(case hd => rfl);(case hg => rfl);(case hr => first | (go_simp;done) | (go_simp;rfl))
              intro gb294 hg w100 hbox hb
              have HS0_ := (hb.cell (World.block_lt_of_cell? _ _ (hHeld.1))).trans (hHeld.1)
              have HS1_ := (hb.cell (World.block_lt_of_cell? _ _ (hHeld.2.1))).trans (hHeld.2.1)
              have HS2_ := (hb.cell (World.block_lt_of_cell? _ _ (hHeld.2.2.1))).trans (hHeld.2.2.1)
              have HS3_ := (hb.cell (World.block_lt_of_cell? _ _ (hHeld.2.2.2))).trans (hHeld.2.2.2)
              have n0_ := aM_ (Kd.R_below (by (with_reducible repeat (first | apply Kd.R_alloc | apply Kd.R_drewN | apply Kd.R_drew));exact HO_6.out) hb)
              have n1_ := aM_ (Kd.R_below (by (with_reducible repeat (first | apply Kd.R_alloc | apply Kd.R_drewN | apply Kd.R_drew));exact HO_8.out) hb)
              have n2_ := aM_ (kB_ (g := gb283) (o := .cells #[.int .i64 t280,.int .i64 t281] 34 (0,0)) (by (with_reducible repeat (first | refine kN_ ?_ _ | refine kD_ ?_ | refine kA_ ?_ _));exact BK283.out) hb)
              have n3_ := aM_ (kB_ (g := gb287) (o := .cells #[.int .i64 t284,.int .i64 t285] 34 (0,0)) (by (with_reducible repeat (first | refine kN_ ?_ _ | refine kD_ ?_ | refine kA_ ?_ _));exact BK287.out) hb)
              have n4_ := aM_ (bT_ (by repeat (first | (with_reducible first | exact HB.out | apply bA_ | apply bN_ | apply bD_ | refine bS_ ?_ GE283.out | refine bS_ ?_ GE287.out) | exact HB.out)) hb)
              have n5_ := aM_ (hbox)
              have n6_ := aM_ ((by rw [hg];exact (below_size (by repeat (first | (with_reducible first | exact HB.out | apply bA_ | apply bN_ | apply bD_ | refine bS_ ?_ GE283.out | refine bS_ ?_ GE287.out) | exact HB.out))) : w.heap.size ≤ gb294))
              have n7_ := aM_ ((by rw [hg];exact (below_size (by repeat (first | (with_reducible first | exact HB.out | apply bA_ | apply bN_ | apply bD_ | refine bS_ ?_ GE283.out | refine bS_ ?_ GE287.out) | exact HB.out))) : w.heap.size ≤ gb294))
              have n8_ := aM_ ((by rw [hg];exact Nat.ne_of_lt (blk_lt (g := gb283) (o := .cells #[.int .i64 t280,.int .i64 t281] 34 (0,0)) (by (with_reducible repeat (first | refine kN_ ?_ _ | refine kD_ ?_ | refine kA_ ?_ _));exact BK283.out)) : gb283 ≠ gb294))
              have n9_ := aM_ ((by rw [hg];exact Nat.ne_of_gt (blk_lt (g := gb283) (o := .cells #[.int .i64 t280,.int .i64 t281] 34 (0,0)) (by (with_reducible repeat (first | refine kN_ ?_ _ | refine kD_ ?_ | refine kA_ ?_ _));exact BK283.out)) : gb294 ≠ gb283))
              have n10_ := aM_ ((by rw [hg];exact Nat.ne_of_lt (blk_lt (g := gb287) (o := .cells #[.int .i64 t284,.int .i64 t285] 34 (0,0)) (by (with_reducible repeat (first | refine kN_ ?_ _ | refine kD_ ?_ | refine kA_ ?_ _));exact BK287.out)) : gb287 ≠ gb294))
              have n11_ := aM_ ((by rw [hg];exact Nat.ne_of_gt (blk_lt (g := gb287) (o := .cells #[.int .i64 t284,.int .i64 t285] 34 (0,0)) (by (with_reducible repeat (first | refine kN_ ?_ _ | refine kD_ ?_ | refine kA_ ?_ _));exact BK287.out)) : gb294 ≠ gb287))
              clear HO_6
              clear HO_8
              clear BK283
              clear BK287
              clear HB
              have HO_6 := n0_
              have HO_8 := n1_
              have BK283 := n2_
              have BK287 := n3_
              have HB := n4_
              have BK294 := n5_
              have GW294 := n6_
              have GE294 := n7_
              have NB283_294 := n8_
              have NB294_283 := n9_
              have NB287_294 := n10_
              have NB294_287 := n11_
              clear n0_ n1_ n2_ n3_ n4_ n5_ n6_ n7_ n8_ n9_ n10_ n11_
              clear hb hbox hg
              refine hK.out _ _ ⟨HS0_,HS1_,HS2_,HS3_⟩ (fun hHeld => ?_)
              clear hK K
              refine norm_ (a' := ?_) ?_ ?_
              rotate_left
              ·show Act.put _ (some 18) _ = _
               simp only [Act.put,sB_,sZ_,sS_,i64_w,i32_w]
               rfl
              exact norm_ (by simp only [putAll,Act.put,sB_,sZ_,sS_]) (hCont (gb294) _ ⟨hHeld,(by (with_reducible repeat (first | apply Kd.R_alloc | apply Kd.R_drewN | apply Kd.R_drew));exact HO_6.out),(by (with_reducible repeat (first | apply Kd.R_alloc | apply Kd.R_drewN | apply Kd.R_drew));exact HO_8.out),(by (with_reducible repeat (first | refine kN_ ?_ _ | refine kD_ ?_ | refine kA_ ?_ _));exact BK283.out),(by (with_reducible repeat (first | refine kN_ ?_ _ | refine kD_ ?_ | refine kA_ ?_ _));exact BK287.out),(by (with_reducible repeat (first | refine kN_ ?_ _ | refine kD_ ?_ | refine kA_ ?_ _));exact BK294.out),GW294.out,GE294.out,NB283_294.out,NB294_283.out,NB287_294.out,NB294_287.out,(by repeat (first | (with_reducible first | exact HB.out | apply bA_ | apply bN_ | apply bD_ | refine bS_ ?_ GE283.out | refine bS_ ?_ GE287.out | refine bS_ ?_ GE294.out) | exact HB.out))⟩)
             ·skip
              refine box_step ?hg (N := 18) ?hd (cs := #[.int .i64 0,.int .i64 0]) (t := 34) ?hr ?_;(case hd => rfl);(case hg => rfl);(case hr => first | (go_simp;done) | (go_simp;rfl))
              intro gb294 hg w99 hbox hb
              have HS0_ := (hb.cell (World.block_lt_of_cell? _ _ (hHeld.1))).trans (hHeld.1)
              have HS1_ := (hb.cell (World.block_lt_of_cell? _ _ (hHeld.2.1))).trans (hHeld.2.1)
              have HS2_ := (hb.cell (World.block_lt_of_cell? _ _ (hHeld.2.2.1))).trans (hHeld.2.2.1)
              have HS3_ := (hb.cell (World.block_lt_of_cell? _ _ (hHeld.2.2.2))).trans (hHeld.2.2.2)
              have n0_ := aM_ (Kd.R_below (by (with_reducible repeat (first | apply Kd.R_alloc | apply Kd.R_drewN | apply Kd.R_drew));exact HO_6.out) hb)
              have n1_ := aM_ (Kd.R_below (by (with_reducible repeat (first | apply Kd.R_alloc | apply Kd.R_drewN | apply Kd.R_drew));exact HO_8.out) hb)
              have n2_ := aM_ (kB_ (g := gb283) (o := .cells #[.int .i64 t280,.int .i64 t281] 34 (0,0)) (by (with_reducible repeat (first | refine kN_ ?_ _ | refine kD_ ?_ | refine kA_ ?_ _));exact BK283.out) hb)
              have n3_ := aM_ (kB_ (g := gb287) (o := .cells #[.int .i64 t284,.int .i64 t285] 34 (0,0)) (by (with_reducible repeat (first | refine kN_ ?_ _ | refine kD_ ?_ | refine kA_ ?_ _));exact BK287.out) hb)
              have n4_ := aM_ (bT_ (by repeat (first | (with_reducible first | exact HB.out | apply bA_ | apply bN_ | apply bD_ | refine bS_ ?_ GE283.out | refine bS_ ?_ GE287.out) | exact HB.out)) hb)
              have n5_ := aM_ (hbox)
              have n6_ := aM_ ((by rw [hg];exact (below_size (by repeat (first | (with_reducible first | exact HB.out | apply bA_ | apply bN_ | apply bD_ | refine bS_ ?_ GE283.out | refine bS_ ?_ GE287.out) | exact HB.out))) : w.heap.size ≤ gb294))
              have n7_ := aM_ ((by rw [hg];exact (below_size (by repeat (first | (with_reducible first | exact HB.out | apply bA_ | apply bN_ | apply bD_ | refine bS_ ?_ GE283.out | refine bS_ ?_ GE287.out) | exact HB.out))) : w.heap.size ≤ gb294))
              have n8_ := aM_ ((by rw [hg];exact Nat.ne_of_lt (blk_lt (g := gb283) (o := .cells #[.int .i64 t280,.int .i64 t281] 34 (0,0)) (by (with_reducible repeat (first | refine kN_ ?_ _ | refine kD_ ?_ | refine kA_ ?_ _));exact BK283.out)) : gb283 ≠ gb294))
              have n9_ := aM_ ((by rw [hg];exact Nat.ne_of_gt (blk_lt (g := gb283) (o := .cells #[.int .i64 t280,.int .i64 t281] 34 (0,0)) (by (with_reducible repeat (first | refine kN_ ?_ _ | refine kD_ ?_ | refine kA_ ?_ _));exact BK283.out)) : gb294 ≠ gb283))
              have n10_ := aM_ ((by rw [hg];exact Nat.ne_of_lt (blk_lt (g := gb287) (o := .cells #[.int .i64 t284,.int .i64 t285] 34 (0,0)) (by (with_reducible repeat (first | refine kN_ ?_ _ | refine kD_ ?_ | refine kA_ ?_ _));exact BK287.out)) : gb287 ≠ gb294))
              have n11_ := aM_ ((by rw [hg];exact Nat.ne_of_gt (blk_lt (g := gb287) (o := .cells #[.int .i64 t284,.int .i64 t285] 34 (0,0)) (by (with_reducible repeat (first | refine kN_ ?_ _ | refine kD_ ?_ | refine kA_ ?_ _));exact BK287.out)) : gb294 ≠ gb287))
              clear HO_6
              clear HO_8
              clear BK283
              clear BK287
              clear HB
              have HO_6 := n0_
              have HO_8 := n1_
              have BK283 := n2_
              have BK287 := n3_
              have HB := n4_
              have BK294 := n5_
              have GW294 := n6_
              have GE294 := n7_
              have NB283_294 := n8_
              have NB294_283 := n9_
              have NB287_294 := n10_
              have NB294_287 := n11_
              clear n0_ n1_ n2_ n3_ n4_ n5_ n6_ n7_ n8_ n9_ n10_ n11_
              clear hb hbox hg
              refine hK.out _ _ ⟨HS0_,HS1_,HS2_,HS3_⟩ (fun hHeld => ?_)
              clear hK K
              refine norm_ (a' := ?_) ?_ ?_
              rotate_left
              ·show Act.put _ (some 18) _ = _
               simp only [Act.put,sB_,sZ_,sS_,i64_w,i32_w]
               rfl
              refine one_ (i := 11) (N := some 105) #[true,true,true,true,true,true,true,true,true,true,true,true,false,false,false,true,false,false] rfl rfl (one_of HT_.out (by kernel_rfl)) (by decide) (fun K hK => ?_)
              refine goes_ Try.func16 (by kernel_rfl) rfl #[.slice Ao36 t256.length co36,.int .i64 ((rd_T32 x8_1 x17_3).f0),.int .i64 ((rd_T32 x8_1 x17_3).f1)] (by rfl) rfl rfl (by (try simp only [List.map_toArray,List.map_cons,List.map_nil]);first | done | rfl) ?_
              with_reducible refine (gauge_True.calls _ _ t256 ((rd_T32 x8_1 x17_3).f0) ((rd_T32 x8_1 x17_3).f1) t291 t292 t293 _ ?side1 ?side2 A70.out).mono ?_
              (case side1 => repeat (first | exact (Kd.R_reads' HO_6.out).2.2 | (with_reducible refine Kd.C_alloc ?_ _) | (with_reducible refine Kd.C_drewN ?_ _) | (with_reducible refine Kd.C_drew ?_)))
              (case side2 => exact (Kd.R_reads' HO_6.out).2.1)
              rintro e w100 ⟨rfl,hb⟩
              have HS0_ := (hb.cell (World.block_lt_of_cell? _ _ (hHeld.1))).trans (hHeld.1)
              have HS1_ := (hb.cell (World.block_lt_of_cell? _ _ (hHeld.2.1))).trans (hHeld.2.1)
              have HS2_ := (hb.cell (World.block_lt_of_cell? _ _ (hHeld.2.2.1))).trans (hHeld.2.2.1)
              have HS3_ := (hb.cell (World.block_lt_of_cell? _ _ (hHeld.2.2.2))).trans (hHeld.2.2.2)
              refine ⟨_,rfl,?_⟩
              have n0_ := aM_ (Kd.R_below (by (with_reducible repeat (first | apply Kd.R_alloc | apply Kd.R_drewN | apply Kd.R_drew));exact HO_6.out) hb)
              have n1_ := aM_ (Kd.R_below (by (with_reducible repeat (first | apply Kd.R_alloc | apply Kd.R_drewN | apply Kd.R_drew));exact HO_8.out) hb)
              have n2_ := aM_ (kB_ (g := gb283) (o := .cells #[.int .i64 t280,.int .i64 t281] 34 (0,0)) (by (with_reducible repeat (first | refine kN_ ?_ _ | refine kD_ ?_ | refine kA_ ?_ _));exact BK283.out) hb)
              have n3_ := aM_ (kB_ (g := gb287) (o := .cells #[.int .i64 t284,.int .i64 t285] 34 (0,0)) (by (with_reducible repeat (first | refine kN_ ?_ _ | refine kD_ ?_ | refine kA_ ?_ _));exact BK287.out) hb)
              have n4_ := aM_ (kB_ (g := gb294) (o := .cells #[.int .i64 0,.int .i64 0] 34 (0,0)) (by (with_reducible repeat (first | refine kN_ ?_ _ | refine kD_ ?_ | refine kA_ ?_ _));exact BK294.out) hb)
              have n5_ := aM_ (bT_ (by repeat (first | (with_reducible first | exact HB.out | apply bA_ | apply bN_ | apply bD_ | refine bS_ ?_ GE283.out | refine bS_ ?_ GE287.out | refine bS_ ?_ GE294.out) | exact HB.out)) hb)
              clear HO_6
              clear HO_8
              clear BK283
              clear BK287
              clear BK294
              clear HB
              have HO_6 := n0_
              have HO_8 := n1_
              have BK283 := n2_
              have BK287 := n3_
              have BK294 := n4_
              have HB := n5_
              clear n0_ n1_ n2_ n3_ n4_ n5_
              (try clear hb)
              (try clear hb2)
              (try clear hk)
              (try clear hi)
              refine hK.out _ _ ⟨HS0_,HS1_,HS2_,HS3_⟩ (fun hHeld => ?_)
              clear hK K
              refine norm_ (a' := ?_) ?_ ?_
              rotate_left
              ·show Act.put _ (some 105) _ = _
               simp only [Act.put,sB_,sZ_,sS_,i64_w,i32_w]
               rfl
              refine pure_ (i := 12) (N := some 93) (v := ?_) (a' := ?_) #[true,true,true,true,true,true,true,true,true,true,true,true,true,false,false,true,false,false] rfl rfl (any_of HT_.out (by kernel_rfl)) (fun _ _ _ h => h) (Or.inl ⟨by rfl,?_⟩) ?_ ?_
              rotate_left
              ·intro w'
               go_simp
               with_reducible rfl
              rotate_left
              ·simp only [Act.put,sB_,sZ_,sS_,i64_w,i32_w]
               rfl
              refine pure_ (i := 13) (N := some 106) (v := ?_) (a' := ?_) #[true,true,true,true,true,true,true,true,true,true,true,true,true,true,false,true,false,false] rfl rfl (any_of HT_.out (by kernel_rfl)) (fun _ _ _ h => h) (Or.inl ⟨by rfl,?_⟩) ?_ ?_
              rotate_left
              ·intro w'
               go_simp
               with_reducible rfl
              rotate_left
              ·simp only [Act.put,sB_,sZ_,sS_,i64_w,i32_w]
               rfl
              refine pure_ (i := 14) (N := some 107) (v := ?_) (a' := ?_) #[true,true,true,true,true,true,true,true,true,true,true,true,true,true,true,true,false,false] rfl rfl (any_of HT_.out (by kernel_rfl)) (fun _ _ _ h => h) (Or.inl ⟨by rfl,?_⟩) ?_ ?_
              rotate_left
              ·intro w'
               go_simp
               with_reducible rfl
              rotate_left
              ·simp only [Act.put,sB_,sZ_,sS_,i64_w,i32_w]
               rfl
              exact norm_ (by simp only [putAll,Act.put,sB_,sZ_,sS_]) (hCont (gb294) _ ⟨hHeld,(by (with_reducible repeat (first | apply Kd.R_alloc | apply Kd.R_drewN | apply Kd.R_drew));exact HO_6.out),(by (with_reducible repeat (first | apply Kd.R_alloc | apply Kd.R_drewN | apply Kd.R_drew));exact HO_8.out),(by (with_reducible repeat (first | refine kN_ ?_ _ | refine kD_ ?_ | refine kA_ ?_ _));exact BK283.out),(by (with_reducible repeat (first | refine kN_ ?_ _ | refine kD_ ?_ | refine kA_ ?_ _));exact BK287.out),(by (with_reducible repeat (first | refine kN_ ?_ _ | refine kD_ ?_ | refine kA_ ?_ _));exact BK294.out),GW294.out,GE294.out,NB283_294.out,NB294_283.out,NB287_294.out,NB294_287.out,(by repeat (first | (with_reducible first | exact HB.out | apply bA_ | apply bN_ | apply bD_ | refine bS_ ?_ GE283.out | refine bS_ ?_ GE287.out | refine bS_ ?_ GE294.out) | exact HB.out))⟩)
            rintro gb294 w101 ⟨hS_,h0_,h1_,h2_,h3_,h4_,h5_,h6_,h7_,h8_,h9_,h10_,h11_⟩
            have n0_ : Aside0 (Kd.R k49 49 w101 w.heap.size (fun _ => True) (.slice Ao36 t256.length co36) t256) := ⟨h0_⟩
            have n1_ : Aside0 (Kd.R k32 32 w101 w.heap.size (fun _ => True) (.slice (some ad289) x8_1.length co37) x8_1) := ⟨h1_⟩
            have n2_ : Aside0 (w101.heap[gb283]? = some (.cells #[.int .i64 t280,.int .i64 t281] 34 (0,0))) := ⟨h2_⟩
            have n3_ : Aside0 (w101.heap[gb287]? = some (.cells #[.int .i64 t284,.int .i64 t285] 34 (0,0))) := ⟨h3_⟩
            have n4_ : Aside0 (w101.heap[gb294]? = some (.cells #[.int .i64 0,.int .i64 0] 34 (0,0))) := ⟨h4_⟩
            have n5_ : Aside0 (w.heap.size ≤ gb294) := ⟨h5_⟩
            have n6_ : Aside0 (w.heap.size ≤ gb294) := ⟨h6_⟩
            have n7_ : Aside0 (gb283 ≠ gb294) := ⟨h7_⟩
            have n8_ : Aside0 (gb294 ≠ gb283) := ⟨h8_⟩
            have n9_ : Aside0 (gb287 ≠ gb294) := ⟨h9_⟩
            have n10_ : Aside0 (gb294 ≠ gb287) := ⟨h10_⟩
            have n11_ : Aside0 (Below w.heap.size w w101) := ⟨h11_⟩
            clear HO_6
            clear HO_8
            clear BK283
            clear BK287
            clear HB
            clear h0_ h1_ h2_ h3_ h4_ h5_ h6_ h7_ h8_ h9_ h10_ h11_
            have HO_6 := n0_
            have HO_8 := n1_
            have BK283 := n2_
            have BK287 := n3_
            have BK294 := n4_
            have GW294 := n5_
            have GE294 := n6_
            have NB283_294 := n7_
            have NB294_283 := n8_
            have NB287_294 := n9_
            have NB294_287 := n10_
            have HB := n11_
            clear n0_ n1_ n2_ n3_ n4_ n5_ n6_ n7_ n8_ n9_ n10_ n11_
            have hHeld : w101.cell? (ad289.add ((x17_3).toNat * 2)) = some (.int .i64 ((rd_T32 x8_1 x17_3).f0)) ∧ w101.cell? ⟨(ad289.add ((x17_3).toNat * 2)).block,(ad289.add ((x17_3).toNat * 2)).off + 1,none⟩ = some (.int .i64 ((rd_T32 x8_1 x17_3).f1)) ∧ w101.cell? (ad289.add ((x17_3).toNat * 2)) = some (.int .i64 ((rd_T32 x8_1 x17_3).f0)) ∧ w101.cell? ⟨(ad289.add ((x17_3).toNat * 2)).block,(ad289.add ((x17_3).toNat * 2)).off + 1,none⟩ = some (.int .i64 ((rd_T32 x8_1 x17_3).f1)) := hS_
            refine norm_ (a' := ?_) ?_ ?_
            rotate_left
            ·simp only [putAll,Act.put,sB_,sZ_,sS_]
             rfl
            refine one_ (i := 16) (N := none) #[true,true,true,true,true,true,true,true,true,true,true,true,true,true,true,true,true,false] rfl rfl (one_of HT_.out (by kernel_rfl)) (by decide) (fun K hK => ?_)
            have hs102 : w101.cell? ⟨gb294,0,none⟩ = some (.int .i64 0) := (blk_cell BK294.out 0).trans rfl
            have hfs102 := blk_frozen BK294.out 0
            have hns102_0 := NB283_294.out
            have hns102_1 := NB287_294.out
            have hms102_0 := NB294_283.out
            have hms102_1 := NB294_287.out
            have hs103 : w101.cell? ⟨gb294,1,none⟩ = some (.int .i64 0) := (blk_cell BK294.out 1).trans rfl
            have hfs103 := blk_frozen BK294.out 1
            have hns103_0 := NB283_294.out
            have hns103_1 := NB287_294.out
            have hms103_0 := NB294_283.out
            have hms103_1 := NB294_287.out
            refine skip_ (w1 := ?_) (by rfl) rfl ?_ ?_
            rotate_left
            ·go_simp
             rfl
            refine hK.out _ _ ⟨((cell_far (p := ⟨gb294,_,none⟩) (by first | exact Kd.own_blk (Kd.R_ne HO_8.out BK294.out (by decide)) | (rw [add_block];exact Kd.own_blk (Kd.R_ne HO_8.out BK294.out (by decide))) | (show (Addr.add _ _).block ≠ _;rw [add_block];exact Kd.own_blk (Kd.R_ne HO_8.out BK294.out (by decide))) | (dsimp only;exact Kd.own_blk (Kd.R_ne HO_8.out BK294.out (by decide)))) _).trans (((cell_far (p := ⟨gb294,_,none⟩) (by first | exact Kd.own_blk (Kd.R_ne HO_8.out BK294.out (by decide)) | (rw [add_block];exact Kd.own_blk (Kd.R_ne HO_8.out BK294.out (by decide))) | (show (Addr.add _ _).block ≠ _;rw [add_block];exact Kd.own_blk (Kd.R_ne HO_8.out BK294.out (by decide))) | (dsimp only;exact Kd.own_blk (Kd.R_ne HO_8.out BK294.out (by decide)))) _).trans (hHeld.1)))),((cell_far (p := ⟨gb294,_,none⟩) (by first | exact Kd.own_blk (Kd.R_ne HO_8.out BK294.out (by decide)) | (rw [add_block];exact Kd.own_blk (Kd.R_ne HO_8.out BK294.out (by decide))) | (show (Addr.add _ _).block ≠ _;rw [add_block];exact Kd.own_blk (Kd.R_ne HO_8.out BK294.out (by decide))) | (dsimp only;exact Kd.own_blk (Kd.R_ne HO_8.out BK294.out (by decide)))) _).trans (((cell_far (p := ⟨gb294,_,none⟩) (by first | exact Kd.own_blk (Kd.R_ne HO_8.out BK294.out (by decide)) | (rw [add_block];exact Kd.own_blk (Kd.R_ne HO_8.out BK294.out (by decide))) | (show (Addr.add _ _).block ≠ _;rw [add_block];exact Kd.own_blk (Kd.R_ne HO_8.out BK294.out (by decide))) | (dsimp only;exact Kd.own_blk (Kd.R_ne HO_8.out BK294.out (by decide)))) _).trans (hHeld.2.1)))),((cell_far (p := ⟨gb294,_,none⟩) (by first | exact Kd.own_blk (Kd.R_ne HO_8.out BK294.out (by decide)) | (rw [add_block];exact Kd.own_blk (Kd.R_ne HO_8.out BK294.out (by decide))) | (show (Addr.add _ _).block ≠ _;rw [add_block];exact Kd.own_blk (Kd.R_ne HO_8.out BK294.out (by decide))) | (dsimp only;exact Kd.own_blk (Kd.R_ne HO_8.out BK294.out (by decide)))) _).trans (((cell_far (p := ⟨gb294,_,none⟩) (by first | exact Kd.own_blk (Kd.R_ne HO_8.out BK294.out (by decide)) | (rw [add_block];exact Kd.own_blk (Kd.R_ne HO_8.out BK294.out (by decide))) | (show (Addr.add _ _).block ≠ _;rw [add_block];exact Kd.own_blk (Kd.R_ne HO_8.out BK294.out (by decide))) | (dsimp only;exact Kd.own_blk (Kd.R_ne HO_8.out BK294.out (by decide)))) _).trans (hHeld.2.2.1)))),((cell_far (p := ⟨gb294,_,none⟩) (by first | exact Kd.own_blk (Kd.R_ne HO_8.out BK294.out (by decide)) | (rw [add_block];exact Kd.own_blk (Kd.R_ne HO_8.out BK294.out (by decide))) | (show (Addr.add _ _).block ≠ _;rw [add_block];exact Kd.own_blk (Kd.R_ne HO_8.out BK294.out (by decide))) | (dsimp only;exact Kd.own_blk (Kd.R_ne HO_8.out BK294.out (by decide)))) _).trans (((cell_far (p := ⟨gb294,_,none⟩) (by first | exact Kd.own_blk (Kd.R_ne HO_8.out BK294.out (by decide)) | (rw [add_block];exact Kd.own_blk (Kd.R_ne HO_8.out BK294.out (by decide))) | (show (Addr.add _ _).block ≠ _;rw [add_block];exact Kd.own_blk (Kd.R_ne HO_8.out BK294.out (by decide))) | (dsimp only;exact Kd.own_blk (Kd.R_ne HO_8.out BK294.out (by decide)))) _).trans (hHeld.2.2.2))))⟩ (fun hHeld => ?_)
            clear hK K
            refine pure_ (i := 17) (N := some 19) (v := ?_) (a' := ?_) #[true,true,true,true,true,true,true,true,true,true,true,true,true,true,true,true,true,true] rfl rfl (any_of HT_.out (by kernel_rfl)) (fun _ _ _ h => h) (Or.inl ⟨by rfl,?_⟩) ?_ ?_
            rotate_left
            ·intro w'
             go_simp
             with_reducible rfl
            rotate_left
            ·simp only [Act.put,sB_,sZ_,sS_,i64_w,i32_w]
             rfl
            refine done_ (done_of HT_.out (by kernel_rfl)) ?_
            try go_wp2
            go_ret
            exact ⟨by first | rfl | (simp [*] <;> rfl),by repeat (first | (with_reducible first | exact HB.out | apply bA_ | apply bN_ | apply bD_ | refine bS_ ?_ GE283.out | refine bS_ ?_ GE287.out | refine bS_ ?_ GE294.out) | exact HB.out)⟩
          ·rw [if_neg c69] at H
           exact absurd H (by simp)
         ·rw [if_neg c68] at H
          have c68b0 : decide (x17_3 < (x8_1.length : Int)) = false := decide_eq_false c68
          clear c68
          replace H := oB_ H
          obtain ⟨t288,A1040,H⟩ := H
          replace H : (some t288) = some r := H
          have A104 := aM_ A1040
          clear A1040
          obtain rfl := Option.some.inj H
          go_wp2_with (first | ((with_reducible refine gate_callee (f := 18) rfl ?_);refine goesL_ (some 116) rfl rfl Try.func18 (by kernel_rfl) rfl #[] rfl (by (try simp only [List.map_toArray,List.map_cons,List.map_nil]);first | done | rfl) ?_;(with_reducible refine (L_awake.calls k3  t288 _ A104.out).mono ?_);rintro e w105 ⟨rfl,hb⟩;refine ⟨_,rfl,?_⟩;have n0_ := aM_ (Kd.R_below (by (with_reducible repeat (first | apply Kd.R_alloc | apply Kd.R_drewN | apply Kd.R_drew));exact HO_6.out) hb);have n1_ := aM_ (Kd.R_below (by (with_reducible repeat (first | apply Kd.R_alloc | apply Kd.R_drewN | apply Kd.R_drew));exact HO_8.out) hb);have n2_ := aM_ (kB_ (g := gb283) (o := .cells #[.int .i64 t280,.int .i64 t281] 34 (0,0)) (by (with_reducible repeat (first | refine kN_ ?_ _ | refine kD_ ?_ | refine kA_ ?_ _));exact BK283.out) hb);have n3_ := aM_ (kB_ (g := gb287) (o := .cells #[.int .i64 t284,.int .i64 t285] 34 (0,0)) (by (with_reducible repeat (first | refine kN_ ?_ _ | refine kD_ ?_ | refine kA_ ?_ _));exact BK287.out) hb);have n4_ := aM_ (bT_ (by repeat (first | (with_reducible first | exact HB.out | apply bA_ | apply bN_ | apply bD_ | refine bS_ ?_ GE283.out | refine bS_ ?_ GE287.out) | exact HB.out)) hb);clear HO_6;clear HO_8;clear BK283;clear BK287;clear HB;have HO_6 := n0_;have HO_8 := n1_;have BK283 := n2_;have BK287 := n3_;have HB := n4_;clear n0_ n1_ n2_ n3_ n4_;(try clear hb);(try clear hb2);(try clear hk);(try clear hi)))
          go_ret
          exact ⟨by first | rfl | (simp [*] <;> rfl),by repeat (first | (with_reducible first | exact HB.out | apply bA_ | apply bN_ | apply bD_ | refine bS_ ?_ GE283.out | refine bS_ ?_ GE287.out) | exact HB.out)⟩

def L_GaugeAgrees.Pure : Prop := ∀ (l0 : List Int) (a1 : Int),l0.length ≤ maxLen → l0.length * 8 ≤ 140737488351232 → (∀ x ∈ l0,(Lit.int .i64 x).wf = true) → (Lit.int .i64 a1).wf = true → ∃ k,L_GaugeAgrees.f k l0 a1 = some true
theorem L_GaugeAgrees.walk (P : L_GaugeAgrees.Pure) (a0 : Option Addr) (len0 cap0 : Nat) (z0 : List Int) (a1 : Int) (w : World) (w0 : (a0 = none ∧ len0 = 0 ∧ cap0 = 0 ∧ z0 = []) ∨ ∃ x,a0 = some x ∧ len0 ≤ cap0 ∧ cap0 ≤ maxLen ∧ z0.length = cap0 ∧ (∀ i,i < z0.length → w.cell? (x.add i) = some (.int .i64 (z0.getD i 0))) ∧ ∀ n ∈ z0,(Lit.int .i64 n).wf = true) (y0 : len0 * 8 ≤ 140737488351232) (w1 : (Lit.int .i64 a1).wf = true) :
  Calls Try.prog 3 #[.slice a0 len0 cap0,.int .i64 a1] w fun e w' => e = .returned (.bool true) ∧ Below w.heap.size w w' := by
 obtain ⟨l0,rfl,hr0,hm0,hw0,hc0⟩ := ReadsInt.ofRowC w0
 obtain ⟨k,h⟩ := P l0 a1 hm0 y0 hw0 w1
 refine (L_GaugeAgrees.calls k _ _ l0 a1 true w (Kd.C_of_reads (d := (0 : Int)) (h1 := fun _ => rfl) hr0) hc0 h).mono ?_
 rintro e w' ⟨rfl,hd⟩
 exact ⟨rfl,hd⟩

end Go.Proofs.Ytdbpobadeibjaab.GE
