-- written for this claim by a program of this session (wip/gp), over the kit's own printer; Lean checks it
import Derived.Test.YtdbpobadeibjaabGEx0
import Derived.Test.YtdbpobadeibjaabGEx3
import Derived.Test.YtdbpobadeibjaabGEx8
import Derived.Test.YtdbpobadeibjaabGEx9
namespace Go.Proofs.Ytdbpobadeibjaab.GE
open Go.RowKit Go.Proofs.YtdbpobadeibjaabW.PrintWords Go.Proofs.YtdbpobadeibjaabW.PrintLast Go.Proofs.YtdbpobadeibjaabW.PrintMore
attribute [local go_sem] max2_int min2_int max_two min_two max_three min_three max_four min_four
set_option linter.unusedVariables false
set_option linter.unusedSimpArgs false

/-! ### K_Showing: function 14 -/
def K_Showing.l0 : Nat → List (S49) → Int → Int → List Int → Int → Int → Int → Option (Int × Int)
 | 0,_,_,_,_,_,_,_ => none
 | k + 1,x1,x2,x3,x9,x10,x11,x1000 => if x11 ≥ 0 then (if 0 ≤ x11 then (if x11 < (x9.length : Int) then (if 0 ≤ (rd x9 x11) then (if (rd x9 x11) < (x1.length : Int) then ((R_Made.f ((rd_T49 x1 (rd x9 x11)).f0.f0) ((rd_T49 x1 (rd x9 x11)).f0.f1) ((rd_T49 x1 (rd x9 x11)).f1.f0) ((rd_T49 x1 (rd x9 x11)).f1.f1) ((rd_T49 x1 (rd x9 x11)).f2) ((rd_T49 x1 (rd x9 x11)).f3) ((rd_T49 x1 (rd x9 x11)).f4) x3).bind fun bt155 => ((D_In.f x1000 bt155.1 bt155.2).bind fun bt158 => ((some (([bt155.1,bt155.2,bt158.1] : List Int) : List Int)).bind fun y160 => (if 0 ≤ x10 then (if x10 < (y160.length : Int) then (K_Showing.l0 k x1 x2 (rd y160 x10) x9 x10 (wrap64 (x11 - 1)) bt158.2) else (none)) else (none))))) else (none)) else (none)) else (none)) else (none)) else (if 0 ≤ x2 then (if x2 < (x1.length : Int) then ((R_Down.f x3 ((rd_T49 x1 x2).f2)).bind fun t165 => (if (wrap64 (2 * (wrap64 (x3 - (wrap64 (t165 * ((rd_T49 x1 x2).f2))))))) > ((rd_T49 x1 x2).f2) then (some (wrap64 ((wrap64 (t165 * ((rd_T49 x1 x2).f2))) + ((rd_T49 x1 x2).f2)),x1000)) else (if (wrap64 (2 * (wrap64 (x3 - (wrap64 (t165 * ((rd_T49 x1 x2).f2))))))) = ((rd_T49 x1 x2).f2) then ((D_One.f x1000 2).bind fun bt166 => (if bt166.1 = true then (some (wrap64 ((wrap64 (t165 * ((rd_T49 x1 x2).f2))) + ((rd_T49 x1 x2).f2)),bt166.2)) else (some (wrap64 (t165 * ((rd_T49 x1 x2).f2)),bt166.2)))) else (some (wrap64 (t165 * ((rd_T49 x1 x2).f2)),x1000))))) else (none)) else (none))
def K_Showing.f (k : Nat) (s0_0 : Int) (l1 : List (S49)) (a2 : Int) (a3 : Int) : Option (Int × Int) := (R_Chain.f k l1 a2).bind fun t148 => ((D_Upto.f s0_0 3).bind fun bt151 => (K_Showing.l0 k l1 a2 a3 t148 bt151.1 (wrap64 ((t148.length : Int) - 1)) bt151.2))
def K_Showing.T7 : Bool × List (List Nat × List Nat) := (true,[([],[]),([0],[0]),([],[]),([2],[2]),([],[]),([],[]),([4,5],[4,5]),([1,3,6],[1,3,6]),([],[]),([7,8],[7,8]),([9],[9]),([10,6,0,1,2,3,4,5,6,7,8,9,10],[10])])
def K_Showing.B7 : List Nat := [0,1,0,4,0,0,48,127,0,511,1023,2047]
theorem K_Showing.tab7 : rtab .any (opsOf Try.f14 7) = K_Showing.T7 := by kernel_rfl
theorem K_Showing.bits7 : waitsOk K_Showing.T7.2 K_Showing.B7 = true := by kernel_rfl
set_option maxHeartbeats 8000000 in
set_option maxRecDepth 100000 in
theorem K_Showing.calls (k : Nat) (g : Nat) (s0_0 : Int) (A1 : Option Addr) (c1 : Nat) (l1 : List (S49)) (a2 : Int) (a3 : Int) (r1 : Int) (r2 : Int) (w0 w : World) (hI : IsS65 w0 w g s0_0) (hB : Below w0.heap.size w0 w) (hr1 : ∀ W_,KeepBut w W_ g none → Kd.C k49 W_ A1 l1.length l1) (hc1 : l1.length ≤ c1) (h : K_Showing.f k s0_0 l1 a2 a3 = some (r1,r2)) :
  Calls Try.prog 14 #[.pointer (some ⟨g,0,none⟩),.slice A1 l1.length c1,.int .i64 a2,.int .i64 a3] w fun e w' => e = .returned (.int .i64 r1) ∧ IsS65 w0 w' g r2 ∧ Below w0.heap.size w0 w' ∧ KeepBut w w' g none := by
 have hu49 := Try.underlying49
 have hu34 := Try.underlying34
 have HR1 := aM_ hr1
 have HC1 := aM_ hc1
 clear hr1 hc1
 have HI0 := aM_ hI
 have HK := aM_ (KeepBut.refl w g none)
 have HL := aM_ hB.size
 clear hI
 have HW0 := aM_ hB.size
 have HB := aM_ hB
 clear hB
 have H : ((R_Chain.f k l1 a2).bind fun t148 => ((D_Upto.f s0_0 3).bind fun bt151 => (K_Showing.l0 k l1 a2 a3 t148 bt151.1 (wrap64 ((t148.length : Int) - 1)) bt151.2))) = some (r1,r2) := h
 clear h
 replace H := oB_ H
 obtain ⟨t148,A50,H⟩ := H
 replace H : ((D_Upto.f s0_0 3).bind fun bt151 => (K_Showing.l0 k l1 a2 a3 t148 bt151.1 (wrap64 ((t148.length : Int) - 1)) bt151.2)) = some (r1,r2) := H
 have A5 := aM_ A50
 clear A50
 replace H := oB_ H
 obtain ⟨⟨t151,t152⟩,A60,H⟩ := H
 replace H : (K_Showing.l0 k l1 a2 a3 t148 t151 (wrap64 ((t148.length : Int) - 1)) t152) = some (r1,r2) := H
 have A6 := aM_ A60
 clear A60
 have H' := aM_ H
 clear H
 go_enter Try.func14,Try.ntmps14
 go_wp2_with (first | ((with_reducible refine gate_callee (f := 39) rfl ?_);refine goesL_ (some 18) rfl rfl Try.func39 (by kernel_rfl) rfl #[.slice A1 l1.length c1,.int .i64 a2] rfl (by (try simp only [List.map_toArray,List.map_cons,List.map_nil]);first | done | rfl) ?_;(with_reducible refine (R_Chain.calls k _ _ l1 a2 t148 _ ?side1 ?side2 A5.out).mono ?_);(case side1 => exact Kd.C_foot_now HR1.out (by repeat (first | (with_reducible first | exact HK.out | apply KeepBut.set_ | apply eN_ | apply eD_ | apply eA_) | exact HK.out)));(case side2 => exact HC1.out);rintro e w7 ⟨v149,rfl,ho0,hb⟩;refine ⟨_,rfl,?_⟩;have n0_ := aM_ (Kd.R_lower ho0 (keep_size (w := w) (g := g) (row := none) (by repeat (first | (with_reducible first | exact HK.out | apply KeepBut.set_ | apply eN_ | apply eD_ | apply eA_) | exact HK.out))));have n1_ := aM_ (IsS65.below (by repeat (first | (with_reducible first | exact HI0.out | apply IsS65.alloc | apply IsS65.drewN | apply IsS65.drew | apply IsS65.set_0) | exact HI0.out)) hb);have n2_ := aM_ (KeepBut.trans (by repeat (first | (with_reducible first | exact HK.out | apply KeepBut.set_ | apply eN_ | apply eD_ | apply eA_) | exact HK.out)) (KeepBut.of_below hb g none) (.inl rfl));have n3_ := aM_ (bT_ (by repeat (first | (with_reducible first | exact HB.out | apply bA_ | apply bN_ | apply bD_ | refine bS_ ?_ (IsS65.ge HI0.out)) | exact HB.out)) hb);clear HI0;clear HK;clear HB;have HO150 := n0_;have HI0 := n1_;have HK := n2_;have HB := n3_;clear n0_ n1_ n2_ n3_;(try clear hb);(try clear hb2);(try clear hk);(try clear hi);(try clear ho0)) | ((with_reducible refine gate_callee (f := 13) rfl ?_);refine goesL_ (some 20) rfl rfl Try.func13 (by kernel_rfl) rfl #[.pointer (some ⟨g,0,none⟩),.int .i64 3] rfl (by (try simp only [List.map_toArray,List.map_cons,List.map_nil]);first | done | rfl) ?_;(with_reducible refine (D_Upto.calls g s0_0 3 t151 t152 w0 _ ?side1 ?side2 A6.out).mono ?_);(case side1 => repeat (first | (with_reducible first | exact HI0.out | apply IsS65.alloc | apply IsS65.drewN | apply IsS65.drew | apply IsS65.set_0) | exact HI0.out));(case side2 => repeat (first | (with_reducible first | exact HB.out | apply bA_ | apply bN_ | apply bD_ | refine bS_ ?_ (IsS65.ge HI0.out)) | exact HB.out));rintro e w8 ⟨rfl,hi,hb,hk⟩;refine ⟨_,rfl,?_⟩;have n0_ := aM_ (Kd.R_mono (Kd.R_keep (IsS65.apart (show IsS65 w0 _ g s0_0 from by repeat (first | (with_reducible first | exact HI0.out | apply IsS65.alloc | apply IsS65.drewN | apply IsS65.drew | apply IsS65.set_0) | exact HI0.out)) (by (with_reducible repeat (first | apply Kd.R_alloc | apply Kd.R_drewN | apply Kd.R_drew));exact HO150.out) (by decide)) hk (fun _ h => h.2)) (fun _ h => h.1));have n1_ := aM_ (KeepBut.trans (by repeat (first | (with_reducible first | exact HK.out | apply KeepBut.set_ | apply eN_ | apply eD_ | apply eA_) | exact HK.out)) hk (.inl rfl));have n2_ := aM_ (hb);have n3_ := aM_ (hi);clear HO150;clear HK;clear HB;clear HI0;have HO150 := n0_;have HK := n1_;have HB := n2_;have HI0 := n3_;clear n0_ n1_ n2_ n3_;(try clear hb);(try clear hb2);(try clear hk);(try clear hi);obtain ⟨Ao9,co9,eo9⟩ := Kd.R_slice HO150.out;subst eo9))
 go_loopg [3,11] k (fun kq v3 v11 w' => ∃ (x3_1 : Int) (x11_1 : Int) (x1000_1 : Int),v3 = .int .i64 x3_1 ∧ v11 = .int .i64 x11_1 ∧ Aside0 (K_Showing.l0 kq l1 a2 x3_1 t148 t151 x11_1 x1000_1 = some (r1,r2)) ∧ Aside0 (kq ≤ k) ∧ Aside0 (Kd.R (Kd.int .i64) 3 w' w.heap.size (fun _ => True) (.slice Ao9 t148.length co9) t148) ∧ Aside0 (IsS65 w0 w' g x1000_1) ∧ Aside0 (KeepBut w w' g none) ∧ Aside0 (Below w0.heap.size w0 w'))
 case atStart => exact ⟨(a3),(wrap64 ((t148.length : Int) - 1)),(t152),(by first | rfl | (simp;done) | (simp [*];done)),(by first | rfl | (simp;done) | (simp [*];done)),H',⟨Nat.le_refl _⟩,⟨by (with_reducible repeat (first | apply Kd.R_alloc | apply Kd.R_drewN | apply Kd.R_drew));exact HO150.out⟩,⟨by repeat (first | (with_reducible first | exact HI0.out | apply IsS65.alloc | apply IsS65.drewN | apply IsS65.drew | apply IsS65.set_0) | exact HI0.out)⟩,⟨by repeat (first | (with_reducible first | exact HK.out | apply KeepBut.set_ | apply eN_ | apply eD_ | apply eA_) | exact HK.out)⟩,⟨by repeat (first | (with_reducible first | exact HB.out | apply bA_ | apply bN_ | apply bD_ | refine bS_ ?_ (IsS65.ge HI0.out)) | exact HB.out)⟩⟩
 case round =>
  clear H'
  try clear c1
  try clear p2
  try clear c3
  try clear p6
  obtain ⟨x3_1,x11_1,x1000_1,rfl,rfl,HA,HK1,HO_9,HI0,HK,HB⟩ := hrel
  cases gk with
  | zero => exact absurd HA.out (by simp [K_Showing.l0])
  | succ k1 =>
   have H := HA.out
   clear HA
   simp only [K_Showing.l0] at H
   by_cases c10 : x11_1 ≥ 0
   ·rw [if_pos c10] at H
    have c10b0 : decide (0 ≤ x11_1) = true := decide_eq_true c10
    clear c10
    by_cases c11 : 0 ≤ x11_1
    ·rw [if_pos c11] at H
     have c11b0 : decide (0 ≤ x11_1) = true := decide_eq_true c11
     clear c11
     by_cases c12 : x11_1 < (t148.length : Int)
     ·rw [if_pos c12] at H
      have c12b0 : decide (x11_1 < (t148.length : Int)) = true := decide_eq_true c12
      clear c12
      by_cases c13 : 0 ≤ (rd t148 x11_1)
      ·rw [if_pos c13] at H
       have c13b0 : decide (0 ≤ (rd t148 x11_1)) = true := decide_eq_true c13
       clear c13
       by_cases c14 : (rd t148 x11_1) < (l1.length : Int)
       ·rw [if_pos c14] at H
        have c14b0 : decide ((rd t148 x11_1) < (l1.length : Int)) = true := decide_eq_true c14
        clear c14
        replace H := oB_ H
        obtain ⟨⟨t155,t156⟩,A150,H⟩ := H
        replace H : ((D_In.f x1000_1 t155 t156).bind fun bt158 => ((some (([t155,t156,bt158.1] : List Int) : List Int)).bind fun y160 => (if 0 ≤ t151 then (if t151 < (y160.length : Int) then (K_Showing.l0 k1 l1 a2 (rd y160 t151) t148 t151 (wrap64 (x11_1 - 1)) bt158.2) else (none)) else (none)))) = some (r1,r2) := H
        have A15 := aM_ A150
        clear A150
        replace H := oB_ H
        obtain ⟨⟨t158,t159⟩,A160,H⟩ := H
        replace H : ((some (([t155,t156,t158] : List Int) : List Int)).bind fun y160 => (if 0 ≤ t151 then (if t151 < (y160.length : Int) then (K_Showing.l0 k1 l1 a2 (rd y160 t151) t148 t151 (wrap64 (x11_1 - 1)) t159) else (none)) else (none))) = some (r1,r2) := H
        have A16 := aM_ A160
        clear A160
        obtain ⟨y160,hy160⟩ : ∃ y_ : List Int,y_ = (([t155,t156,t158] : List Int)) := ⟨_,rfl⟩
        replace H : (if 0 ≤ t151 then (if t151 < (y160.length : Int) then (K_Showing.l0 k1 l1 a2 (rd y160 t151) t148 t151 (wrap64 (x11_1 - 1)) t159) else (none)) else (none)) = some (r1,r2) := by first | (rw [hy160];with_reducible exact H) | (have H2_ := (Option.bind_some _ _).symm.trans H;rw [hy160];with_reducible exact H2_) | (have H2_ := (Option.bind_some _ _).symm.trans H;with_reducible exact H2_) | with_reducible exact H | (rw [hy160];exact H) | exact H
        have Ny160 := aM_ hy160
        clear hy160
        by_cases c17 : 0 ≤ t151
        ·rw [if_pos c17] at H
         have c17b0 : decide (0 ≤ t151) = true := decide_eq_true c17
         clear c17
         by_cases c18 : t151 < (y160.length : Int)
         ·rw [if_pos c18] at H
          have c18b0 : decide (t151 < (y160.length : Int)) = true := decide_eq_true c18
          clear c18
          have H' := aM_ H
          clear H
          have p153 : 0 ≤ (x11_1 : Int) := of_decide_eq_true (by first | (with_reducible assumption) | assumption)
          have q153 : x11_1 < (t148.length : Int) := of_decide_eq_true (by first | (with_reducible assumption) | assumption)
          obtain ⟨ad153,e153,hx153_0⟩ := Kd.at_int (Kd.R_reads' HO_9.out).2.2 x11_1 p153 q153
          cases e153
          replace p153 := eq_true p153
          replace q153 := eq_true q153
          have p154 : 0 ≤ ((rd t148 x11_1) : Int) := of_decide_eq_true (by first | (with_reducible assumption) | assumption)
          have q154 : (rd t148 x11_1) < (l1.length : Int) := of_decide_eq_true (by first | (with_reducible assumption) | assumption)
          obtain ⟨ad154,e154,hx154_0,hx154_1,hx154_2,hx154_3,hx154_4,hx154_5,hx154_6⟩ := at_T49 (Kd.C_foot_now HR1.out HK.out) (rd t148 x11_1) p154 q154
          cases e154
          replace p154 := eq_true p154
          replace q154 := eq_true q154
          try go_wp2_with (first | ((with_reducible refine gate_callee (f := 40) rfl ?_);refine goesL_ (some 36) rfl rfl Try.func40 (by kernel_rfl) rfl #[.agg #[.int .i64 ((rd_T49 l1 (rd t148 x11_1)).f0.f0),.int .i64 ((rd_T49 l1 (rd t148 x11_1)).f0.f1),.int .i64 ((rd_T49 l1 (rd t148 x11_1)).f1.f0),.int .i64 ((rd_T49 l1 (rd t148 x11_1)).f1.f1),.int .i64 ((rd_T49 l1 (rd t148 x11_1)).f2),.int .i64 ((rd_T49 l1 (rd t148 x11_1)).f3),.int .i64 ((rd_T49 l1 (rd t148 x11_1)).f4)],.int .i64 x3_1] rfl (by (try simp only [List.map_toArray,List.map_cons,List.map_nil]);first | done | rfl) ?_;(with_reducible refine (R_Made.calls ((rd_T49 l1 (rd t148 x11_1)).f0.f0) ((rd_T49 l1 (rd t148 x11_1)).f0.f1) ((rd_T49 l1 (rd t148 x11_1)).f1.f0) ((rd_T49 l1 (rd t148 x11_1)).f1.f1) ((rd_T49 l1 (rd t148 x11_1)).f2) ((rd_T49 l1 (rd t148 x11_1)).f3) ((rd_T49 l1 (rd t148 x11_1)).f4) x3_1 t155 t156 _ A15.out).mono ?_);rintro e w19 ⟨rfl,hb⟩;refine ⟨_,rfl,?_⟩;have n0_ := aM_ (Kd.R_below (by (with_reducible repeat (first | apply Kd.R_alloc | apply Kd.R_drewN | apply Kd.R_drew));exact HO_9.out) hb);have n1_ := aM_ (IsS65.below (by repeat (first | (with_reducible first | exact HI0.out | apply IsS65.alloc | apply IsS65.drewN | apply IsS65.drew | apply IsS65.set_0) | exact HI0.out)) hb);have n2_ := aM_ (KeepBut.trans (by repeat (first | (with_reducible first | exact HK.out | apply KeepBut.set_ | apply eN_ | apply eD_ | apply eA_) | exact HK.out)) (KeepBut.of_below hb g none) (.inl rfl));have n3_ := aM_ (bT_ (by repeat (first | (with_reducible first | exact HB.out | apply bA_ | apply bN_ | apply bD_ | refine bS_ ?_ (IsS65.ge HI0.out)) | exact HB.out)) hb);clear HO_9;clear HI0;clear HK;clear HB;have HO_9 := n0_;have HI0 := n1_;have HK := n2_;have HB := n3_;clear n0_ n1_ n2_ n3_;(try clear hb);(try clear hb2);(try clear hk);(try clear hi)) | ((with_reducible refine gate_dst (N := 12) rfl ?_);refine box_event ?hg (N := 12) ?hd (cs := #[.int .i64 0,.int .i64 0]) (t := 34) ?hr ?_;(case hd => rfl);(case hg => rfl);(case hr => first | (go_simp;done) | (go_simp;rfl));intro gb157 hg w20 hbox hb;have n0_ := aM_ (Kd.R_below (by (with_reducible repeat (first | apply Kd.R_alloc | apply Kd.R_drewN | apply Kd.R_drew));exact HO_9.out) hb);have n1_ := aM_ (IsS65.below (by repeat (first | (with_reducible first | exact HI0.out | apply IsS65.alloc | apply IsS65.drewN | apply IsS65.drew | apply IsS65.set_0) | exact HI0.out)) hb);have n2_ := aM_ (KeepBut.trans (by repeat (first | (with_reducible first | exact HK.out | apply KeepBut.set_ | apply eN_ | apply eD_ | apply eA_) | exact HK.out)) (KeepBut.of_below hb g none) (.inl rfl));have n3_ := aM_ (bT_ (by repeat (first | (with_reducible first | exact HB.out | apply bA_ | apply bN_ | apply bD_ | refine bS_ ?_ (IsS65.ge HI0.out)) | exact HB.out)) hb);have n4_ := aM_ (hbox);have n5_ := aM_ ((by rw [hg];exact (keep_size (w := w) (g := g) (row := none) (by repeat (first | (with_reducible first | exact HK.out | apply KeepBut.set_ | apply eN_ | apply eD_ | apply eA_) | exact HK.out))) : w.heap.size ≤ gb157));have n6_ := aM_ ((Nat.le_trans HW0.out (by rw [hg];exact (keep_size (w := w) (g := g) (row := none) (by repeat (first | (with_reducible first | exact HK.out | apply KeepBut.set_ | apply eN_ | apply eD_ | apply eA_) | exact HK.out))) : w.heap.size ≤ gb157) : w0.heap.size ≤ gb157));have n7_ := aM_ ((by rw [hg];exact Nat.ne_of_lt (IsS65.lt (show IsS65 w0 _ g x1000_1 from by repeat (first | (with_reducible first | exact HI0.out | apply IsS65.alloc | apply IsS65.drewN | apply IsS65.drew | apply IsS65.set_0) | exact HI0.out))) : g ≠ gb157));have n8_ := aM_ ((by rw [hg];exact Nat.ne_of_gt (IsS65.lt (show IsS65 w0 _ g x1000_1 from by repeat (first | (with_reducible first | exact HI0.out | apply IsS65.alloc | apply IsS65.drewN | apply IsS65.drew | apply IsS65.set_0) | exact HI0.out))) : gb157 ≠ g));clear HO_9;clear HI0;clear HK;clear HB;have HO_9 := n0_;have HI0 := n1_;have HK := n2_;have HB := n3_;have BK157 := n4_;have GW157 := n5_;have GE157 := n6_;have NB0_157 := n7_;have NB157_0 := n8_;clear n0_ n1_ n2_ n3_ n4_ n5_ n6_ n7_ n8_;clear hb hbox hg;have hnb21 := NB157_0.out;have hnc21 := NB0_157.out;have hcz22_0 : w20.cell? ⟨gb157,0,none⟩ = some (.int .i64 0) := (blk_cell BK157.out 0).trans rfl;have hcz22_1 : w20.cell? ⟨gb157,1,none⟩ = some (.int .i64 0) := (blk_cell BK157.out 1).trans rfl;have hfz22_0 := blk_frozen BK157.out 0;have hfz22_1 := blk_frozen BK157.out 1))
          have pi163 : (0 ≤ (t151 : Int)) = True := eq_true (of_decide_eq_true (by first | (with_reducible assumption) | assumption))
          have qi163 : (t151 < (y160.length : Int)) = True := eq_true (of_decide_eq_true (by first | (with_reducible assumption) | assumption))
          have n0_ : Aside0 (Kd.R (Kd.int .i64) 3 ((w20.setCell ⟨gb157,0,none⟩ (.int .i64 t155)).setCell ⟨gb157,1,none⟩ (.int .i64 t156)) w.heap.size (fun _ => True) (.slice (some ad153) t148.length co9) t148) := ⟨by (with_reducible repeat (first | apply Kd.R_alloc | apply Kd.R_drewN | apply Kd.R_drew));exact Kd.R_mono (Kd.R_far (p := ⟨gb157,1,none⟩) (Kd.R_far (p := ⟨gb157,0,none⟩) (Kd.R_types HO_9.out BK157.out (by decide)) (fun _ hk => hk.2) (.int .i64 t155)) (fun _ hk => hk.2) (.int .i64 t156)) (fun _ hk => trivial)⟩
          have n1_ : Aside0 (((w20.setCell ⟨gb157,0,none⟩ (.int .i64 t155)).setCell ⟨gb157,1,none⟩ (.int .i64 t156)).heap[gb157]? = some (.cells #[.int .i64 t155,.int .i64 t156] 34 (0,0))) := ⟨by (with_reducible repeat (first | refine kN_ ?_ _ | refine kD_ ?_ | refine kA_ ?_ _));refine blk_put (cs := #[.int .i64 t155,.int .i64 0]) ?_ 1 _ rfl;(with_reducible repeat (first | refine kN_ ?_ _ | refine kD_ ?_ | refine kA_ ?_ _));refine blk_put (cs := #[.int .i64 0,.int .i64 0]) ?_ 0 _ rfl;(with_reducible repeat (first | refine kN_ ?_ _ | refine kD_ ?_ | refine kA_ ?_ _));exact BK157.out⟩
          have n2_ : Aside0 (IsS65 w0 ((w20.setCell ⟨gb157,0,none⟩ (.int .i64 t155)).setCell ⟨gb157,1,none⟩ (.int .i64 t156)) g x1000_1) := ⟨by repeat (first | (with_reducible first | exact HI0.out | apply IsS65.alloc | apply IsS65.drewN | apply IsS65.drew | apply IsS65.set_0 | refine IsS65.far ?_ NB0_157.out _) | exact HI0.out)⟩
          have n3_ : Aside0 (KeepBut w ((w20.setCell ⟨gb157,0,none⟩ (.int .i64 t155)).setCell ⟨gb157,1,none⟩ (.int .i64 t156)) g none) := ⟨by repeat (first | (with_reducible first | exact HK.out | apply KeepBut.set_ | apply eN_ | apply eD_ | apply eA_ | refine keep_far ?_ GW157.out _) | exact HK.out)⟩
          have n4_ : Aside0 (Below w0.heap.size w0 ((w20.setCell ⟨gb157,0,none⟩ (.int .i64 t155)).setCell ⟨gb157,1,none⟩ (.int .i64 t156))) := ⟨by repeat (first | (with_reducible first | exact HB.out | apply bA_ | apply bN_ | apply bD_ | refine bS_ ?_ (IsS65.ge HI0.out) | refine bS_ ?_ GE157.out) | exact HB.out)⟩
          (try clear HO_9)
          (try clear BK157)
          (try clear HI0)
          (try clear HK)
          (try clear HB)
          generalize ((w20.setCell ⟨gb157,0,none⟩ (.int .i64 t155)).setCell ⟨gb157,1,none⟩ (.int .i64 t156)) = w23 at n0_ n1_ n2_ n3_ n4_ ⊢
          have HO_9 := n0_
          have BK157 := n1_
          have HI0 := n2_
          have HK := n3_
          have HB := n4_
          clear n0_ n1_ n2_ n3_ n4_
          have n0_ := aM_ (Kd.R_drew HO_9.out)
          have n1_ := aM_ (kD_ BK157.out)
          have n2_ := aM_ (IsS65.drew HI0.out)
          have n3_ := aM_ (eD_ HK.out)
          have n4_ := aM_ (bD_ HB.out)
          clear HO_9
          clear BK157
          clear HI0
          clear HK
          clear HB
          have HO_9 := n0_
          have BK157 := n1_
          have HI0 := n2_
          have HK := n3_
          have HB := n4_
          clear n0_ n1_ n2_ n3_ n4_
          refine start_ (n := 12) (S := fun w' => w'.cell? ⟨gb157,0,none⟩ = some (.int .i64 t155) ∧ w'.cell? ⟨gb157,1,none⟩ = some (.int .i64 t156)) (ds := []) #[false,false,false,false,false,false,false,false,false,false,false,false] (by kernel_rfl) rfl rfl ⟨(blk_cell BK157.out 0).trans rfl,(blk_cell BK157.out 1).trans rfl⟩ (fun hHeld => ?_);refine with_tabW K_Showing.tab7 K_Showing.bits7 (fun HT_ HW_ => ?_)
          generalize w23.drew = w24 at HO_9 BK157 HI0 HK HB hHeld ⊢
          refine pure_ (i := 0) (N := some 37) (v := ?_) (a' := ?_) #[true,false,false,false,false,false,false,false,false,false,false,false] rfl rfl (any_of HT_.out (by kernel_rfl)) (fun _ _ _ h => h) (Or.inl ⟨by rfl,?_⟩) ?_ ?_
          rotate_left
          ·intro w'
           go_simp
           with_reducible rfl
          rotate_left
          ·simp only [Act.put,sB_,sZ_,sS_,i64_w,i32_w]
           rfl
          refine pure_ (i := 2) (N := some 39) (v := ?_) (a' := ?_) #[true,false,true,false,false,false,false,false,false,false,false,false] rfl rfl (any_of HT_.out (by kernel_rfl)) (fun _ _ _ h => h) (Or.inl ⟨by rfl,?_⟩) ?_ ?_
          rotate_left
          ·intro w'
           go_simp
           with_reducible rfl
          rotate_left
          ·simp only [Act.put,sB_,sZ_,sS_,i64_w,i32_w]
           rfl
          refine pure_ (i := 4) (N := some 41) (v := ?_) (a' := ?_) #[true,false,true,false,true,false,false,false,false,false,false,false] rfl rfl (any_of HT_.out (by kernel_rfl)) (fun _ _ _ h => h) (Or.inl ⟨by rfl,?_⟩) ?_ ?_
          rotate_left
          ·intro w'
           go_simp
           with_reducible rfl
          rotate_left
          ·simp only [Act.put,sB_,sZ_,sS_,i64_w,i32_w]
           rfl
          refine pure_ (i := 8) (N := some 45) (v := ?_) (a' := ?_) #[true,false,true,false,true,false,false,false,true,false,false,false] rfl rfl (any_of HT_.out (by kernel_rfl)) (fun _ _ _ h => h) (Or.inl ⟨by rfl,?_⟩) ?_ ?_
          rotate_left
          ·intro w'
           go_simp
           with_reducible rfl
          rotate_left
          ·simp only [Act.put,sB_,sZ_,sS_,i64_w,i32_w]
           rfl
          refine take_ (i := 1) (N := some 38) (v := ?_) (a' := ?_) #[true,true,true,false,true,false,false,false,true,false,false,false] rfl rfl (take_ofW HT_.out HW_.out (by kernel_rfl)) (fun _ _ _ h => h) (Or.inl ⟨by rfl,?_⟩) hHeld ?_ ?_
          rotate_left
          ·rintro w' ⟨s0,s1⟩
           go_simp
           with_reducible rfl
          rotate_left
          ·simp only [Act.put,sB_,sZ_,sS_,i64_w,i32_w]
           rfl
          refine take_ (i := 3) (N := some 40) (v := ?_) (a' := ?_) #[true,true,true,true,true,false,false,false,true,false,false,false] rfl rfl (take_ofW HT_.out HW_.out (by kernel_rfl)) (fun _ _ _ h => h) (Or.inl ⟨by rfl,?_⟩) hHeld ?_ ?_
          rotate_left
          ·rintro w' ⟨s0,s1⟩
           go_simp
           with_reducible rfl
          rotate_left
          ·simp only [Act.put,sB_,sZ_,sS_,i64_w,i32_w]
           rfl
          refine take_ (i := 5) (N := some 42) (v := ?_) (a' := ?_) #[true,true,true,true,true,true,false,false,true,false,false,false] rfl rfl (take_ofW HT_.out HW_.out (by kernel_rfl)) (fun _ _ _ h => h) (Or.inl ⟨by rfl,?_⟩) hHeld ?_ ?_
          rotate_left
          ·rintro w' ⟨s0,s1⟩
           go_simp
           with_reducible rfl
          rotate_left
          ·simp only [Act.put,sB_,sZ_,sS_,i64_w,i32_w]
           rfl
          refine one_ (i := 6) (N := some 43) #[true,true,true,true,true,true,true,false,true,false,false,false] rfl rfl (one_of HT_.out (by kernel_rfl)) (by decide) (fun K hK => ?_)
          refine goes_ Try.func41 (by kernel_rfl) rfl #[.pointer (some ⟨g,0,none⟩),.agg #[.int .i64 t155,.int .i64 t156]] (by rfl) rfl rfl (by (try simp only [List.map_toArray,List.map_cons,List.map_nil]);first | done | rfl) ?_
          with_reducible refine (D_In.calls g x1000_1 t155 t156 t158 t159 w0 _ ?side1 ?side2 A16.out).mono ?_
          (case side1 => repeat (first | (with_reducible first | exact HI0.out | apply IsS65.alloc | apply IsS65.drewN | apply IsS65.drew | apply IsS65.set_0 | refine IsS65.far ?_ NB0_157.out _) | exact HI0.out))
          (case side2 => repeat (first | (with_reducible first | exact HB.out | apply bA_ | apply bN_ | apply bD_ | refine bS_ ?_ (IsS65.ge HI0.out) | refine bS_ ?_ GE157.out) | exact HB.out))
          rintro e w25 ⟨rfl,hi,hb,hk⟩
          refine ⟨_,rfl,?_⟩
          have n0_ := aM_ (Kd.R_mono (Kd.R_keep (IsS65.apart (show IsS65 w0 _ g x1000_1 from by repeat (first | (with_reducible first | exact HI0.out | apply IsS65.alloc | apply IsS65.drewN | apply IsS65.drew | apply IsS65.set_0 | refine IsS65.far ?_ NB0_157.out _) | exact HI0.out)) (by (with_reducible repeat (first | apply Kd.R_alloc | apply Kd.R_drewN | apply Kd.R_drew));exact HO_9.out) (by decide)) hk (fun _ h => h.2)) (fun _ h => h.1))
          have n1_ := aM_ (KeepBut.blk hk (g' := gb157) (o := .cells #[.int .i64 t155,.int .i64 t156] 34 (0,0)) (by (with_reducible repeat (first | refine kN_ ?_ _ | refine kD_ ?_ | refine kA_ ?_ _));exact BK157.out) NB157_0.out (by simp))
          have n2_ := aM_ (KeepBut.trans (by repeat (first | (with_reducible first | exact HK.out | apply KeepBut.set_ | apply eN_ | apply eD_ | apply eA_ | refine keep_far ?_ GW157.out _) | exact HK.out)) hk (.inl rfl))
          have n3_ := aM_ (hb)
          have n4_ := aM_ (hi)
          clear HO_9
          clear BK157
          clear HK
          clear HB
          clear HI0
          have HO_9 := n0_
          have BK157 := n1_
          have HK := n2_
          have HB := n3_
          have HI0 := n4_
          clear n0_ n1_ n2_ n3_ n4_
          (try clear hb)
          (try clear hb2)
          (try clear hk)
          (try clear hi)
          refine hK.out _ _ ⟨(blk_cell BK157.out 0).trans rfl,(blk_cell BK157.out 1).trans rfl⟩ (fun hHeld => ?_)
          clear hK K
          refine norm_ (a' := ?_) ?_ ?_
          rotate_left
          ·show Act.put _ (some 43) _ = _
           simp only [Act.put,sB_,sZ_,sS_,i64_w,i32_w]
           rfl
          refine one_ (i := 7) (N := some 44) #[true,true,true,true,true,true,true,true,true,false,false,false] rfl rfl (one_of HT_.out (by kernel_rfl)) (by decide) (fun K hK => ?_)
          refine Kd.R_lit_step (Kd.int .i64) _ 3 ?hg (N := 44) ?hd (xs := ([t155,t156,t158] : List Int)) (inner := [.int .i64 t155,.int .i64 t156,.int .i64 t158]) (ok := fun _ => True) (okp := fun _ => True) ?hr ?hp (fun _ hk => hk) trivial (Below.refl _ _) (Nat.le_refl _) (by simp) ?_;(case hd => rfl);(case hg => rfl);(case hr => first | (go_simp;done) | (go_simp;rfl));(case hp => exact (Reps.one (show Kd.M (Kd.int .i64) _ _ _ t155 [.int .i64 t155] from rfl) (Reps.one (show Kd.M (Kd.int .i64) _ _ _ t156 [.int .i64 t156] from rfl) (Reps.one (show Kd.M (Kd.int .i64) _ _ _ t158 [.int .i64 t158] from rfl) (Reps.none _ _)))))
          intro v161 w26 ho27 hb hg_ hnew_
          clear hg_ hnew_
          (first | rw [← Ny160.out] at ho27 | (simp only [Int.reduceToNat] at ho27;rw [← Ny160.out] at ho27))
          have n0_ := aM_ (Kd.R_elder' (by (with_reducible repeat (first | apply Kd.R_alloc | apply Kd.R_drewN | apply Kd.R_drew));exact HO_9.out) (Kd.R_base ho27) hb)
          have n1_ := aM_ (Kd.R_lower (Kd.R_new' ho27 (Kd.R_lt (by (with_reducible repeat (first | apply Kd.R_alloc | apply Kd.R_drewN | apply Kd.R_drew));exact HO_9.out))) (keep_size (w := w) (g := g) (row := none) (by repeat (first | (with_reducible first | exact HK.out | apply KeepBut.set_ | apply eN_ | apply eD_ | apply eA_ | refine keep_far ?_ GW157.out _) | exact HK.out))))
          have n2_ := aM_ (IsS65.below (by repeat (first | (with_reducible first | exact HI0.out | apply IsS65.alloc | apply IsS65.drewN | apply IsS65.drew | apply IsS65.set_0 | refine IsS65.far ?_ NB0_157.out _) | exact HI0.out)) hb)
          have n3_ := aM_ (kB_ (g := gb157) (o := .cells #[.int .i64 t155,.int .i64 t156] 34 (0,0)) (by (with_reducible repeat (first | refine kN_ ?_ _ | refine kD_ ?_ | refine kA_ ?_ _));exact BK157.out) hb)
          have n4_ := aM_ (KeepBut.trans (by repeat (first | (with_reducible first | exact HK.out | apply KeepBut.set_ | apply eN_ | apply eD_ | apply eA_ | refine keep_far ?_ GW157.out _) | exact HK.out)) (KeepBut.of_below hb g none) (.inl rfl))
          have n5_ := aM_ (bT_ (by repeat (first | (with_reducible first | exact HB.out | apply bA_ | apply bN_ | apply bD_ | refine bS_ ?_ (IsS65.ge HI0.out) | refine bS_ ?_ GE157.out) | exact HB.out)) hb)
          clear HO_9
          clear HI0
          clear BK157
          clear HK
          clear HB
          have HO_9 := n0_
          have HO162 := n1_
          have HI0 := n2_
          have BK157 := n3_
          have HK := n4_
          have HB := n5_
          clear n0_ n1_ n2_ n3_ n4_ n5_
          clear hb ho27
          obtain ⟨Ao28,co28,eo28⟩ := Kd.R_slice HO162.out
          subst eo28
          obtain ⟨ado28,fo28,_⟩ := Kd.at_int (Kd.R_reads' HO162.out).2.2 0 (by decide) (by rw [Ny160.out];simp)
          cases fo28
          refine hK.out _ _ ⟨(blk_cell BK157.out 0).trans rfl,(blk_cell BK157.out 1).trans rfl⟩ (fun hHeld => ?_)
          clear hK K
          refine norm_ (a' := ?_) ?_ ?_
          rotate_left
          ·show Act.put _ (some 44) _ = _
           simp only [Act.put,sB_,sZ_,sS_,i64_w,i32_w]
           rfl
          refine pure_ (i := 9) (N := some 46) (v := ?_) (a' := ?_) #[true,true,true,true,true,true,true,true,true,true,false,false] rfl rfl (any_of HT_.out (by kernel_rfl)) (fun _ _ _ h => h) (Or.inl ⟨by rfl,?_⟩) ?_ ?_
          rotate_left
          ·intro w'
           go_simp
           with_reducible rfl
          rotate_left
          ·simp only [Act.put,sB_,sZ_,sS_,i64_w,i32_w]
           rfl
          refine one_ (i := 10) (N := some 47) #[true,true,true,true,true,true,true,true,true,true,true,false] rfl rfl (one_of HT_.out (by kernel_rfl)) (by decide) (fun K hK => ?_)
          (have p163 : 0 ≤ (t151 : Int) := of_decide_eq_true (by first | (with_reducible assumption) | assumption);have q163 : t151 < (y160.length : Int) := of_decide_eq_true (by first | (with_reducible assumption) | assumption);obtain ⟨ad163,e163,hx163_0⟩ := Kd.at_int (Kd.R_reads' HO162.out).2.2 t151 p163 q163;obtain rfl : ado28 = ad163 := (by injection e163))
          refine value_ (w1 := ?_) (v := ?_) (by rfl) rfl ?_ ?_
          rotate_left 2
          ·go_simp
           constructor
           ·rfl
           ·rfl
          clear hx163_0
          refine hK.out _ _ ⟨(blk_cell BK157.out 0).trans rfl,(blk_cell BK157.out 1).trans rfl⟩ (fun hHeld => ?_)
          clear hK K
          refine norm_ (a' := ?_) ?_ ?_
          rotate_left
          ·show Act.put _ (some 47) _ = _
           simp only [Act.put,sB_,sZ_,sS_,i64_w,i32_w]
           rfl
          refine pure_ (i := 11) (N := some 3) (v := ?_) (a' := ?_) #[true,true,true,true,true,true,true,true,true,true,true,true] rfl rfl (any_of HT_.out (by kernel_rfl)) (fun _ _ _ h => h) (Or.inl ⟨by rfl,?_⟩) ?_ ?_
          rotate_left
          ·intro w'
           go_simp
           with_reducible rfl
          rotate_left
          ·simp only [Act.put,sB_,sZ_,sS_,i64_w,i32_w]
           rfl
          refine done_ (done_of HT_.out (by kernel_rfl)) ?_
          try go_wp2
          go_roundg k1
          case measure => have := HK1.out;omega
          case rel => exact ⟨(rd y160 t151),(wrap64 (x11_1 - 1)),(t159),(by first | rfl | (simp;done) | (simp [*];done)),(by first | rfl | (simp;done) | (simp [*];done)),H',⟨by have := HK1.out;omega⟩,⟨by (with_reducible repeat (first | apply Kd.R_alloc | apply Kd.R_drewN | apply Kd.R_drew));exact Kd.R_mono HO_9.out (fun _ hk => trivial)⟩,⟨by repeat (first | (with_reducible first | exact HI0.out | apply IsS65.alloc | apply IsS65.drewN | apply IsS65.drew | apply IsS65.set_0 | refine IsS65.far ?_ NB0_157.out _) | exact HI0.out)⟩,⟨by repeat (first | (with_reducible first | exact HK.out | apply KeepBut.set_ | apply eN_ | apply eD_ | apply eA_ | refine keep_far ?_ GW157.out _) | exact HK.out)⟩,⟨by repeat (first | (with_reducible first | exact HB.out | apply bA_ | apply bN_ | apply bD_ | refine bS_ ?_ (IsS65.ge HI0.out) | refine bS_ ?_ GE157.out) | exact HB.out)⟩⟩
         ·rw [if_neg c18] at H
          exact absurd H (by simp)
        ·rw [if_neg c17] at H
         exact absurd H (by simp)
       ·rw [if_neg c14] at H
        exact absurd H (by simp)
      ·rw [if_neg c13] at H
       exact absurd H (by simp)
     ·rw [if_neg c12] at H
      exact absurd H (by simp)
    ·rw [if_neg c11] at H
     exact absurd H (by simp)
   ·rw [if_neg c10] at H
    have c10b0 : decide (0 ≤ x11_1) = false := decide_eq_false c10
    clear c10
    by_cases c29 : 0 ≤ a2
    ·rw [if_pos c29] at H
     have c29b0 : decide (0 ≤ a2) = true := decide_eq_true c29
     clear c29
     by_cases c30 : a2 < (l1.length : Int)
     ·rw [if_pos c30] at H
      have c30b0 : decide (a2 < (l1.length : Int)) = true := decide_eq_true c30
      clear c30
      replace H := oB_ H
      obtain ⟨t165,A310,H⟩ := H
      replace H : (if (wrap64 (2 * (wrap64 (x3_1 - (wrap64 (t165 * ((rd_T49 l1 a2).f2))))))) > ((rd_T49 l1 a2).f2) then (some (wrap64 ((wrap64 (t165 * ((rd_T49 l1 a2).f2))) + ((rd_T49 l1 a2).f2)),x1000_1)) else (if (wrap64 (2 * (wrap64 (x3_1 - (wrap64 (t165 * ((rd_T49 l1 a2).f2))))))) = ((rd_T49 l1 a2).f2) then ((D_One.f x1000_1 2).bind fun bt166 => (if bt166.1 = true then (some (wrap64 ((wrap64 (t165 * ((rd_T49 l1 a2).f2))) + ((rd_T49 l1 a2).f2)),bt166.2)) else (some (wrap64 (t165 * ((rd_T49 l1 a2).f2)),bt166.2)))) else (some (wrap64 (t165 * ((rd_T49 l1 a2).f2)),x1000_1)))) = some (r1,r2) := H
      have A31 := aM_ A310
      clear A310
      by_cases c32 : (wrap64 (2 * (wrap64 (x3_1 - (wrap64 (t165 * ((rd_T49 l1 a2).f2))))))) > ((rd_T49 l1 a2).f2)
      ·rw [if_pos c32] at H
       have c32b0 : decide (((rd_T49 l1 a2).f2) < (wrap64 (2 * (wrap64 (x3_1 - (wrap64 (t165 * ((rd_T49 l1 a2).f2)))))))) = true := decide_eq_true c32
       clear c32
       simp only [Option.some.injEq,Prod.mk.injEq] at H
       obtain ⟨rfl,rfl⟩ := H
       have p164 : 0 ≤ (a2 : Int) := of_decide_eq_true (by first | (with_reducible assumption) | assumption)
       have q164 : a2 < (l1.length : Int) := of_decide_eq_true (by first | (with_reducible assumption) | assumption)
       obtain ⟨ad164,e164,hx164_0,hx164_1,hx164_2,hx164_3,hx164_4,hx164_5,hx164_6⟩ := at_T49 (Kd.C_foot_now HR1.out HK.out) a2 p164 q164
       cases e164
       replace p164 := eq_true p164
       replace q164 := eq_true q164
       go_wp2_with (first | ((with_reducible refine gate_callee (f := 42) rfl ?_);refine goesL_ (some 55) rfl rfl Try.func42 (by kernel_rfl) rfl #[.int .i64 x3_1,.int .i64 ((rd_T49 l1 a2).f2)] rfl (by (try simp only [List.map_toArray,List.map_cons,List.map_nil]);first | done | rfl) ?_;(with_reducible refine (R_Down.calls x3_1 ((rd_T49 l1 a2).f2) t165 _ A31.out).mono ?_);rintro e w' ⟨rfl,⟨nd,rfl⟩⟩;refine ⟨_,rfl,?_⟩))
       go_ret
       exact ⟨by first | rfl | (simp [*] <;> rfl),by repeat (first | (with_reducible first | exact HI0.out | apply IsS65.alloc | apply IsS65.drewN | apply IsS65.drew | apply IsS65.set_0) | exact HI0.out),by repeat (first | (with_reducible first | exact HB.out | apply bA_ | apply bN_ | apply bD_ | refine bS_ ?_ (IsS65.ge HI0.out)) | exact HB.out),by repeat (first | (with_reducible first | exact HK.out | apply KeepBut.set_ | apply eN_ | apply eD_ | apply eA_) | exact HK.out)⟩
      ·rw [if_neg c32] at H
       have c32b0 : decide (((rd_T49 l1 a2).f2) < (wrap64 (2 * (wrap64 (x3_1 - (wrap64 (t165 * ((rd_T49 l1 a2).f2)))))))) = false := decide_eq_false c32
       clear c32
       by_cases c33 : (wrap64 (2 * (wrap64 (x3_1 - (wrap64 (t165 * ((rd_T49 l1 a2).f2))))))) = ((rd_T49 l1 a2).f2)
       ·rw [if_pos c33] at H
        have c33b0 : ((wrap64 (2 * (wrap64 (x3_1 - (wrap64 (t165 * ((rd_T49 l1 a2).f2))))))) == ((rd_T49 l1 a2).f2)) = true := beq_iff_eq.mpr c33
        have c33b1 : ((wrap64 (2 * (wrap64 (x3_1 - (wrap64 (t165 * ((rd_T49 l1 a2).f2))))))) != ((rd_T49 l1 a2).f2)) = false := bne_eq_false_iff_eq.mpr c33
        clear c33
        replace H := oB_ H
        obtain ⟨⟨t166,t167⟩,A340,H⟩ := H
        replace H : (if t166 = true then (some (wrap64 ((wrap64 (t165 * ((rd_T49 l1 a2).f2))) + ((rd_T49 l1 a2).f2)),t167)) else (some (wrap64 (t165 * ((rd_T49 l1 a2).f2)),t167))) = some (r1,r2) := H
        have A34 := aM_ A340
        clear A340
        by_cases c35 : t166 = true
        ·subst c35
         have H1 : (some (wrap64 ((wrap64 (t165 * ((rd_T49 l1 a2).f2))) + ((rd_T49 l1 a2).f2)),t167)) = some (r1,r2) := by rw [if_pos rfl] at H;exact H
         clear H
         have H := H1
         clear H1
         simp only [Option.some.injEq,Prod.mk.injEq] at H
         obtain ⟨rfl,rfl⟩ := H
         have p164 : 0 ≤ (a2 : Int) := of_decide_eq_true (by first | (with_reducible assumption) | assumption)
         have q164 : a2 < (l1.length : Int) := of_decide_eq_true (by first | (with_reducible assumption) | assumption)
         obtain ⟨ad164,e164,hx164_0,hx164_1,hx164_2,hx164_3,hx164_4,hx164_5,hx164_6⟩ := at_T49 (Kd.C_foot_now HR1.out HK.out) a2 p164 q164
         cases e164
         replace p164 := eq_true p164
         replace q164 := eq_true q164
         go_wp2_with (first | ((with_reducible refine gate_callee (f := 42) rfl ?_);refine goesL_ (some 55) rfl rfl Try.func42 (by kernel_rfl) rfl #[.int .i64 x3_1,.int .i64 ((rd_T49 l1 a2).f2)] rfl (by (try simp only [List.map_toArray,List.map_cons,List.map_nil]);first | done | rfl) ?_;(with_reducible refine (R_Down.calls x3_1 ((rd_T49 l1 a2).f2) t165 _ A31.out).mono ?_);rintro e w' ⟨rfl,⟨nd,rfl⟩⟩;refine ⟨_,rfl,?_⟩) | (go_at_call 43;(with_reducible refine (D_One.calls g x1000_1 2 true t167 w0 _ ?side1 ?side2 A34.out).mono ?_);(case side1 => repeat (first | (with_reducible first | exact HI0.out | apply IsS65.alloc | apply IsS65.drewN | apply IsS65.drew | apply IsS65.set_0) | exact HI0.out));(case side2 => repeat (first | (with_reducible first | exact HB.out | apply bA_ | apply bN_ | apply bD_ | refine bS_ ?_ (IsS65.ge HI0.out)) | exact HB.out));rintro e w36 ⟨rfl,hi,hb,hk⟩;have n0_ := aM_ (Kd.R_mono (Kd.R_keep (IsS65.apart (show IsS65 w0 _ g x1000_1 from by repeat (first | (with_reducible first | exact HI0.out | apply IsS65.alloc | apply IsS65.drewN | apply IsS65.drew | apply IsS65.set_0) | exact HI0.out)) (by (with_reducible repeat (first | apply Kd.R_alloc | apply Kd.R_drewN | apply Kd.R_drew));exact HO_9.out) (by decide)) hk (fun _ h => h.2)) (fun _ h => h.1));have n1_ := aM_ (KeepBut.trans (by repeat (first | (with_reducible first | exact HK.out | apply KeepBut.set_ | apply eN_ | apply eD_ | apply eA_) | exact HK.out)) hk (.inl rfl));have n2_ := aM_ (hb);have n3_ := aM_ (hi);clear HO_9;clear HK;clear HB;clear HI0;have HO_9 := n0_;have HK := n1_;have HB := n2_;have HI0 := n3_;clear n0_ n1_ n2_ n3_;(try clear hb);(try clear hb2);(try clear hk);(try clear hi)))
         go_ret
         exact ⟨by first | rfl | (simp [*] <;> rfl),by repeat (first | (with_reducible first | exact HI0.out | apply IsS65.alloc | apply IsS65.drewN | apply IsS65.drew | apply IsS65.set_0) | exact HI0.out),by repeat (first | (with_reducible first | exact HB.out | apply bA_ | apply bN_ | apply bD_ | refine bS_ ?_ (IsS65.ge HI0.out)) | exact HB.out),by repeat (first | (with_reducible first | exact HK.out | apply KeepBut.set_ | apply eN_ | apply eD_ | apply eA_) | exact HK.out)⟩
        ·replace c35 := Bool.eq_false_iff.mpr c35
         subst c35
         have H1 : (some (wrap64 (t165 * ((rd_T49 l1 a2).f2)),t167)) = some (r1,r2) := by rw [if_neg (show ¬ (false = true) by decide)] at H;exact H
         clear H
         have H := H1
         clear H1
         simp only [Option.some.injEq,Prod.mk.injEq] at H
         obtain ⟨rfl,rfl⟩ := H
         have p164 : 0 ≤ (a2 : Int) := of_decide_eq_true (by first | (with_reducible assumption) | assumption)
         have q164 : a2 < (l1.length : Int) := of_decide_eq_true (by first | (with_reducible assumption) | assumption)
         obtain ⟨ad164,e164,hx164_0,hx164_1,hx164_2,hx164_3,hx164_4,hx164_5,hx164_6⟩ := at_T49 (Kd.C_foot_now HR1.out HK.out) a2 p164 q164
         cases e164
         replace p164 := eq_true p164
         replace q164 := eq_true q164
         go_wp2_with (first | ((with_reducible refine gate_callee (f := 42) rfl ?_);refine goesL_ (some 55) rfl rfl Try.func42 (by kernel_rfl) rfl #[.int .i64 x3_1,.int .i64 ((rd_T49 l1 a2).f2)] rfl (by (try simp only [List.map_toArray,List.map_cons,List.map_nil]);first | done | rfl) ?_;(with_reducible refine (R_Down.calls x3_1 ((rd_T49 l1 a2).f2) t165 _ A31.out).mono ?_);rintro e w' ⟨rfl,⟨nd,rfl⟩⟩;refine ⟨_,rfl,?_⟩) | (go_at_call 43;(with_reducible refine (D_One.calls g x1000_1 2 false t167 w0 _ ?side1 ?side2 A34.out).mono ?_);(case side1 => repeat (first | (with_reducible first | exact HI0.out | apply IsS65.alloc | apply IsS65.drewN | apply IsS65.drew | apply IsS65.set_0) | exact HI0.out));(case side2 => repeat (first | (with_reducible first | exact HB.out | apply bA_ | apply bN_ | apply bD_ | refine bS_ ?_ (IsS65.ge HI0.out)) | exact HB.out));rintro e w37 ⟨rfl,hi,hb,hk⟩;have n0_ := aM_ (Kd.R_mono (Kd.R_keep (IsS65.apart (show IsS65 w0 _ g x1000_1 from by repeat (first | (with_reducible first | exact HI0.out | apply IsS65.alloc | apply IsS65.drewN | apply IsS65.drew | apply IsS65.set_0) | exact HI0.out)) (by (with_reducible repeat (first | apply Kd.R_alloc | apply Kd.R_drewN | apply Kd.R_drew));exact HO_9.out) (by decide)) hk (fun _ h => h.2)) (fun _ h => h.1));have n1_ := aM_ (KeepBut.trans (by repeat (first | (with_reducible first | exact HK.out | apply KeepBut.set_ | apply eN_ | apply eD_ | apply eA_) | exact HK.out)) hk (.inl rfl));have n2_ := aM_ (hb);have n3_ := aM_ (hi);clear HO_9;clear HK;clear HB;clear HI0;have HO_9 := n0_;have HK := n1_;have HB := n2_;have HI0 := n3_;clear n0_ n1_ n2_ n3_;(try clear hb);(try clear hb2);(try clear hk);(try clear hi)))
         go_ret
         exact ⟨by first | rfl | (simp [*] <;> rfl),by repeat (first | (with_reducible first | exact HI0.out | apply IsS65.alloc | apply IsS65.drewN | apply IsS65.drew | apply IsS65.set_0) | exact HI0.out),by repeat (first | (with_reducible first | exact HB.out | apply bA_ | apply bN_ | apply bD_ | refine bS_ ?_ (IsS65.ge HI0.out)) | exact HB.out),by repeat (first | (with_reducible first | exact HK.out | apply KeepBut.set_ | apply eN_ | apply eD_ | apply eA_) | exact HK.out)⟩
       ·rw [if_neg c33] at H
        have c33b0 : ((wrap64 (2 * (wrap64 (x3_1 - (wrap64 (t165 * ((rd_T49 l1 a2).f2))))))) == ((rd_T49 l1 a2).f2)) = false := beq_eq_false_iff_ne.mpr c33
        have c33b1 : ((wrap64 (2 * (wrap64 (x3_1 - (wrap64 (t165 * ((rd_T49 l1 a2).f2))))))) != ((rd_T49 l1 a2).f2)) = true := bne_iff_ne.mpr c33
        simp only [Option.some.injEq,Prod.mk.injEq] at H
        obtain ⟨rfl,rfl⟩ := H
        have p164 : 0 ≤ (a2 : Int) := of_decide_eq_true (by first | (with_reducible assumption) | assumption)
        have q164 : a2 < (l1.length : Int) := of_decide_eq_true (by first | (with_reducible assumption) | assumption)
        obtain ⟨ad164,e164,hx164_0,hx164_1,hx164_2,hx164_3,hx164_4,hx164_5,hx164_6⟩ := at_T49 (Kd.C_foot_now HR1.out HK.out) a2 p164 q164
        cases e164
        replace p164 := eq_true p164
        replace q164 := eq_true q164
        go_wp2_with (first | ((with_reducible refine gate_callee (f := 42) rfl ?_);refine goesL_ (some 55) rfl rfl Try.func42 (by kernel_rfl) rfl #[.int .i64 x3_1,.int .i64 ((rd_T49 l1 a2).f2)] rfl (by (try simp only [List.map_toArray,List.map_cons,List.map_nil]);first | done | rfl) ?_;(with_reducible refine (R_Down.calls x3_1 ((rd_T49 l1 a2).f2) t165 _ A31.out).mono ?_);rintro e w' ⟨rfl,⟨nd,rfl⟩⟩;refine ⟨_,rfl,?_⟩))
        go_ret
        exact ⟨by first | rfl | (simp [*] <;> rfl),by repeat (first | (with_reducible first | exact HI0.out | apply IsS65.alloc | apply IsS65.drewN | apply IsS65.drew | apply IsS65.set_0) | exact HI0.out),by repeat (first | (with_reducible first | exact HB.out | apply bA_ | apply bN_ | apply bD_ | refine bS_ ?_ (IsS65.ge HI0.out)) | exact HB.out),by repeat (first | (with_reducible first | exact HK.out | apply KeepBut.set_ | apply eN_ | apply eD_ | apply eA_) | exact HK.out)⟩
     ·rw [if_neg c30] at H
      exact absurd H (by simp)
    ·rw [if_neg c29] at H
     exact absurd H (by simp)

/-! ### gauge_outside: function 44 -/
def gauge_outside.f (a0 : Int) (a1 : Int) (a2 : Int) : Option (Bool) := if a0 < a1 then (some true) else (some (decide (a0 > a2)))
set_option maxHeartbeats 8000000 in
set_option maxRecDepth 100000 in
theorem gauge_outside.calls (a0 : Int) (a1 : Int) (a2 : Int) (r : Bool) (w : World) (h : gauge_outside.f a0 a1 a2 = some r) :
  Calls Try.prog 44 #[.int .i64 a0,.int .i64 a1,.int .i64 a2] w fun e w' => e = .returned (.bool r) ∧ Drawn0 w w' := by
 have H : (if a0 < a1 then (some true) else (some (decide (a0 > a2)))) = some r := h
 clear h
 by_cases c4 : a0 < a1
 ·rw [if_pos c4] at H
  have c4b0 : decide (a0 < a1) = true := decide_eq_true c4
  clear c4
  obtain rfl := Option.some.inj H
  go_enter Try.func44,Try.ntmps44
  go_wp2
  go_ret
  exact ⟨by first | rfl | (simp;done) | (simp [*];done),by repeat (first | exact Drawn0.refl _ | apply Drawn0.step)⟩
 ·rw [if_neg c4] at H
  have c4b0 : decide (a0 < a1) = false := decide_eq_false c4
  clear c4
  obtain rfl := Option.some.inj H
  go_enter Try.func44,Try.ntmps44
  go_wp2
  go_ret
  exact ⟨by first | rfl | (simp;done) | (simp [*];done),by repeat (first | exact Drawn0.refl _ | apply Drawn0.step)⟩

end Go.Proofs.Ytdbpobadeibjaab.GE
