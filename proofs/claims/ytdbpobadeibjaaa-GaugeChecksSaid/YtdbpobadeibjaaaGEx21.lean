-- written for this claim by a program of this session (wip/gp), over the kit's own printer; Lean checks it
import Derived.Test.YtdbpobadeibjaaaGEx0
import Derived.Test.YtdbpobadeibjaaaGEx14
import Derived.Test.YtdbpobadeibjaaaGEx16
import Derived.Test.YtdbpobadeibjaaaGEx19
import Derived.Test.YtdbpobadeibjaaaGEx20
namespace Go.Proofs.Ytdbpobadeibjaaa.GE
open Go.RowKit Go.Proofs.YtdbpobadeibjaaaW.PrintWords Go.Proofs.YtdbpobadeibjaaaW.PrintLast Go.Proofs.YtdbpobadeibjaaaW.PrintMore
attribute [local go_sem] max2_int min2_int max_two min_two max_three min_three max_four min_four
set_option linter.unusedVariables false
set_option linter.unusedSimpArgs false

/-! ### K_Showing: function 19 -/
def K_Showing.l0 : Nat → List (S36) → Int → Int → List Int → Int → Int → Int → Option (Int × Int)
 | 0,_,_,_,_,_,_,_ => none
 | k + 1,x1,x2,x3,x9,x10,x11,x1000 => if x11 ≥ 0 then (if 0 ≤ x11 then (if x11 < (x9.length : Int) then (if 0 ≤ (rd x9 x11) then (if (rd x9 x11) < (x1.length : Int) then ((R_Made.f ((rd_T36 x1 (rd x9 x11)).f0.f0) ((rd_T36 x1 (rd x9 x11)).f0.f1) ((rd_T36 x1 (rd x9 x11)).f1.f0) ((rd_T36 x1 (rd x9 x11)).f1.f1) ((rd_T36 x1 (rd x9 x11)).f2) ((rd_T36 x1 (rd x9 x11)).f3) ((rd_T36 x1 (rd x9 x11)).f4) x3).bind fun bt230 => ((D_In.f x1000 bt230.1 bt230.2).bind fun bt233 => ((some (([bt230.1,bt230.2,bt233.1] : List Int) : List Int)).bind fun y235 => (if 0 ≤ x10 then (if x10 < (y235.length : Int) then (K_Showing.l0 k x1 x2 (rd y235 x10) x9 x10 (wrap64 (x11 - 1)) bt233.2) else (none)) else (none))))) else (none)) else (none)) else (none)) else (none)) else (if 0 ≤ x2 then (if x2 < (x1.length : Int) then ((R_Down.f x3 ((rd_T36 x1 x2).f2)).bind fun t240 => (if (wrap64 (2 * (wrap64 (x3 - (wrap64 (t240 * ((rd_T36 x1 x2).f2))))))) > ((rd_T36 x1 x2).f2) then (some (wrap64 ((wrap64 (t240 * ((rd_T36 x1 x2).f2))) + ((rd_T36 x1 x2).f2)),x1000)) else (if (wrap64 (2 * (wrap64 (x3 - (wrap64 (t240 * ((rd_T36 x1 x2).f2))))))) = ((rd_T36 x1 x2).f2) then ((D_One.f x1000 2).bind fun bt241 => (if bt241.1 = true then (some (wrap64 ((wrap64 (t240 * ((rd_T36 x1 x2).f2))) + ((rd_T36 x1 x2).f2)),bt241.2)) else (some (wrap64 (t240 * ((rd_T36 x1 x2).f2)),bt241.2)))) else (some (wrap64 (t240 * ((rd_T36 x1 x2).f2)),x1000))))) else (none)) else (none))
def K_Showing.f (k : Nat) (s0_0 : Int) (l1 : List (S36)) (a2 : Int) (a3 : Int) : Option (Int × Int) := (R_Chain.f k l1 a2).bind fun t223 => ((D_Upto.f s0_0 3).bind fun bt226 => (K_Showing.l0 k l1 a2 a3 t223 bt226.1 (wrap64 ((t223.length : Int) - 1)) bt226.2))
def K_Showing.T7 : Bool × List (List Nat × List Nat) := (true,[([],[]),([0],[0]),([],[]),([2],[2]),([],[]),([],[]),([4,5],[4,5]),([1,3,6],[1,3,6]),([],[]),([7,8],[7,8]),([9],[9]),([10,6,0,1,2,3,4,5,6,7,8,9,10],[10])])
def K_Showing.B7 : List Nat := [0,1,0,4,0,0,48,127,0,511,1023,2047]
theorem K_Showing.tab7 : rtab .any (opsOf Try.f19 7) = K_Showing.T7 := by kernel_rfl
theorem K_Showing.bits7 : waitsOk K_Showing.T7.2 K_Showing.B7 = true := by kernel_rfl
set_option maxHeartbeats 8000000 in
set_option maxRecDepth 100000 in
theorem K_Showing.calls (k : Nat) (g : Nat) (s0_0 : Int) (A1 : Option Addr) (c1 : Nat) (l1 : List (S36)) (a2 : Int) (a3 : Int) (r1 : Int) (r2 : Int) (w0 w : World) (hI : IsS76 w0 w g s0_0) (hB : Below w0.heap.size w0 w) (hr1 : ∀ W_,KeepBut w W_ g none → Kd.C k36 W_ A1 l1.length l1) (hc1 : l1.length ≤ c1) (h : K_Showing.f k s0_0 l1 a2 a3 = some (r1,r2)) :
  Calls Try.prog 19 #[.pointer (some ⟨g,0,none⟩),.slice A1 l1.length c1,.int .i64 a2,.int .i64 a3] w fun e w' => e = .returned (.int .i64 r1) ∧ IsS76 w0 w' g r2 ∧ Below w0.heap.size w0 w' ∧ KeepBut w w' g none := by
 have hu36 := Try.underlying36
 have hu34 := Try.underlying34
 have HR1 := aM_ hr1
 have HC1 := aM_ hc1
 clear hr1 hc1
 have HI0 := aM_ hI
 have HK := aM_ (KeepBut.refl w g none)
 have HL := aM_ hB.size
 clear hI
 have HW0 := aM_ hB.size
 have HB := aM_ hB
 clear hB
 have H : ((R_Chain.f k l1 a2).bind fun t223 => ((D_Upto.f s0_0 3).bind fun bt226 => (K_Showing.l0 k l1 a2 a3 t223 bt226.1 (wrap64 ((t223.length : Int) - 1)) bt226.2))) = some (r1,r2) := h
 clear h
 replace H := oB_ H
 obtain ⟨t223,A50,H⟩ := H
 replace H : ((D_Upto.f s0_0 3).bind fun bt226 => (K_Showing.l0 k l1 a2 a3 t223 bt226.1 (wrap64 ((t223.length : Int) - 1)) bt226.2)) = some (r1,r2) := H
 have A5 := aM_ A50
 clear A50
 replace H := oB_ H
 obtain ⟨⟨t226,t227⟩,A60,H⟩ := H
 replace H : (K_Showing.l0 k l1 a2 a3 t223 t226 (wrap64 ((t223.length : Int) - 1)) t227) = some (r1,r2) := H
 have A6 := aM_ A60
 clear A60
 have H' := aM_ H
 clear H
 go_enter Try.func19,Try.ntmps19
 go_wp2_with (first | ((with_reducible refine gate_callee (f := 40) rfl ?_);refine goesL_ (some 18) rfl rfl Try.func40 (by kernel_rfl) rfl #[.slice A1 l1.length c1,.int .i64 a2] rfl (by (try simp only [List.map_toArray,List.map_cons,List.map_nil]);first | done | rfl) ?_;(with_reducible refine (R_Chain.calls k _ _ l1 a2 t223 _ ?side1 ?side2 A5.out).mono ?_);(case side1 => exact Kd.C_foot_now HR1.out (by repeat (first | (with_reducible first | exact HK.out | apply KeepBut.set_ | apply eN_ | apply eD_ | apply eA_) | exact HK.out)));(case side2 => exact HC1.out);rintro e w7 ⟨v224,rfl,ho0,hb⟩;refine ⟨_,rfl,?_⟩;have n0_ := aM_ (Kd.R_lower ho0 (keep_size (w := w) (g := g) (row := none) (by repeat (first | (with_reducible first | exact HK.out | apply KeepBut.set_ | apply eN_ | apply eD_ | apply eA_) | exact HK.out))));have n1_ := aM_ (IsS76.below (by repeat (first | (with_reducible first | exact HI0.out | apply IsS76.alloc | apply IsS76.drewN | apply IsS76.drew | apply IsS76.set_0) | exact HI0.out)) hb);have n2_ := aM_ (KeepBut.trans (by repeat (first | (with_reducible first | exact HK.out | apply KeepBut.set_ | apply eN_ | apply eD_ | apply eA_) | exact HK.out)) (KeepBut.of_below hb g none) (.inl rfl));have n3_ := aM_ (bT_ (by repeat (first | (with_reducible first | exact HB.out | apply bA_ | apply bN_ | apply bD_ | refine bS_ ?_ (IsS76.ge HI0.out)) | exact HB.out)) hb);clear HI0;clear HK;clear HB;have HO225 := n0_;have HI0 := n1_;have HK := n2_;have HB := n3_;clear n0_ n1_ n2_ n3_;(try clear hb);(try clear hb2);(try clear hk);(try clear hi);(try clear ho0)) | ((with_reducible refine gate_callee (f := 16) rfl ?_);refine goesL_ (some 20) rfl rfl Try.func16 (by kernel_rfl) rfl #[.pointer (some ⟨g,0,none⟩),.int .i64 3] rfl (by (try simp only [List.map_toArray,List.map_cons,List.map_nil]);first | done | rfl) ?_;(with_reducible refine (D_Upto.calls g s0_0 3 t226 t227 w0 _ ?side1 ?side2 A6.out).mono ?_);(case side1 => repeat (first | (with_reducible first | exact HI0.out | apply IsS76.alloc | apply IsS76.drewN | apply IsS76.drew | apply IsS76.set_0) | exact HI0.out));(case side2 => repeat (first | (with_reducible first | exact HB.out | apply bA_ | apply bN_ | apply bD_ | refine bS_ ?_ (IsS76.ge HI0.out)) | exact HB.out));rintro e w8 ⟨rfl,hi,hb,hk⟩;refine ⟨_,rfl,?_⟩;have n0_ := aM_ (Kd.R_mono (Kd.R_keep (IsS76.apart (show IsS76 w0 _ g s0_0 from by repeat (first | (with_reducible first | exact HI0.out | apply IsS76.alloc | apply IsS76.drewN | apply IsS76.drew | apply IsS76.set_0) | exact HI0.out)) (by (with_reducible repeat (first | apply Kd.R_alloc | apply Kd.R_drewN | apply Kd.R_drew));exact HO225.out) (by decide)) hk (fun _ h => h.2)) (fun _ h => h.1));have n1_ := aM_ (KeepBut.trans (by repeat (first | (with_reducible first | exact HK.out | apply KeepBut.set_ | apply eN_ | apply eD_ | apply eA_) | exact HK.out)) hk (.inl rfl));have n2_ := aM_ (hb);have n3_ := aM_ (hi);clear HO225;clear HK;clear HB;clear HI0;have HO225 := n0_;have HK := n1_;have HB := n2_;have HI0 := n3_;clear n0_ n1_ n2_ n3_;(try clear hb);(try clear hb2);(try clear hk);(try clear hi);obtain ⟨Ao9,co9,eo9⟩ := Kd.R_slice HO225.out;subst eo9))
 go_loopg [3,11] k (fun kq v3 v11 w' => ∃ (x3_1 : Int) (x11_1 : Int) (x1000_1 : Int),v3 = .int .i64 x3_1 ∧ v11 = .int .i64 x11_1 ∧ Aside0 (K_Showing.l0 kq l1 a2 x3_1 t223 t226 x11_1 x1000_1 = some (r1,r2)) ∧ Aside0 (kq ≤ k) ∧ Aside0 (Kd.R (Kd.int .i64) 3 w' w.heap.size (fun _ => True) (.slice Ao9 t223.length co9) t223) ∧ Aside0 (IsS76 w0 w' g x1000_1) ∧ Aside0 (KeepBut w w' g none) ∧ Aside0 (Below w0.heap.size w0 w'))
 case atStart => exact ⟨(a3),(wrap64 ((t223.length : Int) - 1)),(t227),(by first | rfl | (simp;done) | (simp [*];done)),(by first | rfl | (simp;done) | (simp [*];done)),H',⟨Nat.le_refl _⟩,⟨by (with_reducible repeat (first | apply Kd.R_alloc | apply Kd.R_drewN | apply Kd.R_drew));exact HO225.out⟩,⟨by repeat (first | (with_reducible first | exact HI0.out | apply IsS76.alloc | apply IsS76.drewN | apply IsS76.drew | apply IsS76.set_0) | exact HI0.out)⟩,⟨by repeat (first | (with_reducible first | exact HK.out | apply KeepBut.set_ | apply eN_ | apply eD_ | apply eA_) | exact HK.out)⟩,⟨by repeat (first | (with_reducible first | exact HB.out | apply bA_ | apply bN_ | apply bD_ | refine bS_ ?_ (IsS76.ge HI0.out)) | exact HB.out)⟩⟩
 case round =>
  clear H'
  try clear c1
  try clear p2
  try clear c4
  try clear p6
  obtain ⟨x3_1,x11_1,x1000_1,rfl,rfl,HA,HK1,HO_9,HI0,HK,HB⟩ := hrel
  cases gk with
  | zero => exact absurd HA.out (by simp [K_Showing.l0])
  | succ k1 =>
   have H := HA.out
   clear HA
   simp only [K_Showing.l0] at H
   by_cases c10 : x11_1 ≥ 0
   ·rw [if_pos c10] at H
    have c10b0 : decide (0 ≤ x11_1) = true := decide_eq_true c10
    clear c10
    by_cases c11 : 0 ≤ x11_1
    ·rw [if_pos c11] at H
     have c11b0 : decide (0 ≤ x11_1) = true := decide_eq_true c11
     clear c11
     by_cases c12 : x11_1 < (t223.length : Int)
     ·rw [if_pos c12] at H
      have c12b0 : decide (x11_1 < (t223.length : Int)) = true := decide_eq_true c12
      clear c12
      by_cases c13 : 0 ≤ (rd t223 x11_1)
      ·rw [if_pos c13] at H
       have c13b0 : decide (0 ≤ (rd t223 x11_1)) = true := decide_eq_true c13
       clear c13
       by_cases c14 : (rd t223 x11_1) < (l1.length : Int)
       ·rw [if_pos c14] at H
        have c14b0 : decide ((rd t223 x11_1) < (l1.length : Int)) = true := decide_eq_true c14
        clear c14
        replace H := oB_ H
        obtain ⟨⟨t230,t231⟩,A150,H⟩ := H
        replace H : ((D_In.f x1000_1 t230 t231).bind fun bt233 => ((some (([t230,t231,bt233.1] : List Int) : List Int)).bind fun y235 => (if 0 ≤ t226 then (if t226 < (y235.length : Int) then (K_Showing.l0 k1 l1 a2 (rd y235 t226) t223 t226 (wrap64 (x11_1 - 1)) bt233.2) else (none)) else (none)))) = some (r1,r2) := H
        have A15 := aM_ A150
        clear A150
        replace H := oB_ H
        obtain ⟨⟨t233,t234⟩,A160,H⟩ := H
        replace H : ((some (([t230,t231,t233] : List Int) : List Int)).bind fun y235 => (if 0 ≤ t226 then (if t226 < (y235.length : Int) then (K_Showing.l0 k1 l1 a2 (rd y235 t226) t223 t226 (wrap64 (x11_1 - 1)) t234) else (none)) else (none))) = some (r1,r2) := H
        have A16 := aM_ A160
        clear A160
        obtain ⟨y235,hy235⟩ : ∃ y_ : List Int,y_ = (([t230,t231,t233] : List Int)) := ⟨_,rfl⟩
        replace H : (if 0 ≤ t226 then (if t226 < (y235.length : Int) then (K_Showing.l0 k1 l1 a2 (rd y235 t226) t223 t226 (wrap64 (x11_1 - 1)) t234) else (none)) else (none)) = some (r1,r2) := by first | (rw [hy235];with_reducible exact H) | (have H2_ := (Option.bind_some _ _).symm.trans H;rw [hy235];with_reducible exact H2_) | (have H2_ := (Option.bind_some _ _).symm.trans H;with_reducible exact H2_) | with_reducible exact H | (rw [hy235];exact H) | exact H
        have Ny235 := aM_ hy235
        clear hy235
        by_cases c17 : 0 ≤ t226
        ·rw [if_pos c17] at H
         have c17b0 : decide (0 ≤ t226) = true := decide_eq_true c17
         clear c17
         by_cases c18 : t226 < (y235.length : Int)
         ·rw [if_pos c18] at H
          have c18b0 : decide (t226 < (y235.length : Int)) = true := decide_eq_true c18
          clear c18
          have H' := aM_ H
          clear H
          have p228 : 0 ≤ (x11_1 : Int) := of_decide_eq_true (by first | (with_reducible assumption) | assumption)
          have q228 : x11_1 < (t223.length : Int) := of_decide_eq_true (by first | (with_reducible assumption) | assumption)
          obtain ⟨ad228,e228,hx228_0⟩ := Kd.at_int (Kd.R_reads' HO_9.out).2.2 x11_1 p228 q228
          cases e228
          replace p228 := eq_true p228
          replace q228 := eq_true q228
          have p229 : 0 ≤ ((rd t223 x11_1) : Int) := of_decide_eq_true (by first | (with_reducible assumption) | assumption)
          have q229 : (rd t223 x11_1) < (l1.length : Int) := of_decide_eq_true (by first | (with_reducible assumption) | assumption)
          obtain ⟨ad229,e229,hx229_0,hx229_1,hx229_2,hx229_3,hx229_4,hx229_5,hx229_6⟩ := at_T36 (Kd.C_foot_now HR1.out HK.out) (rd t223 x11_1) p229 q229
          cases e229
          replace p229 := eq_true p229
          replace q229 := eq_true q229
          try go_wp2_with (first | ((with_reducible refine gate_callee (f := 51) rfl ?_);refine goesL_ (some 36) rfl rfl Try.func51 (by kernel_rfl) rfl #[.agg #[.int .i64 ((rd_T36 l1 (rd t223 x11_1)).f0.f0),.int .i64 ((rd_T36 l1 (rd t223 x11_1)).f0.f1),.int .i64 ((rd_T36 l1 (rd t223 x11_1)).f1.f0),.int .i64 ((rd_T36 l1 (rd t223 x11_1)).f1.f1),.int .i64 ((rd_T36 l1 (rd t223 x11_1)).f2),.int .i64 ((rd_T36 l1 (rd t223 x11_1)).f3),.int .i64 ((rd_T36 l1 (rd t223 x11_1)).f4)],.int .i64 x3_1] rfl (by (try simp only [List.map_toArray,List.map_cons,List.map_nil]);first | done | rfl) ?_;(with_reducible refine (R_Made.calls ((rd_T36 l1 (rd t223 x11_1)).f0.f0) ((rd_T36 l1 (rd t223 x11_1)).f0.f1) ((rd_T36 l1 (rd t223 x11_1)).f1.f0) ((rd_T36 l1 (rd t223 x11_1)).f1.f1) ((rd_T36 l1 (rd t223 x11_1)).f2) ((rd_T36 l1 (rd t223 x11_1)).f3) ((rd_T36 l1 (rd t223 x11_1)).f4) x3_1 t230 t231 _ A15.out).mono ?_);rintro e w19 ⟨rfl,hb⟩;refine ⟨_,rfl,?_⟩;have n0_ := aM_ (Kd.R_below (by (with_reducible repeat (first | apply Kd.R_alloc | apply Kd.R_drewN | apply Kd.R_drew));exact HO_9.out) hb);have n1_ := aM_ (IsS76.below (by repeat (first | (with_reducible first | exact HI0.out | apply IsS76.alloc | apply IsS76.drewN | apply IsS76.drew | apply IsS76.set_0) | exact HI0.out)) hb);have n2_ := aM_ (KeepBut.trans (by repeat (first | (with_reducible first | exact HK.out | apply KeepBut.set_ | apply eN_ | apply eD_ | apply eA_) | exact HK.out)) (KeepBut.of_below hb g none) (.inl rfl));have n3_ := aM_ (bT_ (by repeat (first | (with_reducible first | exact HB.out | apply bA_ | apply bN_ | apply bD_ | refine bS_ ?_ (IsS76.ge HI0.out)) | exact HB.out)) hb);clear HO_9;clear HI0;clear HK;clear HB;have HO_9 := n0_;have HI0 := n1_;have HK := n2_;have HB := n3_;clear n0_ n1_ n2_ n3_;(try clear hb);(try clear hb2);(try clear hk);(try clear hi)) | ((with_reducible refine gate_dst (N := 12) rfl ?_);refine box_event ?hg (N := 12) ?hd (cs := #[.int .i64 0,.int .i64 0]) (t := 34) ?hr ?_;(case hd => rfl);(case hg => rfl);(case hr => first | (go_simp;done) | (go_simp;rfl));intro gb232 hg w20 hbox hb;have n0_ := aM_ (Kd.R_below (by (with_reducible repeat (first | apply Kd.R_alloc | apply Kd.R_drewN | apply Kd.R_drew));exact HO_9.out) hb);have n1_ := aM_ (IsS76.below (by repeat (first | (with_reducible first | exact HI0.out | apply IsS76.alloc | apply IsS76.drewN | apply IsS76.drew | apply IsS76.set_0) | exact HI0.out)) hb);have n2_ := aM_ (KeepBut.trans (by repeat (first | (with_reducible first | exact HK.out | apply KeepBut.set_ | apply eN_ | apply eD_ | apply eA_) | exact HK.out)) (KeepBut.of_below hb g none) (.inl rfl));have n3_ := aM_ (bT_ (by repeat (first | (with_reducible first | exact HB.out | apply bA_ | apply bN_ | apply bD_ | refine bS_ ?_ (IsS76.ge HI0.out)) | exact HB.out)) hb);have n4_ := aM_ (hbox);have n5_ := aM_ ((by rw [hg];exact (keep_size (w := w) (g := g) (row := none) (by repeat (first | (with_reducible first | exact HK.out | apply KeepBut.set_ | apply eN_ | apply eD_ | apply eA_) | exact HK.out))) : w.heap.size ≤ gb232));have n6_ := aM_ ((Nat.le_trans HW0.out (by rw [hg];exact (keep_size (w := w) (g := g) (row := none) (by repeat (first | (with_reducible first | exact HK.out | apply KeepBut.set_ | apply eN_ | apply eD_ | apply eA_) | exact HK.out))) : w.heap.size ≤ gb232) : w0.heap.size ≤ gb232));have n7_ := aM_ ((by rw [hg];exact Nat.ne_of_lt (IsS76.lt (show IsS76 w0 _ g x1000_1 from by repeat (first | (with_reducible first | exact HI0.out | apply IsS76.alloc | apply IsS76.drewN | apply IsS76.drew | apply IsS76.set_0) | exact HI0.out))) : g ≠ gb232));have n8_ := aM_ ((by rw [hg];exact Nat.ne_of_gt (IsS76.lt (show IsS76 w0 _ g x1000_1 from by repeat (first | (with_reducible first | exact HI0.out | apply IsS76.alloc | apply IsS76.drewN | apply IsS76.drew | apply IsS76.set_0) | exact HI0.out))) : gb232 ≠ g));clear HO_9;clear HI0;clear HK;clear HB;have HO_9 := n0_;have HI0 := n1_;have HK := n2_;have HB := n3_;have BK232 := n4_;have GW232 := n5_;have GE232 := n6_;have NB0_232 := n7_;have NB232_0 := n8_;clear n0_ n1_ n2_ n3_ n4_ n5_ n6_ n7_ n8_;clear hb hbox hg;have hnb21 := NB232_0.out;have hnc21 := NB0_232.out;have hcz22_0 : w20.cell? ⟨gb232,0,none⟩ = some (.int .i64 0) := (blk_cell BK232.out 0).trans rfl;have hcz22_1 : w20.cell? ⟨gb232,1,none⟩ = some (.int .i64 0) := (blk_cell BK232.out 1).trans rfl;have hfz22_0 := blk_frozen BK232.out 0;have hfz22_1 := blk_frozen BK232.out 1))
          have pi238 : (0 ≤ (t226 : Int)) = True := eq_true (of_decide_eq_true (by first | (with_reducible assumption) | assumption))
          have qi238 : (t226 < (y235.length : Int)) = True := eq_true (of_decide_eq_true (by first | (with_reducible assumption) | assumption))
          have n0_ : Aside0 (Kd.R (Kd.int .i64) 3 ((w20.setCell ⟨gb232,0,none⟩ (.int .i64 t230)).setCell ⟨gb232,1,none⟩ (.int .i64 t231)) w.heap.size (fun _ => True) (.slice (some ad228) t223.length co9) t223) := ⟨by (with_reducible repeat (first | apply Kd.R_alloc | apply Kd.R_drewN | apply Kd.R_drew));exact Kd.R_mono (Kd.R_far (p := ⟨gb232,1,none⟩) (Kd.R_far (p := ⟨gb232,0,none⟩) (Kd.R_types HO_9.out BK232.out (by decide)) (fun _ hk => hk.2) (.int .i64 t230)) (fun _ hk => hk.2) (.int .i64 t231)) (fun _ hk => trivial)⟩
          have n1_ : Aside0 (((w20.setCell ⟨gb232,0,none⟩ (.int .i64 t230)).setCell ⟨gb232,1,none⟩ (.int .i64 t231)).heap[gb232]? = some (.cells #[.int .i64 t230,.int .i64 t231] 34 (0,0))) := ⟨by (with_reducible repeat (first | refine kN_ ?_ _ | refine kD_ ?_ | refine kA_ ?_ _));refine blk_put (cs := #[.int .i64 t230,.int .i64 0]) ?_ 1 _ rfl;(with_reducible repeat (first | refine kN_ ?_ _ | refine kD_ ?_ | refine kA_ ?_ _));refine blk_put (cs := #[.int .i64 0,.int .i64 0]) ?_ 0 _ rfl;(with_reducible repeat (first | refine kN_ ?_ _ | refine kD_ ?_ | refine kA_ ?_ _));exact BK232.out⟩
          have n2_ : Aside0 (IsS76 w0 ((w20.setCell ⟨gb232,0,none⟩ (.int .i64 t230)).setCell ⟨gb232,1,none⟩ (.int .i64 t231)) g x1000_1) := ⟨by repeat (first | (with_reducible first | exact HI0.out | apply IsS76.alloc | apply IsS76.drewN | apply IsS76.drew | apply IsS76.set_0 | refine IsS76.far ?_ NB0_232.out _) | exact HI0.out)⟩
          have n3_ : Aside0 (KeepBut w ((w20.setCell ⟨gb232,0,none⟩ (.int .i64 t230)).setCell ⟨gb232,1,none⟩ (.int .i64 t231)) g none) := ⟨by repeat (first | (with_reducible first | exact HK.out | apply KeepBut.set_ | apply eN_ | apply eD_ | apply eA_ | refine keep_far ?_ GW232.out _) | exact HK.out)⟩
          have n4_ : Aside0 (Below w0.heap.size w0 ((w20.setCell ⟨gb232,0,none⟩ (.int .i64 t230)).setCell ⟨gb232,1,none⟩ (.int .i64 t231))) := ⟨by repeat (first | (with_reducible first | exact HB.out | apply bA_ | apply bN_ | apply bD_ | refine bS_ ?_ (IsS76.ge HI0.out) | refine bS_ ?_ GE232.out) | exact HB.out)⟩
          (try clear HO_9)
          (try clear BK232)
          (try clear HI0)
          (try clear HK)
          (try clear HB)
          generalize ((w20.setCell ⟨gb232,0,none⟩ (.int .i64 t230)).setCell ⟨gb232,1,none⟩ (.int .i64 t231)) = w23 at n0_ n1_ n2_ n3_ n4_ ⊢
          have HO_9 := n0_
          have BK232 := n1_
          have HI0 := n2_
          have HK := n3_
          have HB := n4_
          clear n0_ n1_ n2_ n3_ n4_
          have n0_ := aM_ (Kd.R_drew HO_9.out)
          have n1_ := aM_ (kD_ BK232.out)
          have n2_ := aM_ (IsS76.drew HI0.out)
          have n3_ := aM_ (eD_ HK.out)
          have n4_ := aM_ (bD_ HB.out)
          clear HO_9
          clear BK232
          clear HI0
          clear HK
          clear HB
          have HO_9 := n0_
          have BK232 := n1_
          have HI0 := n2_
          have HK := n3_
          have HB := n4_
          clear n0_ n1_ n2_ n3_ n4_
          refine start_ (n := 12) (S := fun w' => w'.cell? ⟨gb232,0,none⟩ = some (.int .i64 t230) ∧ w'.cell? ⟨gb232,1,none⟩ = some (.int .i64 t231)) (ds := []) #[false,false,false,false,false,false,false,false,false,false,false,false] (by kernel_rfl) rfl rfl ⟨(blk_cell BK232.out 0).trans rfl,(blk_cell BK232.out 1).trans rfl⟩ (fun hHeld => ?_);refine with_tabW K_Showing.tab7 K_Showing.bits7 (fun HT_ HW_ => ?_)
          generalize w23.drew = w24 at HO_9 BK232 HI0 HK HB hHeld ⊢
          refine pure_ (i := 0) (N := some 37) (v := ?_) (a' := ?_) #[true,false,false,false,false,false,false,false,false,false,false,false] rfl rfl (any_of HT_.out (by kernel_rfl)) (fun _ _ _ h => h) (Or.inl ⟨by rfl,?_⟩) ?_ ?_
          rotate_left
          ·intro w'
           go_simp
           with_reducible rfl
          rotate_left
          ·simp only [Act.put,sB_,sZ_,sS_,i64_w,i32_w]
           rfl
          refine pure_ (i := 2) (N := some 39) (v := ?_) (a' := ?_) #[true,false,true,false,false,false,false,false,false,false,false,false] rfl rfl (any_of HT_.out (by kernel_rfl)) (fun _ _ _ h => h) (Or.inl ⟨by rfl,?_⟩) ?_ ?_
          rotate_left
          ·intro w'
           go_simp
           with_reducible rfl
          rotate_left
          ·simp only [Act.put,sB_,sZ_,sS_,i64_w,i32_w]
           rfl
          refine pure_ (i := 4) (N := some 41) (v := ?_) (a' := ?_) #[true,false,true,false,true,false,false,false,false,false,false,false] rfl rfl (any_of HT_.out (by kernel_rfl)) (fun _ _ _ h => h) (Or.inl ⟨by rfl,?_⟩) ?_ ?_
          rotate_left
          ·intro w'
           go_simp
           with_reducible rfl
          rotate_left
          ·simp only [Act.put,sB_,sZ_,sS_,i64_w,i32_w]
           rfl
          refine pure_ (i := 8) (N := some 45) (v := ?_) (a' := ?_) #[true,false,true,false,true,false,false,false,true,false,false,false] rfl rfl (any_of HT_.out (by kernel_rfl)) (fun _ _ _ h => h) (Or.inl ⟨by rfl,?_⟩) ?_ ?_
          rotate_left
          ·intro w'
           go_simp
           with_reducible rfl
          rotate_left
          ·simp only [Act.put,sB_,sZ_,sS_,i64_w,i32_w]
           rfl
          refine take_ (i := 1) (N := some 38) (v := ?_) (a' := ?_) #[true,true,true,false,true,false,false,false,true,false,false,false] rfl rfl (take_ofW HT_.out HW_.out (by kernel_rfl)) (fun _ _ _ h => h) (Or.inl ⟨by rfl,?_⟩) hHeld ?_ ?_
          rotate_left
          ·rintro w' ⟨s0,s1⟩
           go_simp
           with_reducible rfl
          rotate_left
          ·simp only [Act.put,sB_,sZ_,sS_,i64_w,i32_w]
           rfl
          refine take_ (i := 3) (N := some 40) (v := ?_) (a' := ?_) #[true,true,true,true,true,false,false,false,true,false,false,false] rfl rfl (take_ofW HT_.out HW_.out (by kernel_rfl)) (fun _ _ _ h => h) (Or.inl ⟨by rfl,?_⟩) hHeld ?_ ?_
          rotate_left
          ·rintro w' ⟨s0,s1⟩
           go_simp
           with_reducible rfl
          rotate_left
          ·simp only [Act.put,sB_,sZ_,sS_,i64_w,i32_w]
           rfl
          refine take_ (i := 5) (N := some 42) (v := ?_) (a' := ?_) #[true,true,true,true,true,true,false,false,true,false,false,false] rfl rfl (take_ofW HT_.out HW_.out (by kernel_rfl)) (fun _ _ _ h => h) (Or.inl ⟨by rfl,?_⟩) hHeld ?_ ?_
          rotate_left
          ·rintro w' ⟨s0,s1⟩
           go_simp
           with_reducible rfl
          rotate_left
          ·simp only [Act.put,sB_,sZ_,sS_,i64_w,i32_w]
           rfl
          refine one_ (i := 6) (N := some 43) #[true,true,true,true,true,true,true,false,true,false,false,false] rfl rfl (one_of HT_.out (by kernel_rfl)) (by decide) (fun K hK => ?_)
          refine goes_ Try.func52 (by kernel_rfl) rfl #[.pointer (some ⟨g,0,none⟩),.agg #[.int .i64 t230,.int .i64 t231]] (by rfl) rfl rfl (by (try simp only [List.map_toArray,List.map_cons,List.map_nil]);first | done | rfl) ?_
          with_reducible refine (D_In.calls g x1000_1 t230 t231 t233 t234 w0 _ ?side1 ?side2 A16.out).mono ?_
          (case side1 => repeat (first | (with_reducible first | exact HI0.out | apply IsS76.alloc | apply IsS76.drewN | apply IsS76.drew | apply IsS76.set_0 | refine IsS76.far ?_ NB0_232.out _) | exact HI0.out))
          (case side2 => repeat (first | (with_reducible first | exact HB.out | apply bA_ | apply bN_ | apply bD_ | refine bS_ ?_ (IsS76.ge HI0.out) | refine bS_ ?_ GE232.out) | exact HB.out))
          rintro e w25 ⟨rfl,hi,hb,hk⟩
          refine ⟨_,rfl,?_⟩
          have n0_ := aM_ (Kd.R_mono (Kd.R_keep (IsS76.apart (show IsS76 w0 _ g x1000_1 from by repeat (first | (with_reducible first | exact HI0.out | apply IsS76.alloc | apply IsS76.drewN | apply IsS76.drew | apply IsS76.set_0 | refine IsS76.far ?_ NB0_232.out _) | exact HI0.out)) (by (with_reducible repeat (first | apply Kd.R_alloc | apply Kd.R_drewN | apply Kd.R_drew));exact HO_9.out) (by decide)) hk (fun _ h => h.2)) (fun _ h => h.1))
          have n1_ := aM_ (KeepBut.blk hk (g' := gb232) (o := .cells #[.int .i64 t230,.int .i64 t231] 34 (0,0)) (by (with_reducible repeat (first | refine kN_ ?_ _ | refine kD_ ?_ | refine kA_ ?_ _));exact BK232.out) NB232_0.out (by simp))
          have n2_ := aM_ (KeepBut.trans (by repeat (first | (with_reducible first | exact HK.out | apply KeepBut.set_ | apply eN_ | apply eD_ | apply eA_ | refine keep_far ?_ GW232.out _) | exact HK.out)) hk (.inl rfl))
          have n3_ := aM_ (hb)
          have n4_ := aM_ (hi)
          clear HO_9
          clear BK232
          clear HK
          clear HB
          clear HI0
          have HO_9 := n0_
          have BK232 := n1_
          have HK := n2_
          have HB := n3_
          have HI0 := n4_
          clear n0_ n1_ n2_ n3_ n4_
          (try clear hb)
          (try clear hb2)
          (try clear hk)
          (try clear hi)
          refine hK.out _ _ ⟨(blk_cell BK232.out 0).trans rfl,(blk_cell BK232.out 1).trans rfl⟩ (fun hHeld => ?_)
          clear hK K
          refine norm_ (a' := ?_) ?_ ?_
          rotate_left
          ·show Act.put _ (some 43) _ = _
           simp only [Act.put,sB_,sZ_,sS_,i64_w,i32_w]
           rfl
          refine one_ (i := 7) (N := some 44) #[true,true,true,true,true,true,true,true,true,false,false,false] rfl rfl (one_of HT_.out (by kernel_rfl)) (by decide) (fun K hK => ?_)
          refine Kd.R_lit_step (Kd.int .i64) _ 3 ?hg (N := 44) ?hd (xs := ([t230,t231,t233] : List Int)) (inner := [.int .i64 t230,.int .i64 t231,.int .i64 t233]) (ok := fun _ => True) (okp := fun _ => True) ?hr ?hp (fun _ hk => hk) trivial (Below.refl _ _) (Nat.le_refl _) (by simp) ?_;(case hd => rfl);(case hg => rfl);(case hr => first | (go_simp;done) | (go_simp;rfl));(case hp => exact (Reps.one (show Kd.M (Kd.int .i64) _ _ _ t230 [.int .i64 t230] from rfl) (Reps.one (show Kd.M (Kd.int .i64) _ _ _ t231 [.int .i64 t231] from rfl) (Reps.one (show Kd.M (Kd.int .i64) _ _ _ t233 [.int .i64 t233] from rfl) (Reps.none _ _)))))
          intro v236 w26 ho27 hb hg_ hnew_
          clear hg_ hnew_
          (first | rw [← Ny235.out] at ho27 | (simp only [Int.reduceToNat] at ho27;rw [← Ny235.out] at ho27))
          have n0_ := aM_ (Kd.R_elder' (by (with_reducible repeat (first | apply Kd.R_alloc | apply Kd.R_drewN | apply Kd.R_drew));exact HO_9.out) (Kd.R_base ho27) hb)
          have n1_ := aM_ (Kd.R_lower (Kd.R_new' ho27 (Kd.R_lt (by (with_reducible repeat (first | apply Kd.R_alloc | apply Kd.R_drewN | apply Kd.R_drew));exact HO_9.out))) (keep_size (w := w) (g := g) (row := none) (by repeat (first | (with_reducible first | exact HK.out | apply KeepBut.set_ | apply eN_ | apply eD_ | apply eA_ | refine keep_far ?_ GW232.out _) | exact HK.out))))
          have n2_ := aM_ (IsS76.below (by repeat (first | (with_reducible first | exact HI0.out | apply IsS76.alloc | apply IsS76.drewN | apply IsS76.drew | apply IsS76.set_0 | refine IsS76.far ?_ NB0_232.out _) | exact HI0.out)) hb)
          have n3_ := aM_ (kB_ (g := gb232) (o := .cells #[.int .i64 t230,.int .i64 t231] 34 (0,0)) (by (with_reducible repeat (first | refine kN_ ?_ _ | refine kD_ ?_ | refine kA_ ?_ _));exact BK232.out) hb)
          have n4_ := aM_ (KeepBut.trans (by repeat (first | (with_reducible first | exact HK.out | apply KeepBut.set_ | apply eN_ | apply eD_ | apply eA_ | refine keep_far ?_ GW232.out _) | exact HK.out)) (KeepBut.of_below hb g none) (.inl rfl))
          have n5_ := aM_ (bT_ (by repeat (first | (with_reducible first | exact HB.out | apply bA_ | apply bN_ | apply bD_ | refine bS_ ?_ (IsS76.ge HI0.out) | refine bS_ ?_ GE232.out) | exact HB.out)) hb)
          clear HO_9
          clear HI0
          clear BK232
          clear HK
          clear HB
          have HO_9 := n0_
          have HO237 := n1_
          have HI0 := n2_
          have BK232 := n3_
          have HK := n4_
          have HB := n5_
          clear n0_ n1_ n2_ n3_ n4_ n5_
          clear hb ho27
          obtain ⟨Ao28,co28,eo28⟩ := Kd.R_slice HO237.out
          subst eo28
          obtain ⟨ado28,fo28,_⟩ := Kd.at_int (Kd.R_reads' HO237.out).2.2 0 (by decide) (by rw [Ny235.out];simp)
          cases fo28
          refine hK.out _ _ ⟨(blk_cell BK232.out 0).trans rfl,(blk_cell BK232.out 1).trans rfl⟩ (fun hHeld => ?_)
          clear hK K
          refine norm_ (a' := ?_) ?_ ?_
          rotate_left
          ·show Act.put _ (some 44) _ = _
           simp only [Act.put,sB_,sZ_,sS_,i64_w,i32_w]
           rfl
          refine pure_ (i := 9) (N := some 46) (v := ?_) (a' := ?_) #[true,true,true,true,true,true,true,true,true,true,false,false] rfl rfl (any_of HT_.out (by kernel_rfl)) (fun _ _ _ h => h) (Or.inl ⟨by rfl,?_⟩) ?_ ?_
          rotate_left
          ·intro w'
           go_simp
           with_reducible rfl
          rotate_left
          ·simp only [Act.put,sB_,sZ_,sS_,i64_w,i32_w]
           rfl
          refine one_ (i := 10) (N := some 47) #[true,true,true,true,true,true,true,true,true,true,true,false] rfl rfl (one_of HT_.out (by kernel_rfl)) (by decide) (fun K hK => ?_)
          (have p238 : 0 ≤ (t226 : Int) := of_decide_eq_true (by first | (with_reducible assumption) | assumption);have q238 : t226 < (y235.length : Int) := of_decide_eq_true (by first | (with_reducible assumption) | assumption);obtain ⟨ad238,e238,hx238_0⟩ := Kd.at_int (Kd.R_reads' HO237.out).2.2 t226 p238 q238;obtain rfl : ado28 = ad238 := (by injection e238))
          refine value_ (w1 := ?_) (v := ?_) (by rfl) rfl ?_ ?_
          rotate_left 2
          ·go_simp
           constructor
           ·rfl
           ·rfl
          clear hx238_0
          refine hK.out _ _ ⟨(blk_cell BK232.out 0).trans rfl,(blk_cell BK232.out 1).trans rfl⟩ (fun hHeld => ?_)
          clear hK K
          refine norm_ (a' := ?_) ?_ ?_
          rotate_left
          ·show Act.put _ (some 47) _ = _
           simp only [Act.put,sB_,sZ_,sS_,i64_w,i32_w]
           rfl
          refine pure_ (i := 11) (N := some 3) (v := ?_) (a' := ?_) #[true,true,true,true,true,true,true,true,true,true,true,true] rfl rfl (any_of HT_.out (by kernel_rfl)) (fun _ _ _ h => h) (Or.inl ⟨by rfl,?_⟩) ?_ ?_
          rotate_left
          ·intro w'
           go_simp
           with_reducible rfl
          rotate_left
          ·simp only [Act.put,sB_,sZ_,sS_,i64_w,i32_w]
           rfl
          refine done_ (done_of HT_.out (by kernel_rfl)) ?_
          try go_wp2
          go_roundg k1
          case measure => have := HK1.out;omega
          case rel => exact ⟨(rd y235 t226),(wrap64 (x11_1 - 1)),(t234),(by first | rfl | (simp;done) | (simp [*];done)),(by first | rfl | (simp;done) | (simp [*];done)),H',⟨by have := HK1.out;omega⟩,⟨by (with_reducible repeat (first | apply Kd.R_alloc | apply Kd.R_drewN | apply Kd.R_drew));exact Kd.R_mono HO_9.out (fun _ hk => trivial)⟩,⟨by repeat (first | (with_reducible first | exact HI0.out | apply IsS76.alloc | apply IsS76.drewN | apply IsS76.drew | apply IsS76.set_0 | refine IsS76.far ?_ NB0_232.out _) | exact HI0.out)⟩,⟨by repeat (first | (with_reducible first | exact HK.out | apply KeepBut.set_ | apply eN_ | apply eD_ | apply eA_ | refine keep_far ?_ GW232.out _) | exact HK.out)⟩,⟨by repeat (first | (with_reducible first | exact HB.out | apply bA_ | apply bN_ | apply bD_ | refine bS_ ?_ (IsS76.ge HI0.out) | refine bS_ ?_ GE232.out) | exact HB.out)⟩⟩
         ·rw [if_neg c18] at H
          exact absurd H (by simp)
        ·rw [if_neg c17] at H
         exact absurd H (by simp)
       ·rw [if_neg c14] at H
        exact absurd H (by simp)
      ·rw [if_neg c13] at H
       exact absurd H (by simp)
     ·rw [if_neg c12] at H
      exact absurd H (by simp)
    ·rw [if_neg c11] at H
     exact absurd H (by simp)
   ·rw [if_neg c10] at H
    have c10b0 : decide (0 ≤ x11_1) = false := decide_eq_false c10
    clear c10
    by_cases c29 : 0 ≤ a2
    ·rw [if_pos c29] at H
     have c29b0 : decide (0 ≤ a2) = true := decide_eq_true c29
     clear c29
     by_cases c30 : a2 < (l1.length : Int)
     ·rw [if_pos c30] at H
      have c30b0 : decide (a2 < (l1.length : Int)) = true := decide_eq_true c30
      clear c30
      replace H := oB_ H
      obtain ⟨t240,A310,H⟩ := H
      replace H : (if (wrap64 (2 * (wrap64 (x3_1 - (wrap64 (t240 * ((rd_T36 l1 a2).f2))))))) > ((rd_T36 l1 a2).f2) then (some (wrap64 ((wrap64 (t240 * ((rd_T36 l1 a2).f2))) + ((rd_T36 l1 a2).f2)),x1000_1)) else (if (wrap64 (2 * (wrap64 (x3_1 - (wrap64 (t240 * ((rd_T36 l1 a2).f2))))))) = ((rd_T36 l1 a2).f2) then ((D_One.f x1000_1 2).bind fun bt241 => (if bt241.1 = true then (some (wrap64 ((wrap64 (t240 * ((rd_T36 l1 a2).f2))) + ((rd_T36 l1 a2).f2)),bt241.2)) else (some (wrap64 (t240 * ((rd_T36 l1 a2).f2)),bt241.2)))) else (some (wrap64 (t240 * ((rd_T36 l1 a2).f2)),x1000_1)))) = some (r1,r2) := H
      have A31 := aM_ A310
      clear A310
      by_cases c32 : (wrap64 (2 * (wrap64 (x3_1 - (wrap64 (t240 * ((rd_T36 l1 a2).f2))))))) > ((rd_T36 l1 a2).f2)
      ·rw [if_pos c32] at H
       have c32b0 : decide (((rd_T36 l1 a2).f2) < (wrap64 (2 * (wrap64 (x3_1 - (wrap64 (t240 * ((rd_T36 l1 a2).f2)))))))) = true := decide_eq_true c32
       clear c32
       simp only [Option.some.injEq,Prod.mk.injEq] at H
       obtain ⟨rfl,rfl⟩ := H
       have p239 : 0 ≤ (a2 : Int) := of_decide_eq_true (by first | (with_reducible assumption) | assumption)
       have q239 : a2 < (l1.length : Int) := of_decide_eq_true (by first | (with_reducible assumption) | assumption)
       obtain ⟨ad239,e239,hx239_0,hx239_1,hx239_2,hx239_3,hx239_4,hx239_5,hx239_6⟩ := at_T36 (Kd.C_foot_now HR1.out HK.out) a2 p239 q239
       cases e239
       replace p239 := eq_true p239
       replace q239 := eq_true q239
       go_wp2_with (first | ((with_reducible refine gate_callee (f := 53) rfl ?_);refine goesL_ (some 55) rfl rfl Try.func53 (by kernel_rfl) rfl #[.int .i64 x3_1,.int .i64 ((rd_T36 l1 a2).f2)] rfl (by (try simp only [List.map_toArray,List.map_cons,List.map_nil]);first | done | rfl) ?_;(with_reducible refine (R_Down.calls x3_1 ((rd_T36 l1 a2).f2) t240 _ A31.out).mono ?_);rintro e w' ⟨rfl,⟨nd,rfl⟩⟩;refine ⟨_,rfl,?_⟩))
       go_ret
       exact ⟨by first | rfl | (simp [*] <;> rfl),by repeat (first | (with_reducible first | exact HI0.out | apply IsS76.alloc | apply IsS76.drewN | apply IsS76.drew | apply IsS76.set_0) | exact HI0.out),by repeat (first | (with_reducible first | exact HB.out | apply bA_ | apply bN_ | apply bD_ | refine bS_ ?_ (IsS76.ge HI0.out)) | exact HB.out),by repeat (first | (with_reducible first | exact HK.out | apply KeepBut.set_ | apply eN_ | apply eD_ | apply eA_) | exact HK.out)⟩
      ·rw [if_neg c32] at H
       have c32b0 : decide (((rd_T36 l1 a2).f2) < (wrap64 (2 * (wrap64 (x3_1 - (wrap64 (t240 * ((rd_T36 l1 a2).f2)))))))) = false := decide_eq_false c32
       clear c32
       by_cases c33 : (wrap64 (2 * (wrap64 (x3_1 - (wrap64 (t240 * ((rd_T36 l1 a2).f2))))))) = ((rd_T36 l1 a2).f2)
       ·rw [if_pos c33] at H
        have c33b0 : ((wrap64 (2 * (wrap64 (x3_1 - (wrap64 (t240 * ((rd_T36 l1 a2).f2))))))) == ((rd_T36 l1 a2).f2)) = true := beq_iff_eq.mpr c33
        have c33b1 : ((wrap64 (2 * (wrap64 (x3_1 - (wrap64 (t240 * ((rd_T36 l1 a2).f2))))))) != ((rd_T36 l1 a2).f2)) = false := bne_eq_false_iff_eq.mpr c33
        clear c33
        replace H := oB_ H
        obtain ⟨⟨t241,t242⟩,A340,H⟩ := H
        replace H : (if t241 = true then (some (wrap64 ((wrap64 (t240 * ((rd_T36 l1 a2).f2))) + ((rd_T36 l1 a2).f2)),t242)) else (some (wrap64 (t240 * ((rd_T36 l1 a2).f2)),t242))) = some (r1,r2) := H
        have A34 := aM_ A340
        clear A340
        by_cases c35 : t241 = true
        ·subst c35
         have H1 : (some (wrap64 ((wrap64 (t240 * ((rd_T36 l1 a2).f2))) + ((rd_T36 l1 a2).f2)),t242)) = some (r1,r2) := by rw [if_pos rfl] at H;exact H
         clear H
         have H := H1
         clear H1
         simp only [Option.some.injEq,Prod.mk.injEq] at H
         obtain ⟨rfl,rfl⟩ := H
         have p239 : 0 ≤ (a2 : Int) := of_decide_eq_true (by first | (with_reducible assumption) | assumption)
         have q239 : a2 < (l1.length : Int) := of_decide_eq_true (by first | (with_reducible assumption) | assumption)
         obtain ⟨ad239,e239,hx239_0,hx239_1,hx239_2,hx239_3,hx239_4,hx239_5,hx239_6⟩ := at_T36 (Kd.C_foot_now HR1.out HK.out) a2 p239 q239
         cases e239
         replace p239 := eq_true p239
         replace q239 := eq_true q239
         go_wp2_with (first | ((with_reducible refine gate_callee (f := 53) rfl ?_);refine goesL_ (some 55) rfl rfl Try.func53 (by kernel_rfl) rfl #[.int .i64 x3_1,.int .i64 ((rd_T36 l1 a2).f2)] rfl (by (try simp only [List.map_toArray,List.map_cons,List.map_nil]);first | done | rfl) ?_;(with_reducible refine (R_Down.calls x3_1 ((rd_T36 l1 a2).f2) t240 _ A31.out).mono ?_);rintro e w' ⟨rfl,⟨nd,rfl⟩⟩;refine ⟨_,rfl,?_⟩) | (go_at_call 18;(with_reducible refine (D_One.calls g x1000_1 2 true t242 w0 _ ?side1 ?side2 A34.out).mono ?_);(case side1 => repeat (first | (with_reducible first | exact HI0.out | apply IsS76.alloc | apply IsS76.drewN | apply IsS76.drew | apply IsS76.set_0) | exact HI0.out));(case side2 => repeat (first | (with_reducible first | exact HB.out | apply bA_ | apply bN_ | apply bD_ | refine bS_ ?_ (IsS76.ge HI0.out)) | exact HB.out));rintro e w36 ⟨rfl,hi,hb,hk⟩;have n0_ := aM_ (Kd.R_mono (Kd.R_keep (IsS76.apart (show IsS76 w0 _ g x1000_1 from by repeat (first | (with_reducible first | exact HI0.out | apply IsS76.alloc | apply IsS76.drewN | apply IsS76.drew | apply IsS76.set_0) | exact HI0.out)) (by (with_reducible repeat (first | apply Kd.R_alloc | apply Kd.R_drewN | apply Kd.R_drew));exact HO_9.out) (by decide)) hk (fun _ h => h.2)) (fun _ h => h.1));have n1_ := aM_ (KeepBut.trans (by repeat (first | (with_reducible first | exact HK.out | apply KeepBut.set_ | apply eN_ | apply eD_ | apply eA_) | exact HK.out)) hk (.inl rfl));have n2_ := aM_ (hb);have n3_ := aM_ (hi);clear HO_9;clear HK;clear HB;clear HI0;have HO_9 := n0_;have HK := n1_;have HB := n2_;have HI0 := n3_;clear n0_ n1_ n2_ n3_;(try clear hb);(try clear hb2);(try clear hk);(try clear hi)))
         go_ret
         exact ⟨by first | rfl | (simp [*] <;> rfl),by repeat (first | (with_reducible first | exact HI0.out | apply IsS76.alloc | apply IsS76.drewN | apply IsS76.drew | apply IsS76.set_0) | exact HI0.out),by repeat (first | (with_reducible first | exact HB.out | apply bA_ | apply bN_ | apply bD_ | refine bS_ ?_ (IsS76.ge HI0.out)) | exact HB.out),by repeat (first | (with_reducible first | exact HK.out | apply KeepBut.set_ | apply eN_ | apply eD_ | apply eA_) | exact HK.out)⟩
        ·replace c35 := Bool.eq_false_iff.mpr c35
         subst c35
         have H1 : (some (wrap64 (t240 * ((rd_T36 l1 a2).f2)),t242)) = some (r1,r2) := by rw [if_neg (show ¬ (false = true) by decide)] at H;exact H
         clear H
         have H := H1
         clear H1
         simp only [Option.some.injEq,Prod.mk.injEq] at H
         obtain ⟨rfl,rfl⟩ := H
         have p239 : 0 ≤ (a2 : Int) := of_decide_eq_true (by first | (with_reducible assumption) | assumption)
         have q239 : a2 < (l1.length : Int) := of_decide_eq_true (by first | (with_reducible assumption) | assumption)
         obtain ⟨ad239,e239,hx239_0,hx239_1,hx239_2,hx239_3,hx239_4,hx239_5,hx239_6⟩ := at_T36 (Kd.C_foot_now HR1.out HK.out) a2 p239 q239
         cases e239
         replace p239 := eq_true p239
         replace q239 := eq_true q239
         go_wp2_with (first | ((with_reducible refine gate_callee (f := 53) rfl ?_);refine goesL_ (some 55) rfl rfl Try.func53 (by kernel_rfl) rfl #[.int .i64 x3_1,.int .i64 ((rd_T36 l1 a2).f2)] rfl (by (try simp only [List.map_toArray,List.map_cons,List.map_nil]);first | done | rfl) ?_;(with_reducible refine (R_Down.calls x3_1 ((rd_T36 l1 a2).f2) t240 _ A31.out).mono ?_);rintro e w' ⟨rfl,⟨nd,rfl⟩⟩;refine ⟨_,rfl,?_⟩) | (go_at_call 18;(with_reducible refine (D_One.calls g x1000_1 2 false t242 w0 _ ?side1 ?side2 A34.out).mono ?_);(case side1 => repeat (first | (with_reducible first | exact HI0.out | apply IsS76.alloc | apply IsS76.drewN | apply IsS76.drew | apply IsS76.set_0) | exact HI0.out));(case side2 => repeat (first | (with_reducible first | exact HB.out | apply bA_ | apply bN_ | apply bD_ | refine bS_ ?_ (IsS76.ge HI0.out)) | exact HB.out));rintro e w37 ⟨rfl,hi,hb,hk⟩;have n0_ := aM_ (Kd.R_mono (Kd.R_keep (IsS76.apart (show IsS76 w0 _ g x1000_1 from by repeat (first | (with_reducible first | exact HI0.out | apply IsS76.alloc | apply IsS76.drewN | apply IsS76.drew | apply IsS76.set_0) | exact HI0.out)) (by (with_reducible repeat (first | apply Kd.R_alloc | apply Kd.R_drewN | apply Kd.R_drew));exact HO_9.out) (by decide)) hk (fun _ h => h.2)) (fun _ h => h.1));have n1_ := aM_ (KeepBut.trans (by repeat (first | (with_reducible first | exact HK.out | apply KeepBut.set_ | apply eN_ | apply eD_ | apply eA_) | exact HK.out)) hk (.inl rfl));have n2_ := aM_ (hb);have n3_ := aM_ (hi);clear HO_9;clear HK;clear HB;clear HI0;have HO_9 := n0_;have HK := n1_;have HB := n2_;have HI0 := n3_;clear n0_ n1_ n2_ n3_;(try clear hb);(try clear hb2);(try clear hk);(try clear hi)))
         go_ret
         exact ⟨by first | rfl | (simp [*] <;> rfl),by repeat (first | (with_reducible first | exact HI0.out | apply IsS76.alloc | apply IsS76.drewN | apply IsS76.drew | apply IsS76.set_0) | exact HI0.out),by repeat (first | (with_reducible first | exact HB.out | apply bA_ | apply bN_ | apply bD_ | refine bS_ ?_ (IsS76.ge HI0.out)) | exact HB.out),by repeat (first | (with_reducible first | exact HK.out | apply KeepBut.set_ | apply eN_ | apply eD_ | apply eA_) | exact HK.out)⟩
       ·rw [if_neg c33] at H
        have c33b0 : ((wrap64 (2 * (wrap64 (x3_1 - (wrap64 (t240 * ((rd_T36 l1 a2).f2))))))) == ((rd_T36 l1 a2).f2)) = false := beq_eq_false_iff_ne.mpr c33
        have c33b1 : ((wrap64 (2 * (wrap64 (x3_1 - (wrap64 (t240 * ((rd_T36 l1 a2).f2))))))) != ((rd_T36 l1 a2).f2)) = true := bne_iff_ne.mpr c33
        simp only [Option.some.injEq,Prod.mk.injEq] at H
        obtain ⟨rfl,rfl⟩ := H
        have p239 : 0 ≤ (a2 : Int) := of_decide_eq_true (by first | (with_reducible assumption) | assumption)
        have q239 : a2 < (l1.length : Int) := of_decide_eq_true (by first | (with_reducible assumption) | assumption)
        obtain ⟨ad239,e239,hx239_0,hx239_1,hx239_2,hx239_3,hx239_4,hx239_5,hx239_6⟩ := at_T36 (Kd.C_foot_now HR1.out HK.out) a2 p239 q239
        cases e239
        replace p239 := eq_true p239
        replace q239 := eq_true q239
        go_wp2_with (first | ((with_reducible refine gate_callee (f := 53) rfl ?_);refine goesL_ (some 55) rfl rfl Try.func53 (by kernel_rfl) rfl #[.int .i64 x3_1,.int .i64 ((rd_T36 l1 a2).f2)] rfl (by (try simp only [List.map_toArray,List.map_cons,List.map_nil]);first | done | rfl) ?_;(with_reducible refine (R_Down.calls x3_1 ((rd_T36 l1 a2).f2) t240 _ A31.out).mono ?_);rintro e w' ⟨rfl,⟨nd,rfl⟩⟩;refine ⟨_,rfl,?_⟩))
        go_ret
        exact ⟨by first | rfl | (simp [*] <;> rfl),by repeat (first | (with_reducible first | exact HI0.out | apply IsS76.alloc | apply IsS76.drewN | apply IsS76.drew | apply IsS76.set_0) | exact HI0.out),by repeat (first | (with_reducible first | exact HB.out | apply bA_ | apply bN_ | apply bD_ | refine bS_ ?_ (IsS76.ge HI0.out)) | exact HB.out),by repeat (first | (with_reducible first | exact HK.out | apply KeepBut.set_ | apply eN_ | apply eD_ | apply eA_) | exact HK.out)⟩
     ·rw [if_neg c30] at H
      exact absurd H (by simp)
    ·rw [if_neg c29] at H
     exact absurd H (by simp)

end Go.Proofs.Ytdbpobadeibjaaa.GE
