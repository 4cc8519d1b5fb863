-- written for this claim by a program of this session (wip/gp), over the kit's own printer; Lean checks it
import Derived.Test.YtdbpobadeibjaaaGEx0
import Derived.Test.YtdbpobadeibjaaaGEx18
import Derived.Test.YtdbpobadeibjaaaGEx32
namespace Go.Proofs.Ytdbpobadeibjaaa.GE
open Go.RowKit Go.Proofs.YtdbpobadeibjaaaW.PrintWords Go.Proofs.YtdbpobadeibjaaaW.PrintLast Go.Proofs.YtdbpobadeibjaaaW.PrintMore
attribute [local go_sem] max2_int min2_int max_two min_two max_three min_three max_four min_four
set_option linter.unusedVariables false
set_option linter.unusedSimpArgs false

/-! ### R_Together: function 46 -/
def R_Together.l0 : Nat → List (S36) → List (S70) → Int → Int → Int → Option (Int × Int × Int)
 | 0,_,_,_,_,_ => none
 | k + 1,x0,x1,x8,x420000,x420001 => if x8 < (x1.length : Int) then (if 0 ≤ x8 then ((R_True.f k x0 ((rd_T70 x1 x8).f0) ((rd_T70 x1 x8).f1)).bind fun bt422 => (if bt422.2.2 = 0 then (R_Together.l0 k x0 x1 (wrap64 (x8 + 1)) (mx x420000 bt422.1) (mn x420001 bt422.2.1)) else (some (0,0,bt422.2.2)))) else (none)) else (if x420000 > x420001 then (some (0,0,12)) else (some (x420000,x420001,0)))
def R_Together.f (k : Nat) (l0 : List (S36)) (l1 : List (S70)) : Option (Int × Int × Int) := (R_Check.f k l0).bind fun t418 => (if t418 = 0 then (if (l1.length : Int) = 0 then (some (0,0,6)) else (if (l1.length : Int) > 10 then (some (0,0,8)) else (R_Together.l0 k l0 l1 0 (-1000000000) 1000000000))) else (some (0,0,t418)))
def R_Together.T12 : Bool × List (List Nat × List Nat) := (true,[([],[]),([],[]),([],[]),([1,2],[1,2]),([3],[3]),([4],[4]),([],[]),([],[]),([6,7],[6,7]),([8],[8]),([9],[9]),([0,5,10],[0,5,10]),([11],[11]),([12],[12]),([12],[12]),([],[]),([15,13,11,0,1,2,3,4,5,6,7,8,9,10,11,12,13,15],[13,15]),([14,16,0,1,2,3,4,5,6,7,8,9,10,11,12,13,14,15,16],[14])])
def R_Together.B12 : List Nat := [0,0,0,6,14,30,0,0,192,448,960,2047,4095,8191,8191,0,49151,131071]
theorem R_Together.tab12 : rtab .any (opsOf Try.f46 12) = R_Together.T12 := by kernel_rfl
theorem R_Together.bits12 : waitsOk R_Together.T12.2 R_Together.B12 = true := by kernel_rfl
set_option maxHeartbeats 8000000 in
set_option maxRecDepth 100000 in
theorem R_Together.calls (k : Nat) (A0 : Option Addr) (c0 : Nat) (l0 : List (S36)) (A1 : Option Addr) (c1 : Nat) (l1 : List (S70)) (r1 : Int) (r2 : Int) (r3 : Int) (w : World) (hr0 : Kd.C k36 w A0 l0.length l0) (hc0 : l0.length ≤ c0) (hr1 : Kd.C k70 w A1 l1.length l1) (hc1 : l1.length ≤ c1) (h : R_Together.f k l0 l1 = some (r1,r2,r3)) :
  Calls Try.prog 46 #[.slice A0 l0.length c0,.slice A1 l1.length c1] w fun e w' => e = .returned (.tuple #[.agg #[.int .i64 r1,.int .i64 r2],.int .i64 r3]) ∧ Below w.heap.size w w' := by
 have hu34 := Try.underlying34
 have HR0 := aM_ hr0
 have HC0 := aM_ hc0
 clear hr0 hc0
 have HR1 := aM_ hr1
 have HC1 := aM_ hc1
 clear hr1 hc1
 have HB := aM_ (Below.refl w.heap.size w)
 have H : ((R_Check.f k l0).bind fun t418 => (if t418 = 0 then (if (l1.length : Int) = 0 then (some (0,0,6)) else (if (l1.length : Int) > 10 then (some (0,0,8)) else (R_Together.l0 k l0 l1 0 (-1000000000) 1000000000))) else (some (0,0,t418)))) = some (r1,r2,r3) := h
 clear h
 replace H := oB_ H
 obtain ⟨t418,A30,H⟩ := H
 replace H : (if t418 = 0 then (if (l1.length : Int) = 0 then (some (0,0,6)) else (if (l1.length : Int) > 10 then (some (0,0,8)) else (R_Together.l0 k l0 l1 0 (-1000000000) 1000000000))) else (some (0,0,t418))) = some (r1,r2,r3) := H
 have A3 := aM_ A30
 clear A30
 by_cases c4 : t418 = 0
 ·rw [if_pos c4] at H
  have c4b0 : (t418 == 0) = true := beq_iff_eq.mpr c4
  have c4b1 : (t418 != 0) = false := bne_eq_false_iff_eq.mpr c4
  clear c4
  by_cases c5 : (l1.length : Int) = 0
  ·rw [if_pos c5] at H
   have c5b0 : ((l1.length : Int) == 0) = true := beq_iff_eq.mpr c5
   have c5b1 : ((l1.length : Int) != 0) = false := bne_eq_false_iff_eq.mpr c5
   clear c5
   simp only [Option.some.injEq,Prod.mk.injEq] at H
   obtain ⟨rfl,rfl,rfl⟩ := H
   go_enter Try.func46,Try.ntmps46
   go_wp2_with (first | ((with_reducible refine gate_dst (N := 4) rfl ?_);refine box_event ?hg (N := 4) ?hd (cs := #[.int .i64 0,.int .i64 0]) (t := 34) ?hr ?_;(case hd => rfl);(case hg => rfl);(case hr => first | (go_simp;done) | (go_simp;rfl));intro gb417 hg w6 hbox hb;have n0_ := aM_ (bT_ (by repeat (first | (with_reducible first | exact HB.out | apply bA_ | apply bN_ | apply bD_) | exact HB.out)) hb);have n1_ := aM_ (hbox);have n2_ := aM_ ((by rw [hg];exact (below_size (by repeat (first | (with_reducible first | exact HB.out | apply bA_ | apply bN_ | apply bD_) | exact HB.out))) : w.heap.size ≤ gb417));have n3_ := aM_ ((by rw [hg];exact (below_size (by repeat (first | (with_reducible first | exact HB.out | apply bA_ | apply bN_ | apply bD_) | exact HB.out))) : w.heap.size ≤ gb417));clear HB;have HB := n0_;have BK417 := n1_;have GW417 := n2_;have GE417 := n3_;clear n0_ n1_ n2_ n3_;clear hb hbox hg) | ((with_reducible refine gate_callee (f := 37) rfl ?_);refine goesL_ (some 12) rfl rfl Try.func37 (by kernel_rfl) rfl #[.slice A0 l0.length c0] rfl (by (try simp only [List.map_toArray,List.map_cons,List.map_nil]);first | done | rfl) ?_;(with_reducible refine (R_Check.calls k _ _ l0 t418 _ ?side1 ?side2 A3.out).mono ?_);(case side1 => repeat (first | exact (Kd.C_below HR0.out HB.out) | (with_reducible refine Kd.C_alloc ?_ _) | (with_reducible refine Kd.C_drewN ?_ _) | (with_reducible refine Kd.C_drew ?_)));(case side2 => exact HC0.out);rintro e w7 ⟨rfl,hb⟩;refine ⟨_,rfl,?_⟩;have n0_ := aM_ (kB_ (g := gb417) (o := .cells #[.int .i64 0,.int .i64 0] 34 (0,0)) (by (with_reducible repeat (first | refine kN_ ?_ _ | refine kD_ ?_ | refine kA_ ?_ _));exact BK417.out) hb);have n1_ := aM_ (bT_ (by repeat (first | (with_reducible first | exact HB.out | apply bA_ | apply bN_ | apply bD_ | refine bS_ ?_ GE417.out) | exact HB.out)) hb);clear BK417;clear HB;have BK417 := n0_;have HB := n1_;clear n0_ n1_;(try clear hb);(try clear hb2);(try clear hk);(try clear hi);have hcz8_0 : w7.cell? ⟨gb417,0,none⟩ = some (.int .i64 0) := (blk_cell BK417.out 0).trans rfl;have hcz8_1 : w7.cell? ⟨gb417,1,none⟩ = some (.int .i64 0) := (blk_cell BK417.out 1).trans rfl;have hfz8_0 := blk_frozen BK417.out 0;have hfz8_1 := blk_frozen BK417.out 1))
   refine bodyPost_ret (results_ct rfl _ _ gb417 34 #[.int .i64 0,.int .i64 0] (0,0) _ rfl (by (with_reducible repeat (first | refine kN_ ?_ _ | refine kD_ ?_ | refine kA_ ?_ _));refine blk_put (cs := #[.int .i64 0,.int .i64 0]) ?_ 1 _ rfl;(with_reducible repeat (first | refine kN_ ?_ _ | refine kD_ ?_ | refine kA_ ?_ _));refine blk_put (cs := #[.int .i64 0,.int .i64 0]) ?_ 0 _ rfl;(with_reducible repeat (first | refine kN_ ?_ _ | refine kD_ ?_ | refine kA_ ?_ _));exact BK417.out) Try.underlying34 rfl (by kernel_rfl)) rfl ?_
   exact ⟨by first | rfl | (simp [*] <;> rfl),by repeat (first | (with_reducible first | exact HB.out | apply bA_ | apply bN_ | apply bD_ | refine bS_ ?_ GE417.out) | exact HB.out)⟩
  ·rw [if_neg c5] at H
   have c5b0 : ((l1.length : Int) == 0) = false := beq_eq_false_iff_ne.mpr c5
   have c5b1 : ((l1.length : Int) != 0) = true := bne_iff_ne.mpr c5
   have c5b2 : ¬ (l1 = []) := fun h_ => c5 (by rw [h_];rfl)
   by_cases c9 : (l1.length : Int) > 10
   ·rw [if_pos c9] at H
    have c9b0 : decide (10 < (l1.length : Int)) = true := decide_eq_true c9
    have c9b1 : decide (10 < l1.length) = true := decide_eq_true (by omega)
    clear c9
    simp only [Option.some.injEq,Prod.mk.injEq] at H
    obtain ⟨rfl,rfl,rfl⟩ := H
    go_enter Try.func46,Try.ntmps46
    go_wp2_with (first | ((with_reducible refine gate_dst (N := 4) rfl ?_);refine box_event ?hg (N := 4) ?hd (cs := #[.int .i64 0,.int .i64 0]) (t := 34) ?hr ?_;(case hd => rfl);(case hg => rfl);(case hr => first | (go_simp;done) | (go_simp;rfl));intro gb417 hg w10 hbox hb;have n0_ := aM_ (bT_ (by repeat (first | (with_reducible first | exact HB.out | apply bA_ | apply bN_ | apply bD_) | exact HB.out)) hb);have n1_ := aM_ (hbox);have n2_ := aM_ ((by rw [hg];exact (below_size (by repeat (first | (with_reducible first | exact HB.out | apply bA_ | apply bN_ | apply bD_) | exact HB.out))) : w.heap.size ≤ gb417));have n3_ := aM_ ((by rw [hg];exact (below_size (by repeat (first | (with_reducible first | exact HB.out | apply bA_ | apply bN_ | apply bD_) | exact HB.out))) : w.heap.size ≤ gb417));clear HB;have HB := n0_;have BK417 := n1_;have GW417 := n2_;have GE417 := n3_;clear n0_ n1_ n2_ n3_;clear hb hbox hg) | ((with_reducible refine gate_callee (f := 37) rfl ?_);refine goesL_ (some 12) rfl rfl Try.func37 (by kernel_rfl) rfl #[.slice A0 l0.length c0] rfl (by (try simp only [List.map_toArray,List.map_cons,List.map_nil]);first | done | rfl) ?_;(with_reducible refine (R_Check.calls k _ _ l0 t418 _ ?side1 ?side2 A3.out).mono ?_);(case side1 => repeat (first | exact (Kd.C_below HR0.out HB.out) | (with_reducible refine Kd.C_alloc ?_ _) | (with_reducible refine Kd.C_drewN ?_ _) | (with_reducible refine Kd.C_drew ?_)));(case side2 => exact HC0.out);rintro e w11 ⟨rfl,hb⟩;refine ⟨_,rfl,?_⟩;have n0_ := aM_ (kB_ (g := gb417) (o := .cells #[.int .i64 0,.int .i64 0] 34 (0,0)) (by (with_reducible repeat (first | refine kN_ ?_ _ | refine kD_ ?_ | refine kA_ ?_ _));exact BK417.out) hb);have n1_ := aM_ (bT_ (by repeat (first | (with_reducible first | exact HB.out | apply bA_ | apply bN_ | apply bD_ | refine bS_ ?_ GE417.out) | exact HB.out)) hb);clear BK417;clear HB;have BK417 := n0_;have HB := n1_;clear n0_ n1_;(try clear hb);(try clear hb2);(try clear hk);(try clear hi);have hcz12_0 : w11.cell? ⟨gb417,0,none⟩ = some (.int .i64 0) := (blk_cell BK417.out 0).trans rfl;have hcz12_1 : w11.cell? ⟨gb417,1,none⟩ = some (.int .i64 0) := (blk_cell BK417.out 1).trans rfl;have hfz12_0 := blk_frozen BK417.out 0;have hfz12_1 := blk_frozen BK417.out 1))
    refine bodyPost_ret (results_ct rfl _ _ gb417 34 #[.int .i64 0,.int .i64 0] (0,0) _ rfl (by (with_reducible repeat (first | refine kN_ ?_ _ | refine kD_ ?_ | refine kA_ ?_ _));refine blk_put (cs := #[.int .i64 0,.int .i64 0]) ?_ 1 _ rfl;(with_reducible repeat (first | refine kN_ ?_ _ | refine kD_ ?_ | refine kA_ ?_ _));refine blk_put (cs := #[.int .i64 0,.int .i64 0]) ?_ 0 _ rfl;(with_reducible repeat (first | refine kN_ ?_ _ | refine kD_ ?_ | refine kA_ ?_ _));exact BK417.out) Try.underlying34 rfl (by kernel_rfl)) rfl ?_
    exact ⟨by first | rfl | (simp [*] <;> rfl),by repeat (first | (with_reducible first | exact HB.out | apply bA_ | apply bN_ | apply bD_ | refine bS_ ?_ GE417.out) | exact HB.out)⟩
   ·rw [if_neg c9] at H
    have c9b0 : decide (10 < (l1.length : Int)) = false := decide_eq_false c9
    have c9b1 : decide (10 < l1.length) = false := decide_eq_false (by omega)
    clear c9
    have H' := aM_ H
    clear H
    go_enter Try.func46,Try.ntmps46
    go_wp2_with (first | ((with_reducible refine gate_dst (N := 4) rfl ?_);refine box_event ?hg (N := 4) ?hd (cs := #[.int .i64 0,.int .i64 0]) (t := 34) ?hr ?_;(case hd => rfl);(case hg => rfl);(case hr => first | (go_simp;done) | (go_simp;rfl));intro gb417 hg w13 hbox hb;have n0_ := aM_ (bT_ (by repeat (first | (with_reducible first | exact HB.out | apply bA_ | apply bN_ | apply bD_) | exact HB.out)) hb);have n1_ := aM_ (hbox);have n2_ := aM_ ((by rw [hg];exact (below_size (by repeat (first | (with_reducible first | exact HB.out | apply bA_ | apply bN_ | apply bD_) | exact HB.out))) : w.heap.size ≤ gb417));have n3_ := aM_ ((by rw [hg];exact (below_size (by repeat (first | (with_reducible first | exact HB.out | apply bA_ | apply bN_ | apply bD_) | exact HB.out))) : w.heap.size ≤ gb417));clear HB;have HB := n0_;have BK417 := n1_;have GW417 := n2_;have GE417 := n3_;clear n0_ n1_ n2_ n3_;clear hb hbox hg) | ((with_reducible refine gate_callee (f := 37) rfl ?_);refine goesL_ (some 12) rfl rfl Try.func37 (by kernel_rfl) rfl #[.slice A0 l0.length c0] rfl (by (try simp only [List.map_toArray,List.map_cons,List.map_nil]);first | done | rfl) ?_;(with_reducible refine (R_Check.calls k _ _ l0 t418 _ ?side1 ?side2 A3.out).mono ?_);(case side1 => repeat (first | exact (Kd.C_below HR0.out HB.out) | (with_reducible refine Kd.C_alloc ?_ _) | (with_reducible refine Kd.C_drewN ?_ _) | (with_reducible refine Kd.C_drew ?_)));(case side2 => exact HC0.out);rintro e w14 ⟨rfl,hb⟩;refine ⟨_,rfl,?_⟩;have n0_ := aM_ (kB_ (g := gb417) (o := .cells #[.int .i64 0,.int .i64 0] 34 (0,0)) (by (with_reducible repeat (first | refine kN_ ?_ _ | refine kD_ ?_ | refine kA_ ?_ _));exact BK417.out) hb);have n1_ := aM_ (bT_ (by repeat (first | (with_reducible first | exact HB.out | apply bA_ | apply bN_ | apply bD_ | refine bS_ ?_ GE417.out) | exact HB.out)) hb);clear BK417;clear HB;have BK417 := n0_;have HB := n1_;clear n0_ n1_;(try clear hb);(try clear hb2);(try clear hk);(try clear hi)) | ((with_reducible refine gate_dst (N := 7) rfl ?_);refine box_event ?hg (N := 7) ?hd (cs := #[.int .i64 0,.int .i64 0]) (t := 34) ?hr ?_;(case hd => rfl);(case hg => rfl);(case hr => first | (go_simp;done) | (go_simp;rfl));intro gb419 hg w15 hbox hb;have n0_ := aM_ (kB_ (g := gb417) (o := .cells #[.int .i64 0,.int .i64 0] 34 (0,0)) (by (with_reducible repeat (first | refine kN_ ?_ _ | refine kD_ ?_ | refine kA_ ?_ _));exact BK417.out) hb);have n1_ := aM_ (bT_ (by repeat (first | (with_reducible first | exact HB.out | apply bA_ | apply bN_ | apply bD_ | refine bS_ ?_ GE417.out) | exact HB.out)) hb);have n2_ := aM_ (hbox);have n3_ := aM_ ((by rw [hg];exact (below_size (by repeat (first | (with_reducible first | exact HB.out | apply bA_ | apply bN_ | apply bD_ | refine bS_ ?_ GE417.out) | exact HB.out))) : w.heap.size ≤ gb419));have n4_ := aM_ ((by rw [hg];exact (below_size (by repeat (first | (with_reducible first | exact HB.out | apply bA_ | apply bN_ | apply bD_ | refine bS_ ?_ GE417.out) | exact HB.out))) : w.heap.size ≤ gb419));have n5_ := aM_ ((by rw [hg];exact Nat.ne_of_lt (blk_lt (g := gb417) (o := .cells #[.int .i64 0,.int .i64 0] 34 (0,0)) (by (with_reducible repeat (first | refine kN_ ?_ _ | refine kD_ ?_ | refine kA_ ?_ _));exact BK417.out)) : gb417 ≠ gb419));have n6_ := aM_ ((by rw [hg];exact Nat.ne_of_gt (blk_lt (g := gb417) (o := .cells #[.int .i64 0,.int .i64 0] 34 (0,0)) (by (with_reducible repeat (first | refine kN_ ?_ _ | refine kD_ ?_ | refine kA_ ?_ _));exact BK417.out)) : gb419 ≠ gb417));clear BK417;clear HB;have BK417 := n0_;have HB := n1_;have BK419 := n2_;have GW419 := n3_;have GE419 := n4_;have NB417_419 := n5_;have NB419_417 := n6_;clear n0_ n1_ n2_ n3_ n4_ n5_ n6_;clear hb hbox hg;have hnb16 := NB419_417.out;have hnc16 := NB417_419.out;have hcz17_0 : w15.cell? ⟨gb419,0,none⟩ = some (.int .i64 0) := (blk_cell BK419.out 0).trans rfl;have hcz17_1 : w15.cell? ⟨gb419,1,none⟩ = some (.int .i64 0) := (blk_cell BK419.out 1).trans rfl;have hfz17_0 := blk_frozen BK419.out 0;have hfz17_1 := blk_frozen BK419.out 1))
    go_loopg [8] k (fun kq v8 w' => ∃ (x8_1 : Int) (x418000_1 : Int) (x418001_1 : Int) (x420000_1 : Int) (x420001_1 : Int),v8 = .int .i64 x8_1 ∧ Aside0 (R_Together.l0 kq l0 l1 x8_1 x420000_1 x420001_1 = some (r1,r2,r3)) ∧ Aside0 (kq ≤ k) ∧ Aside0 (w'.heap[gb417]? = some (.cells #[.int .i64 x418000_1,.int .i64 x418001_1] 34 (0,0))) ∧ Aside0 (w'.heap[gb419]? = some (.cells #[.int .i64 x420000_1,.int .i64 x420001_1] 34 (0,0))) ∧ Aside0 (Below w.heap.size w w'))
    case atStart => exact ⟨(0),(0),(0),((-1000000000)),(1000000000),(by first | rfl | (simp;done) | (simp [*];done)),H',⟨Nat.le_refl _⟩,⟨by (with_reducible repeat (first | refine kN_ ?_ _ | refine kD_ ?_ | refine kA_ ?_ _));refine blk_far ?_ NB417_419.out _;(with_reducible repeat (first | refine kN_ ?_ _ | refine kD_ ?_ | refine kA_ ?_ _));refine blk_far ?_ NB417_419.out _;(with_reducible repeat (first | refine kN_ ?_ _ | refine kD_ ?_ | refine kA_ ?_ _));exact BK417.out⟩,⟨by (with_reducible repeat (first | refine kN_ ?_ _ | refine kD_ ?_ | refine kA_ ?_ _));refine blk_put (cs := #[.int .i64 (-1000000000),.int .i64 0]) ?_ 1 _ rfl;(with_reducible repeat (first | refine kN_ ?_ _ | refine kD_ ?_ | refine kA_ ?_ _));refine blk_put (cs := #[.int .i64 0,.int .i64 0]) ?_ 0 _ rfl;(with_reducible repeat (first | refine kN_ ?_ _ | refine kD_ ?_ | refine kA_ ?_ _));exact BK419.out⟩,⟨by repeat (first | (with_reducible first | exact HB.out | apply bA_ | apply bN_ | apply bD_ | refine bS_ ?_ GE417.out | refine bS_ ?_ GE419.out) | exact HB.out)⟩⟩
    case round =>
     clear H'
     try clear c1
     try clear p2
     try clear c3
     try clear c4
     try clear c4b0
     try clear c4b1
     try clear c5
     try clear c5b0
     try clear c5b1
     try clear c5b2
     try clear c9
     try clear c9b0
     try clear c9b1
     try clear c16
     try clear hcz12_0
     try clear hcz12_1
     try clear hcz17_0
     try clear hcz17_1
     try clear hcz8_0
     try clear hcz8_1
     try clear hfz12_0
     try clear hfz12_1
     try clear hfz17_0
     try clear hfz17_1
     try clear hfz8_0
     try clear hfz8_1
     obtain ⟨x8_1,x418000_1,x418001_1,x420000_1,x420001_1,rfl,HA,HK1,BK417,BK419,HB⟩ := hrel
     cases gk with
     | zero => exact absurd HA.out (by simp [R_Together.l0])
     | succ k1 =>
      have H := HA.out
      clear HA
      simp only [R_Together.l0] at H
      by_cases c18 : x8_1 < (l1.length : Int)
      ·rw [if_pos c18] at H
       have c18b0 : decide (x8_1 < (l1.length : Int)) = true := decide_eq_true c18
       clear c18
       by_cases c19 : 0 ≤ x8_1
       ·rw [if_pos c19] at H
        have c19b0 : decide (0 ≤ x8_1) = true := decide_eq_true c19
        clear c19
        replace H := oB_ H
        obtain ⟨⟨t422,t423,t424⟩,A200,H⟩ := H
        replace H : (if t424 = 0 then (R_Together.l0 k1 l0 l1 (wrap64 (x8_1 + 1)) (mx x420000_1 t422) (mn x420001_1 t423)) else (some (0,0,t424))) = some (r1,r2,r3) := H
        have A20 := aM_ A200
        clear A200
        by_cases c21 : t424 = 0
        ·rw [if_pos c21] at H
         have c21b0 : (t424 == 0) = true := beq_iff_eq.mpr c21
         have c21b1 : (t424 != 0) = false := bne_eq_false_iff_eq.mpr c21
         clear c21
         obtain ⟨ji22,hji22⟩ : ∃ j_ : Int,(mx x420000_1 t422) = j_ := ⟨_,rfl⟩
         replace H : (R_Together.l0 k1 l0 l1 (wrap64 (x8_1 + 1)) ji22 (mn x420001_1 t423)) = some (r1,r2,r3) := by first | (rw [hji22] at H;exact H) | (simp only [hji22] at H ⊢;exact H)
         (try rw [hji22] at A20)
         have hji22_ : (if x420000_1 < t422 then t422 else x420000_1) = ji22 := hji22
         obtain ⟨ji23,hji23⟩ : ∃ j_ : Int,(mn x420001_1 t423) = j_ := ⟨_,rfl⟩
         replace H : (R_Together.l0 k1 l0 l1 (wrap64 (x8_1 + 1)) ji22 ji23) = some (r1,r2,r3) := by first | (rw [hji23] at H;exact H) | (simp only [hji23] at H ⊢;exact H)
         (try rw [hji23] at A20)
         have hji23_ : (if t423 < x420001_1 then t423 else x420001_1) = ji23 := hji23
         have H' := aM_ H
         clear H
         try go_wp2
         have n0_ := aM_ (kD_ BK417.out)
         have n1_ := aM_ (kD_ BK419.out)
         have n2_ := aM_ (bD_ HB.out)
         clear BK417
         clear BK419
         clear HB
         have BK417 := n0_
         have BK419 := n1_
         have HB := n2_
         clear n0_ n1_ n2_
         have p420 : 0 ≤ (x8_1 : Int) := of_decide_eq_true (by first | (with_reducible assumption) | assumption)
         have q420 : x8_1 < (l1.length : Int) := of_decide_eq_true (by first | (with_reducible assumption) | assumption)
         obtain ⟨ad420,e420,hx420_0,hx420_1⟩ := at_T70 HR1.out x8_1 p420 q420
         have hw420_1 := hx420_1
         have hw420_0 := hx420_0
         cases e420
         replace hx420_0 := (HB.out.cell (World.block_lt_of_cell? w _ hx420_0)).trans hx420_0
         replace hx420_1 := (HB.out.cell (World.block_lt_of_cell? w _ hx420_1)).trans hx420_1
         replace p420 := eq_true p420
         replace q420 := eq_true q420
         have p421 : 0 ≤ (x8_1 : Int) := of_decide_eq_true (by first | (with_reducible assumption) | assumption)
         have q421 : x8_1 < (l1.length : Int) := of_decide_eq_true (by first | (with_reducible assumption) | assumption)
         obtain ⟨ad421,e421,hx421_0,hx421_1⟩ := at_T70 HR1.out x8_1 p421 q421
         have hw421_1 := hx421_1
         have hw421_0 := hx421_0
         obtain rfl : ad420 = ad421 := (by injection e421)
         replace hx421_0 := (HB.out.cell (World.block_lt_of_cell? w _ hx421_0)).trans hx421_0
         replace hx421_1 := (HB.out.cell (World.block_lt_of_cell? w _ hx421_1)).trans hx421_1
         replace p421 := eq_true p421
         replace q421 := eq_true q421
         refine start_ (n := 18) (S := fun w' => w'.cell? (ad420.add ((x8_1).toNat * 2)) = some (.int .i64 ((rd_T70 l1 x8_1).f0)) ∧ w'.cell? ⟨(ad420.add ((x8_1).toNat * 2)).block,(ad420.add ((x8_1).toNat * 2)).off + 1,none⟩ = some (.int .i64 ((rd_T70 l1 x8_1).f1)) ∧ w'.cell? (ad420.add ((x8_1).toNat * 2)) = some (.int .i64 ((rd_T70 l1 x8_1).f0)) ∧ w'.cell? ⟨(ad420.add ((x8_1).toNat * 2)).block,(ad420.add ((x8_1).toNat * 2)).off + 1,none⟩ = some (.int .i64 ((rd_T70 l1 x8_1).f1))) (ds := []) #[false,false,false,false,false,false,false,false,false,false,false,false,false,false,false,false,false,false] (by kernel_rfl) rfl rfl ⟨((HB.out.cell (World.block_lt_of_cell? w _ hw420_0)).trans hw420_0),((HB.out.cell (World.block_lt_of_cell? w _ hw420_1)).trans hw420_1),((HB.out.cell (World.block_lt_of_cell? w _ hw421_0)).trans hw421_0),((HB.out.cell (World.block_lt_of_cell? w _ hw421_1)).trans hw421_1)⟩ (fun hHeld => ?_);refine with_tabW R_Together.tab12 R_Together.bits12 (fun HT_ HW_ => ?_)
         generalize wr.drew = w24 at BK417 BK419 HB hx420_0 hx420_1 hx421_0 hx421_1 hHeld ⊢
         refine pure_ (i := 0) (N := some 33) (v := ?_) (a' := ?_) #[true,false,false,false,false,false,false,false,false,false,false,false,false,false,false,false,false,false] rfl rfl (any_of HT_.out (by kernel_rfl)) (fun _ _ _ h => h) (Or.inl ⟨by rfl,?_⟩) ?_ ?_
         rotate_left
         ·intro w'
          go_simp
          with_reducible rfl
         rotate_left
         ·simp only [Act.put,sB_,sZ_,sS_,i64_w,i32_w]
          rfl
         refine pure_ (i := 1) (N := some 34) (v := ?_) (a' := ?_) #[true,true,false,false,false,false,false,false,false,false,false,false,false,false,false,false,false,false] rfl rfl (any_of HT_.out (by kernel_rfl)) (fun _ _ _ h => h) (Or.inl ⟨by rfl,?_⟩) ?_ ?_
         rotate_left
         ·intro w'
          go_simp
          with_reducible rfl
         rotate_left
         ·simp only [Act.put,sB_,sZ_,sS_,i64_w,i32_w]
          rfl
         refine pure_ (i := 2) (N := some 35) (v := ?_) (a' := ?_) #[true,true,true,false,false,false,false,false,false,false,false,false,false,false,false,false,false,false] rfl rfl (any_of HT_.out (by kernel_rfl)) (fun _ _ _ h => h) (Or.inl ⟨by rfl,?_⟩) ?_ ?_
         rotate_left
         ·intro w'
          go_simp
          with_reducible rfl
         rotate_left
         ·simp only [Act.put,sB_,sZ_,sS_,i64_w,i32_w]
          rfl
         refine pure_ (i := 3) (N := some 36) (v := ?_) (a' := ?_) #[true,true,true,true,false,false,false,false,false,false,false,false,false,false,false,false,false,false] rfl rfl (any_of HT_.out (by kernel_rfl)) (fun _ _ _ h => h) (Or.inl ⟨by rfl,?_⟩) ?_ ?_
         rotate_left
         ·intro w'
          go_simp
          with_reducible rfl
         rotate_left
         ·simp only [Act.put,sB_,sZ_,sS_,i64_w,i32_w]
          rfl
         refine pure_ (i := 4) (N := some 37) (v := ?_) (a' := ?_) #[true,true,true,true,true,false,false,false,false,false,false,false,false,false,false,false,false,false] rfl rfl (any_of HT_.out (by kernel_rfl)) (fun _ _ _ h => h) (Or.inl ⟨by rfl,?_⟩) ?_ ?_
         rotate_left
         ·intro w'
          go_simp
          with_reducible rfl
         rotate_left
         ·simp only [Act.put,sB_,sZ_,sS_,i64_w,i32_w]
          rfl
         refine pure_ (i := 6) (N := some 39) (v := ?_) (a' := ?_) #[true,true,true,true,true,false,true,false,false,false,false,false,false,false,false,false,false,false] rfl rfl (any_of HT_.out (by kernel_rfl)) (fun _ _ _ h => h) (Or.inl ⟨by rfl,?_⟩) ?_ ?_
         rotate_left
         ·intro w'
          go_simp
          with_reducible rfl
         rotate_left
         ·simp only [Act.put,sB_,sZ_,sS_,i64_w,i32_w]
          rfl
         refine pure_ (i := 7) (N := some 40) (v := ?_) (a' := ?_) #[true,true,true,true,true,false,true,true,false,false,false,false,false,false,false,false,false,false] rfl rfl (any_of HT_.out (by kernel_rfl)) (fun _ _ _ h => h) (Or.inl ⟨by rfl,?_⟩) ?_ ?_
         rotate_left
         ·intro w'
          go_simp
          with_reducible rfl
         rotate_left
         ·simp only [Act.put,sB_,sZ_,sS_,i64_w,i32_w]
          rfl
         refine pure_ (i := 8) (N := some 41) (v := ?_) (a' := ?_) #[true,true,true,true,true,false,true,true,true,false,false,false,false,false,false,false,false,false] rfl rfl (any_of HT_.out (by kernel_rfl)) (fun _ _ _ h => h) (Or.inl ⟨by rfl,?_⟩) ?_ ?_
         rotate_left
         ·intro w'
          go_simp
          with_reducible rfl
         rotate_left
         ·simp only [Act.put,sB_,sZ_,sS_,i64_w,i32_w]
          rfl
         refine pure_ (i := 9) (N := some 42) (v := ?_) (a' := ?_) #[true,true,true,true,true,false,true,true,true,true,false,false,false,false,false,false,false,false] rfl rfl (any_of HT_.out (by kernel_rfl)) (fun _ _ _ h => h) (Or.inl ⟨by rfl,?_⟩) ?_ ?_
         rotate_left
         ·intro w'
          go_simp
          with_reducible rfl
         rotate_left
         ·simp only [Act.put,sB_,sZ_,sS_,i64_w,i32_w]
          rfl
         refine take_ (i := 5) (N := some 38) (v := ?_) (a' := ?_) #[true,true,true,true,true,true,true,true,true,true,false,false,false,false,false,false,false,false] rfl rfl (take_ofW HT_.out HW_.out (by kernel_rfl)) (fun _ _ _ h => h) (Or.inl ⟨by rfl,?_⟩) hHeld ?_ ?_
         rotate_left
         ·rintro w' ⟨s0,s1,s2,s3⟩
          go_simp
          with_reducible rfl
         rotate_left
         ·simp only [Act.put,sB_,sZ_,sS_,i64_w,i32_w]
          rfl
         refine take_ (i := 10) (N := some 43) (v := ?_) (a' := ?_) #[true,true,true,true,true,true,true,true,true,true,true,false,false,false,false,false,false,false] rfl rfl (take_ofW HT_.out HW_.out (by kernel_rfl)) (fun _ _ _ h => h) (Or.inl ⟨by rfl,?_⟩) hHeld ?_ ?_
         rotate_left
         ·rintro w' ⟨s0,s1,s2,s3⟩
          go_simp
          with_reducible rfl
         rotate_left
         ·simp only [Act.put,sB_,sZ_,sS_,i64_w,i32_w]
          rfl
         refine join_ (σ := Nat) 2 #[true,true,true,true,true,true,true,true,true,true,true,true,true,true,true,true,false,false] (fun s_ => [(44,.tuple #[.agg #[.int .i64 t422,.int .i64 t423],.int .i64 t424]),(9,.pointer (some ⟨s_,0,none⟩)),(32,.tuple #[.agg #[.int .i64 t422,.int .i64 t423],.int .i64 t424]),(45,.agg #[.int .i64 t422,.int .i64 t423]),(46,.int .i64 t424)]) (fun s_ w' => (w'.cell? (ad420.add ((x8_1).toNat * 2)) = some (.int .i64 ((rd_T70 l1 x8_1).f0)) ∧ w'.cell? ⟨(ad420.add ((x8_1).toNat * 2)).block,(ad420.add ((x8_1).toNat * 2)).off + 1,none⟩ = some (.int .i64 ((rd_T70 l1 x8_1).f1)) ∧ w'.cell? (ad420.add ((x8_1).toNat * 2)) = some (.int .i64 ((rd_T70 l1 x8_1).f0)) ∧ w'.cell? ⟨(ad420.add ((x8_1).toNat * 2)).block,(ad420.add ((x8_1).toNat * 2)).off + 1,none⟩ = some (.int .i64 ((rd_T70 l1 x8_1).f1))) ∧ (w'.heap[gb417]? = some (.cells #[.int .i64 x418000_1,.int .i64 x418001_1] 34 (0,0))) ∧ (w'.heap[gb419]? = some (.cells #[.int .i64 x420000_1,.int .i64 x420001_1] 34 (0,0))) ∧ (w'.heap[s_]? = some (.cells #[.int .i64 0,.int .i64 0] 34 (0,0))) ∧ (w.heap.size ≤ s_) ∧ (w.heap.size ≤ s_) ∧ (gb417 ≠ s_) ∧ (s_ ≠ gb417) ∧ (gb419 ≠ s_) ∧ (s_ ≠ gb419) ∧ (Below w.heap.size w w')) ?_ ?_
         rotate_left
         ·intro hCont
          refine two_ (i := 11) (j := 15) (Ni := some 44) (Nj := some 9) #[true,true,true,true,true,true,true,true,true,true,true,true,false,false,false,false,false,false] #[true,true,true,true,true,true,true,true,true,true,true,false,false,false,false,true,false,false] rfl rfl rfl rfl (two_of HT_.out (by kernel_rfl)) (by decide) (by decide) (fun K hK => ?_) (fun K hK => ?_)
          ·skip
           refine goes_ Try.func22 (by kernel_rfl) rfl #[.slice A0 l0.length c0,.int .i64 ((rd_T70 l1 x8_1).f0),.int .i64 ((rd_T70 l1 x8_1).f1)] (by rfl) rfl rfl (by (try simp only [List.map_toArray,List.map_cons,List.map_nil]);first | done | rfl) ?_
           with_reducible refine (R_True.calls k1 _ _ l0 ((rd_T70 l1 x8_1).f0) ((rd_T70 l1 x8_1).f1) t422 t423 t424 _ ?side1 ?side2 A20.out).mono ?_
           (case side1 => repeat (first | exact (Kd.C_below HR0.out HB.out) | (with_reducible refine Kd.C_alloc ?_ _) | (with_reducible refine Kd.C_drewN ?_ _) | (with_reducible refine Kd.C_drew ?_)))
           (case side2 => exact HC0.out)
           rintro e w25 ⟨rfl,hb⟩
           refine ⟨_,rfl,?_⟩
           have n0_ := aM_ (kB_ (g := gb417) (o := .cells #[.int .i64 x418000_1,.int .i64 x418001_1] 34 (0,0)) (by (with_reducible repeat (first | refine kN_ ?_ _ | refine kD_ ?_ | refine kA_ ?_ _));exact BK417.out) hb)
           have n1_ := aM_ (kB_ (g := gb419) (o := .cells #[.int .i64 x420000_1,.int .i64 x420001_1] 34 (0,0)) (by (with_reducible repeat (first | refine kN_ ?_ _ | refine kD_ ?_ | refine kA_ ?_ _));exact BK419.out) hb)
           have n2_ := aM_ (bT_ (by repeat (first | (with_reducible first | exact HB.out | apply bA_ | apply bN_ | apply bD_ | refine bS_ ?_ GE417.out | refine bS_ ?_ GE419.out) | exact HB.out)) hb)
           clear BK417
           clear BK419
           clear HB
           have BK417 := n0_
           have BK419 := n1_
           have HB := n2_
           clear n0_ n1_ n2_
           (try clear hb)
           (try clear hb2)
           (try clear hk)
           (try clear hi)
           refine hK.out _ _ ⟨((HB.out.cell (World.block_lt_of_cell? w _ hw420_0)).trans hw420_0),((HB.out.cell (World.block_lt_of_cell? w _ hw420_1)).trans hw420_1),((HB.out.cell (World.block_lt_of_cell? w _ hw421_0)).trans hw421_0),((HB.out.cell (World.block_lt_of_cell? w _ hw421_1)).trans hw421_1)⟩ (fun hHeld => ?_)
           clear hK K
           refine norm_ (a' := ?_) ?_ ?_
           rotate_left
           ·show Act.put _ (some 44) _ = _
            simp only [Act.put,sB_,sZ_,sS_,i64_w,i32_w]
            rfl
           refine pure_ (i := 12) (N := some 32) (v := ?_) (a' := ?_) #[true,true,true,true,true,true,true,true,true,true,true,true,true,false,false,false,false,false] rfl rfl (any_of HT_.out (by kernel_rfl)) (fun _ _ _ h => h) (Or.inl ⟨by rfl,?_⟩) ?_ ?_
           rotate_left
           ·intro w'
            go_simp
            with_reducible rfl
           rotate_left
           ·simp only [Act.put,sB_,sZ_,sS_,i64_w,i32_w]
            rfl
           refine pure_ (i := 13) (N := some 45) (v := ?_) (a' := ?_) #[true,true,true,true,true,true,true,true,true,true,true,true,true,true,false,false,false,false] rfl rfl (any_of HT_.out (by kernel_rfl)) (fun _ _ _ h => h) (Or.inl ⟨by rfl,?_⟩) ?_ ?_
           rotate_left
           ·intro w'
            go_simp
            with_reducible rfl
           rotate_left
           ·simp only [Act.put,sB_,sZ_,sS_,i64_w,i32_w]
            rfl
           refine pure_ (i := 14) (N := some 46) (v := ?_) (a' := ?_) #[true,true,true,true,true,true,true,true,true,true,true,true,true,true,true,false,false,false] rfl rfl (any_of HT_.out (by kernel_rfl)) (fun _ _ _ h => h) (Or.inl ⟨by rfl,?_⟩) ?_ ?_
           rotate_left
           ·intro w'
            go_simp
            with_reducible rfl
           rotate_left
           ·simp only [Act.put,sB_,sZ_,sS_,i64_w,i32_w]
            rfl
           refine one_ (i := 15) (N := some 9) #[true,true,true,true,true,true,true,true,true,true,true,true,true,true,true,true,false,false] rfl rfl (one_of HT_.out (by kernel_rfl)) (by decide) (fun K hK => ?_)
           refine box_step ?hg (N := 9) ?hd (cs := #[.int .i64 0,.int .i64 0]) (t := 34) ?hr ?_;(case hd => rfl);(case hg => rfl);(case hr => first | (go_simp;done) | (go_simp;rfl))
           intro gb425 hg w26 hbox hb
           have n0_ := aM_ (kB_ (g := gb417) (o := .cells #[.int .i64 x418000_1,.int .i64 x418001_1] 34 (0,0)) (by (with_reducible repeat (first | refine kN_ ?_ _ | refine kD_ ?_ | refine kA_ ?_ _));exact BK417.out) hb)
           have n1_ := aM_ (kB_ (g := gb419) (o := .cells #[.int .i64 x420000_1,.int .i64 x420001_1] 34 (0,0)) (by (with_reducible repeat (first | refine kN_ ?_ _ | refine kD_ ?_ | refine kA_ ?_ _));exact BK419.out) hb)
           have n2_ := aM_ (bT_ (by repeat (first | (with_reducible first | exact HB.out | apply bA_ | apply bN_ | apply bD_ | refine bS_ ?_ GE417.out | refine bS_ ?_ GE419.out) | exact HB.out)) hb)
           have n3_ := aM_ (hbox)
           have n4_ := aM_ ((by rw [hg];exact (below_size (by repeat (first | (with_reducible first | exact HB.out | apply bA_ | apply bN_ | apply bD_ | refine bS_ ?_ GE417.out | refine bS_ ?_ GE419.out) | exact HB.out))) : w.heap.size ≤ gb425))
           have n5_ := aM_ ((by rw [hg];exact (below_size (by repeat (first | (with_reducible first | exact HB.out | apply bA_ | apply bN_ | apply bD_ | refine bS_ ?_ GE417.out | refine bS_ ?_ GE419.out) | exact HB.out))) : w.heap.size ≤ gb425))
           have n6_ := aM_ ((by rw [hg];exact Nat.ne_of_lt (blk_lt (g := gb417) (o := .cells #[.int .i64 x418000_1,.int .i64 x418001_1] 34 (0,0)) (by (with_reducible repeat (first | refine kN_ ?_ _ | refine kD_ ?_ | refine kA_ ?_ _));exact BK417.out)) : gb417 ≠ gb425))
           have n7_ := aM_ ((by rw [hg];exact Nat.ne_of_gt (blk_lt (g := gb417) (o := .cells #[.int .i64 x418000_1,.int .i64 x418001_1] 34 (0,0)) (by (with_reducible repeat (first | refine kN_ ?_ _ | refine kD_ ?_ | refine kA_ ?_ _));exact BK417.out)) : gb425 ≠ gb417))
           have n8_ := aM_ ((by rw [hg];exact Nat.ne_of_lt (blk_lt (g := gb419) (o := .cells #[.int .i64 x420000_1,.int .i64 x420001_1] 34 (0,0)) (by (with_reducible repeat (first | refine kN_ ?_ _ | refine kD_ ?_ | refine kA_ ?_ _));exact BK419.out)) : gb419 ≠ gb425))
           have n9_ := aM_ ((by rw [hg];exact Nat.ne_of_gt (blk_lt (g := gb419) (o := .cells #[.int .i64 x420000_1,.int .i64 x420001_1] 34 (0,0)) (by (with_reducible repeat (first | refine kN_ ?_ _ | refine kD_ ?_ | refine kA_ ?_ _));exact BK419.out)) : gb425 ≠ gb419))
           clear BK417
           clear BK419
           clear HB
           have BK417 := n0_
           have BK419 := n1_
           have HB := n2_
           have BK425 := n3_
           have GW425 := n4_
           have GE425 := n5_
           have NB417_425 := n6_
           have NB425_417 := n7_
           have NB419_425 := n8_
           have NB425_419 := n9_
           clear n0_ n1_ n2_ n3_ n4_ n5_ n6_ n7_ n8_ n9_
           clear hb hbox hg
           refine hK.out _ _ ⟨((HB.out.cell (World.block_lt_of_cell? w _ hw420_0)).trans hw420_0),((HB.out.cell (World.block_lt_of_cell? w _ hw420_1)).trans hw420_1),((HB.out.cell (World.block_lt_of_cell? w _ hw421_0)).trans hw421_0),((HB.out.cell (World.block_lt_of_cell? w _ hw421_1)).trans hw421_1)⟩ (fun hHeld => ?_)
           clear hK K
           refine norm_ (a' := ?_) ?_ ?_
           rotate_left
           ·show Act.put _ (some 9) _ = _
            simp only [Act.put,sB_,sZ_,sS_,i64_w,i32_w]
            rfl
           exact norm_ (by simp only [putAll,Act.put,sB_,sZ_,sS_]) (hCont (gb425) _ ⟨hHeld,(by (with_reducible repeat (first | refine kN_ ?_ _ | refine kD_ ?_ | refine kA_ ?_ _));exact BK417.out),(by (with_reducible repeat (first | refine kN_ ?_ _ | refine kD_ ?_ | refine kA_ ?_ _));exact BK419.out),(by (with_reducible repeat (first | refine kN_ ?_ _ | refine kD_ ?_ | refine kA_ ?_ _));exact BK425.out),GW425.out,GE425.out,NB417_425.out,NB425_417.out,NB419_425.out,NB425_419.out,(by repeat (first | (with_reducible first | exact HB.out | apply bA_ | apply bN_ | apply bD_ | refine bS_ ?_ GE417.out | refine bS_ ?_ GE419.out | refine bS_ ?_ GE425.out) | exact HB.out))⟩)
          ·skip
           refine box_step ?hg (N := 9) ?hd (cs := #[.int .i64 0,.int .i64 0]) (t := 34) ?hr ?_;(case hd => rfl);(case hg => rfl);(case hr => first | (go_simp;done) | (go_simp;rfl))
           intro gb425 hg w25 hbox hb
           have n0_ := aM_ (kB_ (g := gb417) (o := .cells #[.int .i64 x418000_1,.int .i64 x418001_1] 34 (0,0)) (by (with_reducible repeat (first | refine kN_ ?_ _ | refine kD_ ?_ | refine kA_ ?_ _));exact BK417.out) hb)
           have n1_ := aM_ (kB_ (g := gb419) (o := .cells #[.int .i64 x420000_1,.int .i64 x420001_1] 34 (0,0)) (by (with_reducible repeat (first | refine kN_ ?_ _ | refine kD_ ?_ | refine kA_ ?_ _));exact BK419.out) hb)
           have n2_ := aM_ (bT_ (by repeat (first | (with_reducible first | exact HB.out | apply bA_ | apply bN_ | apply bD_ | refine bS_ ?_ GE417.out | refine bS_ ?_ GE419.out) | exact HB.out)) hb)
           have n3_ := aM_ (hbox)
           have n4_ := aM_ ((by rw [hg];exact (below_size (by repeat (first | (with_reducible first | exact HB.out | apply bA_ | apply bN_ | apply bD_ | refine bS_ ?_ GE417.out | refine bS_ ?_ GE419.out) | exact HB.out))) : w.heap.size ≤ gb425))
           have n5_ := aM_ ((by rw [hg];exact (below_size (by repeat (first | (with_reducible first | exact HB.out | apply bA_ | apply bN_ | apply bD_ | refine bS_ ?_ GE417.out | refine bS_ ?_ GE419.out) | exact HB.out))) : w.heap.size ≤ gb425))
           have n6_ := aM_ ((by rw [hg];exact Nat.ne_of_lt (blk_lt (g := gb417) (o := .cells #[.int .i64 x418000_1,.int .i64 x418001_1] 34 (0,0)) (by (with_reducible repeat (first | refine kN_ ?_ _ | refine kD_ ?_ | refine kA_ ?_ _));exact BK417.out)) : gb417 ≠ gb425))
           have n7_ := aM_ ((by rw [hg];exact Nat.ne_of_gt (blk_lt (g := gb417) (o := .cells #[.int .i64 x418000_1,.int .i64 x418001_1] 34 (0,0)) (by (with_reducible repeat (first | refine kN_ ?_ _ | refine kD_ ?_ | refine kA_ ?_ _));exact BK417.out)) : gb425 ≠ gb417))
           have n8_ := aM_ ((by rw [hg];exact Nat.ne_of_lt (blk_lt (g := gb419) (o := .cells #[.int .i64 x420000_1,.int .i64 x420001_1] 34 (0,0)) (by (with_reducible repeat (first | refine kN_ ?_ _ | refine kD_ ?_ | refine kA_ ?_ _));exact BK419.out)) : gb419 ≠ gb425))
           have n9_ := aM_ ((by rw [hg];exact Nat.ne_of_gt (blk_lt (g := gb419) (o := .cells #[.int .i64 x420000_1,.int .i64 x420001_1] 34 (0,0)) (by (with_reducible repeat (first | refine kN_ ?_ _ | refine kD_ ?_ | refine kA_ ?_ _));exact BK419.out)) : gb425 ≠ gb419))
           clear BK417
           clear BK419
           clear HB
           have BK417 := n0_
           have BK419 := n1_
           have HB := n2_
           have BK425 := n3_
           have GW425 := n4_
           have GE425 := n5_
           have NB417_425 := n6_
           have NB425_417 := n7_
           have NB419_425 := n8_
           have NB425_419 := n9_
           clear n0_ n1_ n2_ n3_ n4_ n5_ n6_ n7_ n8_ n9_
           clear hb hbox hg
           refine hK.out _ _ ⟨((HB.out.cell (World.block_lt_of_cell? w _ hw420_0)).trans hw420_0),((HB.out.cell (World.block_lt_of_cell? w _ hw420_1)).trans hw420_1),((HB.out.cell (World.block_lt_of_cell? w _ hw421_0)).trans hw421_0),((HB.out.cell (World.block_lt_of_cell? w _ hw421_1)).trans hw421_1)⟩ (fun hHeld => ?_)
           clear hK K
           refine norm_ (a' := ?_) ?_ ?_
           rotate_left
           ·show Act.put _ (some 9) _ = _
            simp only [Act.put,sB_,sZ_,sS_,i64_w,i32_w]
            rfl
           refine one_ (i := 11) (N := some 44) #[true,true,true,true,true,true,true,true,true,true,true,true,false,false,false,true,false,false] rfl rfl (one_of HT_.out (by kernel_rfl)) (by decide) (fun K hK => ?_)
           refine goes_ Try.func22 (by kernel_rfl) rfl #[.slice A0 l0.length c0,.int .i64 ((rd_T70 l1 x8_1).f0),.int .i64 ((rd_T70 l1 x8_1).f1)] (by rfl) rfl rfl (by (try simp only [List.map_toArray,List.map_cons,List.map_nil]);first | done | rfl) ?_
           with_reducible refine (R_True.calls k1 _ _ l0 ((rd_T70 l1 x8_1).f0) ((rd_T70 l1 x8_1).f1) t422 t423 t424 _ ?side1 ?side2 A20.out).mono ?_
           (case side1 => repeat (first | exact (Kd.C_below HR0.out HB.out) | (with_reducible refine Kd.C_alloc ?_ _) | (with_reducible refine Kd.C_drewN ?_ _) | (with_reducible refine Kd.C_drew ?_)))
           (case side2 => exact HC0.out)
           rintro e w26 ⟨rfl,hb⟩
           refine ⟨_,rfl,?_⟩
           have n0_ := aM_ (kB_ (g := gb417) (o := .cells #[.int .i64 x418000_1,.int .i64 x418001_1] 34 (0,0)) (by (with_reducible repeat (first | refine kN_ ?_ _ | refine kD_ ?_ | refine kA_ ?_ _));exact BK417.out) hb)
           have n1_ := aM_ (kB_ (g := gb419) (o := .cells #[.int .i64 x420000_1,.int .i64 x420001_1] 34 (0,0)) (by (with_reducible repeat (first | refine kN_ ?_ _ | refine kD_ ?_ | refine kA_ ?_ _));exact BK419.out) hb)
           have n2_ := aM_ (kB_ (g := gb425) (o := .cells #[.int .i64 0,.int .i64 0] 34 (0,0)) (by (with_reducible repeat (first | refine kN_ ?_ _ | refine kD_ ?_ | refine kA_ ?_ _));exact BK425.out) hb)
           have n3_ := aM_ (bT_ (by repeat (first | (with_reducible first | exact HB.out | apply bA_ | apply bN_ | apply bD_ | refine bS_ ?_ GE417.out | refine bS_ ?_ GE419.out | refine bS_ ?_ GE425.out) | exact HB.out)) hb)
           clear BK417
           clear BK419
           clear BK425
           clear HB
           have BK417 := n0_
           have BK419 := n1_
           have BK425 := n2_
           have HB := n3_
           clear n0_ n1_ n2_ n3_
           (try clear hb)
           (try clear hb2)
           (try clear hk)
           (try clear hi)
           refine hK.out _ _ ⟨((HB.out.cell (World.block_lt_of_cell? w _ hw420_0)).trans hw420_0),((HB.out.cell (World.block_lt_of_cell? w _ hw420_1)).trans hw420_1),((HB.out.cell (World.block_lt_of_cell? w _ hw421_0)).trans hw421_0),((HB.out.cell (World.block_lt_of_cell? w _ hw421_1)).trans hw421_1)⟩ (fun hHeld => ?_)
           clear hK K
           refine norm_ (a' := ?_) ?_ ?_
           rotate_left
           ·show Act.put _ (some 44) _ = _
            simp only [Act.put,sB_,sZ_,sS_,i64_w,i32_w]
            rfl
           refine pure_ (i := 12) (N := some 32) (v := ?_) (a' := ?_) #[true,true,true,true,true,true,true,true,true,true,true,true,true,false,false,true,false,false] rfl rfl (any_of HT_.out (by kernel_rfl)) (fun _ _ _ h => h) (Or.inl ⟨by rfl,?_⟩) ?_ ?_
           rotate_left
           ·intro w'
            go_simp
            with_reducible rfl
           rotate_left
           ·simp only [Act.put,sB_,sZ_,sS_,i64_w,i32_w]
            rfl
           refine pure_ (i := 13) (N := some 45) (v := ?_) (a' := ?_) #[true,true,true,true,true,true,true,true,true,true,true,true,true,true,false,true,false,false] rfl rfl (any_of HT_.out (by kernel_rfl)) (fun _ _ _ h => h) (Or.inl ⟨by rfl,?_⟩) ?_ ?_
           rotate_left
           ·intro w'
            go_simp
            with_reducible rfl
           rotate_left
           ·simp only [Act.put,sB_,sZ_,sS_,i64_w,i32_w]
            rfl
           refine pure_ (i := 14) (N := some 46) (v := ?_) (a' := ?_) #[true,true,true,true,true,true,true,true,true,true,true,true,true,true,true,true,false,false] rfl rfl (any_of HT_.out (by kernel_rfl)) (fun _ _ _ h => h) (Or.inl ⟨by rfl,?_⟩) ?_ ?_
           rotate_left
           ·intro w'
            go_simp
            with_reducible rfl
           rotate_left
           ·simp only [Act.put,sB_,sZ_,sS_,i64_w,i32_w]
            rfl
           exact norm_ (by simp only [putAll,Act.put,sB_,sZ_,sS_]) (hCont (gb425) _ ⟨hHeld,(by (with_reducible repeat (first | refine kN_ ?_ _ | refine kD_ ?_ | refine kA_ ?_ _));exact BK417.out),(by (with_reducible repeat (first | refine kN_ ?_ _ | refine kD_ ?_ | refine kA_ ?_ _));exact BK419.out),(by (with_reducible repeat (first | refine kN_ ?_ _ | refine kD_ ?_ | refine kA_ ?_ _));exact BK425.out),GW425.out,GE425.out,NB417_425.out,NB425_417.out,NB419_425.out,NB425_419.out,(by repeat (first | (with_reducible first | exact HB.out | apply bA_ | apply bN_ | apply bD_ | refine bS_ ?_ GE417.out | refine bS_ ?_ GE419.out | refine bS_ ?_ GE425.out) | exact HB.out))⟩)
         rintro gb425 w27 ⟨hS_,h0_,h1_,h2_,h3_,h4_,h5_,h6_,h7_,h8_,h9_⟩
         have n0_ : Aside0 (w27.heap[gb417]? = some (.cells #[.int .i64 x418000_1,.int .i64 x418001_1] 34 (0,0))) := ⟨h0_⟩
         have n1_ : Aside0 (w27.heap[gb419]? = some (.cells #[.int .i64 x420000_1,.int .i64 x420001_1] 34 (0,0))) := ⟨h1_⟩
         have n2_ : Aside0 (w27.heap[gb425]? = some (.cells #[.int .i64 0,.int .i64 0] 34 (0,0))) := ⟨h2_⟩
         have n3_ : Aside0 (w.heap.size ≤ gb425) := ⟨h3_⟩
         have n4_ : Aside0 (w.heap.size ≤ gb425) := ⟨h4_⟩
         have n5_ : Aside0 (gb417 ≠ gb425) := ⟨h5_⟩
         have n6_ : Aside0 (gb425 ≠ gb417) := ⟨h6_⟩
         have n7_ : Aside0 (gb419 ≠ gb425) := ⟨h7_⟩
         have n8_ : Aside0 (gb425 ≠ gb419) := ⟨h8_⟩
         have n9_ : Aside0 (Below w.heap.size w w27) := ⟨h9_⟩
         clear BK417
         clear BK419
         clear HB
         clear h0_ h1_ h2_ h3_ h4_ h5_ h6_ h7_ h8_ h9_
         have BK417 := n0_
         have BK419 := n1_
         have BK425 := n2_
         have GW425 := n3_
         have GE425 := n4_
         have NB417_425 := n5_
         have NB425_417 := n6_
         have NB419_425 := n7_
         have NB425_419 := n8_
         have HB := n9_
         clear n0_ n1_ n2_ n3_ n4_ n5_ n6_ n7_ n8_ n9_
         have hHeld : w27.cell? (ad420.add ((x8_1).toNat * 2)) = some (.int .i64 ((rd_T70 l1 x8_1).f0)) ∧ w27.cell? ⟨(ad420.add ((x8_1).toNat * 2)).block,(ad420.add ((x8_1).toNat * 2)).off + 1,none⟩ = some (.int .i64 ((rd_T70 l1 x8_1).f1)) ∧ w27.cell? (ad420.add ((x8_1).toNat * 2)) = some (.int .i64 ((rd_T70 l1 x8_1).f0)) ∧ w27.cell? ⟨(ad420.add ((x8_1).toNat * 2)).block,(ad420.add ((x8_1).toNat * 2)).off + 1,none⟩ = some (.int .i64 ((rd_T70 l1 x8_1).f1)) := hS_
         refine norm_ (a' := ?_) ?_ ?_
         rotate_left
         ·simp only [putAll,Act.put,sB_,sZ_,sS_]
          rfl
         refine one_ (i := 16) (N := none) #[true,true,true,true,true,true,true,true,true,true,true,true,true,true,true,true,true,false] rfl rfl (one_of HT_.out (by kernel_rfl)) (by decide) (fun K hK => ?_)
         have hs28 : w27.cell? ⟨gb425,0,none⟩ = some (.int .i64 0) := (blk_cell BK425.out 0).trans rfl
         have hfs28 := blk_frozen BK425.out 0
         have hns28_0 := NB417_425.out
         have hns28_1 := NB419_425.out
         have hms28_0 := NB425_417.out
         have hms28_1 := NB425_419.out
         have hs29 : w27.cell? ⟨gb425,1,none⟩ = some (.int .i64 0) := (blk_cell BK425.out 1).trans rfl
         have hfs29 := blk_frozen BK425.out 1
         have hns29_0 := NB417_425.out
         have hns29_1 := NB419_425.out
         have hms29_0 := NB425_417.out
         have hms29_1 := NB425_419.out
         refine skip_ (w1 := ?_) (by rfl) rfl ?_ ?_
         rotate_left
         ·go_simp
          rfl
         refine hK.out _ _ ⟨((cell_far (p := ⟨gb425,_,none⟩) (by first | exact Nat.ne_of_lt (Nat.lt_of_lt_of_le (by have := World.block_lt_of_cell? _ _ hw420_0;first | rwa [add_block] at this | exact this) GW425.out) | (rw [add_block];exact Nat.ne_of_lt (Nat.lt_of_lt_of_le (by have := World.block_lt_of_cell? _ _ hw420_0;first | rwa [add_block] at this | exact this) GW425.out)) | (show (Addr.add _ _).block ≠ _;rw [add_block];exact Nat.ne_of_lt (Nat.lt_of_lt_of_le (by have := World.block_lt_of_cell? _ _ hw420_0;first | rwa [add_block] at this | exact this) GW425.out)) | (dsimp only;exact Nat.ne_of_lt (Nat.lt_of_lt_of_le (by have := World.block_lt_of_cell? _ _ hw420_0;first | rwa [add_block] at this | exact this) GW425.out))) _).trans (((cell_far (p := ⟨gb425,_,none⟩) (by first | exact Nat.ne_of_lt (Nat.lt_of_lt_of_le (by have := World.block_lt_of_cell? _ _ hw420_0;first | rwa [add_block] at this | exact this) GW425.out) | (rw [add_block];exact Nat.ne_of_lt (Nat.lt_of_lt_of_le (by have := World.block_lt_of_cell? _ _ hw420_0;first | rwa [add_block] at this | exact this) GW425.out)) | (show (Addr.add _ _).block ≠ _;rw [add_block];exact Nat.ne_of_lt (Nat.lt_of_lt_of_le (by have := World.block_lt_of_cell? _ _ hw420_0;first | rwa [add_block] at this | exact this) GW425.out)) | (dsimp only;exact Nat.ne_of_lt (Nat.lt_of_lt_of_le (by have := World.block_lt_of_cell? _ _ hw420_0;first | rwa [add_block] at this | exact this) GW425.out))) _).trans (hHeld.1)))),((cell_far (p := ⟨gb425,_,none⟩) (by first | exact Nat.ne_of_lt (Nat.lt_of_lt_of_le (by have := World.block_lt_of_cell? _ _ hw420_1;first | rwa [add_block] at this | exact this) GW425.out) | (rw [add_block];exact Nat.ne_of_lt (Nat.lt_of_lt_of_le (by have := World.block_lt_of_cell? _ _ hw420_1;first | rwa [add_block] at this | exact this) GW425.out)) | (show (Addr.add _ _).block ≠ _;rw [add_block];exact Nat.ne_of_lt (Nat.lt_of_lt_of_le (by have := World.block_lt_of_cell? _ _ hw420_1;first | rwa [add_block] at this | exact this) GW425.out)) | (dsimp only;exact Nat.ne_of_lt (Nat.lt_of_lt_of_le (by have := World.block_lt_of_cell? _ _ hw420_1;first | rwa [add_block] at this | exact this) GW425.out))) _).trans (((cell_far (p := ⟨gb425,_,none⟩) (by first | exact Nat.ne_of_lt (Nat.lt_of_lt_of_le (by have := World.block_lt_of_cell? _ _ hw420_1;first | rwa [add_block] at this | exact this) GW425.out) | (rw [add_block];exact Nat.ne_of_lt (Nat.lt_of_lt_of_le (by have := World.block_lt_of_cell? _ _ hw420_1;first | rwa [add_block] at this | exact this) GW425.out)) | (show (Addr.add _ _).block ≠ _;rw [add_block];exact Nat.ne_of_lt (Nat.lt_of_lt_of_le (by have := World.block_lt_of_cell? _ _ hw420_1;first | rwa [add_block] at this | exact this) GW425.out)) | (dsimp only;exact Nat.ne_of_lt (Nat.lt_of_lt_of_le (by have := World.block_lt_of_cell? _ _ hw420_1;first | rwa [add_block] at this | exact this) GW425.out))) _).trans (hHeld.2.1)))),((cell_far (p := ⟨gb425,_,none⟩) (by first | exact Nat.ne_of_lt (Nat.lt_of_lt_of_le (by have := World.block_lt_of_cell? _ _ hw421_0;first | rwa [add_block] at this | exact this) GW425.out) | (rw [add_block];exact Nat.ne_of_lt (Nat.lt_of_lt_of_le (by have := World.block_lt_of_cell? _ _ hw421_0;first | rwa [add_block] at this | exact this) GW425.out)) | (show (Addr.add _ _).block ≠ _;rw [add_block];exact Nat.ne_of_lt (Nat.lt_of_lt_of_le (by have := World.block_lt_of_cell? _ _ hw421_0;first | rwa [add_block] at this | exact this) GW425.out)) | (dsimp only;exact Nat.ne_of_lt (Nat.lt_of_lt_of_le (by have := World.block_lt_of_cell? _ _ hw421_0;first | rwa [add_block] at this | exact this) GW425.out))) _).trans (((cell_far (p := ⟨gb425,_,none⟩) (by first | exact Nat.ne_of_lt (Nat.lt_of_lt_of_le (by have := World.block_lt_of_cell? _ _ hw421_0;first | rwa [add_block] at this | exact this) GW425.out) | (rw [add_block];exact Nat.ne_of_lt (Nat.lt_of_lt_of_le (by have := World.block_lt_of_cell? _ _ hw421_0;first | rwa [add_block] at this | exact this) GW425.out)) | (show (Addr.add _ _).block ≠ _;rw [add_block];exact Nat.ne_of_lt (Nat.lt_of_lt_of_le (by have := World.block_lt_of_cell? _ _ hw421_0;first | rwa [add_block] at this | exact this) GW425.out)) | (dsimp only;exact Nat.ne_of_lt (Nat.lt_of_lt_of_le (by have := World.block_lt_of_cell? _ _ hw421_0;first | rwa [add_block] at this | exact this) GW425.out))) _).trans (hHeld.2.2.1)))),((cell_far (p := ⟨gb425,_,none⟩) (by first | exact Nat.ne_of_lt (Nat.lt_of_lt_of_le (by have := World.block_lt_of_cell? _ _ hw421_1;first | rwa [add_block] at this | exact this) GW425.out) | (rw [add_block];exact Nat.ne_of_lt (Nat.lt_of_lt_of_le (by have := World.block_lt_of_cell? _ _ hw421_1;first | rwa [add_block] at this | exact this) GW425.out)) | (show (Addr.add _ _).block ≠ _;rw [add_block];exact Nat.ne_of_lt (Nat.lt_of_lt_of_le (by have := World.block_lt_of_cell? _ _ hw421_1;first | rwa [add_block] at this | exact this) GW425.out)) | (dsimp only;exact Nat.ne_of_lt (Nat.lt_of_lt_of_le (by have := World.block_lt_of_cell? _ _ hw421_1;first | rwa [add_block] at this | exact this) GW425.out))) _).trans (((cell_far (p := ⟨gb425,_,none⟩) (by first | exact Nat.ne_of_lt (Nat.lt_of_lt_of_le (by have := World.block_lt_of_cell? _ _ hw421_1;first | rwa [add_block] at this | exact this) GW425.out) | (rw [add_block];exact Nat.ne_of_lt (Nat.lt_of_lt_of_le (by have := World.block_lt_of_cell? _ _ hw421_1;first | rwa [add_block] at this | exact this) GW425.out)) | (show (Addr.add _ _).block ≠ _;rw [add_block];exact Nat.ne_of_lt (Nat.lt_of_lt_of_le (by have := World.block_lt_of_cell? _ _ hw421_1;first | rwa [add_block] at this | exact this) GW425.out)) | (dsimp only;exact Nat.ne_of_lt (Nat.lt_of_lt_of_le (by have := World.block_lt_of_cell? _ _ hw421_1;first | rwa [add_block] at this | exact this) GW425.out))) _).trans (hHeld.2.2.2))))⟩ (fun hHeld => ?_)
         clear hK K
         refine pure_ (i := 17) (N := some 10) (v := ?_) (a' := ?_) #[true,true,true,true,true,true,true,true,true,true,true,true,true,true,true,true,true,true] rfl rfl (any_of HT_.out (by kernel_rfl)) (fun _ _ _ h => h) (Or.inl ⟨by rfl,?_⟩) ?_ ?_
         rotate_left
         ·intro w'
          go_simp
          with_reducible rfl
         rotate_left
         ·simp only [Act.put,sB_,sZ_,sS_,i64_w,i32_w]
          rfl
         refine done_ (done_of HT_.out (by kernel_rfl)) ?_
         have hnb30 := NB419_417.out
         have hnc30 := NB417_419.out
         have hnb31 := NB419_425.out
         have hnc31 := NB425_419.out
         have hcz32_0 : w27.cell? ⟨gb419,0,none⟩ = some (.int .i64 x420000_1) := (blk_cell BK419.out 0).trans rfl
         have hcz32_1 : w27.cell? ⟨gb419,1,none⟩ = some (.int .i64 x420001_1) := (blk_cell BK419.out 1).trans rfl
         have hfz32_0 := blk_frozen BK419.out 0
         have hfz32_1 := blk_frozen BK419.out 1
         have hnb33 := NB425_417.out
         have hnc33 := NB417_425.out
         have hcz34_0 : w27.cell? ⟨gb425,0,none⟩ = some (.int .i64 0) := (blk_cell BK425.out 0).trans rfl
         have hcz34_1 : w27.cell? ⟨gb425,1,none⟩ = some (.int .i64 0) := (blk_cell BK425.out 1).trans rfl
         have hfz34_0 := blk_frozen BK425.out 0
         have hfz34_1 := blk_frozen BK425.out 1
         try go_wp2
         go_roundg k1
         case measure => have := HK1.out;omega
         case rel => exact ⟨(wrap64 (x8_1 + 1)),(x418000_1),(x418001_1),(ji22),(ji23),(by first | rfl | (simp;done) | (simp [*];done)),H',⟨by have := HK1.out;omega⟩,⟨by (with_reducible repeat (first | refine kN_ ?_ _ | refine kD_ ?_ | refine kA_ ?_ _));refine blk_far ?_ NB417_419.out _;(with_reducible repeat (first | refine kN_ ?_ _ | refine kD_ ?_ | refine kA_ ?_ _));refine blk_far ?_ NB417_419.out _;(with_reducible repeat (first | refine kN_ ?_ _ | refine kD_ ?_ | refine kA_ ?_ _));refine blk_far ?_ NB417_425.out _;(with_reducible repeat (first | refine kN_ ?_ _ | refine kD_ ?_ | refine kA_ ?_ _));refine blk_far ?_ NB417_425.out _;(with_reducible repeat (first | refine kN_ ?_ _ | refine kD_ ?_ | refine kA_ ?_ _));exact BK417.out⟩,⟨by (with_reducible repeat (first | refine kN_ ?_ _ | refine kD_ ?_ | refine kA_ ?_ _));refine blk_put (cs := #[.int .i64 ji22,.int .i64 x420001_1]) ?_ 1 _ rfl;(with_reducible repeat (first | refine kN_ ?_ _ | refine kD_ ?_ | refine kA_ ?_ _));refine blk_put (cs := #[.int .i64 x420000_1,.int .i64 x420001_1]) ?_ 0 _ rfl;(with_reducible repeat (first | refine kN_ ?_ _ | refine kD_ ?_ | refine kA_ ?_ _));refine blk_far ?_ NB419_425.out _;(with_reducible repeat (first | refine kN_ ?_ _ | refine kD_ ?_ | refine kA_ ?_ _));refine blk_far ?_ NB419_425.out _;(with_reducible repeat (first | refine kN_ ?_ _ | refine kD_ ?_ | refine kA_ ?_ _));exact BK419.out⟩,⟨by repeat (first | (with_reducible first | exact HB.out | apply bA_ | apply bN_ | apply bD_ | refine bS_ ?_ GE417.out | refine bS_ ?_ GE419.out | refine bS_ ?_ GE425.out) | exact HB.out)⟩⟩
        ·rw [if_neg c21] at H
         have c21b0 : (t424 == 0) = false := beq_eq_false_iff_ne.mpr c21
         have c21b1 : (t424 != 0) = true := bne_iff_ne.mpr c21
         simp only [Option.some.injEq,Prod.mk.injEq] at H
         obtain ⟨rfl,rfl,rfl⟩ := H
         try go_wp2
         have n0_ := aM_ (kD_ BK417.out)
         have n1_ := aM_ (kD_ BK419.out)
         have n2_ := aM_ (bD_ HB.out)
         clear BK417
         clear BK419
         clear HB
         have BK417 := n0_
         have BK419 := n1_
         have HB := n2_
         clear n0_ n1_ n2_
         have p420 : 0 ≤ (x8_1 : Int) := of_decide_eq_true (by first | (with_reducible assumption) | assumption)
         have q420 : x8_1 < (l1.length : Int) := of_decide_eq_true (by first | (with_reducible assumption) | assumption)
         obtain ⟨ad420,e420,hx420_0,hx420_1⟩ := at_T70 HR1.out x8_1 p420 q420
         have hw420_1 := hx420_1
         have hw420_0 := hx420_0
         cases e420
         replace hx420_0 := (HB.out.cell (World.block_lt_of_cell? w _ hx420_0)).trans hx420_0
         replace hx420_1 := (HB.out.cell (World.block_lt_of_cell? w _ hx420_1)).trans hx420_1
         replace p420 := eq_true p420
         replace q420 := eq_true q420
         have p421 : 0 ≤ (x8_1 : Int) := of_decide_eq_true (by first | (with_reducible assumption) | assumption)
         have q421 : x8_1 < (l1.length : Int) := of_decide_eq_true (by first | (with_reducible assumption) | assumption)
         obtain ⟨ad421,e421,hx421_0,hx421_1⟩ := at_T70 HR1.out x8_1 p421 q421
         have hw421_1 := hx421_1
         have hw421_0 := hx421_0
         obtain rfl : ad420 = ad421 := (by injection e421)
         replace hx421_0 := (HB.out.cell (World.block_lt_of_cell? w _ hx421_0)).trans hx421_0
         replace hx421_1 := (HB.out.cell (World.block_lt_of_cell? w _ hx421_1)).trans hx421_1
         replace p421 := eq_true p421
         replace q421 := eq_true q421
         refine start_ (n := 18) (S := fun w' => w'.cell? (ad420.add ((x8_1).toNat * 2)) = some (.int .i64 ((rd_T70 l1 x8_1).f0)) ∧ w'.cell? ⟨(ad420.add ((x8_1).toNat * 2)).block,(ad420.add ((x8_1).toNat * 2)).off + 1,none⟩ = some (.int .i64 ((rd_T70 l1 x8_1).f1)) ∧ w'.cell? (ad420.add ((x8_1).toNat * 2)) = some (.int .i64 ((rd_T70 l1 x8_1).f0)) ∧ w'.cell? ⟨(ad420.add ((x8_1).toNat * 2)).block,(ad420.add ((x8_1).toNat * 2)).off + 1,none⟩ = some (.int .i64 ((rd_T70 l1 x8_1).f1))) (ds := []) #[false,false,false,false,false,false,false,false,false,false,false,false,false,false,false,false,false,false] (by kernel_rfl) rfl rfl ⟨((HB.out.cell (World.block_lt_of_cell? w _ hw420_0)).trans hw420_0),((HB.out.cell (World.block_lt_of_cell? w _ hw420_1)).trans hw420_1),((HB.out.cell (World.block_lt_of_cell? w _ hw421_0)).trans hw421_0),((HB.out.cell (World.block_lt_of_cell? w _ hw421_1)).trans hw421_1)⟩ (fun hHeld => ?_);refine with_tabW R_Together.tab12 R_Together.bits12 (fun HT_ HW_ => ?_)
         generalize wr.drew = w35 at BK417 BK419 HB hx420_0 hx420_1 hx421_0 hx421_1 hHeld ⊢
         refine pure_ (i := 0) (N := some 33) (v := ?_) (a' := ?_) #[true,false,false,false,false,false,false,false,false,false,false,false,false,false,false,false,false,false] rfl rfl (any_of HT_.out (by kernel_rfl)) (fun _ _ _ h => h) (Or.inl ⟨by rfl,?_⟩) ?_ ?_
         rotate_left
         ·intro w'
          go_simp
          with_reducible rfl
         rotate_left
         ·simp only [Act.put,sB_,sZ_,sS_,i64_w,i32_w]
          rfl
         refine pure_ (i := 1) (N := some 34) (v := ?_) (a' := ?_) #[true,true,false,false,false,false,false,false,false,false,false,false,false,false,false,false,false,false] rfl rfl (any_of HT_.out (by kernel_rfl)) (fun _ _ _ h => h) (Or.inl ⟨by rfl,?_⟩) ?_ ?_
         rotate_left
         ·intro w'
          go_simp
          with_reducible rfl
         rotate_left
         ·simp only [Act.put,sB_,sZ_,sS_,i64_w,i32_w]
          rfl
         refine pure_ (i := 2) (N := some 35) (v := ?_) (a' := ?_) #[true,true,true,false,false,false,false,false,false,false,false,false,false,false,false,false,false,false] rfl rfl (any_of HT_.out (by kernel_rfl)) (fun _ _ _ h => h) (Or.inl ⟨by rfl,?_⟩) ?_ ?_
         rotate_left
         ·intro w'
          go_simp
          with_reducible rfl
         rotate_left
         ·simp only [Act.put,sB_,sZ_,sS_,i64_w,i32_w]
          rfl
         refine pure_ (i := 3) (N := some 36) (v := ?_) (a' := ?_) #[true,true,true,true,false,false,false,false,false,false,false,false,false,false,false,false,false,false] rfl rfl (any_of HT_.out (by kernel_rfl)) (fun _ _ _ h => h) (Or.inl ⟨by rfl,?_⟩) ?_ ?_
         rotate_left
         ·intro w'
          go_simp
          with_reducible rfl
         rotate_left
         ·simp only [Act.put,sB_,sZ_,sS_,i64_w,i32_w]
          rfl
         refine pure_ (i := 4) (N := some 37) (v := ?_) (a' := ?_) #[true,true,true,true,true,false,false,false,false,false,false,false,false,false,false,false,false,false] rfl rfl (any_of HT_.out (by kernel_rfl)) (fun _ _ _ h => h) (Or.inl ⟨by rfl,?_⟩) ?_ ?_
         rotate_left
         ·intro w'
          go_simp
          with_reducible rfl
         rotate_left
         ·simp only [Act.put,sB_,sZ_,sS_,i64_w,i32_w]
          rfl
         refine pure_ (i := 6) (N := some 39) (v := ?_) (a' := ?_) #[true,true,true,true,true,false,true,false,false,false,false,false,false,false,false,false,false,false] rfl rfl (any_of HT_.out (by kernel_rfl)) (fun _ _ _ h => h) (Or.inl ⟨by rfl,?_⟩) ?_ ?_
         rotate_left
         ·intro w'
          go_simp
          with_reducible rfl
         rotate_left
         ·simp only [Act.put,sB_,sZ_,sS_,i64_w,i32_w]
          rfl
         refine pure_ (i := 7) (N := some 40) (v := ?_) (a' := ?_) #[true,true,true,true,true,false,true,true,false,false,false,false,false,false,false,false,false,false] rfl rfl (any_of HT_.out (by kernel_rfl)) (fun _ _ _ h => h) (Or.inl ⟨by rfl,?_⟩) ?_ ?_
         rotate_left
         ·intro w'
          go_simp
          with_reducible rfl
         rotate_left
         ·simp only [Act.put,sB_,sZ_,sS_,i64_w,i32_w]
          rfl
         refine pure_ (i := 8) (N := some 41) (v := ?_) (a' := ?_) #[true,true,true,true,true,false,true,true,true,false,false,false,false,false,false,false,false,false] rfl rfl (any_of HT_.out (by kernel_rfl)) (fun _ _ _ h => h) (Or.inl ⟨by rfl,?_⟩) ?_ ?_
         rotate_left
         ·intro w'
          go_simp
          with_reducible rfl
         rotate_left
         ·simp only [Act.put,sB_,sZ_,sS_,i64_w,i32_w]
          rfl
         refine pure_ (i := 9) (N := some 42) (v := ?_) (a' := ?_) #[true,true,true,true,true,false,true,true,true,true,false,false,false,false,false,false,false,false] rfl rfl (any_of HT_.out (by kernel_rfl)) (fun _ _ _ h => h) (Or.inl ⟨by rfl,?_⟩) ?_ ?_
         rotate_left
         ·intro w'
          go_simp
          with_reducible rfl
         rotate_left
         ·simp only [Act.put,sB_,sZ_,sS_,i64_w,i32_w]
          rfl
         refine take_ (i := 5) (N := some 38) (v := ?_) (a' := ?_) #[true,true,true,true,true,true,true,true,true,true,false,false,false,false,false,false,false,false] rfl rfl (take_ofW HT_.out HW_.out (by kernel_rfl)) (fun _ _ _ h => h) (Or.inl ⟨by rfl,?_⟩) hHeld ?_ ?_
         rotate_left
         ·rintro w' ⟨s0,s1,s2,s3⟩
          go_simp
          with_reducible rfl
         rotate_left
         ·simp only [Act.put,sB_,sZ_,sS_,i64_w,i32_w]
          rfl
         refine take_ (i := 10) (N := some 43) (v := ?_) (a' := ?_) #[true,true,true,true,true,true,true,true,true,true,true,false,false,false,false,false,false,false] rfl rfl (take_ofW HT_.out HW_.out (by kernel_rfl)) (fun _ _ _ h => h) (Or.inl ⟨by rfl,?_⟩) hHeld ?_ ?_
         rotate_left
         ·rintro w' ⟨s0,s1,s2,s3⟩
          go_simp
          with_reducible rfl
         rotate_left
         ·simp only [Act.put,sB_,sZ_,sS_,i64_w,i32_w]
          rfl
         refine join_ (σ := Nat) 2 #[true,true,true,true,true,true,true,true,true,true,true,true,true,true,true,true,false,false] (fun s_ => [(44,.tuple #[.agg #[.int .i64 t422,.int .i64 t423],.int .i64 t424]),(9,.pointer (some ⟨s_,0,none⟩)),(32,.tuple #[.agg #[.int .i64 t422,.int .i64 t423],.int .i64 t424]),(45,.agg #[.int .i64 t422,.int .i64 t423]),(46,.int .i64 t424)]) (fun s_ w' => (w'.cell? (ad420.add ((x8_1).toNat * 2)) = some (.int .i64 ((rd_T70 l1 x8_1).f0)) ∧ w'.cell? ⟨(ad420.add ((x8_1).toNat * 2)).block,(ad420.add ((x8_1).toNat * 2)).off + 1,none⟩ = some (.int .i64 ((rd_T70 l1 x8_1).f1)) ∧ w'.cell? (ad420.add ((x8_1).toNat * 2)) = some (.int .i64 ((rd_T70 l1 x8_1).f0)) ∧ w'.cell? ⟨(ad420.add ((x8_1).toNat * 2)).block,(ad420.add ((x8_1).toNat * 2)).off + 1,none⟩ = some (.int .i64 ((rd_T70 l1 x8_1).f1))) ∧ (w'.heap[gb417]? = some (.cells #[.int .i64 x418000_1,.int .i64 x418001_1] 34 (0,0))) ∧ (w'.heap[gb419]? = some (.cells #[.int .i64 x420000_1,.int .i64 x420001_1] 34 (0,0))) ∧ (w'.heap[s_]? = some (.cells #[.int .i64 0,.int .i64 0] 34 (0,0))) ∧ (w.heap.size ≤ s_) ∧ (w.heap.size ≤ s_) ∧ (gb417 ≠ s_) ∧ (s_ ≠ gb417) ∧ (gb419 ≠ s_) ∧ (s_ ≠ gb419) ∧ (Below w.heap.size w w')) ?_ ?_
         rotate_left
         ·intro hCont
          refine two_ (i := 11) (j := 15) (Ni := some 44) (Nj := some 9) #[true,true,true,true,true,true,true,true,true,true,true,true,false,false,false,false,false,false] #[true,true,true,true,true,true,true,true,true,true,true,false,false,false,false,true,false,false] rfl rfl rfl rfl (two_of HT_.out (by kernel_rfl)) (by decide) (by decide) (fun K hK => ?_) (fun K hK => ?_)
          ·skip
           refine goes_ Try.func22 (by kernel_rfl) rfl #[.slice A0 l0.length c0,.int .i64 ((rd_T70 l1 x8_1).f0),.int .i64 ((rd_T70 l1 x8_1).f1)] (by rfl) rfl rfl (by (try simp only [List.map_toArray,List.map_cons,List.map_nil]);first | done | rfl) ?_
           with_reducible refine (R_True.calls k1 _ _ l0 ((rd_T70 l1 x8_1).f0) ((rd_T70 l1 x8_1).f1) t422 t423 t424 _ ?side1 ?side2 A20.out).mono ?_
           (case side1 => repeat (first | exact (Kd.C_below HR0.out HB.out) | (with_reducible refine Kd.C_alloc ?_ _) | (with_reducible refine Kd.C_drewN ?_ _) | (with_reducible refine Kd.C_drew ?_)))
           (case side2 => exact HC0.out)
           rintro e w36 ⟨rfl,hb⟩
           refine ⟨_,rfl,?_⟩
           have n0_ := aM_ (kB_ (g := gb417) (o := .cells #[.int .i64 x418000_1,.int .i64 x418001_1] 34 (0,0)) (by (with_reducible repeat (first | refine kN_ ?_ _ | refine kD_ ?_ | refine kA_ ?_ _));exact BK417.out) hb)
           have n1_ := aM_ (kB_ (g := gb419) (o := .cells #[.int .i64 x420000_1,.int .i64 x420001_1] 34 (0,0)) (by (with_reducible repeat (first | refine kN_ ?_ _ | refine kD_ ?_ | refine kA_ ?_ _));exact BK419.out) hb)
           have n2_ := aM_ (bT_ (by repeat (first | (with_reducible first | exact HB.out | apply bA_ | apply bN_ | apply bD_ | refine bS_ ?_ GE417.out | refine bS_ ?_ GE419.out) | exact HB.out)) hb)
           clear BK417
           clear BK419
           clear HB
           have BK417 := n0_
           have BK419 := n1_
           have HB := n2_
           clear n0_ n1_ n2_
           (try clear hb)
           (try clear hb2)
           (try clear hk)
           (try clear hi)
           refine hK.out _ _ ⟨((HB.out.cell (World.block_lt_of_cell? w _ hw420_0)).trans hw420_0),((HB.out.cell (World.block_lt_of_cell? w _ hw420_1)).trans hw420_1),((HB.out.cell (World.block_lt_of_cell? w _ hw421_0)).trans hw421_0),((HB.out.cell (World.block_lt_of_cell? w _ hw421_1)).trans hw421_1)⟩ (fun hHeld => ?_)
           clear hK K
           refine norm_ (a' := ?_) ?_ ?_
           rotate_left
           ·show Act.put _ (some 44) _ = _
            simp only [Act.put,sB_,sZ_,sS_,i64_w,i32_w]
            rfl
           refine pure_ (i := 12) (N := some 32) (v := ?_) (a' := ?_) #[true,true,true,true,true,true,true,true,true,true,true,true,true,false,false,false,false,false] rfl rfl (any_of HT_.out (by kernel_rfl)) (fun _ _ _ h => h) (Or.inl ⟨by rfl,?_⟩) ?_ ?_
           rotate_left
           ·intro w'
            go_simp
            with_reducible rfl
           rotate_left
           ·simp only [Act.put,sB_,sZ_,sS_,i64_w,i32_w]
            rfl
           refine pure_ (i := 13) (N := some 45) (v := ?_) (a' := ?_) #[true,true,true,true,true,true,true,true,true,true,true,true,true,true,false,false,false,false] rfl rfl (any_of HT_.out (by kernel_rfl)) (fun _ _ _ h => h) (Or.inl ⟨by rfl,?_⟩) ?_ ?_
           rotate_left
           ·intro w'
            go_simp
            with_reducible rfl
           rotate_left
           ·simp only [Act.put,sB_,sZ_,sS_,i64_w,i32_w]
            rfl
           refine pure_ (i := 14) (N := some 46) (v := ?_) (a' := ?_) #[true,true,true,true,true,true,true,true,true,true,true,true,true,true,true,false,false,false] rfl rfl (any_of HT_.out (by kernel_rfl)) (fun _ _ _ h => h) (Or.inl ⟨by rfl,?_⟩) ?_ ?_
           rotate_left
           ·intro w'
            go_simp
            with_reducible rfl
           rotate_left
           ·simp only [Act.put,sB_,sZ_,sS_,i64_w,i32_w]
            rfl
           refine one_ (i := 15) (N := some 9) #[true,true,true,true,true,true,true,true,true,true,true,true,true,true,true,true,false,false] rfl rfl (one_of HT_.out (by kernel_rfl)) (by decide) (fun K hK => ?_)
           refine box_step ?hg (N := 9) ?hd (cs := #[.int .i64 0,.int .i64 0]) (t := 34) ?hr ?_;(case hd => rfl);(case hg => rfl);(case hr => first | (go_simp;done) | (go_simp;rfl))
           intro gb425 hg w37 hbox hb
           have n0_ := aM_ (kB_ (g := gb417) (o := .cells #[.int .i64 x418000_1,.int .i64 x418001_1] 34 (0,0)) (by (with_reducible repeat (first | refine kN_ ?_ _ | refine kD_ ?_ | refine kA_ ?_ _));exact BK417.out) hb)
           have n1_ := aM_ (kB_ (g := gb419) (o := .cells #[.int .i64 x420000_1,.int .i64 x420001_1] 34 (0,0)) (by (with_reducible repeat (first | refine kN_ ?_ _ | refine kD_ ?_ | refine kA_ ?_ _));exact BK419.out) hb)
           have n2_ := aM_ (bT_ (by repeat (first | (with_reducible first | exact HB.out | apply bA_ | apply bN_ | apply bD_ | refine bS_ ?_ GE417.out | refine bS_ ?_ GE419.out) | exact HB.out)) hb)
           have n3_ := aM_ (hbox)
           have n4_ := aM_ ((by rw [hg];exact (below_size (by repeat (first | (with_reducible first | exact HB.out | apply bA_ | apply bN_ | apply bD_ | refine bS_ ?_ GE417.out | refine bS_ ?_ GE419.out) | exact HB.out))) : w.heap.size ≤ gb425))
           have n5_ := aM_ ((by rw [hg];exact (below_size (by repeat (first | (with_reducible first | exact HB.out | apply bA_ | apply bN_ | apply bD_ | refine bS_ ?_ GE417.out | refine bS_ ?_ GE419.out) | exact HB.out))) : w.heap.size ≤ gb425))
           have n6_ := aM_ ((by rw [hg];exact Nat.ne_of_lt (blk_lt (g := gb417) (o := .cells #[.int .i64 x418000_1,.int .i64 x418001_1] 34 (0,0)) (by (with_reducible repeat (first | refine kN_ ?_ _ | refine kD_ ?_ | refine kA_ ?_ _));exact BK417.out)) : gb417 ≠ gb425))
           have n7_ := aM_ ((by rw [hg];exact Nat.ne_of_gt (blk_lt (g := gb417) (o := .cells #[.int .i64 x418000_1,.int .i64 x418001_1] 34 (0,0)) (by (with_reducible repeat (first | refine kN_ ?_ _ | refine kD_ ?_ | refine kA_ ?_ _));exact BK417.out)) : gb425 ≠ gb417))
           have n8_ := aM_ ((by rw [hg];exact Nat.ne_of_lt (blk_lt (g := gb419) (o := .cells #[.int .i64 x420000_1,.int .i64 x420001_1] 34 (0,0)) (by (with_reducible repeat (first | refine kN_ ?_ _ | refine kD_ ?_ | refine kA_ ?_ _));exact BK419.out)) : gb419 ≠ gb425))
           have n9_ := aM_ ((by rw [hg];exact Nat.ne_of_gt (blk_lt (g := gb419) (o := .cells #[.int .i64 x420000_1,.int .i64 x420001_1] 34 (0,0)) (by (with_reducible repeat (first | refine kN_ ?_ _ | refine kD_ ?_ | refine kA_ ?_ _));exact BK419.out)) : gb425 ≠ gb419))
           clear BK417
           clear BK419
           clear HB
           have BK417 := n0_
           have BK419 := n1_
           have HB := n2_
           have BK425 := n3_
           have GW425 := n4_
           have GE425 := n5_
           have NB417_425 := n6_
           have NB425_417 := n7_
           have NB419_425 := n8_
           have NB425_419 := n9_
           clear n0_ n1_ n2_ n3_ n4_ n5_ n6_ n7_ n8_ n9_
           clear hb hbox hg
           refine hK.out _ _ ⟨((HB.out.cell (World.block_lt_of_cell? w _ hw420_0)).trans hw420_0),((HB.out.cell (World.block_lt_of_cell? w _ hw420_1)).trans hw420_1),((HB.out.cell (World.block_lt_of_cell? w _ hw421_0)).trans hw421_0),((HB.out.cell (World.block_lt_of_cell? w _ hw421_1)).trans hw421_1)⟩ (fun hHeld => ?_)
           clear hK K
           refine norm_ (a' := ?_) ?_ ?_
           rotate_left
           ·show Act.put _ (some 9) _ = _
            simp only [Act.put,sB_,sZ_,sS_,i64_w,i32_w]
            rfl
           exact norm_ (by simp only [putAll,Act.put,sB_,sZ_,sS_]) (hCont (gb425) _ ⟨hHeld,(by (with_reducible repeat (first | refine kN_ ?_ _ | refine kD_ ?_ | refine kA_ ?_ _));exact BK417.out),(by (with_reducible repeat (first | refine kN_ ?_ _ | refine kD_ ?_ | refine kA_ ?_ _));exact BK419.out),(by (with_reducible repeat (first | refine kN_ ?_ _ | refine kD_ ?_ | refine kA_ ?_ _));exact BK425.out),GW425.out,GE425.out,NB417_425.out,NB425_417.out,NB419_425.out,NB425_419.out,(by repeat (first | (with_reducible first | exact HB.out | apply bA_ | apply bN_ | apply bD_ | refine bS_ ?_ GE417.out | refine bS_ ?_ GE419.out | refine bS_ ?_ GE425.out) | exact HB.out))⟩)
          ·skip
           refine box_step ?hg (N := 9) ?hd (cs := #[.int .i64 0,.int .i64 0]) (t := 34) ?hr ?_;(case hd => rfl);(case hg => rfl);(case hr => first | (go_simp;done) | (go_simp;rfl))
           intro gb425 hg w36 hbox hb
           have n0_ := aM_ (kB_ (g := gb417) (o := .cells #[.int .i64 x418000_1,.int .i64 x418001_1] 34 (0,0)) (by (with_reducible repeat (first | refine kN_ ?_ _ | refine kD_ ?_ | refine kA_ ?_ _));exact BK417.out) hb)
           have n1_ := aM_ (kB_ (g := gb419) (o := .cells #[.int .i64 x420000_1,.int .i64 x420001_1] 34 (0,0)) (by (with_reducible repeat (first | refine kN_ ?_ _ | refine kD_ ?_ | refine kA_ ?_ _));exact BK419.out) hb)
           have n2_ := aM_ (bT_ (by repeat (first | (with_reducible first | exact HB.out | apply bA_ | apply bN_ | apply bD_ | refine bS_ ?_ GE417.out | refine bS_ ?_ GE419.out) | exact HB.out)) hb)
           have n3_ := aM_ (hbox)
           have n4_ := aM_ ((by rw [hg];exact (below_size (by repeat (first | (with_reducible first | exact HB.out | apply bA_ | apply bN_ | apply bD_ | refine bS_ ?_ GE417.out | refine bS_ ?_ GE419.out) | exact HB.out))) : w.heap.size ≤ gb425))
           have n5_ := aM_ ((by rw [hg];exact (below_size (by repeat (first | (with_reducible first | exact HB.out | apply bA_ | apply bN_ | apply bD_ | refine bS_ ?_ GE417.out | refine bS_ ?_ GE419.out) | exact HB.out))) : w.heap.size ≤ gb425))
           have n6_ := aM_ ((by rw [hg];exact Nat.ne_of_lt (blk_lt (g := gb417) (o := .cells #[.int .i64 x418000_1,.int .i64 x418001_1] 34 (0,0)) (by (with_reducible repeat (first | refine kN_ ?_ _ | refine kD_ ?_ | refine kA_ ?_ _));exact BK417.out)) : gb417 ≠ gb425))
           have n7_ := aM_ ((by rw [hg];exact Nat.ne_of_gt (blk_lt (g := gb417) (o := .cells #[.int .i64 x418000_1,.int .i64 x418001_1] 34 (0,0)) (by (with_reducible repeat (first | refine kN_ ?_ _ | refine kD_ ?_ | refine kA_ ?_ _));exact BK417.out)) : gb425 ≠ gb417))
           have n8_ := aM_ ((by rw [hg];exact Nat.ne_of_lt (blk_lt (g := gb419) (o := .cells #[.int .i64 x420000_1,.int .i64 x420001_1] 34 (0,0)) (by (with_reducible repeat (first | refine kN_ ?_ _ | refine kD_ ?_ | refine kA_ ?_ _));exact BK419.out)) : gb419 ≠ gb425))
           have n9_ := aM_ ((by rw [hg];exact Nat.ne_of_gt (blk_lt (g := gb419) (o := .cells #[.int .i64 x420000_1,.int .i64 x420001_1] 34 (0,0)) (by (with_reducible repeat (first | refine kN_ ?_ _ | refine kD_ ?_ | refine kA_ ?_ _));exact BK419.out)) : gb425 ≠ gb419))
           clear BK417
           clear BK419
           clear HB
           have BK417 := n0_
           have BK419 := n1_
           have HB := n2_
           have BK425 := n3_
           have GW425 := n4_
           have GE425 := n5_
           have NB417_425 := n6_
           have NB425_417 := n7_
           have NB419_425 := n8_
           have NB425_419 := n9_
           clear n0_ n1_ n2_ n3_ n4_ n5_ n6_ n7_ n8_ n9_
           clear hb hbox hg
           refine hK.out _ _ ⟨((HB.out.cell (World.block_lt_of_cell? w _ hw420_0)).trans hw420_0),((HB.out.cell (World.block_lt_of_cell? w _ hw420_1)).trans hw420_1),((HB.out.cell (World.block_lt_of_cell? w _ hw421_0)).trans hw421_0),((HB.out.cell (World.block_lt_of_cell? w _ hw421_1)).trans hw421_1)⟩ (fun hHeld => ?_)
           clear hK K
           refine norm_ (a' := ?_) ?_ ?_
           rotate_left
           ·show Act.put _ (some 9) _ = _
            simp only [Act.put,sB_,sZ_,sS_,i64_w,i32_w]
            rfl
           refine one_ (i := 11) (N := some 44) #[true,true,true,true,true,true,true,true,true,true,true,true,false,false,false,true,false,false] rfl rfl (one_of HT_.out (by kernel_rfl)) (by decide) (fun K hK => ?_)
           refine goes_ Try.func22 (by kernel_rfl) rfl #[.slice A0 l0.length c0,.int .i64 ((rd_T70 l1 x8_1).f0),.int .i64 ((rd_T70 l1 x8_1).f1)] (by rfl) rfl rfl (by (try simp only [List.map_toArray,List.map_cons,List.map_nil]);first | done | rfl) ?_
           with_reducible refine (R_True.calls k1 _ _ l0 ((rd_T70 l1 x8_1).f0) ((rd_T70 l1 x8_1).f1) t422 t423 t424 _ ?side1 ?side2 A20.out).mono ?_
           (case side1 => repeat (first | exact (Kd.C_below HR0.out HB.out) | (with_reducible refine Kd.C_alloc ?_ _) | (with_reducible refine Kd.C_drewN ?_ _) | (with_reducible refine Kd.C_drew ?_)))
           (case side2 => exact HC0.out)
           rintro e w37 ⟨rfl,hb⟩
           refine ⟨_,rfl,?_⟩
           have n0_ := aM_ (kB_ (g := gb417) (o := .cells #[.int .i64 x418000_1,.int .i64 x418001_1] 34 (0,0)) (by (with_reducible repeat (first | refine kN_ ?_ _ | refine kD_ ?_ | refine kA_ ?_ _));exact BK417.out) hb)
           have n1_ := aM_ (kB_ (g := gb419) (o := .cells #[.int .i64 x420000_1,.int .i64 x420001_1] 34 (0,0)) (by (with_reducible repeat (first | refine kN_ ?_ _ | refine kD_ ?_ | refine kA_ ?_ _));exact BK419.out) hb)
           have n2_ := aM_ (kB_ (g := gb425) (o := .cells #[.int .i64 0,.int .i64 0] 34 (0,0)) (by (with_reducible repeat (first | refine kN_ ?_ _ | refine kD_ ?_ | refine kA_ ?_ _));exact BK425.out) hb)
           have n3_ := aM_ (bT_ (by repeat (first | (with_reducible first | exact HB.out | apply bA_ | apply bN_ | apply bD_ | refine bS_ ?_ GE417.out | refine bS_ ?_ GE419.out | refine bS_ ?_ GE425.out) | exact HB.out)) hb)
           clear BK417
           clear BK419
           clear BK425
           clear HB
           have BK417 := n0_
           have BK419 := n1_
           have BK425 := n2_
           have HB := n3_
           clear n0_ n1_ n2_ n3_
           (try clear hb)
           (try clear hb2)
           (try clear hk)
           (try clear hi)
           refine hK.out _ _ ⟨((HB.out.cell (World.block_lt_of_cell? w _ hw420_0)).trans hw420_0),((HB.out.cell (World.block_lt_of_cell? w _ hw420_1)).trans hw420_1),((HB.out.cell (World.block_lt_of_cell? w _ hw421_0)).trans hw421_0),((HB.out.cell (World.block_lt_of_cell? w _ hw421_1)).trans hw421_1)⟩ (fun hHeld => ?_)
           clear hK K
           refine norm_ (a' := ?_) ?_ ?_
           rotate_left
           ·show Act.put _ (some 44) _ = _
            simp only [Act.put,sB_,sZ_,sS_,i64_w,i32_w]
            rfl
           refine pure_ (i := 12) (N := some 32) (v := ?_) (a' := ?_) #[true,true,true,true,true,true,true,true,true,true,true,true,true,false,false,true,false,false] rfl rfl (any_of HT_.out (by kernel_rfl)) (fun _ _ _ h => h) (Or.inl ⟨by rfl,?_⟩) ?_ ?_
           rotate_left
           ·intro w'
            go_simp
            with_reducible rfl
           rotate_left
           ·simp only [Act.put,sB_,sZ_,sS_,i64_w,i32_w]
            rfl
           refine pure_ (i := 13) (N := some 45) (v := ?_) (a' := ?_) #[true,true,true,true,true,true,true,true,true,true,true,true,true,true,false,true,false,false] rfl rfl (any_of HT_.out (by kernel_rfl)) (fun _ _ _ h => h) (Or.inl ⟨by rfl,?_⟩) ?_ ?_
           rotate_left
           ·intro w'
            go_simp
            with_reducible rfl
           rotate_left
           ·simp only [Act.put,sB_,sZ_,sS_,i64_w,i32_w]
            rfl
           refine pure_ (i := 14) (N := some 46) (v := ?_) (a' := ?_) #[true,true,true,true,true,true,true,true,true,true,true,true,true,true,true,true,false,false] rfl rfl (any_of HT_.out (by kernel_rfl)) (fun _ _ _ h => h) (Or.inl ⟨by rfl,?_⟩) ?_ ?_
           rotate_left
           ·intro w'
            go_simp
            with_reducible rfl
           rotate_left
           ·simp only [Act.put,sB_,sZ_,sS_,i64_w,i32_w]
            rfl
           exact norm_ (by simp only [putAll,Act.put,sB_,sZ_,sS_]) (hCont (gb425) _ ⟨hHeld,(by (with_reducible repeat (first | refine kN_ ?_ _ | refine kD_ ?_ | refine kA_ ?_ _));exact BK417.out),(by (with_reducible repeat (first | refine kN_ ?_ _ | refine kD_ ?_ | refine kA_ ?_ _));exact BK419.out),(by (with_reducible repeat (first | refine kN_ ?_ _ | refine kD_ ?_ | refine kA_ ?_ _));exact BK425.out),GW425.out,GE425.out,NB417_425.out,NB425_417.out,NB419_425.out,NB425_419.out,(by repeat (first | (with_reducible first | exact HB.out | apply bA_ | apply bN_ | apply bD_ | refine bS_ ?_ GE417.out | refine bS_ ?_ GE419.out | refine bS_ ?_ GE425.out) | exact HB.out))⟩)
         rintro gb425 w38 ⟨hS_,h0_,h1_,h2_,h3_,h4_,h5_,h6_,h7_,h8_,h9_⟩
         have n0_ : Aside0 (w38.heap[gb417]? = some (.cells #[.int .i64 x418000_1,.int .i64 x418001_1] 34 (0,0))) := ⟨h0_⟩
         have n1_ : Aside0 (w38.heap[gb419]? = some (.cells #[.int .i64 x420000_1,.int .i64 x420001_1] 34 (0,0))) := ⟨h1_⟩
         have n2_ : Aside0 (w38.heap[gb425]? = some (.cells #[.int .i64 0,.int .i64 0] 34 (0,0))) := ⟨h2_⟩
         have n3_ : Aside0 (w.heap.size ≤ gb425) := ⟨h3_⟩
         have n4_ : Aside0 (w.heap.size ≤ gb425) := ⟨h4_⟩
         have n5_ : Aside0 (gb417 ≠ gb425) := ⟨h5_⟩
         have n6_ : Aside0 (gb425 ≠ gb417) := ⟨h6_⟩
         have n7_ : Aside0 (gb419 ≠ gb425) := ⟨h7_⟩
         have n8_ : Aside0 (gb425 ≠ gb419) := ⟨h8_⟩
         have n9_ : Aside0 (Below w.heap.size w w38) := ⟨h9_⟩
         clear BK417
         clear BK419
         clear HB
         clear h0_ h1_ h2_ h3_ h4_ h5_ h6_ h7_ h8_ h9_
         have BK417 := n0_
         have BK419 := n1_
         have BK425 := n2_
         have GW425 := n3_
         have GE425 := n4_
         have NB417_425 := n5_
         have NB425_417 := n6_
         have NB419_425 := n7_
         have NB425_419 := n8_
         have HB := n9_
         clear n0_ n1_ n2_ n3_ n4_ n5_ n6_ n7_ n8_ n9_
         have hHeld : w38.cell? (ad420.add ((x8_1).toNat * 2)) = some (.int .i64 ((rd_T70 l1 x8_1).f0)) ∧ w38.cell? ⟨(ad420.add ((x8_1).toNat * 2)).block,(ad420.add ((x8_1).toNat * 2)).off + 1,none⟩ = some (.int .i64 ((rd_T70 l1 x8_1).f1)) ∧ w38.cell? (ad420.add ((x8_1).toNat * 2)) = some (.int .i64 ((rd_T70 l1 x8_1).f0)) ∧ w38.cell? ⟨(ad420.add ((x8_1).toNat * 2)).block,(ad420.add ((x8_1).toNat * 2)).off + 1,none⟩ = some (.int .i64 ((rd_T70 l1 x8_1).f1)) := hS_
         refine norm_ (a' := ?_) ?_ ?_
         rotate_left
         ·simp only [putAll,Act.put,sB_,sZ_,sS_]
          rfl
         refine one_ (i := 16) (N := none) #[true,true,true,true,true,true,true,true,true,true,true,true,true,true,true,true,true,false] rfl rfl (one_of HT_.out (by kernel_rfl)) (by decide) (fun K hK => ?_)
         have hs39 : w38.cell? ⟨gb425,0,none⟩ = some (.int .i64 0) := (blk_cell BK425.out 0).trans rfl
         have hfs39 := blk_frozen BK425.out 0
         have hns39_0 := NB417_425.out
         have hns39_1 := NB419_425.out
         have hms39_0 := NB425_417.out
         have hms39_1 := NB425_419.out
         have hs40 : w38.cell? ⟨gb425,1,none⟩ = some (.int .i64 0) := (blk_cell BK425.out 1).trans rfl
         have hfs40 := blk_frozen BK425.out 1
         have hns40_0 := NB417_425.out
         have hns40_1 := NB419_425.out
         have hms40_0 := NB425_417.out
         have hms40_1 := NB425_419.out
         refine skip_ (w1 := ?_) (by rfl) rfl ?_ ?_
         rotate_left
         ·go_simp
          rfl
         refine hK.out _ _ ⟨((cell_far (p := ⟨gb425,_,none⟩) (by first | exact Nat.ne_of_lt (Nat.lt_of_lt_of_le (by have := World.block_lt_of_cell? _ _ hw420_0;first | rwa [add_block] at this | exact this) GW425.out) | (rw [add_block];exact Nat.ne_of_lt (Nat.lt_of_lt_of_le (by have := World.block_lt_of_cell? _ _ hw420_0;first | rwa [add_block] at this | exact this) GW425.out)) | (show (Addr.add _ _).block ≠ _;rw [add_block];exact Nat.ne_of_lt (Nat.lt_of_lt_of_le (by have := World.block_lt_of_cell? _ _ hw420_0;first | rwa [add_block] at this | exact this) GW425.out)) | (dsimp only;exact Nat.ne_of_lt (Nat.lt_of_lt_of_le (by have := World.block_lt_of_cell? _ _ hw420_0;first | rwa [add_block] at this | exact this) GW425.out))) _).trans (((cell_far (p := ⟨gb425,_,none⟩) (by first | exact Nat.ne_of_lt (Nat.lt_of_lt_of_le (by have := World.block_lt_of_cell? _ _ hw420_0;first | rwa [add_block] at this | exact this) GW425.out) | (rw [add_block];exact Nat.ne_of_lt (Nat.lt_of_lt_of_le (by have := World.block_lt_of_cell? _ _ hw420_0;first | rwa [add_block] at this | exact this) GW425.out)) | (show (Addr.add _ _).block ≠ _;rw [add_block];exact Nat.ne_of_lt (Nat.lt_of_lt_of_le (by have := World.block_lt_of_cell? _ _ hw420_0;first | rwa [add_block] at this | exact this) GW425.out)) | (dsimp only;exact Nat.ne_of_lt (Nat.lt_of_lt_of_le (by have := World.block_lt_of_cell? _ _ hw420_0;first | rwa [add_block] at this | exact this) GW425.out))) _).trans (hHeld.1)))),((cell_far (p := ⟨gb425,_,none⟩) (by first | exact Nat.ne_of_lt (Nat.lt_of_lt_of_le (by have := World.block_lt_of_cell? _ _ hw420_1;first | rwa [add_block] at this | exact this) GW425.out) | (rw [add_block];exact Nat.ne_of_lt (Nat.lt_of_lt_of_le (by have := World.block_lt_of_cell? _ _ hw420_1;first | rwa [add_block] at this | exact this) GW425.out)) | (show (Addr.add _ _).block ≠ _;rw [add_block];exact Nat.ne_of_lt (Nat.lt_of_lt_of_le (by have := World.block_lt_of_cell? _ _ hw420_1;first | rwa [add_block] at this | exact this) GW425.out)) | (dsimp only;exact Nat.ne_of_lt (Nat.lt_of_lt_of_le (by have := World.block_lt_of_cell? _ _ hw420_1;first | rwa [add_block] at this | exact this) GW425.out))) _).trans (((cell_far (p := ⟨gb425,_,none⟩) (by first | exact Nat.ne_of_lt (Nat.lt_of_lt_of_le (by have := World.block_lt_of_cell? _ _ hw420_1;first | rwa [add_block] at this | exact this) GW425.out) | (rw [add_block];exact Nat.ne_of_lt (Nat.lt_of_lt_of_le (by have := World.block_lt_of_cell? _ _ hw420_1;first | rwa [add_block] at this | exact this) GW425.out)) | (show (Addr.add _ _).block ≠ _;rw [add_block];exact Nat.ne_of_lt (Nat.lt_of_lt_of_le (by have := World.block_lt_of_cell? _ _ hw420_1;first | rwa [add_block] at this | exact this) GW425.out)) | (dsimp only;exact Nat.ne_of_lt (Nat.lt_of_lt_of_le (by have := World.block_lt_of_cell? _ _ hw420_1;first | rwa [add_block] at this | exact this) GW425.out))) _).trans (hHeld.2.1)))),((cell_far (p := ⟨gb425,_,none⟩) (by first | exact Nat.ne_of_lt (Nat.lt_of_lt_of_le (by have := World.block_lt_of_cell? _ _ hw421_0;first | rwa [add_block] at this | exact this) GW425.out) | (rw [add_block];exact Nat.ne_of_lt (Nat.lt_of_lt_of_le (by have := World.block_lt_of_cell? _ _ hw421_0;first | rwa [add_block] at this | exact this) GW425.out)) | (show (Addr.add _ _).block ≠ _;rw [add_block];exact Nat.ne_of_lt (Nat.lt_of_lt_of_le (by have := World.block_lt_of_cell? _ _ hw421_0;first | rwa [add_block] at this | exact this) GW425.out)) | (dsimp only;exact Nat.ne_of_lt (Nat.lt_of_lt_of_le (by have := World.block_lt_of_cell? _ _ hw421_0;first | rwa [add_block] at this | exact this) GW425.out))) _).trans (((cell_far (p := ⟨gb425,_,none⟩) (by first | exact Nat.ne_of_lt (Nat.lt_of_lt_of_le (by have := World.block_lt_of_cell? _ _ hw421_0;first | rwa [add_block] at this | exact this) GW425.out) | (rw [add_block];exact Nat.ne_of_lt (Nat.lt_of_lt_of_le (by have := World.block_lt_of_cell? _ _ hw421_0;first | rwa [add_block] at this | exact this) GW425.out)) | (show (Addr.add _ _).block ≠ _;rw [add_block];exact Nat.ne_of_lt (Nat.lt_of_lt_of_le (by have := World.block_lt_of_cell? _ _ hw421_0;first | rwa [add_block] at this | exact this) GW425.out)) | (dsimp only;exact Nat.ne_of_lt (Nat.lt_of_lt_of_le (by have := World.block_lt_of_cell? _ _ hw421_0;first | rwa [add_block] at this | exact this) GW425.out))) _).trans (hHeld.2.2.1)))),((cell_far (p := ⟨gb425,_,none⟩) (by first | exact Nat.ne_of_lt (Nat.lt_of_lt_of_le (by have := World.block_lt_of_cell? _ _ hw421_1;first | rwa [add_block] at this | exact this) GW425.out) | (rw [add_block];exact Nat.ne_of_lt (Nat.lt_of_lt_of_le (by have := World.block_lt_of_cell? _ _ hw421_1;first | rwa [add_block] at this | exact this) GW425.out)) | (show (Addr.add _ _).block ≠ _;rw [add_block];exact Nat.ne_of_lt (Nat.lt_of_lt_of_le (by have := World.block_lt_of_cell? _ _ hw421_1;first | rwa [add_block] at this | exact this) GW425.out)) | (dsimp only;exact Nat.ne_of_lt (Nat.lt_of_lt_of_le (by have := World.block_lt_of_cell? _ _ hw421_1;first | rwa [add_block] at this | exact this) GW425.out))) _).trans (((cell_far (p := ⟨gb425,_,none⟩) (by first | exact Nat.ne_of_lt (Nat.lt_of_lt_of_le (by have := World.block_lt_of_cell? _ _ hw421_1;first | rwa [add_block] at this | exact this) GW425.out) | (rw [add_block];exact Nat.ne_of_lt (Nat.lt_of_lt_of_le (by have := World.block_lt_of_cell? _ _ hw421_1;first | rwa [add_block] at this | exact this) GW425.out)) | (show (Addr.add _ _).block ≠ _;rw [add_block];exact Nat.ne_of_lt (Nat.lt_of_lt_of_le (by have := World.block_lt_of_cell? _ _ hw421_1;first | rwa [add_block] at this | exact this) GW425.out)) | (dsimp only;exact Nat.ne_of_lt (Nat.lt_of_lt_of_le (by have := World.block_lt_of_cell? _ _ hw421_1;first | rwa [add_block] at this | exact this) GW425.out))) _).trans (hHeld.2.2.2))))⟩ (fun hHeld => ?_)
         clear hK K
         refine pure_ (i := 17) (N := some 10) (v := ?_) (a' := ?_) #[true,true,true,true,true,true,true,true,true,true,true,true,true,true,true,true,true,true] rfl rfl (any_of HT_.out (by kernel_rfl)) (fun _ _ _ h => h) (Or.inl ⟨by rfl,?_⟩) ?_ ?_
         rotate_left
         ·intro w'
          go_simp
          with_reducible rfl
         rotate_left
         ·simp only [Act.put,sB_,sZ_,sS_,i64_w,i32_w]
          rfl
         refine done_ (done_of HT_.out (by kernel_rfl)) ?_
         have hnb41 := NB417_419.out
         have hnc41 := NB419_417.out
         have hnb42 := NB417_425.out
         have hnc42 := NB425_417.out
         have hcz43_0 : w38.cell? ⟨gb417,0,none⟩ = some (.int .i64 x418000_1) := (blk_cell BK417.out 0).trans rfl
         have hcz43_1 : w38.cell? ⟨gb417,1,none⟩ = some (.int .i64 x418001_1) := (blk_cell BK417.out 1).trans rfl
         have hfz43_0 := blk_frozen BK417.out 0
         have hfz43_1 := blk_frozen BK417.out 1
         try go_wp2
         refine bodyPost_ret (results_ct rfl _ _ gb417 34 #[.int .i64 0,.int .i64 0] (0,0) _ rfl (by (with_reducible repeat (first | refine kN_ ?_ _ | refine kD_ ?_ | refine kA_ ?_ _));refine blk_put (cs := #[.int .i64 0,.int .i64 x418001_1]) ?_ 1 _ rfl;(with_reducible repeat (first | refine kN_ ?_ _ | refine kD_ ?_ | refine kA_ ?_ _));refine blk_put (cs := #[.int .i64 x418000_1,.int .i64 x418001_1]) ?_ 0 _ rfl;(with_reducible repeat (first | refine kN_ ?_ _ | refine kD_ ?_ | refine kA_ ?_ _));refine blk_far ?_ NB417_425.out _;(with_reducible repeat (first | refine kN_ ?_ _ | refine kD_ ?_ | refine kA_ ?_ _));refine blk_far ?_ NB417_425.out _;(with_reducible repeat (first | refine kN_ ?_ _ | refine kD_ ?_ | refine kA_ ?_ _));exact BK417.out) Try.underlying34 rfl (by kernel_rfl)) rfl ?_
         exact ⟨by first | rfl | (simp [*] <;> rfl),by repeat (first | (with_reducible first | exact HB.out | apply bA_ | apply bN_ | apply bD_ | refine bS_ ?_ GE417.out | refine bS_ ?_ GE419.out | refine bS_ ?_ GE425.out) | exact HB.out)⟩
       ·rw [if_neg c19] at H
        exact absurd H (by simp)
      ·rw [if_neg c18] at H
       have c18b0 : decide (x8_1 < (l1.length : Int)) = false := decide_eq_false c18
       clear c18
       by_cases c44 : x420000_1 > x420001_1
       ·rw [if_pos c44] at H
        have c44b0 : decide (x420001_1 < x420000_1) = true := decide_eq_true c44
        clear c44
        simp only [Option.some.injEq,Prod.mk.injEq] at H
        obtain ⟨rfl,rfl,rfl⟩ := H
        have hnb45 := NB419_417.out
        have hnc45 := NB417_419.out
        have hcz46_0 : wr.cell? ⟨gb419,0,none⟩ = some (.int .i64 x420000_1) := (blk_cell BK419.out 0).trans rfl
        have hcz46_1 : wr.cell? ⟨gb419,1,none⟩ = some (.int .i64 x420001_1) := (blk_cell BK419.out 1).trans rfl
        have hfz46_0 := blk_frozen BK419.out 0
        have hfz46_1 := blk_frozen BK419.out 1
        have hcz47_0 : wr.cell? ⟨gb417,0,none⟩ = some (.int .i64 x418000_1) := (blk_cell BK417.out 0).trans rfl
        have hcz47_1 : wr.cell? ⟨gb417,1,none⟩ = some (.int .i64 x418001_1) := (blk_cell BK417.out 1).trans rfl
        have hfz47_0 := blk_frozen BK417.out 0
        have hfz47_1 := blk_frozen BK417.out 1
        go_wp2
        refine bodyPost_ret (results_ct rfl _ _ gb417 34 #[.int .i64 0,.int .i64 0] (0,0) _ rfl (by (with_reducible repeat (first | refine kN_ ?_ _ | refine kD_ ?_ | refine kA_ ?_ _));refine blk_put (cs := #[.int .i64 0,.int .i64 x418001_1]) ?_ 1 _ rfl;(with_reducible repeat (first | refine kN_ ?_ _ | refine kD_ ?_ | refine kA_ ?_ _));refine blk_put (cs := #[.int .i64 x418000_1,.int .i64 x418001_1]) ?_ 0 _ rfl;(with_reducible repeat (first | refine kN_ ?_ _ | refine kD_ ?_ | refine kA_ ?_ _));exact BK417.out) Try.underlying34 rfl (by kernel_rfl)) rfl ?_
        exact ⟨by first | rfl | (simp [*] <;> rfl),by repeat (first | (with_reducible first | exact HB.out | apply bA_ | apply bN_ | apply bD_ | refine bS_ ?_ GE417.out | refine bS_ ?_ GE419.out) | exact HB.out)⟩
       ·rw [if_neg c44] at H
        have c44b0 : decide (x420001_1 < x420000_1) = false := decide_eq_false c44
        clear c44
        simp only [Option.some.injEq,Prod.mk.injEq] at H
        obtain ⟨rfl,rfl,rfl⟩ := H
        have hnb48 := NB419_417.out
        have hnc48 := NB417_419.out
        have hcz49_0 : wr.cell? ⟨gb419,0,none⟩ = some (.int .i64 x420000_1) := (blk_cell BK419.out 0).trans rfl
        have hcz49_1 : wr.cell? ⟨gb419,1,none⟩ = some (.int .i64 x420001_1) := (blk_cell BK419.out 1).trans rfl
        have hfz49_0 := blk_frozen BK419.out 0
        have hfz49_1 := blk_frozen BK419.out 1
        have hcz50_0 : wr.cell? ⟨gb417,0,none⟩ = some (.int .i64 x418000_1) := (blk_cell BK417.out 0).trans rfl
        have hcz50_1 : wr.cell? ⟨gb417,1,none⟩ = some (.int .i64 x418001_1) := (blk_cell BK417.out 1).trans rfl
        have hfz50_0 := blk_frozen BK417.out 0
        have hfz50_1 := blk_frozen BK417.out 1
        go_wp2
        refine bodyPost_ret (results_ct rfl _ _ gb417 34 #[.int .i64 x420000_1,.int .i64 x420001_1] (0,0) _ rfl (by (with_reducible repeat (first | refine kN_ ?_ _ | refine kD_ ?_ | refine kA_ ?_ _));refine blk_put (cs := #[.int .i64 x420000_1,.int .i64 x418001_1]) ?_ 1 _ rfl;(with_reducible repeat (first | refine kN_ ?_ _ | refine kD_ ?_ | refine kA_ ?_ _));refine blk_put (cs := #[.int .i64 x418000_1,.int .i64 x418001_1]) ?_ 0 _ rfl;(with_reducible repeat (first | refine kN_ ?_ _ | refine kD_ ?_ | refine kA_ ?_ _));exact BK417.out) Try.underlying34 rfl (by kernel_rfl)) rfl ?_
        exact ⟨by first | rfl | (simp [*] <;> rfl),by repeat (first | (with_reducible first | exact HB.out | apply bA_ | apply bN_ | apply bD_ | refine bS_ ?_ GE417.out | refine bS_ ?_ GE419.out) | exact HB.out)⟩
 ·rw [if_neg c4] at H
  have c4b0 : (t418 == 0) = false := beq_eq_false_iff_ne.mpr c4
  have c4b1 : (t418 != 0) = true := bne_iff_ne.mpr c4
  simp only [Option.some.injEq,Prod.mk.injEq] at H
  obtain ⟨rfl,rfl,rfl⟩ := H
  go_enter Try.func46,Try.ntmps46
  go_wp2_with (first | ((with_reducible refine gate_dst (N := 4) rfl ?_);refine box_event ?hg (N := 4) ?hd (cs := #[.int .i64 0,.int .i64 0]) (t := 34) ?hr ?_;(case hd => rfl);(case hg => rfl);(case hr => first | (go_simp;done) | (go_simp;rfl));intro gb417 hg w51 hbox hb;have n0_ := aM_ (bT_ (by repeat (first | (with_reducible first | exact HB.out | apply bA_ | apply bN_ | apply bD_) | exact HB.out)) hb);have n1_ := aM_ (hbox);have n2_ := aM_ ((by rw [hg];exact (below_size (by repeat (first | (with_reducible first | exact HB.out | apply bA_ | apply bN_ | apply bD_) | exact HB.out))) : w.heap.size ≤ gb417));have n3_ := aM_ ((by rw [hg];exact (below_size (by repeat (first | (with_reducible first | exact HB.out | apply bA_ | apply bN_ | apply bD_) | exact HB.out))) : w.heap.size ≤ gb417));clear HB;have HB := n0_;have BK417 := n1_;have GW417 := n2_;have GE417 := n3_;clear n0_ n1_ n2_ n3_;clear hb hbox hg) | ((with_reducible refine gate_callee (f := 37) rfl ?_);refine goesL_ (some 12) rfl rfl Try.func37 (by kernel_rfl) rfl #[.slice A0 l0.length c0] rfl (by (try simp only [List.map_toArray,List.map_cons,List.map_nil]);first | done | rfl) ?_;(with_reducible refine (R_Check.calls k _ _ l0 t418 _ ?side1 ?side2 A3.out).mono ?_);(case side1 => repeat (first | exact (Kd.C_below HR0.out HB.out) | (with_reducible refine Kd.C_alloc ?_ _) | (with_reducible refine Kd.C_drewN ?_ _) | (with_reducible refine Kd.C_drew ?_)));(case side2 => exact HC0.out);rintro e w52 ⟨rfl,hb⟩;refine ⟨_,rfl,?_⟩;have n0_ := aM_ (kB_ (g := gb417) (o := .cells #[.int .i64 0,.int .i64 0] 34 (0,0)) (by (with_reducible repeat (first | refine kN_ ?_ _ | refine kD_ ?_ | refine kA_ ?_ _));exact BK417.out) hb);have n1_ := aM_ (bT_ (by repeat (first | (with_reducible first | exact HB.out | apply bA_ | apply bN_ | apply bD_ | refine bS_ ?_ GE417.out) | exact HB.out)) hb);clear BK417;clear HB;have BK417 := n0_;have HB := n1_;clear n0_ n1_;(try clear hb);(try clear hb2);(try clear hk);(try clear hi);have hcz53_0 : w52.cell? ⟨gb417,0,none⟩ = some (.int .i64 0) := (blk_cell BK417.out 0).trans rfl;have hcz53_1 : w52.cell? ⟨gb417,1,none⟩ = some (.int .i64 0) := (blk_cell BK417.out 1).trans rfl;have hfz53_0 := blk_frozen BK417.out 0;have hfz53_1 := blk_frozen BK417.out 1))
  refine bodyPost_ret (results_ct rfl _ _ gb417 34 #[.int .i64 0,.int .i64 0] (0,0) _ rfl (by (with_reducible repeat (first | refine kN_ ?_ _ | refine kD_ ?_ | refine kA_ ?_ _));refine blk_put (cs := #[.int .i64 0,.int .i64 0]) ?_ 1 _ rfl;(with_reducible repeat (first | refine kN_ ?_ _ | refine kD_ ?_ | refine kA_ ?_ _));refine blk_put (cs := #[.int .i64 0,.int .i64 0]) ?_ 0 _ rfl;(with_reducible repeat (first | refine kN_ ?_ _ | refine kD_ ?_ | refine kA_ ?_ _));exact BK417.out) Try.underlying34 rfl (by kernel_rfl)) rfl ?_
  exact ⟨by first | rfl | (simp [*] <;> rfl),by repeat (first | (with_reducible first | exact HB.out | apply bA_ | apply bN_ | apply bD_ | refine bS_ ?_ GE417.out) | exact HB.out)⟩

end Go.Proofs.Ytdbpobadeibjaaa.GE
