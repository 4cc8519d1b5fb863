-- written for this claim by a program of this session (wip/gp), over the kit's own printer; Lean checks it
import Derived.Test.YtdbpobadeibjaabGEx0
import Derived.Test.YtdbpobadeibjaabGEx5
namespace Go.Proofs.Ytdbpobadeibjaab.GE
open Go.RowKit Go.Proofs.YtdbpobadeibjaabW.PrintWords Go.Proofs.YtdbpobadeibjaabW.PrintLast Go.Proofs.YtdbpobadeibjaabW.PrintMore
attribute [local go_sem] max2_int min2_int max_two min_two max_three min_three max_four min_four
set_option linter.unusedVariables false
set_option linter.unusedSimpArgs false

/-! ### R_chain: function 69 -/
def R_chain.l0 : Nat → List (S49) → Int → List Int → Option (List Int × Bool)
 | 0,_,_,_ => none
 | k + 1,x0,x1,x6 => if x1 ≥ 0 then (if (x6.length : Int) ≤ (x0.length : Int) then (if x6.length < 17592186044416 then (if 0 ≤ x1 then (if x1 < (x0.length : Int) then (R_chain.l0 k x0 ((rd_T49 x0 x1).f3) (x6 ++ [x1])) else (none)) else (none)) else (none)) else (some (x6,decide (x1 < 0)))) else (some (x6,decide (x1 < 0)))
def R_chain.f (k : Nat) (l0 : List (S49)) (a1 : Int) : Option (List Int × Bool) := R_chain.l0 k l0 a1 ([] : List Int)
set_option maxHeartbeats 8000000 in
set_option maxRecDepth 100000 in
theorem R_chain.calls (k : Nat) (A0 : Option Addr) (c0 : Nat) (l0 : List (S49)) (a1 : Int) (r1 : List Int) (r2 : Bool) (w : World) (hr0 : Kd.C k49 w A0 l0.length l0) (hc0 : l0.length ≤ c0) (h : R_chain.f k l0 a1 = some (r1,r2)) :
  Calls Try.prog 69 #[.slice A0 l0.length c0,.int .i64 a1] w fun e w' => ∃ v0_ : Value,e = .returned (.tuple #[v0_,.bool r2]) ∧ Kd.R (Kd.int .i64) 3 w' w.heap.size (fun _ => True) v0_ r1 ∧ Below w.heap.size w w' := by
 have HR0 := aM_ hr0
 have HC0 := aM_ hc0
 clear hr0 hc0
 have HB := aM_ (Below.refl w.heap.size w)
 have H : (R_chain.l0 k l0 a1 ([] : List Int)) = some (r1,r2) := h
 clear h
 have H' := aM_ H
 clear H
 go_enter Try.func69,Try.ntmps69
 go_wp2
 go_loopg [1,6] k (fun kq v1 v6 w' => ∃ (x1_1 : Int) (x6_1 : List Int),v1 = .int .i64 x1_1 ∧ Aside0 (R_chain.l0 kq l0 x1_1 x6_1 = some (r1,r2)) ∧ Aside0 (kq ≤ k) ∧ Aside0 (Kd.R (Kd.int .i64) 3 w' w.heap.size (fun _ => True) v6 x6_1) ∧ Aside0 (Below w.heap.size w w'))
 case atStart => exact ⟨(a1),(([] : List Int)),(by first | rfl | (simp;done) | (simp [*];done)),H',⟨Nat.le_refl _⟩,⟨by first | exact Kd.R_nil _ _ _ _ _ | exact Kd.N_nil _ _ _ _ _ | exact Kd.V_nil _ _ _ _ _ | exact Kd.Q_nil _ _ _ _ _ | exact Kd.S_nil _ _ _ _ _⟩,⟨by repeat (first | (with_reducible first | exact HB.out | apply bA_ | apply bN_ | apply bD_) | exact HB.out)⟩⟩
 case round =>
  clear H'
  try clear p2
  obtain ⟨x1_1,x6_1,rfl,HA,HK1,HO_6,HB⟩ := hrel
  cases gk with
  | zero => exact absurd HA.out (by simp [R_chain.l0])
  | succ k1 =>
   have H := HA.out
   clear HA
   simp only [R_chain.l0] at H
   by_cases c3 : x1_1 ≥ 0
   ·rw [if_pos c3] at H
    have c3b0 : decide (0 ≤ x1_1) = true := decide_eq_true c3
    clear c3
    by_cases c4 : (x6_1.length : Int) ≤ (l0.length : Int)
    ·rw [if_pos c4] at H
     have c4b0 : decide ((x6_1.length : Int) ≤ (l0.length : Int)) = true := decide_eq_true c4
     have c4b1 : decide (x6_1.length ≤ l0.length) = true := decide_eq_true (Int.ofNat_le.mp c4)
     clear c4
     by_cases c5 : x6_1.length < 17592186044416
     ·rw [if_pos c5] at H
      have LMc5 := aM_ c5
      clear c5
      obtain ⟨y110,hy110⟩ : ∃ y_ : List Int,y_ = (x6_1 ++ [x1_1]) := ⟨_,rfl⟩
      replace H : (if 0 ≤ x1_1 then (if x1_1 < (l0.length : Int) then (R_chain.l0 k1 l0 ((rd_T49 l0 x1_1).f3) y110) else (none)) else (none)) = some (r1,r2) := by first | (rw [hy110];with_reducible exact H) | (have H2_ := (Option.bind_some _ _).symm.trans H;rw [hy110];with_reducible exact H2_) | (have H2_ := (Option.bind_some _ _).symm.trans H;with_reducible exact H2_) | with_reducible exact H | (rw [hy110];exact H) | exact H
      have Ny110 := aM_ hy110
      clear hy110
      by_cases c6 : 0 ≤ x1_1
      ·rw [if_pos c6] at H
       have c6b0 : decide (0 ≤ x1_1) = true := decide_eq_true c6
       clear c6
       by_cases c7 : x1_1 < (l0.length : Int)
       ·rw [if_pos c7] at H
        have c7b0 : decide (x1_1 < (l0.length : Int)) = true := decide_eq_true c7
        clear c7
        have H' := aM_ H
        clear H
        obtain ⟨Ao8,co8,eo8⟩ := Kd.R_slice HO_6.out
        subst eo8
        go_wp2_with (first | ((with_reducible refine gate_builtin (b := .append) (xs := #[.tmp 16,.tmp 18]) rfl ?_);at_builtin;refine Kd.R_append (Kd.int .i64) (w0 := w) w.heap.size rfl (.tmp 16) (.tmp 18) 22 3 (.int .i64 0) 8 rfl Try.underlying22 info3 rfl (by decide) (by omega) (.slice Ao8 x6_1.length co8) x6_1 x1_1 [.int .i64 x1_1] (fun _ => True) (fun _ => False) rfl rfl ?aP (fun _ hk => hk.elim) ?aF ?aO ?aB ?aS ?aL ?_;(case aP => exact rfl);(case aB => exact (by repeat (first | (with_reducible first | exact HB.out | apply bA_ | apply bN_ | apply bD_) | exact HB.out)));(case aF => exact (fun _ _ => trivial));(case aO => exact (by (with_reducible repeat (first | apply Kd.R_alloc | apply Kd.R_drewN | apply Kd.R_drew));exact HO_6.out));(case aS => exact (below_size (by repeat (first | (with_reducible first | exact HB.out | apply bA_ | apply bN_ | apply bD_) | exact HB.out))));(case aL => have := LMc5.out;omega);intro v111 w9 ho hb hg hat;rw [← Ny110.out] at ho;have n0_ := aM_ (hb);have n1_ := aM_ (ho);clear HB;clear HO_6;have HB := n0_;have HO112 := n1_;clear n0_ n1_;clear ho hb hg hat;have p113 : 0 ≤ (x1_1 : Int) := of_decide_eq_true (by first | (with_reducible assumption) | assumption);have q113 : x1_1 < (l0.length : Int) := of_decide_eq_true (by first | (with_reducible assumption) | assumption);obtain ⟨ad113,e113,hx113_0,hx113_1,hx113_2,hx113_3,hx113_4,hx113_5,hx113_6⟩ := at_T49 HR0.out x1_1 p113 q113;cases e113;replace hx113_0 := (HB.out.cell (World.block_lt_of_cell? w _ hx113_0)).trans hx113_0;replace hx113_1 := (HB.out.cell (World.block_lt_of_cell? w _ hx113_1)).trans hx113_1;replace hx113_2 := (HB.out.cell (World.block_lt_of_cell? w _ hx113_2)).trans hx113_2;replace hx113_3 := (HB.out.cell (World.block_lt_of_cell? w _ hx113_3)).trans hx113_3;replace hx113_4 := (HB.out.cell (World.block_lt_of_cell? w _ hx113_4)).trans hx113_4;replace hx113_5 := (HB.out.cell (World.block_lt_of_cell? w _ hx113_5)).trans hx113_5;replace hx113_6 := (HB.out.cell (World.block_lt_of_cell? w _ hx113_6)).trans hx113_6;replace p113 := eq_true p113;replace q113 := eq_true q113))
        go_roundg k1
        case measure => have := HK1.out;omega
        case rel => exact ⟨((rd_T49 l0 x1_1).f3),(y110),(by first | rfl | (simp;done) | (simp [*];done)),H',⟨by have := HK1.out;omega⟩,⟨by (with_reducible repeat (first | apply Kd.R_alloc | apply Kd.R_drewN | apply Kd.R_drew));exact HO112.out⟩,⟨by repeat (first | (with_reducible first | exact HB.out | apply bA_ | apply bN_ | apply bD_) | exact HB.out)⟩⟩
       ·rw [if_neg c7] at H
        exact absurd H (by simp)
      ·rw [if_neg c6] at H
       exact absurd H (by simp)
     ·rw [if_neg c5] at H
      exact absurd H (by simp)
    ·rw [if_neg c4] at H
     have c4b0 : decide ((x6_1.length : Int) ≤ (l0.length : Int)) = false := decide_eq_false c4
     have c4b1 : decide (x6_1.length ≤ l0.length) = false := decide_eq_false (fun h => c4 (Int.ofNat_le.mpr h))
     clear c4
     simp only [Option.some.injEq,Prod.mk.injEq] at H
     obtain ⟨rfl,rfl⟩ := H
     obtain ⟨Ao10,co10,eo10⟩ := Kd.R_slice HO_6.out
     subst eo10
     go_wp2
     go_ret2
     exact ⟨_,by first | rfl | (simp [*] <;> rfl),by (with_reducible repeat (first | apply Kd.R_alloc | apply Kd.R_drewN | apply Kd.R_drew));exact HO_6.out,by repeat (first | (with_reducible first | exact HB.out | apply bA_ | apply bN_ | apply bD_) | exact HB.out)⟩
   ·rw [if_neg c3] at H
    have c3b0 : decide (0 ≤ x1_1) = false := decide_eq_false c3
    clear c3
    simp only [Option.some.injEq,Prod.mk.injEq] at H
    obtain ⟨rfl,rfl⟩ := H
    go_wp2
    go_ret2
    exact ⟨_,by first | rfl | (simp [*] <;> rfl),by (with_reducible repeat (first | apply Kd.R_alloc | apply Kd.R_drewN | apply Kd.R_drew));exact HO_6.out,by repeat (first | (with_reducible first | exact HB.out | apply bA_ | apply bN_ | apply bD_) | exact HB.out)⟩

/-! ### R_checkRange: function 93 -/
def R_checkRange.j0 : Nat → Bool → Int → Int → Option (Int)
 | 0,_,_,_ => none
 | k + 1,x18,x115000,x115001 => if x18 = true then (some 2) else (if x115000 > x115001 then (some 11) else (some 0))
def R_checkRange.f (k : Nat) (a0_0 : Int) (a0_1 : Int) (a1 : Int) (a2 : Int) : Option (Int) := (R_beyond.f a0_0 a1 a2).bind fun t115 => (if t115 = true then (R_checkRange.j0 k true a0_0 a0_1) else ((R_beyond.f a0_1 a1 a2).bind fun t116 => (R_checkRange.j0 k t116 a0_0 a0_1)))
set_option maxHeartbeats 8000000 in
set_option maxRecDepth 100000 in
theorem R_checkRange.calls (k : Nat) (a0_0 : Int) (a0_1 : Int) (a1 : Int) (a2 : Int) (r : Int) (w : World) (h : R_checkRange.f k a0_0 a0_1 a1 a2 = some r) :
  Calls Try.prog 93 #[.agg #[.int .i64 a0_0,.int .i64 a0_1],.int .i64 a1,.int .i64 a2] w fun e w' => e = .returned (.int .i64 r) ∧ Below w.heap.size w w' := by
 have hu34 := Try.underlying34
 have HB := aM_ (Below.refl w.heap.size w)
 have H : ((R_beyond.f a0_0 a1 a2).bind fun t115 => (if t115 = true then (R_checkRange.j0 k true a0_0 a0_1) else ((R_beyond.f a0_1 a1 a2).bind fun t116 => (R_checkRange.j0 k t116 a0_0 a0_1)))) = some r := h
 clear h
 have HC4 := aM_ H
 clear H
 go_enter Try.func93,Try.ntmps93
 go_upto_region 1 with (first | ((with_reducible refine gate_dst (N := 3) rfl ?_);refine box_event ?hg (N := 3) ?hd (cs := #[.int .i64 a0_0,.int .i64 a0_1]) (t := 34) ?hr ?_;(case hd => rfl);(case hg => rfl);(case hr => first | (go_simp;done) | (go_simp;rfl));intro gb114 hg w5 hbox hb;have n0_ := aM_ (bT_ (by repeat (first | (with_reducible first | exact HB.out | apply bA_ | apply bN_ | apply bD_) | exact HB.out)) hb);have n1_ := aM_ (hbox);have n2_ := aM_ ((by rw [hg];exact (below_size (by repeat (first | (with_reducible first | exact HB.out | apply bA_ | apply bN_ | apply bD_) | exact HB.out))) : w.heap.size ≤ gb114));have n3_ := aM_ ((by rw [hg];exact (below_size (by repeat (first | (with_reducible first | exact HB.out | apply bA_ | apply bN_ | apply bD_) | exact HB.out))) : w.heap.size ≤ gb114));clear HB;have HB := n0_;have BK114 := n1_;have GW114 := n2_;have GE114 := n3_;clear n0_ n1_ n2_ n3_;clear hb hbox hg))
 (try simp only [Act.put,sB_,sZ_,sS_])
 go_cut [18] (fun v18 wc => ∃ (kq : Nat) (x18_3 : Bool),v18 = .bool x18_3 ∧ Aside0 (R_checkRange.j0 kq x18_3 a0_0 a0_1 = some r) ∧ Aside0 (kq ≤ k) ∧ Aside0 (wc.heap[gb114]? = some (.cells #[.int .i64 a0_0,.int .i64 a0_1] 34 (0,0))) ∧ Aside0 (Below w.heap.size w wc))
 case first =>
  have H := HC4.out
  clear HC4
  replace H := oB_ H
  obtain ⟨t115,A60,H⟩ := H
  replace H : (if t115 = true then (R_checkRange.j0 k true a0_0 a0_1) else ((R_beyond.f a0_1 a1 a2).bind fun t116 => (R_checkRange.j0 k t116 a0_0 a0_1))) = some r := H
  have A6 := aM_ A60
  clear A60
  by_cases c7 : t115 = true
  ·subst c7
   have H1 : (R_checkRange.j0 k true a0_0 a0_1) = some r := by rw [if_pos rfl] at H;exact H
   clear H
   have H := H1
   clear H1
   have H' := aM_ H
   clear H
   have hcz8_0 : w5.cell? ⟨gb114,0,none⟩ = some (.int .i64 a0_0) := (blk_cell BK114.out 0).trans rfl
   have hcz8_1 : w5.cell? ⟨gb114,1,none⟩ = some (.int .i64 a0_1) := (blk_cell BK114.out 1).trans rfl
   have hfz8_0 := blk_frozen BK114.out 0
   have hfz8_1 := blk_frozen BK114.out 1
   go_wp2_with (first | ((with_reducible refine gate_callee (f := 49) rfl ?_);refine goesL_ (some 11) rfl rfl Try.func49 (by kernel_rfl) rfl #[.int .i64 a0_0,.int .i64 a1,.int .i64 a2] rfl (by (try simp only [List.map_toArray,List.map_cons,List.map_nil]);first | done | rfl) ?_;(with_reducible refine (R_beyond.calls a0_0 a1 a2 true _ A6.out).mono ?_);rintro e w' ⟨rfl,⟨nd,rfl⟩⟩;refine ⟨_,rfl,?_⟩))
   go_meet
   case rel => exact ⟨_,(true),(by first | rfl | (simp;done) | (simp [*];done)),H',⟨by first | omega | exact Nat.le_refl _⟩,⟨by (with_reducible repeat (first | refine kN_ ?_ _ | refine kD_ ?_ | refine kA_ ?_ _));exact BK114.out⟩,⟨by repeat (first | (with_reducible first | exact HB.out | apply bA_ | apply bN_ | apply bD_ | refine bS_ ?_ GE114.out) | exact HB.out)⟩⟩
  ·replace c7 := Bool.eq_false_iff.mpr c7
   subst c7
   have H1 : ((R_beyond.f a0_1 a1 a2).bind fun t116 => (R_checkRange.j0 k t116 a0_0 a0_1)) = some r := by rw [if_neg (show ¬ (false = true) by decide)] at H;exact H
   clear H
   have H := H1
   clear H1
   replace H := oB_ H
   obtain ⟨t116,A90,H⟩ := H
   replace H : (R_checkRange.j0 k t116 a0_0 a0_1) = some r := H
   have A9 := aM_ A90
   clear A90
   have H' := aM_ H
   clear H
   have hcz10_0 : w5.cell? ⟨gb114,0,none⟩ = some (.int .i64 a0_0) := (blk_cell BK114.out 0).trans rfl
   have hcz10_1 : w5.cell? ⟨gb114,1,none⟩ = some (.int .i64 a0_1) := (blk_cell BK114.out 1).trans rfl
   have hfz10_0 := blk_frozen BK114.out 0
   have hfz10_1 := blk_frozen BK114.out 1
   go_wp2_with (first | ((with_reducible refine gate_callee (f := 49) rfl ?_);refine goesL_ (some 11) rfl rfl Try.func49 (by kernel_rfl) rfl #[.int .i64 a0_0,.int .i64 a1,.int .i64 a2] rfl (by (try simp only [List.map_toArray,List.map_cons,List.map_nil]);first | done | rfl) ?_;(with_reducible refine (R_beyond.calls a0_0 a1 a2 false _ A6.out).mono ?_);rintro e w' ⟨rfl,⟨nd,rfl⟩⟩;refine ⟨_,rfl,?_⟩) | (go_at_call 49;(with_reducible refine (R_beyond.calls a0_1 a1 a2 t116 _ A9.out).mono ?_);rintro e w' ⟨rfl,⟨nd,rfl⟩⟩))
   go_meet
   case rel => exact ⟨_,(t116),(by first | rfl | (simp;done) | (simp [*];done)),H',⟨by first | omega | exact Nat.le_refl _⟩,⟨by (with_reducible repeat (first | refine kN_ ?_ _ | refine kD_ ?_ | refine kA_ ?_ _));exact BK114.out⟩,⟨by repeat (first | (with_reducible first | exact HB.out | apply bA_ | apply bN_ | apply bD_ | refine bS_ ?_ GE114.out) | exact HB.out)⟩⟩
 case rest =>
  clear HC4
  try clear p2
  try clear c4
  try clear c7
  try clear c9
  try clear hcz10_0
  try clear hcz10_1
  try clear hcz8_0
  try clear hcz8_1
  try clear hfz10_0
  try clear hfz10_1
  try clear hfz8_0
  try clear hfz8_1
  obtain ⟨kq,x18_3,rfl,HA,HJ3,BK114,HB⟩ := hcut
  cases kq with
  | zero => exact absurd HA.out (by simp [R_checkRange.j0])
  | succ kj3 =>
   have H := HA.out
   clear HA
   simp only [R_checkRange.j0] at H
   by_cases c11 : x18_3 = true
   ·subst c11
    have H1 : (some 2) = some r := by rw [if_pos rfl] at H;exact H
    clear H
    have H := H1
    clear H1
    obtain rfl := Option.some.inj H
    go_wp2
    go_ret
    exact ⟨by first | rfl | (simp [*] <;> rfl),by repeat (first | (with_reducible first | exact HB.out | apply bA_ | apply bN_ | apply bD_ | refine bS_ ?_ GE114.out) | exact HB.out)⟩
   ·replace c11 := Bool.eq_false_iff.mpr c11
    subst c11
    have H1 : (if a0_0 > a0_1 then (some 11) else (some 0)) = some r := by rw [if_neg (show ¬ (false = true) by decide)] at H;exact H
    clear H
    have H := H1
    clear H1
    by_cases c12 : a0_0 > a0_1
    ·rw [if_pos c12] at H
     have c12b0 : decide (a0_1 < a0_0) = true := decide_eq_true c12
     clear c12
     obtain rfl := Option.some.inj H
     have hcz13_0 : wc.cell? ⟨gb114,0,none⟩ = some (.int .i64 a0_0) := (blk_cell BK114.out 0).trans rfl
     have hcz13_1 : wc.cell? ⟨gb114,1,none⟩ = some (.int .i64 a0_1) := (blk_cell BK114.out 1).trans rfl
     have hfz13_0 := blk_frozen BK114.out 0
     have hfz13_1 := blk_frozen BK114.out 1
     go_wp2
     go_ret
     exact ⟨by first | rfl | (simp [*] <;> rfl),by repeat (first | (with_reducible first | exact HB.out | apply bA_ | apply bN_ | apply bD_ | refine bS_ ?_ GE114.out) | exact HB.out)⟩
    ·rw [if_neg c12] at H
     have c12b0 : decide (a0_1 < a0_0) = false := decide_eq_false c12
     clear c12
     obtain rfl := Option.some.inj H
     have hcz14_0 : wc.cell? ⟨gb114,0,none⟩ = some (.int .i64 a0_0) := (blk_cell BK114.out 0).trans rfl
     have hcz14_1 : wc.cell? ⟨gb114,1,none⟩ = some (.int .i64 a0_1) := (blk_cell BK114.out 1).trans rfl
     have hfz14_0 := blk_frozen BK114.out 0
     have hfz14_1 := blk_frozen BK114.out 1
     go_wp2
     go_ret
     exact ⟨by first | rfl | (simp [*] <;> rfl),by repeat (first | (with_reducible first | exact HB.out | apply bA_ | apply bN_ | apply bD_ | refine bS_ ?_ GE114.out) | exact HB.out)⟩

/-! ### R_checkMaking: function 81 -/
def R_checkMaking.f (k : Nat) (a0_0 : Int) (a0_1 : Int) (a0_2 : Int) (a0_3 : Int) (a0_4 : Int) (a0_5 : Int) (a0_6 : Int) : Option (Int) := (R_checkRange.f k a0_0 a0_1 500000 2000000).bind fun t118 => (if t118 = 0 then ((R_checkRange.f k a0_2 a0_3 (-1000000) 1000000).bind fun t119 => (some t119)) else (some t118))
set_option maxHeartbeats 8000000 in
set_option maxRecDepth 100000 in
theorem R_checkMaking.calls (k : Nat) (a0_0 : Int) (a0_1 : Int) (a0_2 : Int) (a0_3 : Int) (a0_4 : Int) (a0_5 : Int) (a0_6 : Int) (r : Int) (w : World) (h : R_checkMaking.f k a0_0 a0_1 a0_2 a0_3 a0_4 a0_5 a0_6 = some r) :
  Calls Try.prog 81 #[.agg #[.int .i64 a0_0,.int .i64 a0_1,.int .i64 a0_2,.int .i64 a0_3,.int .i64 a0_4,.int .i64 a0_5,.int .i64 a0_6]] w fun e w' => e = .returned (.int .i64 r) ∧ Below w.heap.size w w' := by
 have hu49 := Try.underlying49
 have hu34 := Try.underlying34
 have HB := aM_ (Below.refl w.heap.size w)
 have H : ((R_checkRange.f k a0_0 a0_1 500000 2000000).bind fun t118 => (if t118 = 0 then ((R_checkRange.f k a0_2 a0_3 (-1000000) 1000000).bind fun t119 => (some t119)) else (some t118))) = some r := h
 clear h
 replace H := oB_ H
 obtain ⟨t118,A20,H⟩ := H
 replace H : (if t118 = 0 then ((R_checkRange.f k a0_2 a0_3 (-1000000) 1000000).bind fun t119 => (some t119)) else (some t118)) = some r := H
 have A2 := aM_ A20
 clear A20
 by_cases c3 : t118 = 0
 ·rw [if_pos c3] at H
  have c3b0 : (t118 == 0) = true := beq_iff_eq.mpr c3
  have c3b1 : (t118 != 0) = false := bne_eq_false_iff_eq.mpr c3
  clear c3
  replace H := oB_ H
  obtain ⟨t119,A40,H⟩ := H
  replace H : (some t119) = some r := H
  have A4 := aM_ A40
  clear A40
  obtain rfl := Option.some.inj H
  go_enter Try.func81,Try.ntmps81
  go_wp2_with (first | ((with_reducible refine gate_dst (N := 1) rfl ?_);refine box_event ?hg (N := 1) ?hd (cs := #[.int .i64 a0_0,.int .i64 a0_1,.int .i64 a0_2,.int .i64 a0_3,.int .i64 a0_4,.int .i64 a0_5,.int .i64 a0_6]) (t := 49) ?hr ?_;(case hd => rfl);(case hg => rfl);(case hr => first | (go_simp;done) | (go_simp;rfl));intro gb117 hg w5 hbox hb;have n0_ := aM_ (bT_ (by repeat (first | (with_reducible first | exact HB.out | apply bA_ | apply bN_ | apply bD_) | exact HB.out)) hb);have n1_ := aM_ (hbox);have n2_ := aM_ ((by rw [hg];exact (below_size (by repeat (first | (with_reducible first | exact HB.out | apply bA_ | apply bN_ | apply bD_) | exact HB.out))) : w.heap.size ≤ gb117));have n3_ := aM_ ((by rw [hg];exact (below_size (by repeat (first | (with_reducible first | exact HB.out | apply bA_ | apply bN_ | apply bD_) | exact HB.out))) : w.heap.size ≤ gb117));clear HB;have HB := n0_;have BK117 := n1_;have GW117 := n2_;have GE117 := n3_;clear n0_ n1_ n2_ n3_;clear hb hbox hg;have hcz6_0 : w5.cell? ⟨gb117,0,none⟩ = some (.int .i64 a0_0) := (blk_cell BK117.out 0).trans rfl;have hcz6_1 : w5.cell? ⟨gb117,1,none⟩ = some (.int .i64 a0_1) := (blk_cell BK117.out 1).trans rfl;have hcz6_2 : w5.cell? ⟨gb117,2,none⟩ = some (.int .i64 a0_2) := (blk_cell BK117.out 2).trans rfl;have hcz6_3 : w5.cell? ⟨gb117,3,none⟩ = some (.int .i64 a0_3) := (blk_cell BK117.out 3).trans rfl;have hcz6_4 : w5.cell? ⟨gb117,4,none⟩ = some (.int .i64 a0_4) := (blk_cell BK117.out 4).trans rfl;have hcz6_5 : w5.cell? ⟨gb117,5,none⟩ = some (.int .i64 a0_5) := (blk_cell BK117.out 5).trans rfl;have hcz6_6 : w5.cell? ⟨gb117,6,none⟩ = some (.int .i64 a0_6) := (blk_cell BK117.out 6).trans rfl;have hfz6_0 := blk_frozen BK117.out 0;have hfz6_1 := blk_frozen BK117.out 1;have hfz6_2 := blk_frozen BK117.out 2;have hfz6_3 := blk_frozen BK117.out 3;have hfz6_4 := blk_frozen BK117.out 4;have hfz6_5 := blk_frozen BK117.out 5;have hfz6_6 := blk_frozen BK117.out 6) | ((with_reducible refine gate_callee (f := 93) rfl ?_);refine goesL_ (some 6) rfl rfl Try.func93 (by kernel_rfl) rfl #[.agg #[.int .i64 a0_0,.int .i64 a0_1],.int .i64 500000,.int .i64 2000000] rfl (by (try simp only [List.map_toArray,List.map_cons,List.map_nil]);first | done | rfl) ?_;(with_reducible refine (R_checkRange.calls k a0_0 a0_1 500000 2000000 t118 _ A2.out).mono ?_);rintro e w7 ⟨rfl,hb⟩;refine ⟨_,rfl,?_⟩;have n0_ := aM_ (kB_ (g := gb117) (o := .cells #[.int .i64 a0_0,.int .i64 a0_1,.int .i64 a0_2,.int .i64 a0_3,.int .i64 a0_4,.int .i64 a0_5,.int .i64 a0_6] 49 (0,0)) (by (with_reducible repeat (first | refine kN_ ?_ _ | refine kD_ ?_ | refine kA_ ?_ _));exact BK117.out) hb);have n1_ := aM_ (bT_ (by repeat (first | (with_reducible first | exact HB.out | apply bA_ | apply bN_ | apply bD_ | refine bS_ ?_ GE117.out) | exact HB.out)) hb);clear BK117;clear HB;have BK117 := n0_;have HB := n1_;clear n0_ n1_;(try clear hb);(try clear hb2);(try clear hk);(try clear hi);have hcz8_0 : w7.cell? ⟨gb117,0,none⟩ = some (.int .i64 a0_0) := (blk_cell BK117.out 0).trans rfl;have hcz8_1 : w7.cell? ⟨gb117,1,none⟩ = some (.int .i64 a0_1) := (blk_cell BK117.out 1).trans rfl;have hcz8_2 : w7.cell? ⟨gb117,2,none⟩ = some (.int .i64 a0_2) := (blk_cell BK117.out 2).trans rfl;have hcz8_3 : w7.cell? ⟨gb117,3,none⟩ = some (.int .i64 a0_3) := (blk_cell BK117.out 3).trans rfl;have hcz8_4 : w7.cell? ⟨gb117,4,none⟩ = some (.int .i64 a0_4) := (blk_cell BK117.out 4).trans rfl;have hcz8_5 : w7.cell? ⟨gb117,5,none⟩ = some (.int .i64 a0_5) := (blk_cell BK117.out 5).trans rfl;have hcz8_6 : w7.cell? ⟨gb117,6,none⟩ = some (.int .i64 a0_6) := (blk_cell BK117.out 6).trans rfl;have hfz8_0 := blk_frozen BK117.out 0;have hfz8_1 := blk_frozen BK117.out 1;have hfz8_2 := blk_frozen BK117.out 2;have hfz8_3 := blk_frozen BK117.out 3;have hfz8_4 := blk_frozen BK117.out 4;have hfz8_5 := blk_frozen BK117.out 5;have hfz8_6 := blk_frozen BK117.out 6) | ((with_reducible refine gate_callee (f := 93) rfl ?_);refine goesL_ (some 12) rfl rfl Try.func93 (by kernel_rfl) rfl #[.agg #[.int .i64 a0_2,.int .i64 a0_3],.int .i64 (-1000000),.int .i64 1000000] rfl (by (try simp only [List.map_toArray,List.map_cons,List.map_nil]);first | done | rfl) ?_;(with_reducible refine (R_checkRange.calls k a0_2 a0_3 (-1000000) 1000000 t119 _ A4.out).mono ?_);rintro e w9 ⟨rfl,hb⟩;refine ⟨_,rfl,?_⟩;have n0_ := aM_ (kB_ (g := gb117) (o := .cells #[.int .i64 a0_0,.int .i64 a0_1,.int .i64 a0_2,.int .i64 a0_3,.int .i64 a0_4,.int .i64 a0_5,.int .i64 a0_6] 49 (0,0)) (by (with_reducible repeat (first | refine kN_ ?_ _ | refine kD_ ?_ | refine kA_ ?_ _));exact BK117.out) hb);have n1_ := aM_ (bT_ (by repeat (first | (with_reducible first | exact HB.out | apply bA_ | apply bN_ | apply bD_ | refine bS_ ?_ GE117.out) | exact HB.out)) hb);clear BK117;clear HB;have BK117 := n0_;have HB := n1_;clear n0_ n1_;(try clear hb);(try clear hb2);(try clear hk);(try clear hi)))
  go_ret
  exact ⟨by first | rfl | (simp [*] <;> rfl),by repeat (first | (with_reducible first | exact HB.out | apply bA_ | apply bN_ | apply bD_ | refine bS_ ?_ GE117.out) | exact HB.out)⟩
 ·rw [if_neg c3] at H
  have c3b0 : (t118 == 0) = false := beq_eq_false_iff_ne.mpr c3
  have c3b1 : (t118 != 0) = true := bne_iff_ne.mpr c3
  obtain rfl := Option.some.inj H
  go_enter Try.func81,Try.ntmps81
  go_wp2_with (first | ((with_reducible refine gate_dst (N := 1) rfl ?_);refine box_event ?hg (N := 1) ?hd (cs := #[.int .i64 a0_0,.int .i64 a0_1,.int .i64 a0_2,.int .i64 a0_3,.int .i64 a0_4,.int .i64 a0_5,.int .i64 a0_6]) (t := 49) ?hr ?_;(case hd => rfl);(case hg => rfl);(case hr => first | (go_simp;done) | (go_simp;rfl));intro gb117 hg w10 hbox hb;have n0_ := aM_ (bT_ (by repeat (first | (with_reducible first | exact HB.out | apply bA_ | apply bN_ | apply bD_) | exact HB.out)) hb);have n1_ := aM_ (hbox);have n2_ := aM_ ((by rw [hg];exact (below_size (by repeat (first | (with_reducible first | exact HB.out | apply bA_ | apply bN_ | apply bD_) | exact HB.out))) : w.heap.size ≤ gb117));have n3_ := aM_ ((by rw [hg];exact (below_size (by repeat (first | (with_reducible first | exact HB.out | apply bA_ | apply bN_ | apply bD_) | exact HB.out))) : w.heap.size ≤ gb117));clear HB;have HB := n0_;have BK117 := n1_;have GW117 := n2_;have GE117 := n3_;clear n0_ n1_ n2_ n3_;clear hb hbox hg;have hcz11_0 : w10.cell? ⟨gb117,0,none⟩ = some (.int .i64 a0_0) := (blk_cell BK117.out 0).trans rfl;have hcz11_1 : w10.cell? ⟨gb117,1,none⟩ = some (.int .i64 a0_1) := (blk_cell BK117.out 1).trans rfl;have hcz11_2 : w10.cell? ⟨gb117,2,none⟩ = some (.int .i64 a0_2) := (blk_cell BK117.out 2).trans rfl;have hcz11_3 : w10.cell? ⟨gb117,3,none⟩ = some (.int .i64 a0_3) := (blk_cell BK117.out 3).trans rfl;have hcz11_4 : w10.cell? ⟨gb117,4,none⟩ = some (.int .i64 a0_4) := (blk_cell BK117.out 4).trans rfl;have hcz11_5 : w10.cell? ⟨gb117,5,none⟩ = some (.int .i64 a0_5) := (blk_cell BK117.out 5).trans rfl;have hcz11_6 : w10.cell? ⟨gb117,6,none⟩ = some (.int .i64 a0_6) := (blk_cell BK117.out 6).trans rfl;have hfz11_0 := blk_frozen BK117.out 0;have hfz11_1 := blk_frozen BK117.out 1;have hfz11_2 := blk_frozen BK117.out 2;have hfz11_3 := blk_frozen BK117.out 3;have hfz11_4 := blk_frozen BK117.out 4;have hfz11_5 := blk_frozen BK117.out 5;have hfz11_6 := blk_frozen BK117.out 6) | ((with_reducible refine gate_callee (f := 93) rfl ?_);refine goesL_ (some 6) rfl rfl Try.func93 (by kernel_rfl) rfl #[.agg #[.int .i64 a0_0,.int .i64 a0_1],.int .i64 500000,.int .i64 2000000] rfl (by (try simp only [List.map_toArray,List.map_cons,List.map_nil]);first | done | rfl) ?_;(with_reducible refine (R_checkRange.calls k a0_0 a0_1 500000 2000000 t118 _ A2.out).mono ?_);rintro e w12 ⟨rfl,hb⟩;refine ⟨_,rfl,?_⟩;have n0_ := aM_ (kB_ (g := gb117) (o := .cells #[.int .i64 a0_0,.int .i64 a0_1,.int .i64 a0_2,.int .i64 a0_3,.int .i64 a0_4,.int .i64 a0_5,.int .i64 a0_6] 49 (0,0)) (by (with_reducible repeat (first | refine kN_ ?_ _ | refine kD_ ?_ | refine kA_ ?_ _));exact BK117.out) hb);have n1_ := aM_ (bT_ (by repeat (first | (with_reducible first | exact HB.out | apply bA_ | apply bN_ | apply bD_ | refine bS_ ?_ GE117.out) | exact HB.out)) hb);clear BK117;clear HB;have BK117 := n0_;have HB := n1_;clear n0_ n1_;(try clear hb);(try clear hb2);(try clear hk);(try clear hi)))
  go_ret
  exact ⟨by first | rfl | (simp [*] <;> rfl),by repeat (first | (with_reducible first | exact HB.out | apply bA_ | apply bN_ | apply bD_ | refine bS_ ?_ GE117.out) | exact HB.out)⟩

end Go.Proofs.Ytdbpobadeibjaab.GE
