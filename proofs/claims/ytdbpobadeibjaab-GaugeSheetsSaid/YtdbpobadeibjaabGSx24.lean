-- written for this claim by a program of this session (wip/gp), over the kit's own printer; Lean checks it
import Derived.Test.YtdbpobadeibjaabGSx0
import Derived.Test.YtdbpobadeibjaabGSx8
import Derived.Test.YtdbpobadeibjaabGSx9
import Derived.Test.YtdbpobadeibjaabGSx10
import Derived.Test.YtdbpobadeibjaabGSx11
import Derived.Test.YtdbpobadeibjaabGSx12
import Derived.Test.YtdbpobadeibjaabGSx22
import Derived.Test.YtdbpobadeibjaabGSx23
namespace Go.Proofs.Ytdbpobadeibjaab.GS
open Go.RowKit Go.Proofs.YtdbpobadeibjaabW.PrintWords Go.Proofs.YtdbpobadeibjaabW.PrintLast Go.Proofs.YtdbpobadeibjaabW.PrintMore
attribute [local go_sem] max2_int min2_int max_two min_two max_three min_three max_four min_four
set_option linter.unusedVariables false
set_option linter.unusedSimpArgs false

--HAND
/-! ### gauge.Sheet,by hand: function 27 -/
def sheetT (k : Nat) (l0 : List S49) (tick : Int) (l2 : List S34) (l3 : List (List S32)) (i : Nat) : Option (Int × Int) := gauge_test.f k l0 tick (rd_T34 l2 i).f0 (rd_T34 l2 i).f1 (rd_L8 l3 i)
def gauge_Sheet.f (k : Nat) (l0 : List (S49)) (a1 : Int) (l2 : List (S34)) (l3 : List (List (S32))) : Option (Int × Int × Int) :=
 if checkP l0 ≠ 0 then some (0,0,checkP l0) else if a1 < 0 ∨ a1 > 1000000000 then some (0,0,2) else if l2.length > 20 then some (0,0,8) else if l3.length ≠ l2.length then some (0,0,3) else worstGo (sheetT k l0 a1 l2 l3) l2.length 0 1 (-1)
structure SheetAt (A0 : Option Addr) (c0 : Nat) (l0 : List S49) (tick : Int) (A3 : Option Addr) (c3 : Nat) (l3 : List (List S32)) (b4 b5 b7 b12 : Nat) (w0 : World) (i : Nat) (W : World) : Prop where
 c4 : W.heap[b4]? = some (.cells #[.slice A0 l0.length c0] 25 (0,0))
 c5 : W.heap[b5]? = some (.cells #[.int .i64 tick] 3 (0,0))
 c7 : W.heap[b7]? = some (.cells #[.slice A3 l3.length c3] 51 (0,0))
 c12 : W.heap[b12]? = some (.cells #[.int .i64 ((i : Int) - 1)] 3 (0,0))
 bw : Below w0.heap.size w0 W
theorem SheetAt.below {A0 : Option Addr} {c0 : Nat} {l0 : List S49} {tick : Int} {A3 : Option Addr} {c3 : Nat} {l3 : List (List S32)} {b4 b5 b7 b12 : Nat} {w0 : World} {i : Nat} {W W' : World} (h : SheetAt A0 c0 l0 tick A3 c3 l3 b4 b5 b7 b12 w0 i W) (hb : Below W.heap.size W W') : SheetAt A0 c0 l0 tick A3 c3 l3 b4 b5 b7 b12 w0 i W' :=
 ⟨kB_ h.c4 hb,kB_ h.c5 hb,kB_ h.c7 hb,kB_ h.c12 hb,bT_ h.bw hb⟩
set_option maxHeartbeats 8000000 in
set_option maxRecDepth 1000000 in
theorem gauge_Sheet_1.calls (k : Nat) (A0 : Option Addr) (c0 : Nat) (l0 : List S49) (tick : Int) (A3 : Option Addr) (c3 : Nat) (l3 : List (List S32)) (b4 b5 b7 b12 : Nat) (w0 : World) (i : Nat) (x0 x1 v e : Int) (W : World)
  (hr0 : Kd.C k49 w0 A0 l0.length l0) (hc0 : l0.length ≤ c0) (hr3 : Kd.C (Kd.slice 32 k32) w0 A3 l3.length l3) (h4 : b4 ≠ b12) (h5 : b5 ≠ b12) (h7 : b7 ≠ b12) (h12 : w0.heap.size ≤ b12) (hi : i < l3.length) (hn : i ≤ 1000000000)
  (hS : SheetAt A0 c0 l0 tick A3 c3 l3 b4 b5 b7 b12 w0 i W) (h : gauge_test.f k l0 tick x0 x1 (rd_L8 l3 i) = some (v,e)) :
  Calls Try.prog 58 (#[.agg #[.int .i64 x0,.int .i64 x1]] ++ #[.pointer (some ⟨b12,0,none⟩),.pointer (some ⟨b4,0,none⟩),.pointer (some ⟨b5,0,none⟩),.pointer (some ⟨b7,0,none⟩)]) W
   fun e' W' => e' = .returned (.tuple #[.int .i64 v,.int .i64 e]) ∧ SheetAt A0 c0 l0 tick A3 c3 l3 b4 b5 b7 b12 w0 (i + 1) W' := by
 have hu34 := Try.underlying34
 obtain ⟨W2,hW2⟩ : ∃ W2,(W.setCell ⟨b12,0,none⟩ (.int .i64 (i : Int))).alloc (.cells #[.int .i64 x0,.int .i64 x1] 34) = W2 := ⟨_,rfl⟩
 have l12 := blk_lt hS.c12
 have bw2 : Below w0.heap.size w0 W2 := by rw [← hW2];exact bA_ (bS_ hS.bw h12) _
 have c4 : W2.heap[b4]? = some (.cells #[.slice A0 l0.length c0] 25 (0,0)) := by rw [← hW2];exact kA_ (blk_far hS.c4 h4 _) _
 have c5 : W2.heap[b5]? = some (.cells #[.int .i64 tick] 3 (0,0)) := by rw [← hW2];exact kA_ (blk_far hS.c5 h5 _) _
 have c7 : W2.heap[b7]? = some (.cells #[.slice A3 l3.length c3] 51 (0,0)) := by rw [← hW2];exact kA_ (blk_far hS.c7 h7 _) _
 have c12 : W2.heap[b12]? = some (.cells #[.int .i64 (i : Int)] 3 (0,0)) := by rw [← hW2];exact kA_ (blk_put hS.c12 0 _ rfl) _
 have cr : W2.heap[W.heap.size]? = some (.cells #[.int .i64 x0,.int .i64 x1] 34 (0,0)) := by rw [← hW2];have := blk_new (W.setCell ⟨b12,0,none⟩ (.int .i64 (i : Int))) (.cells #[.int .i64 x0,.int .i64 x1] 34);rwa [show (W.setCell ⟨b12,0,none⟩ (.int .i64 (i : Int))).heap.size = W.heap.size from by simp [World.setCell]] at this
 obtain ⟨ad,A,c,hA3,hx,hl,hC⟩ := at_L8 (Kd.C_below hr3 bw2) (i : Int) (by omega) (by omega)
 rw [Int.toNat_natCast] at hx
 have HT := aM_ (gauge_test.calls k A0 c0 l0 tick x0 x1 A c (rd_L8 l3 i) v e W2.drew (Kd.C_below (Kd.C_below hr0 bw2) (bD_ (Below.refl _ _))) hc0 (Kd.C_below hC (bD_ (Below.refl _ _))) hl h)
 subst hA3
 have KS := aM_ (show ∀ W' : World,Below W2.heap.size W2 W' → (fun (W' : World) => W'.cell? ⟨b4,0,none⟩ = some (.slice A0 l0.length c0) ∧ W'.cell? ⟨b5,0,none⟩ = some (.int .i64 tick) ∧ W'.cell? ⟨W.heap.size,0,none⟩ = some (.int .i64 x0) ∧ W'.cell? ⟨W.heap.size,1,none⟩ = some (.int .i64 x1) ∧ W'.cell? ⟨b7,0,none⟩ = some (.slice (some ad) l3.length c3) ∧ W'.cell? ⟨b12,0,none⟩ = some (.int .i64 (i : Int)) ∧ W'.cell? (ad.add i) = some (.slice A (rd_L8 l3 i).length c)) W' from fun W' hB =>
  ⟨(blk_cell (kB_ c4 hB) 0).trans rfl,(blk_cell (kB_ c5 hB) 0).trans rfl,(blk_cell (kB_ cr hB) 0).trans rfl,(blk_cell (kB_ cr hB) 1).trans rfl,(blk_cell (kB_ c7 hB) 0).trans rfl,(blk_cell (kB_ c12 hB) 0).trans rfl,pw_cell_below hB hx⟩)
 have HS2 := aM_ (show SheetAt A0 c0 l0 tick (some ad) c3 l3 b4 b5 b7 b12 w0 (i + 1) W2 from ⟨c4,c5,c7,by rw [c12];congr 4;simp,bw2⟩)
 have HB0 := aM_ (bD_ (Below.refl W2.heap.size W2))
 have q12 : W.cell? ⟨b12,0,none⟩ = some (.int .i64 ((i : Int) - 1)) := (blk_cell hS.c12 0).trans rfl
 have f12 := blk_frozen hS.c12 0
 have b1 : (i : Int) < (l3.length : Int) := by omega
 have b2 : (W.heap.size = b12) = False := by simp;omega
 have e1 : IntKind.i64.wrap ((i : Int) - 1 + 1) = (i : Int) := by rw [show (i : Int) - 1 + 1 = i by omega];exact IntWalk.i64_in _ (by omega)
 have e2 : wrap64 (i : Int) = (i : Int) := wrap64_eq (by omega)
 have HW2 := aM_ hW2
 generalize (rd_L8 l3 i).length = nn at *
 clear bw2 c4 c5 c7 c12 cr hx hl hC hr3 hr0 h hS hW2
 go_enter Try.func58,Try.ntmps58
 go_wp2_with (fail)
 rw [HW2.out]
 clear q12 f12 e1 e2 HW2
 go_region_held (fun (W' : World) => W'.cell? ⟨b4,0,none⟩ = some (.slice A0 l0.length c0) ∧ W'.cell? ⟨b5,0,none⟩ = some (.int .i64 tick) ∧ W'.cell? ⟨W.heap.size,0,none⟩ = some (.int .i64 x0) ∧ W'.cell? ⟨W.heap.size,1,none⟩ = some (.int .i64 x1) ∧ W'.cell? ⟨b7,0,none⟩ = some (.slice (some ad) l3.length c3) ∧ W'.cell? ⟨b12,0,none⟩ = some (.int .i64 (i : Int)) ∧ W'.cell? (ad.add i) = some (.slice A nn c)) (first | exact KS.out _ HB1.out | exact KS.out _ HB0.out) (first | (go_at_call 59;(with_reducible refine HT.out.mono ?_);rintro e w' ⟨rfl,hb⟩;have HB1 := aM_ (bT_ HB0.out hb);clear hb))
 all_goals (go_wp2;go_ret2)
 all_goals exact ⟨rfl,HS2.out.below HB1.out⟩
theorem boxes3_new (w : World) (o0 o1 o2 : Obj) : ∃ W,((w.alloc o0).alloc o1).alloc o2 = W ∧ Below w.heap.size w W ∧ W.heap.size = w.heap.size + 1 + 1 + 1 ∧ W.heap[w.heap.size]? = some o0 ∧ W.heap[w.heap.size + 1]? = some o1 ∧ W.heap[w.heap.size + 1 + 1]? = some o2 := by
 refine ⟨_,rfl,bA_ (bA_ (bA_ (Below.refl _ _) _) _) _,by simp,kA_ (kA_ (blk_new w _) _) _,?_,?_⟩
 ·have := kA_ (blk_new (w.alloc o0) o1) o2;simpa only [World.size_alloc] using this
 ·have := blk_new ((w.alloc o0).alloc o1) o2;simpa only [World.size_alloc] using this
set_option maxHeartbeats 8000000 in
set_option maxRecDepth 1000000 in
theorem gauge_Sheet.calls (k : Nat) (A0 : Option Addr) (c0 : Nat) (l0 : List (S49)) (a1 : Int) (A2 : Option Addr) (c2 : Nat) (l2 : List (S34)) (A3 : Option Addr) (c3 : Nat) (l3 : List (List (S32))) (r1 : Int) (r2 : Int) (r3 : Int) (w : World) (hr0 : Kd.C k49 w A0 l0.length l0) (hc0 : l0.length ≤ c0) (hr2 : Kd.C k34 w A2 l2.length l2) (hc2 : l2.length ≤ c2) (hr3 : Kd.C (Kd.slice 32 k32) w A3 l3.length l3) (hc3 : l3.length ≤ c3) (h : gauge_Sheet.f k l0 a1 l2 l3 = some (r1,r2,r3)) :
  Calls Try.prog 27 #[.slice A0 l0.length c0,.int .i64 a1,.slice A2 l2.length c2,.slice A3 l3.length c3] w fun e w' => e = .returned (.tuple #[.int .i64 r1,.int .i64 r2,.int .i64 r3]) ∧ Below w.heap.size w w' := by
 have HR0 := aM_ hr0
 have HR2 := aM_ hr2
 have HR3 := aM_ hr3
 clear hr0 hr2 hr3
 have HCK : Aside0 (gauge_Check.f l0 = some (checkP l0)) := ⟨rfl⟩
 obtain ⟨W0,hW,bw,hsz,f4,f5,f7⟩ := boxes3_new w (.cells #[.slice A0 l0.length c0] 25) (.cells #[.int .i64 a1] 3) (.cells #[.slice A3 l3.length c3] 51)
 have HW := aM_ hW
 have BW := aM_ bw
 have HSZ := aM_ hsz
 have F4 := aM_ f4
 have F5 := aM_ f5
 have F7 := aM_ f7
 have q4 := (blk_cell f4 0).trans rfl
 clear hW bw hsz f4 f5 f7
 unfold gauge_Sheet.f at h
 have H := aM_ h
 clear h
 generalize hck : checkP l0 = ck at HCK H
 go_enter Try.func27,Try.ntmps27
 go_wp2_with (fail)
 rw [HW.out]
 clear HW
 (with_reducible refine (gauge_Check.calls A0 c0 l0 ck W0 (Kd.C_below HR0.out BW.out) hc0 HCK.out).mono ?_)
 rintro e w1 ⟨rfl,hb1⟩
 have HB1 := aM_ hb1
 have q4' : w1.cell? ⟨w.heap.size,0,none⟩ = some (.slice A0 l0.length c0) := (blk_cell (kB_ F4.out hb1) 0).trans rfl
 have q5' : w1.cell? ⟨w.heap.size + 1,0,none⟩ = some (.int .i64 a1) := (blk_cell (kB_ F5.out hb1) 0).trans rfl
 clear hb1 q4 hck HCK
 have h := H.out
 clear H
 by_cases c1 : ck = 0
 case neg =>
  rw [if_pos c1] at h
  cases h
  go_wp2_with (fail)
  go_ret3
  exact ⟨rfl,bT_ BW.out HB1.out⟩
 rw [if_neg (by omega)] at h
 subst c1
 by_cases c2' : a1 < 0 ∨ a1 > 1000000000
 ·rw [if_pos c2'] at h
  cases h
  have HO := aM_ (outside_true c2')
  clear c2'
  go_wp2_with (fail)
  (with_reducible refine (gauge_outside.calls a1 0 1000000000 true _ HO.out).mono ?_)
  rintro e w2 ⟨rfl,⟨nd,rfl⟩⟩
  go_wp2_with (fail)
  go_ret3
  exact ⟨rfl,bT_ BW.out (bN_ HB1.out nd)⟩
 rw [if_neg c2'] at h
 have HO := aM_ (outside_false (n := a1) (lo := 0) (hi := 1000000000) (by omega))
 clear c2'
 have H := aM_ h
 clear h
 go_wp2_with (fail)
 (with_reducible refine (gauge_outside.calls a1 0 1000000000 false _ HO.out).mono ?_)
 rintro e w2 ⟨rfl,⟨nd,rfl⟩⟩
 obtain ⟨w2,hw2⟩ : ∃ W,W = w1.drewN nd := ⟨_,rfl⟩
 rw [← hw2]
 have hb2 : Below W0.heap.size W0 w2 := by rw [hw2];exact bN_ HB1.out nd
 clear hw2 q4' q5' HB1 HO
 have HB2 := aM_ hb2
 have q7 := (blk_cell (kB_ F7.out hb2) 0).trans rfl
 have h := H.out
 clear H hb2
 by_cases c3' : l2.length > 20
 ·rw [if_pos c3'] at h
  cases h
  have b1 : (20 : Int) < (l2.length : Int) := by omega
  go_wp2_with (fail)
  go_ret3
  exact ⟨rfl,bT_ BW.out HB2.out⟩
 rw [if_neg c3'] at h
 have b1 : ¬ (20 : Int) < (l2.length : Int) := by omega
 by_cases c4' : l3.length ≠ l2.length
 ·rw [if_pos c4'] at h
  cases h
  have b2 : ¬ (l3.length : Int) = (l2.length : Int) := by omega
  go_wp2_with (fail)
  go_ret3
  exact ⟨rfl,bT_ BW.out HB2.out⟩
 rw [if_neg c4'] at h
 have hll : l3.length = l2.length := by omega
 have b2 : (l3.length : Int) = (l2.length : Int) := by omega
 have hsz2 := HB2.out.size
 have hs0 := HSZ.out
 have H0 : Aside0 (SheetAt A0 c0 l0 a1 A3 c3 l3 w.heap.size (w.heap.size + 1) (w.heap.size + 1 + 1) w2.heap.size w 0 (w2.alloc (.cells #[.int .i64 (-1)] 3))) :=
  ⟨⟨kA_ (kB_ F4.out HB2.out) _,kA_ (kB_ F5.out HB2.out) _,kA_ (kB_ F7.out HB2.out) _,blk_new w2 _,bA_ (bT_ BW.out HB2.out) _⟩⟩
 have eg := enters_of Try.func58 (by kernel_rfl) rfl
 have HC := aM_ (gauge_worst.calls 58 #[.pointer (some ⟨w2.heap.size,0,none⟩),.pointer (some ⟨w.heap.size,0,none⟩),.pointer (some ⟨w.heap.size + 1,0,none⟩),.pointer (some ⟨w.heap.size + 1 + 1,0,none⟩)] A2 c2 l2 (sheetT k l0 a1 l2 l3) r1 r2 r3 (w2.alloc (.cells #[.int .i64 (-1)] 3))
  (SheetAt A0 c0 l0 a1 A3 c3 l3 w.heap.size (w.heap.size + 1) (w.heap.size + 1 + 1) w2.heap.size w) eg (by omega) (fun i W W' hS hB => hS.below hB) (fun i W hS => Kd.C_below HR2.out hS.bw)
  (fun i W v e hi hS ht => gauge_Sheet_1.calls k A0 c0 l0 a1 A3 c3 l3 w.heap.size (w.heap.size + 1) (w.heap.size + 1 + 1) w2.heap.size w i _ _ v e W HR0.out hc0 HR3.out (by omega) (by omega) (by omega) (by omega) (by omega) (by omega) hS ht) H0.out h)
 clear h HR0 HR2 HR3 F4 F5 F7 HB2 BW HSZ H0 hs0 hsz2 eg c3' c4' hll
 go_wp2_with (fail)
 (with_reducible refine HC.out.mono ?_)
 rintro e w3 ⟨rfl,i,hS⟩
 have HS := aM_ hS.bw
 clear hS HC
 go_wp2_with (fail)
 go_ret3
 exact ⟨rfl,HS.out⟩

-- NOT PRINTED: function 29 (L_widers)

-- NOT PRINTED: function 7 (L_GaugeLonger)

/-! ### R_least: function 82 -/
def R_least.l0 : Nat → Int → Int → Int → Int → Int → Int → Int → Int → Int → Int → Option (Int)
 | 0,_,_,_,_,_,_,_,_,_,_ => none
 | k + 1,x1,x5,x6,x415000,x415001,x415002,x415003,x415004,x415005,x415006 => if x5 < x6 then ((R_Down.f (wrap64 (x5 + x6)) 2).bind fun t415 => ((R_Made.f x415000 x415001 x415002 x415003 x415004 x415005 x415006 t415).bind fun bt416 => (if bt416.2 ≥ x1 then (R_least.l0 k x1 x5 t415 x415000 x415001 x415002 x415003 x415004 x415005 x415006) else (R_least.l0 k x1 (wrap64 (t415 + 1)) x6 x415000 x415001 x415002 x415003 x415004 x415005 x415006)))) else (some x5)
def R_least.f (k : Nat) (a0_0 : Int) (a0_1 : Int) (a0_2 : Int) (a0_3 : Int) (a0_4 : Int) (a0_5 : Int) (a0_6 : Int) (a1 : Int) : Option (Int) := R_least.l0 k a1 (-4398046511104) 4398046511104 a0_0 a0_1 a0_2 a0_3 a0_4 a0_5 a0_6
set_option maxHeartbeats 8000000 in
set_option maxRecDepth 100000 in
theorem R_least.calls (k : Nat) (a0_0 : Int) (a0_1 : Int) (a0_2 : Int) (a0_3 : Int) (a0_4 : Int) (a0_5 : Int) (a0_6 : Int) (a1 : Int) (r : Int) (w : World) (h : R_least.f k a0_0 a0_1 a0_2 a0_3 a0_4 a0_5 a0_6 a1 = some r) :
  Calls Try.prog 82 #[.agg #[.int .i64 a0_0,.int .i64 a0_1,.int .i64 a0_2,.int .i64 a0_3,.int .i64 a0_4,.int .i64 a0_5,.int .i64 a0_6],.int .i64 a1] w fun e w' => e = .returned (.int .i64 r) ∧ Below w.heap.size w w' := by
 have hu49 := Try.underlying49
 have hfl34_1 : ∀ (y0 y1 : Value) (W : World),(Instr.field 34 (.agg #[y0,y1]) 1).run Try.prog W = .ok (y1) W := fun _ _ _ => by kernel_rfl
 have HB := aM_ (Below.refl w.heap.size w)
 have H : (R_least.l0 k a1 (-4398046511104) 4398046511104 a0_0 a0_1 a0_2 a0_3 a0_4 a0_5 a0_6) = some r := h
 clear h
 have H' := aM_ H
 clear H
 go_enter Try.func82,Try.ntmps82
 go_wp2_with (first | ((with_reducible refine gate_dst (N := 2) rfl ?_);refine box_event ?hg (N := 2) ?hd (cs := #[.int .i64 a0_0,.int .i64 a0_1,.int .i64 a0_2,.int .i64 a0_3,.int .i64 a0_4,.int .i64 a0_5,.int .i64 a0_6]) (t := 49) ?hr ?_;(case hd => rfl);(case hg => rfl);(case hr => first | (go_simp;done) | (go_simp;rfl));intro gb414 hg w3 hbox hb;have n0_ := aM_ (bT_ (by exact lb_ HB) hb);have n1_ := aM_ (hbox);have n2_ := aM_ ((by rw [hg];exact (below_size (by exact lb_ HB)) : w.heap.size ≤ gb414));have n3_ := aM_ ((by rw [hg];exact (below_size (by exact lb_ HB)) : w.heap.size ≤ gb414));clear HB;have HB := n0_;have BK414 := n1_;have GW414 := n2_;have GE414 := n3_;have := Ge_.mk n3_.out;clear n0_ n1_ n2_ n3_;clear hb hbox hg))
 go_loopg [5,6] k (fun kq v5 v6 w' => ∃ (x5_1 : Int) (x6_1 : Int),v5 = .int .i64 x5_1 ∧ v6 = .int .i64 x6_1 ∧ Aside0 (R_least.l0 kq a1 x5_1 x6_1 a0_0 a0_1 a0_2 a0_3 a0_4 a0_5 a0_6 = some r) ∧ Aside0 (kq ≤ k) ∧ Aside0 (w'.heap[gb414]? = some (.cells #[.int .i64 a0_0,.int .i64 a0_1,.int .i64 a0_2,.int .i64 a0_3,.int .i64 a0_4,.int .i64 a0_5,.int .i64 a0_6] 49 (0,0))) ∧ Aside0 (Below w.heap.size w w'))
 case atStart => exact ⟨((-4398046511104)),(4398046511104),(by first | rfl | (simp;done) | (simp [*];done)),(by first | rfl | (simp;done) | (simp [*];done)),H',⟨Nat.le_refl _⟩,⟨by exact lk_ BK414⟩,⟨by exact lb_ HB⟩⟩
 case round =>
  clear H'
  try clear p2
  obtain ⟨x5_1,x6_1,rfl,rfl,HA,HK1,BK414,HB⟩ := hrel
  cases gk with
  | zero => exact absurd HA.out (by simp [R_least.l0])
  | succ k1 =>
   have H := HA.out
   clear HA
   simp only [R_least.l0] at H
   by_cases c4 : x5_1 < x6_1
   ·rw [if_pos c4] at H
    have c4b0 : decide (x5_1 < x6_1) = true := decide_eq_true c4
    clear c4
    replace H := oB_ H
    obtain ⟨t415,A50,H⟩ := H
    replace H : ((R_Made.f a0_0 a0_1 a0_2 a0_3 a0_4 a0_5 a0_6 t415).bind fun bt416 => (if bt416.2 ≥ a1 then (R_least.l0 k1 a1 x5_1 t415 a0_0 a0_1 a0_2 a0_3 a0_4 a0_5 a0_6) else (R_least.l0 k1 a1 (wrap64 (t415 + 1)) x6_1 a0_0 a0_1 a0_2 a0_3 a0_4 a0_5 a0_6))) = some r := H
    have A5 := aM_ A50
    clear A50
    replace H := oB_ H
    obtain ⟨⟨t416,t417⟩,A60,H⟩ := H
    replace H : (if t417 ≥ a1 then (R_least.l0 k1 a1 x5_1 t415 a0_0 a0_1 a0_2 a0_3 a0_4 a0_5 a0_6) else (R_least.l0 k1 a1 (wrap64 (t415 + 1)) x6_1 a0_0 a0_1 a0_2 a0_3 a0_4 a0_5 a0_6)) = some r := H
    have A6 := aM_ A60
    clear A60
    by_cases c7 : t417 ≥ a1
    ·rw [if_pos c7] at H
     have c7b0 : decide (a1 ≤ t417) = true := decide_eq_true c7
     clear c7
     have H' := aM_ H
     clear H
     go_wp2_with (first | ((with_reducible refine gate_callee (f := 42) rfl ?_);refine goesL_ (some 14) rfl rfl Try.func42 (by kernel_rfl) rfl #[.int .i64 (wrap64 (x5_1 + x6_1)),.int .i64 2] rfl (by (try simp only [List.map_toArray,List.map_cons,List.map_nil]);first | done | rfl) ?_;(with_reducible refine (R_Down.calls (wrap64 (x5_1 + x6_1)) 2 t415 _ A5.out).mono ?_);rintro e w' ⟨rfl,⟨nd,rfl⟩⟩;refine ⟨_,rfl,?_⟩;have hcz8_0 : wr.cell? ⟨gb414,0,none⟩ = some (.int .i64 a0_0) := (blk_cell BK414.out 0).trans rfl;have hcz8_1 : wr.cell? ⟨gb414,1,none⟩ = some (.int .i64 a0_1) := (blk_cell BK414.out 1).trans rfl;have hcz8_2 : wr.cell? ⟨gb414,2,none⟩ = some (.int .i64 a0_2) := (blk_cell BK414.out 2).trans rfl;have hcz8_3 : wr.cell? ⟨gb414,3,none⟩ = some (.int .i64 a0_3) := (blk_cell BK414.out 3).trans rfl;have hcz8_4 : wr.cell? ⟨gb414,4,none⟩ = some (.int .i64 a0_4) := (blk_cell BK414.out 4).trans rfl;have hcz8_5 : wr.cell? ⟨gb414,5,none⟩ = some (.int .i64 a0_5) := (blk_cell BK414.out 5).trans rfl;have hcz8_6 : wr.cell? ⟨gb414,6,none⟩ = some (.int .i64 a0_6) := (blk_cell BK414.out 6).trans rfl;have hfz8_0 := blk_frozen BK414.out 0;have hfz8_1 := blk_frozen BK414.out 1;have hfz8_2 := blk_frozen BK414.out 2;have hfz8_3 := blk_frozen BK414.out 3;have hfz8_4 := blk_frozen BK414.out 4;have hfz8_5 := blk_frozen BK414.out 5;have hfz8_6 := blk_frozen BK414.out 6) | ((with_reducible refine gate_callee (f := 40) rfl ?_);refine goesL_ (some 17) rfl rfl Try.func40 (by kernel_rfl) rfl #[.agg #[.int .i64 a0_0,.int .i64 a0_1,.int .i64 a0_2,.int .i64 a0_3,.int .i64 a0_4,.int .i64 a0_5,.int .i64 a0_6],.int .i64 t415] rfl (by (try simp only [List.map_toArray,List.map_cons,List.map_nil]);first | done | rfl) ?_;(with_reducible refine (R_Made.calls a0_0 a0_1 a0_2 a0_3 a0_4 a0_5 a0_6 t415 t416 t417 _ A6.out).mono ?_);rintro e w9 ⟨rfl,hb⟩;refine ⟨_,rfl,?_⟩;have n0_ := aM_ (kB_ (g := gb414) (o := .cells #[.int .i64 a0_0,.int .i64 a0_1,.int .i64 a0_2,.int .i64 a0_3,.int .i64 a0_4,.int .i64 a0_5,.int .i64 a0_6] 49 (0,0)) (by exact lk_ BK414) hb);have n1_ := aM_ (bT_ (by exact lb_ HB) hb);clear BK414;clear HB;have BK414 := n0_;have HB := n1_;clear n0_ n1_;(try clear hb);(try clear hb2);(try clear hk);(try clear hi)))
     go_roundg k1
     case measure => have := HK1.out;omega
     case rel => exact ⟨(x5_1),(t415),(by first | rfl | (simp;done) | (simp [*];done)),(by first | rfl | (simp;done) | (simp [*];done)),H',⟨by have := HK1.out;omega⟩,⟨by exact lk_ BK414⟩,⟨by exact lb_ HB⟩⟩
    ·rw [if_neg c7] at H
     have c7b0 : decide (a1 ≤ t417) = false := decide_eq_false c7
     clear c7
     have H' := aM_ H
     clear H
     go_wp2_with (first | ((with_reducible refine gate_callee (f := 42) rfl ?_);refine goesL_ (some 14) rfl rfl Try.func42 (by kernel_rfl) rfl #[.int .i64 (wrap64 (x5_1 + x6_1)),.int .i64 2] rfl (by (try simp only [List.map_toArray,List.map_cons,List.map_nil]);first | done | rfl) ?_;(with_reducible refine (R_Down.calls (wrap64 (x5_1 + x6_1)) 2 t415 _ A5.out).mono ?_);rintro e w' ⟨rfl,⟨nd,rfl⟩⟩;refine ⟨_,rfl,?_⟩;have hcz10_0 : wr.cell? ⟨gb414,0,none⟩ = some (.int .i64 a0_0) := (blk_cell BK414.out 0).trans rfl;have hcz10_1 : wr.cell? ⟨gb414,1,none⟩ = some (.int .i64 a0_1) := (blk_cell BK414.out 1).trans rfl;have hcz10_2 : wr.cell? ⟨gb414,2,none⟩ = some (.int .i64 a0_2) := (blk_cell BK414.out 2).trans rfl;have hcz10_3 : wr.cell? ⟨gb414,3,none⟩ = some (.int .i64 a0_3) := (blk_cell BK414.out 3).trans rfl;have hcz10_4 : wr.cell? ⟨gb414,4,none⟩ = some (.int .i64 a0_4) := (blk_cell BK414.out 4).trans rfl;have hcz10_5 : wr.cell? ⟨gb414,5,none⟩ = some (.int .i64 a0_5) := (blk_cell BK414.out 5).trans rfl;have hcz10_6 : wr.cell? ⟨gb414,6,none⟩ = some (.int .i64 a0_6) := (blk_cell BK414.out 6).trans rfl;have hfz10_0 := blk_frozen BK414.out 0;have hfz10_1 := blk_frozen BK414.out 1;have hfz10_2 := blk_frozen BK414.out 2;have hfz10_3 := blk_frozen BK414.out 3;have hfz10_4 := blk_frozen BK414.out 4;have hfz10_5 := blk_frozen BK414.out 5;have hfz10_6 := blk_frozen BK414.out 6) | ((with_reducible refine gate_callee (f := 40) rfl ?_);refine goesL_ (some 17) rfl rfl Try.func40 (by kernel_rfl) rfl #[.agg #[.int .i64 a0_0,.int .i64 a0_1,.int .i64 a0_2,.int .i64 a0_3,.int .i64 a0_4,.int .i64 a0_5,.int .i64 a0_6],.int .i64 t415] rfl (by (try simp only [List.map_toArray,List.map_cons,List.map_nil]);first | done | rfl) ?_;(with_reducible refine (R_Made.calls a0_0 a0_1 a0_2 a0_3 a0_4 a0_5 a0_6 t415 t416 t417 _ A6.out).mono ?_);rintro e w11 ⟨rfl,hb⟩;refine ⟨_,rfl,?_⟩;have n0_ := aM_ (kB_ (g := gb414) (o := .cells #[.int .i64 a0_0,.int .i64 a0_1,.int .i64 a0_2,.int .i64 a0_3,.int .i64 a0_4,.int .i64 a0_5,.int .i64 a0_6] 49 (0,0)) (by exact lk_ BK414) hb);have n1_ := aM_ (bT_ (by exact lb_ HB) hb);clear BK414;clear HB;have BK414 := n0_;have HB := n1_;clear n0_ n1_;(try clear hb);(try clear hb2);(try clear hk);(try clear hi)))
     go_roundg k1
     case measure => have := HK1.out;omega
     case rel => exact ⟨(wrap64 (t415 + 1)),(x6_1),(by first | rfl | (simp;done) | (simp [*];done)),(by first | rfl | (simp;done) | (simp [*];done)),H',⟨by have := HK1.out;omega⟩,⟨by exact lk_ BK414⟩,⟨by exact lb_ HB⟩⟩
   ·rw [if_neg c4] at H
    have c4b0 : decide (x5_1 < x6_1) = false := decide_eq_false c4
    clear c4
    obtain rfl := Option.some.inj H
    go_wp2
    go_ret
    exact ⟨by first | rfl | (simp [*] <;> rfl),by exact lb_ HB⟩

/-! ### R_most: function 83 -/
def R_most.l0 : Nat → Int → Int → Int → Int → Int → Int → Int → Int → Int → Int → Option (Int)
 | 0,_,_,_,_,_,_,_,_,_,_ => none
 | k + 1,x1,x5,x6,x419000,x419001,x419002,x419003,x419004,x419005,x419006 => if x5 < x6 then ((R_Up.f (wrap64 (x5 + x6)) 2).bind fun t419 => ((R_Made.f x419000 x419001 x419002 x419003 x419004 x419005 x419006 t419).bind fun bt420 => (if bt420.1 ≤ x1 then (R_most.l0 k x1 t419 x6 x419000 x419001 x419002 x419003 x419004 x419005 x419006) else (R_most.l0 k x1 x5 (wrap64 (t419 - 1)) x419000 x419001 x419002 x419003 x419004 x419005 x419006)))) else (some x5)
def R_most.f (k : Nat) (a0_0 : Int) (a0_1 : Int) (a0_2 : Int) (a0_3 : Int) (a0_4 : Int) (a0_5 : Int) (a0_6 : Int) (a1 : Int) : Option (Int) := R_most.l0 k a1 (-4398046511104) 4398046511104 a0_0 a0_1 a0_2 a0_3 a0_4 a0_5 a0_6
set_option maxHeartbeats 8000000 in
set_option maxRecDepth 100000 in
theorem R_most.calls (k : Nat) (a0_0 : Int) (a0_1 : Int) (a0_2 : Int) (a0_3 : Int) (a0_4 : Int) (a0_5 : Int) (a0_6 : Int) (a1 : Int) (r : Int) (w : World) (h : R_most.f k a0_0 a0_1 a0_2 a0_3 a0_4 a0_5 a0_6 a1 = some r) :
  Calls Try.prog 83 #[.agg #[.int .i64 a0_0,.int .i64 a0_1,.int .i64 a0_2,.int .i64 a0_3,.int .i64 a0_4,.int .i64 a0_5,.int .i64 a0_6],.int .i64 a1] w fun e w' => e = .returned (.int .i64 r) ∧ Below w.heap.size w w' := by
 have hu49 := Try.underlying49
 have hfl34_0 : ∀ (y0 y1 : Value) (W : World),(Instr.field 34 (.agg #[y0,y1]) 0).run Try.prog W = .ok (y0) W := fun _ _ _ => by kernel_rfl
 have HB := aM_ (Below.refl w.heap.size w)
 have H : (R_most.l0 k a1 (-4398046511104) 4398046511104 a0_0 a0_1 a0_2 a0_3 a0_4 a0_5 a0_6) = some r := h
 clear h
 have H' := aM_ H
 clear H
 go_enter Try.func83,Try.ntmps83
 go_wp2_with (first | ((with_reducible refine gate_dst (N := 2) rfl ?_);refine box_event ?hg (N := 2) ?hd (cs := #[.int .i64 a0_0,.int .i64 a0_1,.int .i64 a0_2,.int .i64 a0_3,.int .i64 a0_4,.int .i64 a0_5,.int .i64 a0_6]) (t := 49) ?hr ?_;(case hd => rfl);(case hg => rfl);(case hr => first | (go_simp;done) | (go_simp;rfl));intro gb418 hg w3 hbox hb;have n0_ := aM_ (bT_ (by exact lb_ HB) hb);have n1_ := aM_ (hbox);have n2_ := aM_ ((by rw [hg];exact (below_size (by exact lb_ HB)) : w.heap.size ≤ gb418));have n3_ := aM_ ((by rw [hg];exact (below_size (by exact lb_ HB)) : w.heap.size ≤ gb418));clear HB;have HB := n0_;have BK418 := n1_;have GW418 := n2_;have GE418 := n3_;have := Ge_.mk n3_.out;clear n0_ n1_ n2_ n3_;clear hb hbox hg))
 go_loopg [5,6] k (fun kq v5 v6 w' => ∃ (x5_1 : Int) (x6_1 : Int),v5 = .int .i64 x5_1 ∧ v6 = .int .i64 x6_1 ∧ Aside0 (R_most.l0 kq a1 x5_1 x6_1 a0_0 a0_1 a0_2 a0_3 a0_4 a0_5 a0_6 = some r) ∧ Aside0 (kq ≤ k) ∧ Aside0 (w'.heap[gb418]? = some (.cells #[.int .i64 a0_0,.int .i64 a0_1,.int .i64 a0_2,.int .i64 a0_3,.int .i64 a0_4,.int .i64 a0_5,.int .i64 a0_6] 49 (0,0))) ∧ Aside0 (Below w.heap.size w w'))
 case atStart => exact ⟨((-4398046511104)),(4398046511104),(by first | rfl | (simp;done) | (simp [*];done)),(by first | rfl | (simp;done) | (simp [*];done)),H',⟨Nat.le_refl _⟩,⟨by exact lk_ BK418⟩,⟨by exact lb_ HB⟩⟩
 case round =>
  clear H'
  try clear p2
  obtain ⟨x5_1,x6_1,rfl,rfl,HA,HK1,BK418,HB⟩ := hrel
  cases gk with
  | zero => exact absurd HA.out (by simp [R_most.l0])
  | succ k1 =>
   have H := HA.out
   clear HA
   simp only [R_most.l0] at H
   by_cases c4 : x5_1 < x6_1
   ·rw [if_pos c4] at H
    have c4b0 : decide (x5_1 < x6_1) = true := decide_eq_true c4
    clear c4
    replace H := oB_ H
    obtain ⟨t419,A50,H⟩ := H
    replace H : ((R_Made.f a0_0 a0_1 a0_2 a0_3 a0_4 a0_5 a0_6 t419).bind fun bt420 => (if bt420.1 ≤ a1 then (R_most.l0 k1 a1 t419 x6_1 a0_0 a0_1 a0_2 a0_3 a0_4 a0_5 a0_6) else (R_most.l0 k1 a1 x5_1 (wrap64 (t419 - 1)) a0_0 a0_1 a0_2 a0_3 a0_4 a0_5 a0_6))) = some r := H
    have A5 := aM_ A50
    clear A50
    replace H := oB_ H
    obtain ⟨⟨t420,t421⟩,A60,H⟩ := H
    replace H : (if t420 ≤ a1 then (R_most.l0 k1 a1 t419 x6_1 a0_0 a0_1 a0_2 a0_3 a0_4 a0_5 a0_6) else (R_most.l0 k1 a1 x5_1 (wrap64 (t419 - 1)) a0_0 a0_1 a0_2 a0_3 a0_4 a0_5 a0_6)) = some r := H
    have A6 := aM_ A60
    clear A60
    by_cases c7 : t420 ≤ a1
    ·rw [if_pos c7] at H
     have c7b0 : decide (t420 ≤ a1) = true := decide_eq_true c7
     clear c7
     have H' := aM_ H
     clear H
     go_wp2_with (first | ((with_reducible refine gate_callee (f := 56) rfl ?_);refine goesL_ (some 14) rfl rfl Try.func56 (by kernel_rfl) rfl #[.int .i64 (wrap64 (x5_1 + x6_1)),.int .i64 2] rfl (by (try simp only [List.map_toArray,List.map_cons,List.map_nil]);first | done | rfl) ?_;(with_reducible refine (R_Up.calls (wrap64 (x5_1 + x6_1)) 2 t419 _ A5.out).mono ?_);rintro e w' ⟨rfl,⟨nd,rfl⟩⟩;refine ⟨_,rfl,?_⟩;have hcz8_0 : wr.cell? ⟨gb418,0,none⟩ = some (.int .i64 a0_0) := (blk_cell BK418.out 0).trans rfl;have hcz8_1 : wr.cell? ⟨gb418,1,none⟩ = some (.int .i64 a0_1) := (blk_cell BK418.out 1).trans rfl;have hcz8_2 : wr.cell? ⟨gb418,2,none⟩ = some (.int .i64 a0_2) := (blk_cell BK418.out 2).trans rfl;have hcz8_3 : wr.cell? ⟨gb418,3,none⟩ = some (.int .i64 a0_3) := (blk_cell BK418.out 3).trans rfl;have hcz8_4 : wr.cell? ⟨gb418,4,none⟩ = some (.int .i64 a0_4) := (blk_cell BK418.out 4).trans rfl;have hcz8_5 : wr.cell? ⟨gb418,5,none⟩ = some (.int .i64 a0_5) := (blk_cell BK418.out 5).trans rfl;have hcz8_6 : wr.cell? ⟨gb418,6,none⟩ = some (.int .i64 a0_6) := (blk_cell BK418.out 6).trans rfl;have hfz8_0 := blk_frozen BK418.out 0;have hfz8_1 := blk_frozen BK418.out 1;have hfz8_2 := blk_frozen BK418.out 2;have hfz8_3 := blk_frozen BK418.out 3;have hfz8_4 := blk_frozen BK418.out 4;have hfz8_5 := blk_frozen BK418.out 5;have hfz8_6 := blk_frozen BK418.out 6) | ((with_reducible refine gate_callee (f := 40) rfl ?_);refine goesL_ (some 17) rfl rfl Try.func40 (by kernel_rfl) rfl #[.agg #[.int .i64 a0_0,.int .i64 a0_1,.int .i64 a0_2,.int .i64 a0_3,.int .i64 a0_4,.int .i64 a0_5,.int .i64 a0_6],.int .i64 t419] rfl (by (try simp only [List.map_toArray,List.map_cons,List.map_nil]);first | done | rfl) ?_;(with_reducible refine (R_Made.calls a0_0 a0_1 a0_2 a0_3 a0_4 a0_5 a0_6 t419 t420 t421 _ A6.out).mono ?_);rintro e w9 ⟨rfl,hb⟩;refine ⟨_,rfl,?_⟩;have n0_ := aM_ (kB_ (g := gb418) (o := .cells #[.int .i64 a0_0,.int .i64 a0_1,.int .i64 a0_2,.int .i64 a0_3,.int .i64 a0_4,.int .i64 a0_5,.int .i64 a0_6] 49 (0,0)) (by exact lk_ BK418) hb);have n1_ := aM_ (bT_ (by exact lb_ HB) hb);clear BK418;clear HB;have BK418 := n0_;have HB := n1_;clear n0_ n1_;(try clear hb);(try clear hb2);(try clear hk);(try clear hi)))
     go_roundg k1
     case measure => have := HK1.out;omega
     case rel => exact ⟨(t419),(x6_1),(by first | rfl | (simp;done) | (simp [*];done)),(by first | rfl | (simp;done) | (simp [*];done)),H',⟨by have := HK1.out;omega⟩,⟨by exact lk_ BK418⟩,⟨by exact lb_ HB⟩⟩
    ·rw [if_neg c7] at H
     have c7b0 : decide (t420 ≤ a1) = false := decide_eq_false c7
     clear c7
     have H' := aM_ H
     clear H
     go_wp2_with (first | ((with_reducible refine gate_callee (f := 56) rfl ?_);refine goesL_ (some 14) rfl rfl Try.func56 (by kernel_rfl) rfl #[.int .i64 (wrap64 (x5_1 + x6_1)),.int .i64 2] rfl (by (try simp only [List.map_toArray,List.map_cons,List.map_nil]);first | done | rfl) ?_;(with_reducible refine (R_Up.calls (wrap64 (x5_1 + x6_1)) 2 t419 _ A5.out).mono ?_);rintro e w' ⟨rfl,⟨nd,rfl⟩⟩;refine ⟨_,rfl,?_⟩;have hcz10_0 : wr.cell? ⟨gb418,0,none⟩ = some (.int .i64 a0_0) := (blk_cell BK418.out 0).trans rfl;have hcz10_1 : wr.cell? ⟨gb418,1,none⟩ = some (.int .i64 a0_1) := (blk_cell BK418.out 1).trans rfl;have hcz10_2 : wr.cell? ⟨gb418,2,none⟩ = some (.int .i64 a0_2) := (blk_cell BK418.out 2).trans rfl;have hcz10_3 : wr.cell? ⟨gb418,3,none⟩ = some (.int .i64 a0_3) := (blk_cell BK418.out 3).trans rfl;have hcz10_4 : wr.cell? ⟨gb418,4,none⟩ = some (.int .i64 a0_4) := (blk_cell BK418.out 4).trans rfl;have hcz10_5 : wr.cell? ⟨gb418,5,none⟩ = some (.int .i64 a0_5) := (blk_cell BK418.out 5).trans rfl;have hcz10_6 : wr.cell? ⟨gb418,6,none⟩ = some (.int .i64 a0_6) := (blk_cell BK418.out 6).trans rfl;have hfz10_0 := blk_frozen BK418.out 0;have hfz10_1 := blk_frozen BK418.out 1;have hfz10_2 := blk_frozen BK418.out 2;have hfz10_3 := blk_frozen BK418.out 3;have hfz10_4 := blk_frozen BK418.out 4;have hfz10_5 := blk_frozen BK418.out 5;have hfz10_6 := blk_frozen BK418.out 6) | ((with_reducible refine gate_callee (f := 40) rfl ?_);refine goesL_ (some 17) rfl rfl Try.func40 (by kernel_rfl) rfl #[.agg #[.int .i64 a0_0,.int .i64 a0_1,.int .i64 a0_2,.int .i64 a0_3,.int .i64 a0_4,.int .i64 a0_5,.int .i64 a0_6],.int .i64 t419] rfl (by (try simp only [List.map_toArray,List.map_cons,List.map_nil]);first | done | rfl) ?_;(with_reducible refine (R_Made.calls a0_0 a0_1 a0_2 a0_3 a0_4 a0_5 a0_6 t419 t420 t421 _ A6.out).mono ?_);rintro e w11 ⟨rfl,hb⟩;refine ⟨_,rfl,?_⟩;have n0_ := aM_ (kB_ (g := gb418) (o := .cells #[.int .i64 a0_0,.int .i64 a0_1,.int .i64 a0_2,.int .i64 a0_3,.int .i64 a0_4,.int .i64 a0_5,.int .i64 a0_6] 49 (0,0)) (by exact lk_ BK418) hb);have n1_ := aM_ (bT_ (by exact lb_ HB) hb);clear BK418;clear HB;have BK418 := n0_;have HB := n1_;clear n0_ n1_;(try clear hb);(try clear hb2);(try clear hk);(try clear hi)))
     go_roundg k1
     case measure => have := HK1.out;omega
     case rel => exact ⟨(x5_1),(wrap64 (t419 - 1)),(by first | rfl | (simp;done) | (simp [*];done)),(by first | rfl | (simp;done) | (simp [*];done)),H',⟨by have := HK1.out;omega⟩,⟨by exact lk_ BK418⟩,⟨by exact lb_ HB⟩⟩
   ·rw [if_neg c4] at H
    have c4b0 : decide (x5_1 < x6_1) = false := decide_eq_false c4
    clear c4
    obtain rfl := Option.some.inj H
    go_wp2
    go_ret
    exact ⟨by first | rfl | (simp [*] <;> rfl),by exact lb_ HB⟩

end Go.Proofs.Ytdbpobadeibjaab.GS
