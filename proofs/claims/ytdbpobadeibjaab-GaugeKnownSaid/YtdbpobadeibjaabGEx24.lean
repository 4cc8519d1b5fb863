-- written for this claim by a program of this session (wip/gp), over the kit's own printer; Lean checks it
import Derived.Test.YtdbpobadeibjaabGEx0
import Derived.Test.YtdbpobadeibjaabGEx3
import Derived.Test.YtdbpobadeibjaabGEx4
import Derived.Test.YtdbpobadeibjaabGEx5
import Derived.Test.YtdbpobadeibjaabGEx10
import Derived.Test.YtdbpobadeibjaabGEx11
import Derived.Test.YtdbpobadeibjaabGEx12
import Derived.Test.YtdbpobadeibjaabGEx16
import Derived.Test.YtdbpobadeibjaabGEx19
import Derived.Test.YtdbpobadeibjaabGEx22
import Derived.Test.YtdbpobadeibjaabGEx23
namespace Go.Proofs.Ytdbpobadeibjaab.GE
open Go.RowKit Go.Proofs.YtdbpobadeibjaabW.PrintWords Go.Proofs.YtdbpobadeibjaabW.PrintLast Go.Proofs.YtdbpobadeibjaabW.PrintMore
attribute [local go_sem] max2_int min2_int max_two min_two max_three min_three max_four min_four
set_option linter.unusedVariables false
set_option linter.unusedSimpArgs false

--HAND
/-! ### gauge.Sheet,by hand: function 27 -/
def sheetT (k : Nat) (l0 : List S49) (tick : Int) (l2 : List S34) (l3 : List (List S32)) (i : Nat) : Option (Int × Int) := gauge_test.f k l0 tick (rd_T34 l2 i).f0 (rd_T34 l2 i).f1 (rd_L8 l3 i)
def gauge_Sheet.f (k : Nat) (l0 : List (S49)) (a1 : Int) (l2 : List (S34)) (l3 : List (List (S32))) : Option (Int × Int × Int) :=
 if checkP l0 ≠ 0 then some (0,0,checkP l0) else if a1 < 0 ∨ a1 > 1000000000 then some (0,0,2) else if l2.length > 20 then some (0,0,8) else if l3.length ≠ l2.length then some (0,0,3) else worstGo (sheetT k l0 a1 l2 l3) l2.length 0 1 (-1)
structure SheetAt (A0 : Option Addr) (c0 : Nat) (l0 : List S49) (tick : Int) (A3 : Option Addr) (c3 : Nat) (l3 : List (List S32)) (b4 b5 b7 b12 : Nat) (w0 : World) (i : Nat) (W : World) : Prop where
 c4 : W.heap[b4]? = some (.cells #[.slice A0 l0.length c0] 25 (0,0))
 c5 : W.heap[b5]? = some (.cells #[.int .i64 tick] 3 (0,0))
 c7 : W.heap[b7]? = some (.cells #[.slice A3 l3.length c3] 51 (0,0))
 c12 : W.heap[b12]? = some (.cells #[.int .i64 ((i : Int) - 1)] 3 (0,0))
 bw : Below w0.heap.size w0 W
theorem SheetAt.below {A0 : Option Addr} {c0 : Nat} {l0 : List S49} {tick : Int} {A3 : Option Addr} {c3 : Nat} {l3 : List (List S32)} {b4 b5 b7 b12 : Nat} {w0 : World} {i : Nat} {W W' : World} (h : SheetAt A0 c0 l0 tick A3 c3 l3 b4 b5 b7 b12 w0 i W) (hb : Below W.heap.size W W') : SheetAt A0 c0 l0 tick A3 c3 l3 b4 b5 b7 b12 w0 i W' :=
 ⟨kB_ h.c4 hb,kB_ h.c5 hb,kB_ h.c7 hb,kB_ h.c12 hb,bT_ h.bw hb⟩
set_option maxHeartbeats 8000000 in
set_option maxRecDepth 1000000 in
theorem gauge_Sheet_1.calls (k : Nat) (A0 : Option Addr) (c0 : Nat) (l0 : List S49) (tick : Int) (A3 : Option Addr) (c3 : Nat) (l3 : List (List S32)) (b4 b5 b7 b12 : Nat) (w0 : World) (i : Nat) (x0 x1 v e : Int) (W : World)
  (hr0 : Kd.C k49 w0 A0 l0.length l0) (hc0 : l0.length ≤ c0) (hr3 : Kd.C (Kd.slice 32 k32) w0 A3 l3.length l3) (h4 : b4 ≠ b12) (h5 : b5 ≠ b12) (h7 : b7 ≠ b12) (h12 : w0.heap.size ≤ b12) (hi : i < l3.length) (hn : i ≤ 1000000000)
  (hS : SheetAt A0 c0 l0 tick A3 c3 l3 b4 b5 b7 b12 w0 i W) (h : gauge_test.f k l0 tick x0 x1 (rd_L8 l3 i) = some (v,e)) :
  Calls Try.prog 58 (#[.agg #[.int .i64 x0,.int .i64 x1]] ++ #[.pointer (some ⟨b12,0,none⟩),.pointer (some ⟨b4,0,none⟩),.pointer (some ⟨b5,0,none⟩),.pointer (some ⟨b7,0,none⟩)]) W
   fun e' W' => e' = .returned (.tuple #[.int .i64 v,.int .i64 e]) ∧ SheetAt A0 c0 l0 tick A3 c3 l3 b4 b5 b7 b12 w0 (i + 1) W' := by
 have hu34 := Try.underlying34
 obtain ⟨W2,hW2⟩ : ∃ W2,(W.setCell ⟨b12,0,none⟩ (.int .i64 (i : Int))).alloc (.cells #[.int .i64 x0,.int .i64 x1] 34) = W2 := ⟨_,rfl⟩
 have l12 := blk_lt hS.c12
 have bw2 : Below w0.heap.size w0 W2 := by rw [← hW2];exact bA_ (bS_ hS.bw h12) _
 have c4 : W2.heap[b4]? = some (.cells #[.slice A0 l0.length c0] 25 (0,0)) := by rw [← hW2];exact kA_ (blk_far hS.c4 h4 _) _
 have c5 : W2.heap[b5]? = some (.cells #[.int .i64 tick] 3 (0,0)) := by rw [← hW2];exact kA_ (blk_far hS.c5 h5 _) _
 have c7 : W2.heap[b7]? = some (.cells #[.slice A3 l3.length c3] 51 (0,0)) := by rw [← hW2];exact kA_ (blk_far hS.c7 h7 _) _
 have c12 : W2.heap[b12]? = some (.cells #[.int .i64 (i : Int)] 3 (0,0)) := by rw [← hW2];exact kA_ (blk_put hS.c12 0 _ rfl) _
 have cr : W2.heap[W.heap.size]? = some (.cells #[.int .i64 x0,.int .i64 x1] 34 (0,0)) := by rw [← hW2];have := blk_new (W.setCell ⟨b12,0,none⟩ (.int .i64 (i : Int))) (.cells #[.int .i64 x0,.int .i64 x1] 34);rwa [show (W.setCell ⟨b12,0,none⟩ (.int .i64 (i : Int))).heap.size = W.heap.size from by simp [World.setCell]] at this
 obtain ⟨ad,A,c,hA3,hx,hl,hC⟩ := at_L8 (Kd.C_below hr3 bw2) (i : Int) (by omega) (by omega)
 rw [Int.toNat_natCast] at hx
 have HT := aM_ (gauge_test.calls k A0 c0 l0 tick x0 x1 A c (rd_L8 l3 i) v e W2.drew (Kd.C_below (Kd.C_below hr0 bw2) (bD_ (Below.refl _ _))) hc0 (Kd.C_below hC (bD_ (Below.refl _ _))) hl h)
 subst hA3
 have KS := aM_ (show ∀ W' : World,Below W2.heap.size W2 W' → (fun (W' : World) => W'.cell? ⟨b4,0,none⟩ = some (.slice A0 l0.length c0) ∧ W'.cell? ⟨b5,0,none⟩ = some (.int .i64 tick) ∧ W'.cell? ⟨W.heap.size,0,none⟩ = some (.int .i64 x0) ∧ W'.cell? ⟨W.heap.size,1,none⟩ = some (.int .i64 x1) ∧ W'.cell? ⟨b7,0,none⟩ = some (.slice (some ad) l3.length c3) ∧ W'.cell? ⟨b12,0,none⟩ = some (.int .i64 (i : Int)) ∧ W'.cell? (ad.add i) = some (.slice A (rd_L8 l3 i).length c)) W' from fun W' hB =>
  ⟨(blk_cell (kB_ c4 hB) 0).trans rfl,(blk_cell (kB_ c5 hB) 0).trans rfl,(blk_cell (kB_ cr hB) 0).trans rfl,(blk_cell (kB_ cr hB) 1).trans rfl,(blk_cell (kB_ c7 hB) 0).trans rfl,(blk_cell (kB_ c12 hB) 0).trans rfl,pw_cell_below hB hx⟩)
 have HS2 := aM_ (show SheetAt A0 c0 l0 tick (some ad) c3 l3 b4 b5 b7 b12 w0 (i + 1) W2 from ⟨c4,c5,c7,by rw [c12];congr 4;simp,bw2⟩)
 have HB0 := aM_ (bD_ (Below.refl W2.heap.size W2))
 have q12 : W.cell? ⟨b12,0,none⟩ = some (.int .i64 ((i : Int) - 1)) := (blk_cell hS.c12 0).trans rfl
 have f12 := blk_frozen hS.c12 0
 have b1 : (i : Int) < (l3.length : Int) := by omega
 have b2 : (W.heap.size = b12) = False := by simp;omega
 have e1 : IntKind.i64.wrap ((i : Int) - 1 + 1) = (i : Int) := by rw [show (i : Int) - 1 + 1 = i by omega];exact IntWalk.i64_in _ (by omega)
 have e2 : wrap64 (i : Int) = (i : Int) := wrap64_eq (by omega)
 have HW2 := aM_ hW2
 generalize (rd_L8 l3 i).length = nn at *
 clear bw2 c4 c5 c7 c12 cr hx hl hC hr3 hr0 h hS hW2
 go_enter Try.func58,Try.ntmps58
 go_wp2_with (fail)
 rw [HW2.out]
 clear q12 f12 e1 e2 HW2
 go_region_held (fun (W' : World) => W'.cell? ⟨b4,0,none⟩ = some (.slice A0 l0.length c0) ∧ W'.cell? ⟨b5,0,none⟩ = some (.int .i64 tick) ∧ W'.cell? ⟨W.heap.size,0,none⟩ = some (.int .i64 x0) ∧ W'.cell? ⟨W.heap.size,1,none⟩ = some (.int .i64 x1) ∧ W'.cell? ⟨b7,0,none⟩ = some (.slice (some ad) l3.length c3) ∧ W'.cell? ⟨b12,0,none⟩ = some (.int .i64 (i : Int)) ∧ W'.cell? (ad.add i) = some (.slice A nn c)) (first | exact KS.out _ HB1.out | exact KS.out _ HB0.out) (first | (go_at_call 59;(with_reducible refine HT.out.mono ?_);rintro e w' ⟨rfl,hb⟩;have HB1 := aM_ (bT_ HB0.out hb);clear hb))
 all_goals (go_wp2;go_ret2)
 all_goals exact ⟨rfl,HS2.out.below HB1.out⟩
theorem boxes3_new (w : World) (o0 o1 o2 : Obj) : ∃ W,((w.alloc o0).alloc o1).alloc o2 = W ∧ Below w.heap.size w W ∧ W.heap.size = w.heap.size + 1 + 1 + 1 ∧ W.heap[w.heap.size]? = some o0 ∧ W.heap[w.heap.size + 1]? = some o1 ∧ W.heap[w.heap.size + 1 + 1]? = some o2 := by
 refine ⟨_,rfl,bA_ (bA_ (bA_ (Below.refl _ _) _) _) _,by simp,kA_ (kA_ (blk_new w _) _) _,?_,?_⟩
 ·have := kA_ (blk_new (w.alloc o0) o1) o2;simpa only [World.size_alloc] using this
 ·have := blk_new ((w.alloc o0).alloc o1) o2;simpa only [World.size_alloc] using this
set_option maxHeartbeats 8000000 in
set_option maxRecDepth 1000000 in
theorem gauge_Sheet.calls (k : Nat) (A0 : Option Addr) (c0 : Nat) (l0 : List (S49)) (a1 : Int) (A2 : Option Addr) (c2 : Nat) (l2 : List (S34)) (A3 : Option Addr) (c3 : Nat) (l3 : List (List (S32))) (r1 : Int) (r2 : Int) (r3 : Int) (w : World) (hr0 : Kd.C k49 w A0 l0.length l0) (hc0 : l0.length ≤ c0) (hr2 : Kd.C k34 w A2 l2.length l2) (hc2 : l2.length ≤ c2) (hr3 : Kd.C (Kd.slice 32 k32) w A3 l3.length l3) (hc3 : l3.length ≤ c3) (h : gauge_Sheet.f k l0 a1 l2 l3 = some (r1,r2,r3)) :
  Calls Try.prog 27 #[.slice A0 l0.length c0,.int .i64 a1,.slice A2 l2.length c2,.slice A3 l3.length c3] w fun e w' => e = .returned (.tuple #[.int .i64 r1,.int .i64 r2,.int .i64 r3]) ∧ Below w.heap.size w w' := by
 have HR0 := aM_ hr0
 have HR2 := aM_ hr2
 have HR3 := aM_ hr3
 clear hr0 hr2 hr3
 have HCK : Aside0 (gauge_Check.f l0 = some (checkP l0)) := ⟨rfl⟩
 obtain ⟨W0,hW,bw,hsz,f4,f5,f7⟩ := boxes3_new w (.cells #[.slice A0 l0.length c0] 25) (.cells #[.int .i64 a1] 3) (.cells #[.slice A3 l3.length c3] 51)
 have HW := aM_ hW
 have BW := aM_ bw
 have HSZ := aM_ hsz
 have F4 := aM_ f4
 have F5 := aM_ f5
 have F7 := aM_ f7
 have q4 := (blk_cell f4 0).trans rfl
 clear hW bw hsz f4 f5 f7
 unfold gauge_Sheet.f at h
 have H := aM_ h
 clear h
 generalize hck : checkP l0 = ck at HCK H
 go_enter Try.func27,Try.ntmps27
 go_wp2_with (fail)
 rw [HW.out]
 clear HW
 (with_reducible refine (gauge_Check.calls A0 c0 l0 ck W0 (Kd.C_below HR0.out BW.out) hc0 HCK.out).mono ?_)
 rintro e w1 ⟨rfl,hb1⟩
 have HB1 := aM_ hb1
 have q4' : w1.cell? ⟨w.heap.size,0,none⟩ = some (.slice A0 l0.length c0) := (blk_cell (kB_ F4.out hb1) 0).trans rfl
 have q5' : w1.cell? ⟨w.heap.size + 1,0,none⟩ = some (.int .i64 a1) := (blk_cell (kB_ F5.out hb1) 0).trans rfl
 clear hb1 q4 hck HCK
 have h := H.out
 clear H
 by_cases c1 : ck = 0
 case neg =>
  rw [if_pos c1] at h
  cases h
  go_wp2_with (fail)
  go_ret3
  exact ⟨rfl,bT_ BW.out HB1.out⟩
 rw [if_neg (by omega)] at h
 subst c1
 by_cases c2' : a1 < 0 ∨ a1 > 1000000000
 ·rw [if_pos c2'] at h
  cases h
  have HO := aM_ (outside_true c2')
  clear c2'
  go_wp2_with (fail)
  (with_reducible refine (gauge_outside.calls a1 0 1000000000 true _ HO.out).mono ?_)
  rintro e w2 ⟨rfl,⟨nd,rfl⟩⟩
  go_wp2_with (fail)
  go_ret3
  exact ⟨rfl,bT_ BW.out (bN_ HB1.out nd)⟩
 rw [if_neg c2'] at h
 have HO := aM_ (outside_false (n := a1) (lo := 0) (hi := 1000000000) (by omega))
 clear c2'
 have H := aM_ h
 clear h
 go_wp2_with (fail)
 (with_reducible refine (gauge_outside.calls a1 0 1000000000 false _ HO.out).mono ?_)
 rintro e w2 ⟨rfl,⟨nd,rfl⟩⟩
 obtain ⟨w2,hw2⟩ : ∃ W,W = w1.drewN nd := ⟨_,rfl⟩
 rw [← hw2]
 have hb2 : Below W0.heap.size W0 w2 := by rw [hw2];exact bN_ HB1.out nd
 clear hw2 q4' q5' HB1 HO
 have HB2 := aM_ hb2
 have q7 := (blk_cell (kB_ F7.out hb2) 0).trans rfl
 have h := H.out
 clear H hb2
 by_cases c3' : l2.length > 20
 ·rw [if_pos c3'] at h
  cases h
  have b1 : (20 : Int) < (l2.length : Int) := by omega
  go_wp2_with (fail)
  go_ret3
  exact ⟨rfl,bT_ BW.out HB2.out⟩
 rw [if_neg c3'] at h
 have b1 : ¬ (20 : Int) < (l2.length : Int) := by omega
 by_cases c4' : l3.length ≠ l2.length
 ·rw [if_pos c4'] at h
  cases h
  have b2 : ¬ (l3.length : Int) = (l2.length : Int) := by omega
  go_wp2_with (fail)
  go_ret3
  exact ⟨rfl,bT_ BW.out HB2.out⟩
 rw [if_neg c4'] at h
 have hll : l3.length = l2.length := by omega
 have b2 : (l3.length : Int) = (l2.length : Int) := by omega
 have hsz2 := HB2.out.size
 have hs0 := HSZ.out
 have H0 : Aside0 (SheetAt A0 c0 l0 a1 A3 c3 l3 w.heap.size (w.heap.size + 1) (w.heap.size + 1 + 1) w2.heap.size w 0 (w2.alloc (.cells #[.int .i64 (-1)] 3))) :=
  ⟨⟨kA_ (kB_ F4.out HB2.out) _,kA_ (kB_ F5.out HB2.out) _,kA_ (kB_ F7.out HB2.out) _,blk_new w2 _,bA_ (bT_ BW.out HB2.out) _⟩⟩
 have eg := enters_of Try.func58 (by kernel_rfl) rfl
 have HC := aM_ (gauge_worst.calls 58 #[.pointer (some ⟨w2.heap.size,0,none⟩),.pointer (some ⟨w.heap.size,0,none⟩),.pointer (some ⟨w.heap.size + 1,0,none⟩),.pointer (some ⟨w.heap.size + 1 + 1,0,none⟩)] A2 c2 l2 (sheetT k l0 a1 l2 l3) r1 r2 r3 (w2.alloc (.cells #[.int .i64 (-1)] 3))
  (SheetAt A0 c0 l0 a1 A3 c3 l3 w.heap.size (w.heap.size + 1) (w.heap.size + 1 + 1) w2.heap.size w) eg (by omega) (fun i W W' hS hB => hS.below hB) (fun i W hS => Kd.C_below HR2.out hS.bw)
  (fun i W v e hi hS ht => gauge_Sheet_1.calls k A0 c0 l0 a1 A3 c3 l3 w.heap.size (w.heap.size + 1) (w.heap.size + 1 + 1) w2.heap.size w i _ _ v e W HR0.out hc0 HR3.out (by omega) (by omega) (by omega) (by omega) (by omega) (by omega) hS ht) H0.out h)
 clear h HR0 HR2 HR3 F4 F5 F7 HB2 BW HSZ H0 hs0 hsz2 eg c3' c4' hll
 go_wp2_with (fail)
 (with_reducible refine HC.out.mono ?_)
 rintro e w3 ⟨rfl,i,hS⟩
 have HS := aM_ hS.bw
 clear hS HC
 go_wp2_with (fail)
 go_ret3
 exact ⟨rfl,HS.out⟩

--HAND
/-! ### thermionlaw07.widers,by hand: function 29 -/
/-! ### a region that draws its order,with edges that do not bind -/
theorem wp_region_alln {P : Program} {id : Nat} {ops : Array Oper} {Q : Exit → Act → World → Prop} {a : Act} {w : World} (n : Nat) (hm : P.follows .mixedOrders = true) (hn : ops.size = n)
  (hback : (List.range n).all (fun i => ((ops[i]?).map (fun o => o.after.all fun e => !(Region.binds .any e) || decide (e.on < i))).getD false) = true)
  (I : Array Bool → Act → World → Prop) (h0 : I (Array.replicate n false) a w.drew)
  (hstep : ∀ (i : Nat) (o : Oper),i < n → ops[i]? = some o → ∀ (L : Array Bool) (a : Act) (w : World),I L a w → L.size = n → L.getD i true = false →
   (∀ e ∈ o.after,Region.binds .any e = true → L.getD e.on false = true) → wpOp P ops Q i (fun a' w' => I (L.setIfInBounds i true) a' w') a w)
  (hend : ∀ (L : Array Bool) (a : Act) (w : World),I L a w → (∀ i,i < n → L.getD i false = true) → Q .normal a w) :
  (Code.region id ops true).wp P Q a w := by
 refine wp_region_any hm ?_
 have go : ∀ (fuel : Nat) (L : Array Bool) (a : Act) (w : World),L.size = n → L.count false ≤ fuel → I L a w → wpAny P .any ops Q fuel L a w := by
  have all : ∀ (L : Array Bool),L.size = n → Region.ready .any ops L = [] → ∀ i,i < n → L.getD i false = true := by
   intro L hL hr i
   induction i using Nat.strongRecOn with
   | _ i ih =>
    intro hi
    by_cases hc : L.getD i false = true
    ·exact hc
    ·exfalso
     have hb := List.all_eq_true.1 hback i (List.mem_range.2 hi)
     obtain ⟨o,ho⟩ : ∃ o,ops[i]? = some o := ⟨ops[i]'(by omega),Array.getElem?_eq_getElem (by omega)⟩
     rw [ho,Option.map_some,Option.getD_some,Array.all_eq_true_iff_forall_mem] at hb
     have : i ∈ Region.ready .any ops L := mem_ready.2 ⟨by
      have h1 : i < L.size := by omega
      simp [h1] at hc ⊢
      exact hc,o,ho,fun e he hbe => by
      have h3 := hb e he
      rw [hbe,Bool.not_true,Bool.false_or,decide_eq_true_eq] at h3
      exact ih e.on h3 (by omega)⟩
     rw [hr] at this
     cases this
  have next : ∀ (fuel : Nat) (L : Array Bool) (i : Nat),L.size = n → i < n → L.getD i true = false → L.count false ≤ fuel + 1 → (L.setIfInBounds i true).count false ≤ fuel := by
   intro fuel L i hL hi hf hc
   have h1 : i < L.size := by omega
   have hv : L[i] = false := by simpa [h1] using hf
   rw [Array.setIfInBounds,dif_pos h1,Array.count_set h1,hv]
   have : 0 < L.count false := Array.count_pos_iff.2 (hv ▸ Array.getElem_mem h1)
   simp
   omega
  intro fuel
  induction fuel with
  | zero =>
   intro L a w hL hc hI
   have hall : ∀ i,i < n → L.getD i false = true := by
    intro i hi'
    have h1 : i < L.size := by omega
    have := Array.count_eq_zero.1 (Nat.le_zero.1 hc)
    simp [h1]
    cases hv : L[i] with
    | true => rfl
    | false => exact absurd (hv ▸ Array.getElem_mem h1) this
   refine ⟨?_,hend L a w hI hall⟩
   rw [List.eq_nil_iff_forall_not_mem]
   intro i hr
   obtain ⟨h1,o,ho,_⟩ := mem_ready.1 hr
   have h2 : i < n := by rw [← hn];exact (Array.getElem?_eq_some_iff.1 ho).1
   have h3 := hall i h2
   have h4 : i < L.size := by omega
   simp [h4] at h1 h3
   rw [h1] at h3
   cases h3
  | succ fuel ih =>
   intro L a w hL hc hI
   refine ⟨fun hr => hend L a w hI (all L hL hr),fun i hr => ?_⟩
   obtain ⟨h1,o,ho,hall⟩ := mem_ready.1 hr
   have h2 : i < n := by rw [← hn];exact (Array.getElem?_eq_some_iff.1 ho).1
   exact wpOp_mono (fun a' w' hI' => ih _ a' w' (by simp [hL]) (next fuel L i hL h2 h1 hc) hI') (hstep i o h2 ho L a w hI hL h1 hall)
 rw [hn]
 exact go _ _ _ _ (by simp) (by simp) h0
/-! ### for the laws' walks -/
theorem keep_cellb {w w' : World} {g b i : Nat} {cs : Array Value} {t : TypeId} {v : Value} (hk : KeepBut w w' g none) (hb : b ≠ g) (h : w.heap[b]? = some (.cells cs t (0,0))) (hv : cs[i]? = some v) : w'.cell? ⟨b,i,none⟩ = some v := by
 rw [blk_cell (keep_blk hk hb h) i];exact hv
def Vars (g : Nat) (bs : List (Nat × Int × Int)) (W : World) : Prop := ∀ x ∈ bs,x.1 ≠ g ∧ W.heap[x.1]? = some (.cells #[.int .i64 x.2.1,.int .i64 x.2.2] 34 (0,0))
theorem Vars.keep {g : Nat} {bs : List (Nat × Int × Int)} {W W' : World} (h : Vars g bs W) (hk : KeepBut W W' g none) : Vars g bs W' := fun x hx => ⟨(h x hx).1,keep_blk hk (h x hx).1 (h x hx).2⟩
theorem Vars.nil (g : Nat) (W : World) : Vars g [] W := fun x hx => by cases hx
theorem Vars.cons {g b : Nat} {p q : Int} {bs : List (Nat × Int × Int)} {W : World} (hb : b ≠ g) (hc : W.heap[b]? = some (.cells #[.int .i64 p,.int .i64 q] 34 (0,0))) (h : Vars g bs W) : Vars g ((b,p,q) :: bs) W := fun x hx => by
 rcases List.mem_cons.1 hx with rfl | hx
 ·exact ⟨hb,hc⟩
 ·exact h x hx
theorem Vars.lo {g : Nat} {bs : List (Nat × Int × Int)} {W : World} (h : Vars g bs W) (k : Nat) {b : Nat} {p q : Int} (hx : bs[k]? = some (b,p,q)) : ∀ W',KeepBut W W' g none → W'.cell? ⟨b,0,none⟩ = some (.int .i64 p) := fun _ hk => keep_cellb hk (h _ (List.mem_of_getElem? hx)).1 (h _ (List.mem_of_getElem? hx)).2 rfl
theorem Vars.hi {g : Nat} {bs : List (Nat × Int × Int)} {W : World} (h : Vars g bs W) (k : Nat) {b : Nat} {p q : Int} (hx : bs[k]? = some (b,p,q)) : ∀ W',KeepBut W W' g none → W'.cell? ⟨b,1,none⟩ = some (.int .i64 q) := fun _ hk => keep_cellb hk (h _ (List.mem_of_getElem? hx)).1 (h _ (List.mem_of_getElem? hx)).2 rfl
theorem Vars.new {g : Nat} {bs : List (Nat × Int × Int)} {W : World} (h : Vars g bs W) (hg : g < W.heap.size) (p q : Int) : Vars g ((W.heap.size,p,q) :: bs) (W.alloc (.cells #[.int .i64 p,.int .i64 q] 34)) :=
 Vars.cons (by omega) (blk_new W _) (h.keep (KeepBut.of_below (bA_ (Below.refl _ _) _) g none))
theorem run_field_34_0 {ρ : Operand → Value} {o : Oper} {x : Operand} {p : Addr} (w : World) (h : o.op = .fieldAddr 34 x 0) (hx : ρ x = .pointer (some p)) :
  (execOp ρ o).run Try.prog w = .ok (.value (.pointer (some p))) w := by
 have hu34 := Try.underlying34
 unfold execOp;rw [h];simp only [hx];clear h hx
 go_simp
theorem run_load_3 {ρ : Operand → Value} {o : Oper} {x : Operand} {p : Addr} {v : Value} (w : World) (h : o.op = .load 3 x) (hx : ρ x = .pointer (some p)) (hc : w.cell? p = some v) :
  (execOp ρ o).run Try.prog w = .ok (.value v) w := by
 have hu := Try.underlying3
 unfold execOp;rw [h];simp only [hx];clear h hx
 go_simp
theorem run_field_34_1 {ρ : Operand → Value} {o : Oper} {x : Operand} {p : Addr} (w : World) (h : o.op = .fieldAddr 34 x 1) (hx : ρ x = .pointer (some p)) :
  (execOp ρ o).run Try.prog w = .ok (.value (.pointer (some ⟨p.block,p.off + 1,none⟩))) w := by
 have hu34 := Try.underlying34
 unfold execOp;rw [h];simp only [hx];clear h hx
 go_simp
set_option maxHeartbeats 8000000 in
set_option maxRecDepth 100000 in
theorem Widers.region3 (b5 : Nat) (xa xb : Int) {ops : Array Oper} (hops : (Try.f29.body.bind (regionOf 3)) = some ops) {Q : Exit → Act → World → Prop} {ds : List Deferred} {id : Nat} (g : Nat) (s0 s1 s2 : Int) (v0 : Int) (v1 : Int) {x0 x1 x2 x4 x6 x7 x8 x9 x10 x11 x12 x13 x14 x15 x16 x17 x18 x19 x20 x21 x22 x23 x24 x25 x26 x27 x28 x29 x30 x31 x32 x33 x34 x35 x36 x37 x38 x39 x40 x41 x42 x43 x44 x45 x46 x47 x48 x49 x50 x51 x52 x53 x54 x55 x56 x57 x58 x59 x60 x61 x62 x63 x64 x65 x66 x67 x68 x69 x70 x71 x72 x73 x74 x75 : Value} (w0 : World) {w : World} (hI : IsS65 w0 w g s0) (hb0 : Below w0.heap.size w0 w) (hx : -50 ≤ xa ∧ xa ≤ 50 ∧ -50 ≤ xb ∧ xb ≤ 50) (h0 : 0 ≤ v0 ∧ v0 < 20) (h1 : 0 ≤ v1 ∧ v1 < 20) (q0 : ∀ W,KeepBut w W g none → W.cell? ⟨b5,0,none⟩ = some (.int .i64 xa)) (q1 : ∀ W,KeepBut w W g none → W.cell? ⟨b5,1,none⟩ = some (.int .i64 xb)) (e0 : D_Upto.f s0 20 = some (v0,s1)) (e1 : D_Upto.f s1 20 = some (v1,s2))
  (K : ∀ (u17 u18 u19 u20 u21 u22 u23 u24 u25 u26 u27 : Value) (b6 : Nat) (w' : World),IsS65 w0 w' g s2 → Below w0.heap.size w0 w' → KeepBut w w' g none → b6 ≠ g → w.heap.size ≤ b6 → w'.heap[b6]? = some (.cells #[.int .i64 (xa - v0),.int .i64 (xb + v1)] 34 (0,0)) → Q .normal { tmps := (x0 :: x1 :: x2 :: .pointer (some ⟨g,0,none⟩) :: x4 :: .pointer (some ⟨b5,0,none⟩) :: .pointer (some ⟨b6,0,none⟩) :: x7 :: x8 :: x9 :: x10 :: x11 :: x12 :: x13 :: x14 :: x15 :: x16 :: u17 :: u18 :: u19 :: u20 :: u21 :: u22 :: u23 :: u24 :: u25 :: u26 :: u27 :: x28 :: x29 :: x30 :: x31 :: x32 :: x33 :: x34 :: x35 :: x36 :: x37 :: x38 :: x39 :: x40 :: x41 :: x42 :: x43 :: x44 :: x45 :: x46 :: x47 :: x48 :: x49 :: x50 :: x51 :: x52 :: x53 :: x54 :: x55 :: x56 :: x57 :: x58 :: x59 :: x60 :: x61 :: x62 :: x63 :: x64 :: x65 :: x66 :: x67 :: x68 :: x69 :: x70 :: x71 :: x72 :: x73 :: x74 :: x75 :: []).toArray,defers := ds } w') :
  (Code.region id ops true).wp Try.prog Q { tmps := (x0 :: x1 :: x2 :: .pointer (some ⟨g,0,none⟩) :: x4 :: .pointer (some ⟨b5,0,none⟩) :: x6 :: x7 :: x8 :: x9 :: x10 :: x11 :: x12 :: x13 :: x14 :: x15 :: x16 :: x17 :: x18 :: x19 :: x20 :: x21 :: x22 :: x23 :: x24 :: x25 :: x26 :: x27 :: x28 :: x29 :: x30 :: x31 :: x32 :: x33 :: x34 :: x35 :: x36 :: x37 :: x38 :: x39 :: x40 :: x41 :: x42 :: x43 :: x44 :: x45 :: x46 :: x47 :: x48 :: x49 :: x50 :: x51 :: x52 :: x53 :: x54 :: x55 :: x56 :: x57 :: x58 :: x59 :: x60 :: x61 :: x62 :: x63 :: x64 :: x65 :: x66 :: x67 :: x68 :: x69 :: x70 :: x71 :: x72 :: x73 :: x74 :: x75 :: []).toArray,defers := ds } w := by
 obtain rfl := Option.some.inj (show some _ = some ops from hops)
 have hn : (([(17,.val (.pointer (some (⟨b5,0,none⟩)))),(18,.val (.int .i64 xa)),(19,.val (.pointer (some ⟨g,0,none⟩))),(20,.val (.int .i64 v0)),(21,.val (.int .i64 (xa - v0))),(22,.val (.pointer (some (⟨b5,1,none⟩)))),(23,.val (.int .i64 xb)),(24,.val (.pointer (some ⟨g,0,none⟩))),(25,.val (.int .i64 v1)),(26,.val (.int .i64 (xb + v1))),(27,.val (.agg #[.int .i64 (xa - v0),.int .i64 (xb + v1)])),(6,.var 34 #[.int .i64 0,.int .i64 0] 12 #[.int .i64 (xa - v0),.int .i64 (xb + v1)]),(1012,.set 11)] : List (Nat × Left)).map (·.1)).Nodup := by simp only [List.map_cons,List.map_nil];decide
 have hcn : ([3,8] : List Nat).Nodup := by decide
 refine wp_region_alln 13 (by kernel_rfl) rfl (by kernel_rfl) (DiceAt g (fun k => ([s0,s1,s2] : List Int).getD k 0) [3,8] [(17,.val (.pointer (some (⟨b5,0,none⟩)))),(18,.val (.int .i64 xa)),(19,.val (.pointer (some ⟨g,0,none⟩))),(20,.val (.int .i64 v0)),(21,.val (.int .i64 (xa - v0))),(22,.val (.pointer (some (⟨b5,1,none⟩)))),(23,.val (.int .i64 xb)),(24,.val (.pointer (some ⟨g,0,none⟩))),(25,.val (.int .i64 v1)),(26,.val (.int .i64 (xb + v1))),(27,.val (.agg #[.int .i64 (xa - v0),.int .i64 (xb + v1)])),(6,.var 34 #[.int .i64 0,.int .i64 0] 12 #[.int .i64 (xa - v0),.int .i64 (xb + v1)]),(1012,.set 11)] w0 w ((x0 :: x1 :: x2 :: .pointer (some ⟨g,0,none⟩) :: x4 :: .pointer (some ⟨b5,0,none⟩) :: x6 :: x7 :: x8 :: x9 :: x10 :: x11 :: x12 :: x13 :: x14 :: x15 :: x16 :: x17 :: x18 :: x19 :: x20 :: x21 :: x22 :: x23 :: x24 :: x25 :: x26 :: x27 :: x28 :: x29 :: x30 :: x31 :: x32 :: x33 :: x34 :: x35 :: x36 :: x37 :: x38 :: x39 :: x40 :: x41 :: x42 :: x43 :: x44 :: x45 :: x46 :: x47 :: x48 :: x49 :: x50 :: x51 :: x52 :: x53 :: x54 :: x55 :: x56 :: x57 :: x58 :: x59 :: x60 :: x61 :: x62 :: x63 :: x64 :: x65 :: x66 :: x67 :: x68 :: x69 :: x70 :: x71 :: x72 :: x73 :: x74 :: x75 :: []).toArray) ds) (DiceAt.start (n := 13) rfl hI hb0) ?_ ?_
 ·intro i o hi ho L a w h hL hf hall
  have hcase : i = 0 ∨ i = 1 ∨ i = 2 ∨ i = 3 ∨ i = 4 ∨ i = 5 ∨ i = 6 ∨ i = 7 ∨ i = 8 ∨ i = 9 ∨ i = 10 ∨ i = 11 ∨ i = 12 := by omega
  clear hi K
  rcases hcase with rfl | rfl | rfl | rfl | rfl | rfl | rfl | rfl | rfl | rfl | rfl | rfl | rfl
  ·obtain rfl := Option.some.inj (show some _ = some o from ho)
   have f5 : a.tmps.getD 5 undef = .pointer (some ⟨b5,0,none⟩) := h.rest 5 rfl
   exact h.op ho rfl rfl rfl hn (Nat.lt_of_lt_of_eq (by decide : 17 < 76) rfl) rfl (run_field_34_0 w rfl f5) (Below.refl _ _) rfl rfl
  ·obtain rfl := Option.some.inj (show some _ = some o from ho)
   have l0 := listed_of hall 0 rfl
   have f17 : a.tmps.getD 17 undef = .pointer (some (⟨b5,0,none⟩)) := h.facts 0 _ _ rfl l0
   exact h.op ho rfl rfl rfl hn (Nat.lt_of_lt_of_eq (by decide : 18 < 76) rfl) rfl (run_load_3 w rfl f17 (q0 _ h.keep)) (Below.refl _ _) rfl rfl
  ·obtain rfl := Option.some.inj (show some _ = some o from ho)
   have f3 : a.tmps.getD 3 undef = .pointer (some ⟨g,0,none⟩) := h.rest 3 rfl
   exact h.op ho rfl rfl rfl hn (Nat.lt_of_lt_of_eq (by decide : 19 < 76) rfl) rfl (run_move w rfl f3) (Below.refl _ _) rfl rfl
  ·obtain rfl := Option.some.inj (show some _ = some o from ho)
   have l2 := listed_of hall 2 rfl
   have f19 : a.tmps.getD 19 undef = .pointer (some ⟨g,0,none⟩) := h.facts 2 _ _ rfl l2
   exact h.call (f := 13) (args := #[.pointer (some ⟨g,0,none⟩),.int .i64 20]) ho rfl rfl rfl hn (Nat.lt_of_lt_of_eq (by decide : 20 < 76) rfl) (j := 0) rfl hcn hf rfl (fun _ h0 _ => absurd rfl h0) (by rw [hL];rfl) (run_call w rfl rfl (by simp only [List.map_toArray,List.map_cons,List.map_nil];rw [show a.eval (.tmp 19) = _ from f19];rfl) (enters_of Try.func13 (by kernel_rfl) rfl) rfl) (fun hI hB => D_Upto.calls g s0 20 v0 s1 w0 w hI hB e0)
  ·obtain rfl := Option.some.inj (show some _ = some o from ho)
   have l1 := listed_of hall 1 rfl
   have f18 : a.tmps.getD 18 undef = .int .i64 xa := h.facts 1 _ _ rfl l1
   have l3 := listed_of hall 3 rfl
   have f20 : a.tmps.getD 20 undef = .int .i64 v0 := h.facts 3 _ _ rfl l3
   exact h.op ho rfl rfl rfl hn (Nat.lt_of_lt_of_eq (by decide : 21 < 76) rfl) rfl (run_sub w rfl f18 f20 (by omega) (by omega)) (Below.refl _ _) rfl rfl
  ·obtain rfl := Option.some.inj (show some _ = some o from ho)
   have f5 : a.tmps.getD 5 undef = .pointer (some ⟨b5,0,none⟩) := h.rest 5 rfl
   exact h.op ho rfl rfl rfl hn (Nat.lt_of_lt_of_eq (by decide : 22 < 76) rfl) rfl (run_field_34_1 w rfl f5) (Below.refl _ _) rfl rfl
  ·obtain rfl := Option.some.inj (show some _ = some o from ho)
   have l5 := listed_of hall 5 rfl
   have f22 : a.tmps.getD 22 undef = .pointer (some (⟨b5,1,none⟩)) := h.facts 5 _ _ rfl l5
   exact h.op ho rfl rfl rfl hn (Nat.lt_of_lt_of_eq (by decide : 23 < 76) rfl) rfl (run_load_3 w rfl f22 (q1 _ h.keep)) (Below.refl _ _) rfl rfl
  ·obtain rfl := Option.some.inj (show some _ = some o from ho)
   have f3 : a.tmps.getD 3 undef = .pointer (some ⟨g,0,none⟩) := h.rest 3 rfl
   exact h.op ho rfl rfl rfl hn (Nat.lt_of_lt_of_eq (by decide : 24 < 76) rfl) rfl (run_move w rfl f3) (Below.refl _ _) rfl rfl
  ·obtain rfl := Option.some.inj (show some _ = some o from ho)
   have l7 := listed_of hall 7 rfl
   have f24 : a.tmps.getD 24 undef = .pointer (some ⟨g,0,none⟩) := h.facts 7 _ _ rfl l7
   exact h.call (f := 13) (args := #[.pointer (some ⟨g,0,none⟩),.int .i64 20]) ho rfl rfl rfl hn (Nat.lt_of_lt_of_eq (by decide : 25 < 76) rfl) (j := 1) rfl hcn hf rfl (fun i' _ e => by obtain rfl := Option.some.inj (show some _ = some i' from e);exact listed_of hall 3 rfl) (by rw [hL];rfl) (run_call w rfl rfl (by simp only [List.map_toArray,List.map_cons,List.map_nil];rw [show a.eval (.tmp 24) = _ from f24];rfl) (enters_of Try.func13 (by kernel_rfl) rfl) rfl) (fun hI hB => D_Upto.calls g s1 20 v1 s2 w0 w hI hB e1)
  ·obtain rfl := Option.some.inj (show some _ = some o from ho)
   have l6 := listed_of hall 6 rfl
   have f23 : a.tmps.getD 23 undef = .int .i64 xb := h.facts 6 _ _ rfl l6
   have l8 := listed_of hall 8 rfl
   have f25 : a.tmps.getD 25 undef = .int .i64 v1 := h.facts 8 _ _ rfl l8
   exact h.op ho rfl rfl rfl hn (Nat.lt_of_lt_of_eq (by decide : 26 < 76) rfl) rfl (run_add w rfl f23 f25 (by omega) (by omega)) (Below.refl _ _) rfl rfl
  ·obtain rfl := Option.some.inj (show some _ = some o from ho)
   have l4 := listed_of hall 4 rfl
   have f21 : a.tmps.getD 21 undef = .int .i64 (xa - v0) := h.facts 4 _ _ rfl l4
   have l9 := listed_of hall 9 rfl
   have f26 : a.tmps.getD 26 undef = .int .i64 (xb + v1) := h.facts 9 _ _ rfl l9
   exact h.other (f := 24) (args := #[.int .i64 (xa - v0),.int .i64 (xb + v1)]) ho rfl rfl rfl hn (Nat.lt_of_lt_of_eq (by decide : 27 < 76) rfl) rfl rfl (run_call w rfl rfl (by simp only [List.map_toArray,List.map_cons,List.map_nil];rw [show a.eval (.tmp 21) = _ from f21];rw [show a.eval (.tmp 26) = _ from f26];first | done | rfl) (enters_of Try.func24 (by kernel_rfl) rfl) rfl) (L_span.calls (xa - v0) (xb + v1) (xa - v0) (xb + v1) w rfl)
  ·obtain rfl := Option.some.inj (show some _ = some o from ho)
   exact h.var ho rfl rfl rfl rfl hn (Nat.lt_of_lt_of_eq (by decide : 6 < 76) rfl) rfl rfl hf (run_var2 w rfl)
  ·obtain rfl := Option.some.inj (show some _ = some o from ho)
   have l10 := listed_of hall 10 rfl
   have f27 : a.tmps.getD 27 undef = .agg #[.int .i64 (xa - v0),.int .i64 (xb + v1)] := h.facts 10 _ _ rfl l10
   have l11 := listed_of hall 11 rfl
   exact h.store ho rfl rfl rfl rfl rfl hb0.size (by rw [hL];decide) rfl hf l11 (fun b p q => run_store2 rfl p f27 q)
 ·intro L a w' h hall
  obtain ⟨b6,b1_6,bn_6,b2_6,b3_6⟩ := h.facts 11 _ _ rfl (hall 11 (by omega))
  rw [if_pos (hall 12 (by omega))] at b3_6
  have hD : IsS65 w0 w' g s2 := h.done (by simp only [List.mem_cons,List.not_mem_nil,or_false];intro i hi;exact hall i (by omega))
  have e := h.frame (fun t => if t = 6 then .pointer (some ⟨b6,0,none⟩) else a.tmps.getD t undef) (by
   intro x hx _
   simp only [List.mem_cons,List.not_mem_nil,or_false] at hx
   rcases hx with rfl | rfl | rfl | rfl | rfl | rfl | rfl | rfl | rfl | rfl | rfl | rfl | rfl
   all_goals first | rfl | assumption)
  have k := K (a.tmps.getD 17 undef) (a.tmps.getD 18 undef) (a.tmps.getD 19 undef) (a.tmps.getD 20 undef) (a.tmps.getD 21 undef) (a.tmps.getD 22 undef) (a.tmps.getD 23 undef) (a.tmps.getD 24 undef) (a.tmps.getD 25 undef) (a.tmps.getD 26 undef) (a.tmps.getD 27 undef) b6 w' hD h.below h.keep b1_6 bn_6 b3_6
  clear K
  simp only [List.foldl_cons,List.foldl_nil,sB_,sS_,sZ_,List.set_nil,Nat.reduceEqDiff,reduceIte] at e
  rw [e]
  exact k
theorem verdict_wide {ra rb ia ib la lb u v : Int} (h0 : ra ≤ ia) (h1 : ia ≤ ib) (h2 : ib ≤ rb) (h3 : la ≤ lb) (hu : 0 ≤ u) (hv : 0 ≤ v) :
  (verdictP ra rb la lb = 1 ∧ verdictP ra rb (la - u) (lb + v) = 1 ∧ verdictP ia ib la lb = 1) ∨ (verdictP ra rb la lb = 2 ∧ verdictP ia ib la lb = 2 ∧ (verdictP ra rb (la - u) (lb + v) = 1 ∨ verdictP ra rb (la - u) (lb + v) = 2 ∨ verdictP ra rb (la - u) (lb + v) = 3)) ∨
   (verdictP ra rb la lb = 3 ∧ (verdictP ra rb (la - u) (lb + v) = 1 ∨ verdictP ra rb (la - u) (lb + v) = 3) ∧ (verdictP ia ib la lb = 1 ∨ verdictP ia ib la lb = 2 ∨ verdictP ia ib la lb = 3)) := by
 have e : ∀ a b c d : Int,a ≤ b → c ≤ d → (verdictP a b c d = 1 ∧ a ≥ c ∧ b ≤ d) ∨ (verdictP a b c d = 2 ∧ (b < c ∨ a > d)) ∨ (verdictP a b c d = 3 ∧ ¬ (a ≥ c ∧ b ≤ d) ∧ ¬ (b < c ∨ a > d)) := by
  intro a b c d h1 h2
  unfold verdictP
  rw [if_neg (by omega)]
  by_cases h3 : a ≥ c ∧ b ≤ d
  ·rw [if_pos h3];exact .inl ⟨rfl,h3.1,h3.2⟩
  ·rw [if_neg h3]
   by_cases h4 : b < c ∨ a > d
   ·rw [if_pos h4];exact .inr (.inl ⟨rfl,h4⟩)
   ·rw [if_neg h4];exact .inr (.inr ⟨rfl,h3,h4⟩)
 have a1 := e ra rb la lb (by omega) h3
 have a2 := e ra rb (la - u) (lb + v) (by omega) (by omega)
 have a3 := e ia ib la lb h1 h3
 generalize verdictP ra rb la lb = p at *
 generalize verdictP ra rb (la - u) (lb + v) = q at *
 generalize verdictP ia ib la lb = s at *
 omega
def L_widers.f (l0 : List Int) : Option Bool := if l0.length ≤ 9223372036854775807 then some true else none
set_option maxHeartbeats 8000000 in
set_option maxRecDepth 100000 in
theorem L_widers.calls (A0 : Option Addr) (c0 : Nat) (l0 : List Int) (r : Bool) (w : World) (hr0 : Kd.C (Kd.int .i64) w A0 l0.length l0) (hc0 : l0.length ≤ c0) (h : L_widers.f l0 = some r) :
  Calls Try.prog 29 #[.slice A0 l0.length c0] w fun e w' => e = .returned (.bool r) ∧ Below w.heap.size w w' := by
 unfold L_widers.f at h
 split at h
 case isFalse => cases h
 rename_i hl
 obtain rfl := Option.some.inj h
 clear h
 have hu34 := Try.underlying34
 have HR0 := aM_ hr0
 clear hr0
 have HD := aM_ (show K_NewDice.f l0 = some (diceOf l0) by unfold K_NewDice.f;rw [if_pos hl])
 obtain ⟨ra,rb,s1,e1,r0,r1,r2⟩ := range_some (diceOf l0) (-50) 50 (by omega) (by omega) (by omega)
 obtain ⟨la,lb,s2,e2,l1,l2,l3⟩ := range_some s1 (-50) 50 (by omega) (by omega) (by omega)
 obtain ⟨u0,s3,e3,u00,u01⟩ := upto_some s2 20 (by omega) (by omega)
 obtain ⟨u1,s4,e4,u10,u11⟩ := upto_some s3 20 (by omega) (by omega)
 obtain ⟨ia,ib,s5,e5,i0,i1,i2⟩ := range_some s4 ra rb r1 (by omega) (by omega)
 have hcase := verdict_wide i0 i1 i2 l2 u00 u10
 have V1 := aM_ (fun W => gauge_Verdict.calls 3 ra rb la lb _ W (gauge_Verdict.eq 0 ra rb la lb))
 have V2 := aM_ (fun W => gauge_Verdict.calls 3 ra rb (la - u0) (lb + u1) _ W (gauge_Verdict.eq 0 ra rb (la - u0) (lb + u1)))
 have V3 := aM_ (fun W => gauge_Verdict.calls 3 ia ib la lb _ W (gauge_Verdict.eq 0 ia ib la lb))
 generalize verdictP ra rb la lb = p at V1 hcase
 generalize verdictP ra rb (la - u0) (lb + u1) = q at V2 hcase
 generalize verdictP ia ib la lb = s at V3 hcase
 have HCS := aM_ hcase
 have E1 := aM_ e1
 have E2 := aM_ e2
 have E3 := aM_ e3
 have E4 := aM_ e4
 have E5 := aM_ e5
 have HX := aM_ (show -50 ≤ la ∧ la ≤ 50 ∧ -50 ≤ lb ∧ lb ≤ 50 by omega)
 have HU := aM_ (And.intro (And.intro u00 u01) (And.intro u10 u11))
 clear hcase e1 e2 e3 e4 e5 r0 r1 r2 l1 l2 l3 u00 u01 u10 u11 i0 i1 i2 hl
 go_enter Try.func29,Try.ntmps29
 go_wp2_with (fail)
 (with_reducible refine (K_NewDice.calls _ _ l0 (diceOf l0) w _ (Below.refl _ _) HR0.out hc0 HD.out).mono ?_)
 rintro e w1 ⟨g,rfl,hi,hb,hb2⟩
 have HI1 := aM_ hi
 have HB1 := aM_ hb
 clear hi hb hb2 HD HR0
 go_wp2_with (fail)
 (with_reducible refine (D_Range.calls g (diceOf l0) (-50) 50 ra rb s1 w _ HI1.out HB1.out E1.out).mono ?_)
 rintro e w2 ⟨rfl,hi,hb,hk⟩
 have HI2 := aM_ hi
 have HB2 := aM_ hb
 clear hi hb hk HI1 HB1 E1
 go_wp2_with (fail)
 (with_reducible refine (D_Range.calls g s1 (-50) 50 la lb s2 w _ HI2.out HB2.out E2.out).mono ?_)
 rintro e w3 ⟨rfl,hi,hb,hk⟩
 have HI3 := aM_ hi
 have HB3 := aM_ hb
 clear hi hb hk HI2 HB2 E2
 go_wp2_with (fail)
 obtain ⟨w4,h4⟩ : ∃ W,(w3.alloc (.cells #[.int .i64 ra,.int .i64 rb] 34)).alloc (.cells #[.int .i64 la,.int .i64 lb] 34) = W := ⟨_,rfl⟩
 have b34 : Below w3.heap.size w3 w4 := by rw [← h4];exact bA_ (bA_ (Below.refl _ _) _) _
 have HV4 : Aside0 (Vars g [(w3.heap.size + 1,la,lb),(w3.heap.size,ra,rb)] w4) := ⟨by
  have h := ((Vars.nil g w3).new HI3.out.lt ra rb).new (by have := HI3.out.lt;simp;omega) la lb
  rw [h4,show (w3.alloc (.cells #[.int .i64 ra,.int .i64 rb] 34)).heap.size = w3.heap.size + 1 by simp] at h
  exact h⟩
 have HI4 := aM_ (IsS65.below HI3.out b34)
 have HB4 := aM_ (bT_ HB3.out b34)
 rw [h4]
 obtain ⟨b4,hb4⟩ : ∃ b,w3.heap.size = b := ⟨_,rfl⟩
 rw [hb4] at HV4 ⊢
 clear h4 b34 hb4 HI3 HB3
 refine Widers.region3 (b4 + 1) la lb (by kernel_rfl) g s2 s3 s4 u0 u1 w HI4.out HB4.out HX.out HU.out.1 HU.out.2 (HV4.out.lo 0 rfl) (HV4.out.hi 0 rfl) E3.out E4.out ?_
 intro u17 u18 u19 u20 u21 u22 u23 u24 u25 u26 u27 b6 w5 hi hb hk n6 ge6 c6
 have HV5 := aM_ (Vars.cons n6 c6 (HV4.out.keep hk))
 have HI5 := aM_ hi
 have HB5 := aM_ hb
 have z0 := HV5.out.lo 2 rfl w5 (KeepBut.refl _ _ _)
 have z1 := HV5.out.hi 2 rfl w5 (KeepBut.refl _ _ _)
 clear hi hb hk n6 ge6 c6 HI4 HB4 HV4 E3 E4 HX HU
 go_wp2_with (fail)
 (with_reducible refine (D_Range.calls g s4 ra rb ia ib s5 w _ HI5.out HB5.out E5.out).mono ?_)
 rintro e w6 ⟨rfl,hi,hb,hk⟩
 have HI6 := aM_ hi
 have HB6 := aM_ hb
 have HV6 := aM_ (HV5.out.keep hk)
 clear hi hb hk HI5 HB5 HV5 z0 z1
 go_wp2_with (fail)
 have HV7 := aM_ (HV6.out.new HI6.out.lt ia ib)
 obtain ⟨w7,h7⟩ : ∃ W,w6.alloc (.cells #[.int .i64 ia,.int .i64 ib] 34) = W := ⟨_,rfl⟩
 have HB7 : Aside0 (Below w.heap.size w w7) := ⟨by rw [← h7];exact bA_ HB6.out _⟩
 rw [h7] at HV7 ⊢
 obtain ⟨b7,hb7⟩ : ∃ b,w6.heap.size = b := ⟨_,rfl⟩
 rw [hb7] at HV7 ⊢
 clear h7 hb7 HI6 HB6 HV6
 have KS := aM_ (show ∀ W : World,Below w7.heap.size w7 W → (fun (W : World) => W.cell? ⟨b7,0,none⟩ = some (.int .i64 ia) ∧ W.cell? ⟨b7,1,none⟩ = some (.int .i64 ib) ∧ W.cell? ⟨b6,0,none⟩ = some (.int .i64 (la - u0)) ∧ W.cell? ⟨b6,1,none⟩ = some (.int .i64 (lb + u1)) ∧ W.cell? ⟨b4 + 1,0,none⟩ = some (.int .i64 la) ∧ W.cell? ⟨b4 + 1,1,none⟩ = some (.int .i64 lb) ∧ W.cell? ⟨b4,0,none⟩ = some (.int .i64 ra) ∧ W.cell? ⟨b4,1,none⟩ = some (.int .i64 rb)) W from fun W hB => by
  have hk : KeepBut w7 W g none := KeepBut.of_below hB g none
  exact ⟨HV7.out.lo 0 rfl W hk,HV7.out.hi 0 rfl W hk,HV7.out.lo 1 rfl W hk,HV7.out.hi 1 rfl W hk,HV7.out.lo 2 rfl W hk,HV7.out.hi 2 rfl W hk,HV7.out.lo 3 rfl W hk,HV7.out.hi 3 rfl W hk⟩)
 have HZ0 := aM_ (bD_ (Below.refl w7.heap.size w7))
 go_upto_region 5 with (fail)
 go_cut [8,9,10] (fun v8 v9 v10 wc => v8 = .int .i64 p ∧ v9 = .int .i64 q ∧ v10 = .int .i64 s ∧ Aside0 (Below w7.heap.size w7 wc))
 case first =>
  go_region_held (fun (W : World) => W.cell? ⟨b7,0,none⟩ = some (.int .i64 ia) ∧ W.cell? ⟨b7,1,none⟩ = some (.int .i64 ib) ∧ W.cell? ⟨b6,0,none⟩ = some (.int .i64 (la - u0)) ∧ W.cell? ⟨b6,1,none⟩ = some (.int .i64 (lb + u1)) ∧ W.cell? ⟨b4 + 1,0,none⟩ = some (.int .i64 la) ∧ W.cell? ⟨b4 + 1,1,none⟩ = some (.int .i64 lb) ∧ W.cell? ⟨b4,0,none⟩ = some (.int .i64 ra) ∧ W.cell? ⟨b4,1,none⟩ = some (.int .i64 rb)) (first | exact KS.out _ HZ3.out | exact KS.out _ HZ2.out | exact KS.out _ HZ1.out | exact KS.out _ HZ0.out) (first
   | (go_at_call 20;(with_reducible refine (V1.out _).mono ?_);rintro e w' ⟨rfl,hb⟩;have HZ1 := aM_ (bT_ HZ0.out hb);clear hb)
   | (go_at_call 20;(with_reducible refine (V2.out _).mono ?_);rintro e w' ⟨rfl,hb⟩;have HZ2 := aM_ (bT_ HZ1.out hb);clear hb)
   | (go_at_call 20;(with_reducible refine (V3.out _).mono ?_);rintro e w' ⟨rfl,hb⟩;have HZ3 := aM_ (bT_ HZ2.out hb);clear hb))
  all_goals (try simp [Act.put])
  all_goals go_wp2_with (fail)
  all_goals go_meet
  all_goals (case rel => exact ⟨rfl,rfl,rfl,HZ3⟩)
 case rest =>
 obtain ⟨rfl,rfl,rfl,HZ⟩ := hcut
 have HBF := aM_ (bT_ HB7.out HZ.out)
 clear HZ HZ0 KS HV7 HB7 V1 V2 V3 E5
 rcases HCS.out with ⟨rfl,rfl,rfl⟩ | ⟨rfl,rfl,rfl | rfl | rfl⟩ | ⟨rfl,rfl | rfl,rfl | rfl | rfl⟩
 all_goals
  clear HCS
  go_wp2_with (fail)
  go_ret
  exact ⟨rfl,HBF.out⟩

end Go.Proofs.Ytdbpobadeibjaab.GE
