-- written for this claim by a program of this session (wip/gp), over the kit's own printer; Lean checks it
import Derived.Test.YtdbpobadeibjaabGEx0
import Derived.Test.YtdbpobadeibjaabGEx10
import Derived.Test.YtdbpobadeibjaabGEx11
import Derived.Test.YtdbpobadeibjaabGEx16
namespace Go.Proofs.Ytdbpobadeibjaab.GE
open Go.RowKit Go.Proofs.YtdbpobadeibjaabW.PrintWords Go.Proofs.YtdbpobadeibjaabW.PrintLast Go.Proofs.YtdbpobadeibjaabW.PrintMore
attribute [local go_sem] max2_int min2_int max_two min_two max_three min_three max_four min_four
set_option linter.unusedVariables false
set_option linter.unusedSimpArgs false

--HAND
/-! ### gauge.few,by hand: function 72 -/
def fewSum (b d s : Nat) : Nat → Int
 | 0 => 0
 | n + 1 => fewSum b d s n + binom b n * binom d (s - n)
def fewP (lot bad sample most : Int) : Int := fewSum bad.toNat (lot - bad).toNat sample.toNat (min (min most bad) sample + 1).toNat
def FewOk (lot bad sample most : Int) : Prop := lot ≤ 50 ∧ 0 ≤ bad ∧ bad ≤ lot ∧ 0 ≤ sample ∧ sample ≤ lot ∧ 0 ≤ most
instance (lot bad sample most : Int) : Decidable (FewOk lot bad sample most) := by unfold FewOk;infer_instance
def gauge_few.f (a0 : Int) (a1 : Int) (a2 : Int) (a3 : Int) : Option (Int) := if FewOk a0 a1 a2 a3 then some (fewP a0 a1 a2 a3) else none
theorem term_bound (b d s n : Nat) (h : b + d ≤ 50) : 0 ≤ binom b n * binom d (s - n) ∧ binom b n * binom d (s - n) ≤ 1125899906842624 := by
 have h1 := binom_bound b n
 have h2 := binom_bound d (s - n)
 have h3 := pow_bound (b + d) h
 rw [Int.pow_add] at h3
 exact ⟨Int.mul_nonneg h1.1 h2.1,Int.le_trans (Int.mul_le_mul h1.2 h2.2 h2.1 (by omega)) h3⟩
theorem fewSum_bound (b d s : Nat) (h : b + d ≤ 50) : ∀ n : Nat,0 ≤ fewSum b d s n ∧ fewSum b d s n ≤ 1125899906842624 * n
 | 0 => by simp [fewSum]
 | n + 1 => by
  have h1 := fewSum_bound b d s h n
  have h2 := term_bound b d s n h
  simp only [fewSum]
  omega
def rowA (n : Nat) : Array Value := tableA.extract (n * 51) (n * 51 + 51)
theorem rowA_get (n k : Nat) (hn : n < 51) (hk : k < 51) : (rowA n)[k]? = some (.int .i64 (binom n k)) := by
 unfold rowA
 rw [Array.getElem?_extract,if_pos (by rw [show tableA.size = 2601 from triA_size _ _];omega),tableA_get n k hn hk]
theorem size84 : (Try.prog.info? 98).map (·.size) = some 51 := by kernel_rfl
theorem size3 : (Try.prog.info? 3).map (·.size) = some 1 := by kernel_rfl
theorem index_table (n : Int) (h0 : 0 ≤ n) (h1 : n < 51) (w : World) : (Instr.index 99 (.agg tableA) (.int .i64 n)).run Try.prog w = .ok (.agg (rowA n.toNat)) w := by
 obtain ⟨i,hi,hz⟩ := Option.map_eq_some_iff.1 size84
 have hu := Try.underlying99
 have hu2 := Try.underlying98
 simp [Instr.index,asIntOf,go_sem,h0,h1,part,sizeOf,typeInfo,hi,hz,isAgg,rowA]
theorem index_row (n : Nat) (k : Int) (hn : n < 51) (h0 : 0 ≤ k) (h1 : k < 51) (w : World) : (Instr.index 98 (.agg (rowA n)) (.int .i64 k)).run Try.prog w = .ok (.int .i64 (binom n k.toNat)) w := by
 obtain ⟨i,hi,hz⟩ := Option.map_eq_some_iff.1 size3
 have hu := Try.underlying98
 have hu2 := Try.underlying3
 have hg := rowA_get n k.toNat hn (by omega)
 simp [Instr.index,asIntOf,go_sem,h0,h1,part,sizeOf,typeInfo,hi,hz,isAgg,hg]

set_option maxHeartbeats 4000000 in
set_option maxRecDepth 1000000 in
theorem gauge_few.calls (a0 : Int) (a1 : Int) (a2 : Int) (a3 : Int) (r : Int) (w : World) (h : gauge_few.f a0 a1 a2 a3 = some r) :
  Calls Try.prog 72 #[.int .i64 a0,.int .i64 a1,.int .i64 a2,.int .i64 a3] w fun e w' => e = .returned (.int .i64 r) ∧ Below w.heap.size w w' := by
 unfold gauge_few.f at h
 by_cases hok : FewOk a0 a1 a2 a3
 case neg => rw [if_neg hok] at h;cases h
 rw [if_pos hok] at h
 have HR := aM_ (Option.some.inj h)
 clear h
 obtain ⟨b0,b1,b2,b3,b4,b5⟩ := hok
 obtain ⟨M,hM⟩ : ∃ M,(if a2 < (if a1 < a3 then a1 else a3) then a2 else (if a1 < a3 then a1 else a3)) = M := ⟨_,rfl⟩
 have hM2 : M = min (min a3 a1) a2 := by rw [← hM];omega
 have HM := aM_ hM2
 have M0 : 0 ≤ M := by omega
 have M1 : M ≤ a1 := by omega
 have M2 : M ≤ a2 := by omega
 have HB0 := aM_ (Below.refl w.heap.size w)
 have HT := aM_ (fewSum_bound a1.toNat (a0 - a1).toNat a2.toNat (by omega))
 clear hM2
 go_enter Try.func72,Try.ntmps72
 go_wp2
 go_loopw [9,10] (fun s9 s10 wr => ∃ (k : Nat) (x : Int),s9 = .int .i64 x ∧ s10 = .int .i64 k ∧ (k : Int) ≤ M + 1 ∧ Aside0 (x = fewSum a1.toNat (a0 - a1).toNat a2.toNat k) ∧ Aside0 (Below w.heap.size w wr)) (fun _ s10 _ => (M + 1).toNat - (intOf s10).toNat)
 case atStart => exact ⟨0,0,rfl,rfl,by omega,⟨rfl⟩,HB0⟩
 case round =>
  obtain ⟨k,x,rfl,rfl,hk,HX,HB⟩ := hrel
  by_cases hlt : (k : Int) ≤ M
  ·have hx := HT.out k
   rw [← HX.out] at hx
   have x0 := hx.1
   have x1 : x ≤ 100000000000000000 := by omega
   have ht := term_bound a1.toNat (a0 - a1).toNat a2.toNat k (by omega)
   have HN : Aside0 (fewSum a1.toNat (a0 - a1).toNat a2.toNat (k + 1) = x + binom a1.toNat k * binom (a0 - a1).toNat (a2.toNat - k)) := ⟨by rw [HX.out];rfl⟩
   have i0 := fun W => index_table a1 (by omega) (by omega) W
   have i1 := fun W => index_row a1.toNat k (by omega) (by omega) (by omega) W
   have i2 := fun W => index_table (a0 - a1) (by omega) (by omega) W
   have i3 := fun W => index_row (a0 - a1).toNat (a2 - k) (by omega) (by omega) (by omega) W
   rw [Int.toNat_natCast] at i1
   rw [show (a2 - (k : Int)).toNat = a2.toNat - k by omega] at i3
   have y0 := ht.1
   have y1 := ht.2
   clear ht hx HX
   generalize binom a1.toNat k = p at i1 y0 y1 HN
   generalize binom (a0 - a1).toNat (a2.toNat - k) = q at i3 y0 y1 HN
   have d1 : decide ((k : Int) ≤ M) = true := decide_eq_true hlt
   go_wp2
   have w0 : IntKind.i64.wrap (a0 - a1) = a0 - a1 := IntWalk.i64_in _ (by omega)
   have w1 : IntKind.i64.wrap (a2 - (k : Int)) = a2 - k := IntWalk.i64_in _ (by omega)
   have w2 : IntKind.i64.wrap (p * q) = p * q := IntWalk.i64_in _ (by omega)
   have w3 : IntKind.i64.wrap (x + p * q) = x + p * q := IntWalk.i64_in _ (by omega)
   go_region_with (go_at_call 71;(with_reducible refine (gauge_choose.calls _).mono ?_);rintro e w' ⟨rfl,hb⟩;(first | (have HB3 := aM_ (bT_ HB2.out hb);clear hb) | (have HB2 := aM_ (bT_ (bD_ HB.out) hb);clear hb)))
   all_goals
    (try simp only [Act.put,sB_,sZ_,sS_,w2,w3])
    clear w0 w1 i0 i1 i2 i3
    go_wp2
    go_roundw
    case rel => exact ⟨k + 1,x + p * q,rfl,by go_num,by omega,⟨HN.out.symm⟩,HB3⟩
    case measure => simp [intOf];omega
  ·have hkM : (k : Int) = M + 1 := by omega
   have HF : Aside0 (x = r) := ⟨by
    rw [← HR.out,HX.out];unfold fewP
    rw [show (min (min a3 a1) a2 + 1).toNat = k by have := HM.out;omega]⟩
   have d1 : decide ((k : Int) ≤ M) = false := decide_eq_false hlt
   clear hkM
   go_wp2
   go_ret
   obtain rfl := HF.out
   exact ⟨rfl,HB.out⟩

--HAND
/-! ### gauge.Plan,by hand: function 46 -/
/-! #### Vandermonde -/
theorem fewSum_shift (b d s : Nat) : ∀ n : Nat,n ≤ s + 1 → fewSum (b + 1) d (s + 1) (n + 1) = fewSum b d (s + 1) (n + 1) + fewSum b d s n
 | 0,_ => by simp [fewSum,binom_zero]
 | n + 1,h => by
  have ih := fewSum_shift b d s n (by omega)
  rw [show fewSum (b + 1) d (s + 1) (n + 1 + 1) = fewSum (b + 1) d (s + 1) (n + 1) + binom (b + 1) (n + 1) * binom d (s + 1 - (n + 1)) from rfl,
   show fewSum b d (s + 1) (n + 1 + 1) = fewSum b d (s + 1) (n + 1) + binom b (n + 1) * binom d (s + 1 - (n + 1)) from rfl,
   show fewSum b d s (n + 1) = fewSum b d s n + binom b n * binom d (s - n) from rfl,ih,
   show s + 1 - (n + 1) = s - n by omega,show binom (b + 1) (n + 1) = binom b n + binom b (n + 1) from rfl,Int.add_mul]
  omega
theorem fewSum_zero (d s : Nat) : ∀ n : Nat,fewSum 0 d s (n + 1) = binom d s
 | 0 => by simp [fewSum,binom_zero]
 | n + 1 => by
  rw [show fewSum 0 d s (n + 1 + 1) = fewSum 0 d s (n + 1) + binom 0 (n + 1) * binom d (s - (n + 1)) from rfl,fewSum_zero d s n,binom_above 0 (n + 1) (by omega)]
  omega
theorem vandermonde : ∀ b d s : Nat,fewSum b d s (s + 1) = binom (b + d) s
 | 0,d,s => by rw [fewSum_zero,Nat.zero_add]
 | b + 1,d,0 => by simp [fewSum,binom_zero]
 | b + 1,d,s + 1 => by
  rw [fewSum_shift b d s (s + 1) (Nat.le_refl _),vandermonde b d (s + 1),vandermonde b d s,show b + 1 + d = (b + d) + 1 by omega]
  simp only [binom]
  omega
theorem fewSum_mono (b d s : Nat) : ∀ n k : Nat,fewSum b d s n ≤ fewSum b d s (n + k)
 | _,0 => Int.le_refl _
 | n,k + 1 => by
  have h := fewSum_mono b d s n k
  have h2 := Int.mul_nonneg (binom_bound b (n + k)).1 (binom_bound d (s - (n + k))).1
  rw [show fewSum b d s (n + (k + 1)) = fewSum b d s (n + k) + binom b (n + k) * binom d (s - (n + k)) from rfl]
  omega
theorem binom_pair : ∀ n k : Nat,binom n k + binom n (k + 1) ≤ 2 ^ n
 | 0,0 => by decide
 | 0,k + 1 => by rw [binom_above 0 (k + 1) (by omega),binom_above 0 (k + 1 + 1) (by omega)];decide
 | n + 1,0 => by
  have h := binom_pair n 0
  have p : (1 : Int) ≤ 2 ^ n := by have := Int.pow_pos (n := 2) (m := n) (by omega);omega
  rw [Int.pow_succ]
  simp only [binom,binom_zero] at h ⊢
  omega
 | n + 1,k + 1 => by
  have h := binom_pair n k
  have h2 := binom_pair n (k + 1)
  rw [Int.pow_succ]
  simp only [binom]
  omega
theorem binom_half (n k : Nat) (h : n ≤ 50) : binom n k ≤ 562949953421312 := by
 cases n with
 | zero => cases k with
  | zero => decide
  | succ k => rw [binom_above 0 (k + 1) (by omega)];decide
 | succ n =>
  have hp : (2 : Nat) ^ n ≤ 2 ^ 49 := Nat.pow_le_pow_right (by omega) (by omega)
  have e : ((2 ^ n : Nat) : Int) = (2 : Int) ^ n := by push_cast;rfl
  have h49 : (2 : Nat) ^ 49 = 562949953421312 := by decide
  cases k with
  | zero => rw [binom_zero];decide
  | succ k => have := binom_pair n k;simp only [binom];omega
theorem fewP_within {lot bad s m : Int} (h : FewOk lot bad s m) : 0 ≤ fewP lot bad s m ∧ fewP lot bad s m ≤ binom lot.toNat s.toNat ∧ binom lot.toNat s.toNat ≤ 562949953421312 := by
 obtain ⟨h0,h1,h2,h3,h4,h5⟩ := h
 have e := vandermonde bad.toNat (lot - bad).toNat s.toNat
 rw [show bad.toNat + (lot - bad).toNat = lot.toNat by omega] at e
 have m1 := fewSum_mono bad.toNat (lot - bad).toNat s.toNat (min (min m bad) s + 1).toNat (s.toNat + 1 - (min (min m bad) s + 1).toNat)
 rw [show (min (min m bad) s + 1).toNat + (s.toNat + 1 - (min (min m bad) s + 1).toNat) = s.toNat + 1 by omega,e] at m1
 exact ⟨(fewSum_bound _ _ _ (by omega) _).1,m1,binom_half _ _ (by omega)⟩
/-! #### what Plan finds -/
def planC (p : Nat → Bool) : Nat → Nat → Option Nat
 | 0,_ => none
 | n + 1,i => if p i then some i else planC p n (i + 1)
def planS (q : Nat → Option Nat) : Nat → Nat → Option (Nat × Nat)
 | 0,_ => none
 | n + 1,i => match q i with
  | some c => some (i,c)
  | none => planS q n (i + 1)
def planB (lot good bad one other : Int) (s c : Nat) : Bool :=
 decide ((binom lot.toNat s - fewP lot good s c) * one ≤ binom lot.toNat s) && decide (fewP lot bad s c * other ≤ binom lot.toNat s)
def planP (lot good bad one other : Int) : Option (Nat × Nat) := planS (fun s => planC (planB lot good bad one other s) (s + 1) 0) (lot.toNat + 1) 0
def PlanOk (lot good bad one other : Int) : Prop := 1 ≤ lot ∧ lot ≤ 50 ∧ 0 ≤ good ∧ good ≤ lot ∧ good + 1 ≤ bad ∧ bad ≤ lot ∧ 1 ≤ one ∧ one ≤ 10000 ∧ 1 ≤ other ∧ other ≤ 10000
instance (lot good bad one other : Int) : Decidable (PlanOk lot good bad one other) := by unfold PlanOk;infer_instance
def planEnd : Option (Nat × Nat) → Int × Int × Int
 | some (s,c) => (s,c,0)
 | none => (0,0,7)
def gauge_Plan.f (a0 : Int) (a1 : Int) (a2 : Int) (a3 : Int) (a4 : Int) : Option (Int × Int × Int) := some (if PlanOk a0 a1 a2 a3 a4 then planEnd (planP a0 a1 a2 a3 a4) else (0,0,2))
/-! #### the walk -/
theorem planC_hit {p : Nat → Bool} {n i : Nat} (h : p i = true) : planC p (n + 1) i = some i := by simp [planC,h]
theorem planC_miss {p : Nat → Bool} {n i : Nat} (h : p i = false) : planC p (n + 1) i = planC p n (i + 1) := by simp [planC,h]
theorem planS_hit {q : Nat → Option Nat} {n i c : Nat} (h : q i = some c) : planS q (n + 1) i = some (i,c) := by simp [planS,h]
theorem planS_miss {q : Nat → Option Nat} {n i : Nat} (h : q i = none) : planS q (n + 1) i = planS q n (i + 1) := by simp [planS,h]
theorem mul_fits {x y A : Int} (h0 : 0 ≤ x) (h1 : x ≤ A) (hA : A ≤ 562949953421312) (y0 : 1 ≤ y) (y1 : y ≤ 10000) : 0 ≤ x * y ∧ x * y ≤ 5629499534213120000 := by
 have a := Int.mul_le_mul (show x ≤ 562949953421312 by omega) y1 (by omega) (by omega)
 exact ⟨Int.mul_nonneg h0 (by omega),by omega⟩
set_option maxHeartbeats 4000000 in
set_option maxRecDepth 1000000 in
theorem gauge_Plan.err (a0 : Int) (a1 : Int) (a2 : Int) (a3 : Int) (a4 : Int) (w : World) (h : ¬ PlanOk a0 a1 a2 a3 a4) :
  Calls Try.prog 46 #[.int .i64 a0,.int .i64 a1,.int .i64 a2,.int .i64 a3,.int .i64 a4] w fun e w' => e = .returned (.tuple #[.agg #[.int .i64 0,.int .i64 0],.int .i64 2]) ∧ Below w.heap.size w w' := by
 have hu50 := Try.underlying73
 have K0 := aM_ (blk_new w (.cells #[.int .i64 0,.int .i64 0] 73))
 have B0 := aM_ (bA_ (Below.refl w.heap.size w) (.cells #[.int .i64 0,.int .i64 0] 73))
 have q0 := (blk_cell K0.out 0).trans (rfl : _ = some (Value.int .i64 0))
 have q1 := (blk_cell K0.out 1).trans (rfl : _ = some (Value.int .i64 0))
 have f0 := blk_frozen K0.out 0
 have f1 := blk_frozen K0.out 1
 by_cases c0 : a0 < 1 ∨ a0 > 50
 ·go_enter Try.func46,Try.ntmps46
  go_wp2_with (fail)
  (with_reducible refine (gauge_outside.calls _ _ _ true _ (outside_true c0)).mono ?_)
  rintro e w2 ⟨rfl,nd,rfl⟩
  go_wp2_with (fail)
  exact bodyPost_ret (v := .tuple #[.agg #[.int .i64 0,.int .i64 0],.int .i64 2]) (by simp [results,Try.results46,go_sem,q0,q1]) rfl ⟨rfl,bS_ (bS_ (bN_ B0.out _) (Nat.le_refl _)) (Nat.le_refl _)⟩
 by_cases c1 : a1 < 0 ∨ a1 > a0
 ·go_enter Try.func46,Try.ntmps46
  go_wp2_with (fail)
  (with_reducible refine (gauge_outside.calls _ _ _ false _ (outside_false (by omega))).mono ?_)
  rintro e w2 ⟨rfl,nd,rfl⟩
  go_wp2_with (fail)
  (with_reducible refine (gauge_outside.calls _ _ _ true _ (outside_true c1)).mono ?_)
  rintro e w2 ⟨rfl,nd2,rfl⟩
  go_wp2_with (fail)
  exact bodyPost_ret (v := .tuple #[.agg #[.int .i64 0,.int .i64 0],.int .i64 2]) (by simp [results,Try.results46,go_sem,q0,q1]) rfl ⟨rfl,bS_ (bS_ (bN_ B0.out _) (Nat.le_refl _)) (Nat.le_refl _)⟩
 have e1 : IntKind.i64.wrap (a1 + 1) = a1 + 1 := IntWalk.i64_in _ (by omega)
 by_cases c2 : a2 < a1 + 1 ∨ a2 > a0
 ·go_enter Try.func46,Try.ntmps46
  go_wp2_with (fail)
  (with_reducible refine (gauge_outside.calls _ _ _ false _ (outside_false (by omega))).mono ?_)
  rintro e w2 ⟨rfl,nd,rfl⟩
  go_wp2_with (fail)
  (with_reducible refine (gauge_outside.calls _ _ _ false _ (outside_false (by omega))).mono ?_)
  rintro e w2 ⟨rfl,nd2,rfl⟩
  go_wp2_with (fail)
  (with_reducible refine (gauge_outside.calls _ _ _ true _ (outside_true c2)).mono ?_)
  rintro e w2 ⟨rfl,nd3,rfl⟩
  go_wp2_with (fail)
  exact bodyPost_ret (v := .tuple #[.agg #[.int .i64 0,.int .i64 0],.int .i64 2]) (by simp [results,Try.results46,go_sem,q0,q1]) rfl ⟨rfl,bS_ (bS_ (bN_ B0.out _) (Nat.le_refl _)) (Nat.le_refl _)⟩
 by_cases c3 : a3 < 1 ∨ a3 > 10000
 ·go_enter Try.func46,Try.ntmps46
  go_wp2_with (fail)
  (with_reducible refine (gauge_outside.calls _ _ _ false _ (outside_false (by omega))).mono ?_)
  rintro e w2 ⟨rfl,nd,rfl⟩
  go_wp2_with (fail)
  (with_reducible refine (gauge_outside.calls _ _ _ false _ (outside_false (by omega))).mono ?_)
  rintro e w2 ⟨rfl,nd2,rfl⟩
  go_wp2_with (fail)
  (with_reducible refine (gauge_outside.calls _ _ _ false _ (outside_false (by omega))).mono ?_)
  rintro e w2 ⟨rfl,nd3,rfl⟩
  go_wp2_with (fail)
  (with_reducible refine (gauge_outside.calls _ _ _ true _ (outside_true c3)).mono ?_)
  rintro e w2 ⟨rfl,nd4,rfl⟩
  go_wp2_with (fail)
  exact bodyPost_ret (v := .tuple #[.agg #[.int .i64 0,.int .i64 0],.int .i64 2]) (by simp [results,Try.results46,go_sem,q0,q1]) rfl ⟨rfl,bS_ (bS_ (bN_ B0.out _) (Nat.le_refl _)) (Nat.le_refl _)⟩
 by_cases c4 : a4 < 1 ∨ a4 > 10000
 ·go_enter Try.func46,Try.ntmps46
  go_wp2_with (fail)
  (with_reducible refine (gauge_outside.calls _ _ _ false _ (outside_false (by omega))).mono ?_)
  rintro e w2 ⟨rfl,nd,rfl⟩
  go_wp2_with (fail)
  (with_reducible refine (gauge_outside.calls _ _ _ false _ (outside_false (by omega))).mono ?_)
  rintro e w2 ⟨rfl,nd2,rfl⟩
  go_wp2_with (fail)
  (with_reducible refine (gauge_outside.calls _ _ _ false _ (outside_false (by omega))).mono ?_)
  rintro e w2 ⟨rfl,nd3,rfl⟩
  go_wp2_with (fail)
  (with_reducible refine (gauge_outside.calls _ _ _ false _ (outside_false (by omega))).mono ?_)
  rintro e w2 ⟨rfl,nd4,rfl⟩
  go_wp2_with (fail)
  (with_reducible refine (gauge_outside.calls _ _ _ true _ (outside_true c4)).mono ?_)
  rintro e w2 ⟨rfl,nd5,rfl⟩
  go_wp2_with (fail)
  exact bodyPost_ret (v := .tuple #[.agg #[.int .i64 0,.int .i64 0],.int .i64 2]) (by simp [results,Try.results46,go_sem,q0,q1]) rfl ⟨rfl,bS_ (bS_ (bN_ B0.out _) (Nat.le_refl _)) (Nat.le_refl _)⟩
 ·exact absurd (by unfold PlanOk;omega) h
theorem planC_start {p : Nat → Bool} {k c : Nat} {R : Option Nat} (h : planC p (k + 1 - c) c = R) (hc : c < k + 1) : (p c = true → R = some c) ∧ (p c = false → planC p (k + 1 - (c + 1)) (c + 1) = R) := by
 rw [show k + 1 - c = (k - c) + 1 by omega] at h
 exact ⟨fun hp => by rw [← h,planC_hit hp],fun hp => by rw [← h,planC_miss hp,show k + 1 - (c + 1) = k - c by omega]⟩
theorem planS_start {q : Nat → Option Nat} {n k : Nat} {R : Option (Nat × Nat)} (h : planS q (n + 1 - k) k = R) (hk : k < n + 1) : (∀ c,q k = some c → R = some (k,c)) ∧ (q k = none → planS q (n + 1 - (k + 1)) (k + 1) = R) := by
 rw [show n + 1 - k = (n - k) + 1 by omega] at h
 exact ⟨fun c hp => by rw [← h,planS_hit hp],fun hp => by rw [← h,planS_miss hp,show n + 1 - (k + 1) = n - k by omega]⟩
set_option maxHeartbeats 8000000 in
set_option maxRecDepth 1000000 in
theorem gauge_Plan.ok (a0 : Int) (a1 : Int) (a2 : Int) (a3 : Int) (a4 : Int) (r1 r2 r3 : Int) (w : World) (h : PlanOk a0 a1 a2 a3 a4) (hr : planEnd (planP a0 a1 a2 a3 a4) = (r1,r2,r3)) :
  Calls Try.prog 46 #[.int .i64 a0,.int .i64 a1,.int .i64 a2,.int .i64 a3,.int .i64 a4] w fun e w' => e = .returned (.tuple #[.agg #[.int .i64 r1,.int .i64 r2],.int .i64 r3]) ∧ Below w.heap.size w w' := by
 have hu50 := Try.underlying73
 have HR := aM_ hr
 clear hr
 obtain ⟨b0,b1,b2,b3,b4,b5,b6,b7,b8,b9⟩ := h
 have K0 := aM_ (blk_new w (.cells #[.int .i64 0,.int .i64 0] 73))
 have B0 := aM_ (bA_ (Below.refl w.heap.size w) (.cells #[.int .i64 0,.int .i64 0] 73))
 have e1 : IntKind.i64.wrap (a1 + 1) = a1 + 1 := IntWalk.i64_in _ (by omega)
 have e2 : IntKind.i64.wrap (a0 + 1) = a0 + 1 := IntWalk.i64_in _ (by omega)
 go_enter Try.func46,Try.ntmps46
 go_wp2_with (fail)
 (with_reducible refine (gauge_outside.calls _ _ _ false _ (outside_false (by omega))).mono ?_)
 rintro e w2 ⟨rfl,nd,rfl⟩
 go_wp2_with (fail)
 (with_reducible refine (gauge_outside.calls _ _ _ false _ (outside_false (by omega))).mono ?_)
 rintro e w2 ⟨rfl,nd2,rfl⟩
 go_wp2_with (fail)
 (with_reducible refine (gauge_outside.calls _ _ _ false _ (outside_false (by omega))).mono ?_)
 rintro e w2 ⟨rfl,nd3,rfl⟩
 go_wp2_with (fail)
 (with_reducible refine (gauge_outside.calls _ _ _ false _ (outside_false (by omega))).mono ?_)
 rintro e w2 ⟨rfl,nd4,rfl⟩
 go_wp2_with (fail)
 (with_reducible refine (gauge_outside.calls _ _ _ false _ (outside_false (by omega))).mono ?_)
 rintro e w2 ⟨rfl,nd5,rfl⟩
 go_wp2_with (fail)
 clear e1 e2
 go_loopw [40] (fun s40 wr => ∃ k : Nat,s40 = .int .i64 k ∧ (k : Int) ≤ a0 + 1 ∧ Aside0 (planS (fun s => planC (planB a0 a1 a2 a3 a4 s) (s + 1) 0) (a0.toNat + 1 - k) k = planP a0 a1 a2 a3 a4) ∧ Aside0 (wr.heap[w.heap.size]? = some (.cells #[.int .i64 0,.int .i64 0] 73 (0,0))) ∧ Aside0 (Below w.heap.size w wr)) (fun s40 _ => (a0 + 1).toNat - (intOf s40).toNat)
 case atStart => exact ⟨0,rfl,by omega,⟨rfl⟩,⟨K0.out⟩,⟨bN_ B0.out _⟩⟩
 case round =>
  clear K0 B0
  obtain ⟨k,rfl,hk,HP,HK,HB⟩ := hrel
  by_cases hlt : (k : Int) < a0 + 1
  ·have d0 : decide ((k : Int) < a0 + 1) = true := decide_eq_true hlt
   obtain ⟨A,hA⟩ : ∃ A,A = binom a0.toNat k := ⟨_,rfl⟩
   have i0 := fun W => index_table a0 (by omega) (by omega) W
   have i1 := fun W => index_row a0.toNat k (by omega) (by omega) (by omega) W
   rw [Int.toNat_natCast,← hA] at i1
   have HA := aM_ hA
   clear hA
   have e3 : IntKind.i64.wrap ((k : Int) + 1) = (k : Int) + 1 := IntWalk.i64_in _ (by omega)
   go_wp2_with (fail)
   (with_reducible refine (gauge_choose.calls _).mono ?_)
   rintro e w' ⟨rfl,hb⟩
   have HK2 := aM_ (kB_ HK.out hb)
   have HB2 := aM_ (bT_ HB.out hb)
   clear hb HK HB
   go_wp2_with (fail)
   clear i0 i1
   go_loopw [50] (fun s50 wr => ∃ c : Nat,s50 = .int .i64 c ∧ c ≤ k + 1 ∧ Aside0 (planC (planB a0 a1 a2 a3 a4 k) (k + 1 - c) c = planC (planB a0 a1 a2 a3 a4 k) (k + 1) 0) ∧ Aside0 (wr.heap[w.heap.size]? = some (.cells #[.int .i64 0,.int .i64 0] 73 (0,0))) ∧ Aside0 (Below w.heap.size w wr)) (fun s50 _ => k + 1 - (intOf s50).toNat)
   case atStart => exact ⟨0,rfl,by omega,⟨rfl⟩,HK2,HB2⟩
   case round =>
    clear HK2 HB2
    obtain ⟨c,rfl,hc,HC,HK,HB⟩ := hrel
    by_cases hlt2 : (c : Int) < (k : Int) + 1
    ·have d1 : decide ((c : Int) < (k : Int) + 1) = true := decide_eq_true hlt2
     have hx := fewP_within (lot := a0) (bad := a1) (s := k) (m := c) ⟨by omega,by omega,by omega,by omega,by omega,by omega⟩
     have hy := fewP_within (lot := a0) (bad := a2) (s := k) (m := c) ⟨by omega,by omega,by omega,by omega,by omega,by omega⟩
     rw [Int.toNat_natCast,← HA.out] at hx hy
     have HX := aM_ (fun W => gauge_few.calls a0 a1 k c (fewP a0 a1 k c) W (by unfold gauge_few.f;rw [if_pos (by unfold FewOk;omega)]))
     have HY := aM_ (fun W => gauge_few.calls a0 a2 k c (fewP a0 a2 k c) W (by unfold gauge_few.f;rw [if_pos (by unfold FewOk;omega)]))
     have HQ := aM_ (show planB a0 a1 a2 a3 a4 k c = (decide ((A - fewP a0 a1 k c) * a3 ≤ A) && decide (fewP a0 a2 k c * a4 ≤ A)) by unfold planB;rw [← HA.out])
     generalize fewP a0 a1 k c = x at hx HX HQ
     generalize fewP a0 a2 k c = y at hy HY HQ
     have m1 := mul_fits (x := A - x) (y := a3) (A := A) (by omega) (by omega) (by omega) (by omega) (by omega)
     have m2 := mul_fits (x := y) (y := a4) (A := A) (by omega) (by omega) (by omega) (by omega) (by omega)
     have w0 : IntKind.i64.wrap (A - x) = A - x := IntWalk.i64_in _ (by omega)
     have w1 : IntKind.i64.wrap ((A - x) * a3) = (A - x) * a3 := IntWalk.i64_in _ (by omega)
     have w2 : IntKind.i64.wrap (y * a4) = y * a4 := IntWalk.i64_in _ (by omega)
     have hS := aM_ (planC_start HC.out (by omega))
     clear hx hy m1 m2 HC
     by_cases p1 : (A - x) * a3 ≤ A
     ·have d2 : decide ((A - x) * a3 ≤ A) = true := decide_eq_true p1
      by_cases p2 : y * a4 ≤ A
      ·have d3 : decide (y * a4 ≤ A) = true := decide_eq_true p2
       have hh := (planS_start HP.out (by omega)).1 c (hS.out.1 (by rw [HQ.out,d2,d3];rfl))
       have hr := HR.out
       rw [hh] at hr
       simp only [planEnd,Prod.mk.injEq] at hr
       obtain ⟨rfl,rfl,rfl⟩ := hr
       clear hh p1 p2
       go_wp2_with (fail)
       (with_reducible refine (HX.out _).mono ?_)
       rintro e w3 ⟨rfl,hb⟩
       have HK3 := aM_ (kB_ HK.out hb)
       have HB3 := aM_ (bT_ HB.out hb)
       clear hb HK HB
       go_wp2_with (fail)
       (with_reducible refine (HY.out _).mono ?_)
       rintro e w4 ⟨rfl,hb⟩
       have HK4 := aM_ (kB_ HK3.out hb)
       have HB4 := aM_ (bT_ HB3.out hb)
       clear hb HK3 HB3
       have q0 := (blk_cell HK4.out 0).trans (rfl : _ = some (Value.int .i64 0))
       have q1 := (blk_cell HK4.out 1).trans (rfl : _ = some (Value.int .i64 0))
       have f0 := blk_frozen HK4.out 0
       have f1 := blk_frozen HK4.out 1
       go_wp2_with (fail)
       exact bodyPost_ret (v := .tuple #[.agg #[.int .i64 k,.int .i64 c],.int .i64 0]) (by simp [results,Try.results46,go_sem,q0,q1]) rfl ⟨rfl,bS_ (bS_ HB4.out (Nat.le_refl _)) (Nat.le_refl _)⟩
      ·have d3 : decide (y * a4 ≤ A) = false := decide_eq_false p2
       have HM := aM_ (hS.out.2 (by rw [HQ.out,d2,d3];rfl))
       clear p1 p2
       go_wp2_with (fail)
       (with_reducible refine (HX.out _).mono ?_)
       rintro e w3 ⟨rfl,hb⟩
       have HK3 := aM_ (kB_ HK.out hb)
       have HB3 := aM_ (bT_ HB.out hb)
       clear hb HK HB
       go_wp2_with (fail)
       (with_reducible refine (HY.out _).mono ?_)
       rintro e w4 ⟨rfl,hb⟩
       have HK4 := aM_ (kB_ HK3.out hb)
       have HB4 := aM_ (bT_ HB3.out hb)
       clear hb HK3 HB3
       go_wp2
       go_roundw
       case rel => exact ⟨c + 1,by go_num,by omega,HM,HK4,HB4⟩
       case measure => simp [intOf];omega
     ·have d2 : decide ((A - x) * a3 ≤ A) = false := decide_eq_false p1
      have HM := aM_ (hS.out.2 (by rw [HQ.out,d2];rfl))
      clear p1
      go_wp2_with (fail)
      (with_reducible refine (HX.out _).mono ?_)
      rintro e w3 ⟨rfl,hb⟩
      have HK3 := aM_ (kB_ HK.out hb)
      have HB3 := aM_ (bT_ HB.out hb)
      clear hb HK HB
      go_wp2
      go_roundw
      case rel => exact ⟨c + 1,by go_num,by omega,HM,HK3,HB3⟩
      case measure => simp [intOf];omega
    ·obtain rfl : c = k + 1 := by omega
     have HM : Aside0 (planS (fun s => planC (planB a0 a1 a2 a3 a4 s) (s + 1) 0) (a0.toNat + 1 - (k + 1)) (k + 1) = planP a0 a1 a2 a3 a4) := ⟨(planS_start HP.out (by omega)).2 (by rw [← HC.out,Nat.sub_self];rfl)⟩
     have d1 : decide (((k + 1 : Nat) : Int) < (k : Int) + 1) = false := decide_eq_false (by omega)
     clear hlt2 HC
     go_wp2
     go_roundw
     case rel => exact ⟨k + 1,by go_num,by omega,HM,HK,HB⟩
     case measure => simp [intOf];omega
  ·have hkk : k = a0.toNat + 1 := by omega
   have hh : planP a0 a1 a2 a3 a4 = none := by rw [← HP.out,hkk,Nat.sub_self];rfl
   have hr := HR.out
   rw [hh] at hr
   simp only [planEnd,Prod.mk.injEq] at hr
   obtain ⟨rfl,rfl,rfl⟩ := hr
   have d0 : decide ((k : Int) < a0 + 1) = false := decide_eq_false hlt
   clear hh hkk
   have q0 := (blk_cell HK.out 0).trans (rfl : _ = some (Value.int .i64 0))
   have q1 := (blk_cell HK.out 1).trans (rfl : _ = some (Value.int .i64 0))
   have f0 := blk_frozen HK.out 0
   have f1 := blk_frozen HK.out 1
   go_wp2_with (fail)
   exact bodyPost_ret (v := .tuple #[.agg #[.int .i64 0,.int .i64 0],.int .i64 7]) (by simp [results,Try.results46,go_sem,q0,q1]) rfl ⟨rfl,bS_ (bS_ HB.out (Nat.le_refl _)) (Nat.le_refl _)⟩
theorem gauge_Plan.calls (a0 : Int) (a1 : Int) (a2 : Int) (a3 : Int) (a4 : Int) (r1 : Int) (r2 : Int) (r3 : Int) (w : World) (h : gauge_Plan.f a0 a1 a2 a3 a4 = some (r1,r2,r3)) :
  Calls Try.prog 46 #[.int .i64 a0,.int .i64 a1,.int .i64 a2,.int .i64 a3,.int .i64 a4] w fun e w' => e = .returned (.tuple #[.agg #[.int .i64 r1,.int .i64 r2],.int .i64 r3]) ∧ Below w.heap.size w w' := by
 have hr := Option.some.inj h
 by_cases c : PlanOk a0 a1 a2 a3 a4
 ·rw [if_pos c] at hr
  exact gauge_Plan.ok a0 a1 a2 a3 a4 r1 r2 r3 w c hr
 ·rw [if_neg c] at hr
  simp only [Prod.mk.injEq] at hr
  obtain ⟨rfl,rfl,rfl⟩ := hr
  exact gauge_Plan.err a0 a1 a2 a3 a4 w c

end Go.Proofs.Ytdbpobadeibjaab.GE
