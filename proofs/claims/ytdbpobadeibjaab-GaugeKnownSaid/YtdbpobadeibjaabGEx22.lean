-- written for this claim by a program of this session (wip/gp), over the kit's own printer; Lean checks it
import Derived.Test.YtdbpobadeibjaabGEx0
import Derived.Test.YtdbpobadeibjaabGEx10
import Derived.Test.YtdbpobadeibjaabGEx11
import Derived.Test.YtdbpobadeibjaabGEx12
import Derived.Test.YtdbpobadeibjaabGEx13
import Derived.Test.YtdbpobadeibjaabGEx19
namespace Go.Proofs.Ytdbpobadeibjaab.GE
open Go.RowKit Go.Proofs.YtdbpobadeibjaabW.PrintWords Go.Proofs.YtdbpobadeibjaabW.PrintLast Go.Proofs.YtdbpobadeibjaabW.PrintMore
attribute [local go_sem] max2_int min2_int max_two min_two max_three min_three max_four min_four
set_option linter.unusedVariables false
set_option linter.unusedSimpArgs false

--HAND
/-! ### gauge.Accept,by hand: function 22 -/
def stepK (l : List S49) (m : Int) : Int := (rd_T49 l m).f2
def srcK (l : List S49) (m k : Int) : Int × Int × Bool := sourceP l m (k * stepK l m)
def accLo (l : List S49) (m lo k : Int) : Bool := decide (lo ≤ (srcK l m k).1 ∧ -1000000000 ≤ (srcK l m k).2.1)
def accHi (l : List S49) (m hi k : Int) : Bool := decide (hi < (srcK l m k).2.1 ∨ 1000000000 < (srcK l m k).1)
def accMost (l : List S49) (m : Int) : Int := 1000000000 / stepK l m
def thr (p : Int → Bool) (M : Int) : Int := (leastTrue (fun i => p ((i : Int) - M)) (2 * M + 1).toNat : Int) - M
def climb (s : Int → Bool) : Nat → Int → Int
 | 0,a => a
 | d + 1,a => if s a = true then a else climb s d (a + 1)
def sink (s : Int → Bool) : Nat → Int → Int
 | 0,b => b
 | d + 1,b => if s b = true then b else sink s d (b - 1)
def accA0 (l : List S49) (m lo : Int) : Int := thr (accLo l m lo) (accMost l m)
def accB0 (l : List S49) (m hi : Int) : Int := thr (accHi l m hi) (accMost l m) - 1
def accSure (l : List S49) (m k : Int) : Bool := (srcK l m k).2.2
def accA (l : List S49) (m lo hi : Int) : Int := climb (accSure l m) (accB0 l m hi + 1 - accA0 l m lo).toNat (accA0 l m lo)
def accB (l : List S49) (m lo hi : Int) : Int := sink (accSure l m) (accB0 l m hi + 1 - accA l m lo hi).toNat (accB0 l m hi)
def acceptP (l : List S49) (m lo hi : Int) : Int × Int × Int :=
 if accA l m lo hi > accB l m lo hi then (0,0,10) else (accA l m lo hi * stepK l m,accB l m lo hi * stepK l m,0)
def gauge_Accept.f (l0 : List (S49)) (a1 : Int) (a2_0 : Int) (a2_1 : Int) : Option (Int × Int × Int) :=
 if l0.length ≤ 20 then some (if checkP l0 ≠ 0 then (0,0,checkP l0) else if a1 < 0 ∨ a1 > (l0.length : Int) - 1 then (0,0,7) else if a2_0 > a2_1 then (0,0,11) else acceptP l0 a1 a2_0 a2_1) else none
theorem thr_bound (p : Int → Bool) {M : Int} (h : 0 ≤ M) : -M ≤ thr p M ∧ thr p M ≤ M + 1 := by
 have := leastTrue_le (fun i => p ((i : Int) - M)) (2 * M + 1).toNat
 unfold thr
 omega
theorem thr_iff {p : Int → Bool} {M : Int} (h : 0 ≤ M) (hp : ∀ i j,-M ≤ i → i ≤ j → j ≤ M → p i = true → p j = true) (x : Int) (h0 : -M ≤ x) (h1 : x ≤ M) : p x = decide (thr p M ≤ x) := by
 have := leastTrue_mono (p := fun i => p ((i : Int) - M)) (N := (2 * M + 1).toNat) (fun i j hij hj => hp _ _ (by omega) (by omega) (by omega)) (x + M).toNat (by omega)
 have e : (((x + M).toNat : Nat) : Int) - M = x := by omega
 simp only [e] at this
 rw [this,decide_eq_decide]
 unfold thr
 omega
theorem acc_back_lo {a0 a1 a2 a3 n n' : Int} (h : meterOk a0 a1 a2 a3) (hn : n ≤ n') : backLo a0 a1 a3 n ≤ backLo a0 a1 a3 n' := by
 have := (backLo_iff h n' (backLo a0 a1 a3 n')).2 (Int.le_refl _)
 exact (backLo_iff h n _).1 (by omega)
theorem acc_back_hi {a0 a1 a2 a3 n n' : Int} (h : meterOk a0 a1 a2 a3) (hn : n ≤ n') : backHi a0 a1 a2 n ≤ backHi a0 a1 a2 n' := by
 have := (backHi_iff h n' (backHi a0 a1 a2 n' + 1)).2 (Int.le_refl _)
 have := (backHi_iff h n (backHi a0 a1 a2 n' + 1)).1 (by omega)
 omega
theorem acc_fold {l : List S49} (hb : BenchOk l) : ∀ (c : List Int) (s s' : Int × Int × Bool),(∀ k ∈ c,0 ≤ k ∧ k < (l.length : Int)) → s.1 ≤ s'.1 → s.2.1 ≤ s'.2.1 →
  (srcFold l c s).1 ≤ (srcFold l c s').1 ∧ (srcFold l c s).2.1 ≤ (srcFold l c s').2.1 := by
 intro c
 induction c with
 | nil => intro s s' _ h1 h2;exact ⟨h1,h2⟩
 | cons k c ih =>
  intro s s' hc h1 h2
  obtain ⟨k0,k1⟩ := hc k (by simp)
  obtain ⟨hm,_⟩ := hb.at k k0 k1
  exact ih (srcStep l s k) (srcStep l s' k) (fun q hq => hc q (by simp [hq])) (acc_back_lo hm h1) (acc_back_hi hm h2)
theorem source_mono {l : List S49} (hb : BenchOk l) {m n n' : Int} (m1 : m < l.length) (hn : n ≤ n') : (sourceP l m n).1 ≤ (sourceP l m n').1 ∧ (sourceP l m n).2.1 ≤ (sourceP l m n').2.1 := by
 have h := acc_fold hb (chainL l m) (srcStart l m n) (srcStart l m n') (chainGo_mem hb _ _ m1) (by unfold srcStart;show n - _ ≤ n' - _;omega) (by unfold srcStart;show n + _ ≤ n' + _;omega)
 unfold sourceP srcEnd
 show max _ _ ≤ max _ _ ∧ min _ _ ≤ min _ _
 omega
theorem srcK_mono {l : List S49} (hb : BenchOk l) {m k k' : Int} (m0 : 0 ≤ m) (m1 : m < l.length) (hk : k ≤ k') : (srcK l m k).1 ≤ (srcK l m k').1 ∧ (srcK l m k).2.1 ≤ (srcK l m k').2.1 := by
 obtain ⟨_,a7,_⟩ := hb.at m m0 m1
 exact source_mono hb m1 (Int.mul_le_mul_of_nonneg_right hk (by unfold stepK;omega))
theorem accLo_mono {l : List S49} (hb : BenchOk l) {m : Int} (m0 : 0 ≤ m) (m1 : m < l.length) (lo : Int) (k k' : Int) (hk : k ≤ k') (h : accLo l m lo k = true) : accLo l m lo k' = true := by
 have := srcK_mono hb m0 m1 hk
 unfold accLo at h ⊢
 rw [decide_eq_true_eq] at h ⊢
 omega
theorem accHi_mono {l : List S49} (hb : BenchOk l) {m : Int} (m0 : 0 ≤ m) (m1 : m < l.length) (hi : Int) (k k' : Int) (hk : k ≤ k') (h : accHi l m hi k = true) : accHi l m hi k' = true := by
 have := srcK_mono hb m0 m1 hk
 unfold accHi at h ⊢
 rw [decide_eq_true_eq] at h ⊢
 omega
theorem accStep {l : List S49} (hb : BenchOk l) {m : Int} (m0 : 0 ≤ m) (m1 : m < l.length) : 1 ≤ stepK l m ∧ stepK l m ≤ 1000000 ∧ 1000 ≤ accMost l m ∧ accMost l m ≤ 1000000000 ∧ ∀ k,-accMost l m ≤ k → k ≤ accMost l m → -1000000000 ≤ k * stepK l m ∧ k * stepK l m ≤ 1000000000 := by
 obtain ⟨_,a7,a8,_⟩ := hb.at m m0 m1
 have s0 : 1 ≤ stepK l m := a7
 have s1 : stepK l m ≤ 1000000 := a8
 unfold accMost
 generalize stepK l m = s at s0 s1
 have e := Int.mul_ediv_add_emod 1000000000 s
 have e1 := Int.emod_nonneg 1000000000 (show s ≠ 0 by omega)
 refine ⟨s0,s1,?_,Int.ediv_le_self s (by omega),fun k k0 k1 => ?_⟩
 ·rw [Int.le_ediv_iff_mul_le (by omega)];omega
 ·generalize hq : 1000000000 / s = q at k0 k1 e
  have a := Int.mul_le_mul_of_nonneg_right k1 (show 0 ≤ s by omega)
  have b := Int.mul_le_mul_of_nonneg_right k0 (show 0 ≤ s by omega)
  rw [Int.neg_mul] at b
  rw [Int.mul_comm q s] at a b
  omega
structure AccAt (A0 : Option Addr) (c0 : Nat) (l0 : List S49) (m lo hi : Int) (b3 b4 b9 b5 : Nat) (w : World) : Prop where
 c3 : w.heap[b3]? = some (.cells #[.slice A0 l0.length c0] 25 (0,0))
 c4 : w.heap[b4]? = some (.cells #[.int .i64 m] 3 (0,0))
 c9 : w.heap[b9]? = some (.cells #[.int .i64 (stepK l0 m)] 3 (0,0))
 c5 : w.heap[b5]? = some (.cells #[.int .i64 lo,.int .i64 hi] 34 (0,0))
 hr : Kd.C k49 w A0 l0.length l0
theorem AccAt.below {A0 : Option Addr} {c0 : Nat} {l0 : List S49} {m lo hi : Int} {b3 b4 b9 b5 : Nat} {w w' : World} (h : AccAt A0 c0 l0 m lo hi b3 b4 b9 b5 w) (hb : Below w.heap.size w w') : AccAt A0 c0 l0 m lo hi b3 b4 b9 b5 w' :=
 ⟨kB_ h.c3 hb,kB_ h.c4 hb,kB_ h.c9 hb,kB_ h.c5 hb,Kd.C_below h.hr hb⟩
set_option maxHeartbeats 4000000 in
set_option maxRecDepth 1000000 in
theorem gauge_Accept_1.calls (A0 : Option Addr) (c0 : Nat) (l0 : List S49) (m lo hi k : Int) (b3 b4 b9 b5 : Nat) (w : World) (hb : BenchOk l0) (m0 : 0 ≤ m) (m1 : m < l0.length) (k0 : -accMost l0 m ≤ k) (k1 : k ≤ accMost l0 m) (hc0 : l0.length ≤ c0) (hA : AccAt A0 c0 l0 m lo hi b3 b4 b9 b5 w) :
  Calls Try.prog 52 (#[.int .i64 k] ++ #[.pointer (some ⟨b3,0,none⟩),.pointer (some ⟨b4,0,none⟩),.pointer (some ⟨b9,0,none⟩),.pointer (some ⟨b5,0,none⟩)]) w fun e w' => e = .returned (.bool (accLo l0 m lo k)) ∧ Below w.heap.size w w' := by
 obtain ⟨s0,s1,M0,M1,hK⟩ := accStep hb m0 m1
 obtain ⟨n0,n1⟩ := hK k k0 k1
 obtain ⟨r1,r2,r3,hsrc⟩ : ∃ r1 r2 r3,srcK l0 m k = (r1,r2,r3) := ⟨_,_,_,rfl⟩
 have HS := aM_ (gauge_source.calls A0 c0 l0 m (k * stepK l0 m) r1 r2 r3 w hA.hr hc0 (by unfold gauge_source.f;rw [if_pos ⟨hb,m0,m1,n0,n1⟩];exact congrArg some hsrc))
 have e0 : accLo l0 m lo k = (decide (lo ≤ r1) && decide (-1000000000 ≤ r2)) := by unfold accLo;rw [hsrc];exact Bool.decide_and _ _
 have ew : IntKind.i64.wrap (k * stepK l0 m) = k * stepK l0 m := IntWalk.i64_in _ (by omega)
 rw [e0]
 have HA := aM_ hA
 have q3 : w.cell? ⟨b3,0,none⟩ = some (.slice A0 l0.length c0) := (blk_cell hA.c3 0).trans rfl
 have q4 : w.cell? ⟨b4,0,none⟩ = some (.int .i64 m) := (blk_cell hA.c4 0).trans rfl
 have q9 : w.cell? ⟨b9,0,none⟩ = some (.int .i64 (stepK l0 m)) := (blk_cell hA.c9 0).trans rfl
 have hu34 := Try.underlying34
 clear e0 hsrc hK s0 s1 M0 M1 n0 n1 k0 k1 hA hb
 generalize stepK l0 m = st at *
 by_cases c1 : lo ≤ r1
 all_goals
  have d1 := c1
  simp only [c1,decide_true,decide_false,Bool.true_and,Bool.false_and]
  go_enter Try.func52,Try.ntmps52
  go_wp2_with (go_at_call 45;(with_reducible refine HS.out.mono ?_);rintro e w' ⟨rfl,hb⟩;have p0 : w'.cell? ⟨b5,0,none⟩ = some (.int .i64 lo) := (blk_cell (kB_ HA.out.c5 hb) 0).trans rfl;have p1 : b5 < w'.heap.size := blk_lt (kB_ HA.out.c5 hb);have HB := aM_ hb;clear hb)
  go_ret
  exact ⟨rfl,bT_ (bT_ HB.out (bA_ (Below.refl _ _) _)) (Below.refl _ _)⟩

set_option maxHeartbeats 4000000 in
set_option maxRecDepth 1000000 in
theorem gauge_Accept_2.calls (A0 : Option Addr) (c0 : Nat) (l0 : List S49) (m lo hi k : Int) (b3 b4 b9 b5 : Nat) (w : World) (hb : BenchOk l0) (m0 : 0 ≤ m) (m1 : m < l0.length) (k0 : -accMost l0 m ≤ k) (k1 : k ≤ accMost l0 m) (hc0 : l0.length ≤ c0) (hA : AccAt A0 c0 l0 m lo hi b3 b4 b9 b5 w) :
  Calls Try.prog 53 (#[.int .i64 k] ++ #[.pointer (some ⟨b3,0,none⟩),.pointer (some ⟨b4,0,none⟩),.pointer (some ⟨b9,0,none⟩),.pointer (some ⟨b5,0,none⟩)]) w fun e w' => e = .returned (.bool (accHi l0 m hi k)) ∧ Below w.heap.size w w' := by
 obtain ⟨s0,s1,M0,M1,hK⟩ := accStep hb m0 m1
 obtain ⟨n0,n1⟩ := hK k k0 k1
 obtain ⟨r1,r2,r3,hsrc⟩ : ∃ r1 r2 r3,srcK l0 m k = (r1,r2,r3) := ⟨_,_,_,rfl⟩
 have HS := aM_ (gauge_source.calls A0 c0 l0 m (k * stepK l0 m) r1 r2 r3 w hA.hr hc0 (by unfold gauge_source.f;rw [if_pos ⟨hb,m0,m1,n0,n1⟩];exact congrArg some hsrc))
 have e0 : accHi l0 m hi k = (decide (hi < r2) || decide (1000000000 < r1)) := by unfold accHi;rw [hsrc];exact Bool.decide_or _ _
 have ew : IntKind.i64.wrap (k * stepK l0 m) = k * stepK l0 m := IntWalk.i64_in _ (by omega)
 rw [e0]
 have HA := aM_ hA
 have q3 : w.cell? ⟨b3,0,none⟩ = some (.slice A0 l0.length c0) := (blk_cell hA.c3 0).trans rfl
 have q4 : w.cell? ⟨b4,0,none⟩ = some (.int .i64 m) := (blk_cell hA.c4 0).trans rfl
 have q9 : w.cell? ⟨b9,0,none⟩ = some (.int .i64 (stepK l0 m)) := (blk_cell hA.c9 0).trans rfl
 have hu34 := Try.underlying34
 clear e0 hsrc hK s0 s1 M0 M1 n0 n1 k0 k1 hA hb
 generalize stepK l0 m = st at *
 ·go_enter Try.func53,Try.ntmps53
  go_wp2_with (go_at_call 45;(with_reducible refine HS.out.mono ?_);rintro e w' ⟨rfl,hb⟩;have p0 : w'.cell? ⟨b5,1,none⟩ = some (.int .i64 hi) := (blk_cell (kB_ HA.out.c5 hb) 1).trans rfl;have p1 : b5 < w'.heap.size := blk_lt (kB_ HA.out.c5 hb);have HB := aM_ hb;clear hb)
  all_goals go_ret
  all_goals exact ⟨rfl,bT_ (bT_ HB.out (bA_ (Below.refl _ _) _)) (Below.refl _ _)⟩
set_option maxHeartbeats 4000000 in
set_option maxRecDepth 1000000 in
theorem gauge_Accept_3.calls (A0 : Option Addr) (c0 : Nat) (l0 : List S49) (m lo hi k : Int) (b3 b4 b9 b5 : Nat) (w : World) (hb : BenchOk l0) (m0 : 0 ≤ m) (m1 : m < l0.length) (k0 : -accMost l0 m ≤ k) (k1 : k ≤ accMost l0 m) (hc0 : l0.length ≤ c0) (hA : AccAt A0 c0 l0 m lo hi b3 b4 b9 b5 w) :
  Calls Try.prog 54 (#[.int .i64 k] ++ #[.pointer (some ⟨b3,0,none⟩),.pointer (some ⟨b4,0,none⟩),.pointer (some ⟨b9,0,none⟩)]) w fun e w' => e = .returned (.bool (accSure l0 m k)) ∧ Below w.heap.size w w' := by
 obtain ⟨s0,s1,M0,M1,hK⟩ := accStep hb m0 m1
 obtain ⟨n0,n1⟩ := hK k k0 k1
 obtain ⟨r1,r2,r3,hsrc⟩ : ∃ r1 r2 r3,srcK l0 m k = (r1,r2,r3) := ⟨_,_,_,rfl⟩
 have HS := aM_ (gauge_source.calls A0 c0 l0 m (k * stepK l0 m) r1 r2 r3 w hA.hr hc0 (by unfold gauge_source.f;rw [if_pos ⟨hb,m0,m1,n0,n1⟩];exact congrArg some hsrc))
 have e0 : accSure l0 m k = r3 := by unfold accSure;rw [hsrc]
 have ew : IntKind.i64.wrap (k * stepK l0 m) = k * stepK l0 m := IntWalk.i64_in _ (by omega)
 rw [e0]
 have q3 : w.cell? ⟨b3,0,none⟩ = some (.slice A0 l0.length c0) := (blk_cell hA.c3 0).trans rfl
 have q4 : w.cell? ⟨b4,0,none⟩ = some (.int .i64 m) := (blk_cell hA.c4 0).trans rfl
 have q9 : w.cell? ⟨b9,0,none⟩ = some (.int .i64 (stepK l0 m)) := (blk_cell hA.c9 0).trans rfl
 have hu34 := Try.underlying34
 clear e0 hsrc hK s0 s1 M0 M1 n0 n1 k0 k1 hA hb
 generalize stepK l0 m = st at *
 go_enter Try.func54,Try.ntmps54
 go_wp2_with (go_at_call 45;(with_reducible refine HS.out.mono ?_);rintro e w' ⟨rfl,hb⟩;have HB := aM_ hb;clear hb)
 go_ret
 exact ⟨rfl,bT_ HB.out (bA_ (Below.refl _ _) _)⟩

theorem gauge_Accept.first1 (A0 : Option Addr) (c0 : Nat) (l0 : List S49) (m lo hi : Int) (b3 b4 b9 b5 : Nat) (w : World) (hb : BenchOk l0) (m0 : 0 ≤ m) (m1 : m < l0.length) (hc0 : l0.length ≤ c0) (hA : AccAt A0 c0 l0 m lo hi b3 b4 b9 b5 w) :
  Calls Try.prog 51 #[.int .i64 (accMost l0 m),.func (.func 52) #[] #[.pointer (some ⟨b3,0,none⟩),.pointer (some ⟨b4,0,none⟩),.pointer (some ⟨b9,0,none⟩),.pointer (some ⟨b5,0,none⟩)]] w fun e w' => e = .returned (.int .i64 (accA0 l0 m lo)) ∧ Below w.heap.size w w' := by
 obtain ⟨s0,s1,M0,M1,hK⟩ := accStep hb m0 m1
 have ht := thr_bound (accLo l0 m lo) (M := accMost l0 m) (by omega)
 unfold accA0
 exact gauge_first.calls 52 _ (accMost l0 m) (thr (accLo l0 m lo) (accMost l0 m)) w (enters_of Try.func52 (by kernel_rfl) rfl) (by omega) (by omega) ht.1 ht.2
  (fun W x hB x0 x1 => by
   have e := thr_iff (p := accLo l0 m lo) (M := accMost l0 m) (by omega) (fun i j _ hij _ h => accLo_mono hb m0 m1 lo i j hij h) x x0 x1
   rw [← e]
   exact gauge_Accept_1.calls A0 c0 l0 m lo hi x b3 b4 b9 b5 W hb m0 m1 x0 x1 hc0 (hA.below hB))
theorem gauge_Accept.first2 (A0 : Option Addr) (c0 : Nat) (l0 : List S49) (m lo hi : Int) (b3 b4 b9 b5 : Nat) (w : World) (hb : BenchOk l0) (m0 : 0 ≤ m) (m1 : m < l0.length) (hc0 : l0.length ≤ c0) (hA : AccAt A0 c0 l0 m lo hi b3 b4 b9 b5 w) :
  Calls Try.prog 51 #[.int .i64 (accMost l0 m),.func (.func 53) #[] #[.pointer (some ⟨b3,0,none⟩),.pointer (some ⟨b4,0,none⟩),.pointer (some ⟨b9,0,none⟩),.pointer (some ⟨b5,0,none⟩)]] w fun e w' => e = .returned (.int .i64 (accB0 l0 m hi + 1)) ∧ Below w.heap.size w w' := by
 obtain ⟨s0,s1,M0,M1,hK⟩ := accStep hb m0 m1
 have ht := thr_bound (accHi l0 m hi) (M := accMost l0 m) (by omega)
 have e0 : accB0 l0 m hi + 1 = thr (accHi l0 m hi) (accMost l0 m) := by unfold accB0;omega
 rw [e0]
 exact gauge_first.calls 53 _ (accMost l0 m) (thr (accHi l0 m hi) (accMost l0 m)) w (enters_of Try.func53 (by kernel_rfl) rfl) (by omega) (by omega) ht.1 ht.2
  (fun W x hB x0 x1 => by
   have e := thr_iff (p := accHi l0 m hi) (M := accMost l0 m) (by omega) (fun i j _ hij _ h => accHi_mono hb m0 m1 hi i j hij h) x x0 x1
   rw [← e]
   exact gauge_Accept_2.calls A0 c0 l0 m lo hi x b3 b4 b9 b5 W hb m0 m1 x0 x1 hc0 (hA.below hB))
theorem climb_stop (s : Int → Bool) : ∀ (d : Nat) (a : Int),s a = true → climb s d a = a := by
 intro d a h
 cases d with
 | zero => rfl
 | succ d => rw [climb,if_pos h]
theorem sink_stop (s : Int → Bool) : ∀ (d : Nat) (b : Int),s b = true → sink s d b = b := by
 intro d b h
 cases d with
 | zero => rfl
 | succ d => rw [sink,if_pos h]
theorem climb_bound (s : Int → Bool) : ∀ (d : Nat) (a : Int),a ≤ climb s d a ∧ climb s d a ≤ a + d := by
 intro d
 induction d with
 | zero => intro a;exact ⟨Int.le_refl _,by show a ≤ a + 0;omega⟩
 | succ d ih =>
  intro a
  rw [climb]
  split
  ·omega
  ·have := ih (a + 1);omega
theorem sink_bound (s : Int → Bool) : ∀ (d : Nat) (b : Int),sink s d b ≤ b ∧ b - d ≤ sink s d b := by
 intro d
 induction d with
 | zero => intro b;exact ⟨Int.le_refl _,by show b - 0 ≤ b;omega⟩
 | succ d ih =>
  intro b
  rw [sink]
  split
  ·omega
  ·have := ih (b - 1);omega
def AccRet (l0 : List S49) (m lo hi : Int) (w : World) (e : Ending) (w' : World) : Prop := e = .returned (.tuple #[.agg #[.int .i64 (acceptP l0 m lo hi).1,.int .i64 (acceptP l0 m lo hi).2.1],.int .i64 (acceptP l0 m lo hi).2.2]) ∧ Below w.heap.size w w'
theorem four_new (w : World) (o0 o1 o2 o3 : Obj) : ∃ W,(((w.alloc o0).alloc o1).alloc o2).alloc o3 = W ∧ W.heap.size = w.heap.size + 1 + 1 + 1 + 1 ∧ Below w.heap.size w W ∧ W.heap[w.heap.size]? = some o0 ∧ W.heap[w.heap.size + 1]? = some o1 ∧ W.heap[w.heap.size + 1 + 1]? = some o2 ∧ W.heap[w.heap.size + 1 + 1 + 1]? = some o3 := by
 refine ⟨_,rfl,by simp,bA_ (bA_ (bA_ (bA_ (Below.refl _ _) _) _) _) _,kA_ (kA_ (kA_ (blk_new w _) _) _) _,?_,?_,?_⟩
 ·have := kA_ (kA_ (blk_new (w.alloc o0) o1) o2) o3;simpa only [World.size_alloc] using this
 ·have := kA_ (blk_new ((w.alloc o0).alloc o1) o2) o3;simpa only [World.size_alloc] using this
 ·have := blk_new (((w.alloc o0).alloc o1).alloc o2) o3;simpa only [World.size_alloc] using this
theorem acc_ok {l : List S49} (h : checkP l = 0) : BenchOk l := by
 unfold checkP at h
 by_cases h12 : 12 < l.length
 ·rw [if_pos h12] at h;omega
 rw [if_neg h12] at h
 by_cases hf : firstErr l.length l = 0
 ·exact ⟨by omega,firstErr_zero hf⟩
 ·rw [if_pos hf] at h;exact absurd h hf
set_option maxHeartbeats 8000000 in
set_option maxRecDepth 1000000 in
theorem gauge_Accept.main (A0 : Option Addr) (c0 : Nat) (l0 : List (S49)) (m lo hi : Int) (w : World) (hr0 : Kd.C k49 w A0 l0.length l0) (hc0 : l0.length ≤ c0) (hck : checkP l0 = 0) (m0 : 0 ≤ m) (m1 : m < l0.length) (hlh : lo ≤ hi) :
  Calls Try.prog 22 #[.slice A0 l0.length c0,.int .i64 m,.agg #[.int .i64 lo,.int .i64 hi]] w (AccRet l0 m lo hi w) := by
 have hu34 := Try.underlying34
 have hu49 := Try.underlying49
 have HR := aM_ hr0
 have hb := acc_ok hck
 have h12 := hb.1
 have HBO := aM_ hb
 obtain ⟨s0,s1,M0,M1,hK⟩ := accStep hb m0 m1
 have HKB := aM_ hK
 have hA0 := thr_bound (accLo l0 m lo) (M := accMost l0 m) (by omega)
 have hB0 := thr_bound (accHi l0 m hi) (M := accMost l0 m) (by omega)
 have HA0 := aM_ (show -accMost l0 m ≤ accA0 l0 m lo ∧ accA0 l0 m lo ≤ accMost l0 m + 1 from hA0)
 have HB0 := aM_ (show -accMost l0 m - 1 ≤ accB0 l0 m hi ∧ accB0 l0 m hi ≤ accMost l0 m by unfold accB0;omega)
 have HCK := aM_ hck
 have HM0 := aM_ (And.intro s0 (And.intro s1 (And.intro M0 M1)))
 have HM1 := aM_ m1
 have HLH := aM_ hlh
 have HTM := aM_ (show Int.tdiv 1000000000 (stepK l0 m) = accMost l0 m from Int.tdiv_eq_ediv_of_nonneg (by omega))
 have ew : IntKind.i64.wrap ((l0.length : Int) - 1) = (l0.length : Int) - 1 := IntWalk.i64_in _ (by omega)
 clear hr0 hb hK hA0 hB0 hck s0 s1 M0 M1
 go_enter Try.func22,Try.ntmps22
 go_wp2_with (fail)
 obtain ⟨W0,hW,hsz,bw,f3,f4,f5,f6⟩ := four_new w (.cells #[.slice A0 l0.length c0] 25) (.cells #[.int .i64 m] 3) (.cells #[.int .i64 lo,.int .i64 hi] 34) (.cells #[.int .i64 0,.int .i64 0] 34)
 rw [hW]
 have HSZ := aM_ hsz
 have BW := aM_ bw
 have F3 := aM_ f3
 have F4 := aM_ f4
 have F5 := aM_ f5
 have F6 := aM_ f6
 have q3 := (blk_cell f3 0).trans rfl
 clear hW hsz bw f3 f4 f5 f6
 go_wp2_with (fail)
 (with_reducible refine (gauge_Check.calls A0 c0 l0 0 W0 (Kd.C_below HR.out BW.out) hc0 (by unfold gauge_Check.f;rw [HCK.out])).mono ?_)
 rintro e w1 ⟨rfl,hb1⟩
 have q3' : w1.cell? ⟨w.heap.size,0,none⟩ = some (.slice A0 l0.length c0) := (blk_cell (kB_ F3.out hb1) 0).trans rfl
 have q4' : w1.cell? ⟨w.heap.size + 1,0,none⟩ = some (.int .i64 m) := (blk_cell (kB_ F4.out hb1) 0).trans rfl
 have HB1 := aM_ hb1
 clear hb1 q3
 go_wp2_with (fail)
 (with_reducible refine (gauge_outside.calls m 0 ((l0.length : Int) - 1) false _ (outside_false ⟨m0,by have := HM1.out;omega⟩)).mono ?_)
 rintro e w2 ⟨rfl,⟨nd,rfl⟩⟩
 obtain ⟨w2,hw2⟩ : ∃ W,W = w1.drewN nd := ⟨_,rfl⟩
 rw [← hw2]
 have hb2 : Below W0.heap.size W0 w2 := by rw [hw2];exact bN_ HB1.out nd
 clear hw2 q3' q4' HB1
 have g3 := kB_ F3.out hb2
 have g4 := kB_ F4.out hb2
 have g5 := kB_ F5.out hb2
 have g6 := kB_ F6.out hb2
 have CR := Kd.C_below HR.out (bT_ BW.out hb2)
 obtain ⟨ad,hA,_,_,_,_,z4,_,_⟩ := at_T49 CR m m0 HM1.out
 have q3 := (blk_cell g3 0).trans rfl
 have q4 := (blk_cell g4 0).trans rfl
 have q5 := (blk_cell g5 0).trans rfl
 have q51 := (blk_cell g5 1).trans rfl
 have hs : w2.heap.size ≠ w.heap.size ∧ w2.heap.size ≠ w.heap.size + 1 ∧ w2.heap.size ≠ w.heap.size + 1 + 1 ∧ w2.heap.size ≠ w.heap.size + 1 + 1 + 1 := by have := HSZ.out;have := hb2.size;omega
 have HAcc : Aside0 (AccAt A0 c0 l0 m lo hi w.heap.size (w.heap.size + 1) w2.heap.size (w.heap.size + 1 + 1) (w2.alloc (.cells #[.int .i64 (stepK l0 m)] 3))) :=
  ⟨⟨kA_ g3 _,kA_ g4 _,blk_new w2 _,kA_ g5 _,Kd.C_below CR (bA_ (Below.refl _ _) _)⟩⟩
 have G6 := aM_ (kA_ g6 (.cells #[.int .i64 (stepK l0 m)] 3))
 have B2 := aM_ (bT_ BW.out (bA_ hb2 (.cells #[.int .i64 (stepK l0 m)] 3)))
 have hstep : (rd_T49 l0 m).f2 = stepK l0 m := rfl
 rw [hstep] at z4
 subst hA
 have s0 := HM0.out.1
 clear hb2 g3 g4 g5 g6 CR hstep F3 F4 F5 F6 BW HSZ HR
 go_wp2_with (fail)
 rw [show (1000000000 : Int) / stepK l0 m = accMost l0 m from rfl]
 (with_reducible refine (gauge_Accept.first1 (some ad) c0 l0 m lo hi w.heap.size (w.heap.size + 1) w2.heap.size (w.heap.size + 1 + 1) _ HBO.out m0 HM1.out hc0 HAcc.out).mono ?_)
 rintro e w3 ⟨rfl,hb3⟩
 have HAcc3 := aM_ (HAcc.out.below hb3)
 have G63 := aM_ (kB_ G6.out hb3)
 have B3 := aM_ (bT_ B2.out hb3)
 clear hb3 HAcc G6 B2 q3 q4 q5 q51 z4
 go_wp2_with (fail)
 (with_reducible refine (gauge_Accept.first2 (some ad) c0 l0 m lo hi w.heap.size (w.heap.size + 1) w2.heap.size (w.heap.size + 1 + 1) _ HBO.out m0 HM1.out hc0 HAcc3.out).mono ?_)
 rintro e w4 ⟨rfl,hb3⟩
 have HAcc4 := aM_ (HAcc3.out.below hb3)
 have G64 := aM_ (kB_ G63.out hb3)
 have B4 := aM_ (bT_ B3.out hb3)
 clear hb3 HAcc3 G63 B3
 have eb : wrap64 (accB0 l0 m hi) = accB0 l0 m hi := wrap64_eq (by have := HB0.out;have := HM0.out;omega)
 have HCL := aM_ (show climb (accSure l0 m) (accB0 l0 m hi + 1 - accA0 l0 m lo).toNat (accA0 l0 m lo) = accA l0 m lo hi from rfl)
 have HSK := aM_ (show sink (accSure l0 m) (accB0 l0 m hi + 1 - accA l0 m lo hi).toNat (accB0 l0 m hi) = accB l0 m lo hi from rfl)
 have HP : Aside0 (acceptP l0 m lo hi = if accA l0 m lo hi > accB l0 m lo hi then (0,0,10) else (accA l0 m lo hi * stepK l0 m,accB l0 m lo hi * stepK l0 m,0)) := ⟨rfl⟩
 have HAB : Aside0 ((accA0 l0 m lo ≤ accA l0 m lo hi) ∧ accB l0 m lo hi ≤ accB0 l0 m hi) := ⟨(climb_bound _ _ _).1,(sink_bound _ _ _).1⟩
 have eg := enters_of Try.func54 (by kernel_rfl) rfl
 obtain ⟨M,hM⟩ : ∃ M,accMost l0 m = M := ⟨_,rfl⟩
 have HMM := aM_ hM
 rw [hM] at HA0 HB0 HM0 HKB ⊢
 generalize accA l0 m lo hi = aF at HCL HSK HP HAB
 generalize accB l0 m lo hi = bF at HSK HP HAB
 generalize accB0 l0 m hi = b at HB0 HCL HSK HAB eb ⊢
 generalize accA0 l0 m lo = a0 at HA0 HCL HAB ⊢
 obtain ⟨b9,h9⟩ : ∃ b9,w2.heap.size = b9 := ⟨_,rfl⟩
 rw [h9] at HAcc4 hs ⊢
 clear h9 hM hlh HTM HLH HCK
 go_upto_block 1 with (fail)
 rw [eb]
 go_cut [11] (fun v11 wc => ∃ x : Int,v11 = .int .i64 x ∧ Aside0 (x = aF) ∧ Aside0 (AccAt (some ad) c0 l0 m lo hi w.heap.size (w.heap.size + 1) b9 (w.heap.size + 1 + 1) wc) ∧ Aside0 (wc.heap[w.heap.size + 1 + 1 + 1]? = some (.cells #[.int .i64 0,.int .i64 0] 34 (0,0))) ∧ Aside0 (Below w.heap.size w wc))
 case first =>
  go_wp2_with (fail)
  go_loopg [11] (b + 1 - a0).toNat (fun kx v11 wr => ∃ x : Int,v11 = .int .i64 x ∧ (b + 1 - x).toNat ≤ kx ∧ Aside0 (-M ≤ x) ∧ Aside0 (climb (accSure l0 m) (b + 1 - x).toNat x = aF) ∧ Aside0 (AccAt (some ad) c0 l0 m lo hi w.heap.size (w.heap.size + 1) b9 (w.heap.size + 1 + 1) wr) ∧ Aside0 (wr.heap[w.heap.size + 1 + 1 + 1]? = some (.cells #[.int .i64 0,.int .i64 0] 34 (0,0))) ∧ Aside0 (Below w.heap.size w wr))
  case atStart => exact ⟨a0,rfl,Nat.le_refl _,⟨HA0.out.1⟩,HCL,HAcc4,G64,B4⟩
  case round =>
   clear HAcc4 G64 B4 HCL
   obtain ⟨x,rfl,hkx,HX,HC,HAcc,G6,B⟩ := hrel
   have hM := HM0.out
   have hB0 := HB0.out
   have hA0 := HA0.out
   have hx := HX.out
   have hAB := HAB.out
   by_cases hle : x ≤ b
   ·have e1 : IntKind.i64.wrap (x + 1) = x + 1 := IntWalk.i64_in _ (by omega)
    have HCA := aM_ (gauge_Accept_3.calls (some ad) c0 l0 m lo hi x w.heap.size (w.heap.size + 1) b9 (w.heap.size + 1 + 1) wr HBO.out m0 HM1.out (by rw [HMM.out];omega) (by rw [HMM.out];omega) hc0 HAcc.out)
    cases hs : accSure l0 m x
    ·rw [hs] at HCA
     clear hM hB0 hA0 hx hAB
     go_wp2_with (fail)
     refine HCA.out.mono ?_
     rintro e w5 ⟨rfl,hb5⟩
     have HB5 := aM_ hb5
     clear hb5
     go_wp2_with (fail)
     go_roundg (b + 1 - (x + 1)).toNat
     case measure => omega
     case rel =>
      have hx := HX.out
      have hA0 := HA0.out
      have hB0 := HB0.out
      have hAB := HAB.out
      have hM := HM0.out
      refine ⟨x + 1,rfl,Nat.le_refl _,⟨by omega⟩,⟨?_⟩,⟨HAcc.out.below HB5.out⟩,⟨kB_ G6.out HB5.out⟩,⟨bT_ B.out HB5.out⟩⟩
      have h := HC.out
      rw [show (b + 1 - x).toNat = (b + 1 - (x + 1)).toNat + 1 by omega,climb,if_neg (by rw [hs];decide)] at h
      exact h
    ·rw [hs] at HCA
     clear hM hB0 hA0 hx hAB
     go_wp2_with (fail)
     refine HCA.out.mono ?_
     rintro e w5 ⟨rfl,hb5⟩
     have HB5 := aM_ hb5
     clear hb5
     go_wp2_with (fail)
     go_meet
     case rel => exact ⟨x,rfl,⟨(climb_stop _ _ _ hs).symm.trans HC.out⟩,⟨HAcc.out.below HB5.out⟩,⟨kB_ G6.out HB5.out⟩,⟨bT_ B.out HB5.out⟩⟩
   ·have hz : (b + 1 - x).toNat = 0 := by omega
    have HZ := aM_ hz
    clear hM hB0 hA0 hx hz hAB
    go_wp2_with (fail)
    go_meet
    case rel =>
     refine ⟨x,rfl,⟨?_⟩,HAcc,G6,B⟩
     have h := HC.out
     rw [HZ.out] at h
     exact h
 case rest =>
 clear HAcc4 G64 B4 HCL
 obtain ⟨x,rfl,HX,HAcc4,G64,B4⟩ := hcut
 rw [HX.out]
 clear HX
 go_upto_block 3 with (fail)
 go_cut [12] (fun v12 wc => ∃ x : Int,v12 = .int .i64 x ∧ Aside0 (x = bF) ∧ Aside0 (AccAt (some ad) c0 l0 m lo hi w.heap.size (w.heap.size + 1) b9 (w.heap.size + 1 + 1) wc) ∧ Aside0 (wc.heap[w.heap.size + 1 + 1 + 1]? = some (.cells #[.int .i64 0,.int .i64 0] 34 (0,0))) ∧ Aside0 (Below w.heap.size w wc))
 case first =>
  go_wp2_with (fail)
  go_loopg [12] (b + 1 - aF).toNat (fun kx v12 wr => ∃ x : Int,v12 = .int .i64 x ∧ (x + 1 - aF).toNat ≤ kx ∧ Aside0 (x ≤ M) ∧ Aside0 (sink (accSure l0 m) (x + 1 - aF).toNat x = bF) ∧ Aside0 (AccAt (some ad) c0 l0 m lo hi w.heap.size (w.heap.size + 1) b9 (w.heap.size + 1 + 1) wr) ∧ Aside0 (wr.heap[w.heap.size + 1 + 1 + 1]? = some (.cells #[.int .i64 0,.int .i64 0] 34 (0,0))) ∧ Aside0 (Below w.heap.size w wr))
  case atStart => exact ⟨b,rfl,Nat.le_refl _,⟨HB0.out.2⟩,HSK,HAcc4,G64,B4⟩
  case round =>
   clear HAcc4 G64 B4 HSK
   obtain ⟨x,rfl,hkx,HX,HC,HAcc,G6,B⟩ := hrel
   have hM := HM0.out
   have hB0 := HB0.out
   have hA0 := HA0.out
   have hx := HX.out
   have hAB := HAB.out
   by_cases hle : aF ≤ x
   ·have e1 : IntKind.i64.wrap (x - 1) = x - 1 := IntWalk.i64_in _ (by omega)
    have HCA := aM_ (gauge_Accept_3.calls (some ad) c0 l0 m lo hi x w.heap.size (w.heap.size + 1) b9 (w.heap.size + 1 + 1) wr HBO.out m0 HM1.out (by rw [HMM.out];omega) (by rw [HMM.out];omega) hc0 HAcc.out)
    cases hs : accSure l0 m x
    ·rw [hs] at HCA
     clear hM hB0 hA0 hx hAB
     go_wp2_with (fail)
     refine HCA.out.mono ?_
     rintro e w5 ⟨rfl,hb5⟩
     have HB5 := aM_ hb5
     clear hb5
     go_wp2_with (fail)
     go_roundg (x - 1 + 1 - aF).toNat
     case measure => omega
     case rel =>
      have hx := HX.out
      have hA0 := HA0.out
      have hB0 := HB0.out
      have hAB := HAB.out
      have hM := HM0.out
      refine ⟨x - 1,rfl,Nat.le_refl _,⟨by omega⟩,⟨?_⟩,⟨HAcc.out.below HB5.out⟩,⟨kB_ G6.out HB5.out⟩,⟨bT_ B.out HB5.out⟩⟩
      have h := HC.out
      rw [show (x + 1 - aF).toNat = (x - 1 + 1 - aF).toNat + 1 by omega,sink,if_neg (by rw [hs];decide)] at h
      exact h
    ·rw [hs] at HCA
     clear hM hB0 hA0 hx hAB
     go_wp2_with (fail)
     refine HCA.out.mono ?_
     rintro e w5 ⟨rfl,hb5⟩
     have HB5 := aM_ hb5
     clear hb5
     go_wp2_with (fail)
     go_meet
     case rel => exact ⟨x,rfl,⟨(sink_stop _ _ _ hs).symm.trans HC.out⟩,⟨HAcc.out.below HB5.out⟩,⟨kB_ G6.out HB5.out⟩,⟨bT_ B.out HB5.out⟩⟩
   ·have hz : (x + 1 - aF).toNat = 0 := by omega
    have HZ := aM_ hz
    clear hM hB0 hA0 hx hz hAB
    go_wp2_with (fail)
    go_meet
    case rel =>
     refine ⟨x,rfl,⟨?_⟩,HAcc,G6,B⟩
     have h := HC.out
     rw [HZ.out] at h
     exact h
 case rest =>
 clear HAcc4 G64 B4 HSK
 obtain ⟨x,rfl,HX,HAcc4,G64,B4⟩ := hcut
 rw [HX.out]
 clear HX
 have f0 := blk_frozen G64.out 0
 have f1 := blk_frozen G64.out 1
 have p0 : wc.cell? ⟨w.heap.size + 1 + 1 + 1,0,none⟩ = some (.int .i64 0) := (blk_cell G64.out 0).trans rfl
 have p1 : wc.cell? ⟨w.heap.size + 1 + 1 + 1,1,none⟩ = some (.int .i64 0) := (blk_cell G64.out 1).trans rfl
 have p9 : wc.cell? ⟨b9,0,none⟩ = some (.int .i64 (stepK l0 m)) := (blk_cell HAcc4.out.c9 0).trans rfl
 have hp := HP.out
 by_cases hgt : aF > bF
 ·rw [if_pos hgt] at hp
  have HP2 := aM_ hp
  clear hp HP
  go_wp2_with (fail)
  exact bodyPost_ret (v := .tuple #[.agg #[.int .i64 0,.int .i64 0],.int .i64 10]) (by simp [results,Try.results22,go_sem,p0,p1]) rfl ⟨by rw [HP2.out],bS_ (bS_ B4.out (by omega)) (by omega)⟩
 ·rw [if_neg hgt] at hp
  have HP2 := aM_ hp
  have hM := HM0.out
  have hB0 := HB0.out
  have hA0 := HA0.out
  have hAB := HAB.out
  have k1 := HKB.out aF (by omega) (by omega)
  have k2 := HKB.out bF (by omega) (by omega)
  have e1 : IntKind.i64.wrap (aF * stepK l0 m) = aF * stepK l0 m := IntWalk.i64_in _ (by omega)
  have e2 : IntKind.i64.wrap (bF * stepK l0 m) = bF * stepK l0 m := IntWalk.i64_in _ (by omega)
  clear hp HP k1 k2 hM hB0 hA0 hAB
  go_wp2_with (fail)
  exact bodyPost_ret (v := .tuple #[.agg #[.int .i64 (aF * stepK l0 m),.int .i64 (bF * stepK l0 m)],.int .i64 0]) (by simp [results,Try.results22,go_sem,p0,p1]) rfl ⟨by rw [HP2.out],bS_ (bS_ B4.out (by omega)) (by omega)⟩
set_option maxHeartbeats 8000000 in
set_option maxRecDepth 1000000 in
theorem gauge_Accept.bad1 (A0 : Option Addr) (c0 : Nat) (l0 : List (S49)) (m lo hi : Int) (w : World) (hr0 : Kd.C k49 w A0 l0.length l0) (hc0 : l0.length ≤ c0) (ck : Int) (hck : checkP l0 = ck) (hne : ck ≠ 0) :
  Calls Try.prog 22 #[.slice A0 l0.length c0,.int .i64 m,.agg #[.int .i64 lo,.int .i64 hi]] w fun e w' => e = .returned (.tuple #[.agg #[.int .i64 0,.int .i64 0],.int .i64 ck]) ∧ Below w.heap.size w w' := by
 have hu34 := Try.underlying34
 have hu49 := Try.underlying49
 have HR := aM_ hr0
 clear hr0
 have HCK := aM_ (show gauge_Check.f l0 = some ck by unfold gauge_Check.f;rw [hck])
 clear hck
 go_enter Try.func22,Try.ntmps22
 go_wp2_with (fail)
 obtain ⟨W0,hW,hsz,bw,f3,f4,f5,f6⟩ := four_new w (.cells #[.slice A0 l0.length c0] 25) (.cells #[.int .i64 m] 3) (.cells #[.int .i64 lo,.int .i64 hi] 34) (.cells #[.int .i64 0,.int .i64 0] 34)
 rw [hW]
 have BW := aM_ bw
 have F3 := aM_ f3
 have F4 := aM_ f4
 have F5 := aM_ f5
 have F6 := aM_ f6
 have q3 := (blk_cell f3 0).trans rfl
 clear hW hsz bw f3 f4 f5 f6
 go_wp2_with (fail)
 (with_reducible refine (gauge_Check.calls A0 c0 l0 ck W0 (Kd.C_below HR.out BW.out) hc0 HCK.out).mono ?_)
 rintro e w1 ⟨rfl,hb1⟩
 have q3' : w1.cell? ⟨w.heap.size,0,none⟩ = some (.slice A0 l0.length c0) := (blk_cell (kB_ F3.out hb1) 0).trans rfl
 have q4' : w1.cell? ⟨w.heap.size + 1,0,none⟩ = some (.int .i64 m) := (blk_cell (kB_ F4.out hb1) 0).trans rfl
 clear q3' q4' q3
 have g6 := kB_ F6.out hb1
 have f0 := blk_frozen g6 0
 have f1 := blk_frozen g6 1
 have p0 : w1.cell? ⟨w.heap.size + 1 + 1 + 1,0,none⟩ = some (.int .i64 0) := (blk_cell g6 0).trans rfl
 have p1 : w1.cell? ⟨w.heap.size + 1 + 1 + 1,1,none⟩ = some (.int .i64 0) := (blk_cell g6 1).trans rfl
 have BX := aM_ (bT_ BW.out hb1)
 clear hb1 g6
 go_wp2_with (fail)
 exact bodyPost_ret (v := .tuple #[.agg #[.int .i64 0,.int .i64 0],.int .i64 ck]) (by simp [results,Try.results22,go_sem,p0,p1]) rfl ⟨rfl,bS_ (bS_ BX.out (by omega)) (by omega)⟩
set_option maxHeartbeats 8000000 in
set_option maxRecDepth 1000000 in
theorem gauge_Accept.bad2 (A0 : Option Addr) (c0 : Nat) (l0 : List (S49)) (m lo hi : Int) (w : World) (hr0 : Kd.C k49 w A0 l0.length l0) (hc0 : l0.length ≤ c0) (hck : checkP l0 = 0) (hm : m < 0 ∨ m > (l0.length : Int) - 1) :
  Calls Try.prog 22 #[.slice A0 l0.length c0,.int .i64 m,.agg #[.int .i64 lo,.int .i64 hi]] w fun e w' => e = .returned (.tuple #[.agg #[.int .i64 0,.int .i64 0],.int .i64 7]) ∧ Below w.heap.size w w' := by
 have hu34 := Try.underlying34
 have hu49 := Try.underlying49
 have HR := aM_ hr0
 clear hr0
 have HCK := aM_ (show gauge_Check.f l0 = some 0 by unfold gauge_Check.f;rw [hck])
 have h12 := (acc_ok hck).1
 have ew : IntKind.i64.wrap ((l0.length : Int) - 1) = (l0.length : Int) - 1 := IntWalk.i64_in _ (by omega)
 have HO := aM_ (outside_true hm)
 clear hck hm h12
 go_enter Try.func22,Try.ntmps22
 go_wp2_with (fail)
 obtain ⟨W0,hW,hsz,bw,f3,f4,f5,f6⟩ := four_new w (.cells #[.slice A0 l0.length c0] 25) (.cells #[.int .i64 m] 3) (.cells #[.int .i64 lo,.int .i64 hi] 34) (.cells #[.int .i64 0,.int .i64 0] 34)
 rw [hW]
 have BW := aM_ bw
 have F3 := aM_ f3
 have F4 := aM_ f4
 have F5 := aM_ f5
 have F6 := aM_ f6
 have q3 := (blk_cell f3 0).trans rfl
 clear hW hsz bw f3 f4 f5 f6
 go_wp2_with (fail)
 (with_reducible refine (gauge_Check.calls A0 c0 l0 0 W0 (Kd.C_below HR.out BW.out) hc0 HCK.out).mono ?_)
 rintro e w1 ⟨rfl,hb1⟩
 have q3' : w1.cell? ⟨w.heap.size,0,none⟩ = some (.slice A0 l0.length c0) := (blk_cell (kB_ F3.out hb1) 0).trans rfl
 have q4' : w1.cell? ⟨w.heap.size + 1,0,none⟩ = some (.int .i64 m) := (blk_cell (kB_ F4.out hb1) 0).trans rfl
 have HB1 := aM_ hb1
 clear hb1 q3
 go_wp2_with (fail)
 (with_reducible refine (gauge_outside.calls m 0 ((l0.length : Int) - 1) true _ HO.out).mono ?_)
 rintro e w2 ⟨rfl,⟨nd,rfl⟩⟩
 obtain ⟨w2,hw2⟩ : ∃ W,W = w1.drewN nd := ⟨_,rfl⟩
 rw [← hw2]
 have hb2 : Below W0.heap.size W0 w2 := by rw [hw2];exact bN_ HB1.out nd
 clear hw2 q3' q4' HB1
 have g6 := kB_ F6.out hb2
 have f0 := blk_frozen g6 0
 have f1 := blk_frozen g6 1
 have p0 : w2.cell? ⟨w.heap.size + 1 + 1 + 1,0,none⟩ = some (.int .i64 0) := (blk_cell g6 0).trans rfl
 have p1 : w2.cell? ⟨w.heap.size + 1 + 1 + 1,1,none⟩ = some (.int .i64 0) := (blk_cell g6 1).trans rfl
 have BX := aM_ (bT_ BW.out hb2)
 clear hb2 g6
 go_wp2_with (fail)
 exact bodyPost_ret (v := .tuple #[.agg #[.int .i64 0,.int .i64 0],.int .i64 7]) (by simp [results,Try.results22,go_sem,p0,p1]) rfl ⟨rfl,bS_ (bS_ BX.out (by omega)) (by omega)⟩
set_option maxHeartbeats 8000000 in
set_option maxRecDepth 1000000 in
theorem gauge_Accept.bad3 (A0 : Option Addr) (c0 : Nat) (l0 : List (S49)) (m lo hi : Int) (w : World) (hr0 : Kd.C k49 w A0 l0.length l0) (hc0 : l0.length ≤ c0) (hck : checkP l0 = 0) (m0 : 0 ≤ m) (m1 : m ≤ (l0.length : Int) - 1) (hlh : lo > hi) :
  Calls Try.prog 22 #[.slice A0 l0.length c0,.int .i64 m,.agg #[.int .i64 lo,.int .i64 hi]] w fun e w' => e = .returned (.tuple #[.agg #[.int .i64 0,.int .i64 0],.int .i64 11]) ∧ Below w.heap.size w w' := by
 have hu34 := Try.underlying34
 have hu49 := Try.underlying49
 have HR := aM_ hr0
 clear hr0
 have HCK := aM_ (show gauge_Check.f l0 = some 0 by unfold gauge_Check.f;rw [hck])
 have h12 := (acc_ok hck).1
 have ew : IntKind.i64.wrap ((l0.length : Int) - 1) = (l0.length : Int) - 1 := IntWalk.i64_in _ (by omega)
 have HO := aM_ (outside_false ⟨m0,m1⟩)
 clear hck m0 m1 h12
 go_enter Try.func22,Try.ntmps22
 go_wp2_with (fail)
 obtain ⟨W0,hW,hsz,bw,f3,f4,f5,f6⟩ := four_new w (.cells #[.slice A0 l0.length c0] 25) (.cells #[.int .i64 m] 3) (.cells #[.int .i64 lo,.int .i64 hi] 34) (.cells #[.int .i64 0,.int .i64 0] 34)
 rw [hW]
 have BW := aM_ bw
 have F3 := aM_ f3
 have F4 := aM_ f4
 have F5 := aM_ f5
 have F6 := aM_ f6
 have q3 := (blk_cell f3 0).trans rfl
 clear hW hsz bw f3 f4 f5 f6
 go_wp2_with (fail)
 (with_reducible refine (gauge_Check.calls A0 c0 l0 0 W0 (Kd.C_below HR.out BW.out) hc0 HCK.out).mono ?_)
 rintro e w1 ⟨rfl,hb1⟩
 have q3' : w1.cell? ⟨w.heap.size,0,none⟩ = some (.slice A0 l0.length c0) := (blk_cell (kB_ F3.out hb1) 0).trans rfl
 have q4' : w1.cell? ⟨w.heap.size + 1,0,none⟩ = some (.int .i64 m) := (blk_cell (kB_ F4.out hb1) 0).trans rfl
 have HB1 := aM_ hb1
 clear hb1 q3
 go_wp2_with (fail)
 (with_reducible refine (gauge_outside.calls m 0 ((l0.length : Int) - 1) false _ HO.out).mono ?_)
 rintro e w2 ⟨rfl,⟨nd,rfl⟩⟩
 obtain ⟨w2,hw2⟩ : ∃ W,W = w1.drewN nd := ⟨_,rfl⟩
 rw [← hw2]
 have hb2 : Below W0.heap.size W0 w2 := by rw [hw2];exact bN_ HB1.out nd
 clear hw2 q3' q4' HB1
 have q5 := (blk_cell (kB_ F5.out hb2) 0).trans rfl
 have q51 := (blk_cell (kB_ F5.out hb2) 1).trans rfl
 have g6 := kB_ F6.out hb2
 have f0 := blk_frozen g6 0
 have f1 := blk_frozen g6 1
 have p0 : w2.cell? ⟨w.heap.size + 1 + 1 + 1,0,none⟩ = some (.int .i64 0) := (blk_cell g6 0).trans rfl
 have p1 : w2.cell? ⟨w.heap.size + 1 + 1 + 1,1,none⟩ = some (.int .i64 0) := (blk_cell g6 1).trans rfl
 have BX := aM_ (bT_ BW.out hb2)
 clear hb2 g6
 go_wp2_with (fail)
 exact bodyPost_ret (v := .tuple #[.agg #[.int .i64 0,.int .i64 0],.int .i64 11]) (by simp [results,Try.results22,go_sem,p0,p1]) rfl ⟨rfl,bS_ (bS_ BX.out (by omega)) (by omega)⟩
theorem gauge_Accept.calls (A0 : Option Addr) (c0 : Nat) (l0 : List (S49)) (a1 : Int) (a2_0 : Int) (a2_1 : Int) (r1 : Int) (r2 : Int) (r3 : Int) (w : World) (hr0 : Kd.C k49 w A0 l0.length l0) (hc0 : l0.length ≤ c0) (h : gauge_Accept.f l0 a1 a2_0 a2_1 = some (r1,r2,r3)) :
  Calls Try.prog 22 #[.slice A0 l0.length c0,.int .i64 a1,.agg #[.int .i64 a2_0,.int .i64 a2_1]] w fun e w' => e = .returned (.tuple #[.agg #[.int .i64 r1,.int .i64 r2],.int .i64 r3]) ∧ Below w.heap.size w w' := by
 unfold gauge_Accept.f at h
 split at h
 case isFalse => cases h
 have h := Option.some.inj h
 by_cases hck : checkP l0 = 0
 ·rw [if_neg (by omega)] at h
  by_cases hm : a1 < 0 ∨ a1 > (l0.length : Int) - 1
  ·rw [if_pos hm] at h
   cases h
   exact gauge_Accept.bad2 A0 c0 l0 a1 a2_0 a2_1 w hr0 hc0 hck hm
  ·rw [if_neg hm] at h
   by_cases hl : a2_0 > a2_1
   ·rw [if_pos hl] at h
    cases h
    exact gauge_Accept.bad3 A0 c0 l0 a1 a2_0 a2_1 w hr0 hc0 hck (by omega) (by omega) hl
   ·rw [if_neg hl] at h
    have := gauge_Accept.main A0 c0 l0 a1 a2_0 a2_1 w hr0 hc0 hck (by omega) (by omega) (by omega)
    unfold AccRet at this
    rw [h] at this
    exact this
 ·rw [if_pos hck] at h
  cases h
  exact gauge_Accept.bad1 A0 c0 l0 a1 a2_0 a2_1 w hr0 hc0 _ rfl hck

-- NOT PRINTED: function 5 (L_GaugeGuards)

--HAND
/-! ### gauge.worst[api.Range],by hand: function 57 -/
def worstGo (t : Nat → Option (Int × Int)) : Nat → Nat → Int → Int → Option (Int × Int × Int)
 | 0,_,v,p => some (v,p,0)
 | d + 1,i,v,p => (t i).bind fun r => if r.2 = 0 then (if (r.1 = 2 ∧ v ≠ 2) ∨ (r.1 = 3 ∧ v = 1) then worstGo t d (i + 1) r.1 i else worstGo t d (i + 1) v p) else some (0,0,r.2)
set_option maxHeartbeats 8000000 in
set_option maxRecDepth 1000000 in
theorem gauge_worst.calls (g : Nat) (cb : Array Value) (A : Option Addr) (c : Nat) (l : List S34) (t : Nat → Option (Int × Int)) (r1 r2 r3 : Int) (w : World) (I : Nat → World → Prop) (eg : ∀ args w,(callFunc g args).run Try.prog w = .ok (.enter g args) w) (hlen : l.length ≤ 1000000000)
  (hI : ∀ i W W',I i W → Below W.heap.size W W' → I i W') (hR : ∀ i W,I i W → Kd.C k34 W A l.length l)
  (hf : ∀ (i : Nat) (W : World) (v e : Int),i < l.length → I i W → t i = some (v,e) → Calls Try.prog g (#[.agg #[.int .i64 (rd_T34 l i).f0,.int .i64 (rd_T34 l i).f1]] ++ cb) W fun e' W' => e' = .returned (.tuple #[.int .i64 v,.int .i64 e]) ∧ I (i + 1) W')
  (h0 : I 0 w) (h : worstGo t l.length 0 1 (-1) = some (r1,r2,r3)) :
  Calls Try.prog 57 #[.slice A l.length c,.func (.func g) #[] cb] w fun e' w' => e' = .returned (.tuple #[.int .i64 r1,.int .i64 r2,.int .i64 r3]) ∧ ∃ i,I i w' := by
 have hu34 := Try.underlying34
 have HI := aM_ hI
 have HR := aM_ hR
 have HF := aM_ hf
 have H0 := aM_ h0
 have HW := aM_ h
 clear hI hR hf h0 h
 go_enter Try.func57,Try.ntmps57
 go_wp2_with (fail)
 go_loopg [4,5,13] l.length (fun kx v4 v5 v13 wr => ∃ (i : Nat) (v p : Int),v4 = .int .i64 v ∧ v5 = .int .i64 p ∧ v13 = .int .i64 (i : Int) ∧ i ≤ l.length ∧ l.length - i ≤ kx ∧ Aside0 (I i wr) ∧ Aside0 (worstGo t (l.length - i) i v p = some (r1,r2,r3)))
 case atStart => exact ⟨0,1,-1,rfl,rfl,rfl,Nat.zero_le _,Nat.le_refl _,H0,HW⟩
 case round =>
  clear H0 HW
  obtain ⟨i,v,p,rfl,rfl,rfl,hil,hkx,H0,HW⟩ := hrel
  by_cases hlt : i < l.length
  ·obtain ⟨ad,rfl,q0,q1⟩ := at_T34 (HR.out i wr H0.out) (i : Int) (by omega) (by omega)
   rw [Int.toNat_natCast] at q0 q1
   have hw := HW.out
   obtain ⟨d,hd⟩ : ∃ d,l.length - i = d + 1 := ⟨l.length - i - 1,by omega⟩
   rw [hd,worstGo] at hw
   obtain ⟨⟨tv,te⟩,ht,hw⟩ := oB_ hw
   have hw : (if te = 0 then (if (tv = 2 ∧ v ≠ 2) ∨ (tv = 3 ∧ v = 1) then worstGo t d (i + 1) tv i else worstGo t d (i + 1) v p) else some (0,0,te)) = some (r1,r2,r3) := hw
   have hdd : l.length - (i + 1) = d := by omega
   have HC := aM_ (HF.out i (wr.alloc (.cells #[.int .i64 (rd_T34 l i).f0,.int .i64 (rd_T34 l i).f1] 34)) tv te hlt (HI.out i _ _ H0.out (bA_ (Below.refl _ _) _)) ht)
   have e1 : wrap64 ((i : Int) + 1) = ((i + 1 : Nat) : Int) := by rw [wrap64_eq (by omega)];omega
   have e2 : IntKind.i64.wrap ((i : Int) + 1) = ((i + 1 : Nat) : Int) := by rw [IntWalk.i64_in _ (by omega)];omega
   have HL := aM_ (show (i : Int) < (l.length : Int) by omega)
   have HD := aM_ hdd
   have HT := aM_ hw
   have HIL := aM_ hlt
   have HKX := aM_ hkx
   have b1 : decide ((i : Int) < (l.length : Int)) = true := decide_eq_true (by omega)
   clear hw hd ht hdd HW hil
   generalize (rd_T34 l i).f0 = x0 at q0 HC
   generalize (rd_T34 l i).f1 = x1 at q1 HC
   go_wp2_with (fail)
   refine HC.out.mono ?_
   rintro e w' ⟨rfl,hi⟩
   have H1 := aM_ hi
   clear hi HC q0 q1
   by_cases he : te = 0
   ·have hw := HT.out
    rw [if_pos he] at hw
    by_cases hc : (tv = 2 ∧ v ≠ 2) ∨ (tv = 3 ∧ v = 1)
    ·rw [if_pos hc] at hw
     have HT2 := aM_ hw
     clear hw HT
     rcases hc with ⟨rfl,h2⟩ | ⟨rfl,rfl⟩
     ·go_wp2_with (fail)
      go_roundg (l.length - (i + 1))
      case measure => have := HIL.out;have := HKX.out;omega
      case rel => exact ⟨i + 1,_,i,rfl,rfl,rfl,HIL.out,Nat.le_refl _,H1,⟨by rw [HD.out];exact HT2.out⟩⟩
     ·go_wp2_with (fail)
      go_roundg (l.length - (i + 1))
      case measure => have := HIL.out;have := HKX.out;omega
      case rel => exact ⟨i + 1,_,i,rfl,rfl,rfl,HIL.out,Nat.le_refl _,H1,⟨by rw [HD.out];exact HT2.out⟩⟩
    ·rw [if_neg hc] at hw
     have HT2 := aM_ hw
     have HC2 := aM_ hc
     clear hw HT
     have hcase : (tv = 2 ∧ v = 2) ∨ (¬ tv = 2 ∧ tv = 3 ∧ ¬ v = 1) ∨ (¬ tv = 2 ∧ ¬ tv = 3) := by omega
     clear hc
     rcases hcase with ⟨rfl,rfl⟩ | ⟨_,rfl,h3⟩ | ⟨h1,h2⟩
     all_goals
      go_wp2_with (fail)
      go_roundg (l.length - (i + 1))
      case measure => have := HIL.out;have := HKX.out;omega
      case rel => exact ⟨i + 1,_,p,rfl,rfl,rfl,HIL.out,Nat.le_refl _,H1,⟨by rw [HD.out];exact HT2.out⟩⟩
   ·have hw := HT.out
    rw [if_neg he] at hw
    have hw := Option.some.inj hw
    cases hw
    go_wp2_with (fail)
    go_ret3
    exact ⟨rfl,_,H1.out⟩
  ·obtain rfl : i = l.length := by omega
   have hw := HW.out
   rw [Nat.sub_self,worstGo] at hw
   cases hw
   clear HW
   go_wp2_with (fail)
   go_ret3
   exact ⟨rfl,_,H0.out⟩

end Go.Proofs.Ytdbpobadeibjaab.GE
