-- written for this claim by a program of this session (wip/gp), over the kit's own printer; Lean checks it
import Derived.Test.YtdbpobadeibjaabGEx0
import Derived.Test.YtdbpobadeibjaabGEx11
import Derived.Test.YtdbpobadeibjaabGEx12
import Derived.Test.YtdbpobadeibjaabGEx16
import Derived.Test.YtdbpobadeibjaabGEx18
namespace Go.Proofs.Ytdbpobadeibjaab.GE
open Go.RowKit Go.Proofs.YtdbpobadeibjaabW.PrintWords Go.Proofs.YtdbpobadeibjaabW.PrintLast Go.Proofs.YtdbpobadeibjaabW.PrintMore
attribute [local go_sem] max2_int min2_int max_two min_two max_three min_three max_four min_four
set_option linter.unusedVariables false
set_option linter.unusedSimpArgs false

--HAND
/-! ### gauge.Keeps,by hand: function 47 -/
def verdictP (a b c d : Int) : Int := if a > b ∨ c > d then 0 else if a ≥ c ∧ b ≤ d then 1 else if b < c ∨ a > d then 2 else 3
theorem gauge_Verdict.eq (k : Nat) (a b c d : Int) : gauge_Verdict.f (k + 3) a b c d = some (verdictP a b c d) := by
 unfold gauge_Verdict.f verdictP
 by_cases h1 : a > b
 ·rw [if_pos h1,if_pos (.inl h1)];simp [gauge_Verdict.j0]
 ·rw [if_neg h1]
  by_cases h2 : c > d
  ·rw [if_pos (.inr h2),decide_eq_true h2];simp [gauge_Verdict.j0]
  ·rw [if_neg (by omega),decide_eq_false h2]
   by_cases h3 : a ≥ c
   ·by_cases h4 : b ≤ d
    ·rw [if_pos ⟨h3,h4⟩];simp [gauge_Verdict.j0,gauge_Verdict.j1,h3,h4]
    ·rw [if_neg (by omega)]
     by_cases h5 : b < c
     ·omega
     ·by_cases h6 : a > d
      ·rw [if_pos (.inr h6)];simp [gauge_Verdict.j0,gauge_Verdict.j1,h3,h4,h5,h6]
      ·rw [if_neg (by omega)];simp [gauge_Verdict.j0,gauge_Verdict.j1,h3,h4,h5,h6]
   ·rw [if_neg (by omega)]
    by_cases h5 : b < c
    ·rw [if_pos (.inl h5)];simp [gauge_Verdict.j0,gauge_Verdict.j1,h3,h5]
    ·by_cases h6 : a > d
     ·rw [if_pos (.inr h6)];simp [gauge_Verdict.j0,gauge_Verdict.j1,h3,h5,h6]
     ·rw [if_neg (by omega)];simp [gauge_Verdict.j0,gauge_Verdict.j1,h3,h5,h6]
def agedLo (r0 d0 n : Int) : Int := r0 + n * d0 / 1000
def agedHi (r1 d1 n : Int) : Int := r1 + -(-(n * d1) / 1000)
theorem gauge_up.eq {n : Int} (h : -1000000000000000 ≤ n ∧ n ≤ 1000000000000000) : gauge_up.f n 1000 = some (-(-n / 1000)) := by
 unfold gauge_up.f
 rw [wrap64_eq (by omega),gauge_down.eq (by omega) (by omega)]
 simp only [Option.bind_some]
 rw [wrap64_eq (by omega)]
theorem aged_prod {d n : Int} (h0 : -1000000 ≤ d) (h1 : d ≤ 1000000) (n0 : 0 ≤ n) (n1 : n ≤ 1000000) : -1000000000000 ≤ n * d ∧ n * d ≤ 1000000000000 := by
 have := mul_within h0 h1 n0 n1 (by omega)
 have e := Int.mul_comm n d
 omega
theorem gauge_aged.eq {r0 r1 d0 d1 n : Int} (a0 : -1000000000000 ≤ r0 ∧ r0 ≤ 1000000000000) (a1 : -1000000000000 ≤ r1 ∧ r1 ≤ 1000000000000) (b0 : -1000000 ≤ d0 ∧ d0 ≤ 1000000) (b1 : -1000000 ≤ d1 ∧ d1 ≤ 1000000) (n0 : 0 ≤ n) (n1 : n ≤ 1000000) :
  gauge_aged.f r0 r1 d0 d1 n = some (agedLo r0 d0 n,agedHi r1 d1 n) := by
 have p0 := aged_prod b0.1 b0.2 n0 n1
 have p1 := aged_prod b1.1 b1.2 n0 n1
 unfold gauge_aged.f agedLo agedHi
 rw [wrap64_eq (n := n * d0) (by omega),wrap64_eq (n := n * d1) (by omega),gauge_down.eq (by omega) (by omega),gauge_up.eq (by omega)]
 simp only [Option.bind_some]
 rw [wrap64_eq (by omega),wrap64_eq (by omega)]
def leastTrue (p : Nat → Bool) : Nat → Nat
 | 0 => 0
 | n + 1 => if leastTrue p n < n then leastTrue p n else if p n then n else n + 1
theorem leastTrue_le (p : Nat → Bool) : ∀ N,leastTrue p N ≤ N
 | 0 => Nat.le_refl _
 | n + 1 => by
  have := leastTrue_le p n
  simp only [leastTrue]
  split
  ·omega
  ·split <;> omega
theorem leastTrue_spec (p : Nat → Bool) : ∀ N,(∀ i,i < leastTrue p N → p i = false) ∧ (leastTrue p N < N → p (leastTrue p N) = true)
 | 0 => ⟨fun i h => absurd h (Nat.not_lt_zero _),fun h => absurd h (Nat.lt_irrefl _)⟩
 | n + 1 => by
  obtain ⟨h1,h2⟩ := leastTrue_spec p n
  have h3 := leastTrue_le p n
  by_cases c : leastTrue p n < n
  ·have e : leastTrue p (n + 1) = leastTrue p n := by simp [leastTrue,c]
   rw [e]
   exact ⟨h1,fun _ => h2 c⟩
  ·by_cases c2 : p n = true
   ·have e : leastTrue p (n + 1) = n := by simp [leastTrue,c,c2]
    rw [e]
    exact ⟨fun i hi => h1 i (by omega),fun _ => c2⟩
   ·have e : leastTrue p (n + 1) = n + 1 := by simp [leastTrue,c,c2]
    rw [e]
    refine ⟨fun i hi => ?_,fun h => by omega⟩
    by_cases hin : i = n
    ·subst hin;simpa using c2
    ·exact h1 i (by omega)
theorem leastTrue_eq {p : Nat → Bool} {N m : Nat} (hm : m ≤ N) (h1 : ∀ i,i < m → p i = false) (h2 : m < N → p m = true) : leastTrue p N = m := by
 obtain ⟨a,b⟩ := leastTrue_spec p N
 have c := leastTrue_le p N
 rcases Nat.lt_trichotomy (leastTrue p N) m with h | h | h
 ·have := h1 _ h;rw [b (by omega)] at this;cases this
 ·exact h
 ·have := a m h;rw [h2 (by omega)] at this;cases this
theorem leastTrue_mono {p : Nat → Bool} {N : Nat} (hp : ∀ i j,i ≤ j → j < N → p i = true → p j = true) (i : Nat) (hi : i < N) : p i = decide (leastTrue p N ≤ i) := by
 obtain ⟨a,b⟩ := leastTrue_spec p N
 by_cases c : leastTrue p N ≤ i
 ·rw [decide_eq_true c];exact hp _ _ c hi (b (by omega))
 ·rw [decide_eq_false c];exact a i (by omega)
def overP (rb : Int → Bool) (r0 r1 d0 d1 l0 l1 : Int) (n : Nat) : Bool := !rb (verdictP (agedLo r0 d0 n) (agedHi r1 d1 n) l0 l1)
def keepsP (rb : Int → Bool) (r0 r1 d0 d1 l0 l1 : Int) : Int := (leastTrue (overP rb r0 r1 d0 d1 l0 l1) 1000001 : Int) - 1
def sureB (v : Int) : Bool := v == 1
def mayB (v : Int) : Bool := v != 2
def driftErr (r0 r1 d0 d1 : Int) : Int := if rangeErr r0 r1 (-1000000000) 1000000000 = 2 ∨ rangeErr d0 d1 (-1000000) 1000000 = 2 then 2 else max (rangeErr r0 r1 (-1000000000) 1000000000) (rangeErr d0 d1 (-1000000) 1000000)
def keepsErr (r0 r1 d0 d1 l0 l1 : Int) : Int := if driftErr r0 r1 d0 d1 ≠ 0 then driftErr r0 r1 d0 d1 else rangeErr l0 l1 (-1000000000) 1000000000
def gauge_Keeps.f (a0_0 : Int) (a0_1 : Int) (a1_0 : Int) (a1_1 : Int) (a2_0 : Int) (a2_1 : Int) : Option (Int × Int × Int) :=
 some (if keepsErr a0_0 a0_1 a1_0 a1_1 a2_0 a2_1 ≠ 0 then (0,0,keepsErr a0_0 a0_1 a1_0 a1_1 a2_0 a2_1) else (keepsP sureB a0_0 a0_1 a1_0 a1_1 a2_0 a2_1,keepsP mayB a0_0 a0_1 a1_0 a1_1 a2_0 a2_1,0))
theorem gauge_checkDrift.eq (k : Nat) (a b c d : Int) : gauge_checkDrift.f (k + 1) a b c d = some (driftErr a b c d) := by
 unfold gauge_checkDrift.f driftErr
 rw [gauge_checkRange.eq,gauge_checkRange.eq]
 simp only [Option.bind_some]
 by_cases c1 : rangeErr a b (-1000000000) 1000000000 = 2
 ·rw [if_pos c1,if_pos (.inl c1)]
 ·rw [if_neg c1]
  by_cases c2 : rangeErr c d (-1000000) 1000000 = 2
  ·rw [if_pos c2,if_pos (.inr c2)]
  ·rw [if_neg c2,if_neg (by omega),mx_eq]
theorem driftErr_zero {r0 r1 d0 d1 : Int} (h : driftErr r0 r1 d0 d1 = 0) : -1000000000 ≤ r0 ∧ r0 ≤ r1 ∧ r1 ≤ 1000000000 ∧ -1000000 ≤ d0 ∧ d0 ≤ d1 ∧ d1 ≤ 1000000 := by
 unfold driftErr at h
 split at h
 ·omega
 ·have e : ∀ a b lo hi,0 ≤ rangeErr a b lo hi := fun a b lo hi => by
   unfold rangeErr
   split
   ·omega
   ·split <;> omega
  have h1 := e r0 r1 (-1000000000) 1000000000
  have h2 := e d0 d1 (-1000000) 1000000
  have a := rangeErr_zero (show rangeErr r0 r1 (-1000000000) 1000000000 = 0 by omega)
  have b := rangeErr_zero (show rangeErr d0 d1 (-1000000) 1000000 = 0 by omega)
  omega
/-! #### once over,always over -/
theorem aged_lo_mono {r0 d0 : Int} {i j : Int} (h : i ≤ j) : (0 ≤ d0 → agedLo r0 d0 i ≤ agedLo r0 d0 j) ∧ (d0 ≤ 0 → agedLo r0 d0 j ≤ agedLo r0 d0 i) := by
 unfold agedLo
 constructor
 ·intro hd
  have := Int.mul_le_mul_of_nonneg_right h hd
  have := Int.ediv_le_ediv (show (0 : Int) < 1000 by omega) this
  omega
 ·intro hd
  have := Int.mul_le_mul_of_nonpos_right h hd
  have := Int.ediv_le_ediv (show (0 : Int) < 1000 by omega) this
  omega
theorem aged_hi_mono {r1 d1 : Int} {i j : Int} (h : i ≤ j) : (0 ≤ d1 → agedHi r1 d1 i ≤ agedHi r1 d1 j) ∧ (d1 ≤ 0 → agedHi r1 d1 j ≤ agedHi r1 d1 i) := by
 unfold agedHi
 constructor
 ·intro hd
  have := Int.mul_le_mul_of_nonneg_right h hd
  omega
 ·intro hd
  have := Int.mul_le_mul_of_nonpos_right h hd
  omega
theorem aged_zero (r0 d0 : Int) : agedLo r0 d0 0 = r0 ∧ agedHi r0 d0 0 = r0 := by unfold agedLo agedHi;simp
theorem aged_order {r0 r1 d0 d1 n : Int} (hr : r0 ≤ r1) (hd : d0 ≤ d1) (hn : 0 ≤ n) : agedLo r0 d0 n ≤ agedHi r1 d1 n := by
 unfold agedLo agedHi
 have := Int.mul_le_mul_of_nonneg_left hd hn
 omega
theorem over_sure_mono {r0 r1 d0 d1 l0 l1 : Int} (hr : r0 ≤ r1) (hd : d0 ≤ d1) (hl : l0 ≤ l1) (h0 : overP sureB r0 r1 d0 d1 l0 l1 0 = false) (i j : Nat) (hij : i ≤ j) (h : overP sureB r0 r1 d0 d1 l0 l1 i = true) : overP sureB r0 r1 d0 d1 l0 l1 j = true := by
 have zi := aged_order hr hd (show (0 : Int) ≤ i by omega)
 have zj := aged_order hr hd (show (0 : Int) ≤ j by omega)
 have a := aged_lo_mono (r0 := r0) (d0 := d0) (show (i : Int) ≤ j by omega)
 have b := aged_hi_mono (r1 := r1) (d1 := d1) (show (i : Int) ≤ j by omega)
 have a0 := aged_lo_mono (r0 := r0) (d0 := d0) (show (0 : Int) ≤ i by omega)
 have b0 := aged_hi_mono (r1 := r1) (d1 := d1) (show (0 : Int) ≤ i by omega)
 have e0 := (aged_zero r0 d0).1
 have e1 := (aged_zero r1 d1).2
 have sure_iff : ∀ n : Nat,agedLo r0 d0 n ≤ agedHi r1 d1 n → (overP sureB r0 r1 d0 d1 l0 l1 n = false ↔ l0 ≤ agedLo r0 d0 n ∧ agedHi r1 d1 n ≤ l1) := fun n hn => by
  unfold overP sureB verdictP
  rw [if_neg (by omega)]
  by_cases c : agedLo r0 d0 n ≥ l0 ∧ agedHi r1 d1 n ≤ l1
  ·rw [if_pos c];simpa using c
  ·rw [if_neg c]
   constructor
   ·intro hx;split at hx <;> simp at hx
   ·intro hx;exact absurd hx c
 have s0 := (sure_iff 0 (by rw [show ((0 : Nat) : Int) = 0 from rfl,e0,e1];exact hr)).1 h0
 rw [show ((0 : Nat) : Int) = 0 from rfl,e0,e1] at s0
 rw [e0] at a0
 rw [e1] at b0
 have ni : ¬ (l0 ≤ agedLo r0 d0 i ∧ agedHi r1 d1 i ≤ l1) := fun hx => by rw [(sure_iff i zi).2 hx] at h;cases h
 by_cases c : overP sureB r0 r1 d0 d1 l0 l1 j = true
 ·exact c
 ·have sj := (sure_iff j zj).1 (by simpa using c)
  omega
theorem over_may_mono {r0 r1 d0 d1 l0 l1 : Int} (hr : r0 ≤ r1) (hd : d0 ≤ d1) (hl : l0 ≤ l1) (h0 : overP mayB r0 r1 d0 d1 l0 l1 0 = false) (i j : Nat) (hij : i ≤ j) (h : overP mayB r0 r1 d0 d1 l0 l1 i = true) : overP mayB r0 r1 d0 d1 l0 l1 j = true := by
 have zi := aged_order hr hd (show (0 : Int) ≤ i by omega)
 have zj := aged_order hr hd (show (0 : Int) ≤ j by omega)
 have a := aged_lo_mono (r0 := r0) (d0 := d0) (show (i : Int) ≤ j by omega)
 have b := aged_hi_mono (r1 := r1) (d1 := d1) (show (i : Int) ≤ j by omega)
 have a0 := aged_lo_mono (r0 := r0) (d0 := d0) (show (0 : Int) ≤ i by omega)
 have b0 := aged_hi_mono (r1 := r1) (d1 := d1) (show (0 : Int) ≤ i by omega)
 have e0 := (aged_zero r0 d0).1
 have e1 := (aged_zero r1 d1).2
 have may_iff : ∀ n : Nat,agedLo r0 d0 n ≤ agedHi r1 d1 n → (overP mayB r0 r1 d0 d1 l0 l1 n = true ↔ agedHi r1 d1 n < l0 ∨ l1 < agedLo r0 d0 n) := fun n hn => by
  unfold overP mayB verdictP
  rw [if_neg (by omega)]
  by_cases c : agedLo r0 d0 n ≥ l0 ∧ agedHi r1 d1 n ≤ l1
  ·rw [if_pos c];simp;omega
  ·rw [if_neg c]
   by_cases c2 : agedHi r1 d1 n < l0 ∨ agedLo r0 d0 n > l1
   ·rw [if_pos c2];simp;omega
   ·rw [if_neg c2];simp;omega
 have s0 : ¬ (r1 < l0 ∨ l1 < r0) := fun hx => by
  have := (may_iff 0 (by rw [show ((0 : Nat) : Int) = 0 from rfl,e0,e1];exact hr)).2 (by rw [show ((0 : Nat) : Int) = 0 from rfl,e0,e1];exact hx)
  rw [h0] at this;cases this
 rw [e0] at a0
 rw [e1] at b0
 have ni := (may_iff i zi).1 h
 rw [may_iff j zj]
 omega
/-! #### the walk -/
set_option maxHeartbeats 4000000 in
theorem gauge_Keeps_2.calls (v : Int) (w : World) : Calls Try.prog 79 #[.int .i64 v] w fun e w' => e = .returned (.bool (sureB v)) ∧ Below w.heap.size w w' := by
 unfold sureB
 go_enter Try.func79,Try.ntmps79
 go_wp2
 go_ret
 exact ⟨by simp,Below.refl _ _⟩
set_option maxHeartbeats 4000000 in
theorem gauge_Keeps_3.calls (v : Int) (w : World) : Calls Try.prog 80 #[.int .i64 v] w fun e w' => e = .returned (.bool (mayB v)) ∧ Below w.heap.size w w' := by
 unfold mayB
 go_enter Try.func80,Try.ntmps80
 go_wp2
 go_ret
 exact ⟨by simp [bne],Below.refl _ _⟩
structure KeepsAt (r0 r1 d0 d1 l0 l1 : Int) (br bd bl : Nat) (w : World) : Prop where
 cr : w.heap[br]? = some (.cells #[.int .i64 r0,.int .i64 r1] 34 (0,0))
 cd : w.heap[bd]? = some (.cells #[.int .i64 d0,.int .i64 d1] 34 (0,0))
 cl : w.heap[bl]? = some (.cells #[.int .i64 l0,.int .i64 l1] 34 (0,0))
theorem KeepsAt.below {r0 r1 d0 d1 l0 l1 : Int} {br bd bl : Nat} {w w' : World} (h : KeepsAt r0 r1 d0 d1 l0 l1 br bd bl w) (hb : Below w.heap.size w w') : KeepsAt r0 r1 d0 d1 l0 l1 br bd bl w' :=
 ⟨kB_ h.cr hb,kB_ h.cd hb,kB_ h.cl hb⟩
theorem KeepsAt.drew {r0 r1 d0 d1 l0 l1 : Int} {br bd bl : Nat} {w : World} (h : KeepsAt r0 r1 d0 d1 l0 l1 br bd bl w) : KeepsAt r0 r1 d0 d1 l0 l1 br bd bl w.drew :=
 ⟨kD_ h.cr,kD_ h.cd,kD_ h.cl⟩
theorem KeepsAt.alloc {r0 r1 d0 d1 l0 l1 : Int} {br bd bl : Nat} {w : World} (h : KeepsAt r0 r1 d0 d1 l0 l1 br bd bl w) (b : Obj) : KeepsAt r0 r1 d0 d1 l0 l1 br bd bl (w.alloc b) :=
 ⟨kA_ h.cr b,kA_ h.cd b,kA_ h.cl b⟩

set_option maxHeartbeats 4000000 in
set_option maxRecDepth 1000000 in
theorem gauge_Keeps_1_12.calls (r0 r1 d0 d1 l0 l1 n : Int) (bf br bd bl : Nat) (w : World)
  (cf : w.heap[bf]? = some (.cells #[.func (.func 79) #[] #[]] 68 (0,0))) (hk : KeepsAt r0 r1 d0 d1 l0 l1 br bd bl w)
  (a0 : -1000000000000 ≤ r0 ∧ r0 ≤ 1000000000000) (a1 : -1000000000000 ≤ r1 ∧ r1 ≤ 1000000000000) (b0 : -1000000 ≤ d0 ∧ d0 ≤ 1000000) (b1 : -1000000 ≤ d1 ∧ d1 ≤ 1000000) (n0 : 0 ≤ n) (n1 : n ≤ 1000000) :
  Calls Try.prog 77 (#[.int .i64 n] ++ #[.pointer (some ⟨bf,0,none⟩),.pointer (some ⟨br,0,none⟩),.pointer (some ⟨bd,0,none⟩),.pointer (some ⟨bl,0,none⟩)]) w
   fun e W' => e = .returned (.bool (overP sureB r0 r1 d0 d1 l0 l1 n.toNat)) ∧ Below w.heap.size w W' := by
 have HA := aM_ (gauge_aged.calls r0 r1 d0 d1 n _ _ w.drew (gauge_aged.eq a0 a1 b0 b1 n0 n1))
 have HV := aM_ (fun W => gauge_Verdict.calls 3 (agedLo r0 d0 n) (agedHi r1 d1 n) l0 l1 _ W (gauge_Verdict.eq 0 _ _ _ _))
 have e0 : overP sureB r0 r1 d0 d1 l0 l1 n.toNat = !sureB (verdictP (agedLo r0 d0 n) (agedHi r1 d1 n) l0 l1) := by unfold overP;rw [Int.toNat_of_nonneg n0]
 rw [e0]
 clear a0 a1 b0 b1 n0 n1 e0
 generalize verdictP (agedLo r0 d0 n) (agedHi r1 d1 n) l0 l1 = v at HV ⊢
 generalize agedLo r0 d0 n = x at HA HV
 generalize agedHi r1 d1 n = y at HA HV
 have HR := aM_ (fun W => gauge_Keeps_2.calls v W)
 generalize sureB v = b at HR ⊢
 have eg := enters_of Try.func79 (by kernel_rfl) rfl
 have hu34 := Try.underlying34
 have KS := aM_ (show ∀ W : World,Below w.heap.size w W → (fun (W : World) => W.cell? ⟨br,0,none⟩ = some (.int .i64 r0) ∧ W.cell? ⟨br,1,none⟩ = some (.int .i64 r1) ∧ W.cell? ⟨bd,0,none⟩ = some (.int .i64 d0) ∧ W.cell? ⟨bd,1,none⟩ = some (.int .i64 d1) ∧ W.cell? ⟨bl,0,none⟩ = some (.int .i64 l0) ∧ W.cell? ⟨bl,1,none⟩ = some (.int .i64 l1) ∧ W.cell? ⟨bf,0,none⟩ = some (.func (.func 79) #[] #[])) W from fun W hB =>
  ⟨(blk_cell (hk.below hB).cr 0).trans rfl,(blk_cell (hk.below hB).cr 1).trans rfl,(blk_cell (hk.below hB).cd 0).trans rfl,(blk_cell (hk.below hB).cd 1).trans rfl,(blk_cell (hk.below hB).cl 0).trans rfl,(blk_cell (hk.below hB).cl 1).trans rfl,(blk_cell (kB_ cf hB) 0).trans rfl⟩)
 have HB0 := aM_ (bD_ (Below.refl w.heap.size w))
 clear cf hk
 go_enter Try.func77,Try.ntmps77
 go_wp2
 go_region_held (fun (W : World) => W.cell? ⟨br,0,none⟩ = some (.int .i64 r0) ∧ W.cell? ⟨br,1,none⟩ = some (.int .i64 r1) ∧ W.cell? ⟨bd,0,none⟩ = some (.int .i64 d0) ∧ W.cell? ⟨bd,1,none⟩ = some (.int .i64 d1) ∧ W.cell? ⟨bl,0,none⟩ = some (.int .i64 l0) ∧ W.cell? ⟨bl,1,none⟩ = some (.int .i64 l1) ∧ W.cell? ⟨bf,0,none⟩ = some (.func (.func 79) #[] #[])) (first | exact KS.out _ HB3.out | exact KS.out _ HB2.out | exact KS.out _ HB1.out | exact KS.out _ HB0.out) (first
  | (go_at_call 78;(with_reducible refine HA.out.mono ?_);rintro e w' ⟨rfl,hb⟩;have HB1 := aM_ (bT_ HB0.out hb);clear hb)
  | (go_at_call 20;(with_reducible refine (HV.out _).mono ?_);rintro e w' ⟨rfl,hb⟩;have HB2 := aM_ (bT_ HB1.out hb);clear hb)
  | (go_at_call 79;(with_reducible refine (HR.out _).mono ?_);rintro e w' ⟨rfl,hb⟩;have HB3 := aM_ (bT_ HB2.out hb);clear hb))
 all_goals (go_wp2;go_ret)
 all_goals refine ⟨by simp [Act.put],?_⟩
 all_goals exact HB3.out

theorem gauge_Keeps_12.inner (r0 r1 d0 d1 l0 l1 : Int) (bf br bd bl : Nat) (W0 : World)
  (hm : ∀ i j : Nat,i ≤ j → overP sureB r0 r1 d0 d1 l0 l1 i = true → overP sureB r0 r1 d0 d1 l0 l1 j = true)
  (cf : W0.heap[bf]? = some (.cells #[.func (.func 79) #[] #[]] 68 (0,0))) (hk : KeepsAt r0 r1 d0 d1 l0 l1 br bd bl W0)
  (a0 : -1000000000000 ≤ r0 ∧ r0 ≤ 1000000000000) (a1 : -1000000000000 ≤ r1 ∧ r1 ≤ 1000000000000) (b0 : -1000000 ≤ d0 ∧ d0 ≤ 1000000) (b1 : -1000000 ≤ d1 ∧ d1 ≤ 1000000) :
  Calls Try.prog 76 #[.int .i64 1000001,.func (.func 77) #[] #[.pointer (some ⟨bf,0,none⟩),.pointer (some ⟨br,0,none⟩),.pointer (some ⟨bd,0,none⟩),.pointer (some ⟨bl,0,none⟩)]] W0
   fun e w' => e = .returned (.int .i64 (leastTrue (overP sureB r0 r1 d0 d1 l0 l1) 1000001 : Int)) ∧ Below W0.heap.size W0 w' := by
 have hle := leastTrue_le (overP sureB r0 r1 d0 d1 l0 l1) 1000001
 refine sort_Search.calls 77 #[.pointer (some ⟨bf,0,none⟩),.pointer (some ⟨br,0,none⟩),.pointer (some ⟨bd,0,none⟩),.pointer (some ⟨bl,0,none⟩)] 1000001 _ W0 (enters_of Try.func77 (by kernel_rfl) rfl) (by omega) (by omega) (by omega) ?_
 intro W i hB hi0 hi1
 have e := leastTrue_mono (p := overP sureB r0 r1 d0 d1 l0 l1) (N := 1000001) (fun i j h _ => hm i j h) i.toNat (by omega)
 have e2 : decide ((leastTrue (overP sureB r0 r1 d0 d1 l0 l1) 1000001 : Int) ≤ i) = overP sureB r0 r1 d0 d1 l0 l1 i.toNat := by
  rw [e,decide_eq_decide]
  omega
 rw [e2]
 exact gauge_Keeps_1_12.calls r0 r1 d0 d1 l0 l1 i bf br bd bl W (kB_ cf hB) (hk.below hB) a0 a1 b0 b1 hi0 (by omega)

set_option maxHeartbeats 4000000 in
set_option maxRecDepth 1000000 in
theorem gauge_Keeps_12.calls (r0 r1 d0 d1 l0 l1 : Int) (br bd bl : Nat) (w : World)
  (hm : overP sureB r0 r1 d0 d1 l0 l1 0 = false → ∀ i j : Nat,i ≤ j → overP sureB r0 r1 d0 d1 l0 l1 i = true → overP sureB r0 r1 d0 d1 l0 l1 j = true)
  (hk : KeepsAt r0 r1 d0 d1 l0 l1 br bd bl w)
  (a0 : -1000000000000 ≤ r0 ∧ r0 ≤ 1000000000000) (a1 : -1000000000000 ≤ r1 ∧ r1 ≤ 1000000000000) (b0 : -1000000 ≤ d0 ∧ d0 ≤ 1000000) (b1 : -1000000 ≤ d1 ∧ d1 ≤ 1000000) :
  Calls Try.prog 75 #[.func (.func 79) #[] #[],.pointer (some ⟨br,0,none⟩),.pointer (some ⟨bl,0,none⟩),.pointer (some ⟨bd,0,none⟩)] w
   fun e W' => e = .returned (.int .i64 (keepsP sureB r0 r1 d0 d1 l0 l1)) ∧ Below w.heap.size w W' := by
 have HV := aM_ (fun W => gauge_Verdict.calls 3 r0 r1 l0 l1 _ W (gauge_Verdict.eq 0 _ _ _ _))
 have HI := aM_ (fun bf W hm cf hk => gauge_Keeps_12.inner r0 r1 d0 d1 l0 l1 bf br bd bl W hm cf hk a0 a1 b0 b1)
 have hle := leastTrue_le (overP sureB r0 r1 d0 d1 l0 l1) 1000001
 have e0 : overP sureB r0 r1 d0 d1 l0 l1 0 = !sureB (verdictP r0 r1 l0 l1) := by
  unfold overP
  rw [show ((0 : Nat) : Int) = 0 from rfl,(aged_zero r0 d0).1,(aged_zero r1 d1).2]
 have HM := aM_ hm
 have hu34 := Try.underlying34
 have KB := aM_ (show ∀ W : World,Below (w.alloc (.cells #[.func (.func 79) #[] #[]] 68)).heap.size (w.alloc (.cells #[.func (.func 79) #[] #[]] 68)) W → KeepsAt r0 r1 d0 d1 l0 l1 br bd bl W ∧ W.heap[w.heap.size]? = some (.cells #[.func (.func 79) #[] #[]] 68 (0,0)) from fun W hB =>
  ⟨(hk.alloc (.cells #[.func (.func 79) #[] #[]] 68)).below hB,kB_ (blk_new w (.cells #[.func (.func 79) #[] #[]] 68)) hB⟩)
 have KS := aM_ (show ∀ W : World,Below (w.alloc (.cells #[.func (.func 79) #[] #[]] 68)).heap.size (w.alloc (.cells #[.func (.func 79) #[] #[]] 68)) W → (fun (W : World) => W.cell? ⟨br,0,none⟩ = some (.int .i64 r0) ∧ W.cell? ⟨br,1,none⟩ = some (.int .i64 r1) ∧ W.cell? ⟨bl,0,none⟩ = some (.int .i64 l0) ∧ W.cell? ⟨bl,1,none⟩ = some (.int .i64 l1) ∧ W.cell? ⟨w.heap.size,0,none⟩ = some (.func (.func 79) #[] #[])) W from fun W hB =>
  ⟨(blk_cell (KB.out W hB).1.cr 0).trans rfl,(blk_cell (KB.out W hB).1.cr 1).trans rfl,(blk_cell (KB.out W hB).1.cl 0).trans rfl,(blk_cell (KB.out W hB).1.cl 1).trans rfl,(blk_cell (KB.out W hB).2 0).trans rfl⟩)
 have HB0 := aM_ (bD_ (Below.refl (w.alloc (.cells #[.func (.func 79) #[] #[]] 68)).heap.size (w.alloc (.cells #[.func (.func 79) #[] #[]] 68))))
 have HBw := aM_ (fun W (hB : Below (w.alloc (.cells #[.func (.func 79) #[] #[]] 68)).heap.size (w.alloc (.cells #[.func (.func 79) #[] #[]] 68)) W) => bT_ (bA_ (Below.refl w.heap.size w) (.cells #[.func (.func 79) #[] #[]] 68)) hB)
 clear hk a0 a1 b0 b1 hm
 by_cases c : overP sureB r0 r1 d0 d1 l0 l1 0 = true
 ·have ek : keepsP sureB r0 r1 d0 d1 l0 l1 = -1 := by
   unfold keepsP
   rw [leastTrue_eq (m := 0) (by omega) (fun i h => absurd h (Nat.not_lt_zero _)) (fun _ => c)]
   rfl
  rw [ek]
  rw [e0] at c
  have c' := aM_ (show sureB (verdictP r0 r1 l0 l1) = false by simpa using c)
  clear ek e0 c hle HI HM
  generalize verdictP r0 r1 l0 l1 = v at HV c'
  have HR := aM_ (fun W => gauge_Keeps_2.calls v W)
  rw [c'.out] at HR
  clear c'
  have eg := enters_of Try.func79 (by kernel_rfl) rfl
  go_enter Try.func75,Try.ntmps75
  go_wp2
  go_region_held (fun (W : World) => W.cell? ⟨br,0,none⟩ = some (.int .i64 r0) ∧ W.cell? ⟨br,1,none⟩ = some (.int .i64 r1) ∧ W.cell? ⟨bl,0,none⟩ = some (.int .i64 l0) ∧ W.cell? ⟨bl,1,none⟩ = some (.int .i64 l1) ∧ W.cell? ⟨w.heap.size,0,none⟩ = some (.func (.func 79) #[] #[])) (first | exact KS.out _ HB3.out | exact KS.out _ HB2.out | exact KS.out _ HB0.out) (first
   | (go_at_call 20;(with_reducible refine (HV.out _).mono ?_);rintro e w' ⟨rfl,hb⟩;have HB2 := aM_ (bT_ HB0.out hb);clear hb)
   | (go_at_call 79;(with_reducible refine (HR.out _).mono ?_);rintro e w' ⟨rfl,hb⟩;have HB3 := aM_ (bT_ HB2.out hb);clear hb))
  all_goals (try simp [Act.put])
  all_goals go_wp2
  all_goals go_ret
  all_goals exact ⟨rfl,HBw.out _ HB3.out⟩
 ·have c1 : overP sureB r0 r1 d0 d1 l0 l1 0 = false := by simpa using c
  have hm := HM.out c1
  rw [e0] at c1
  have c' := aM_ (show sureB (verdictP r0 r1 l0 l1) = true by simpa using c1)
  unfold keepsP
  generalize leastTrue (overP sureB r0 r1 d0 d1 l0 l1) 1000001 = q at HI hle ⊢
  have e1 : IntKind.i64.wrap ((q : Int) - 1) = (q : Int) - 1 := IntWalk.i64_in _ (by omega)
  have HJ := aM_ (fun W cf hk => HI.out w.heap.size W hm cf hk)
  clear e0 c c1 hle hm HI HM
  generalize verdictP r0 r1 l0 l1 = v at HV c'
  have HR := aM_ (fun W => gauge_Keeps_2.calls v W)
  rw [c'.out] at HR
  clear c'
  have eg := enters_of Try.func79 (by kernel_rfl) rfl
  go_enter Try.func75,Try.ntmps75
  go_wp2
  go_region_held (fun (W : World) => W.cell? ⟨br,0,none⟩ = some (.int .i64 r0) ∧ W.cell? ⟨br,1,none⟩ = some (.int .i64 r1) ∧ W.cell? ⟨bl,0,none⟩ = some (.int .i64 l0) ∧ W.cell? ⟨bl,1,none⟩ = some (.int .i64 l1) ∧ W.cell? ⟨w.heap.size,0,none⟩ = some (.func (.func 79) #[] #[])) (first | exact KS.out _ HB3.out | exact KS.out _ HB2.out | exact KS.out _ HB0.out) (first
   | (go_at_call 20;(with_reducible refine (HV.out _).mono ?_);rintro e w' ⟨rfl,hb⟩;have HB2 := aM_ (bT_ HB0.out hb);clear hb)
   | (go_at_call 79;(with_reducible refine (HR.out _).mono ?_);rintro e w' ⟨rfl,hb⟩;have HB3 := aM_ (bT_ HB2.out hb);clear hb))
  all_goals (try simp [Act.put])
  all_goals go_wp2_with (fail)
  all_goals (with_reducible refine (HJ.out _ (KB.out _ HB3.out).2 (KB.out _ HB3.out).1).mono ?_)
  all_goals rintro e w4 ⟨rfl,hb⟩
  all_goals have HB4 := aM_ (bT_ HB3.out hb)
  all_goals clear hb
  all_goals go_wp2
  all_goals go_ret
  all_goals exact ⟨rfl,HBw.out _ HB4.out⟩

set_option maxHeartbeats 4000000 in
set_option maxRecDepth 1000000 in
theorem gauge_Keeps_1_13.calls (r0 r1 d0 d1 l0 l1 n : Int) (bf br bd bl : Nat) (w : World)
  (cf : w.heap[bf]? = some (.cells #[.func (.func 80) #[] #[]] 68 (0,0))) (hk : KeepsAt r0 r1 d0 d1 l0 l1 br bd bl w)
  (a0 : -1000000000000 ≤ r0 ∧ r0 ≤ 1000000000000) (a1 : -1000000000000 ≤ r1 ∧ r1 ≤ 1000000000000) (b0 : -1000000 ≤ d0 ∧ d0 ≤ 1000000) (b1 : -1000000 ≤ d1 ∧ d1 ≤ 1000000) (n0 : 0 ≤ n) (n1 : n ≤ 1000000) :
  Calls Try.prog 77 (#[.int .i64 n] ++ #[.pointer (some ⟨bf,0,none⟩),.pointer (some ⟨br,0,none⟩),.pointer (some ⟨bd,0,none⟩),.pointer (some ⟨bl,0,none⟩)]) w
   fun e W' => e = .returned (.bool (overP mayB r0 r1 d0 d1 l0 l1 n.toNat)) ∧ Below w.heap.size w W' := by
 have HA := aM_ (gauge_aged.calls r0 r1 d0 d1 n _ _ w.drew (gauge_aged.eq a0 a1 b0 b1 n0 n1))
 have HV := aM_ (fun W => gauge_Verdict.calls 3 (agedLo r0 d0 n) (agedHi r1 d1 n) l0 l1 _ W (gauge_Verdict.eq 0 _ _ _ _))
 have e0 : overP mayB r0 r1 d0 d1 l0 l1 n.toNat = !mayB (verdictP (agedLo r0 d0 n) (agedHi r1 d1 n) l0 l1) := by unfold overP;rw [Int.toNat_of_nonneg n0]
 rw [e0]
 clear a0 a1 b0 b1 n0 n1 e0
 generalize verdictP (agedLo r0 d0 n) (agedHi r1 d1 n) l0 l1 = v at HV ⊢
 generalize agedLo r0 d0 n = x at HA HV
 generalize agedHi r1 d1 n = y at HA HV
 have HR := aM_ (fun W => gauge_Keeps_3.calls v W)
 generalize mayB v = b at HR ⊢
 have eg := enters_of Try.func80 (by kernel_rfl) rfl
 have hu34 := Try.underlying34
 have KS := aM_ (show ∀ W : World,Below w.heap.size w W → (fun (W : World) => W.cell? ⟨br,0,none⟩ = some (.int .i64 r0) ∧ W.cell? ⟨br,1,none⟩ = some (.int .i64 r1) ∧ W.cell? ⟨bd,0,none⟩ = some (.int .i64 d0) ∧ W.cell? ⟨bd,1,none⟩ = some (.int .i64 d1) ∧ W.cell? ⟨bl,0,none⟩ = some (.int .i64 l0) ∧ W.cell? ⟨bl,1,none⟩ = some (.int .i64 l1) ∧ W.cell? ⟨bf,0,none⟩ = some (.func (.func 80) #[] #[])) W from fun W hB =>
  ⟨(blk_cell (hk.below hB).cr 0).trans rfl,(blk_cell (hk.below hB).cr 1).trans rfl,(blk_cell (hk.below hB).cd 0).trans rfl,(blk_cell (hk.below hB).cd 1).trans rfl,(blk_cell (hk.below hB).cl 0).trans rfl,(blk_cell (hk.below hB).cl 1).trans rfl,(blk_cell (kB_ cf hB) 0).trans rfl⟩)
 have HB0 := aM_ (bD_ (Below.refl w.heap.size w))
 clear cf hk
 go_enter Try.func77,Try.ntmps77
 go_wp2
 go_region_held (fun (W : World) => W.cell? ⟨br,0,none⟩ = some (.int .i64 r0) ∧ W.cell? ⟨br,1,none⟩ = some (.int .i64 r1) ∧ W.cell? ⟨bd,0,none⟩ = some (.int .i64 d0) ∧ W.cell? ⟨bd,1,none⟩ = some (.int .i64 d1) ∧ W.cell? ⟨bl,0,none⟩ = some (.int .i64 l0) ∧ W.cell? ⟨bl,1,none⟩ = some (.int .i64 l1) ∧ W.cell? ⟨bf,0,none⟩ = some (.func (.func 80) #[] #[])) (first | exact KS.out _ HB3.out | exact KS.out _ HB2.out | exact KS.out _ HB1.out | exact KS.out _ HB0.out) (first
  | (go_at_call 78;(with_reducible refine HA.out.mono ?_);rintro e w' ⟨rfl,hb⟩;have HB1 := aM_ (bT_ HB0.out hb);clear hb)
  | (go_at_call 20;(with_reducible refine (HV.out _).mono ?_);rintro e w' ⟨rfl,hb⟩;have HB2 := aM_ (bT_ HB1.out hb);clear hb)
  | (go_at_call 80;(with_reducible refine (HR.out _).mono ?_);rintro e w' ⟨rfl,hb⟩;have HB3 := aM_ (bT_ HB2.out hb);clear hb))
 all_goals (go_wp2;go_ret)
 all_goals refine ⟨by simp [Act.put],?_⟩
 all_goals exact HB3.out

theorem gauge_Keeps_13.inner (r0 r1 d0 d1 l0 l1 : Int) (bf br bd bl : Nat) (W0 : World)
  (hm : ∀ i j : Nat,i ≤ j → overP mayB r0 r1 d0 d1 l0 l1 i = true → overP mayB r0 r1 d0 d1 l0 l1 j = true)
  (cf : W0.heap[bf]? = some (.cells #[.func (.func 80) #[] #[]] 68 (0,0))) (hk : KeepsAt r0 r1 d0 d1 l0 l1 br bd bl W0)
  (a0 : -1000000000000 ≤ r0 ∧ r0 ≤ 1000000000000) (a1 : -1000000000000 ≤ r1 ∧ r1 ≤ 1000000000000) (b0 : -1000000 ≤ d0 ∧ d0 ≤ 1000000) (b1 : -1000000 ≤ d1 ∧ d1 ≤ 1000000) :
  Calls Try.prog 76 #[.int .i64 1000001,.func (.func 77) #[] #[.pointer (some ⟨bf,0,none⟩),.pointer (some ⟨br,0,none⟩),.pointer (some ⟨bd,0,none⟩),.pointer (some ⟨bl,0,none⟩)]] W0
   fun e w' => e = .returned (.int .i64 (leastTrue (overP mayB r0 r1 d0 d1 l0 l1) 1000001 : Int)) ∧ Below W0.heap.size W0 w' := by
 have hle := leastTrue_le (overP mayB r0 r1 d0 d1 l0 l1) 1000001
 refine sort_Search.calls 77 #[.pointer (some ⟨bf,0,none⟩),.pointer (some ⟨br,0,none⟩),.pointer (some ⟨bd,0,none⟩),.pointer (some ⟨bl,0,none⟩)] 1000001 _ W0 (enters_of Try.func77 (by kernel_rfl) rfl) (by omega) (by omega) (by omega) ?_
 intro W i hB hi0 hi1
 have e := leastTrue_mono (p := overP mayB r0 r1 d0 d1 l0 l1) (N := 1000001) (fun i j h _ => hm i j h) i.toNat (by omega)
 have e2 : decide ((leastTrue (overP mayB r0 r1 d0 d1 l0 l1) 1000001 : Int) ≤ i) = overP mayB r0 r1 d0 d1 l0 l1 i.toNat := by
  rw [e,decide_eq_decide]
  omega
 rw [e2]
 exact gauge_Keeps_1_13.calls r0 r1 d0 d1 l0 l1 i bf br bd bl W (kB_ cf hB) (hk.below hB) a0 a1 b0 b1 hi0 (by omega)

set_option maxHeartbeats 4000000 in
set_option maxRecDepth 1000000 in
theorem gauge_Keeps_13.calls (r0 r1 d0 d1 l0 l1 : Int) (br bd bl : Nat) (w : World)
  (hm : overP mayB r0 r1 d0 d1 l0 l1 0 = false → ∀ i j : Nat,i ≤ j → overP mayB r0 r1 d0 d1 l0 l1 i = true → overP mayB r0 r1 d0 d1 l0 l1 j = true)
  (hk : KeepsAt r0 r1 d0 d1 l0 l1 br bd bl w)
  (a0 : -1000000000000 ≤ r0 ∧ r0 ≤ 1000000000000) (a1 : -1000000000000 ≤ r1 ∧ r1 ≤ 1000000000000) (b0 : -1000000 ≤ d0 ∧ d0 ≤ 1000000) (b1 : -1000000 ≤ d1 ∧ d1 ≤ 1000000) :
  Calls Try.prog 75 #[.func (.func 80) #[] #[],.pointer (some ⟨br,0,none⟩),.pointer (some ⟨bl,0,none⟩),.pointer (some ⟨bd,0,none⟩)] w
   fun e W' => e = .returned (.int .i64 (keepsP mayB r0 r1 d0 d1 l0 l1)) ∧ Below w.heap.size w W' := by
 have HV := aM_ (fun W => gauge_Verdict.calls 3 r0 r1 l0 l1 _ W (gauge_Verdict.eq 0 _ _ _ _))
 have HI := aM_ (fun bf W hm cf hk => gauge_Keeps_13.inner r0 r1 d0 d1 l0 l1 bf br bd bl W hm cf hk a0 a1 b0 b1)
 have hle := leastTrue_le (overP mayB r0 r1 d0 d1 l0 l1) 1000001
 have e0 : overP mayB r0 r1 d0 d1 l0 l1 0 = !mayB (verdictP r0 r1 l0 l1) := by
  unfold overP
  rw [show ((0 : Nat) : Int) = 0 from rfl,(aged_zero r0 d0).1,(aged_zero r1 d1).2]
 have HM := aM_ hm
 have hu34 := Try.underlying34
 have KB := aM_ (show ∀ W : World,Below (w.alloc (.cells #[.func (.func 80) #[] #[]] 68)).heap.size (w.alloc (.cells #[.func (.func 80) #[] #[]] 68)) W → KeepsAt r0 r1 d0 d1 l0 l1 br bd bl W ∧ W.heap[w.heap.size]? = some (.cells #[.func (.func 80) #[] #[]] 68 (0,0)) from fun W hB =>
  ⟨(hk.alloc (.cells #[.func (.func 80) #[] #[]] 68)).below hB,kB_ (blk_new w (.cells #[.func (.func 80) #[] #[]] 68)) hB⟩)
 have KS := aM_ (show ∀ W : World,Below (w.alloc (.cells #[.func (.func 80) #[] #[]] 68)).heap.size (w.alloc (.cells #[.func (.func 80) #[] #[]] 68)) W → (fun (W : World) => W.cell? ⟨br,0,none⟩ = some (.int .i64 r0) ∧ W.cell? ⟨br,1,none⟩ = some (.int .i64 r1) ∧ W.cell? ⟨bl,0,none⟩ = some (.int .i64 l0) ∧ W.cell? ⟨bl,1,none⟩ = some (.int .i64 l1) ∧ W.cell? ⟨w.heap.size,0,none⟩ = some (.func (.func 80) #[] #[])) W from fun W hB =>
  ⟨(blk_cell (KB.out W hB).1.cr 0).trans rfl,(blk_cell (KB.out W hB).1.cr 1).trans rfl,(blk_cell (KB.out W hB).1.cl 0).trans rfl,(blk_cell (KB.out W hB).1.cl 1).trans rfl,(blk_cell (KB.out W hB).2 0).trans rfl⟩)
 have HB0 := aM_ (bD_ (Below.refl (w.alloc (.cells #[.func (.func 80) #[] #[]] 68)).heap.size (w.alloc (.cells #[.func (.func 80) #[] #[]] 68))))
 have HBw := aM_ (fun W (hB : Below (w.alloc (.cells #[.func (.func 80) #[] #[]] 68)).heap.size (w.alloc (.cells #[.func (.func 80) #[] #[]] 68)) W) => bT_ (bA_ (Below.refl w.heap.size w) (.cells #[.func (.func 80) #[] #[]] 68)) hB)
 clear hk a0 a1 b0 b1 hm
 by_cases c : overP mayB r0 r1 d0 d1 l0 l1 0 = true
 ·have ek : keepsP mayB r0 r1 d0 d1 l0 l1 = -1 := by
   unfold keepsP
   rw [leastTrue_eq (m := 0) (by omega) (fun i h => absurd h (Nat.not_lt_zero _)) (fun _ => c)]
   rfl
  rw [ek]
  rw [e0] at c
  have c' := aM_ (show mayB (verdictP r0 r1 l0 l1) = false by simpa using c)
  clear ek e0 c hle HI HM
  generalize verdictP r0 r1 l0 l1 = v at HV c'
  have HR := aM_ (fun W => gauge_Keeps_3.calls v W)
  rw [c'.out] at HR
  clear c'
  have eg := enters_of Try.func80 (by kernel_rfl) rfl
  go_enter Try.func75,Try.ntmps75
  go_wp2
  go_region_held (fun (W : World) => W.cell? ⟨br,0,none⟩ = some (.int .i64 r0) ∧ W.cell? ⟨br,1,none⟩ = some (.int .i64 r1) ∧ W.cell? ⟨bl,0,none⟩ = some (.int .i64 l0) ∧ W.cell? ⟨bl,1,none⟩ = some (.int .i64 l1) ∧ W.cell? ⟨w.heap.size,0,none⟩ = some (.func (.func 80) #[] #[])) (first | exact KS.out _ HB3.out | exact KS.out _ HB2.out | exact KS.out _ HB0.out) (first
   | (go_at_call 20;(with_reducible refine (HV.out _).mono ?_);rintro e w' ⟨rfl,hb⟩;have HB2 := aM_ (bT_ HB0.out hb);clear hb)
   | (go_at_call 80;(with_reducible refine (HR.out _).mono ?_);rintro e w' ⟨rfl,hb⟩;have HB3 := aM_ (bT_ HB2.out hb);clear hb))
  all_goals (try simp [Act.put])
  all_goals go_wp2
  all_goals go_ret
  all_goals exact ⟨rfl,HBw.out _ HB3.out⟩
 ·have c1 : overP mayB r0 r1 d0 d1 l0 l1 0 = false := by simpa using c
  have hm := HM.out c1
  rw [e0] at c1
  have c' := aM_ (show mayB (verdictP r0 r1 l0 l1) = true by simpa using c1)
  unfold keepsP
  generalize leastTrue (overP mayB r0 r1 d0 d1 l0 l1) 1000001 = q at HI hle ⊢
  have e1 : IntKind.i64.wrap ((q : Int) - 1) = (q : Int) - 1 := IntWalk.i64_in _ (by omega)
  have HJ := aM_ (fun W cf hk => HI.out w.heap.size W hm cf hk)
  clear e0 c c1 hle hm HI HM
  generalize verdictP r0 r1 l0 l1 = v at HV c'
  have HR := aM_ (fun W => gauge_Keeps_3.calls v W)
  rw [c'.out] at HR
  clear c'
  have eg := enters_of Try.func80 (by kernel_rfl) rfl
  go_enter Try.func75,Try.ntmps75
  go_wp2
  go_region_held (fun (W : World) => W.cell? ⟨br,0,none⟩ = some (.int .i64 r0) ∧ W.cell? ⟨br,1,none⟩ = some (.int .i64 r1) ∧ W.cell? ⟨bl,0,none⟩ = some (.int .i64 l0) ∧ W.cell? ⟨bl,1,none⟩ = some (.int .i64 l1) ∧ W.cell? ⟨w.heap.size,0,none⟩ = some (.func (.func 80) #[] #[])) (first | exact KS.out _ HB3.out | exact KS.out _ HB2.out | exact KS.out _ HB0.out) (first
   | (go_at_call 20;(with_reducible refine (HV.out _).mono ?_);rintro e w' ⟨rfl,hb⟩;have HB2 := aM_ (bT_ HB0.out hb);clear hb)
   | (go_at_call 80;(with_reducible refine (HR.out _).mono ?_);rintro e w' ⟨rfl,hb⟩;have HB3 := aM_ (bT_ HB2.out hb);clear hb))
  all_goals (try simp [Act.put])
  all_goals go_wp2_with (fail)
  all_goals (with_reducible refine (HJ.out _ (KB.out _ HB3.out).2 (KB.out _ HB3.out).1).mono ?_)
  all_goals rintro e w4 ⟨rfl,hb⟩
  all_goals have HB4 := aM_ (bT_ HB3.out hb)
  all_goals clear hb
  all_goals go_wp2
  all_goals go_ret
  all_goals exact ⟨rfl,HBw.out _ HB4.out⟩

structure KeepsIn (r0 r1 d0 d1 l0 l1 : Int) (w W : World) : Prop where
 at0 : KeepsAt r0 r1 d0 d1 l0 l1 w.heap.size (w.heap.size + 1) (w.heap.size + 1 + 1) W
 out : W.heap[w.heap.size + 1 + 1 + 1]? = some (.cells #[.int .i64 0,.int .i64 0] 34 (0,0))
 low : Below w.heap.size w W
theorem KeepsIn.first (r0 r1 d0 d1 l0 l1 : Int) (w : World) : KeepsIn r0 r1 d0 d1 l0 l1 w ((((w.alloc (.cells #[.int .i64 r0,.int .i64 r1] 34)).alloc (.cells #[.int .i64 d0,.int .i64 d1] 34)).alloc (.cells #[.int .i64 l0,.int .i64 l1] 34)).alloc (.cells #[.int .i64 0,.int .i64 0] 34)) := by
 have k0 := kA_ (kA_ (kA_ (blk_new w (.cells #[.int .i64 r0,.int .i64 r1] 34)) (.cells #[.int .i64 d0,.int .i64 d1] 34)) (.cells #[.int .i64 l0,.int .i64 l1] 34)) (.cells #[.int .i64 0,.int .i64 0] 34)
 have k1 := kA_ (kA_ (blk_new (w.alloc (.cells #[.int .i64 r0,.int .i64 r1] 34)) (.cells #[.int .i64 d0,.int .i64 d1] 34)) (.cells #[.int .i64 l0,.int .i64 l1] 34)) (.cells #[.int .i64 0,.int .i64 0] 34)
 have k2 := kA_ (blk_new ((w.alloc (.cells #[.int .i64 r0,.int .i64 r1] 34)).alloc (.cells #[.int .i64 d0,.int .i64 d1] 34)) (.cells #[.int .i64 l0,.int .i64 l1] 34)) (.cells #[.int .i64 0,.int .i64 0] 34)
 have k3 := blk_new (((w.alloc (.cells #[.int .i64 r0,.int .i64 r1] 34)).alloc (.cells #[.int .i64 d0,.int .i64 d1] 34)).alloc (.cells #[.int .i64 l0,.int .i64 l1] 34)) (.cells #[.int .i64 0,.int .i64 0] 34)
 simp only [World.size_alloc] at k1 k2 k3
 exact ⟨⟨k0,k1,k2⟩,k3,bA_ (bA_ (bA_ (bA_ (Below.refl _ _) _) _) _) _⟩
theorem KeepsIn.step {r0 r1 d0 d1 l0 l1 : Int} {w W W' : World} (h : KeepsIn r0 r1 d0 d1 l0 l1 w W) (hb : Below W.heap.size W W') : KeepsIn r0 r1 d0 d1 l0 l1 w W' :=
 ⟨h.at0.below hb,kB_ h.out hb,bT_ h.low hb⟩
theorem KeepsIn.cells {r0 r1 d0 d1 l0 l1 : Int} {w W : World} (h : KeepsIn r0 r1 d0 d1 l0 l1 w W) :
  W.cell? ⟨w.heap.size,0,none⟩ = some (.int .i64 r0) ∧ W.cell? ⟨w.heap.size,1,none⟩ = some (.int .i64 r1) ∧ W.cell? ⟨w.heap.size + 1,0,none⟩ = some (.int .i64 d0) ∧ W.cell? ⟨w.heap.size + 1,1,none⟩ = some (.int .i64 d1) ∧ W.cell? ⟨w.heap.size + 1 + 1,0,none⟩ = some (.int .i64 l0) ∧ W.cell? ⟨w.heap.size + 1 + 1,1,none⟩ = some (.int .i64 l1) ∧
  W.cell? ⟨w.heap.size + 1 + 1 + 1,0,none⟩ = some (.int .i64 0) ∧ W.cell? ⟨w.heap.size + 1 + 1 + 1,1,none⟩ = some (.int .i64 0) ∧ W.frozen? ⟨w.heap.size + 1 + 1 + 1,0,none⟩ = false ∧ W.frozen? ⟨w.heap.size + 1 + 1 + 1,1,none⟩ = false :=
 ⟨(blk_cell h.at0.cr 0).trans rfl,(blk_cell h.at0.cr 1).trans rfl,(blk_cell h.at0.cd 0).trans rfl,(blk_cell h.at0.cd 1).trans rfl,(blk_cell h.at0.cl 0).trans rfl,(blk_cell h.at0.cl 1).trans rfl,(blk_cell h.out 0).trans rfl,(blk_cell h.out 1).trans rfl,blk_frozen h.out 0,blk_frozen h.out 1⟩

set_option maxHeartbeats 4000000 in
set_option maxRecDepth 1000000 in
theorem gauge_Keeps.calls (a0_0 : Int) (a0_1 : Int) (a1_0 : Int) (a1_1 : Int) (a2_0 : Int) (a2_1 : Int) (r1 : Int) (r2 : Int) (r3 : Int) (w : World) (h : gauge_Keeps.f a0_0 a0_1 a1_0 a1_1 a2_0 a2_1 = some (r1,r2,r3)) :
  Calls Try.prog 47 #[.agg #[.int .i64 a0_0,.int .i64 a0_1],.agg #[.int .i64 a1_0,.int .i64 a1_1],.agg #[.int .i64 a2_0,.int .i64 a2_1]] w
   fun e w' => e = .returned (.tuple #[.agg #[.int .i64 r1,.int .i64 r2],.int .i64 r3]) ∧ Below w.heap.size w w' := by
 have hr := Option.some.inj h
 clear h
 have HD := aM_ (fun W => gauge_checkDrift.calls 1 a0_0 a0_1 a1_0 a1_1 _ W (gauge_checkDrift.eq 0 _ _ _ _))
 have HR := aM_ (fun W => gauge_checkRange.calls 1 a2_0 a2_1 (-1000000000) 1000000000 _ W (gauge_checkRange.eq 0 _ _ _ _))
 have hu34 := Try.underlying34
 have K0 := aM_ (KeepsIn.first a0_0 a0_1 a1_0 a1_1 a2_0 a2_1 w)
 by_cases cD : driftErr a0_0 a0_1 a1_0 a1_1 = 0
 ·by_cases cR : rangeErr a2_0 a2_1 (-1000000000) 1000000000 = 0
  ·rw [if_neg (by unfold keepsErr;omega)] at hr
   simp only [Prod.mk.injEq] at hr
   obtain ⟨e1,e2,rfl⟩ := hr
   have b := driftErr_zero cD
   have b2 := rangeErr_zero cR
   have C2 := aM_ (fun W hk => gauge_Keeps_12.calls a0_0 a0_1 a1_0 a1_1 a2_0 a2_1 w.heap.size (w.heap.size + 1) (w.heap.size + 1 + 1) W (over_sure_mono (by omega) (by omega) (by omega)) hk (by omega) (by omega) (by omega) (by omega))
   have C3 := aM_ (fun W hk => gauge_Keeps_13.calls a0_0 a0_1 a1_0 a1_1 a2_0 a2_1 w.heap.size (w.heap.size + 1) (w.heap.size + 1 + 1) W (over_may_mono (by omega) (by omega) (by omega)) hk (by omega) (by omega) (by omega) (by omega))
   rw [e1] at C2
   rw [e2] at C3
   rw [cD] at HD
   rw [cR] at HR
   clear b b2 cD cR e1 e2
   go_enter Try.func47,Try.ntmps47
   go_wp2_with (fail)
   (with_reducible refine (HD.out _).mono ?_)
   rintro e w1 ⟨rfl,hb⟩
   have K1 := aM_ (K0.out.step hb)
   have c1 := K1.out.cells
   clear hb
   go_wp2_with (fail)
   (with_reducible refine (HR.out _).mono ?_)
   rintro e w2 ⟨rfl,hb⟩
   have K2 := aM_ (K1.out.step hb)
   clear hb c1
   go_wp2_with (fail)
   (with_reducible refine (C2.out _ K2.out.at0).mono ?_)
   rintro e w3 ⟨rfl,hb⟩
   have K3 := aM_ (K2.out.step hb)
   clear hb
   go_wp2_with (fail)
   (with_reducible refine (C3.out _ K3.out.at0).mono ?_)
   rintro e w4 ⟨rfl,hb⟩
   have K4 := aM_ (K3.out.step hb)
   have c4 := K4.out.cells
   clear hb
   obtain ⟨-,-,-,-,-,-,q0,q1,f0,f1⟩ := c4
   go_wp2_with (fail)
   exact bodyPost_ret (v := .tuple #[.agg #[.int .i64 r1,.int .i64 r2],.int .i64 0]) (by simp [results,Try.results47,go_sem,q0,q1]) rfl ⟨rfl,bS_ (bS_ K4.out.low (by omega)) (by omega)⟩
  ·rw [if_pos (by unfold keepsErr;rw [if_neg (by omega)];exact cR)] at hr
   simp only [Prod.mk.injEq] at hr
   obtain ⟨rfl,rfl,hr⟩ := hr
   unfold keepsErr at hr
   rw [if_neg (by omega)] at hr
   rw [hr] at HR cR
   rw [cD] at HD
   clear hr cD
   go_enter Try.func47,Try.ntmps47
   go_wp2_with (fail)
   (with_reducible refine (HD.out _).mono ?_)
   rintro e w1 ⟨rfl,hb⟩
   have K1 := aM_ (K0.out.step hb)
   have c1 := K1.out.cells
   clear hb
   go_wp2_with (fail)
   (with_reducible refine (HR.out _).mono ?_)
   rintro e w2 ⟨rfl,hb⟩
   have K2 := aM_ (K1.out.step hb)
   clear hb c1
   have c4 := K2.out.cells
   obtain ⟨-,-,-,-,-,-,q0,q1,f0,f1⟩ := c4
   go_wp2_with (fail)
   exact bodyPost_ret (v := .tuple #[.agg #[.int .i64 0,.int .i64 0],.int .i64 r3]) (by simp [results,Try.results47,go_sem,q0,q1]) rfl ⟨rfl,bS_ (bS_ K2.out.low (by omega)) (by omega)⟩
 ·rw [if_pos (by unfold keepsErr;rw [if_pos cD];exact cD)] at hr
  simp only [Prod.mk.injEq] at hr
  obtain ⟨rfl,rfl,hr⟩ := hr
  unfold keepsErr at hr
  rw [if_pos cD] at hr
  rw [hr] at HD cD
  clear hr HR
  go_enter Try.func47,Try.ntmps47
  go_wp2_with (fail)
  (with_reducible refine (HD.out _).mono ?_)
  rintro e w1 ⟨rfl,hb⟩
  have K2 := aM_ (K0.out.step hb)
  clear hb
  have c4 := K2.out.cells
  obtain ⟨-,-,-,-,-,-,q0,q1,f0,f1⟩ := c4
  go_wp2_with (fail)
  exact bodyPost_ret (v := .tuple #[.agg #[.int .i64 0,.int .i64 0],.int .i64 r3]) (by simp [results,Try.results47,go_sem,q0,q1]) rfl ⟨rfl,bS_ (bS_ K2.out.low (by omega)) (by omega)⟩

end Go.Proofs.Ytdbpobadeibjaab.GE
