import Derived.Test.YtdbpobadeibjaaaGGaugeChancesx20
namespace Go.Proofs.Ytdbpobadeibjaaa.Pure
open Go.RowKit Go.Proofs.Ytdbpobadeibjaaa.GGaugeChances Go.Proofs.YtdbpobadeibjaaaW.PrintWords Go.Proofs.YtdbpobadeibjaaaW.PrintLast
/-! ### chances: plain laws of binom, fewSum -/
theorem fewP_eq {lot bad s c : Int} (h0 : 0 ≤ bad) (h2 : 0 ≤ c) (h3 : c ≤ s) : fewP lot bad s c = fewSum bad.toNat (lot - bad).toNat s.toNat (c.toNat + 1) := by
  unfold fewP
  have key : ∀ b d s m k : Nat, b < m → fewSum b d s (m + k) = fewSum b d s m := fun b d s m k hb => by
    induction k with
    | zero => rfl
    | succ k ih =>
      rw [show fewSum b d s (m + (k + 1)) = fewSum b d s (m + k) + binom b (m + k) * binom d (s - (m + k)) from rfl, ih, binom_above b (m + k) (by omega), Int.zero_mul, Int.add_zero]
  by_cases hc : c ≤ bad
  · rw [show (min (min c bad) s + 1).toNat = c.toNat + 1 by omega]
  · rw [show (min (min c bad) s + 1).toNat = bad.toNat + 1 by omega, show c.toNat + 1 = (bad.toNat + 1) + (c.toNat - bad.toNat) by omega, key bad.toNat _ _ (bad.toNat + 1) _ (by omega)]
/-- The shift, at the other side. -/
theorem fewSum_shift2 (b d s : Nat) : ∀ n : Nat, n ≤ s + 1 → fewSum b (d + 1) (s + 1) n = fewSum b d (s + 1) n + fewSum b d s n
  | 0, _ => by simp [fewSum]
  | n + 1, h => by
    have ih := fewSum_shift2 b d s n (by omega)
    rw [show fewSum b (d + 1) (s + 1) (n + 1) = fewSum b (d + 1) (s + 1) n + binom b n * binom (d + 1) (s + 1 - n) from rfl,
      show fewSum b d (s + 1) (n + 1) = fewSum b d (s + 1) n + binom b n * binom d (s + 1 - n) from rfl,
      show fewSum b d s (n + 1) = fewSum b d s n + binom b n * binom d (s - n) from rfl, ih,
      show s + 1 - n = (s - n) + 1 by omega, show binom (d + 1) (s - n + 1) = binom d (s - n) + binom d (s - n + 1) from rfl, Int.mul_add]
    omega
/-- More bad ones make fewer samples good. -/
theorem fewSum_worse (b d s c : Nat) (hc : c ≤ s) : fewSum (b + 1) d s (c + 1) ≤ fewSum b (d + 1) s (c + 1) := by
  cases s with
  | zero =>
    obtain rfl : c = 0 := by omega
    simp [fewSum, binom_zero]
  | succ s =>
    by_cases h : c = s + 1
    · subst h
      rw [vandermonde, vandermonde, show b + 1 + d = b + (d + 1) by omega]
      exact Int.le_refl _
    · rw [fewSum_shift b d s c (by omega), fewSum_shift2 b d s (c + 1) (by omega), show fewSum b d s (c + 1) = fewSum b d s c + binom b c * binom d (s - c) from rfl]
      have := Int.mul_nonneg (binom_bound b c).1 (binom_bound d (s - c)).1
      omega
/-- All samples are those with at most so many bad ones, and the others. -/
theorem fewSum_rest (b d s : Nat) : ∀ m : Nat, m ≤ s + 1 → fewSum b d s m + fewSum d b s (s + 1 - m) = binom (b + d) s := by
  intro m hm
  have key : ∀ k : Nat, k ≤ s + 1 → fewSum b d s (s + 1) = fewSum b d s (s + 1 - k) + fewSum d b s k := fun k => by
    induction k with
    | zero => intro _; simp [fewSum]
    | succ k ih =>
      intro hk
      rw [ih (by omega), show fewSum d b s (k + 1) = fewSum d b s k + binom d k * binom b (s - k) from rfl,
        show s + 1 - k = (s - k) + 1 by omega, show fewSum b d s (s - k + 1) = fewSum b d s (s - k) + binom b (s - k) * binom d (s - (s - k)) from rfl,
        show s - (s - k) = k by omega, show s + 1 - (k + 1) = s - k by omega, Int.mul_comm (binom b (s - k))]
      omega
  have h := key (s + 1 - m) (by omega)
  rw [vandermonde, show s + 1 - (s + 1 - m) = m by omega] at h
  omega
/-! #### factorials -/
def fact : Nat → Int
  | 0 => 1
  | n + 1 => (n + 1 : Nat) * fact n
theorem fact_pos : ∀ n, 0 < fact n
  | 0 => by decide
  | n + 1 => Int.mul_pos (by omega) (fact_pos n)
theorem binom_fact : ∀ n k : Nat, k ≤ n → binom n k * fact k * fact (n - k) = fact n
  | 0, 0, _ => by decide
  | n + 1, 0, _ => by rw [binom_zero, Nat.sub_zero]; simp [fact]
  | n + 1, k + 1, h => by
    rw [show binom (n + 1) (k + 1) = binom n k + binom n (k + 1) from rfl]
    have h1 := binom_fact n k (by omega)
    by_cases hk : k = n
    · subst hk
      rw [binom_above k (k + 1) (by omega), Int.add_zero, show k + 1 - (k + 1) = k - k by omega, show fact (k + 1) = (k + 1 : Nat) * fact k from rfl, ← Int.mul_assoc, Int.mul_comm (binom k k), Int.mul_assoc ((k + 1 : Nat) : Int), Int.mul_assoc ((k + 1 : Nat) : Int), h1]
    · have h2 := binom_fact n (k + 1) (by omega)
      have e : n + 1 - (k + 1) = (n - (k + 1)) + 1 := by omega
      have e2 : n - k = (n - (k + 1)) + 1 := by omega
      rw [e2] at h1
      rw [e]
      have f1 : fact (n - (k + 1) + 1) = ((n - (k + 1) + 1 : Nat) : Int) * fact (n - (k + 1)) := rfl
      have f2 : fact (k + 1) = ((k + 1 : Nat) : Int) * fact k := rfl
      have f3 : fact (n + 1) = ((n + 1 : Nat) : Int) * fact n := rfl
      have f4 : ((n + 1 : Nat) : Int) = ((k + 1 : Nat) : Int) + ((n - (k + 1) + 1 : Nat) : Int) := by omega
      rw [f3, f4, Int.add_mul, Int.add_mul, Int.add_mul]
      have g1 : binom n k * fact (k + 1) * fact (n - (k + 1) + 1) = ((k + 1 : Nat) : Int) * fact n := by
        rw [f2, ← h1]
        simp only [Int.mul_assoc, Int.mul_left_comm]
      have g2 : binom n (k + 1) * fact (k + 1) * fact (n - (k + 1) + 1) = ((n - (k + 1) + 1 : Nat) : Int) * fact n := by
        rw [f1, ← h2]
        simp only [Int.mul_assoc, Int.mul_left_comm]
      rw [g1, g2]
theorem term_sym (n k s i : Nat) (hk : k ≤ n) (hs : s ≤ n) (hik : i ≤ k) (his : i ≤ s) : binom k i * binom (n - k) (s - i) * binom n k = binom s i * binom (n - s) (k - i) * binom n s := by
  by_cases h : s - i ≤ n - k
  · have h' : k - i ≤ n - s := by omega
    have e1 := binom_fact k i hik
    have e2 := binom_fact (n - k) (s - i) h
    have e3 := binom_fact n k hk
    have d1 := binom_fact s i his
    have d2 := binom_fact (n - s) (k - i) h'
    have d3 := binom_fact n s hs
    rw [show n - s - (k - i) = n - k - (s - i) by omega] at d2
    have hF : fact i * fact (k - i) * fact (s - i) * fact (n - k - (s - i)) ≠ 0 := by
      have := Int.mul_pos (Int.mul_pos (Int.mul_pos (fact_pos i) (fact_pos (k - i))) (fact_pos (s - i))) (fact_pos (n - k - (s - i)))
      omega
    apply Int.eq_of_mul_eq_mul_right hF
    have l : binom k i * binom (n - k) (s - i) * binom n k * (fact i * fact (k - i) * fact (s - i) * fact (n - k - (s - i))) = binom n k * (binom k i * fact i * fact (k - i)) * (binom (n - k) (s - i) * fact (s - i) * fact (n - k - (s - i))) := by ac_rfl
    have r : binom s i * binom (n - s) (k - i) * binom n s * (fact i * fact (k - i) * fact (s - i) * fact (n - k - (s - i))) = binom n s * (binom s i * fact i * fact (s - i)) * (binom (n - s) (k - i) * fact (k - i) * fact (n - k - (s - i))) := by ac_rfl
    rw [l, r, e1, e2, e3, d1, d2, d3]
  · rw [binom_above (n - k) (s - i) (by omega), binom_above (n - s) (k - i) (by omega)]
    simp
/-- Sample and bad can be exchanged. -/
theorem fewSum_sym (n k s : Nat) (hk : k ≤ n) (hs : s ≤ n) : ∀ c : Nat, c ≤ k + 1 → c ≤ s + 1 → fewSum k (n - k) s c * binom n k = fewSum s (n - s) k c * binom n s
  | 0, _, _ => by simp [fewSum]
  | c + 1, h1, h2 => by
    rw [show fewSum k (n - k) s (c + 1) = fewSum k (n - k) s c + binom k c * binom (n - k) (s - c) from rfl, show fewSum s (n - s) k (c + 1) = fewSum s (n - s) k c + binom s c * binom (n - s) (k - c) from rfl,
      Int.add_mul, Int.add_mul, fewSum_sym n k s hk hs c (by omega) (by omega), term_sym n k s c hk hs (by omega) (by omega)]
theorem binom_pos : ∀ n k : Nat, k ≤ n → 1 ≤ binom n k
  | n, 0, _ => by rw [binom_zero]; omega
  | n + 1, k + 1, h => by
    have h1 := binom_pos n k (by omega)
    have h2 := (binom_bound n (k + 1)).1
    simp only [binom]
    omega
/-- Lowest terms are the same. -/
theorem lowest {a b c d : Nat} (hb : 0 < b) (hd : 0 < d) (h : a * d = c * b) : a / Nat.gcd a b = c / Nat.gcd c d ∧ b / Nat.gcd a b = d / Nat.gcd c d := by
  have g0 : 0 < Nat.gcd a b := Nat.gcd_pos_of_pos_right _ hb
  have z0 : 0 < Nat.gcd c d := Nat.gcd_pos_of_pos_right _ hd
  have p := Nat.coprime_div_gcd_div_gcd g0
  have q := Nat.coprime_div_gcd_div_gcd z0
  have ea := Nat.div_mul_cancel (Nat.gcd_dvd_left a b)
  have eb := Nat.div_mul_cancel (Nat.gcd_dvd_right a b)
  have ec := Nat.div_mul_cancel (Nat.gcd_dvd_left c d)
  have ed := Nat.div_mul_cancel (Nat.gcd_dvd_right c d)
  generalize a / Nat.gcd a b = x at *
  generalize b / Nat.gcd a b = y at *
  generalize c / Nat.gcd c d = u at *
  generalize d / Nat.gcd c d = v at *
  generalize Nat.gcd a b = g at *
  generalize Nat.gcd c d = z at *
  subst ea eb ec ed
  have e : x * v = u * y := by
    have : x * v * (g * z) = u * y * (g * z) := by
      rw [show x * v * (g * z) = x * g * (v * z) by ac_rfl, h]; ac_rfl
    exact Nat.eq_of_mul_eq_mul_right (Nat.mul_pos g0 z0) this
  have h1 : x ∣ u := p.dvd_of_dvd_mul_right (by rw [← e]; exact Nat.dvd_mul_right x v)
  have h2 : u ∣ x := q.dvd_of_dvd_mul_right (by rw [e]; exact Nat.dvd_mul_right u y)
  have h3 : y ∣ v := p.symm.dvd_of_dvd_mul_left (by rw [e]; exact Nat.dvd_mul_left y u)
  have h4 : v ∣ y := q.symm.dvd_of_dvd_mul_left (by rw [← e]; exact Nat.dvd_mul_left v x)
  exact ⟨Nat.dvd_antisymm h1 h2, Nat.dvd_antisymm h3 h4⟩
/-! ### GaugeChances -/
theorem le_fuel {α : Type} {f : Nat → Option α} (hm : ∀ k, LeO (f k) (f (k + 1))) {j : Nat} {r : α} (h : f j = some r) : ∀ k, j ≤ k → f k = some r := by
  intro k hk
  obtain ⟨d, rfl⟩ := Nat.exists_eq_add_of_le hk
  clear hk
  induction d with
  | zero => exact h
  | succ d ih => exact hm (j + d) r ih
theorem mod_some (a m : Int) (h0 : 1 ≤ m) (h1 : m ≤ 1000) : ∃ t, thermionkit_Mod.f a m = some t ∧ 0 ≤ t ∧ t < m := by
  unfold thermionkit_Mod.f
  have u := Int.tmod_lt_of_pos a (show 0 < m by omega)
  have l := Int.tmod_lt_of_pos (-a) (show 0 < m by omega)
  rw [Int.neg_tmod] at l
  rw [if_neg (by omega), if_neg (by omega)]
  by_cases c : Int.tmod a m < 0
  · rw [if_pos c, wrap64_eq (by omega)]
    exact ⟨_, rfl, by omega, by omega⟩
  · rw [if_neg c]
    exact ⟨_, rfl, by omega, u⟩
theorem equal_l1 (x0 x1 x2 x3 x9 : Int) : ∀ q p : Nat, ∃ j, ∀ k, thermionlaw07_equal.l1 (k + j) x0 x1 x2 x3 x9 p q = thermionlaw07_equal.l1 (k + 1) x0 x1 x2 x3 x9 ((Nat.gcd q p : Nat) : Int) 0 := by
  intro q
  induction q using Nat.strongRecOn with
  | ind q ih =>
    intro p
    cases q with
    | zero => exact ⟨1, fun k => by rw [Nat.gcd_zero_left]; rfl⟩
    | succ q =>
      obtain ⟨j, hj⟩ := ih (p % (q + 1)) (Nat.mod_lt _ (by omega)) (q + 1)
      refine ⟨j + 1, fun k => ?_⟩
      rw [Nat.gcd_rec, ← hj k, show k + (j + 1) = (k + j) + 1 by omega]
      conv => lhs; unfold thermionlaw07_equal.l1
      rw [if_pos (by omega), if_neg (by omega)]
      rfl
theorem equal_l0 (x0 x1 x2 x3 : Int) : ∀ q p : Nat, ∃ j, ∀ k, thermionlaw07_equal.l0 (k + j) x0 x1 x2 x3 p q = thermionlaw07_equal.l1 k x0 x1 x2 x3 ((Nat.gcd q p : Nat) : Int) x3 x2 := by
  intro q
  induction q using Nat.strongRecOn with
  | ind q ih =>
    intro p
    cases q with
    | zero => exact ⟨1, fun k => by rw [Nat.gcd_zero_left]; rfl⟩
    | succ q =>
      obtain ⟨j, hj⟩ := ih (p % (q + 1)) (Nat.mod_lt _ (by omega)) (q + 1)
      refine ⟨j + 1, fun k => ?_⟩
      rw [Nat.gcd_rec, ← hj k, show k + (j + 1) = (k + j) + 1 by omega]
      conv => lhs; unfold thermionlaw07_equal.l0
      rw [if_pos (by omega), if_neg (by omega)]
      rfl
theorem equal_true {a b c d : Int} (ha : 0 ≤ a) (hb : 1 ≤ b) (hc : 0 ≤ c) (hd : 1 ≤ d) (h : a * d = c * b) : ∃ j, thermionlaw07_equal.f j a b c d = some true := by
  obtain ⟨A, rfl⟩ := Int.eq_ofNat_of_zero_le ha
  obtain ⟨B, rfl⟩ := Int.eq_ofNat_of_zero_le (show 0 ≤ b by omega)
  obtain ⟨C, rfl⟩ := Int.eq_ofNat_of_zero_le hc
  obtain ⟨D, rfl⟩ := Int.eq_ofNat_of_zero_le (show 0 ≤ d by omega)
  have hN : A * D = C * B := by exact_mod_cast h
  obtain ⟨e1, e2⟩ := lowest (by omega) (by omega) hN
  have g0 : 0 < Nat.gcd A B := Nat.gcd_pos_of_pos_right _ (by omega)
  have z0 : 0 < Nat.gcd C D := Nat.gcd_pos_of_pos_right _ (by omega)
  obtain ⟨j0, h0⟩ := equal_l0 A B C D A B
  obtain ⟨j1, h1⟩ := equal_l1 A B C D ((Nat.gcd A B : Nat) : Int) C D
  refine ⟨0 + j1 + j0, ?_⟩
  unfold thermionlaw07_equal.f
  rw [h0 (0 + j1), h1 0]
  unfold thermionlaw07_equal.l1
  have q : ∀ x y : Nat, Int.tdiv (x : Int) (y : Int) = ((x / y : Nat) : Int) := fun x y => rfl
  rw [if_neg (by omega), if_pos (by omega), if_pos (by omega), if_neg (by omega), if_neg (by omega), q, q, q, q, e1, e2, if_pos rfl]
  simp
theorem awake_some (k : Nat) (h : 3 ≤ k) : thermionlaw07_awake.f k = some true := le_fuel (f := thermionlaw07_awake.f) (j := 3) (r := true) thermionlaw07_awake.mono thermionlaw07_awake.holds k h
theorem chance_some {n k s c : Int} (h : ChanceOk n k s c) : gauge_Chance.f n k s c = some (fewSum k.toNat (n - k).toNat s.toNat (c.toNat + 1), binom n.toNat s.toNat, 0) := by
  unfold gauge_Chance.f
  rw [if_pos h]
  obtain ⟨h0, h1, h2, h3, h4, h5, h6, h7⟩ := h
  rw [fewP_eq h2 h6 h7]
theorem GaugeChances : thermionlaw07_GaugeChances.Pure := by
  intro a0 a1 a2 a3 _ _ _ _
  obtain ⟨t, e0, t0, t1⟩ := mod_some a0 50 (by omega) (by omega)
  obtain ⟨n, hn⟩ : ∃ n : Nat, (n : Int) = 1 + t := ⟨(1 + t).toNat, by omega⟩
  obtain ⟨k', e1, k0, k1⟩ := mod_some a1 (1 + t + 1) (by omega) (by omega)
  obtain ⟨k, rfl⟩ := Int.eq_ofNat_of_zero_le k0
  obtain ⟨s', e2, s0, s1⟩ := mod_some a2 (1 + t + 1) (by omega) (by omega)
  obtain ⟨s, rfl⟩ := Int.eq_ofNat_of_zero_le s0
  obtain ⟨c', e3, c0, c1⟩ := mod_some a3 ((s : Int) + 1) (by omega) (by omega)
  obtain ⟨c, rfl⟩ := Int.eq_ofNat_of_zero_le c0
  have A := chance_some (n := (n : Int)) (k := k) (s := s) (c := c) (by unfold ChanceOk; omega)
  rw [Int.toNat_natCast, Int.toNat_natCast, Int.toNat_natCast, Int.toNat_natCast, show ((n : Int) - k).toNat = n - k by omega] at A
  have bnd : ∀ b d s m : Nat, b + d ≤ 50 → m ≤ s + 1 → 0 ≤ fewSum b d s m ∧ fewSum b d s m ≤ binom (b + d) s := fun b d s m h1 h2 => by
    have x := fewSum_mono b d s m (s + 1 - m)
    rw [show m + (s + 1 - m) = s + 1 by omega, vandermonde] at x
    exact ⟨(fewSum_bound b d s h1 m).1, x⟩
  have hA := bnd k (n - k) s (c + 1) (by omega) (by omega)
  rw [show k + (n - k) = n by omega] at hA
  have hT := binom_half n s (by omega)
  -- the ratio
  obtain ⟨j, hj⟩ : ∃ j, c ≤ k → thermionlaw07_equal.f j (fewSum k (n - k) s (c + 1)) (binom n s) (fewSum s (n - s) k (c + 1)) (binom n k) = some true := by
    by_cases h : c ≤ k
    · have hB := bnd s (n - s) k (c + 1) (by omega) (by omega)
      obtain ⟨j, hj⟩ := equal_true hA.1 (binom_pos n s (by omega)) hB.1 (binom_pos n k (by omega)) (fewSum_sym n k s (by omega) (by omega) (c + 1) (by omega) (by omega))
      exact ⟨j, fun _ => hj⟩
    · exact ⟨0, fun h' => absurd h' h⟩
  -- the last part
  have last : ∀ (x : Int), fewSum k (n - k) s (c + 1) + x = binom n s → ∀ K, j ≤ K → 3 ≤ K → thermionlaw07_GaugeChances.j2 (K + 1) n k s c (fewSum k (n - k) s (c + 1)) (binom n s) x = some true := by
    intro x hx K hK1 hK2
    rw [thermionlaw07_GaugeChances.j2]
    rw [wrap64_eq (by omega), hx]
    by_cases h : (c : Int) ≤ k
    · rw [if_pos h]
      have B := chance_some (n := (n : Int)) (k := s) (s := k) (c := c) (by unfold ChanceOk; omega)
      rw [Int.toNat_natCast, Int.toNat_natCast, Int.toNat_natCast, Int.toNat_natCast, show ((n : Int) - s).toNat = n - s by omega] at B
      refine Option.bind_eq_some_iff.mpr ⟨_, B, ?_⟩
      rw [if_pos rfl]
      refine Option.bind_eq_some_iff.mpr ⟨_, le_fuel (fun k => thermionlaw07_equal.mono _ _ _ _ k) (hj (by omega)) K hK1, ?_⟩
      rw [if_pos rfl, if_pos rfl]
      exact Option.bind_eq_some_iff.mpr ⟨_, awake_some K hK2, rfl⟩
    · rw [if_neg h, if_pos rfl]
      exact Option.bind_eq_some_iff.mpr ⟨_, awake_some K hK2, rfl⟩
  have mid : ∀ (x : Int), fewSum k (n - k) s (c + 1) + x = binom n s → ∀ K, j ≤ K → 3 ≤ K → thermionlaw07_GaugeChances.j1 (K + 2) n k s c (fewSum k (n - k) s (c + 1)) (binom n s) x = some true := by
    intro x hx K hK1 hK2
    rw [thermionlaw07_GaugeChances.j1]
    by_cases h : (k : Int) < n
    · rw [if_pos h, wrap64_eq (by omega)]
      have B := chance_some (n := (n : Int)) (k := (k : Int) + 1) (s := s) (c := c) (by unfold ChanceOk; omega)
      rw [Int.toNat_natCast, Int.toNat_natCast, Int.toNat_natCast, show ((n : Int) - (k + 1)).toNat = n - k - 1 by omega, show ((k : Int) + 1).toNat = k + 1 by omega] at B
      refine Option.bind_eq_some_iff.mpr ⟨_, B, ?_⟩
      have w := fewSum_worse k (n - k - 1) s c (by omega)
      rw [show n - k - 1 + 1 = n - k by omega] at w
      rw [if_pos rfl, if_pos rfl, if_neg (by show ¬ _ > _; omega)]
      exact last x hx K hK1 hK2
    · rw [if_neg h]
      exact last x hx K hK1 hK2
  refine ⟨max j 3 + 3, ?_⟩
  have hm1 : j ≤ max j 3 := Nat.le_max_left _ _
  have hm2 : 3 ≤ max j 3 := Nat.le_max_right _ _
  generalize max j 3 = K at hm1 hm2
  unfold thermionlaw07_GaugeChances.f
  refine Option.bind_eq_some_iff.mpr ⟨_, e0, ?_⟩
  rw [wrap64_eq (n := 1 + t) (by omega), wrap64_eq (n := 1 + t + 1) (by omega)]
  refine Option.bind_eq_some_iff.mpr ⟨_, e1, Option.bind_eq_some_iff.mpr ⟨_, e2, ?_⟩⟩
  rw [wrap64_eq (n := (s : Int) + 1) (by omega)]
  refine Option.bind_eq_some_iff.mpr ⟨_, e3, ?_⟩
  rw [← hn]
  refine Option.bind_eq_some_iff.mpr ⟨_, A, ?_⟩
  rw [if_pos rfl, if_neg (by show ¬ _ < _; omega)]
  show thermionlaw07_GaugeChances.j0 (K + 3) n k s c (fewSum k (n - k) s (c + 1)) (binom n s) (decide (fewSum k (n - k) s (c + 1) > binom n s)) = some true
  rw [show decide (fewSum k (n - k) s (c + 1) > binom n s) = false from decide_eq_false (by omega)]
  rw [thermionlaw07_GaugeChances.j0]
  rw [if_neg (by decide)]
  by_cases h : (c : Int) < s
  · rw [if_pos h, wrap64_eq (n := (n : Int) - k) (by omega), wrap64_eq (n := (s : Int) - c) (by omega), wrap64_eq (by omega)]
    have B := chance_some (n := (n : Int)) (k := (n : Int) - k) (s := s) (c := (s : Int) - c - 1) (by unfold ChanceOk; omega)
    rw [Int.toNat_natCast, Int.toNat_natCast, show ((n : Int) - ((n : Int) - k)).toNat = k by omega, show ((n : Int) - k).toNat = n - k by omega, show ((s : Int) - c - 1).toNat + 1 = s + 1 - (c + 1) by omega] at B
    refine Option.bind_eq_some_iff.mpr ⟨_, B, ?_⟩
    rw [if_pos rfl, if_pos rfl]
    have r := fewSum_rest k (n - k) s (c + 1) (by omega)
    rw [show k + (n - k) = n by omega] at r
    exact mid _ r K hm1 hm2
  · rw [if_neg h]
    obtain rfl : c = s := by omega
    have v := vandermonde k (n - k) c
    rw [show k + (n - k) = n by omega] at v
    exact mid 0 (by omega) K hm1 hm2
end Go.Proofs.Ytdbpobadeibjaaa.Pure
