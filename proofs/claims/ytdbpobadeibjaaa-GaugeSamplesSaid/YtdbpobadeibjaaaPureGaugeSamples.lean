import Derived.Test.YtdbpobadeibjaaaGAllx22
namespace Go.Proofs.Ytdbpobadeibjaaa.Pure
open Go.RowKit Go.Proofs.Ytdbpobadeibjaaa.GAll Go.Proofs.YtdbpobadeibjaaaW.PrintWords Go.Proofs.YtdbpobadeibjaaaW.PrintLast
/-! ### shared -/
theorem le_fuel {α : Type} {f : Nat → Option α} (hm : ∀ k, LeO (f k) (f (k + 1))) {j : Nat} {r : α} (h : f j = some r) : ∀ k, j ≤ k → f k = some r := by
  intro k hk
  obtain ⟨d, rfl⟩ := Nat.exists_eq_add_of_le hk
  clear hk
  induction d with
  | zero => exact h
  | succ d ih => exact hm (j + d) r ih
theorem mod_some (a m : Int) (h0 : 1 ≤ m) (h1 : m ≤ 1000) : ∃ t, thermionkit_Mod.f a m = some t ∧ 0 ≤ t ∧ t < m := by
  unfold thermionkit_Mod.f
  have u := Int.tmod_lt_of_pos a (show 0 < m by omega)
  have l := Int.tmod_lt_of_pos (-a) (show 0 < m by omega)
  rw [Int.neg_tmod] at l
  rw [if_neg (by omega), if_neg (by omega)]
  by_cases c : Int.tmod a m < 0
  · rw [if_pos c, wrap64_eq (by omega)]
    exact ⟨_, rfl, by omega, by omega⟩
  · rw [if_neg c]
    exact ⟨_, rfl, by omega, u⟩
theorem awake_some (k : Nat) (h : 3 ≤ k) : thermionlaw07_awake.f k = some true := le_fuel (f := thermionlaw07_awake.f) (j := 3) (r := true) thermionlaw07_awake.mono thermionlaw07_awake.holds k h
/-! ### rounds enough -/
theorem Ev.pos {α : Type} {c : Prop} [Decidable c] {f g : Nat → Option α} {r : α} (h : c) (k : Ev f r) : Ev (fun n => if c then f n else g n) r := Ev.congr (fun _ => if_pos h) k
theorem Ev.neg {α : Type} {c : Prop} [Decidable c] {f g : Nat → Option α} {r : α} (h : ¬ c) (k : Ev g r) : Ev (fun n => if c then f n else g n) r := Ev.congr (fun _ => if_neg h) k
theorem Ev.call {α β : Type} {x : Option α} {a : α} {f : Nat → α → Option β} {r : β} (h : x = some a) (k : Ev (fun n => f n a) r) : Ev (fun n => x.bind (f n)) r := Ev.congr (fun n => by rw [h]; rfl) k
theorem Ev.done {α : Type} {x : Option α} {r : α} (h : x = some r) : Ev (fun _ => x) r := ⟨0, fun _ _ => h⟩
theorem Ev.awake : Ev thermionlaw07_awake.f true := Ev.of thermionlaw07_awake.mono thermionlaw07_awake.holds
/-! ### chances: plain laws of binom, fewSum -/
theorem fewP_eq {lot bad s c : Int} (h0 : 0 ≤ bad) (h2 : 0 ≤ c) (h3 : c ≤ s) : fewP lot bad s c = fewSum bad.toNat (lot - bad).toNat s.toNat (c.toNat + 1) := by
  unfold fewP
  have key : ∀ b d s m k : Nat, b < m → fewSum b d s (m + k) = fewSum b d s m := fun b d s m k hb => by
    induction k with
    | zero => rfl
    | succ k ih =>
      rw [show fewSum b d s (m + (k + 1)) = fewSum b d s (m + k) + binom b (m + k) * binom d (s - (m + k)) from rfl, ih, binom_above b (m + k) (by omega), Int.zero_mul, Int.add_zero]
  by_cases hc : c ≤ bad
  · rw [show (min (min c bad) s + 1).toNat = c.toNat + 1 by omega]
  · rw [show (min (min c bad) s + 1).toNat = bad.toNat + 1 by omega, show c.toNat + 1 = (bad.toNat + 1) + (c.toNat - bad.toNat) by omega, key bad.toNat _ _ (bad.toNat + 1) _ (by omega)]
/-- The shift, at the other side. -/
theorem fewSum_shift2 (b d s : Nat) : ∀ n : Nat, n ≤ s + 1 → fewSum b (d + 1) (s + 1) n = fewSum b d (s + 1) n + fewSum b d s n
  | 0, _ => by simp [fewSum]
  | n + 1, h => by
    have ih := fewSum_shift2 b d s n (by omega)
    rw [show fewSum b (d + 1) (s + 1) (n + 1) = fewSum b (d + 1) (s + 1) n + binom b n * binom (d + 1) (s + 1 - n) from rfl,
      show fewSum b d (s + 1) (n + 1) = fewSum b d (s + 1) n + binom b n * binom d (s + 1 - n) from rfl,
      show fewSum b d s (n + 1) = fewSum b d s n + binom b n * binom d (s - n) from rfl, ih,
      show s + 1 - n = (s - n) + 1 by omega, show binom (d + 1) (s - n + 1) = binom d (s - n) + binom d (s - n + 1) from rfl, Int.mul_add]
    omega
/-- More bad ones make fewer samples good. -/
theorem fewSum_worse (b d s c : Nat) (hc : c ≤ s) : fewSum (b + 1) d s (c + 1) ≤ fewSum b (d + 1) s (c + 1) := by
  cases s with
  | zero =>
    obtain rfl : c = 0 := by omega
    simp [fewSum, binom_zero]
  | succ s =>
    by_cases h : c = s + 1
    · subst h
      rw [vandermonde, vandermonde, show b + 1 + d = b + (d + 1) by omega]
      exact Int.le_refl _
    · rw [fewSum_shift b d s c (by omega), fewSum_shift2 b d s (c + 1) (by omega), show fewSum b d s (c + 1) = fewSum b d s c + binom b c * binom d (s - c) from rfl]
      have := Int.mul_nonneg (binom_bound b c).1 (binom_bound d (s - c)).1
      omega
/-- All samples are those with at most so many bad ones, and the others. -/
theorem fewSum_rest (b d s : Nat) : ∀ m : Nat, m ≤ s + 1 → fewSum b d s m + fewSum d b s (s + 1 - m) = binom (b + d) s := by
  intro m hm
  have key : ∀ k : Nat, k ≤ s + 1 → fewSum b d s (s + 1) = fewSum b d s (s + 1 - k) + fewSum d b s k := fun k => by
    induction k with
    | zero => intro _; simp [fewSum]
    | succ k ih =>
      intro hk
      rw [ih (by omega), show fewSum d b s (k + 1) = fewSum d b s k + binom d k * binom b (s - k) from rfl,
        show s + 1 - k = (s - k) + 1 by omega, show fewSum b d s (s - k + 1) = fewSum b d s (s - k) + binom b (s - k) * binom d (s - (s - k)) from rfl,
        show s - (s - k) = k by omega, show s + 1 - (k + 1) = s - k by omega, Int.mul_comm (binom b (s - k))]
      omega
  have h := key (s + 1 - m) (by omega)
  rw [vandermonde, show s + 1 - (s + 1 - m) = m by omega] at h
  omega
/-! #### factorials -/
def fact : Nat → Int
  | 0 => 1
  | n + 1 => (n + 1 : Nat) * fact n
theorem fact_pos : ∀ n, 0 < fact n
  | 0 => by decide
  | n + 1 => Int.mul_pos (by omega) (fact_pos n)
theorem binom_fact : ∀ n k : Nat, k ≤ n → binom n k * fact k * fact (n - k) = fact n
  | 0, 0, _ => by decide
  | n + 1, 0, _ => by rw [binom_zero, Nat.sub_zero]; simp [fact]
  | n + 1, k + 1, h => by
    rw [show binom (n + 1) (k + 1) = binom n k + binom n (k + 1) from rfl]
    have h1 := binom_fact n k (by omega)
    by_cases hk : k = n
    · subst hk
      rw [binom_above k (k + 1) (by omega), Int.add_zero, show k + 1 - (k + 1) = k - k by omega, show fact (k + 1) = (k + 1 : Nat) * fact k from rfl, ← Int.mul_assoc, Int.mul_comm (binom k k), Int.mul_assoc ((k + 1 : Nat) : Int), Int.mul_assoc ((k + 1 : Nat) : Int), h1]
    · have h2 := binom_fact n (k + 1) (by omega)
      have e : n + 1 - (k + 1) = (n - (k + 1)) + 1 := by omega
      have e2 : n - k = (n - (k + 1)) + 1 := by omega
      rw [e2] at h1
      rw [e]
      have f1 : fact (n - (k + 1) + 1) = ((n - (k + 1) + 1 : Nat) : Int) * fact (n - (k + 1)) := rfl
      have f2 : fact (k + 1) = ((k + 1 : Nat) : Int) * fact k := rfl
      have f3 : fact (n + 1) = ((n + 1 : Nat) : Int) * fact n := rfl
      have f4 : ((n + 1 : Nat) : Int) = ((k + 1 : Nat) : Int) + ((n - (k + 1) + 1 : Nat) : Int) := by omega
      rw [f3, f4, Int.add_mul, Int.add_mul, Int.add_mul]
      have g1 : binom n k * fact (k + 1) * fact (n - (k + 1) + 1) = ((k + 1 : Nat) : Int) * fact n := by
        rw [f2, ← h1]
        simp only [Int.mul_assoc, Int.mul_left_comm]
      have g2 : binom n (k + 1) * fact (k + 1) * fact (n - (k + 1) + 1) = ((n - (k + 1) + 1 : Nat) : Int) * fact n := by
        rw [f1, ← h2]
        simp only [Int.mul_assoc, Int.mul_left_comm]
      rw [g1, g2]
theorem term_sym (n k s i : Nat) (hk : k ≤ n) (hs : s ≤ n) (hik : i ≤ k) (his : i ≤ s) : binom k i * binom (n - k) (s - i) * binom n k = binom s i * binom (n - s) (k - i) * binom n s := by
  by_cases h : s - i ≤ n - k
  · have h' : k - i ≤ n - s := by omega
    have e1 := binom_fact k i hik
    have e2 := binom_fact (n - k) (s - i) h
    have e3 := binom_fact n k hk
    have d1 := binom_fact s i his
    have d2 := binom_fact (n - s) (k - i) h'
    have d3 := binom_fact n s hs
    rw [show n - s - (k - i) = n - k - (s - i) by omega] at d2
    have hF : fact i * fact (k - i) * fact (s - i) * fact (n - k - (s - i)) ≠ 0 := by
      have := Int.mul_pos (Int.mul_pos (Int.mul_pos (fact_pos i) (fact_pos (k - i))) (fact_pos (s - i))) (fact_pos (n - k - (s - i)))
      omega
    apply Int.eq_of_mul_eq_mul_right hF
    have l : binom k i * binom (n - k) (s - i) * binom n k * (fact i * fact (k - i) * fact (s - i) * fact (n - k - (s - i))) = binom n k * (binom k i * fact i * fact (k - i)) * (binom (n - k) (s - i) * fact (s - i) * fact (n - k - (s - i))) := by ac_rfl
    have r : binom s i * binom (n - s) (k - i) * binom n s * (fact i * fact (k - i) * fact (s - i) * fact (n - k - (s - i))) = binom n s * (binom s i * fact i * fact (s - i)) * (binom (n - s) (k - i) * fact (k - i) * fact (n - k - (s - i))) := by ac_rfl
    rw [l, r, e1, e2, e3, d1, d2, d3]
  · rw [binom_above (n - k) (s - i) (by omega), binom_above (n - s) (k - i) (by omega)]
    simp
/-- Sample and bad can be exchanged. -/
theorem fewSum_sym (n k s : Nat) (hk : k ≤ n) (hs : s ≤ n) : ∀ c : Nat, c ≤ k + 1 → c ≤ s + 1 → fewSum k (n - k) s c * binom n k = fewSum s (n - s) k c * binom n s
  | 0, _, _ => by simp [fewSum]
  | c + 1, h1, h2 => by
    rw [show fewSum k (n - k) s (c + 1) = fewSum k (n - k) s c + binom k c * binom (n - k) (s - c) from rfl, show fewSum s (n - s) k (c + 1) = fewSum s (n - s) k c + binom s c * binom (n - s) (k - c) from rfl,
      Int.add_mul, Int.add_mul, fewSum_sym n k s hk hs c (by omega) (by omega), term_sym n k s c hk hs (by omega) (by omega)]
theorem binom_pos : ∀ n k : Nat, k ≤ n → 1 ≤ binom n k
  | n, 0, _ => by rw [binom_zero]; omega
  | n + 1, k + 1, h => by
    have h1 := binom_pos n k (by omega)
    have h2 := (binom_bound n (k + 1)).1
    simp only [binom]
    omega
/-- Lowest terms are the same. -/
theorem lowest {a b c d : Nat} (hb : 0 < b) (hd : 0 < d) (h : a * d = c * b) : a / Nat.gcd a b = c / Nat.gcd c d ∧ b / Nat.gcd a b = d / Nat.gcd c d := by
  have g0 : 0 < Nat.gcd a b := Nat.gcd_pos_of_pos_right _ hb
  have z0 : 0 < Nat.gcd c d := Nat.gcd_pos_of_pos_right _ hd
  have p := Nat.coprime_div_gcd_div_gcd g0
  have q := Nat.coprime_div_gcd_div_gcd z0
  have ea := Nat.div_mul_cancel (Nat.gcd_dvd_left a b)
  have eb := Nat.div_mul_cancel (Nat.gcd_dvd_right a b)
  have ec := Nat.div_mul_cancel (Nat.gcd_dvd_left c d)
  have ed := Nat.div_mul_cancel (Nat.gcd_dvd_right c d)
  generalize a / Nat.gcd a b = x at *
  generalize b / Nat.gcd a b = y at *
  generalize c / Nat.gcd c d = u at *
  generalize d / Nat.gcd c d = v at *
  generalize Nat.gcd a b = g at *
  generalize Nat.gcd c d = z at *
  subst ea eb ec ed
  have e : x * v = u * y := by
    have : x * v * (g * z) = u * y * (g * z) := by
      rw [show x * v * (g * z) = x * g * (v * z) by ac_rfl, h]; ac_rfl
    exact Nat.eq_of_mul_eq_mul_right (Nat.mul_pos g0 z0) this
  have h1 : x ∣ u := p.dvd_of_dvd_mul_right (by rw [← e]; exact Nat.dvd_mul_right x v)
  have h2 : u ∣ x := q.dvd_of_dvd_mul_right (by rw [e]; exact Nat.dvd_mul_right u y)
  have h3 : y ∣ v := p.symm.dvd_of_dvd_mul_left (by rw [e]; exact Nat.dvd_mul_left y u)
  have h4 : v ∣ y := q.symm.dvd_of_dvd_mul_left (by rw [← e]; exact Nat.dvd_mul_left v x)
  exact ⟨Nat.dvd_antisymm h1 h2, Nat.dvd_antisymm h3 h4⟩
/-! ### GaugeSamples -/
theorem beyond_true {n lo hi : Int} (h : n < lo ∨ n > hi) : thermionref07_beyond.f n lo hi = some true := by
  unfold thermionref07_beyond.f
  by_cases c : n < lo
  · rw [if_pos c]
  · rw [if_neg c, decide_eq_true (by omega)]
theorem beyond_false {n lo hi : Int} (h : lo ≤ n ∧ n ≤ hi) : thermionref07_beyond.f n lo hi = some false := by
  unfold thermionref07_beyond.f
  rw [if_neg (by omega), decide_eq_false (by omega)]
theorem binom_self : ∀ n : Nat, binom n n = 1
  | 0 => binom_zero 0
  | n + 1 => by rw [binom_step (n + 1) (n + 1) (by omega) (by omega), Nat.add_sub_cancel, binom_self n, binom_above n (n + 1) (by omega)]; rfl
def rowL (n j : Nat) : List Int := (List.range j).map fun i => binom n i
theorem rowL_len (n j : Nat) : (rowL n j).length = j := by simp [rowL]
theorem rowL_succ (n j : Nat) : rowL n (j + 1) = rowL n j ++ [binom n j] := by simp [rowL, List.range_succ]
theorem rowL_rd (n j i : Nat) (h : i < j) : rd (rowL n j) (i : Int) = binom n i := by
  unfold rd rowL
  rw [Int.toNat_natCast, List.getD_eq_getElem?_getD, List.getElem?_map, List.getElem?_range h]
  rfl
theorem rowL_one (n : Nat) : ([1] : List Int) = rowL n 1 := by rw [rowL_succ, binom_zero]; rfl
theorem choose_row (n c : Nat) (hn : n ≤ 50) (hc : c ≤ n) : ∀ m i : Nat, n + 1 - i = m → 1 ≤ i → i ≤ n + 1 → Ev (fun k => thermionref07_choose.l0 k n c (rowL (i - 1) i) i) (binom n c) := by
  intro m
  induction m with
  | zero =>
    intro i hm h1 h2
    obtain rfl : i = n + 1 := by omega
    refine Ev.step (fun k => by rw [thermionref07_choose.l0]) ?_
    refine Ev.neg (by omega) (Ev.pos (by omega) (Ev.pos (by rw [rowL_len]; omega) (Ev.done ?_)))
    rw [rowL_rd _ _ _ (by omega), Nat.add_sub_cancel]
  | succ m ih =>
    intro i hm h1 h2
    have inner : ∀ e j : Nat, i - j = e → 1 ≤ j → j ≤ i → Ev (fun k => thermionref07_choose.l1 k n c (rowL (i - 1) i) i (rowL i j) j) (binom n c) := by
      intro e
      induction e with
      | zero =>
        intro j he hj0 hj1
        obtain rfl : j = i := by omega
        refine Ev.step (fun k => by rw [thermionref07_choose.l1]) ?_
        refine Ev.neg (by omega) (Ev.pos (by rw [rowL_len]; omega) ?_)
        have := ih (j + 1) (by omega) (by omega) (by omega)
        rw [Nat.add_sub_cancel, rowL_succ, binom_self] at this
        rw [wrap64_eq (by omega)]
        exact this
      | succ e ihe =>
        intro j he hj0 hj1
        refine Ev.step (fun k => by rw [thermionref07_choose.l1]) ?_
        have b0 := binom_bound (i - 1) (j - 1)
        have b1 := binom_bound (i - 1) j
        have p := pow_bound (i - 1) (by omega)
        have r0 : rd (rowL (i - 1) i) ((j : Int) - 1) = binom (i - 1) (j - 1) := by rw [show ((j : Int) - 1) = ((j - 1 : Nat) : Int) by omega]; exact rowL_rd _ _ _ (by omega)
        have r1 : rd (rowL (i - 1) i) (j : Int) = binom (i - 1) j := rowL_rd _ _ _ (by omega)
        have s := binom_step i j (by omega) (by omega)
        refine Ev.pos (by omega) ?_
        rw [wrap64_eq (n := (j : Int) - 1) (by omega), wrap64_eq (n := (j : Int) + 1) (by omega), r0, r1, wrap64_eq (by omega), ← s, ← rowL_succ]
        refine Ev.pos (by omega) (Ev.pos (by rw [rowL_len]; omega) (Ev.pos (by omega) (Ev.pos (by rw [rowL_len]; omega) (Ev.pos (by rw [rowL_len]; omega) ?_))))
        exact ihe (j + 1) (by omega) (by omega) (by omega)
    refine Ev.step (fun k => by rw [thermionref07_choose.l0]) ?_
    refine Ev.pos (by omega) ?_
    rw [rowL_one i]
    exact inner (i - 1) 1 rfl (by omega) (by omega)
theorem choose_ev (n c : Int) (h0 : 0 ≤ n) (h1 : n ≤ 50) (hc : 0 ≤ c) : Ev (fun k => thermionref07_choose.f k n c) (binom n.toNat c.toNat) := by
  unfold thermionref07_choose.f
  by_cases h : c ≤ n
  · refine Ev.call (beyond_false ⟨hc, h⟩) (Ev.neg (by decide) ?_)
    have := choose_row n.toNat c.toNat (by omega) (by omega) (n.toNat + 1 - 1) 1 rfl (by omega) (by omega)
    rw [← rowL_one, Int.toNat_of_nonneg h0, Int.toNat_of_nonneg hc] at this
    exact this
  · refine Ev.call (beyond_true (.inr (by omega))) (Ev.pos rfl (Ev.done ?_))
    rw [binom_above _ _ (by omega)]
theorem ways_ev (lot bad s c : Int) (h : FewOk lot bad s c) (hs : c ≤ s) : Ev (fun k => thermionref07_ways.f k lot bad s c) (fewP lot bad s c) := by
  obtain ⟨h0, h1, h2, h3, h4, h5⟩ := h
  unfold thermionref07_ways.f
  have go : ∀ m i : Nat, c.toNat + 1 - i = m → i ≤ c.toNat + 1 → Ev (fun k => thermionref07_ways.l0 k lot bad s c (fewSum bad.toNat (lot - bad).toNat s.toNat i) i) (fewSum bad.toNat (lot - bad).toNat s.toNat (c.toNat + 1)) := by
    intro m
    induction m with
    | zero =>
      intro i hm hi
      obtain rfl : i = c.toNat + 1 := by omega
      refine Ev.step (fun k => by rw [thermionref07_ways.l0]) ?_
      exact Ev.neg (by omega) (Ev.done rfl)
    | succ m ih =>
      intro i hm hi
      refine Ev.step (fun k => by rw [thermionref07_ways.l0]) ?_
      have t := term_bound bad.toNat (lot - bad).toNat s.toNat i (by omega)
      have f := fewSum_bound bad.toNat (lot - bad).toNat s.toNat (by omega) i
      have e1 : ((i : Nat) : Int).toNat = i := Int.toNat_natCast i
      have e2 : (s - (i : Int)).toNat = s.toNat - i := by omega
      have c1 := choose_ev bad i (by omega) (by omega) (by omega)
      have c2 := choose_ev (lot - bad) (s - i) (by omega) (by omega) (by omega)
      rw [e1] at c1
      rw [e2] at c2
      refine Ev.pos (by omega) ?_
      rw [wrap64_eq (n := lot - bad) (by omega), wrap64_eq (n := s - (i : Int)) (by omega), wrap64_eq (n := (i : Int) + 1) (by omega)]
      refine Ev.bind c1 (Ev.bind c2 ?_)
      have g : fewSum bad.toNat (lot - bad).toNat s.toNat i ≤ 1125899906842624 * 51 := by omega
      rw [wrap64_eq (n := binom bad.toNat i * binom (lot - bad).toNat (s.toNat - i)) (by omega), wrap64_eq (by omega)]
      exact ih (i + 1) (by omega) (by omega)
  have := go (c.toNat + 1) 0 rfl (by omega)
  rw [fewP_eq h1 h5 hs]
  exact this
theorem refChance_ev (lot bad s c : Int) : Ev (fun k => thermionref07_Chance.f k lot bad s c) (if ChanceOk lot bad s c then (fewP lot bad s c, binom lot.toNat s.toNat, 0) else (0, 0, 2)) := by
  have bad_ : ∀ {r}, r = ((0, 0, 2) : Int × Int × Int) → Ev (fun k => thermionref07_Chance.j0 k lot bad s c true) r := by
    rintro r rfl
    refine Ev.step (fun k => by rw [thermionref07_Chance.j0]) ?_
    exact Ev.pos rfl (Ev.done rfl)
  unfold thermionref07_Chance.f
  by_cases h1 : 1 ≤ lot ∧ lot ≤ 50
  · refine Ev.call (beyond_false h1) (Ev.neg (by decide) ?_)
    by_cases h2 : 0 ≤ bad ∧ bad ≤ lot
    · refine Ev.call (beyond_false h2) (Ev.neg (by decide) ?_)
      by_cases h3 : 0 ≤ s ∧ s ≤ lot
      · refine Ev.call (beyond_false h3) (Ev.neg (by decide) ?_)
        by_cases h4 : 0 ≤ c ∧ c ≤ s
        · refine Ev.call (beyond_false h4) ?_
          rw [if_pos (by unfold ChanceOk; omega)]
          refine Ev.step (fun k => by rw [thermionref07_Chance.j0]) ?_
          refine Ev.neg (by decide) ?_
          exact Ev.bind (ways_ev lot bad s c (by unfold FewOk; omega) h4.2) (Ev.bind (choose_ev lot s (by omega) (by omega) (by omega)) (Ev.done rfl))
        · exact Ev.call (beyond_true (by omega)) (bad_ (if_neg (by unfold ChanceOk; omega)))
      · exact Ev.call (beyond_true (by omega)) (Ev.pos rfl (bad_ (if_neg (by unfold ChanceOk; omega))))
    · exact Ev.call (beyond_true (by omega)) (Ev.pos rfl (bad_ (if_neg (by unfold ChanceOk; omega))))
  · exact Ev.call (beyond_true (by omega)) (Ev.pos rfl (bad_ (if_neg (by unfold ChanceOk; omega))))
theorem refPlan_l (n g d u v : Int) (h : PlanOk n g d u v) (R : Int × Int × Int) (hR : planEnd (planP n g d u v) = R) : Ev (fun k => thermionref07_Plan.l0 k n g d u v 0) R := by
  obtain ⟨b0, b1, b2, b3, b4, b5, b6, b7, b8, b9⟩ := h
  have inner : ∀ (s : Nat) (Q : Option Nat), (s : Int) ≤ n → (∀ c, Q = some c → ((s : Int), (c : Int), (0 : Int)) = R) → (Q = none → Ev (fun k => thermionref07_Plan.l0 k n g d u v ((s : Int) + 1)) R) →
      ∀ m c : Nat, s + 1 - c = m → planC (planB n g d u v s) (s + 1 - c) c = Q → c ≤ s + 1 → Ev (fun k => thermionref07_Plan.l1 k n g d u v s (binom n.toNat s) c) R := by
    intro s Q hs hhit hmiss m
    induction m with
    | zero =>
      intro c hm hC hc
      obtain rfl : c = s + 1 := by omega
      rw [Nat.sub_self] at hC
      refine Ev.step (fun k => by rw [thermionref07_Plan.l1]) ?_
      refine Ev.neg (by omega) ?_
      rw [wrap64_eq (by omega)]
      exact hmiss hC.symm
    | succ m ih =>
      intro c hm hC hc
      have S := planC_start hC (by omega)
      have C1 := ways_ev n g s c (by unfold FewOk; omega) (by omega)
      have C2 := ways_ev n d s c (by unfold FewOk; omega) (by omega)
      have hx := fewP_within (lot := n) (bad := g) (s := s) (m := c) ⟨by omega, by omega, by omega, by omega, by omega, by omega⟩
      have hy := fewP_within (lot := n) (bad := d) (s := s) (m := c) ⟨by omega, by omega, by omega, by omega, by omega, by omega⟩
      have hB : planB n g d u v s c = (decide ((binom n.toNat s - fewP n g s c) * u ≤ binom n.toNat s) && decide (fewP n d s c * v ≤ binom n.toNat s)) := rfl
      rw [Int.toNat_natCast] at hx hy
      generalize fewP n g s c = q at C1 hx hB
      generalize fewP n d s c = r at C2 hy hB
      generalize binom n.toNat s = A at hx hy hB ih ⊢
      have m1 := mul_fits (x := A - q) (y := u) (A := A) (by omega) (by omega) (by omega) (by omega) (by omega)
      have m2 := mul_fits (x := r) (y := v) (A := A) (by omega) (by omega) (by omega) (by omega) (by omega)
      have next : planB n g d u v s c = false → Ev (fun k => thermionref07_Plan.l1 k n g d u v s A ((c : Int) + 1)) R := fun hb => ih (c + 1) (by omega) (S.2 hb) (by omega)
      refine Ev.step (fun k => by rw [thermionref07_Plan.l1]) ?_
      refine Ev.pos (by omega) (Ev.bind C1 ?_)
      rw [wrap64_eq (n := A - q) (by omega), wrap64_eq (n := (A - q) * u) (by omega), wrap64_eq (n := (c : Int) + 1) (by omega)]
      by_cases p1 : (A - q) * u ≤ A
      · refine Ev.pos p1 (Ev.bind C2 ?_)
        rw [wrap64_eq (n := r * v) (by omega)]
        by_cases p2 : r * v ≤ A
        · exact Ev.pos p2 (Ev.done (congrArg some (hhit c (S.1 (by rw [hB, decide_eq_true p1, decide_eq_true p2]; rfl)))))
        · exact Ev.neg p2 (next (by rw [hB, decide_eq_false p2, Bool.and_false]))
      · exact Ev.neg p1 (next (by rw [hB, decide_eq_false p1, Bool.false_and]))
  have outer : ∀ m s : Nat, n.toNat + 1 - s = m → planS (fun s => planC (planB n g d u v s) (s + 1) 0) (n.toNat + 1 - s) s = planP n g d u v → s ≤ n.toNat + 1 → Ev (fun k => thermionref07_Plan.l0 k n g d u v s) R := by
    intro m
    induction m with
    | zero =>
      intro s hm hS hs
      rw [hm] at hS
      rw [← hS] at hR
      simp only [planS, planEnd] at hR
      refine Ev.step (fun k => by rw [thermionref07_Plan.l0]) ?_
      exact Ev.neg (by omega) (Ev.done (congrArg some hR))
    | succ m ih =>
      intro s hm hS hs
      have S := planS_start hS (by omega)
      refine Ev.step (fun k => by rw [thermionref07_Plan.l0]) ?_
      have C := choose_ev n s (by omega) (by omega) (by omega)
      rw [Int.toNat_natCast] at C
      refine Ev.pos (by omega) (Ev.bind C ?_)
      exact inner s (planC (planB n g d u v s) (s + 1) 0) (by omega) (fun c hc => by rw [← hR, S.1 c hc]; rfl) (fun hc => ih (s + 1) (by omega) (S.2 hc) (by omega)) (s + 1) 0 rfl rfl (by omega)
  exact outer (n.toNat + 1) 0 rfl rfl (by omega)
theorem refPlan_ev (n g d u v : Int) : Ev (fun k => thermionref07_Plan.f k n g d u v) (if PlanOk n g d u v then planEnd (planP n g d u v) else (0, 0, 2)) := by
  have bad_ : ∀ {r}, r = ((0, 0, 2) : Int × Int × Int) → Ev (fun k => thermionref07_Plan.j0 k n g d u v true) r := by
    rintro r rfl
    refine Ev.step (fun k => by rw [thermionref07_Plan.j0]) ?_
    exact Ev.pos rfl (Ev.done rfl)
  unfold thermionref07_Plan.f
  by_cases h1 : 1 ≤ n ∧ n ≤ 50
  · refine Ev.call (beyond_false h1) (Ev.neg (by decide) ?_)
    by_cases h2 : 0 ≤ g ∧ g ≤ n
    · refine Ev.call (beyond_false h2) (Ev.neg (by decide) ?_)
      by_cases h3 : d ≤ g
      · exact Ev.pos h3 (bad_ (if_neg (by unfold PlanOk; omega)))
      · refine Ev.neg h3 ?_
        by_cases h4 : d > n
        · exact Ev.pos h4 (bad_ (if_neg (by unfold PlanOk; omega)))
        · refine Ev.neg h4 ?_
          by_cases h5 : 1 ≤ u ∧ u ≤ 10000
          · refine Ev.call (beyond_false h5) (Ev.neg (by decide) ?_)
            by_cases h6 : 1 ≤ v ∧ v ≤ 10000
            · refine Ev.call (beyond_false h6) ?_
              rw [if_pos (by unfold PlanOk; omega)]
              refine Ev.step (fun k => by rw [thermionref07_Plan.j0]) ?_
              refine Ev.neg (by decide) ?_
              exact refPlan_l n g d u v (by unfold PlanOk; omega) _ rfl
            · exact Ev.call (beyond_true (by omega)) (bad_ (if_neg (by unfold PlanOk; omega)))
          · exact Ev.call (beyond_true (by omega)) (Ev.pos rfl (bad_ (if_neg (by unfold PlanOk; omega))))
    · exact Ev.call (beyond_true (by omega)) (Ev.pos rfl (bad_ (if_neg (by unfold PlanOk; omega))))
  · exact Ev.call (beyond_true (by omega)) (Ev.pos rfl (bad_ (if_neg (by unfold PlanOk; omega))))
theorem GaugeSamples : thermionlaw07_GaugeSamples.Pure := by
  intro a0 a1 a2 a3 a4 a5 _ _ _ _ _ _
  refine Ev.rounds ?_
  unfold thermionlaw07_GaugeSamples.f
  obtain ⟨t, e0, t0, t1⟩ := mod_some a0 24 (by omega) (by omega)
  refine Ev.call e0 ?_
  rw [wrap64_eq (n := 1 + t) (by omega), wrap64_eq (n := 1 + t + 1) (by omega)]
  obtain ⟨x, e1, x0, x1⟩ := mod_some a1 (1 + t + 1) (by omega) (by omega)
  refine Ev.call e1 ?_
  obtain ⟨s, e2, s0, s1⟩ := mod_some a2 (1 + t + 1) (by omega) (by omega)
  refine Ev.call e2 ?_
  rw [wrap64_eq (n := s + 1) (by omega)]
  obtain ⟨c, e3, c0, c1⟩ := mod_some a3 (s + 1) (by omega) (by omega)
  refine Ev.call e3 ?_
  obtain ⟨g, e4, g0, g1⟩ := mod_some a1 (1 + t) (by omega) (by omega)
  refine Ev.call e4 ?_
  rw [wrap64_eq (n := 1 + t - g) (by omega), wrap64_eq (n := g + 1) (by omega)]
  obtain ⟨b, e5, b0, b1⟩ := mod_some a3 (1 + t - g) (by omega) (by omega)
  refine Ev.call e5 ?_
  rw [wrap64_eq (n := g + 1 + b) (by omega)]
  refine Ev.call rfl (Ev.bind (refChance_ev a0 a1 a2 a3) ?_)
  refine Ev.pos rfl (Ev.pos rfl ?_)
  rw [bne_self_eq_false]
  refine Ev.step (fun k => by rw [thermionlaw07_GaugeSamples.j0]) ?_
  refine Ev.neg (by decide) ?_
  refine Ev.call rfl (Ev.bind (refChance_ev _ _ _ _) ?_)
  refine Ev.call rfl (Ev.bind (refPlan_ev _ _ _ _ _) ?_)
  refine Ev.pos rfl (Ev.pos rfl (Ev.pos rfl (Ev.neg (by simp) ?_)))
  rw [bne_self_eq_false]
  refine Ev.step (fun k => by rw [thermionlaw07_GaugeSamples.j1]) ?_
  refine Ev.neg (by decide) ?_
  obtain ⟨o, e6, o0, o1⟩ := mod_some a4 30 (by omega) (by omega)
  obtain ⟨p, e7, p0, p1⟩ := mod_some a5 30 (by omega) (by omega)
  refine Ev.call e6 (Ev.call e7 (Ev.call rfl (Ev.call e6 (Ev.call e7 (Ev.bind (refPlan_ev _ _ _ _ _) ?_)))))
  refine Ev.pos (by simp) (Ev.pos rfl (Ev.bind Ev.awake (Ev.done rfl)))
end Go.Proofs.Ytdbpobadeibjaaa.Pure
