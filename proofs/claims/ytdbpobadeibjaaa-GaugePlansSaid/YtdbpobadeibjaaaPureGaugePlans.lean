import Derived.Test.YtdbpobadeibjaaaGAllx20
namespace Go.Proofs.Ytdbpobadeibjaaa.Pure
open Go.RowKit Go.Proofs.Ytdbpobadeibjaaa.GAll Go.Proofs.YtdbpobadeibjaaaW.PrintWords Go.Proofs.YtdbpobadeibjaaaW.PrintLast
/-! ### shared -/
theorem le_fuel {α : Type} {f : Nat → Option α} (hm : ∀ k, LeO (f k) (f (k + 1))) {j : Nat} {r : α} (h : f j = some r) : ∀ k, j ≤ k → f k = some r := by
  intro k hk
  obtain ⟨d, rfl⟩ := Nat.exists_eq_add_of_le hk
  clear hk
  induction d with
  | zero => exact h
  | succ d ih => exact hm (j + d) r ih
theorem mod_some (a m : Int) (h0 : 1 ≤ m) (h1 : m ≤ 1000) : ∃ t, thermionkit_Mod.f a m = some t ∧ 0 ≤ t ∧ t < m := by
  unfold thermionkit_Mod.f
  have u := Int.tmod_lt_of_pos a (show 0 < m by omega)
  have l := Int.tmod_lt_of_pos (-a) (show 0 < m by omega)
  rw [Int.neg_tmod] at l
  rw [if_neg (by omega), if_neg (by omega)]
  by_cases c : Int.tmod a m < 0
  · rw [if_pos c, wrap64_eq (by omega)]
    exact ⟨_, rfl, by omega, by omega⟩
  · rw [if_neg c]
    exact ⟨_, rfl, by omega, u⟩
theorem awake_some (k : Nat) (h : 3 ≤ k) : thermionlaw07_awake.f k = some true := le_fuel (f := thermionlaw07_awake.f) (j := 3) (r := true) thermionlaw07_awake.mono thermionlaw07_awake.holds k h
/-! ### GaugePlans -/
theorem chance_few {n k s c : Int} (h : ChanceOk n k s c) : gauge_Chance.f n k s c = some (fewP n k s c, binom n.toNat s.toNat, 0) := by
  unfold gauge_Chance.f
  rw [if_pos h]
theorem GaugePlans : thermionlaw07_GaugePlans.Pure := by
  intro a0 a1 a2 a3 a4 _ _ _ _ _
  obtain ⟨t, e0, t0, t1⟩ := mod_some a0 14 (by omega) (by omega)
  obtain ⟨g, e1, g0, g1⟩ := mod_some a1 (1 + t) (by omega) (by omega)
  obtain ⟨b, e2, b0, b1⟩ := mod_some a2 (1 + t - g) (by omega) (by omega)
  obtain ⟨o, e3, o0, o1⟩ := mod_some a3 40 (by omega) (by omega)
  obtain ⟨p, e4, p0, p1⟩ := mod_some a4 40 (by omega) (by omega)
  obtain ⟨n, hn⟩ : ∃ n, n = 1 + t := ⟨_, rfl⟩
  obtain ⟨d, hd⟩ : ∃ d, d = g + 1 + b := ⟨_, rfl⟩
  obtain ⟨u, hu⟩ : ∃ u, u = 1 + o := ⟨_, rfl⟩
  obtain ⟨v, hv⟩ : ∃ v, v = 1 + p := ⟨_, rfl⟩
  have P : gauge_Plan.f n g d u v = some (planEnd (planP n g d u v)) := by
    unfold gauge_Plan.f
    rw [if_pos (by unfold PlanOk; omega)]
  obtain ⟨⟨x, y, z⟩, hR⟩ : ∃ R, R = planEnd (planP n g d u v) := ⟨_, rfl⟩
  rw [← hR] at P
  -- a sample's plans
  have inner : ∀ (s : Nat) (R : Option Nat), (s : Int) ≤ n → (∀ c, R = some c → (s : Int) = x ∧ (c : Int) = y ∧ 0 = z) → (R = none → ∃ K, thermionlaw07_GaugePlans.l0 K g d u v n z ((s : Int) + 1) x y = some true) →
      ∀ m c : Nat, s + 1 - c = m → planC (planB n g d u v s) (s + 1 - c) c = R → c ≤ s + 1 → ∃ K, thermionlaw07_GaugePlans.l1 K g d u v n z s c x y = some true := by
    intro s R hs hhit hmiss m
    induction m with
    | zero =>
      intro c hm hC hc
      obtain rfl : c = s + 1 := by omega
      rw [Nat.sub_self] at hC
      obtain ⟨K, hK⟩ := hmiss hC.symm
      refine ⟨K + 1, ?_⟩
      rw [thermionlaw07_GaugePlans.l1, if_neg (by omega), wrap64_eq (by omega)]
      exact hK
    | succ m ih =>
      intro c hm hC hc
      have S := planC_start hC (by omega)
      have C1 := chance_few (n := n) (k := g) (s := s) (c := c) (by unfold ChanceOk; omega)
      have C2 := chance_few (n := n) (k := d) (s := s) (c := c) (by unfold ChanceOk; omega)
      have hx := fewP_within (lot := n) (bad := g) (s := s) (m := c) ⟨by omega, by omega, by omega, by omega, by omega, by omega⟩
      have hy := fewP_within (lot := n) (bad := d) (s := s) (m := c) ⟨by omega, by omega, by omega, by omega, by omega, by omega⟩
      have hB : planB n g d u v s c = (decide ((binom n.toNat s - fewP n g s c) * u ≤ binom n.toNat s) && decide (fewP n d s c * v ≤ binom n.toNat s)) := rfl
      rw [Int.toNat_natCast] at C1 C2 hx hy
      generalize fewP n g s c = q at C1 hx hB
      generalize fewP n d s c = r at C2 hy hB
      generalize binom n.toNat s = A at C1 C2 hx hy hB
      have m1 := mul_fits (x := A - q) (y := u) (A := A) (by omega) (by omega) (by omega) (by omega) (by omega)
      have m2 := mul_fits (x := r) (y := v) (A := A) (by omega) (by omega) (by omega) (by omega) (by omega)
      have step : ∀ K, thermionlaw07_GaugePlans.j2 K g d u v n z s c q A r false x y = some true → thermionlaw07_GaugePlans.l1 (K + 1) g d u v n z s c x y = some true := by
        intro K hK
        rw [thermionlaw07_GaugePlans.l1, if_pos (by omega)]
        refine Option.bind_eq_some_iff.mpr ⟨_, C1, Option.bind_eq_some_iff.mpr ⟨_, C2, ?_⟩⟩
        rw [if_pos rfl, if_pos rfl]
        show thermionlaw07_GaugePlans.j2 K g d u v n z s c q A r (A != A) x y = some true
        rw [bne_self_eq_false]
        exact hK
      have next : planB n g d u v s c = false → ∃ K, thermionlaw07_GaugePlans.l1 K g d u v n z s (wrap64 ((c : Int) + 1)) x y = some true := by
        intro hb
        obtain ⟨K, hK⟩ := ih (c + 1) (by omega) (S.2 hb) (by omega)
        rw [wrap64_eq (by omega)]
        exact ⟨K, hK⟩
      by_cases p1 : (A - q) * u ≤ A
      · by_cases p2 : r * v ≤ A
        · obtain ⟨hx0, hy0, hz0⟩ := hhit c (S.1 (by rw [hB, decide_eq_true p1, decide_eq_true p2]; rfl))
          refine ⟨3 + 1 + 1, step _ ?_⟩
          rw [thermionlaw07_GaugePlans.j2, if_neg (by decide), wrap64_eq (n := A - q) (by omega), wrap64_eq (by omega), wrap64_eq (by omega), if_pos p1, if_pos p2, if_pos hz0.symm, if_pos (by rw [hx0, hy0]; simp)]
          exact Option.bind_eq_some_iff.mpr ⟨_, awake_some 3 (by omega), rfl⟩
        · obtain ⟨K, hK⟩ := next (by rw [hB, decide_eq_false p2, Bool.and_false])
          refine ⟨K + 1 + 1, step _ ?_⟩
          rw [thermionlaw07_GaugePlans.j2, if_neg (by decide), wrap64_eq (n := A - q) (by omega), wrap64_eq (n := (A - q) * u) (by omega), wrap64_eq (n := r * v) (by omega), if_pos p1, if_neg p2]
          exact hK
      · obtain ⟨K, hK⟩ := next (by rw [hB, decide_eq_false p1, Bool.false_and])
        refine ⟨K + 1 + 1, step _ ?_⟩
        rw [thermionlaw07_GaugePlans.j2, if_neg (by decide), wrap64_eq (n := A - q) (by omega), wrap64_eq (n := (A - q) * u) (by omega), if_neg p1]
        exact hK
  have outer : ∀ m s : Nat, n.toNat + 1 - s = m → planS (fun s => planC (planB n g d u v s) (s + 1) 0) (n.toNat + 1 - s) s = planP n g d u v → s ≤ n.toNat + 1 → ∃ K, thermionlaw07_GaugePlans.l0 K g d u v n z s x y = some true := by
    intro m
    induction m with
    | zero =>
      intro s hm hS hs
      rw [hm] at hS
      rw [← hS] at hR
      simp only [planS, planEnd, Prod.mk.injEq] at hR
      obtain ⟨rfl, rfl, rfl⟩ := hR
      refine ⟨3 + 1, ?_⟩
      rw [thermionlaw07_GaugePlans.l0, if_neg (by omega), if_pos rfl, if_pos (by decide)]
      exact Option.bind_eq_some_iff.mpr ⟨_, awake_some 3 (by omega), rfl⟩
    | succ m ih =>
      intro s hm hS hs
      have S := planS_start hS (by omega)
      obtain ⟨K, hK⟩ := inner s (planC (planB n g d u v s) (s + 1) 0) (by omega) (fun c hc => by
        have h := hR
        rw [S.1 c hc] at h
        simp only [planEnd, Prod.mk.injEq] at h
        exact ⟨h.1.symm, h.2.1.symm, h.2.2.symm⟩) (fun hc => by
        obtain ⟨K, hK⟩ := ih (s + 1) (by omega) (S.2 hc) (by omega)
        exact ⟨K, hK⟩) (s + 1) 0 rfl rfl (by omega)
      refine ⟨K + 1, ?_⟩
      rw [thermionlaw07_GaugePlans.l0, if_pos (by omega)]
      exact hK
  obtain ⟨K, hK⟩ := outer (n.toNat + 1) 0 rfl rfl (by omega)
  refine ⟨K, ?_⟩
  unfold thermionlaw07_GaugePlans.f
  refine Option.bind_eq_some_iff.mpr ⟨_, e0, ?_⟩
  rw [wrap64_eq (n := 1 + t) (by omega)]
  refine Option.bind_eq_some_iff.mpr ⟨_, e1, ?_⟩
  rw [wrap64_eq (n := 1 + t - g) (by omega), wrap64_eq (n := g + 1) (by omega)]
  refine Option.bind_eq_some_iff.mpr ⟨_, e2, ?_⟩
  rw [wrap64_eq (n := g + 1 + b) (by omega)]
  refine Option.bind_eq_some_iff.mpr ⟨_, e3, ?_⟩
  rw [wrap64_eq (n := 1 + o) (by omega)]
  refine Option.bind_eq_some_iff.mpr ⟨_, e4, ?_⟩
  rw [wrap64_eq (n := 1 + p) (by omega), ← hn, ← hd, ← hu, ← hv]
  exact Option.bind_eq_some_iff.mpr ⟨_, P, hK⟩
end Go.Proofs.Ytdbpobadeibjaaa.Pure
