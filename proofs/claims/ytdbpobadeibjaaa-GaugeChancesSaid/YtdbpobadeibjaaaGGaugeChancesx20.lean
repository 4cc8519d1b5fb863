-- written for this claim by a program of this session (wip/gp), over the kit's own printer; Lean checks it
import Derived.Test.YtdbpobadeibjaaaGGaugeChancesx0
import Derived.Test.YtdbpobadeibjaaaGGaugeChancesx18
import Derived.Test.YtdbpobadeibjaaaGGaugeChancesx19
namespace Go.Proofs.Ytdbpobadeibjaaa.GGaugeChances
open Go.RowKit Go.Proofs.YtdbpobadeibjaaaW.PrintWords Go.Proofs.YtdbpobadeibjaaaW.PrintLast Go.Proofs.YtdbpobadeibjaaaW.PrintMore
attribute [local go_sem] max2_int min2_int max_two min_two max_three min_three max_four min_four   -- for this text's walks alone
set_option linter.unusedVariables false
set_option linter.unusedSimpArgs false

/-! ### thermionlaw07_equal: function 31 -/
mutual
def thermionlaw07_equal.l0 : Nat → Int → Int → Int → Int → Int → Int → Option (Bool)
  | 0, _, _, _, _, _, _ => none
  | k + 1, x0, x1, x2, x3, x9, x10 => if x10 > 0 then (if x10 = 0 then (none) else (thermionlaw07_equal.l0 k x0 x1 x2 x3 x10 (Int.tmod x9 x10))) else (thermionlaw07_equal.l1 k x0 x1 x2 x3 x9 x3 x2)
def thermionlaw07_equal.l1 : Nat → Int → Int → Int → Int → Int → Int → Int → Option (Bool)
  | 0, _, _, _, _, _, _, _ => none
  | k + 1, x0, x1, x2, x3, x9, x11, x12 => if x12 > 0 then (if x12 = 0 then (none) else (thermionlaw07_equal.l1 k x0 x1 x2 x3 x9 x12 (Int.tmod x11 x12))) else (if x9 > 0 then (if x11 > 0 then (if x9 = 0 then (none) else (if x11 = 0 then (none) else (if (wrap64 (Int.tdiv x0 x9)) = (wrap64 (Int.tdiv x2 x11)) then (some ((wrap64 (Int.tdiv x1 x9)) == (wrap64 (Int.tdiv x3 x11)))) else (some false)))) else (some false)) else (some false))
end
def thermionlaw07_equal.f (k : Nat) (a0 : Int) (a1 : Int) (a2 : Int) (a3 : Int) : Option (Bool) := thermionlaw07_equal.l0 k a0 a1 a2 a3 a1 a0
theorem thermionlaw07_equal.mono_l : ∀ k, (∀ y0 y1 y2 y3 y4 y5, LeO (thermionlaw07_equal.l0 k y0 y1 y2 y3 y4 y5) (thermionlaw07_equal.l0 (k + 1) y0 y1 y2 y3 y4 y5)) ∧ (∀ y0 y1 y2 y3 y4 y5 y6, LeO (thermionlaw07_equal.l1 k y0 y1 y2 y3 y4 y5 y6) (thermionlaw07_equal.l1 (k + 1) y0 y1 y2 y3 y4 y5 y6))
  | 0 => ⟨fun _ _ _ _ _ _ r h => by simp [thermionlaw07_equal.l0] at h, fun _ _ _ _ _ _ _ r h => by simp [thermionlaw07_equal.l1] at h⟩
  | k + 1 => by
    obtain ⟨ih0, ih1⟩ := thermionlaw07_equal.mono_l k
    refine ⟨?_, ?_⟩
    · intro y0 y1 y2 y3 y4 y5
      unfold thermionlaw07_equal.l0
      repeat' first
      | (with_reducible exact ih0 _ _ _ _ _ _)
      | (with_reducible exact ih1 _ _ _ _ _ _ _)
      | (with_reducible exact LeO.refl _)
      | (with_reducible exact LeO.none _)
      | (with_reducible refine LeO.ite ?_ ?_)
      | (with_reducible refine LeO.bind ?_ (fun _ => ?_))
      | exact ih0 _ _ _ _ _ _
      | exact ih1 _ _ _ _ _ _ _
      | exact LeO.none _
      | refine LeO.ite ?_ ?_
      | refine LeO.bind ?_ (fun _ => ?_)
    · intro y0 y1 y2 y3 y4 y5 y6
      unfold thermionlaw07_equal.l1
      repeat' first
      | (with_reducible exact ih0 _ _ _ _ _ _)
      | (with_reducible exact ih1 _ _ _ _ _ _ _)
      | (with_reducible exact LeO.refl _)
      | (with_reducible exact LeO.none _)
      | (with_reducible refine LeO.ite ?_ ?_)
      | (with_reducible refine LeO.bind ?_ (fun _ => ?_))
      | exact ih0 _ _ _ _ _ _
      | exact ih1 _ _ _ _ _ _ _
      | exact LeO.none _
      | refine LeO.ite ?_ ?_
      | refine LeO.bind ?_ (fun _ => ?_)
theorem thermionlaw07_equal.mono : ∀ a0 a1 a2 a3 k, LeO (thermionlaw07_equal.f k a0 a1 a2 a3) (thermionlaw07_equal.f (k + 1) a0 a1 a2 a3) := by
  intro a0 a1 a2 a3 k
  obtain ⟨ih0, ih1⟩ := thermionlaw07_equal.mono_l k
  unfold thermionlaw07_equal.f
  repeat' first
      | (with_reducible exact ih0 _ _ _ _ _ _)
      | (with_reducible exact ih1 _ _ _ _ _ _ _)
      | (with_reducible exact LeO.refl _)
      | (with_reducible exact LeO.none _)
      | (with_reducible refine LeO.ite ?_ ?_)
      | (with_reducible refine LeO.bind ?_ (fun _ => ?_))
      | exact ih0 _ _ _ _ _ _
      | exact ih1 _ _ _ _ _ _ _
      | exact LeO.none _
      | refine LeO.ite ?_ ?_
      | refine LeO.bind ?_ (fun _ => ?_)
set_option maxHeartbeats 8000000 in
set_option maxRecDepth 100000 in
theorem thermionlaw07_equal.calls (k : Nat) (a0 : Int) (a1 : Int) (a2 : Int) (a3 : Int) (r : Bool) (w : World) (h : thermionlaw07_equal.f k a0 a1 a2 a3 = some r) :
    Calls Try.prog 31 #[.int .i64 a0, .int .i64 a1, .int .i64 a2, .int .i64 a3] w fun e w' => e = .returned (.bool r) ∧ Drawn0 w w' := by
  have H : (thermionlaw07_equal.l0 k a0 a1 a2 a3 a1 a0) = some r := h
  clear h
  have H' := Aside0.mk H
  clear H
  go_enter Try.func31, Try.ntmps31
  go_wp2
  repeat (go_quiet (fail); try go_wp2)
  go_loopg [9, 10] k (fun kq v9 v10 w' => ∃ (x9_1 : Int) (x10_1 : Int), v9 = .int .i64 x9_1 ∧ v10 = .int .i64 x10_1 ∧ Aside0 (thermionlaw07_equal.l0 kq a0 a1 a2 a3 x9_1 x10_1 = some r) ∧ Aside0 (kq ≤ k) ∧ Drawn0 w w')
  case atStart => exact ⟨(a1), (a0), (by first | rfl | (simp; done) | (simp [*]; done)), (by first | rfl | (simp; done) | (simp [*]; done)), H', ⟨Nat.le_refl _⟩, by repeat (first | exact Drawn0.refl _ | apply Drawn0.step)⟩
  case round =>
    clear H'
    try clear p2
    try clear c3
    obtain ⟨x9_1, x10_1, rfl, rfl, HA, HK1, ⟨m1, rfl⟩⟩ := hrel
    cases gk with
    | zero => exact absurd HA.out (by simp [thermionlaw07_equal.l0])
    | succ k1 =>
      have H := HA.out
      clear HA
      simp only [thermionlaw07_equal.l0] at H
      by_cases c5 : x10_1 > 0
      · rw [if_pos c5] at H
        have c5b0 : decide (0 < x10_1) = true := decide_eq_true c5
        clear c5
        by_cases c6 : x10_1 = 0
        · rw [if_pos c6] at H
          exact absurd H (by simp)
        · rw [if_neg c6] at H
          have c6b0 : (x10_1 == 0) = false := beq_eq_false_iff_ne.mpr c6
          have c6b1 : (x10_1 != 0) = true := bne_iff_ne.mpr c6
          have H' := Aside0.mk H
          clear H
          go_wp2
          repeat (go_quiet (fail); try go_wp2)
          go_roundg k1
          case measure => have := HK1.out; omega
          case rel => exact ⟨(x10_1), (Int.tmod x9_1 x10_1), (by first | rfl | (simp; done) | (simp [*]; done)), (by first | rfl | (simp; done) | (simp [*]; done)), H', ⟨by have := HK1.out; omega⟩, by repeat (first | exact Drawn0.refl _ | apply Drawn0.step)⟩
      · rw [if_neg c5] at H
        have c5b0 : decide (0 < x10_1) = false := decide_eq_false c5
        clear c5
        have H' := Aside0.mk H
        clear H
        go_wp2
        repeat (go_quiet (fail); try go_wp2)
        go_loopg [11, 12] k1 (fun kq v11 v12 w' => ∃ (x11_2 : Int) (x12_2 : Int), v11 = .int .i64 x11_2 ∧ v12 = .int .i64 x12_2 ∧ Aside0 (thermionlaw07_equal.l1 kq a0 a1 a2 a3 x9_1 x11_2 x12_2 = some r) ∧ Aside0 (kq ≤ k1) ∧ Drawn0 w w')
        case atStart => exact ⟨(a3), (a2), (by first | rfl | (simp; done) | (simp [*]; done)), (by first | rfl | (simp; done) | (simp [*]; done)), H', ⟨Nat.le_refl _⟩, by repeat (first | exact Drawn0.refl _ | apply Drawn0.step)⟩
        case round =>
          clear H'
          try clear p2
          try clear c3
          try clear c5
          try clear c5b0
          try clear c6
          try clear c6b0
          try clear c6b1
          try clear p2
          obtain ⟨x11_2, x12_2, rfl, rfl, HA, HK2, ⟨m2, rfl⟩⟩ := hrel
          cases gk with
          | zero => exact absurd HA.out (by simp [thermionlaw07_equal.l1])
          | succ k2 =>
            have H := HA.out
            clear HA
            simp only [thermionlaw07_equal.l1] at H
            by_cases c7 : x12_2 > 0
            · rw [if_pos c7] at H
              have c7b0 : decide (0 < x12_2) = true := decide_eq_true c7
              clear c7
              by_cases c8 : x12_2 = 0
              · rw [if_pos c8] at H
                exact absurd H (by simp)
              · rw [if_neg c8] at H
                have c8b0 : (x12_2 == 0) = false := beq_eq_false_iff_ne.mpr c8
                have c8b1 : (x12_2 != 0) = true := bne_iff_ne.mpr c8
                have H' := Aside0.mk H
                clear H
                go_wp2
                repeat (go_quiet (fail); try go_wp2)
                go_roundg k2
                case measure => have := HK1.out; have := HK2.out; omega
                case rel => exact ⟨(x12_2), (Int.tmod x11_2 x12_2), (by first | rfl | (simp; done) | (simp [*]; done)), (by first | rfl | (simp; done) | (simp [*]; done)), H', ⟨by have := HK1.out; have := HK2.out; omega⟩, by repeat (first | exact Drawn0.refl _ | apply Drawn0.step)⟩
            · rw [if_neg c7] at H
              have c7b0 : decide (0 < x12_2) = false := decide_eq_false c7
              clear c7
              by_cases c9 : x9_1 > 0
              · rw [if_pos c9] at H
                have c9b0 : decide (0 < x9_1) = true := decide_eq_true c9
                clear c9
                by_cases c10 : x11_2 > 0
                · rw [if_pos c10] at H
                  have c10b0 : decide (0 < x11_2) = true := decide_eq_true c10
                  clear c10
                  by_cases c11 : x9_1 = 0
                  · rw [if_pos c11] at H
                    exact absurd H (by simp)
                  · rw [if_neg c11] at H
                    have c11b0 : (x9_1 == 0) = false := beq_eq_false_iff_ne.mpr c11
                    have c11b1 : (x9_1 != 0) = true := bne_iff_ne.mpr c11
                    by_cases c12 : x11_2 = 0
                    · rw [if_pos c12] at H
                      exact absurd H (by simp)
                    · rw [if_neg c12] at H
                      have c12b0 : (x11_2 == 0) = false := beq_eq_false_iff_ne.mpr c12
                      have c12b1 : (x11_2 != 0) = true := bne_iff_ne.mpr c12
                      by_cases c13 : (wrap64 (Int.tdiv a0 x9_1)) = (wrap64 (Int.tdiv a2 x11_2))
                      · rw [if_pos c13] at H
                        have c13b0 : ((wrap64 (Int.tdiv a0 x9_1)) == (wrap64 (Int.tdiv a2 x11_2))) = true := beq_iff_eq.mpr c13
                        have c13b1 : ((wrap64 (Int.tdiv a0 x9_1)) != (wrap64 (Int.tdiv a2 x11_2))) = false := bne_eq_false_iff_eq.mpr c13
                        clear c13
                        obtain rfl := Option.some.inj H
                        go_wp2
                        repeat (go_quiet (fail); try go_wp2)
                        go_ret
                        exact ⟨by first | rfl | (simp; done) | (simp [*]; done), by repeat (first | exact Drawn0.refl _ | apply Drawn0.step)⟩
                      · rw [if_neg c13] at H
                        have c13b0 : ((wrap64 (Int.tdiv a0 x9_1)) == (wrap64 (Int.tdiv a2 x11_2))) = false := beq_eq_false_iff_ne.mpr c13
                        have c13b1 : ((wrap64 (Int.tdiv a0 x9_1)) != (wrap64 (Int.tdiv a2 x11_2))) = true := bne_iff_ne.mpr c13
                        obtain rfl := Option.some.inj H
                        go_wp2
                        repeat (go_quiet (fail); try go_wp2)
                        go_ret
                        exact ⟨by first | rfl | (simp; done) | (simp [*]; done), by repeat (first | exact Drawn0.refl _ | apply Drawn0.step)⟩
                · rw [if_neg c10] at H
                  have c10b0 : decide (0 < x11_2) = false := decide_eq_false c10
                  clear c10
                  obtain rfl := Option.some.inj H
                  go_wp2
                  repeat (go_quiet (fail); try go_wp2)
                  go_ret
                  exact ⟨by first | rfl | (simp; done) | (simp [*]; done), by repeat (first | exact Drawn0.refl _ | apply Drawn0.step)⟩
              · rw [if_neg c9] at H
                have c9b0 : decide (0 < x9_1) = false := decide_eq_false c9
                clear c9
                obtain rfl := Option.some.inj H
                go_wp2
                repeat (go_quiet (fail); try go_wp2)
                go_ret
                exact ⟨by first | rfl | (simp; done) | (simp [*]; done), by repeat (first | exact Drawn0.refl _ | apply Drawn0.step)⟩

/-! ### thermionlaw07_GaugeChances: function 8 -/
mutual
def thermionlaw07_GaugeChances.j0 : Nat → Int → Int → Int → Int → Int → Int → Bool → Option (Bool)
  | 0, _, _, _, _, _, _, _ => none
  | k + 1, x9, x10, x11, x12, x13, x14, x60 => if x60 = true then (some false) else (if x12 < x11 then ((gauge_Chance.f x9 (wrap64 (x9 - x10)) x11 (wrap64 ((wrap64 (x11 - x12)) - 1))).bind fun bt183 => (if bt183.2.2 = 0 then (if bt183.2.1 = x14 then (thermionlaw07_GaugeChances.j1 k x9 x10 x11 x12 x13 x14 bt183.1) else (some false)) else (some false))) else (thermionlaw07_GaugeChances.j1 k x9 x10 x11 x12 x13 x14 0))
def thermionlaw07_GaugeChances.j1 : Nat → Int → Int → Int → Int → Int → Int → Int → Option (Bool)
  | 0, _, _, _, _, _, _, _ => none
  | k + 1, x9, x10, x11, x12, x13, x14, x16 => if x10 < x9 then ((gauge_Chance.f x9 (wrap64 (x10 + 1)) x11 x12).bind fun bt186 => (if bt186.2.2 = 0 then (if bt186.2.1 = x14 then (if bt186.1 > x13 then (some false) else (thermionlaw07_GaugeChances.j2 k x9 x10 x11 x12 x13 x14 x16)) else (some false)) else (some false))) else (thermionlaw07_GaugeChances.j2 k x9 x10 x11 x12 x13 x14 x16)
def thermionlaw07_GaugeChances.j2 : Nat → Int → Int → Int → Int → Int → Int → Int → Option (Bool)
  | 0, _, _, _, _, _, _, _ => none
  | k + 1, x9, x10, x11, x12, x13, x14, x16 => if x12 ≤ x10 then ((gauge_Chance.f x9 x11 x10 x12).bind fun bt189 => (if bt189.2.2 = 0 then ((thermionlaw07_equal.f k x13 x14 bt189.1 bt189.2.1).bind fun t192 => (if t192 = true then (if (wrap64 (x13 + x16)) = x14 then ((thermionlaw07_awake.f k).bind fun t193 => (some t193)) else (some false)) else (some false))) else (some false))) else (if (wrap64 (x13 + x16)) = x14 then ((thermionlaw07_awake.f k).bind fun t194 => (some t194)) else (some false))
end
def thermionlaw07_GaugeChances.f (k : Nat) (a0 : Int) (a1 : Int) (a2 : Int) (a3 : Int) : Option (Bool) := (thermionkit_Mod.f a0 50).bind fun t176 => ((thermionkit_Mod.f a1 (wrap64 ((wrap64 (1 + t176)) + 1))).bind fun t177 => ((thermionkit_Mod.f a2 (wrap64 ((wrap64 (1 + t176)) + 1))).bind fun t178 => ((thermionkit_Mod.f a3 (wrap64 (t178 + 1))).bind fun t179 => ((gauge_Chance.f (wrap64 (1 + t176)) t177 t178 t179).bind fun bt180 => (if bt180.2.2 = 0 then (if bt180.1 < 0 then (thermionlaw07_GaugeChances.j0 k (wrap64 (1 + t176)) t177 t178 t179 bt180.1 bt180.2.1 true) else (thermionlaw07_GaugeChances.j0 k (wrap64 (1 + t176)) t177 t178 t179 bt180.1 bt180.2.1 (decide (bt180.1 > bt180.2.1)))) else (thermionlaw07_GaugeChances.j0 k (wrap64 (1 + t176)) t177 t178 t179 bt180.1 bt180.2.1 true))))))
theorem thermionlaw07_GaugeChances.mono_l : ∀ k, (∀ y0 y1 y2 y3 y4 y5 y6, LeO (thermionlaw07_GaugeChances.j0 k y0 y1 y2 y3 y4 y5 y6) (thermionlaw07_GaugeChances.j0 (k + 1) y0 y1 y2 y3 y4 y5 y6)) ∧ (∀ y0 y1 y2 y3 y4 y5 y6, LeO (thermionlaw07_GaugeChances.j1 k y0 y1 y2 y3 y4 y5 y6) (thermionlaw07_GaugeChances.j1 (k + 1) y0 y1 y2 y3 y4 y5 y6)) ∧ (∀ y0 y1 y2 y3 y4 y5 y6, LeO (thermionlaw07_GaugeChances.j2 k y0 y1 y2 y3 y4 y5 y6) (thermionlaw07_GaugeChances.j2 (k + 1) y0 y1 y2 y3 y4 y5 y6))
  | 0 => ⟨fun _ _ _ _ _ _ _ r h => by simp [thermionlaw07_GaugeChances.j0] at h, fun _ _ _ _ _ _ _ r h => by simp [thermionlaw07_GaugeChances.j1] at h, fun _ _ _ _ _ _ _ r h => by simp [thermionlaw07_GaugeChances.j2] at h⟩
  | k + 1 => by
    obtain ⟨ih0, ih1, ih2⟩ := thermionlaw07_GaugeChances.mono_l k
    refine ⟨?_, ?_, ?_⟩
    · intro y0 y1 y2 y3 y4 y5 y6
      unfold thermionlaw07_GaugeChances.j0
      repeat' first
      | (with_reducible exact ih0 _ _ _ _ _ _ _)
      | (with_reducible exact ih1 _ _ _ _ _ _ _)
      | (with_reducible exact ih2 _ _ _ _ _ _ _)
      | (with_reducible exact thermionlaw07_awake.mono _)
      | (with_reducible exact thermionlaw07_equal.mono _ _ _ _ _)
      | (with_reducible exact LeO.refl _)
      | (with_reducible exact LeO.none _)
      | (with_reducible refine LeO.ite ?_ ?_)
      | (with_reducible refine LeO.bind ?_ (fun _ => ?_))
      | exact ih0 _ _ _ _ _ _ _
      | exact ih1 _ _ _ _ _ _ _
      | exact ih2 _ _ _ _ _ _ _
      | exact thermionlaw07_awake.mono _
      | exact thermionlaw07_equal.mono _ _ _ _ _
      | exact LeO.none _
      | refine LeO.ite ?_ ?_
      | refine LeO.bind ?_ (fun _ => ?_)
    · intro y0 y1 y2 y3 y4 y5 y6
      unfold thermionlaw07_GaugeChances.j1
      repeat' first
      | (with_reducible exact ih0 _ _ _ _ _ _ _)
      | (with_reducible exact ih1 _ _ _ _ _ _ _)
      | (with_reducible exact ih2 _ _ _ _ _ _ _)
      | (with_reducible exact thermionlaw07_awake.mono _)
      | (with_reducible exact thermionlaw07_equal.mono _ _ _ _ _)
      | (with_reducible exact LeO.refl _)
      | (with_reducible exact LeO.none _)
      | (with_reducible refine LeO.ite ?_ ?_)
      | (with_reducible refine LeO.bind ?_ (fun _ => ?_))
      | exact ih0 _ _ _ _ _ _ _
      | exact ih1 _ _ _ _ _ _ _
      | exact ih2 _ _ _ _ _ _ _
      | exact thermionlaw07_awake.mono _
      | exact thermionlaw07_equal.mono _ _ _ _ _
      | exact LeO.none _
      | refine LeO.ite ?_ ?_
      | refine LeO.bind ?_ (fun _ => ?_)
    · intro y0 y1 y2 y3 y4 y5 y6
      unfold thermionlaw07_GaugeChances.j2
      repeat' first
      | (with_reducible exact ih0 _ _ _ _ _ _ _)
      | (with_reducible exact ih1 _ _ _ _ _ _ _)
      | (with_reducible exact ih2 _ _ _ _ _ _ _)
      | (with_reducible exact thermionlaw07_awake.mono _)
      | (with_reducible exact thermionlaw07_equal.mono _ _ _ _ _)
      | (with_reducible exact LeO.refl _)
      | (with_reducible exact LeO.none _)
      | (with_reducible refine LeO.ite ?_ ?_)
      | (with_reducible refine LeO.bind ?_ (fun _ => ?_))
      | exact ih0 _ _ _ _ _ _ _
      | exact ih1 _ _ _ _ _ _ _
      | exact ih2 _ _ _ _ _ _ _
      | exact thermionlaw07_awake.mono _
      | exact thermionlaw07_equal.mono _ _ _ _ _
      | exact LeO.none _
      | refine LeO.ite ?_ ?_
      | refine LeO.bind ?_ (fun _ => ?_)
theorem thermionlaw07_GaugeChances.mono : ∀ a0 a1 a2 a3 k, LeO (thermionlaw07_GaugeChances.f k a0 a1 a2 a3) (thermionlaw07_GaugeChances.f (k + 1) a0 a1 a2 a3) := by
  intro a0 a1 a2 a3 k
  obtain ⟨ih0, ih1, ih2⟩ := thermionlaw07_GaugeChances.mono_l k
  unfold thermionlaw07_GaugeChances.f
  repeat' first
      | (with_reducible exact ih0 _ _ _ _ _ _ _)
      | (with_reducible exact ih1 _ _ _ _ _ _ _)
      | (with_reducible exact ih2 _ _ _ _ _ _ _)
      | (with_reducible exact thermionlaw07_awake.mono _)
      | (with_reducible exact thermionlaw07_equal.mono _ _ _ _ _)
      | (with_reducible exact LeO.refl _)
      | (with_reducible exact LeO.none _)
      | (with_reducible refine LeO.ite ?_ ?_)
      | (with_reducible refine LeO.bind ?_ (fun _ => ?_))
      | exact ih0 _ _ _ _ _ _ _
      | exact ih1 _ _ _ _ _ _ _
      | exact ih2 _ _ _ _ _ _ _
      | exact thermionlaw07_awake.mono _
      | exact thermionlaw07_equal.mono _ _ _ _ _
      | exact LeO.none _
      | refine LeO.ite ?_ ?_
      | refine LeO.bind ?_ (fun _ => ?_)
set_option maxHeartbeats 8000000 in
set_option maxRecDepth 100000 in
theorem thermionlaw07_GaugeChances.calls (k : Nat) (a0 : Int) (a1 : Int) (a2 : Int) (a3 : Int) (r : Bool) (w : World) (h : thermionlaw07_GaugeChances.f k a0 a1 a2 a3 = some r) :
    Calls Try.prog 8 #[.int .i64 a0, .int .i64 a1, .int .i64 a2, .int .i64 a3] w fun e w' => e = .returned (.bool r) ∧ Below w.heap.size w w' := by
  have HB := Aside0.mk (Below.refl w.heap.size w)
  have H : ((thermionkit_Mod.f a0 50).bind fun t176 => ((thermionkit_Mod.f a1 (wrap64 ((wrap64 (1 + t176)) + 1))).bind fun t177 => ((thermionkit_Mod.f a2 (wrap64 ((wrap64 (1 + t176)) + 1))).bind fun t178 => ((thermionkit_Mod.f a3 (wrap64 (t178 + 1))).bind fun t179 => ((gauge_Chance.f (wrap64 (1 + t176)) t177 t178 t179).bind fun bt180 => (if bt180.2.2 = 0 then (if bt180.1 < 0 then (thermionlaw07_GaugeChances.j0 k (wrap64 (1 + t176)) t177 t178 t179 bt180.1 bt180.2.1 true) else (thermionlaw07_GaugeChances.j0 k (wrap64 (1 + t176)) t177 t178 t179 bt180.1 bt180.2.1 (decide (bt180.1 > bt180.2.1)))) else (thermionlaw07_GaugeChances.j0 k (wrap64 (1 + t176)) t177 t178 t179 bt180.1 bt180.2.1 true))))))) = some r := h
  clear h
  replace H := Option.bind_eq_some_iff.mp H
  obtain ⟨t176, A50, H⟩ := H
  replace H : ((thermionkit_Mod.f a1 (wrap64 ((wrap64 (1 + t176)) + 1))).bind fun t177 => ((thermionkit_Mod.f a2 (wrap64 ((wrap64 (1 + t176)) + 1))).bind fun t178 => ((thermionkit_Mod.f a3 (wrap64 (t178 + 1))).bind fun t179 => ((gauge_Chance.f (wrap64 (1 + t176)) t177 t178 t179).bind fun bt180 => (if bt180.2.2 = 0 then (if bt180.1 < 0 then (thermionlaw07_GaugeChances.j0 k (wrap64 (1 + t176)) t177 t178 t179 bt180.1 bt180.2.1 true) else (thermionlaw07_GaugeChances.j0 k (wrap64 (1 + t176)) t177 t178 t179 bt180.1 bt180.2.1 (decide (bt180.1 > bt180.2.1)))) else (thermionlaw07_GaugeChances.j0 k (wrap64 (1 + t176)) t177 t178 t179 bt180.1 bt180.2.1 true)))))) = some r := H
  have A5 := Aside0.mk A50
  clear A50
  replace H := Option.bind_eq_some_iff.mp H
  obtain ⟨t177, A60, H⟩ := H
  replace H : ((thermionkit_Mod.f a2 (wrap64 ((wrap64 (1 + t176)) + 1))).bind fun t178 => ((thermionkit_Mod.f a3 (wrap64 (t178 + 1))).bind fun t179 => ((gauge_Chance.f (wrap64 (1 + t176)) t177 t178 t179).bind fun bt180 => (if bt180.2.2 = 0 then (if bt180.1 < 0 then (thermionlaw07_GaugeChances.j0 k (wrap64 (1 + t176)) t177 t178 t179 bt180.1 bt180.2.1 true) else (thermionlaw07_GaugeChances.j0 k (wrap64 (1 + t176)) t177 t178 t179 bt180.1 bt180.2.1 (decide (bt180.1 > bt180.2.1)))) else (thermionlaw07_GaugeChances.j0 k (wrap64 (1 + t176)) t177 t178 t179 bt180.1 bt180.2.1 true))))) = some r := H
  have A6 := Aside0.mk A60
  clear A60
  replace H := Option.bind_eq_some_iff.mp H
  obtain ⟨t178, A70, H⟩ := H
  replace H : ((thermionkit_Mod.f a3 (wrap64 (t178 + 1))).bind fun t179 => ((gauge_Chance.f (wrap64 (1 + t176)) t177 t178 t179).bind fun bt180 => (if bt180.2.2 = 0 then (if bt180.1 < 0 then (thermionlaw07_GaugeChances.j0 k (wrap64 (1 + t176)) t177 t178 t179 bt180.1 bt180.2.1 true) else (thermionlaw07_GaugeChances.j0 k (wrap64 (1 + t176)) t177 t178 t179 bt180.1 bt180.2.1 (decide (bt180.1 > bt180.2.1)))) else (thermionlaw07_GaugeChances.j0 k (wrap64 (1 + t176)) t177 t178 t179 bt180.1 bt180.2.1 true)))) = some r := H
  have A7 := Aside0.mk A70
  clear A70
  replace H := Option.bind_eq_some_iff.mp H
  obtain ⟨t179, A80, H⟩ := H
  replace H : ((gauge_Chance.f (wrap64 (1 + t176)) t177 t178 t179).bind fun bt180 => (if bt180.2.2 = 0 then (if bt180.1 < 0 then (thermionlaw07_GaugeChances.j0 k (wrap64 (1 + t176)) t177 t178 t179 bt180.1 bt180.2.1 true) else (thermionlaw07_GaugeChances.j0 k (wrap64 (1 + t176)) t177 t178 t179 bt180.1 bt180.2.1 (decide (bt180.1 > bt180.2.1)))) else (thermionlaw07_GaugeChances.j0 k (wrap64 (1 + t176)) t177 t178 t179 bt180.1 bt180.2.1 true))) = some r := H
  have A8 := Aside0.mk A80
  clear A80
  replace H := Option.bind_eq_some_iff.mp H
  obtain ⟨⟨t180, t181, t182⟩, A90, H⟩ := H
  replace H : (if t182 = 0 then (if t180 < 0 then (thermionlaw07_GaugeChances.j0 k (wrap64 (1 + t176)) t177 t178 t179 t180 t181 true) else (thermionlaw07_GaugeChances.j0 k (wrap64 (1 + t176)) t177 t178 t179 t180 t181 (decide (t180 > t181)))) else (thermionlaw07_GaugeChances.j0 k (wrap64 (1 + t176)) t177 t178 t179 t180 t181 true)) = some r := H
  have A9 := Aside0.mk A90
  clear A90
  have HC10 := Aside0.mk H
  clear H
  go_enter Try.func8, Try.ntmps8
  go_upto_region 6 with (first | ((with_reducible refine gate_callee (f := 17) rfl ?_); refine goesL_ (some 27) rfl rfl Try.func17 (by kernel_rfl) rfl #[.int .i64 a0, .int .i64 50] rfl (by (try simp only [List.map_toArray, List.map_cons, List.map_nil]); first | done | rfl | (simp only [List.length_drop, List.length_take]; rfl)) ?_; (with_reducible refine (thermionkit_Mod.calls a0 50 t176 _ A5.out).mono ?_); rintro e w' ⟨rfl, ⟨nd, rfl⟩⟩; refine ⟨_, rfl, ?_⟩) | ((with_reducible refine gate_callee (f := 17) rfl ?_); refine goesL_ (some 32) rfl rfl Try.func17 (by kernel_rfl) rfl #[.int .i64 a1, .int .i64 (wrap64 ((wrap64 (1 + t176)) + 1))] rfl (by (try simp only [List.map_toArray, List.map_cons, List.map_nil]); first | done | rfl | (simp only [List.length_drop, List.length_take]; rfl)) ?_; (with_reducible refine (thermionkit_Mod.calls a1 (wrap64 ((wrap64 (1 + t176)) + 1)) t177 _ A6.out).mono ?_); rintro e w' ⟨rfl, ⟨nd, rfl⟩⟩; refine ⟨_, rfl, ?_⟩) | ((with_reducible refine gate_callee (f := 17) rfl ?_); refine goesL_ (some 36) rfl rfl Try.func17 (by kernel_rfl) rfl #[.int .i64 a2, .int .i64 (wrap64 ((wrap64 (1 + t176)) + 1))] rfl (by (try simp only [List.map_toArray, List.map_cons, List.map_nil]); first | done | rfl | (simp only [List.length_drop, List.length_take]; rfl)) ?_; (with_reducible refine (thermionkit_Mod.calls a2 (wrap64 ((wrap64 (1 + t176)) + 1)) t178 _ A7.out).mono ?_); rintro e w' ⟨rfl, ⟨nd, rfl⟩⟩; refine ⟨_, rfl, ?_⟩) | ((with_reducible refine gate_callee (f := 17) rfl ?_); refine goesL_ (some 40) rfl rfl Try.func17 (by kernel_rfl) rfl #[.int .i64 a3, .int .i64 (wrap64 (t178 + 1))] rfl (by (try simp only [List.map_toArray, List.map_cons, List.map_nil]); first | done | rfl | (simp only [List.length_drop, List.length_take]; rfl)) ?_; (with_reducible refine (thermionkit_Mod.calls a3 (wrap64 (t178 + 1)) t179 _ A8.out).mono ?_); rintro e w' ⟨rfl, ⟨nd, rfl⟩⟩; refine ⟨_, rfl, ?_⟩) | ((with_reducible refine gate_callee (f := 27) rfl ?_); refine goesL_ (some 46) rfl rfl Try.func27 (by kernel_rfl) rfl #[.int .i64 (wrap64 (1 + t176)), .int .i64 t177, .int .i64 t178, .int .i64 t179] rfl (by (try simp only [List.map_toArray, List.map_cons, List.map_nil]); first | done | rfl | (simp only [List.length_drop, List.length_take]; rfl)) ?_; (with_reducible refine (gauge_Chance.calls (wrap64 (1 + t176)) t177 t178 t179 t180 t181 t182 _ A9.out).mono ?_); rintro e w11 ⟨rfl, hb⟩; refine ⟨_, rfl, ?_⟩; have n0_ := Aside0.mk (below_step (by repeat (first | (with_reducible first | exact HB.out | apply below_alloc | apply pw_below_drewN | apply below_drew1) | exact HB.out)) hb); clear HB; have HB := n0_; clear n0_; (try clear hb); (try clear hb2); (try clear hk); (try clear hi)))
  (try simp only [Act.put, List.setIfInBounds_toArray, List.set_cons_zero, List.set_cons_succ])
  go_cut [60] (fun v60 wc => ∃ (kq : Nat) (x60_9 : Bool), v60 = .bool x60_9 ∧ Aside0 (thermionlaw07_GaugeChances.j0 kq (wrap64 (1 + t176)) t177 t178 t179 t180 t181 x60_9 = some r) ∧ Aside0 (kq ≤ k) ∧ Aside0 (Below w.heap.size w wc))
  case first =>
    have H := HC10.out
    clear HC10
    by_cases c12 : t182 = 0
    · rw [if_pos c12] at H
      have c12b0 : (t182 == 0) = true := beq_iff_eq.mpr c12
      have c12b1 : (t182 != 0) = false := bne_eq_false_iff_eq.mpr c12
      clear c12
      (first | rw [c12b0] | (simp only [i64_w, i32_w]; rw [c12b0]) | skip)
      by_cases c13 : t180 < 0
      · rw [if_pos c13] at H
        have c13b0 : decide (t180 < 0) = true := decide_eq_true c13
        clear c13
        have H' := Aside0.mk H
        clear H
        go_wp2
        go_meet
        case rel => exact ⟨_, (true), (by first | rfl | (simp; done) | (simp [*]; done)), H', ⟨by first | omega | exact Nat.le_refl _⟩, ⟨by repeat (first | (with_reducible first | exact HB.out | apply below_alloc | apply pw_below_drewN | apply below_drew1) | exact HB.out)⟩⟩
      · rw [if_neg c13] at H
        have c13b0 : decide (t180 < 0) = false := decide_eq_false c13
        clear c13
        have H' := Aside0.mk H
        clear H
        go_wp2
        go_meet
        case rel => exact ⟨_, (decide (t180 > t181)), (by first | rfl | (simp; done) | (simp [*]; done)), H', ⟨by first | omega | exact Nat.le_refl _⟩, ⟨by repeat (first | (with_reducible first | exact HB.out | apply below_alloc | apply pw_below_drewN | apply below_drew1) | exact HB.out)⟩⟩
    · rw [if_neg c12] at H
      have c12b0 : (t182 == 0) = false := beq_eq_false_iff_ne.mpr c12
      have c12b1 : (t182 != 0) = true := bne_iff_ne.mpr c12
      (first | rw [c12b0] | (simp only [i64_w, i32_w]; rw [c12b0]) | skip)
      have H' := Aside0.mk H
      clear H
      go_wp2
      go_meet
      case rel => exact ⟨_, (true), (by first | rfl | (simp; done) | (simp [*]; done)), H', ⟨by first | omega | exact Nat.le_refl _⟩, ⟨by repeat (first | (with_reducible first | exact HB.out | apply below_alloc | apply pw_below_drewN | apply below_drew1) | exact HB.out)⟩⟩
  case rest =>
    clear HC10
    try clear c1
    try clear c2
    try clear p2
    try clear p6
    try clear c8
    try clear c12
    try clear c12b0
    try clear c12b1
    try clear c13
    try clear c13b0
    obtain ⟨kq, x60_9, rfl, HA, HJ9, HB⟩ := hcut
    cases kq with
    | zero => exact absurd HA.out (by simp [thermionlaw07_GaugeChances.j0])
    | succ kj9 =>
      have H := HA.out
      clear HA
      simp only [thermionlaw07_GaugeChances.j0] at H
      by_cases c14 : x60_9 = true
      · subst c14
        have H1 : (some false) = some r := by rw [if_pos rfl] at H; exact H
        clear H
        have H := H1
        clear H1
        obtain rfl := Option.some.inj H
        go_wp2
        go_ret
        exact ⟨by first | rfl | (simp [errW_none, errW_some] <;> rfl) | (simp [*, errW_none, errW_some] <;> rfl), by repeat (first | (with_reducible first | exact HB.out | apply below_alloc | apply pw_below_drewN | apply below_drew1) | exact HB.out)⟩
      · replace c14 := Bool.eq_false_iff.mpr c14
        subst c14
        have H1 : (if t179 < t178 then ((gauge_Chance.f (wrap64 (1 + t176)) (wrap64 ((wrap64 (1 + t176)) - t177)) t178 (wrap64 ((wrap64 (t178 - t179)) - 1))).bind fun bt183 => (if bt183.2.2 = 0 then (if bt183.2.1 = t181 then (thermionlaw07_GaugeChances.j1 kj9 (wrap64 (1 + t176)) t177 t178 t179 t180 t181 bt183.1) else (some false)) else (some false))) else (thermionlaw07_GaugeChances.j1 kj9 (wrap64 (1 + t176)) t177 t178 t179 t180 t181 0)) = some r := by rw [if_neg (show ¬ (false = true) by decide)] at H; exact H
        clear H
        have H := H1
        clear H1
        have HC15 := Aside0.mk H
        clear H
        go_upto_if 63 with (fail)
        go_cut [16] (fun v16 wc => ∃ (kq : Nat) (x16_14 : Int), v16 = .int .i64 x16_14 ∧ Aside0 (thermionlaw07_GaugeChances.j1 kq (wrap64 (1 + t176)) t177 t178 t179 t180 t181 x16_14 = some r) ∧ Aside0 (kq ≤ kj9) ∧ Aside0 (Below w.heap.size w wc))
        case first =>
          have H := HC15.out
          clear HC15
          by_cases c16 : t179 < t178
          · rw [if_pos c16] at H
            have c16b0 : decide (t179 < t178) = true := decide_eq_true c16
            clear c16
            (first | rw [c16b0] | (simp only [i64_w, i32_w]; rw [c16b0]) | skip)
            replace H := Option.bind_eq_some_iff.mp H
            obtain ⟨⟨t183, t184, t185⟩, A170, H⟩ := H
            replace H : (if t185 = 0 then (if t184 = t181 then (thermionlaw07_GaugeChances.j1 kj9 (wrap64 (1 + t176)) t177 t178 t179 t180 t181 t183) else (some false)) else (some false)) = some r := H
            have A17 := Aside0.mk A170
            clear A170
            by_cases c18 : t185 = 0
            · rw [if_pos c18] at H
              have c18b0 : (t185 == 0) = true := beq_iff_eq.mpr c18
              have c18b1 : (t185 != 0) = false := bne_eq_false_iff_eq.mpr c18
              clear c18
              by_cases c19 : t184 = t181
              · rw [if_pos c19] at H
                have c19b0 : (t184 == t181) = true := beq_iff_eq.mpr c19
                have c19b1 : (t184 != t181) = false := bne_eq_false_iff_eq.mpr c19
                clear c19
                have H' := Aside0.mk H
                clear H
                go_wp2_with (first | ((with_reducible refine gate_callee (f := 27) rfl ?_); refine goesL_ (some 74) rfl rfl Try.func27 (by kernel_rfl) rfl #[.int .i64 (wrap64 (1 + t176)), .int .i64 (wrap64 ((wrap64 (1 + t176)) - t177)), .int .i64 t178, .int .i64 (wrap64 ((wrap64 (t178 - t179)) - 1))] rfl (by (try simp only [List.map_toArray, List.map_cons, List.map_nil]); first | done | rfl | (simp only [List.length_drop, List.length_take]; rfl)) ?_; (with_reducible refine (gauge_Chance.calls (wrap64 (1 + t176)) (wrap64 ((wrap64 (1 + t176)) - t177)) t178 (wrap64 ((wrap64 (t178 - t179)) - 1)) t183 t184 t185 _ A17.out).mono ?_); rintro e w20 ⟨rfl, hb⟩; refine ⟨_, rfl, ?_⟩; have n0_ := Aside0.mk (below_step (by repeat (first | (with_reducible first | exact HB.out | apply below_alloc | apply pw_below_drewN | apply below_drew1) | exact HB.out)) hb); clear HB; have HB := n0_; clear n0_; (try clear hb); (try clear hb2); (try clear hk); (try clear hi)))
                go_meet
                case rel => exact ⟨_, (t183), (by first | rfl | (simp; done) | (simp [*]; done)), H', ⟨by have := HJ9.out; first | omega | exact Nat.le_refl _⟩, ⟨by repeat (first | (with_reducible first | exact HB.out | apply below_alloc | apply pw_below_drewN | apply below_drew1) | exact HB.out)⟩⟩
              · rw [if_neg c19] at H
                have c19b0 : (t184 == t181) = false := beq_eq_false_iff_ne.mpr c19
                have c19b1 : (t184 != t181) = true := bne_iff_ne.mpr c19
                obtain rfl := Option.some.inj H
                go_wp2_with (first | ((with_reducible refine gate_callee (f := 27) rfl ?_); refine goesL_ (some 74) rfl rfl Try.func27 (by kernel_rfl) rfl #[.int .i64 (wrap64 (1 + t176)), .int .i64 (wrap64 ((wrap64 (1 + t176)) - t177)), .int .i64 t178, .int .i64 (wrap64 ((wrap64 (t178 - t179)) - 1))] rfl (by (try simp only [List.map_toArray, List.map_cons, List.map_nil]); first | done | rfl | (simp only [List.length_drop, List.length_take]; rfl)) ?_; (with_reducible refine (gauge_Chance.calls (wrap64 (1 + t176)) (wrap64 ((wrap64 (1 + t176)) - t177)) t178 (wrap64 ((wrap64 (t178 - t179)) - 1)) t183 t184 t185 _ A17.out).mono ?_); rintro e w21 ⟨rfl, hb⟩; refine ⟨_, rfl, ?_⟩; have n0_ := Aside0.mk (below_step (by repeat (first | (with_reducible first | exact HB.out | apply below_alloc | apply pw_below_drewN | apply below_drew1) | exact HB.out)) hb); clear HB; have HB := n0_; clear n0_; (try clear hb); (try clear hb2); (try clear hk); (try clear hi)))
                go_ret
                exact ⟨by first | rfl | (simp [errW_none, errW_some] <;> rfl) | (simp [*, errW_none, errW_some] <;> rfl), by repeat (first | (with_reducible first | exact HB.out | apply below_alloc | apply pw_below_drewN | apply below_drew1) | exact HB.out)⟩
            · rw [if_neg c18] at H
              have c18b0 : (t185 == 0) = false := beq_eq_false_iff_ne.mpr c18
              have c18b1 : (t185 != 0) = true := bne_iff_ne.mpr c18
              obtain rfl := Option.some.inj H
              go_wp2_with (first | ((with_reducible refine gate_callee (f := 27) rfl ?_); refine goesL_ (some 74) rfl rfl Try.func27 (by kernel_rfl) rfl #[.int .i64 (wrap64 (1 + t176)), .int .i64 (wrap64 ((wrap64 (1 + t176)) - t177)), .int .i64 t178, .int .i64 (wrap64 ((wrap64 (t178 - t179)) - 1))] rfl (by (try simp only [List.map_toArray, List.map_cons, List.map_nil]); first | done | rfl | (simp only [List.length_drop, List.length_take]; rfl)) ?_; (with_reducible refine (gauge_Chance.calls (wrap64 (1 + t176)) (wrap64 ((wrap64 (1 + t176)) - t177)) t178 (wrap64 ((wrap64 (t178 - t179)) - 1)) t183 t184 t185 _ A17.out).mono ?_); rintro e w22 ⟨rfl, hb⟩; refine ⟨_, rfl, ?_⟩; have n0_ := Aside0.mk (below_step (by repeat (first | (with_reducible first | exact HB.out | apply below_alloc | apply pw_below_drewN | apply below_drew1) | exact HB.out)) hb); clear HB; have HB := n0_; clear n0_; (try clear hb); (try clear hb2); (try clear hk); (try clear hi)))
              go_ret
              exact ⟨by first | rfl | (simp [errW_none, errW_some] <;> rfl) | (simp [*, errW_none, errW_some] <;> rfl), by repeat (first | (with_reducible first | exact HB.out | apply below_alloc | apply pw_below_drewN | apply below_drew1) | exact HB.out)⟩
          · rw [if_neg c16] at H
            have c16b0 : decide (t179 < t178) = false := decide_eq_false c16
            clear c16
            (first | rw [c16b0] | (simp only [i64_w, i32_w]; rw [c16b0]) | skip)
            have H' := Aside0.mk H
            clear H
            go_wp2
            go_meet
            case rel => exact ⟨_, (0), (by first | rfl | (simp; done) | (simp [*]; done)), H', ⟨by have := HJ9.out; first | omega | exact Nat.le_refl _⟩, ⟨by repeat (first | (with_reducible first | exact HB.out | apply below_alloc | apply pw_below_drewN | apply below_drew1) | exact HB.out)⟩⟩
        case rest =>
          clear HC15
          try clear c1
          try clear c2
          try clear p2
          try clear p6
          try clear c8
          try clear c12
          try clear c12b0
          try clear c12b1
          try clear c13
          try clear c13b0
          try clear c14
          try clear c16
          try clear c16b0
          try clear c17
          try clear c18
          try clear c18b0
          try clear c18b1
          try clear c19
          try clear c19b0
          try clear c19b1
          try clear p2
          try clear p6
          obtain ⟨kq, x16_14, rfl, HA, HJ14, HB⟩ := hcut
          cases kq with
          | zero => exact absurd HA.out (by simp [thermionlaw07_GaugeChances.j1])
          | succ kj14 =>
            have H := HA.out
            clear HA
            simp only [thermionlaw07_GaugeChances.j1] at H
            have HC23 := Aside0.mk H
            clear H
            go_upto_if 88 with (fail)
            go_cut [] (fun wc => ∃ (kq : Nat), Aside0 (thermionlaw07_GaugeChances.j2 kq (wrap64 (1 + t176)) t177 t178 t179 t180 t181 x16_14 = some r) ∧ Aside0 (kq ≤ kj14) ∧ Aside0 (Below w.heap.size w wc))
            case first =>
              have H := HC23.out
              clear HC23
              by_cases c24 : t177 < (wrap64 (1 + t176))
              · rw [if_pos c24] at H
                have c24b0 : decide (t177 < (wrap64 (1 + t176))) = true := decide_eq_true c24
                clear c24
                (first | rw [c24b0] | (simp only [i64_w, i32_w]; rw [c24b0]) | skip)
                replace H := Option.bind_eq_some_iff.mp H
                obtain ⟨⟨t186, t187, t188⟩, A250, H⟩ := H
                replace H : (if t188 = 0 then (if t187 = t181 then (if t186 > t180 then (some false) else (thermionlaw07_GaugeChances.j2 kj14 (wrap64 (1 + t176)) t177 t178 t179 t180 t181 x16_14)) else (some false)) else (some false)) = some r := H
                have A25 := Aside0.mk A250
                clear A250
                by_cases c26 : t188 = 0
                · rw [if_pos c26] at H
                  have c26b0 : (t188 == 0) = true := beq_iff_eq.mpr c26
                  have c26b1 : (t188 != 0) = false := bne_eq_false_iff_eq.mpr c26
                  clear c26
                  by_cases c27 : t187 = t181
                  · rw [if_pos c27] at H
                    have c27b0 : (t187 == t181) = true := beq_iff_eq.mpr c27
                    have c27b1 : (t187 != t181) = false := bne_eq_false_iff_eq.mpr c27
                    clear c27
                    by_cases c28 : t186 > t180
                    · rw [if_pos c28] at H
                      have c28b0 : decide (t180 < t186) = true := decide_eq_true c28
                      clear c28
                      obtain rfl := Option.some.inj H
                      go_wp2_with (first | ((with_reducible refine gate_callee (f := 27) rfl ?_); refine goesL_ (some 95) rfl rfl Try.func27 (by kernel_rfl) rfl #[.int .i64 (wrap64 (1 + t176)), .int .i64 (wrap64 (t177 + 1)), .int .i64 t178, .int .i64 t179] rfl (by (try simp only [List.map_toArray, List.map_cons, List.map_nil]); first | done | rfl | (simp only [List.length_drop, List.length_take]; rfl)) ?_; (with_reducible refine (gauge_Chance.calls (wrap64 (1 + t176)) (wrap64 (t177 + 1)) t178 t179 t186 t187 t188 _ A25.out).mono ?_); rintro e w29 ⟨rfl, hb⟩; refine ⟨_, rfl, ?_⟩; have n0_ := Aside0.mk (below_step (by repeat (first | (with_reducible first | exact HB.out | apply below_alloc | apply pw_below_drewN | apply below_drew1) | exact HB.out)) hb); clear HB; have HB := n0_; clear n0_; (try clear hb); (try clear hb2); (try clear hk); (try clear hi)))
                      go_ret
                      exact ⟨by first | rfl | (simp [errW_none, errW_some] <;> rfl) | (simp [*, errW_none, errW_some] <;> rfl), by repeat (first | (with_reducible first | exact HB.out | apply below_alloc | apply pw_below_drewN | apply below_drew1) | exact HB.out)⟩
                    · rw [if_neg c28] at H
                      have c28b0 : decide (t180 < t186) = false := decide_eq_false c28
                      clear c28
                      have H' := Aside0.mk H
                      clear H
                      go_wp2_with (first | ((with_reducible refine gate_callee (f := 27) rfl ?_); refine goesL_ (some 95) rfl rfl Try.func27 (by kernel_rfl) rfl #[.int .i64 (wrap64 (1 + t176)), .int .i64 (wrap64 (t177 + 1)), .int .i64 t178, .int .i64 t179] rfl (by (try simp only [List.map_toArray, List.map_cons, List.map_nil]); first | done | rfl | (simp only [List.length_drop, List.length_take]; rfl)) ?_; (with_reducible refine (gauge_Chance.calls (wrap64 (1 + t176)) (wrap64 (t177 + 1)) t178 t179 t186 t187 t188 _ A25.out).mono ?_); rintro e w30 ⟨rfl, hb⟩; refine ⟨_, rfl, ?_⟩; have n0_ := Aside0.mk (below_step (by repeat (first | (with_reducible first | exact HB.out | apply below_alloc | apply pw_below_drewN | apply below_drew1) | exact HB.out)) hb); clear HB; have HB := n0_; clear n0_; (try clear hb); (try clear hb2); (try clear hk); (try clear hi)))
                      go_meet
                      case rel => exact ⟨_, H', ⟨by have := HJ9.out; have := HJ14.out; first | omega | exact Nat.le_refl _⟩, ⟨by repeat (first | (with_reducible first | exact HB.out | apply below_alloc | apply pw_below_drewN | apply below_drew1) | exact HB.out)⟩⟩
                  · rw [if_neg c27] at H
                    have c27b0 : (t187 == t181) = false := beq_eq_false_iff_ne.mpr c27
                    have c27b1 : (t187 != t181) = true := bne_iff_ne.mpr c27
                    obtain rfl := Option.some.inj H
                    go_wp2_with (first | ((with_reducible refine gate_callee (f := 27) rfl ?_); refine goesL_ (some 95) rfl rfl Try.func27 (by kernel_rfl) rfl #[.int .i64 (wrap64 (1 + t176)), .int .i64 (wrap64 (t177 + 1)), .int .i64 t178, .int .i64 t179] rfl (by (try simp only [List.map_toArray, List.map_cons, List.map_nil]); first | done | rfl | (simp only [List.length_drop, List.length_take]; rfl)) ?_; (with_reducible refine (gauge_Chance.calls (wrap64 (1 + t176)) (wrap64 (t177 + 1)) t178 t179 t186 t187 t188 _ A25.out).mono ?_); rintro e w31 ⟨rfl, hb⟩; refine ⟨_, rfl, ?_⟩; have n0_ := Aside0.mk (below_step (by repeat (first | (with_reducible first | exact HB.out | apply below_alloc | apply pw_below_drewN | apply below_drew1) | exact HB.out)) hb); clear HB; have HB := n0_; clear n0_; (try clear hb); (try clear hb2); (try clear hk); (try clear hi)))
                    go_ret
                    exact ⟨by first | rfl | (simp [errW_none, errW_some] <;> rfl) | (simp [*, errW_none, errW_some] <;> rfl), by repeat (first | (with_reducible first | exact HB.out | apply below_alloc | apply pw_below_drewN | apply below_drew1) | exact HB.out)⟩
                · rw [if_neg c26] at H
                  have c26b0 : (t188 == 0) = false := beq_eq_false_iff_ne.mpr c26
                  have c26b1 : (t188 != 0) = true := bne_iff_ne.mpr c26
                  obtain rfl := Option.some.inj H
                  go_wp2_with (first | ((with_reducible refine gate_callee (f := 27) rfl ?_); refine goesL_ (some 95) rfl rfl Try.func27 (by kernel_rfl) rfl #[.int .i64 (wrap64 (1 + t176)), .int .i64 (wrap64 (t177 + 1)), .int .i64 t178, .int .i64 t179] rfl (by (try simp only [List.map_toArray, List.map_cons, List.map_nil]); first | done | rfl | (simp only [List.length_drop, List.length_take]; rfl)) ?_; (with_reducible refine (gauge_Chance.calls (wrap64 (1 + t176)) (wrap64 (t177 + 1)) t178 t179 t186 t187 t188 _ A25.out).mono ?_); rintro e w32 ⟨rfl, hb⟩; refine ⟨_, rfl, ?_⟩; have n0_ := Aside0.mk (below_step (by repeat (first | (with_reducible first | exact HB.out | apply below_alloc | apply pw_below_drewN | apply below_drew1) | exact HB.out)) hb); clear HB; have HB := n0_; clear n0_; (try clear hb); (try clear hb2); (try clear hk); (try clear hi)))
                  go_ret
                  exact ⟨by first | rfl | (simp [errW_none, errW_some] <;> rfl) | (simp [*, errW_none, errW_some] <;> rfl), by repeat (first | (with_reducible first | exact HB.out | apply below_alloc | apply pw_below_drewN | apply below_drew1) | exact HB.out)⟩
              · rw [if_neg c24] at H
                have c24b0 : decide (t177 < (wrap64 (1 + t176))) = false := decide_eq_false c24
                clear c24
                (first | rw [c24b0] | (simp only [i64_w, i32_w]; rw [c24b0]) | skip)
                have H' := Aside0.mk H
                clear H
                go_wp2
                go_meet
                case rel => exact ⟨_, H', ⟨by have := HJ9.out; have := HJ14.out; first | omega | exact Nat.le_refl _⟩, ⟨by repeat (first | (with_reducible first | exact HB.out | apply below_alloc | apply pw_below_drewN | apply below_drew1) | exact HB.out)⟩⟩
            case rest =>
              clear HC23
              try clear c1
              try clear c2
              try clear p2
              try clear p6
              try clear c8
              try clear c12
              try clear c12b0
              try clear c12b1
              try clear c13
              try clear c13b0
              try clear c14
              try clear c16
              try clear c16b0
              try clear c17
              try clear c18
              try clear c18b0
              try clear c18b1
              try clear c19
              try clear c19b0
              try clear c19b1
              try clear c24
              try clear c24b0
              try clear c26
              try clear c26b0
              try clear c26b1
              try clear c27
              try clear c27b0
              try clear c27b1
              try clear c28
              try clear c28b0
              try clear p2
              try clear p6
              obtain ⟨kq, HA, HJ22, HB⟩ := hcut
              cases kq with
              | zero => exact absurd HA.out (by simp [thermionlaw07_GaugeChances.j2])
              | succ kj22 =>
                have H := HA.out
                clear HA
                simp only [thermionlaw07_GaugeChances.j2] at H
                by_cases c33 : t179 ≤ t177
                · rw [if_pos c33] at H
                  have c33b0 : decide (t179 ≤ t177) = true := decide_eq_true c33
                  clear c33
                  replace H := Option.bind_eq_some_iff.mp H
                  obtain ⟨⟨t189, t190, t191⟩, A340, H⟩ := H
                  replace H : (if t191 = 0 then ((thermionlaw07_equal.f kj22 t180 t181 t189 t190).bind fun t192 => (if t192 = true then (if (wrap64 (t180 + x16_14)) = t181 then ((thermionlaw07_awake.f kj22).bind fun t193 => (some t193)) else (some false)) else (some false))) else (some false)) = some r := H
                  have A34 := Aside0.mk A340
                  clear A340
                  by_cases c35 : t191 = 0
                  · rw [if_pos c35] at H
                    have c35b0 : (t191 == 0) = true := beq_iff_eq.mpr c35
                    have c35b1 : (t191 != 0) = false := bne_eq_false_iff_eq.mpr c35
                    clear c35
                    replace H := Option.bind_eq_some_iff.mp H
                    obtain ⟨t192, A360, H⟩ := H
                    replace H : (if t192 = true then (if (wrap64 (t180 + x16_14)) = t181 then ((thermionlaw07_awake.f kj22).bind fun t193 => (some t193)) else (some false)) else (some false)) = some r := H
                    have A36 := Aside0.mk A360
                    clear A360
                    by_cases c37 : t192 = true
                    · subst c37
                      have H1 : (if (wrap64 (t180 + x16_14)) = t181 then ((thermionlaw07_awake.f kj22).bind fun t193 => (some t193)) else (some false)) = some r := by rw [if_pos rfl] at H; exact H
                      clear H
                      have H := H1
                      clear H1
                      by_cases c38 : (wrap64 (t180 + x16_14)) = t181
                      · rw [if_pos c38] at H
                        have c38b0 : ((wrap64 (t180 + x16_14)) == t181) = true := beq_iff_eq.mpr c38
                        have c38b1 : ((wrap64 (t180 + x16_14)) != t181) = false := bne_eq_false_iff_eq.mpr c38
                        clear c38
                        replace H := Option.bind_eq_some_iff.mp H
                        obtain ⟨t193, A390, H⟩ := H
                        replace H : (some t193) = some r := H
                        have A39 := Aside0.mk A390
                        clear A390
                        obtain rfl := Option.some.inj H
                        go_wp2_with (first | ((with_reducible refine gate_callee (f := 27) rfl ?_); refine goesL_ (some 119) rfl rfl Try.func27 (by kernel_rfl) rfl #[.int .i64 (wrap64 (1 + t176)), .int .i64 t178, .int .i64 t177, .int .i64 t179] rfl (by (try simp only [List.map_toArray, List.map_cons, List.map_nil]); first | done | rfl | (simp only [List.length_drop, List.length_take]; rfl)) ?_; (with_reducible refine (gauge_Chance.calls (wrap64 (1 + t176)) t178 t177 t179 t189 t190 t191 _ A34.out).mono ?_); rintro e w40 ⟨rfl, hb⟩; refine ⟨_, rfl, ?_⟩; have n0_ := Aside0.mk (below_step (by repeat (first | (with_reducible first | exact HB.out | apply below_alloc | apply pw_below_drewN | apply below_drew1) | exact HB.out)) hb); clear HB; have HB := n0_; clear n0_; (try clear hb); (try clear hb2); (try clear hk); (try clear hi)) | (go_at_call 31; (with_reducible refine (thermionlaw07_equal.calls kj22 t180 t181 t189 t190 true _ A36.out).mono ?_); rintro e w' ⟨rfl, ⟨nd, rfl⟩⟩) | (go_at_call 13; (with_reducible refine (thermionlaw07_awake.calls kj22  t193 _ A39.out).mono ?_); rintro e w41 ⟨rfl, hb⟩; have n0_ := Aside0.mk (below_step (by repeat (first | (with_reducible first | exact HB.out | apply below_alloc | apply pw_below_drewN | apply below_drew1) | exact HB.out)) hb); clear HB; have HB := n0_; clear n0_; (try clear hb); (try clear hb2); (try clear hk); (try clear hi)))
                        go_ret
                        exact ⟨by first | rfl | (simp [errW_none, errW_some] <;> rfl) | (simp [*, errW_none, errW_some] <;> rfl), by repeat (first | (with_reducible first | exact HB.out | apply below_alloc | apply pw_below_drewN | apply below_drew1) | exact HB.out)⟩
                      · rw [if_neg c38] at H
                        have c38b0 : ((wrap64 (t180 + x16_14)) == t181) = false := beq_eq_false_iff_ne.mpr c38
                        have c38b1 : ((wrap64 (t180 + x16_14)) != t181) = true := bne_iff_ne.mpr c38
                        obtain rfl := Option.some.inj H
                        go_wp2_with (first | ((with_reducible refine gate_callee (f := 27) rfl ?_); refine goesL_ (some 119) rfl rfl Try.func27 (by kernel_rfl) rfl #[.int .i64 (wrap64 (1 + t176)), .int .i64 t178, .int .i64 t177, .int .i64 t179] rfl (by (try simp only [List.map_toArray, List.map_cons, List.map_nil]); first | done | rfl | (simp only [List.length_drop, List.length_take]; rfl)) ?_; (with_reducible refine (gauge_Chance.calls (wrap64 (1 + t176)) t178 t177 t179 t189 t190 t191 _ A34.out).mono ?_); rintro e w42 ⟨rfl, hb⟩; refine ⟨_, rfl, ?_⟩; have n0_ := Aside0.mk (below_step (by repeat (first | (with_reducible first | exact HB.out | apply below_alloc | apply pw_below_drewN | apply below_drew1) | exact HB.out)) hb); clear HB; have HB := n0_; clear n0_; (try clear hb); (try clear hb2); (try clear hk); (try clear hi)) | (go_at_call 31; (with_reducible refine (thermionlaw07_equal.calls kj22 t180 t181 t189 t190 true _ A36.out).mono ?_); rintro e w' ⟨rfl, ⟨nd, rfl⟩⟩))
                        go_ret
                        exact ⟨by first | rfl | (simp [errW_none, errW_some] <;> rfl) | (simp [*, errW_none, errW_some] <;> rfl), by repeat (first | (with_reducible first | exact HB.out | apply below_alloc | apply pw_below_drewN | apply below_drew1) | exact HB.out)⟩
                    · replace c37 := Bool.eq_false_iff.mpr c37
                      subst c37
                      have H1 : (some false) = some r := by rw [if_neg (show ¬ (false = true) by decide)] at H; exact H
                      clear H
                      have H := H1
                      clear H1
                      obtain rfl := Option.some.inj H
                      go_wp2_with (first | ((with_reducible refine gate_callee (f := 27) rfl ?_); refine goesL_ (some 119) rfl rfl Try.func27 (by kernel_rfl) rfl #[.int .i64 (wrap64 (1 + t176)), .int .i64 t178, .int .i64 t177, .int .i64 t179] rfl (by (try simp only [List.map_toArray, List.map_cons, List.map_nil]); first | done | rfl | (simp only [List.length_drop, List.length_take]; rfl)) ?_; (with_reducible refine (gauge_Chance.calls (wrap64 (1 + t176)) t178 t177 t179 t189 t190 t191 _ A34.out).mono ?_); rintro e w43 ⟨rfl, hb⟩; refine ⟨_, rfl, ?_⟩; have n0_ := Aside0.mk (below_step (by repeat (first | (with_reducible first | exact HB.out | apply below_alloc | apply pw_below_drewN | apply below_drew1) | exact HB.out)) hb); clear HB; have HB := n0_; clear n0_; (try clear hb); (try clear hb2); (try clear hk); (try clear hi)) | (go_at_call 31; (with_reducible refine (thermionlaw07_equal.calls kj22 t180 t181 t189 t190 false _ A36.out).mono ?_); rintro e w' ⟨rfl, ⟨nd, rfl⟩⟩))
                      go_ret
                      exact ⟨by first | rfl | (simp [errW_none, errW_some] <;> rfl) | (simp [*, errW_none, errW_some] <;> rfl), by repeat (first | (with_reducible first | exact HB.out | apply below_alloc | apply pw_below_drewN | apply below_drew1) | exact HB.out)⟩
                  · rw [if_neg c35] at H
                    have c35b0 : (t191 == 0) = false := beq_eq_false_iff_ne.mpr c35
                    have c35b1 : (t191 != 0) = true := bne_iff_ne.mpr c35
                    obtain rfl := Option.some.inj H
                    go_wp2_with (first | ((with_reducible refine gate_callee (f := 27) rfl ?_); refine goesL_ (some 119) rfl rfl Try.func27 (by kernel_rfl) rfl #[.int .i64 (wrap64 (1 + t176)), .int .i64 t178, .int .i64 t177, .int .i64 t179] rfl (by (try simp only [List.map_toArray, List.map_cons, List.map_nil]); first | done | rfl | (simp only [List.length_drop, List.length_take]; rfl)) ?_; (with_reducible refine (gauge_Chance.calls (wrap64 (1 + t176)) t178 t177 t179 t189 t190 t191 _ A34.out).mono ?_); rintro e w44 ⟨rfl, hb⟩; refine ⟨_, rfl, ?_⟩; have n0_ := Aside0.mk (below_step (by repeat (first | (with_reducible first | exact HB.out | apply below_alloc | apply pw_below_drewN | apply below_drew1) | exact HB.out)) hb); clear HB; have HB := n0_; clear n0_; (try clear hb); (try clear hb2); (try clear hk); (try clear hi)))
                    go_ret
                    exact ⟨by first | rfl | (simp [errW_none, errW_some] <;> rfl) | (simp [*, errW_none, errW_some] <;> rfl), by repeat (first | (with_reducible first | exact HB.out | apply below_alloc | apply pw_below_drewN | apply below_drew1) | exact HB.out)⟩
                · rw [if_neg c33] at H
                  have c33b0 : decide (t179 ≤ t177) = false := decide_eq_false c33
                  clear c33
                  by_cases c45 : (wrap64 (t180 + x16_14)) = t181
                  · rw [if_pos c45] at H
                    have c45b0 : ((wrap64 (t180 + x16_14)) == t181) = true := beq_iff_eq.mpr c45
                    have c45b1 : ((wrap64 (t180 + x16_14)) != t181) = false := bne_eq_false_iff_eq.mpr c45
                    clear c45
                    replace H := Option.bind_eq_some_iff.mp H
                    obtain ⟨t194, A460, H⟩ := H
                    replace H : (some t194) = some r := H
                    have A46 := Aside0.mk A460
                    clear A460
                    obtain rfl := Option.some.inj H
                    go_wp2_with (first | (go_at_call 13; (with_reducible refine (thermionlaw07_awake.calls kj22  t194 _ A46.out).mono ?_); rintro e w47 ⟨rfl, hb⟩; have n0_ := Aside0.mk (below_step (by repeat (first | (with_reducible first | exact HB.out | apply below_alloc | apply pw_below_drewN | apply below_drew1) | exact HB.out)) hb); clear HB; have HB := n0_; clear n0_; (try clear hb); (try clear hb2); (try clear hk); (try clear hi)))
                    go_ret
                    exact ⟨by first | rfl | (simp [errW_none, errW_some] <;> rfl) | (simp [*, errW_none, errW_some] <;> rfl), by repeat (first | (with_reducible first | exact HB.out | apply below_alloc | apply pw_below_drewN | apply below_drew1) | exact HB.out)⟩
                  · rw [if_neg c45] at H
                    have c45b0 : ((wrap64 (t180 + x16_14)) == t181) = false := beq_eq_false_iff_ne.mpr c45
                    have c45b1 : ((wrap64 (t180 + x16_14)) != t181) = true := bne_iff_ne.mpr c45
                    obtain rfl := Option.some.inj H
                    go_wp2
                    go_ret
                    exact ⟨by first | rfl | (simp [errW_none, errW_some] <;> rfl) | (simp [*, errW_none, errW_some] <;> rfl), by repeat (first | (with_reducible first | exact HB.out | apply below_alloc | apply pw_below_drewN | apply below_drew1) | exact HB.out)⟩

/-- THE ONE PURE STATEMENT of thermionlaw07_GaugeChances: yours. -/
def thermionlaw07_GaugeChances.Pure : Prop := ∀ (a0 : Int) (a1 : Int) (a2 : Int) (a3 : Int), (Lit.int .i64 a0).wf = true → (Lit.int .i64 a1).wf = true → (Lit.int .i64 a2).wf = true → (Lit.int .i64 a3).wf = true → ∃ k, thermionlaw07_GaugeChances.f k a0 a1 a2 a3 = some true
theorem thermionlaw07_GaugeChances.walk (P : thermionlaw07_GaugeChances.Pure) (a0 : Int) (a1 : Int) (a2 : Int) (a3 : Int) (w : World) (w0 : (Lit.int .i64 a0).wf = true) (w1 : (Lit.int .i64 a1).wf = true) (w2 : (Lit.int .i64 a2).wf = true) (w3 : (Lit.int .i64 a3).wf = true) :
    Calls Try.prog 8 #[.int .i64 a0, .int .i64 a1, .int .i64 a2, .int .i64 a3] w fun e w' => e = .returned (.bool true) ∧ Below w.heap.size w w' := by
  obtain ⟨k, h⟩ := P a0 a1 a2 a3 w0 w1 w2 w3
  refine (thermionlaw07_GaugeChances.calls k a0 a1 a2 a3 true w h).mono ?_
  rintro e w' ⟨rfl, hd⟩
  exact ⟨rfl, hd⟩

end Go.Proofs.Ytdbpobadeibjaaa.GGaugeChances
