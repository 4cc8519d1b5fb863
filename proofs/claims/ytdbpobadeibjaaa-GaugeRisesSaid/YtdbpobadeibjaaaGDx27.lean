-- written for this claim by a program of this session (wip/gp), over the kit's own printer; Lean checks it
import Derived.Test.YtdbpobadeibjaaaGDx0
import Derived.Test.YtdbpobadeibjaaaGDx8
import Derived.Test.YtdbpobadeibjaaaGDx13
import Derived.Test.YtdbpobadeibjaaaGDx14
import Derived.Test.YtdbpobadeibjaaaGDx15
import Derived.Test.YtdbpobadeibjaaaGDx16
import Derived.Test.YtdbpobadeibjaaaGDx21
import Derived.Test.YtdbpobadeibjaaaGDx26
namespace Go.Proofs.Ytdbpobadeibjaaa.GD
open Go.RowKit Go.Proofs.YtdbpobadeibjaaaW.PrintWords Go.Proofs.YtdbpobadeibjaaaW.PrintLast Go.Proofs.YtdbpobadeibjaaaW.PrintMore
attribute [local go_sem] max2_int min2_int max_two min_two max_three min_three max_four min_four   -- for this text's walks alone
set_option linter.unusedVariables false
set_option linter.unusedSimpArgs false

/-! ### thermionlaw07_GaugeRises: function 6 -/
mutual
def thermionlaw07_GaugeRises.j0 : Nat → List (S36) → Int → Int → Bool → Int → Int → Int → Option (Bool)
  | 0, _, _, _, _, _, _, _ => none
  | k + 1, x8, x9, x10, x84, x319000, x332000, x332001 => if x84 = true then (some false) else ((thermionkit_OwnBench.f x8).bind fun t338 => (thermionlaw07_GaugeRises.l0 k x8 x9 x10 t338 0 x319000 x332000 x332001))
def thermionlaw07_GaugeRises.l0 : Nat → List (S36) → Int → Int → List (S36) → Int → Int → Int → Int → Option (Bool)
  | 0, _, _, _, _, _, _, _, _ => none
  | k + 1, x8, x9, x10, x15, x16, x319000, x332000, x332001 => if x16 < (x15.length : Int) then (if 0 ≤ x16 then (if x16 < (x8.length : Int) then ((thermionkit_Dice_Range.f x319000 ((rd_T36 x8 x16).f0.f0) ((rd_T36 x8 x16).f0.f1)).bind fun bt343 => ((thermionkit_Dice_Range.f bt343.2.2 ((rd_T36 x8 x16).f1.f0) ((rd_T36 x8 x16).f1.f1)).bind fun bt348 => ((some (x15.set (x16 : Int).toNat (⟨(⟨bt343.1, bt343.2.1⟩ : S34), (⟨(rd_T36 x15 x16).f1.f0, (rd_T36 x15 x16).f1.f1⟩ : S34), (rd_T36 x15 x16).f2, (rd_T36 x15 x16).f3, (rd_T36 x15 x16).f4⟩ : S36) : List (S36))).bind fun y351 => (thermionlaw07_GaugeRises.l0 k x8 x9 x10 (y351.set (x16 : Int).toNat (⟨(⟨(rd_T36 y351 x16).f0.f0, (rd_T36 y351 x16).f0.f1⟩ : S34), (⟨bt348.1, bt348.2.1⟩ : S34), (rd_T36 y351 x16).f2, (rd_T36 y351 x16).f3, (rd_T36 y351 x16).f4⟩ : S36)) (wrap64 (x16 + 1)) bt348.2.2 x332000 x332001)))) else (none)) else (none)) else ((gauge_True.f x15 x9 x10).bind fun bt353 => (if bt353.2.2 = 12 then ((thermionlaw07_awake.f k).bind fun t357 => (some t357)) else (if bt353.2.2 = 0 then ((thermionkit_Within.f bt353.1 bt353.2.1 x332000 x332001).bind fun t358 => (if t358 = true then ((thermionlaw07_awake.f k).bind fun t359 => (some t359)) else (some false))) else (some false))))
end
def thermionlaw07_GaugeRises.f (k : Nat) (l0 : List Int) (a1 : Int) (a2 : Int) : Option (Bool) := (thermionkit_NewDice.f l0).bind fun t317 => ((thermionkit_BenchOf.f t317 4).bind fun bt319 => ((thermionkit_Dice_Upto.f bt319.2 (bt319.1.length : Int)).bind fun bt323 => ((thermionkit_Mod.f a1 200001).bind fun t325 => ((thermionkit_Showing.f k bt323.2 bt319.1 bt323.1 (wrap64 (t325 - 100000))).bind fun bt326 => ((gauge_True.f bt319.1 bt323.1 bt326.1).bind fun bt328 => (if 0 ≤ bt323.1 then (if bt323.1 < (bt319.1.length : Int) then ((thermionkit_Mod.f a2 50).bind fun t333 => ((gauge_True.f bt319.1 bt323.1 (wrap64 (bt326.1 + (wrap64 (((rd_T36 bt319.1 bt323.1).f2) * t333))))).bind fun bt334 => (if bt328.2.2 = 0 then (if bt334.2.2 = 0 then (if bt334.1 < bt328.1 then (thermionlaw07_GaugeRises.j0 k bt319.1 bt323.1 bt326.1 true bt326.2 bt328.1 bt328.2.1) else (if bt334.2.1 < bt328.2.1 then (thermionlaw07_GaugeRises.j0 k bt319.1 bt323.1 bt326.1 true bt326.2 bt328.1 bt328.2.1) else (thermionlaw07_GaugeRises.j0 k bt319.1 bt323.1 bt326.1 false bt326.2 bt328.1 bt328.2.1))) else (thermionlaw07_GaugeRises.j0 k bt319.1 bt323.1 bt326.1 (bt334.2.2 != 12) bt326.2 bt328.1 bt328.2.1)) else (thermionlaw07_GaugeRises.j0 k bt319.1 bt323.1 bt326.1 true bt326.2 bt328.1 bt328.2.1)))) else (none)) else (none)))))))
theorem thermionlaw07_GaugeRises.mono_l : ∀ k, (∀ y0 y1 y2 y3 y4 y5 y6, LeO (thermionlaw07_GaugeRises.j0 k y0 y1 y2 y3 y4 y5 y6) (thermionlaw07_GaugeRises.j0 (k + 1) y0 y1 y2 y3 y4 y5 y6)) ∧ (∀ y0 y1 y2 y3 y4 y5 y6 y7, LeO (thermionlaw07_GaugeRises.l0 k y0 y1 y2 y3 y4 y5 y6 y7) (thermionlaw07_GaugeRises.l0 (k + 1) y0 y1 y2 y3 y4 y5 y6 y7))
  | 0 => ⟨fun _ _ _ _ _ _ _ r h => by simp [thermionlaw07_GaugeRises.j0] at h, fun _ _ _ _ _ _ _ _ r h => by simp [thermionlaw07_GaugeRises.l0] at h⟩
  | k + 1 => by
    obtain ⟨ih0, ih1⟩ := thermionlaw07_GaugeRises.mono_l k
    refine ⟨?_, ?_⟩
    · intro y0 y1 y2 y3 y4 y5 y6
      unfold thermionlaw07_GaugeRises.j0
      repeat' first
      | (with_reducible exact ih0 _ _ _ _ _ _ _)
      | (with_reducible exact ih1 _ _ _ _ _ _ _ _)
      | (with_reducible exact thermionkit_Showing.mono _ _ _ _ _)
      | (with_reducible exact thermionlaw07_awake.mono _)
      | (with_reducible exact LeO.refl _)
      | (with_reducible exact LeO.none _)
      | (with_reducible refine LeO.ite ?_ ?_)
      | (with_reducible refine LeO.bind ?_ (fun _ => ?_))
      | exact ih0 _ _ _ _ _ _ _
      | exact ih1 _ _ _ _ _ _ _ _
      | exact thermionkit_Showing.mono _ _ _ _ _
      | exact thermionlaw07_awake.mono _
      | exact LeO.none _
      | refine LeO.ite ?_ ?_
      | refine LeO.bind ?_ (fun _ => ?_)
    · intro y0 y1 y2 y3 y4 y5 y6 y7
      unfold thermionlaw07_GaugeRises.l0
      repeat' first
      | (with_reducible exact ih0 _ _ _ _ _ _ _)
      | (with_reducible exact ih1 _ _ _ _ _ _ _ _)
      | (with_reducible exact thermionkit_Showing.mono _ _ _ _ _)
      | (with_reducible exact thermionlaw07_awake.mono _)
      | (with_reducible exact LeO.refl _)
      | (with_reducible exact LeO.none _)
      | (with_reducible refine LeO.ite ?_ ?_)
      | (with_reducible refine LeO.bind ?_ (fun _ => ?_))
      | exact ih0 _ _ _ _ _ _ _
      | exact ih1 _ _ _ _ _ _ _ _
      | exact thermionkit_Showing.mono _ _ _ _ _
      | exact thermionlaw07_awake.mono _
      | exact LeO.none _
      | refine LeO.ite ?_ ?_
      | refine LeO.bind ?_ (fun _ => ?_)
theorem thermionlaw07_GaugeRises.mono : ∀ a0 a1 a2 k, LeO (thermionlaw07_GaugeRises.f k a0 a1 a2) (thermionlaw07_GaugeRises.f (k + 1) a0 a1 a2) := by
  intro a0 a1 a2 k
  obtain ⟨ih0, ih1⟩ := thermionlaw07_GaugeRises.mono_l k
  unfold thermionlaw07_GaugeRises.f
  repeat' first
      | (with_reducible exact ih0 _ _ _ _ _ _ _)
      | (with_reducible exact ih1 _ _ _ _ _ _ _ _)
      | (with_reducible exact thermionkit_Showing.mono _ _ _ _ _)
      | (with_reducible exact thermionlaw07_awake.mono _)
      | (with_reducible exact LeO.refl _)
      | (with_reducible exact LeO.none _)
      | (with_reducible refine LeO.ite ?_ ?_)
      | (with_reducible refine LeO.bind ?_ (fun _ => ?_))
      | exact ih0 _ _ _ _ _ _ _
      | exact ih1 _ _ _ _ _ _ _ _
      | exact thermionkit_Showing.mono _ _ _ _ _
      | exact thermionlaw07_awake.mono _
      | exact LeO.none _
      | refine LeO.ite ?_ ?_
      | refine LeO.bind ?_ (fun _ => ?_)
def thermionlaw07_GaugeRises.T6 : Bool × List (List Nat × List Nat) := (true, [([], []), ([], []), ([], []), ([], []), ([], []), ([3, 4], [3, 4]), ([5], [5]), ([6], [6]), ([], []), ([8], [8]), ([7, 9], [7, 9]), ([2, 10], [2, 10]), ([0, 1, 11, 9], [0, 1, 11]), ([12], [12]), ([13], [13]), ([13], [13]), ([], []), ([16, 14, 12, 0, 1, 2, 3, 4, 5, 6, 7, 8, 9, 10, 11, 12, 13, 14, 16], [14, 16]), ([15, 17, 0, 1, 2, 3, 4, 5, 6, 7, 8, 9, 10, 11, 12, 13, 14, 15, 16, 17], [15])])
def thermionlaw07_GaugeRises.B6 : List Nat := [0, 0, 0, 0, 0, 24, 56, 120, 0, 256, 1016, 2044, 4095, 8191, 16383, 16383, 0, 98303, 262143]
theorem thermionlaw07_GaugeRises.tab6 : rtab .any (opsOf Try.f6 6) = thermionlaw07_GaugeRises.T6 := by kernel_rfl
theorem thermionlaw07_GaugeRises.bits6 : waitsOk thermionlaw07_GaugeRises.T6.2 thermionlaw07_GaugeRises.B6 = true := by kernel_rfl
def thermionlaw07_GaugeRises.T13 : Bool × List (List Nat × List Nat) := (true, [([], []), ([], []), ([], []), ([], []), ([], []), ([], []), ([], []), ([5, 6], [5, 6]), ([7], [7]), ([8], [8]), ([9], [9]), ([], []), ([], []), ([11, 12], [11, 12]), ([13], [13]), ([14], [14]), ([15], [15]), ([4, 10, 16], [4, 10, 16]), ([], []), ([], []), ([], []), ([19, 20], [19, 20]), ([21], [21]), ([22], [22]), ([23], [23]), ([], []), ([], []), ([25, 26], [25, 26]), ([27], [27]), ([28], [28]), ([29], [29]), ([18, 24, 30, 17], [18, 24, 30]), ([0, 1, 0, 1, 4, 5, 6, 7, 8, 9, 10, 11, 12, 13, 14, 15, 16, 17, 24, 30, 31], [0, 1]), ([32, 0, 1, 4, 5, 6, 7, 8, 9, 10, 11, 12, 13, 14, 15, 16, 17, 24, 30, 31], [32]), ([33, 17, 31, 0, 1, 4, 5, 6, 7, 8, 9, 10, 11, 12, 13, 14, 15, 16, 17, 24, 30, 31], [17, 33]), ([2, 3, 0, 1, 2, 3, 4, 5, 6, 7, 8, 9, 10, 11, 12, 13, 14, 15, 16, 17, 18, 19, 20, 21, 22, 23, 24, 25, 26, 27, 28, 29, 30, 31, 32, 33, 34], [2, 3]), ([35, 0, 1, 2, 3, 4, 5, 6, 7, 8, 9, 10, 11, 12, 13, 14, 15, 16, 17, 18, 19, 20, 21, 22, 23, 24, 25, 26, 27, 28, 29, 30, 31, 32, 33, 34], [35]), ([36, 31, 34, 0, 1, 2, 3, 4, 5, 6, 7, 8, 9, 10, 11, 12, 13, 14, 15, 16, 17, 18, 19, 20, 21, 22, 23, 24, 25, 26, 27, 28, 29, 30, 31, 32, 33, 34], [31, 36])])
def thermionlaw07_GaugeRises.B13 : List Nat := [0, 0, 0, 0, 0, 0, 0, 96, 224, 480, 992, 0, 0, 6144, 14336, 30720, 63488, 131056, 0, 0, 0, 1572864, 3670016, 7864320, 16252928, 0, 0, 100663296, 234881024, 503316480, 1040187392, 2147483632, 4294967283, 8589934579, 17179869171, 34359738367, 68719476735, 137438953471]
theorem thermionlaw07_GaugeRises.tab13 : rtab .any (opsOf Try.f6 13) = thermionlaw07_GaugeRises.T13 := by kernel_rfl
theorem thermionlaw07_GaugeRises.bits13 : waitsOk thermionlaw07_GaugeRises.T13.2 thermionlaw07_GaugeRises.B13 = true := by kernel_rfl
set_option maxHeartbeats 8000000 in
set_option maxRecDepth 100000 in
theorem thermionlaw07_GaugeRises.calls (k : Nat) (A0 : Option Addr) (c0 : Nat) (l0 : List Int) (a1 : Int) (a2 : Int) (r : Bool) (w : World) (hr0 : Kd.C (Kd.int .i64) w A0 l0.length l0) (hc0 : l0.length ≤ c0) (h : thermionlaw07_GaugeRises.f k l0 a1 a2 = some r) :
    Calls Try.prog 6 #[.slice A0 l0.length c0, .int .i64 a1, .int .i64 a2] w fun e w' => e = .returned (.bool r) ∧ Below w.heap.size w w' := by
  have hu34 := Try.underlying34
  have HR0 := Aside0.mk hr0
  have HC0 := Aside0.mk hc0
  clear hr0 hc0
  have HB := Aside0.mk (Below.refl w.heap.size w)
  have H : ((thermionkit_NewDice.f l0).bind fun t317 => ((thermionkit_BenchOf.f t317 4).bind fun bt319 => ((thermionkit_Dice_Upto.f bt319.2 (bt319.1.length : Int)).bind fun bt323 => ((thermionkit_Mod.f a1 200001).bind fun t325 => ((thermionkit_Showing.f k bt323.2 bt319.1 bt323.1 (wrap64 (t325 - 100000))).bind fun bt326 => ((gauge_True.f bt319.1 bt323.1 bt326.1).bind fun bt328 => (if 0 ≤ bt323.1 then (if bt323.1 < (bt319.1.length : Int) then ((thermionkit_Mod.f a2 50).bind fun t333 => ((gauge_True.f bt319.1 bt323.1 (wrap64 (bt326.1 + (wrap64 (((rd_T36 bt319.1 bt323.1).f2) * t333))))).bind fun bt334 => (if bt328.2.2 = 0 then (if bt334.2.2 = 0 then (if bt334.1 < bt328.1 then (thermionlaw07_GaugeRises.j0 k bt319.1 bt323.1 bt326.1 true bt326.2 bt328.1 bt328.2.1) else (if bt334.2.1 < bt328.2.1 then (thermionlaw07_GaugeRises.j0 k bt319.1 bt323.1 bt326.1 true bt326.2 bt328.1 bt328.2.1) else (thermionlaw07_GaugeRises.j0 k bt319.1 bt323.1 bt326.1 false bt326.2 bt328.1 bt328.2.1))) else (thermionlaw07_GaugeRises.j0 k bt319.1 bt323.1 bt326.1 (bt334.2.2 != 12) bt326.2 bt328.1 bt328.2.1)) else (thermionlaw07_GaugeRises.j0 k bt319.1 bt323.1 bt326.1 true bt326.2 bt328.1 bt328.2.1)))) else (none)) else (none)))))))) = some r := h
  clear h
  replace H := Option.bind_eq_some_iff.mp H
  obtain ⟨t317, A40, H⟩ := H
  replace H : ((thermionkit_BenchOf.f t317 4).bind fun bt319 => ((thermionkit_Dice_Upto.f bt319.2 (bt319.1.length : Int)).bind fun bt323 => ((thermionkit_Mod.f a1 200001).bind fun t325 => ((thermionkit_Showing.f k bt323.2 bt319.1 bt323.1 (wrap64 (t325 - 100000))).bind fun bt326 => ((gauge_True.f bt319.1 bt323.1 bt326.1).bind fun bt328 => (if 0 ≤ bt323.1 then (if bt323.1 < (bt319.1.length : Int) then ((thermionkit_Mod.f a2 50).bind fun t333 => ((gauge_True.f bt319.1 bt323.1 (wrap64 (bt326.1 + (wrap64 (((rd_T36 bt319.1 bt323.1).f2) * t333))))).bind fun bt334 => (if bt328.2.2 = 0 then (if bt334.2.2 = 0 then (if bt334.1 < bt328.1 then (thermionlaw07_GaugeRises.j0 k bt319.1 bt323.1 bt326.1 true bt326.2 bt328.1 bt328.2.1) else (if bt334.2.1 < bt328.2.1 then (thermionlaw07_GaugeRises.j0 k bt319.1 bt323.1 bt326.1 true bt326.2 bt328.1 bt328.2.1) else (thermionlaw07_GaugeRises.j0 k bt319.1 bt323.1 bt326.1 false bt326.2 bt328.1 bt328.2.1))) else (thermionlaw07_GaugeRises.j0 k bt319.1 bt323.1 bt326.1 (bt334.2.2 != 12) bt326.2 bt328.1 bt328.2.1)) else (thermionlaw07_GaugeRises.j0 k bt319.1 bt323.1 bt326.1 true bt326.2 bt328.1 bt328.2.1)))) else (none)) else (none))))))) = some r := H
  have A4 := Aside0.mk A40
  clear A40
  replace H := Option.bind_eq_some_iff.mp H
  obtain ⟨⟨t319, t322⟩, A50, H⟩ := H
  replace H : ((thermionkit_Dice_Upto.f t322 (t319.length : Int)).bind fun bt323 => ((thermionkit_Mod.f a1 200001).bind fun t325 => ((thermionkit_Showing.f k bt323.2 t319 bt323.1 (wrap64 (t325 - 100000))).bind fun bt326 => ((gauge_True.f t319 bt323.1 bt326.1).bind fun bt328 => (if 0 ≤ bt323.1 then (if bt323.1 < (t319.length : Int) then ((thermionkit_Mod.f a2 50).bind fun t333 => ((gauge_True.f t319 bt323.1 (wrap64 (bt326.1 + (wrap64 (((rd_T36 t319 bt323.1).f2) * t333))))).bind fun bt334 => (if bt328.2.2 = 0 then (if bt334.2.2 = 0 then (if bt334.1 < bt328.1 then (thermionlaw07_GaugeRises.j0 k t319 bt323.1 bt326.1 true bt326.2 bt328.1 bt328.2.1) else (if bt334.2.1 < bt328.2.1 then (thermionlaw07_GaugeRises.j0 k t319 bt323.1 bt326.1 true bt326.2 bt328.1 bt328.2.1) else (thermionlaw07_GaugeRises.j0 k t319 bt323.1 bt326.1 false bt326.2 bt328.1 bt328.2.1))) else (thermionlaw07_GaugeRises.j0 k t319 bt323.1 bt326.1 (bt334.2.2 != 12) bt326.2 bt328.1 bt328.2.1)) else (thermionlaw07_GaugeRises.j0 k t319 bt323.1 bt326.1 true bt326.2 bt328.1 bt328.2.1)))) else (none)) else (none)))))) = some r := H
  have A5 := Aside0.mk A50
  clear A50
  replace H := Option.bind_eq_some_iff.mp H
  obtain ⟨⟨t323, t324⟩, A60, H⟩ := H
  replace H : ((thermionkit_Mod.f a1 200001).bind fun t325 => ((thermionkit_Showing.f k t324 t319 t323 (wrap64 (t325 - 100000))).bind fun bt326 => ((gauge_True.f t319 t323 bt326.1).bind fun bt328 => (if 0 ≤ t323 then (if t323 < (t319.length : Int) then ((thermionkit_Mod.f a2 50).bind fun t333 => ((gauge_True.f t319 t323 (wrap64 (bt326.1 + (wrap64 (((rd_T36 t319 t323).f2) * t333))))).bind fun bt334 => (if bt328.2.2 = 0 then (if bt334.2.2 = 0 then (if bt334.1 < bt328.1 then (thermionlaw07_GaugeRises.j0 k t319 t323 bt326.1 true bt326.2 bt328.1 bt328.2.1) else (if bt334.2.1 < bt328.2.1 then (thermionlaw07_GaugeRises.j0 k t319 t323 bt326.1 true bt326.2 bt328.1 bt328.2.1) else (thermionlaw07_GaugeRises.j0 k t319 t323 bt326.1 false bt326.2 bt328.1 bt328.2.1))) else (thermionlaw07_GaugeRises.j0 k t319 t323 bt326.1 (bt334.2.2 != 12) bt326.2 bt328.1 bt328.2.1)) else (thermionlaw07_GaugeRises.j0 k t319 t323 bt326.1 true bt326.2 bt328.1 bt328.2.1)))) else (none)) else (none))))) = some r := H
  have A6 := Aside0.mk A60
  clear A60
  replace H := Option.bind_eq_some_iff.mp H
  obtain ⟨t325, A70, H⟩ := H
  replace H : ((thermionkit_Showing.f k t324 t319 t323 (wrap64 (t325 - 100000))).bind fun bt326 => ((gauge_True.f t319 t323 bt326.1).bind fun bt328 => (if 0 ≤ t323 then (if t323 < (t319.length : Int) then ((thermionkit_Mod.f a2 50).bind fun t333 => ((gauge_True.f t319 t323 (wrap64 (bt326.1 + (wrap64 (((rd_T36 t319 t323).f2) * t333))))).bind fun bt334 => (if bt328.2.2 = 0 then (if bt334.2.2 = 0 then (if bt334.1 < bt328.1 then (thermionlaw07_GaugeRises.j0 k t319 t323 bt326.1 true bt326.2 bt328.1 bt328.2.1) else (if bt334.2.1 < bt328.2.1 then (thermionlaw07_GaugeRises.j0 k t319 t323 bt326.1 true bt326.2 bt328.1 bt328.2.1) else (thermionlaw07_GaugeRises.j0 k t319 t323 bt326.1 false bt326.2 bt328.1 bt328.2.1))) else (thermionlaw07_GaugeRises.j0 k t319 t323 bt326.1 (bt334.2.2 != 12) bt326.2 bt328.1 bt328.2.1)) else (thermionlaw07_GaugeRises.j0 k t319 t323 bt326.1 true bt326.2 bt328.1 bt328.2.1)))) else (none)) else (none)))) = some r := H
  have A7 := Aside0.mk A70
  clear A70
  replace H := Option.bind_eq_some_iff.mp H
  obtain ⟨⟨t326, t327⟩, A80, H⟩ := H
  replace H : ((gauge_True.f t319 t323 t326).bind fun bt328 => (if 0 ≤ t323 then (if t323 < (t319.length : Int) then ((thermionkit_Mod.f a2 50).bind fun t333 => ((gauge_True.f t319 t323 (wrap64 (t326 + (wrap64 (((rd_T36 t319 t323).f2) * t333))))).bind fun bt334 => (if bt328.2.2 = 0 then (if bt334.2.2 = 0 then (if bt334.1 < bt328.1 then (thermionlaw07_GaugeRises.j0 k t319 t323 t326 true t327 bt328.1 bt328.2.1) else (if bt334.2.1 < bt328.2.1 then (thermionlaw07_GaugeRises.j0 k t319 t323 t326 true t327 bt328.1 bt328.2.1) else (thermionlaw07_GaugeRises.j0 k t319 t323 t326 false t327 bt328.1 bt328.2.1))) else (thermionlaw07_GaugeRises.j0 k t319 t323 t326 (bt334.2.2 != 12) t327 bt328.1 bt328.2.1)) else (thermionlaw07_GaugeRises.j0 k t319 t323 t326 true t327 bt328.1 bt328.2.1)))) else (none)) else (none))) = some r := H
  have A8 := Aside0.mk A80
  clear A80
  replace H := Option.bind_eq_some_iff.mp H
  obtain ⟨⟨t328, t329, t330⟩, A90, H⟩ := H
  replace H : (if 0 ≤ t323 then (if t323 < (t319.length : Int) then ((thermionkit_Mod.f a2 50).bind fun t333 => ((gauge_True.f t319 t323 (wrap64 (t326 + (wrap64 (((rd_T36 t319 t323).f2) * t333))))).bind fun bt334 => (if t330 = 0 then (if bt334.2.2 = 0 then (if bt334.1 < t328 then (thermionlaw07_GaugeRises.j0 k t319 t323 t326 true t327 t328 t329) else (if bt334.2.1 < t329 then (thermionlaw07_GaugeRises.j0 k t319 t323 t326 true t327 t328 t329) else (thermionlaw07_GaugeRises.j0 k t319 t323 t326 false t327 t328 t329))) else (thermionlaw07_GaugeRises.j0 k t319 t323 t326 (bt334.2.2 != 12) t327 t328 t329)) else (thermionlaw07_GaugeRises.j0 k t319 t323 t326 true t327 t328 t329)))) else (none)) else (none)) = some r := H
  have A9 := Aside0.mk A90
  clear A90
  by_cases c10 : 0 ≤ t323
  · rw [if_pos c10] at H
    have c10b0 : decide (0 ≤ t323) = true := decide_eq_true c10
    clear c10
    by_cases c11 : t323 < (t319.length : Int)
    · rw [if_pos c11] at H
      have c11b0 : decide (t323 < (t319.length : Int)) = true := decide_eq_true c11
      clear c11
      replace H := Option.bind_eq_some_iff.mp H
      obtain ⟨t333, A120, H⟩ := H
      replace H : ((gauge_True.f t319 t323 (wrap64 (t326 + (wrap64 (((rd_T36 t319 t323).f2) * t333))))).bind fun bt334 => (if t330 = 0 then (if bt334.2.2 = 0 then (if bt334.1 < t328 then (thermionlaw07_GaugeRises.j0 k t319 t323 t326 true t327 t328 t329) else (if bt334.2.1 < t329 then (thermionlaw07_GaugeRises.j0 k t319 t323 t326 true t327 t328 t329) else (thermionlaw07_GaugeRises.j0 k t319 t323 t326 false t327 t328 t329))) else (thermionlaw07_GaugeRises.j0 k t319 t323 t326 (bt334.2.2 != 12) t327 t328 t329)) else (thermionlaw07_GaugeRises.j0 k t319 t323 t326 true t327 t328 t329))) = some r := H
      have A12 := Aside0.mk A120
      clear A120
      replace H := Option.bind_eq_some_iff.mp H
      obtain ⟨⟨t334, t335, t336⟩, A130, H⟩ := H
      replace H : (if t330 = 0 then (if t336 = 0 then (if t334 < t328 then (thermionlaw07_GaugeRises.j0 k t319 t323 t326 true t327 t328 t329) else (if t335 < t329 then (thermionlaw07_GaugeRises.j0 k t319 t323 t326 true t327 t328 t329) else (thermionlaw07_GaugeRises.j0 k t319 t323 t326 false t327 t328 t329))) else (thermionlaw07_GaugeRises.j0 k t319 t323 t326 (t336 != 12) t327 t328 t329)) else (thermionlaw07_GaugeRises.j0 k t319 t323 t326 true t327 t328 t329)) = some r := H
      have A13 := Aside0.mk A130
      clear A130
      have HC14 := Aside0.mk H
      clear H
      go_enter Try.func6, Try.ntmps6
      try go_wp2_with (first | ((with_reducible refine gate_callee (f := 14) rfl ?_); refine goesL_ (some 20) rfl rfl Try.func14 (by kernel_rfl) rfl #[.slice A0 l0.length c0] rfl (by (try simp only [List.map_toArray, List.map_cons, List.map_nil]); first | done | rfl | (simp only [List.length_drop, List.length_take]; rfl)) ?_; (with_reducible refine (thermionkit_NewDice.calls _ _ l0 t317 w _ ?side1 ?side2 ?side3 A4.out).mono ?_); (case side1 => repeat (first | (with_reducible first | exact HB.out | apply below_alloc | apply pw_below_drewN | apply below_drew1) | exact HB.out)); (case side2 => exact HR0.out); (case side3 => exact HC0.out); rintro e w15 ⟨g318, rfl, hi, hb, hb2⟩; refine ⟨_, rfl, ?_⟩; have n0_ := Aside0.mk (hb); have n1_ := Aside0.mk (hi); clear HB; have HB := n0_; have HI318 := n1_; clear n0_ n1_; (try clear hb); (try clear hb2); (try clear hk); (try clear hi)) | ((with_reducible refine gate_callee (f := 15) rfl ?_); refine goesL_ (some 22) rfl rfl Try.func15 (by kernel_rfl) rfl #[.pointer (some ⟨g318, 0, none⟩), .int .i64 4] rfl (by (try simp only [List.map_toArray, List.map_cons, List.map_nil]); first | done | rfl | (simp only [List.length_drop, List.length_take]; rfl)) ?_; (with_reducible refine (thermionkit_BenchOf.calls g318 t317 4 t319 t322 w _ ?side1 ?side2 A5.out).mono ?_); (case side1 => repeat (first | (with_reducible first | exact HI318.out | apply IsS76.alloc | apply IsS76.drewN | apply IsS76.drew | apply IsS76.set_0) | exact HI318.out)); (case side2 => repeat (first | (with_reducible first | exact HB.out | apply below_alloc | apply pw_below_drewN | apply below_drew1 | refine below_set ?_ (IsS76.ge HI318.out)) | exact HB.out)); rintro e w16 ⟨v320, rfl, ho0, hi, hb, hk⟩; refine ⟨_, rfl, ?_⟩; have n0_ := Aside0.mk (Kd.R_lower ho0 (below_size (by repeat (first | (with_reducible first | exact HB.out | apply below_alloc | apply pw_below_drewN | apply below_drew1 | refine below_set ?_ (IsS76.ge HI318.out)) | exact HB.out)))); have n1_ := Aside0.mk (hb); have n2_ := Aside0.mk (hi); clear HB; clear HI318; have HO321 := n0_; have HB := n1_; have HI318 := n2_; clear n0_ n1_ n2_; (try clear hb); (try clear hb2); (try clear hk); (try clear hi); (try clear ho0); obtain ⟨Ao17, co17, eo17⟩ := Kd.R_slice HO321.out; subst eo17) | ((with_reducible refine gate_callee (f := 16) rfl ?_); refine goesL_ (some 26) rfl rfl Try.func16 (by kernel_rfl) rfl #[.pointer (some ⟨g318, 0, none⟩), .int .i64 (t319.length : Int)] rfl (by (try simp only [List.map_toArray, List.map_cons, List.map_nil]); first | done | rfl | (simp only [List.length_drop, List.length_take]; rfl)) ?_; (with_reducible refine (thermionkit_Dice_Upto.calls g318 t322 (t319.length : Int) t323 t324 w _ ?side1 ?side2 A6.out).mono ?_); (case side1 => repeat (first | (with_reducible first | exact HI318.out | apply IsS76.alloc | apply IsS76.drewN | apply IsS76.drew | apply IsS76.set_0) | exact HI318.out)); (case side2 => repeat (first | (with_reducible first | exact HB.out | apply below_alloc | apply pw_below_drewN | apply below_drew1 | refine below_set ?_ (IsS76.ge HI318.out)) | exact HB.out)); rintro e w18 ⟨rfl, hi, hb, hk⟩; refine ⟨_, rfl, ?_⟩; have n0_ := Aside0.mk (Kd.R_mono (Kd.R_keep (IsS76.apart (show IsS76 w _ g318 t322 from by repeat (first | (with_reducible first | exact HI318.out | apply IsS76.alloc | apply IsS76.drewN | apply IsS76.drew | apply IsS76.set_0) | exact HI318.out)) (by (with_reducible repeat (first | apply Kd.R_alloc | apply Kd.R_drewN | apply Kd.R_drew)); exact HO321.out) (by decide)) hk (fun _ h => h.2)) (fun _ h => h.1)); have n1_ := Aside0.mk (hb); have n2_ := Aside0.mk (hi); clear HO321; clear HB; clear HI318; have HO321 := n0_; have HB := n1_; have HI318 := n2_; clear n0_ n1_ n2_; (try clear hb); (try clear hb2); (try clear hk); (try clear hi)) | ((with_reducible refine gate_callee (f := 17) rfl ?_); refine goesL_ (some 31) rfl rfl Try.func17 (by kernel_rfl) rfl #[.int .i64 a1, .int .i64 200001] rfl (by (try simp only [List.map_toArray, List.map_cons, List.map_nil]); first | done | rfl | (simp only [List.length_drop, List.length_take]; rfl)) ?_; (with_reducible refine (thermionkit_Mod.calls a1 200001 t325 _ A7.out).mono ?_); rintro e w' ⟨rfl, ⟨nd, rfl⟩⟩; refine ⟨_, rfl, ?_⟩; (try (rw [drewN_self w18]; generalize hq_ : World.drewN w18 _ = w18; have n0_ : Aside0 (Kd.R k36 36 w18 w.heap.size (fun _ => True) (.slice Ao17 t319.length co17) t319) := ⟨by rw [← hq_]; exact (by (with_reducible repeat (first | apply Kd.R_alloc | apply Kd.R_drewN | apply Kd.R_drew)); exact HO321.out)⟩; have n1_ : Aside0 (IsS76 w w18 g318 t324) := ⟨by rw [← hq_]; exact (by repeat (first | (with_reducible first | exact HI318.out | apply IsS76.alloc | apply IsS76.drewN | apply IsS76.drew | apply IsS76.set_0) | exact HI318.out))⟩; have n2_ : Aside0 (Below w.heap.size w w18) := ⟨by rw [← hq_]; exact (by repeat (first | (with_reducible first | exact HB.out | apply below_alloc | apply pw_below_drewN | apply below_drew1 | refine below_set ?_ (IsS76.ge HI318.out)) | exact HB.out))⟩; clear HO321 HI318 HB hq_; have HO321 := n0_; have HI318 := n1_; have HB := n2_; clear n0_ n1_ n2_))) | ((with_reducible refine gate_callee (f := 19) rfl ?_); refine goesL_ (some 33) rfl rfl Try.func19 (by kernel_rfl) rfl #[.pointer (some ⟨g318, 0, none⟩), .slice Ao17 t319.length co17, .int .i64 t323, .int .i64 (wrap64 (t325 - 100000))] rfl (by (try simp only [List.map_toArray, List.map_cons, List.map_nil]); first | done | rfl | (simp only [List.length_drop, List.length_take]; rfl)) ?_; (with_reducible refine (thermionkit_Showing.calls k g318 t324 _ _ t319 t323 (wrap64 (t325 - 100000)) t326 t327 w _ ?side1 ?side2 ?side3 ?side4 A8.out).mono ?_); (case side1 => repeat (first | (with_reducible first | exact HI318.out | apply IsS76.alloc | apply IsS76.drewN | apply IsS76.drew | apply IsS76.set_0) | exact HI318.out)); (case side2 => repeat (first | (with_reducible first | exact HB.out | apply below_alloc | apply pw_below_drewN | apply below_drew1 | refine below_set ?_ (IsS76.ge HI318.out)) | exact HB.out)); (case side3 => exact Kd.C_foot_own (IsS76.apart (show IsS76 w _ g318 t324 from by repeat (first | (with_reducible first | exact HI318.out | apply IsS76.alloc | apply IsS76.drewN | apply IsS76.drew | apply IsS76.set_0) | exact HI318.out)) (by (with_reducible repeat (first | apply Kd.R_alloc | apply Kd.R_drewN | apply Kd.R_drew)); exact HO321.out) (by decide)) (fun _ h_ => h_.2)); (case side4 => exact (Kd.R_reads' HO321.out).2.1); rintro e w19 ⟨rfl, hi, hb, hk⟩; refine ⟨_, rfl, ?_⟩; have n0_ := Aside0.mk (Kd.R_mono (Kd.R_keep (IsS76.apart (show IsS76 w _ g318 t324 from by repeat (first | (with_reducible first | exact HI318.out | apply IsS76.alloc | apply IsS76.drewN | apply IsS76.drew | apply IsS76.set_0) | exact HI318.out)) (by (with_reducible repeat (first | apply Kd.R_alloc | apply Kd.R_drewN | apply Kd.R_drew)); exact HO321.out) (by decide)) hk (fun _ h => h.2)) (fun _ h => h.1)); have n1_ := Aside0.mk (hb); have n2_ := Aside0.mk (hi); clear HO321; clear HB; clear HI318; have HO321 := n0_; have HB := n1_; have HI318 := n2_; clear n0_ n1_ n2_; (try clear hb); (try clear hb2); (try clear hk); (try clear hi)) | ((with_reducible refine gate_callee (f := 21) rfl ?_); refine goesL_ (some 38) rfl rfl Try.func21 (by kernel_rfl) rfl #[.slice Ao17 t319.length co17, .int .i64 t323, .int .i64 t326] rfl (by (try simp only [List.map_toArray, List.map_cons, List.map_nil]); first | done | rfl | (simp only [List.length_drop, List.length_take]; rfl)) ?_; (with_reducible refine (gauge_True.calls _ _ t319 t323 t326 t328 t329 t330 _ ?side1 ?side2 A9.out).mono ?_); (case side1 => repeat (first | exact (Kd.R_reads' HO321.out).2.2 | (with_reducible refine Kd.C_alloc ?_ _) | (with_reducible refine Kd.C_drewN ?_ _) | (with_reducible refine Kd.C_drew ?_))); (case side2 => exact (Kd.R_reads' HO321.out).2.1); rintro e w20 ⟨rfl, hb⟩; refine ⟨_, rfl, ?_⟩; have n0_ := Aside0.mk (Kd.R_below (by (with_reducible repeat (first | apply Kd.R_alloc | apply Kd.R_drewN | apply Kd.R_drew)); exact HO321.out) hb); have n1_ := Aside0.mk (IsS76.below (by repeat (first | (with_reducible first | exact HI318.out | apply IsS76.alloc | apply IsS76.drewN | apply IsS76.drew | apply IsS76.set_0) | exact HI318.out)) hb); have n2_ := Aside0.mk (below_step (by repeat (first | (with_reducible first | exact HB.out | apply below_alloc | apply pw_below_drewN | apply below_drew1 | refine below_set ?_ (IsS76.ge HI318.out)) | exact HB.out)) hb); clear HO321; clear HI318; clear HB; have HO321 := n0_; have HI318 := n1_; have HB := n2_; clear n0_ n1_ n2_; (try clear hb); (try clear hb2); (try clear hk); (try clear hi)) | ((with_reducible refine gate_dst (N := 11) rfl ?_); refine box_event ?hg (N := 11) ?hd (cs := #[.int .i64 0, .int .i64 0]) (t := 34) ?hr ?_; (case hd => rfl); (case hg => rfl); (case hr => first | (go_simp; done) | (go_simp; rfl)); intro gb331 hg w21 hbox hb; have n0_ := Aside0.mk (Kd.R_below (by (with_reducible repeat (first | apply Kd.R_alloc | apply Kd.R_drewN | apply Kd.R_drew)); exact HO321.out) hb); have n1_ := Aside0.mk (IsS76.below (by repeat (first | (with_reducible first | exact HI318.out | apply IsS76.alloc | apply IsS76.drewN | apply IsS76.drew | apply IsS76.set_0) | exact HI318.out)) hb); have n2_ := Aside0.mk (below_step (by repeat (first | (with_reducible first | exact HB.out | apply below_alloc | apply pw_below_drewN | apply below_drew1 | refine below_set ?_ (IsS76.ge HI318.out)) | exact HB.out)) hb); have n3_ := Aside0.mk (hbox); have n4_ := Aside0.mk ((by rw [hg]; exact (below_size (by repeat (first | (with_reducible first | exact HB.out | apply below_alloc | apply pw_below_drewN | apply below_drew1 | refine below_set ?_ (IsS76.ge HI318.out)) | exact HB.out))) : w.heap.size ≤ gb331)); have n5_ := Aside0.mk ((by rw [hg]; exact (below_size (by repeat (first | (with_reducible first | exact HB.out | apply below_alloc | apply pw_below_drewN | apply below_drew1 | refine below_set ?_ (IsS76.ge HI318.out)) | exact HB.out))) : w.heap.size ≤ gb331)); have n6_ := Aside0.mk ((by rw [hg]; exact Nat.ne_of_lt (IsS76.lt (show IsS76 w _ g318 t327 from by repeat (first | (with_reducible first | exact HI318.out | apply IsS76.alloc | apply IsS76.drewN | apply IsS76.drew | apply IsS76.set_0) | exact HI318.out))) : g318 ≠ gb331)); have n7_ := Aside0.mk ((by rw [hg]; exact Nat.ne_of_gt (IsS76.lt (show IsS76 w _ g318 t327 from by repeat (first | (with_reducible first | exact HI318.out | apply IsS76.alloc | apply IsS76.drewN | apply IsS76.drew | apply IsS76.set_0) | exact HI318.out))) : gb331 ≠ g318)); clear HO321; clear HI318; clear HB; have HO321 := n0_; have HI318 := n1_; have HB := n2_; have BK331 := n3_; have GW331 := n4_; have GE331 := n5_; have NB318_331 := n6_; have NB331_318 := n7_; clear n0_ n1_ n2_ n3_ n4_ n5_ n6_ n7_; clear hb hbox hg; have hnb22 := NB331_318.out; have hnc22 := NB318_331.out; have hcz23_0 : w21.cell? ⟨gb331, 0, none⟩ = some (.int .i64 0) := (blk_cell BK331.out 0).trans rfl; have hcz23_1 : w21.cell? ⟨gb331, 1, none⟩ = some (.int .i64 0) := (blk_cell BK331.out 1).trans rfl; have hfz23_0 := blk_frozen BK331.out 0; have hfz23_1 := blk_frozen BK331.out 1))
      have n0_ : Aside0 (Kd.R k36 36 ((w21.setCell ⟨gb331, 0, none⟩ (.int .i64 t328)).setCell ⟨gb331, 1, none⟩ (.int .i64 t329)) w.heap.size (fun _ => True) (.slice Ao17 t319.length co17) t319) := ⟨by (with_reducible repeat (first | apply Kd.R_alloc | apply Kd.R_drewN | apply Kd.R_drew)); exact Kd.R_mono (Kd.R_far (p := ⟨gb331, 1, none⟩) (Kd.R_far (p := ⟨gb331, 0, none⟩) (Kd.R_types HO321.out BK331.out (by decide)) (fun _ hk => hk.2) (.int .i64 t328)) (fun _ hk => hk.2) (.int .i64 t329)) (fun _ hk => trivial)⟩
      have n1_ : Aside0 (((w21.setCell ⟨gb331, 0, none⟩ (.int .i64 t328)).setCell ⟨gb331, 1, none⟩ (.int .i64 t329)).heap[gb331]? = some (.cells #[.int .i64 t328, .int .i64 t329] 34 (0, 0))) := ⟨by (with_reducible repeat (first | refine blk_drewN ?_ _ | refine blk_drew ?_ | refine blk_alloc ?_ _)); refine blk_put (cs := #[.int .i64 t328, .int .i64 0]) ?_ 1 _ rfl; (with_reducible repeat (first | refine blk_drewN ?_ _ | refine blk_drew ?_ | refine blk_alloc ?_ _)); refine blk_put (cs := #[.int .i64 0, .int .i64 0]) ?_ 0 _ rfl; (with_reducible repeat (first | refine blk_drewN ?_ _ | refine blk_drew ?_ | refine blk_alloc ?_ _)); exact BK331.out⟩
      have n2_ : Aside0 (IsS76 w ((w21.setCell ⟨gb331, 0, none⟩ (.int .i64 t328)).setCell ⟨gb331, 1, none⟩ (.int .i64 t329)) g318 t327) := ⟨by repeat (first | (with_reducible first | exact HI318.out | apply IsS76.alloc | apply IsS76.drewN | apply IsS76.drew | apply IsS76.set_0 | refine IsS76.far ?_ NB318_331.out _) | exact HI318.out)⟩
      have n3_ : Aside0 (Below w.heap.size w ((w21.setCell ⟨gb331, 0, none⟩ (.int .i64 t328)).setCell ⟨gb331, 1, none⟩ (.int .i64 t329))) := ⟨by repeat (first | (with_reducible first | exact HB.out | apply below_alloc | apply pw_below_drewN | apply below_drew1 | refine below_set ?_ (IsS76.ge HI318.out) | refine below_set ?_ GE331.out) | exact HB.out)⟩
      (try clear HO321)
      (try clear BK331)
      (try clear HI318)
      (try clear HB)
      generalize ((w21.setCell ⟨gb331, 0, none⟩ (.int .i64 t328)).setCell ⟨gb331, 1, none⟩ (.int .i64 t329)) = w24 at n0_ n1_ n2_ n3_ ⊢
      have HO321 := n0_
      have BK331 := n1_
      have HI318 := n2_
      have HB := n3_
      clear n0_ n1_ n2_ n3_
      have n0_ := Aside0.mk (Kd.R_drew HO321.out)
      have n1_ := Aside0.mk (blk_drew BK331.out)
      have n2_ := Aside0.mk (IsS76.drew HI318.out)
      have n3_ := Aside0.mk (below_drew1 HB.out)
      clear HO321
      clear BK331
      clear HI318
      clear HB
      have HO321 := n0_
      have BK331 := n1_
      have HI318 := n2_
      have HB := n3_
      clear n0_ n1_ n2_ n3_
      have p332 : 0 ≤ (t323 : Int) := of_decide_eq_true (by first | (with_reducible assumption) | assumption)
      have q332 : t323 < (t319.length : Int) := of_decide_eq_true (by first | (with_reducible assumption) | assumption)
      obtain ⟨ad332, e332, hx332_0, hx332_1, hx332_2, hx332_3, hx332_4, hx332_5, hx332_6⟩ := at_T36 (Kd.R_reads' HO321.out).2.2 t323 p332 q332
      cases e332
      replace p332 := eq_true p332
      replace q332 := eq_true q332
      refine start_ (n := 19) (S := fun w' => w'.cell? (ad332.add ((t323).toNat * 7)) = some (.int .i64 ((rd_T36 t319 t323).f0.f0)) ∧ w'.cell? ⟨(ad332.add ((t323).toNat * 7)).block, (ad332.add ((t323).toNat * 7)).off + 1, none⟩ = some (.int .i64 ((rd_T36 t319 t323).f0.f1)) ∧ w'.cell? ⟨(ad332.add ((t323).toNat * 7)).block, (ad332.add ((t323).toNat * 7)).off + 2, none⟩ = some (.int .i64 ((rd_T36 t319 t323).f1.f0)) ∧ w'.cell? ⟨(ad332.add ((t323).toNat * 7)).block, (ad332.add ((t323).toNat * 7)).off + 3, none⟩ = some (.int .i64 ((rd_T36 t319 t323).f1.f1)) ∧ w'.cell? ⟨(ad332.add ((t323).toNat * 7)).block, (ad332.add ((t323).toNat * 7)).off + 4, none⟩ = some (.int .i64 ((rd_T36 t319 t323).f2)) ∧ w'.cell? ⟨(ad332.add ((t323).toNat * 7)).block, (ad332.add ((t323).toNat * 7)).off + 5, none⟩ = some (.int .i64 ((rd_T36 t319 t323).f3)) ∧ w'.cell? ⟨(ad332.add ((t323).toNat * 7)).block, (ad332.add ((t323).toNat * 7)).off + 6, none⟩ = some (.int .i64 ((rd_T36 t319 t323).f4))) (ds := []) #[false, false, false, false, false, false, false, false, false, false, false, false, false, false, false, false, false, false, false] (by kernel_rfl) rfl rfl ⟨hx332_0, hx332_1, hx332_2, hx332_3, hx332_4, hx332_5, hx332_6⟩ (fun hHeld => ?_); refine with_tabW thermionlaw07_GaugeRises.tab6 thermionlaw07_GaugeRises.bits6 (fun HT_ HW_ => ?_)
      generalize w24.drew = w25 at HO321 BK331 HI318 HB hx332_0 hx332_1 hx332_2 hx332_3 hx332_4 hx332_5 hx332_6 hHeld ⊢
      refine pure_ (i := 0) (N := some 42) (v := ?_) (a' := ?_) #[true, false, false, false, false, false, false, false, false, false, false, false, false, false, false, false, false, false, false] rfl rfl (any_of HT_.out (by kernel_rfl)) (fun _ _ _ h => h) (Or.inl ⟨by rfl, ?_⟩) ?_ ?_
      rotate_left
      · intro w'
        go_simp
        with_reducible rfl
      rotate_left
      · simp only [Act.put, List.setIfInBounds_toArray, List.set_cons_zero, List.set_cons_succ, i64_w, i32_w]
        rfl
      refine pure_ (i := 1) (N := some 43) (v := ?_) (a' := ?_) #[true, true, false, false, false, false, false, false, false, false, false, false, false, false, false, false, false, false, false] rfl rfl (any_of HT_.out (by kernel_rfl)) (fun _ _ _ h => h) (Or.inl ⟨by rfl, ?_⟩) ?_ ?_
      rotate_left
      · intro w'
        go_simp
        with_reducible rfl
      rotate_left
      · simp only [Act.put, List.setIfInBounds_toArray, List.set_cons_zero, List.set_cons_succ, i64_w, i32_w]
        rfl
      refine pure_ (i := 2) (N := some 44) (v := ?_) (a' := ?_) #[true, true, true, false, false, false, false, false, false, false, false, false, false, false, false, false, false, false, false] rfl rfl (any_of HT_.out (by kernel_rfl)) (fun _ _ _ h => h) (Or.inl ⟨by rfl, ?_⟩) ?_ ?_
      rotate_left
      · intro w'
        go_simp
        with_reducible rfl
      rotate_left
      · simp only [Act.put, List.setIfInBounds_toArray, List.set_cons_zero, List.set_cons_succ, i64_w, i32_w]
        rfl
      refine pure_ (i := 3) (N := some 45) (v := ?_) (a' := ?_) #[true, true, true, true, false, false, false, false, false, false, false, false, false, false, false, false, false, false, false] rfl rfl (any_of HT_.out (by kernel_rfl)) (fun _ _ _ h => h) (Or.inl ⟨by rfl, ?_⟩) ?_ ?_
      rotate_left
      · intro w'
        go_simp
        with_reducible rfl
      rotate_left
      · simp only [Act.put, List.setIfInBounds_toArray, List.set_cons_zero, List.set_cons_succ, i64_w, i32_w]
        rfl
      refine pure_ (i := 4) (N := some 46) (v := ?_) (a' := ?_) #[true, true, true, true, true, false, false, false, false, false, false, false, false, false, false, false, false, false, false] rfl rfl (any_of HT_.out (by kernel_rfl)) (fun _ _ _ h => h) (Or.inl ⟨by rfl, ?_⟩) ?_ ?_
      rotate_left
      · intro w'
        go_simp
        with_reducible rfl
      rotate_left
      · simp only [Act.put, List.setIfInBounds_toArray, List.set_cons_zero, List.set_cons_succ, i64_w, i32_w]
        rfl
      refine pure_ (i := 5) (N := some 47) (v := ?_) (a' := ?_) #[true, true, true, true, true, true, false, false, false, false, false, false, false, false, false, false, false, false, false] rfl rfl (any_of HT_.out (by kernel_rfl)) (fun _ _ _ h => h) (Or.inl ⟨by rfl, ?_⟩) ?_ ?_
      rotate_left
      · intro w'
        go_simp
        with_reducible rfl
      rotate_left
      · simp only [Act.put, List.setIfInBounds_toArray, List.set_cons_zero, List.set_cons_succ, i64_w, i32_w]
        rfl
      refine pure_ (i := 6) (N := some 48) (v := ?_) (a' := ?_) #[true, true, true, true, true, true, true, false, false, false, false, false, false, false, false, false, false, false, false] rfl rfl (any_of HT_.out (by kernel_rfl)) (fun _ _ _ h => h) (Or.inl ⟨by rfl, ?_⟩) ?_ ?_
      rotate_left
      · intro w'
        go_simp
        with_reducible rfl
      rotate_left
      · simp only [Act.put, List.setIfInBounds_toArray, List.set_cons_zero, List.set_cons_succ, i64_w, i32_w]
        rfl
      refine pure_ (i := 8) (N := some 50) (v := ?_) (a' := ?_) #[true, true, true, true, true, true, true, false, true, false, false, false, false, false, false, false, false, false, false] rfl rfl (any_of HT_.out (by kernel_rfl)) (fun _ _ _ h => h) (Or.inl ⟨by rfl, ?_⟩) ?_ ?_
      rotate_left
      · intro w'
        go_simp
        with_reducible rfl
      rotate_left
      · simp only [Act.put, List.setIfInBounds_toArray, List.set_cons_zero, List.set_cons_succ, i64_w, i32_w]
        rfl
      refine take_ (i := 7) (N := some 49) (v := ?_) (a' := ?_) #[true, true, true, true, true, true, true, true, true, false, false, false, false, false, false, false, false, false, false] rfl rfl (take_ofW HT_.out HW_.out (by kernel_rfl)) (fun _ _ _ h => h) (Or.inl ⟨by rfl, ?_⟩) hHeld ?_ ?_
      rotate_left
      · rintro w' ⟨s0, s1, s2, s3, s4, s5, s6⟩
        go_simp
        with_reducible rfl
      rotate_left
      · simp only [Act.put, List.setIfInBounds_toArray, List.set_cons_zero, List.set_cons_succ, i64_w, i32_w]
        rfl
      refine join_ (σ := Nat) 2 #[true, true, true, true, true, true, true, true, true, true, true, true, true, true, true, true, true, false, false] (fun s_ => [(51, .int .i64 t333), (54, .tuple #[.agg #[.int .i64 t334, .int .i64 t335], .int .i64 t336]), (13, .pointer (some ⟨s_, 0, none⟩)), (52, .int .i64 (wrap64 (((rd_T36 t319 t323).f2) * t333))), (53, .int .i64 (wrap64 (t326 + (wrap64 (((rd_T36 t319 t323).f2) * t333))))), (41, .tuple #[.agg #[.int .i64 t334, .int .i64 t335], .int .i64 t336]), (55, .agg #[.int .i64 t334, .int .i64 t335]), (56, .int .i64 t336)]) (fun s_ w' => (w'.cell? (ad332.add ((t323).toNat * 7)) = some (.int .i64 ((rd_T36 t319 t323).f0.f0)) ∧ w'.cell? ⟨(ad332.add ((t323).toNat * 7)).block, (ad332.add ((t323).toNat * 7)).off + 1, none⟩ = some (.int .i64 ((rd_T36 t319 t323).f0.f1)) ∧ w'.cell? ⟨(ad332.add ((t323).toNat * 7)).block, (ad332.add ((t323).toNat * 7)).off + 2, none⟩ = some (.int .i64 ((rd_T36 t319 t323).f1.f0)) ∧ w'.cell? ⟨(ad332.add ((t323).toNat * 7)).block, (ad332.add ((t323).toNat * 7)).off + 3, none⟩ = some (.int .i64 ((rd_T36 t319 t323).f1.f1)) ∧ w'.cell? ⟨(ad332.add ((t323).toNat * 7)).block, (ad332.add ((t323).toNat * 7)).off + 4, none⟩ = some (.int .i64 ((rd_T36 t319 t323).f2)) ∧ w'.cell? ⟨(ad332.add ((t323).toNat * 7)).block, (ad332.add ((t323).toNat * 7)).off + 5, none⟩ = some (.int .i64 ((rd_T36 t319 t323).f3)) ∧ w'.cell? ⟨(ad332.add ((t323).toNat * 7)).block, (ad332.add ((t323).toNat * 7)).off + 6, none⟩ = some (.int .i64 ((rd_T36 t319 t323).f4))) ∧ (Kd.R k36 36 w' w.heap.size (fun _ => True) (.slice (some ad332) t319.length co17) t319) ∧ (w'.heap[gb331]? = some (.cells #[.int .i64 t328, .int .i64 t329] 34 (0, 0))) ∧ (w'.heap[s_]? = some (.cells #[.int .i64 0, .int .i64 0] 34 (0, 0))) ∧ (w.heap.size ≤ s_) ∧ (w.heap.size ≤ s_) ∧ (g318 ≠ s_) ∧ (s_ ≠ g318) ∧ (gb331 ≠ s_) ∧ (s_ ≠ gb331) ∧ (IsS76 w w' g318 t327) ∧ (Below w.heap.size w w')) ?_ ?_
      rotate_left
      · intro hCont
        refine two_ (i := 9) (j := 16) (Ni := some 51) (Nj := some 13) #[true, true, true, true, true, true, true, true, true, true, false, false, false, false, false, false, false, false, false] #[true, true, true, true, true, true, true, true, true, false, false, false, false, false, false, false, true, false, false] rfl rfl rfl rfl (two_of HT_.out (by kernel_rfl)) (by decide) (by decide) (fun K hK => ?_) (fun K hK => ?_)
        · skip
          refine goes_ Try.func17 (by kernel_rfl) rfl #[.int .i64 a2, .int .i64 50] (by rfl) rfl rfl (by (try simp only [List.map_toArray, List.map_cons, List.map_nil]); first | done | rfl | (simp only [List.length_drop, List.length_take]; rfl)) ?_
          with_reducible refine (thermionkit_Mod.calls a2 50 t333 _ A12.out).mono ?_
          rintro e w' ⟨rfl, ⟨nd, rfl⟩⟩
          refine ⟨_, rfl, ?_⟩
          refine hK.out _ _ ⟨hHeld.1, hHeld.2.1, hHeld.2.2.1, hHeld.2.2.2.1, hHeld.2.2.2.2.1, hHeld.2.2.2.2.2.1, hHeld.2.2.2.2.2.2⟩ (fun hHeld => ?_)
          clear hK K
          refine norm_ (a' := ?_) ?_ ?_
          rotate_left
          · show Act.put _ (some 51) _ = _
            simp only [Act.put, List.setIfInBounds_toArray, List.set_cons_zero, List.set_cons_succ, i64_w, i32_w]
            rfl
          refine pure_ (i := 10) (N := some 52) (v := ?_) (a' := ?_) #[true, true, true, true, true, true, true, true, true, true, true, false, false, false, false, false, false, false, false] rfl rfl (any_of HT_.out (by kernel_rfl)) (fun _ _ _ h => h) (Or.inl ⟨by rfl, ?_⟩) ?_ ?_
          rotate_left
          · intro w'
            go_simp
            with_reducible rfl
          rotate_left
          · simp only [Act.put, List.setIfInBounds_toArray, List.set_cons_zero, List.set_cons_succ, i64_w, i32_w]
            rfl
          refine pure_ (i := 11) (N := some 53) (v := ?_) (a' := ?_) #[true, true, true, true, true, true, true, true, true, true, true, true, false, false, false, false, false, false, false] rfl rfl (any_of HT_.out (by kernel_rfl)) (fun _ _ _ h => h) (Or.inl ⟨by rfl, ?_⟩) ?_ ?_
          rotate_left
          · intro w'
            go_simp
            with_reducible rfl
          rotate_left
          · simp only [Act.put, List.setIfInBounds_toArray, List.set_cons_zero, List.set_cons_succ, i64_w, i32_w]
            rfl
          refine two_ (i := 12) (j := 16) (Ni := some 54) (Nj := some 13) #[true, true, true, true, true, true, true, true, true, true, true, true, true, false, false, false, false, false, false] #[true, true, true, true, true, true, true, true, true, true, true, true, false, false, false, false, true, false, false] rfl rfl rfl rfl (two_of HT_.out (by kernel_rfl)) (by decide) (by decide) (fun K hK => ?_) (fun K hK => ?_)
          · skip
            refine goes_ Try.func21 (by kernel_rfl) rfl #[.slice (some ad332) t319.length co17, .int .i64 t323, .int .i64 (wrap64 (t326 + (wrap64 (((rd_T36 t319 t323).f2) * t333))))] (by rfl) rfl rfl (by (try simp only [List.map_toArray, List.map_cons, List.map_nil]); first | done | rfl | (simp only [List.length_drop, List.length_take]; rfl)) ?_
            with_reducible refine (gauge_True.calls _ _ t319 t323 (wrap64 (t326 + (wrap64 (((rd_T36 t319 t323).f2) * t333)))) t334 t335 t336 _ ?side1 ?side2 A13.out).mono ?_
            (case side1 => repeat (first | exact (Kd.R_reads' HO321.out).2.2 | (with_reducible refine Kd.C_alloc ?_ _) | (with_reducible refine Kd.C_drewN ?_ _) | (with_reducible refine Kd.C_drew ?_)))
            (case side2 => exact (Kd.R_reads' HO321.out).2.1)
            rintro e w26 ⟨rfl, hb⟩
            have HS0_ := (hb.cell (World.block_lt_of_cell? _ _ (hHeld.1))).trans (hHeld.1)
            have HS1_ := (hb.cell (World.block_lt_of_cell? _ _ (hHeld.2.1))).trans (hHeld.2.1)
            have HS2_ := (hb.cell (World.block_lt_of_cell? _ _ (hHeld.2.2.1))).trans (hHeld.2.2.1)
            have HS3_ := (hb.cell (World.block_lt_of_cell? _ _ (hHeld.2.2.2.1))).trans (hHeld.2.2.2.1)
            have HS4_ := (hb.cell (World.block_lt_of_cell? _ _ (hHeld.2.2.2.2.1))).trans (hHeld.2.2.2.2.1)
            have HS5_ := (hb.cell (World.block_lt_of_cell? _ _ (hHeld.2.2.2.2.2.1))).trans (hHeld.2.2.2.2.2.1)
            have HS6_ := (hb.cell (World.block_lt_of_cell? _ _ (hHeld.2.2.2.2.2.2))).trans (hHeld.2.2.2.2.2.2)
            refine ⟨_, rfl, ?_⟩
            have n0_ := Aside0.mk (Kd.R_below (by (with_reducible repeat (first | apply Kd.R_alloc | apply Kd.R_drewN | apply Kd.R_drew)); exact HO321.out) hb)
            have n1_ := Aside0.mk (IsS76.below (by repeat (first | (with_reducible first | exact HI318.out | apply IsS76.alloc | apply IsS76.drewN | apply IsS76.drew | apply IsS76.set_0 | refine IsS76.far ?_ NB318_331.out _) | exact HI318.out)) hb)
            have n2_ := Aside0.mk (blk_below (g := gb331) (o := .cells #[.int .i64 t328, .int .i64 t329] 34 (0, 0)) (by (with_reducible repeat (first | refine blk_drewN ?_ _ | refine blk_drew ?_ | refine blk_alloc ?_ _)); exact BK331.out) hb)
            have n3_ := Aside0.mk (below_step (by repeat (first | (with_reducible first | exact HB.out | apply below_alloc | apply pw_below_drewN | apply below_drew1 | refine below_set ?_ (IsS76.ge HI318.out) | refine below_set ?_ GE331.out) | exact HB.out)) hb)
            clear HO321
            clear HI318
            clear BK331
            clear HB
            have HO321 := n0_
            have HI318 := n1_
            have BK331 := n2_
            have HB := n3_
            clear n0_ n1_ n2_ n3_
            (try clear hb)
            (try clear hb2)
            (try clear hk)
            (try clear hi)
            refine hK.out _ _ ⟨HS0_, HS1_, HS2_, HS3_, HS4_, HS5_, HS6_⟩ (fun hHeld => ?_)
            clear hK K
            refine norm_ (a' := ?_) ?_ ?_
            rotate_left
            · show Act.put _ (some 54) _ = _
              simp only [Act.put, List.setIfInBounds_toArray, List.set_cons_zero, List.set_cons_succ, i64_w, i32_w]
              rfl
            refine pure_ (i := 13) (N := some 41) (v := ?_) (a' := ?_) #[true, true, true, true, true, true, true, true, true, true, true, true, true, true, false, false, false, false, false] rfl rfl (any_of HT_.out (by kernel_rfl)) (fun _ _ _ h => h) (Or.inl ⟨by rfl, ?_⟩) ?_ ?_
            rotate_left
            · intro w'
              go_simp
              with_reducible rfl
            rotate_left
            · simp only [Act.put, List.setIfInBounds_toArray, List.set_cons_zero, List.set_cons_succ, i64_w, i32_w]
              rfl
            refine pure_ (i := 14) (N := some 55) (v := ?_) (a' := ?_) #[true, true, true, true, true, true, true, true, true, true, true, true, true, true, true, false, false, false, false] rfl rfl (any_of HT_.out (by kernel_rfl)) (fun _ _ _ h => h) (Or.inl ⟨by rfl, ?_⟩) ?_ ?_
            rotate_left
            · intro w'
              go_simp
              with_reducible rfl
            rotate_left
            · simp only [Act.put, List.setIfInBounds_toArray, List.set_cons_zero, List.set_cons_succ, i64_w, i32_w]
              rfl
            refine pure_ (i := 15) (N := some 56) (v := ?_) (a' := ?_) #[true, true, true, true, true, true, true, true, true, true, true, true, true, true, true, true, false, false, false] rfl rfl (any_of HT_.out (by kernel_rfl)) (fun _ _ _ h => h) (Or.inl ⟨by rfl, ?_⟩) ?_ ?_
            rotate_left
            · intro w'
              go_simp
              with_reducible rfl
            rotate_left
            · simp only [Act.put, List.setIfInBounds_toArray, List.set_cons_zero, List.set_cons_succ, i64_w, i32_w]
              rfl
            refine one_ (i := 16) (N := some 13) #[true, true, true, true, true, true, true, true, true, true, true, true, true, true, true, true, true, false, false] rfl rfl (one_of HT_.out (by kernel_rfl)) (by decide) (fun K hK => ?_)
            refine box_step ?hg (N := 13) ?hd (cs := #[.int .i64 0, .int .i64 0]) (t := 34) ?hr ?_; (case hd => rfl); (case hg => rfl); (case hr => first | (go_simp; done) | (go_simp; rfl))
            intro gb337 hg w27 hbox hb
            have HS0_ := (hb.cell (World.block_lt_of_cell? _ _ (hHeld.1))).trans (hHeld.1)
            have HS1_ := (hb.cell (World.block_lt_of_cell? _ _ (hHeld.2.1))).trans (hHeld.2.1)
            have HS2_ := (hb.cell (World.block_lt_of_cell? _ _ (hHeld.2.2.1))).trans (hHeld.2.2.1)
            have HS3_ := (hb.cell (World.block_lt_of_cell? _ _ (hHeld.2.2.2.1))).trans (hHeld.2.2.2.1)
            have HS4_ := (hb.cell (World.block_lt_of_cell? _ _ (hHeld.2.2.2.2.1))).trans (hHeld.2.2.2.2.1)
            have HS5_ := (hb.cell (World.block_lt_of_cell? _ _ (hHeld.2.2.2.2.2.1))).trans (hHeld.2.2.2.2.2.1)
            have HS6_ := (hb.cell (World.block_lt_of_cell? _ _ (hHeld.2.2.2.2.2.2))).trans (hHeld.2.2.2.2.2.2)
            have n0_ := Aside0.mk (Kd.R_below (by (with_reducible repeat (first | apply Kd.R_alloc | apply Kd.R_drewN | apply Kd.R_drew)); exact HO321.out) hb)
            have n1_ := Aside0.mk (IsS76.below (by repeat (first | (with_reducible first | exact HI318.out | apply IsS76.alloc | apply IsS76.drewN | apply IsS76.drew | apply IsS76.set_0 | refine IsS76.far ?_ NB318_331.out _) | exact HI318.out)) hb)
            have n2_ := Aside0.mk (blk_below (g := gb331) (o := .cells #[.int .i64 t328, .int .i64 t329] 34 (0, 0)) (by (with_reducible repeat (first | refine blk_drewN ?_ _ | refine blk_drew ?_ | refine blk_alloc ?_ _)); exact BK331.out) hb)
            have n3_ := Aside0.mk (below_step (by repeat (first | (with_reducible first | exact HB.out | apply below_alloc | apply pw_below_drewN | apply below_drew1 | refine below_set ?_ (IsS76.ge HI318.out) | refine below_set ?_ GE331.out) | exact HB.out)) hb)
            have n4_ := Aside0.mk (hbox)
            have n5_ := Aside0.mk ((by rw [hg]; exact (below_size (by repeat (first | (with_reducible first | exact HB.out | apply below_alloc | apply pw_below_drewN | apply below_drew1 | refine below_set ?_ (IsS76.ge HI318.out) | refine below_set ?_ GE331.out) | exact HB.out))) : w.heap.size ≤ gb337))
            have n6_ := Aside0.mk ((by rw [hg]; exact (below_size (by repeat (first | (with_reducible first | exact HB.out | apply below_alloc | apply pw_below_drewN | apply below_drew1 | refine below_set ?_ (IsS76.ge HI318.out) | refine below_set ?_ GE331.out) | exact HB.out))) : w.heap.size ≤ gb337))
            have n7_ := Aside0.mk ((by rw [hg]; exact Nat.ne_of_lt (blk_lt (g := gb331) (o := .cells #[.int .i64 t328, .int .i64 t329] 34 (0, 0)) (by (with_reducible repeat (first | refine blk_drewN ?_ _ | refine blk_drew ?_ | refine blk_alloc ?_ _)); exact BK331.out)) : gb331 ≠ gb337))
            have n8_ := Aside0.mk ((by rw [hg]; exact Nat.ne_of_gt (blk_lt (g := gb331) (o := .cells #[.int .i64 t328, .int .i64 t329] 34 (0, 0)) (by (with_reducible repeat (first | refine blk_drewN ?_ _ | refine blk_drew ?_ | refine blk_alloc ?_ _)); exact BK331.out)) : gb337 ≠ gb331))
            have n9_ := Aside0.mk ((by rw [hg]; exact Nat.ne_of_lt (IsS76.lt (show IsS76 w _ g318 t327 from by repeat (first | (with_reducible first | exact HI318.out | apply IsS76.alloc | apply IsS76.drewN | apply IsS76.drew | apply IsS76.set_0 | refine IsS76.far ?_ NB318_331.out _) | exact HI318.out))) : g318 ≠ gb337))
            have n10_ := Aside0.mk ((by rw [hg]; exact Nat.ne_of_gt (IsS76.lt (show IsS76 w _ g318 t327 from by repeat (first | (with_reducible first | exact HI318.out | apply IsS76.alloc | apply IsS76.drewN | apply IsS76.drew | apply IsS76.set_0 | refine IsS76.far ?_ NB318_331.out _) | exact HI318.out))) : gb337 ≠ g318))
            clear HO321
            clear HI318
            clear BK331
            clear HB
            have HO321 := n0_
            have HI318 := n1_
            have BK331 := n2_
            have HB := n3_
            have BK337 := n4_
            have GW337 := n5_
            have GE337 := n6_
            have NB331_337 := n7_
            have NB337_331 := n8_
            have NB318_337 := n9_
            have NB337_318 := n10_
            clear n0_ n1_ n2_ n3_ n4_ n5_ n6_ n7_ n8_ n9_ n10_
            clear hb hbox hg
            refine hK.out _ _ ⟨HS0_, HS1_, HS2_, HS3_, HS4_, HS5_, HS6_⟩ (fun hHeld => ?_)
            clear hK K
            refine norm_ (a' := ?_) ?_ ?_
            rotate_left
            · show Act.put _ (some 13) _ = _
              simp only [Act.put, List.setIfInBounds_toArray, List.set_cons_zero, List.set_cons_succ, i64_w, i32_w]
              rfl
            exact norm_ (by simp only [putAll, Act.put, List.setIfInBounds_toArray, List.set_cons_zero, List.set_cons_succ]) (hCont (gb337) _ ⟨hHeld, (by (with_reducible repeat (first | apply Kd.R_alloc | apply Kd.R_drewN | apply Kd.R_drew)); exact HO321.out), (by (with_reducible repeat (first | refine blk_drewN ?_ _ | refine blk_drew ?_ | refine blk_alloc ?_ _)); exact BK331.out), (by (with_reducible repeat (first | refine blk_drewN ?_ _ | refine blk_drew ?_ | refine blk_alloc ?_ _)); exact BK337.out), GW337.out, GE337.out, NB318_337.out, NB337_318.out, NB331_337.out, NB337_331.out, (by repeat (first | (with_reducible first | exact HI318.out | apply IsS76.alloc | apply IsS76.drewN | apply IsS76.drew | apply IsS76.set_0 | refine IsS76.far ?_ NB318_331.out _ | refine IsS76.far ?_ NB318_337.out _) | exact HI318.out)), (by repeat (first | (with_reducible first | exact HB.out | apply below_alloc | apply pw_below_drewN | apply below_drew1 | refine below_set ?_ (IsS76.ge HI318.out) | refine below_set ?_ GE331.out | refine below_set ?_ GE337.out) | exact HB.out))⟩)
          · skip
            refine box_step ?hg (N := 13) ?hd (cs := #[.int .i64 0, .int .i64 0]) (t := 34) ?hr ?_; (case hd => rfl); (case hg => rfl); (case hr => first | (go_simp; done) | (go_simp; rfl))
            intro gb337 hg w26 hbox hb
            have HS0_ := (hb.cell (World.block_lt_of_cell? _ _ (hHeld.1))).trans (hHeld.1)
            have HS1_ := (hb.cell (World.block_lt_of_cell? _ _ (hHeld.2.1))).trans (hHeld.2.1)
            have HS2_ := (hb.cell (World.block_lt_of_cell? _ _ (hHeld.2.2.1))).trans (hHeld.2.2.1)
            have HS3_ := (hb.cell (World.block_lt_of_cell? _ _ (hHeld.2.2.2.1))).trans (hHeld.2.2.2.1)
            have HS4_ := (hb.cell (World.block_lt_of_cell? _ _ (hHeld.2.2.2.2.1))).trans (hHeld.2.2.2.2.1)
            have HS5_ := (hb.cell (World.block_lt_of_cell? _ _ (hHeld.2.2.2.2.2.1))).trans (hHeld.2.2.2.2.2.1)
            have HS6_ := (hb.cell (World.block_lt_of_cell? _ _ (hHeld.2.2.2.2.2.2))).trans (hHeld.2.2.2.2.2.2)
            have n0_ := Aside0.mk (Kd.R_below (by (with_reducible repeat (first | apply Kd.R_alloc | apply Kd.R_drewN | apply Kd.R_drew)); exact HO321.out) hb)
            have n1_ := Aside0.mk (IsS76.below (by repeat (first | (with_reducible first | exact HI318.out | apply IsS76.alloc | apply IsS76.drewN | apply IsS76.drew | apply IsS76.set_0 | refine IsS76.far ?_ NB318_331.out _) | exact HI318.out)) hb)
            have n2_ := Aside0.mk (blk_below (g := gb331) (o := .cells #[.int .i64 t328, .int .i64 t329] 34 (0, 0)) (by (with_reducible repeat (first | refine blk_drewN ?_ _ | refine blk_drew ?_ | refine blk_alloc ?_ _)); exact BK331.out) hb)
            have n3_ := Aside0.mk (below_step (by repeat (first | (with_reducible first | exact HB.out | apply below_alloc | apply pw_below_drewN | apply below_drew1 | refine below_set ?_ (IsS76.ge HI318.out) | refine below_set ?_ GE331.out) | exact HB.out)) hb)
            have n4_ := Aside0.mk (hbox)
            have n5_ := Aside0.mk ((by rw [hg]; exact (below_size (by repeat (first | (with_reducible first | exact HB.out | apply below_alloc | apply pw_below_drewN | apply below_drew1 | refine below_set ?_ (IsS76.ge HI318.out) | refine below_set ?_ GE331.out) | exact HB.out))) : w.heap.size ≤ gb337))
            have n6_ := Aside0.mk ((by rw [hg]; exact (below_size (by repeat (first | (with_reducible first | exact HB.out | apply below_alloc | apply pw_below_drewN | apply below_drew1 | refine below_set ?_ (IsS76.ge HI318.out) | refine below_set ?_ GE331.out) | exact HB.out))) : w.heap.size ≤ gb337))
            have n7_ := Aside0.mk ((by rw [hg]; exact Nat.ne_of_lt (blk_lt (g := gb331) (o := .cells #[.int .i64 t328, .int .i64 t329] 34 (0, 0)) (by (with_reducible repeat (first | refine blk_drewN ?_ _ | refine blk_drew ?_ | refine blk_alloc ?_ _)); exact BK331.out)) : gb331 ≠ gb337))
            have n8_ := Aside0.mk ((by rw [hg]; exact Nat.ne_of_gt (blk_lt (g := gb331) (o := .cells #[.int .i64 t328, .int .i64 t329] 34 (0, 0)) (by (with_reducible repeat (first | refine blk_drewN ?_ _ | refine blk_drew ?_ | refine blk_alloc ?_ _)); exact BK331.out)) : gb337 ≠ gb331))
            have n9_ := Aside0.mk ((by rw [hg]; exact Nat.ne_of_lt (IsS76.lt (show IsS76 w _ g318 t327 from by repeat (first | (with_reducible first | exact HI318.out | apply IsS76.alloc | apply IsS76.drewN | apply IsS76.drew | apply IsS76.set_0 | refine IsS76.far ?_ NB318_331.out _) | exact HI318.out))) : g318 ≠ gb337))
            have n10_ := Aside0.mk ((by rw [hg]; exact Nat.ne_of_gt (IsS76.lt (show IsS76 w _ g318 t327 from by repeat (first | (with_reducible first | exact HI318.out | apply IsS76.alloc | apply IsS76.drewN | apply IsS76.drew | apply IsS76.set_0 | refine IsS76.far ?_ NB318_331.out _) | exact HI318.out))) : gb337 ≠ g318))
            clear HO321
            clear HI318
            clear BK331
            clear HB
            have HO321 := n0_
            have HI318 := n1_
            have BK331 := n2_
            have HB := n3_
            have BK337 := n4_
            have GW337 := n5_
            have GE337 := n6_
            have NB331_337 := n7_
            have NB337_331 := n8_
            have NB318_337 := n9_
            have NB337_318 := n10_
            clear n0_ n1_ n2_ n3_ n4_ n5_ n6_ n7_ n8_ n9_ n10_
            clear hb hbox hg
            refine hK.out _ _ ⟨HS0_, HS1_, HS2_, HS3_, HS4_, HS5_, HS6_⟩ (fun hHeld => ?_)
            clear hK K
            refine norm_ (a' := ?_) ?_ ?_
            rotate_left
            · show Act.put _ (some 13) _ = _
              simp only [Act.put, List.setIfInBounds_toArray, List.set_cons_zero, List.set_cons_succ, i64_w, i32_w]
              rfl
            refine one_ (i := 12) (N := some 54) #[true, true, true, true, true, true, true, true, true, true, true, true, true, false, false, false, true, false, false] rfl rfl (one_of HT_.out (by kernel_rfl)) (by decide) (fun K hK => ?_)
            refine goes_ Try.func21 (by kernel_rfl) rfl #[.slice (some ad332) t319.length co17, .int .i64 t323, .int .i64 (wrap64 (t326 + (wrap64 (((rd_T36 t319 t323).f2) * t333))))] (by rfl) rfl rfl (by (try simp only [List.map_toArray, List.map_cons, List.map_nil]); first | done | rfl | (simp only [List.length_drop, List.length_take]; rfl)) ?_
            with_reducible refine (gauge_True.calls _ _ t319 t323 (wrap64 (t326 + (wrap64 (((rd_T36 t319 t323).f2) * t333)))) t334 t335 t336 _ ?side1 ?side2 A13.out).mono ?_
            (case side1 => repeat (first | exact (Kd.R_reads' HO321.out).2.2 | (with_reducible refine Kd.C_alloc ?_ _) | (with_reducible refine Kd.C_drewN ?_ _) | (with_reducible refine Kd.C_drew ?_)))
            (case side2 => exact (Kd.R_reads' HO321.out).2.1)
            rintro e w27 ⟨rfl, hb⟩
            have HS0_ := (hb.cell (World.block_lt_of_cell? _ _ (hHeld.1))).trans (hHeld.1)
            have HS1_ := (hb.cell (World.block_lt_of_cell? _ _ (hHeld.2.1))).trans (hHeld.2.1)
            have HS2_ := (hb.cell (World.block_lt_of_cell? _ _ (hHeld.2.2.1))).trans (hHeld.2.2.1)
            have HS3_ := (hb.cell (World.block_lt_of_cell? _ _ (hHeld.2.2.2.1))).trans (hHeld.2.2.2.1)
            have HS4_ := (hb.cell (World.block_lt_of_cell? _ _ (hHeld.2.2.2.2.1))).trans (hHeld.2.2.2.2.1)
            have HS5_ := (hb.cell (World.block_lt_of_cell? _ _ (hHeld.2.2.2.2.2.1))).trans (hHeld.2.2.2.2.2.1)
            have HS6_ := (hb.cell (World.block_lt_of_cell? _ _ (hHeld.2.2.2.2.2.2))).trans (hHeld.2.2.2.2.2.2)
            refine ⟨_, rfl, ?_⟩
            have n0_ := Aside0.mk (Kd.R_below (by (with_reducible repeat (first | apply Kd.R_alloc | apply Kd.R_drewN | apply Kd.R_drew)); exact HO321.out) hb)
            have n1_ := Aside0.mk (IsS76.below (by repeat (first | (with_reducible first | exact HI318.out | apply IsS76.alloc | apply IsS76.drewN | apply IsS76.drew | apply IsS76.set_0 | refine IsS76.far ?_ NB318_331.out _ | refine IsS76.far ?_ NB318_337.out _) | exact HI318.out)) hb)
            have n2_ := Aside0.mk (blk_below (g := gb331) (o := .cells #[.int .i64 t328, .int .i64 t329] 34 (0, 0)) (by (with_reducible repeat (first | refine blk_drewN ?_ _ | refine blk_drew ?_ | refine blk_alloc ?_ _)); exact BK331.out) hb)
            have n3_ := Aside0.mk (blk_below (g := gb337) (o := .cells #[.int .i64 0, .int .i64 0] 34 (0, 0)) (by (with_reducible repeat (first | refine blk_drewN ?_ _ | refine blk_drew ?_ | refine blk_alloc ?_ _)); exact BK337.out) hb)
            have n4_ := Aside0.mk (below_step (by repeat (first | (with_reducible first | exact HB.out | apply below_alloc | apply pw_below_drewN | apply below_drew1 | refine below_set ?_ (IsS76.ge HI318.out) | refine below_set ?_ GE331.out | refine below_set ?_ GE337.out) | exact HB.out)) hb)
            clear HO321
            clear HI318
            clear BK331
            clear BK337
            clear HB
            have HO321 := n0_
            have HI318 := n1_
            have BK331 := n2_
            have BK337 := n3_
            have HB := n4_
            clear n0_ n1_ n2_ n3_ n4_
            (try clear hb)
            (try clear hb2)
            (try clear hk)
            (try clear hi)
            refine hK.out _ _ ⟨HS0_, HS1_, HS2_, HS3_, HS4_, HS5_, HS6_⟩ (fun hHeld => ?_)
            clear hK K
            refine norm_ (a' := ?_) ?_ ?_
            rotate_left
            · show Act.put _ (some 54) _ = _
              simp only [Act.put, List.setIfInBounds_toArray, List.set_cons_zero, List.set_cons_succ, i64_w, i32_w]
              rfl
            refine pure_ (i := 13) (N := some 41) (v := ?_) (a' := ?_) #[true, true, true, true, true, true, true, true, true, true, true, true, true, true, false, false, true, false, false] rfl rfl (any_of HT_.out (by kernel_rfl)) (fun _ _ _ h => h) (Or.inl ⟨by rfl, ?_⟩) ?_ ?_
            rotate_left
            · intro w'
              go_simp
              with_reducible rfl
            rotate_left
            · simp only [Act.put, List.setIfInBounds_toArray, List.set_cons_zero, List.set_cons_succ, i64_w, i32_w]
              rfl
            refine pure_ (i := 14) (N := some 55) (v := ?_) (a' := ?_) #[true, true, true, true, true, true, true, true, true, true, true, true, true, true, true, false, true, false, false] rfl rfl (any_of HT_.out (by kernel_rfl)) (fun _ _ _ h => h) (Or.inl ⟨by rfl, ?_⟩) ?_ ?_
            rotate_left
            · intro w'
              go_simp
              with_reducible rfl
            rotate_left
            · simp only [Act.put, List.setIfInBounds_toArray, List.set_cons_zero, List.set_cons_succ, i64_w, i32_w]
              rfl
            refine pure_ (i := 15) (N := some 56) (v := ?_) (a' := ?_) #[true, true, true, true, true, true, true, true, true, true, true, true, true, true, true, true, true, false, false] rfl rfl (any_of HT_.out (by kernel_rfl)) (fun _ _ _ h => h) (Or.inl ⟨by rfl, ?_⟩) ?_ ?_
            rotate_left
            · intro w'
              go_simp
              with_reducible rfl
            rotate_left
            · simp only [Act.put, List.setIfInBounds_toArray, List.set_cons_zero, List.set_cons_succ, i64_w, i32_w]
              rfl
            exact norm_ (by simp only [putAll, Act.put, List.setIfInBounds_toArray, List.set_cons_zero, List.set_cons_succ]) (hCont (gb337) _ ⟨hHeld, (by (with_reducible repeat (first | apply Kd.R_alloc | apply Kd.R_drewN | apply Kd.R_drew)); exact HO321.out), (by (with_reducible repeat (first | refine blk_drewN ?_ _ | refine blk_drew ?_ | refine blk_alloc ?_ _)); exact BK331.out), (by (with_reducible repeat (first | refine blk_drewN ?_ _ | refine blk_drew ?_ | refine blk_alloc ?_ _)); exact BK337.out), GW337.out, GE337.out, NB318_337.out, NB337_318.out, NB331_337.out, NB337_331.out, (by repeat (first | (with_reducible first | exact HI318.out | apply IsS76.alloc | apply IsS76.drewN | apply IsS76.drew | apply IsS76.set_0 | refine IsS76.far ?_ NB318_331.out _ | refine IsS76.far ?_ NB318_337.out _) | exact HI318.out)), (by repeat (first | (with_reducible first | exact HB.out | apply below_alloc | apply pw_below_drewN | apply below_drew1 | refine below_set ?_ (IsS76.ge HI318.out) | refine below_set ?_ GE331.out | refine below_set ?_ GE337.out) | exact HB.out))⟩)
        · skip
          refine box_step ?hg (N := 13) ?hd (cs := #[.int .i64 0, .int .i64 0]) (t := 34) ?hr ?_; (case hd => rfl); (case hg => rfl); (case hr => first | (go_simp; done) | (go_simp; rfl))
          intro gb337 hg w26 hbox hb
          have HS0_ := (hb.cell (World.block_lt_of_cell? _ _ (hHeld.1))).trans (hHeld.1)
          have HS1_ := (hb.cell (World.block_lt_of_cell? _ _ (hHeld.2.1))).trans (hHeld.2.1)
          have HS2_ := (hb.cell (World.block_lt_of_cell? _ _ (hHeld.2.2.1))).trans (hHeld.2.2.1)
          have HS3_ := (hb.cell (World.block_lt_of_cell? _ _ (hHeld.2.2.2.1))).trans (hHeld.2.2.2.1)
          have HS4_ := (hb.cell (World.block_lt_of_cell? _ _ (hHeld.2.2.2.2.1))).trans (hHeld.2.2.2.2.1)
          have HS5_ := (hb.cell (World.block_lt_of_cell? _ _ (hHeld.2.2.2.2.2.1))).trans (hHeld.2.2.2.2.2.1)
          have HS6_ := (hb.cell (World.block_lt_of_cell? _ _ (hHeld.2.2.2.2.2.2))).trans (hHeld.2.2.2.2.2.2)
          have n0_ := Aside0.mk (Kd.R_below (by (with_reducible repeat (first | apply Kd.R_alloc | apply Kd.R_drewN | apply Kd.R_drew)); exact HO321.out) hb)
          have n1_ := Aside0.mk (IsS76.below (by repeat (first | (with_reducible first | exact HI318.out | apply IsS76.alloc | apply IsS76.drewN | apply IsS76.drew | apply IsS76.set_0 | refine IsS76.far ?_ NB318_331.out _) | exact HI318.out)) hb)
          have n2_ := Aside0.mk (blk_below (g := gb331) (o := .cells #[.int .i64 t328, .int .i64 t329] 34 (0, 0)) (by (with_reducible repeat (first | refine blk_drewN ?_ _ | refine blk_drew ?_ | refine blk_alloc ?_ _)); exact BK331.out) hb)
          have n3_ := Aside0.mk (below_step (by repeat (first | (with_reducible first | exact HB.out | apply below_alloc | apply pw_below_drewN | apply below_drew1 | refine below_set ?_ (IsS76.ge HI318.out) | refine below_set ?_ GE331.out) | exact HB.out)) hb)
          have n4_ := Aside0.mk (hbox)
          have n5_ := Aside0.mk ((by rw [hg]; exact (below_size (by repeat (first | (with_reducible first | exact HB.out | apply below_alloc | apply pw_below_drewN | apply below_drew1 | refine below_set ?_ (IsS76.ge HI318.out) | refine below_set ?_ GE331.out) | exact HB.out))) : w.heap.size ≤ gb337))
          have n6_ := Aside0.mk ((by rw [hg]; exact (below_size (by repeat (first | (with_reducible first | exact HB.out | apply below_alloc | apply pw_below_drewN | apply below_drew1 | refine below_set ?_ (IsS76.ge HI318.out) | refine below_set ?_ GE331.out) | exact HB.out))) : w.heap.size ≤ gb337))
          have n7_ := Aside0.mk ((by rw [hg]; exact Nat.ne_of_lt (blk_lt (g := gb331) (o := .cells #[.int .i64 t328, .int .i64 t329] 34 (0, 0)) (by (with_reducible repeat (first | refine blk_drewN ?_ _ | refine blk_drew ?_ | refine blk_alloc ?_ _)); exact BK331.out)) : gb331 ≠ gb337))
          have n8_ := Aside0.mk ((by rw [hg]; exact Nat.ne_of_gt (blk_lt (g := gb331) (o := .cells #[.int .i64 t328, .int .i64 t329] 34 (0, 0)) (by (with_reducible repeat (first | refine blk_drewN ?_ _ | refine blk_drew ?_ | refine blk_alloc ?_ _)); exact BK331.out)) : gb337 ≠ gb331))
          have n9_ := Aside0.mk ((by rw [hg]; exact Nat.ne_of_lt (IsS76.lt (show IsS76 w _ g318 t327 from by repeat (first | (with_reducible first | exact HI318.out | apply IsS76.alloc | apply IsS76.drewN | apply IsS76.drew | apply IsS76.set_0 | refine IsS76.far ?_ NB318_331.out _) | exact HI318.out))) : g318 ≠ gb337))
          have n10_ := Aside0.mk ((by rw [hg]; exact Nat.ne_of_gt (IsS76.lt (show IsS76 w _ g318 t327 from by repeat (first | (with_reducible first | exact HI318.out | apply IsS76.alloc | apply IsS76.drewN | apply IsS76.drew | apply IsS76.set_0 | refine IsS76.far ?_ NB318_331.out _) | exact HI318.out))) : gb337 ≠ g318))
          clear HO321
          clear HI318
          clear BK331
          clear HB
          have HO321 := n0_
          have HI318 := n1_
          have BK331 := n2_
          have HB := n3_
          have BK337 := n4_
          have GW337 := n5_
          have GE337 := n6_
          have NB331_337 := n7_
          have NB337_331 := n8_
          have NB318_337 := n9_
          have NB337_318 := n10_
          clear n0_ n1_ n2_ n3_ n4_ n5_ n6_ n7_ n8_ n9_ n10_
          clear hb hbox hg
          refine hK.out _ _ ⟨HS0_, HS1_, HS2_, HS3_, HS4_, HS5_, HS6_⟩ (fun hHeld => ?_)
          clear hK K
          refine norm_ (a' := ?_) ?_ ?_
          rotate_left
          · show Act.put _ (some 13) _ = _
            simp only [Act.put, List.setIfInBounds_toArray, List.set_cons_zero, List.set_cons_succ, i64_w, i32_w]
            rfl
          refine one_ (i := 9) (N := some 51) #[true, true, true, true, true, true, true, true, true, true, false, false, false, false, false, false, true, false, false] rfl rfl (one_of HT_.out (by kernel_rfl)) (by decide) (fun K hK => ?_)
          refine goes_ Try.func17 (by kernel_rfl) rfl #[.int .i64 a2, .int .i64 50] (by rfl) rfl rfl (by (try simp only [List.map_toArray, List.map_cons, List.map_nil]); first | done | rfl | (simp only [List.length_drop, List.length_take]; rfl)) ?_
          with_reducible refine (thermionkit_Mod.calls a2 50 t333 _ A12.out).mono ?_
          rintro e w' ⟨rfl, ⟨nd, rfl⟩⟩
          refine ⟨_, rfl, ?_⟩
          refine hK.out _ _ ⟨hHeld.1, hHeld.2.1, hHeld.2.2.1, hHeld.2.2.2.1, hHeld.2.2.2.2.1, hHeld.2.2.2.2.2.1, hHeld.2.2.2.2.2.2⟩ (fun hHeld => ?_)
          clear hK K
          refine norm_ (a' := ?_) ?_ ?_
          rotate_left
          · show Act.put _ (some 51) _ = _
            simp only [Act.put, List.setIfInBounds_toArray, List.set_cons_zero, List.set_cons_succ, i64_w, i32_w]
            rfl
          refine pure_ (i := 10) (N := some 52) (v := ?_) (a' := ?_) #[true, true, true, true, true, true, true, true, true, true, true, false, false, false, false, false, true, false, false] rfl rfl (any_of HT_.out (by kernel_rfl)) (fun _ _ _ h => h) (Or.inl ⟨by rfl, ?_⟩) ?_ ?_
          rotate_left
          · intro w'
            go_simp
            with_reducible rfl
          rotate_left
          · simp only [Act.put, List.setIfInBounds_toArray, List.set_cons_zero, List.set_cons_succ, i64_w, i32_w]
            rfl
          refine pure_ (i := 11) (N := some 53) (v := ?_) (a' := ?_) #[true, true, true, true, true, true, true, true, true, true, true, true, false, false, false, false, true, false, false] rfl rfl (any_of HT_.out (by kernel_rfl)) (fun _ _ _ h => h) (Or.inl ⟨by rfl, ?_⟩) ?_ ?_
          rotate_left
          · intro w'
            go_simp
            with_reducible rfl
          rotate_left
          · simp only [Act.put, List.setIfInBounds_toArray, List.set_cons_zero, List.set_cons_succ, i64_w, i32_w]
            rfl
          refine one_ (i := 12) (N := some 54) #[true, true, true, true, true, true, true, true, true, true, true, true, true, false, false, false, true, false, false] rfl rfl (one_of HT_.out (by kernel_rfl)) (by decide) (fun K hK => ?_)
          refine goes_ Try.func21 (by kernel_rfl) rfl #[.slice (some ad332) t319.length co17, .int .i64 t323, .int .i64 (wrap64 (t326 + (wrap64 (((rd_T36 t319 t323).f2) * t333))))] (by rfl) rfl rfl (by (try simp only [List.map_toArray, List.map_cons, List.map_nil]); first | done | rfl | (simp only [List.length_drop, List.length_take]; rfl)) ?_
          with_reducible refine (gauge_True.calls _ _ t319 t323 (wrap64 (t326 + (wrap64 (((rd_T36 t319 t323).f2) * t333)))) t334 t335 t336 _ ?side1 ?side2 A13.out).mono ?_
          (case side1 => repeat (first | exact (Kd.R_reads' HO321.out).2.2 | (with_reducible refine Kd.C_alloc ?_ _) | (with_reducible refine Kd.C_drewN ?_ _) | (with_reducible refine Kd.C_drew ?_)))
          (case side2 => exact (Kd.R_reads' HO321.out).2.1)
          rintro e w27 ⟨rfl, hb⟩
          have HS0_ := (hb.cell (World.block_lt_of_cell? _ _ (hHeld.1))).trans (hHeld.1)
          have HS1_ := (hb.cell (World.block_lt_of_cell? _ _ (hHeld.2.1))).trans (hHeld.2.1)
          have HS2_ := (hb.cell (World.block_lt_of_cell? _ _ (hHeld.2.2.1))).trans (hHeld.2.2.1)
          have HS3_ := (hb.cell (World.block_lt_of_cell? _ _ (hHeld.2.2.2.1))).trans (hHeld.2.2.2.1)
          have HS4_ := (hb.cell (World.block_lt_of_cell? _ _ (hHeld.2.2.2.2.1))).trans (hHeld.2.2.2.2.1)
          have HS5_ := (hb.cell (World.block_lt_of_cell? _ _ (hHeld.2.2.2.2.2.1))).trans (hHeld.2.2.2.2.2.1)
          have HS6_ := (hb.cell (World.block_lt_of_cell? _ _ (hHeld.2.2.2.2.2.2))).trans (hHeld.2.2.2.2.2.2)
          refine ⟨_, rfl, ?_⟩
          have n0_ := Aside0.mk (Kd.R_below (by (with_reducible repeat (first | apply Kd.R_alloc | apply Kd.R_drewN | apply Kd.R_drew)); exact HO321.out) hb)
          have n1_ := Aside0.mk (IsS76.below (by repeat (first | (with_reducible first | exact HI318.out | apply IsS76.alloc | apply IsS76.drewN | apply IsS76.drew | apply IsS76.set_0 | refine IsS76.far ?_ NB318_331.out _ | refine IsS76.far ?_ NB318_337.out _) | exact HI318.out)) hb)
          have n2_ := Aside0.mk (blk_below (g := gb331) (o := .cells #[.int .i64 t328, .int .i64 t329] 34 (0, 0)) (by (with_reducible repeat (first | refine blk_drewN ?_ _ | refine blk_drew ?_ | refine blk_alloc ?_ _)); exact BK331.out) hb)
          have n3_ := Aside0.mk (blk_below (g := gb337) (o := .cells #[.int .i64 0, .int .i64 0] 34 (0, 0)) (by (with_reducible repeat (first | refine blk_drewN ?_ _ | refine blk_drew ?_ | refine blk_alloc ?_ _)); exact BK337.out) hb)
          have n4_ := Aside0.mk (below_step (by repeat (first | (with_reducible first | exact HB.out | apply below_alloc | apply pw_below_drewN | apply below_drew1 | refine below_set ?_ (IsS76.ge HI318.out) | refine below_set ?_ GE331.out | refine below_set ?_ GE337.out) | exact HB.out)) hb)
          clear HO321
          clear HI318
          clear BK331
          clear BK337
          clear HB
          have HO321 := n0_
          have HI318 := n1_
          have BK331 := n2_
          have BK337 := n3_
          have HB := n4_
          clear n0_ n1_ n2_ n3_ n4_
          (try clear hb)
          (try clear hb2)
          (try clear hk)
          (try clear hi)
          refine hK.out _ _ ⟨HS0_, HS1_, HS2_, HS3_, HS4_, HS5_, HS6_⟩ (fun hHeld => ?_)
          clear hK K
          refine norm_ (a' := ?_) ?_ ?_
          rotate_left
          · show Act.put _ (some 54) _ = _
            simp only [Act.put, List.setIfInBounds_toArray, List.set_cons_zero, List.set_cons_succ, i64_w, i32_w]
            rfl
          refine pure_ (i := 13) (N := some 41) (v := ?_) (a' := ?_) #[true, true, true, true, true, true, true, true, true, true, true, true, true, true, false, false, true, false, false] rfl rfl (any_of HT_.out (by kernel_rfl)) (fun _ _ _ h => h) (Or.inl ⟨by rfl, ?_⟩) ?_ ?_
          rotate_left
          · intro w'
            go_simp
            with_reducible rfl
          rotate_left
          · simp only [Act.put, List.setIfInBounds_toArray, List.set_cons_zero, List.set_cons_succ, i64_w, i32_w]
            rfl
          refine pure_ (i := 14) (N := some 55) (v := ?_) (a' := ?_) #[true, true, true, true, true, true, true, true, true, true, true, true, true, true, true, false, true, false, false] rfl rfl (any_of HT_.out (by kernel_rfl)) (fun _ _ _ h => h) (Or.inl ⟨by rfl, ?_⟩) ?_ ?_
          rotate_left
          · intro w'
            go_simp
            with_reducible rfl
          rotate_left
          · simp only [Act.put, List.setIfInBounds_toArray, List.set_cons_zero, List.set_cons_succ, i64_w, i32_w]
            rfl
          refine pure_ (i := 15) (N := some 56) (v := ?_) (a' := ?_) #[true, true, true, true, true, true, true, true, true, true, true, true, true, true, true, true, true, false, false] rfl rfl (any_of HT_.out (by kernel_rfl)) (fun _ _ _ h => h) (Or.inl ⟨by rfl, ?_⟩) ?_ ?_
          rotate_left
          · intro w'
            go_simp
            with_reducible rfl
          rotate_left
          · simp only [Act.put, List.setIfInBounds_toArray, List.set_cons_zero, List.set_cons_succ, i64_w, i32_w]
            rfl
          exact norm_ (by simp only [putAll, Act.put, List.setIfInBounds_toArray, List.set_cons_zero, List.set_cons_succ]) (hCont (gb337) _ ⟨hHeld, (by (with_reducible repeat (first | apply Kd.R_alloc | apply Kd.R_drewN | apply Kd.R_drew)); exact HO321.out), (by (with_reducible repeat (first | refine blk_drewN ?_ _ | refine blk_drew ?_ | refine blk_alloc ?_ _)); exact BK331.out), (by (with_reducible repeat (first | refine blk_drewN ?_ _ | refine blk_drew ?_ | refine blk_alloc ?_ _)); exact BK337.out), GW337.out, GE337.out, NB318_337.out, NB337_318.out, NB331_337.out, NB337_331.out, (by repeat (first | (with_reducible first | exact HI318.out | apply IsS76.alloc | apply IsS76.drewN | apply IsS76.drew | apply IsS76.set_0 | refine IsS76.far ?_ NB318_331.out _ | refine IsS76.far ?_ NB318_337.out _) | exact HI318.out)), (by repeat (first | (with_reducible first | exact HB.out | apply below_alloc | apply pw_below_drewN | apply below_drew1 | refine below_set ?_ (IsS76.ge HI318.out) | refine below_set ?_ GE331.out | refine below_set ?_ GE337.out) | exact HB.out))⟩)
      rintro gb337 w28 ⟨hS_, h0_, h1_, h2_, h3_, h4_, h5_, h6_, h7_, h8_, h9_, h10_⟩
      have n0_ : Aside0 (Kd.R k36 36 w28 w.heap.size (fun _ => True) (.slice (some ad332) t319.length co17) t319) := ⟨h0_⟩
      have n1_ : Aside0 (w28.heap[gb331]? = some (.cells #[.int .i64 t328, .int .i64 t329] 34 (0, 0))) := ⟨h1_⟩
      have n2_ : Aside0 (w28.heap[gb337]? = some (.cells #[.int .i64 0, .int .i64 0] 34 (0, 0))) := ⟨h2_⟩
      have n3_ : Aside0 (w.heap.size ≤ gb337) := ⟨h3_⟩
      have n4_ : Aside0 (w.heap.size ≤ gb337) := ⟨h4_⟩
      have n5_ : Aside0 (g318 ≠ gb337) := ⟨h5_⟩
      have n6_ : Aside0 (gb337 ≠ g318) := ⟨h6_⟩
      have n7_ : Aside0 (gb331 ≠ gb337) := ⟨h7_⟩
      have n8_ : Aside0 (gb337 ≠ gb331) := ⟨h8_⟩
      have n9_ : Aside0 (IsS76 w w28 g318 t327) := ⟨h9_⟩
      have n10_ : Aside0 (Below w.heap.size w w28) := ⟨h10_⟩
      clear HO321
      clear BK331
      clear HI318
      clear HB
      clear h0_ h1_ h2_ h3_ h4_ h5_ h6_ h7_ h8_ h9_ h10_
      have HO321 := n0_
      have BK331 := n1_
      have BK337 := n2_
      have GW337 := n3_
      have GE337 := n4_
      have NB318_337 := n5_
      have NB337_318 := n6_
      have NB331_337 := n7_
      have NB337_331 := n8_
      have HI318 := n9_
      have HB := n10_
      clear n0_ n1_ n2_ n3_ n4_ n5_ n6_ n7_ n8_ n9_ n10_
      have hHeld : w28.cell? (ad332.add ((t323).toNat * 7)) = some (.int .i64 ((rd_T36 t319 t323).f0.f0)) ∧ w28.cell? ⟨(ad332.add ((t323).toNat * 7)).block, (ad332.add ((t323).toNat * 7)).off + 1, none⟩ = some (.int .i64 ((rd_T36 t319 t323).f0.f1)) ∧ w28.cell? ⟨(ad332.add ((t323).toNat * 7)).block, (ad332.add ((t323).toNat * 7)).off + 2, none⟩ = some (.int .i64 ((rd_T36 t319 t323).f1.f0)) ∧ w28.cell? ⟨(ad332.add ((t323).toNat * 7)).block, (ad332.add ((t323).toNat * 7)).off + 3, none⟩ = some (.int .i64 ((rd_T36 t319 t323).f1.f1)) ∧ w28.cell? ⟨(ad332.add ((t323).toNat * 7)).block, (ad332.add ((t323).toNat * 7)).off + 4, none⟩ = some (.int .i64 ((rd_T36 t319 t323).f2)) ∧ w28.cell? ⟨(ad332.add ((t323).toNat * 7)).block, (ad332.add ((t323).toNat * 7)).off + 5, none⟩ = some (.int .i64 ((rd_T36 t319 t323).f3)) ∧ w28.cell? ⟨(ad332.add ((t323).toNat * 7)).block, (ad332.add ((t323).toNat * 7)).off + 6, none⟩ = some (.int .i64 ((rd_T36 t319 t323).f4)) := hS_
      refine norm_ (a' := ?_) ?_ ?_
      rotate_left
      · simp only [putAll, Act.put, List.setIfInBounds_toArray, List.set_cons_zero, List.set_cons_succ]
        rfl
      refine one_ (i := 17) (N := none) #[true, true, true, true, true, true, true, true, true, true, true, true, true, true, true, true, true, true, false] rfl rfl (one_of HT_.out (by kernel_rfl)) (by decide) (fun K hK => ?_)
      have hs29 : w28.cell? ⟨gb337, 0, none⟩ = some (.int .i64 0) := (blk_cell BK337.out 0).trans rfl
      have hfs29 := blk_frozen BK337.out 0
      have hns29_0 := NB331_337.out
      have hms29_0 := NB337_331.out
      have hs30 : w28.cell? ⟨gb337, 1, none⟩ = some (.int .i64 0) := (blk_cell BK337.out 1).trans rfl
      have hfs30 := blk_frozen BK337.out 1
      have hns30_0 := NB331_337.out
      have hms30_0 := NB337_331.out
      refine skip_ (w1 := ?_) (by rfl) rfl ?_ ?_
      rotate_left
      · go_simp
        rfl
      refine hK.out _ _ ⟨((cell_far (p := ⟨gb337, _, none⟩) (by first | exact Kd.own_blk (Kd.R_ne HO321.out BK337.out (by decide)) | (rw [add_block]; exact Kd.own_blk (Kd.R_ne HO321.out BK337.out (by decide))) | (show (Addr.add _ _).block ≠ _; rw [add_block]; exact Kd.own_blk (Kd.R_ne HO321.out BK337.out (by decide))) | (dsimp only; exact Kd.own_blk (Kd.R_ne HO321.out BK337.out (by decide)))) _).trans (((cell_far (p := ⟨gb337, _, none⟩) (by first | exact Kd.own_blk (Kd.R_ne HO321.out BK337.out (by decide)) | (rw [add_block]; exact Kd.own_blk (Kd.R_ne HO321.out BK337.out (by decide))) | (show (Addr.add _ _).block ≠ _; rw [add_block]; exact Kd.own_blk (Kd.R_ne HO321.out BK337.out (by decide))) | (dsimp only; exact Kd.own_blk (Kd.R_ne HO321.out BK337.out (by decide)))) _).trans (hHeld.1)))), ((cell_far (p := ⟨gb337, _, none⟩) (by first | exact Kd.own_blk (Kd.R_ne HO321.out BK337.out (by decide)) | (rw [add_block]; exact Kd.own_blk (Kd.R_ne HO321.out BK337.out (by decide))) | (show (Addr.add _ _).block ≠ _; rw [add_block]; exact Kd.own_blk (Kd.R_ne HO321.out BK337.out (by decide))) | (dsimp only; exact Kd.own_blk (Kd.R_ne HO321.out BK337.out (by decide)))) _).trans (((cell_far (p := ⟨gb337, _, none⟩) (by first | exact Kd.own_blk (Kd.R_ne HO321.out BK337.out (by decide)) | (rw [add_block]; exact Kd.own_blk (Kd.R_ne HO321.out BK337.out (by decide))) | (show (Addr.add _ _).block ≠ _; rw [add_block]; exact Kd.own_blk (Kd.R_ne HO321.out BK337.out (by decide))) | (dsimp only; exact Kd.own_blk (Kd.R_ne HO321.out BK337.out (by decide)))) _).trans (hHeld.2.1)))), ((cell_far (p := ⟨gb337, _, none⟩) (by first | exact Kd.own_blk (Kd.R_ne HO321.out BK337.out (by decide)) | (rw [add_block]; exact Kd.own_blk (Kd.R_ne HO321.out BK337.out (by decide))) | (show (Addr.add _ _).block ≠ _; rw [add_block]; exact Kd.own_blk (Kd.R_ne HO321.out BK337.out (by decide))) | (dsimp only; exact Kd.own_blk (Kd.R_ne HO321.out BK337.out (by decide)))) _).trans (((cell_far (p := ⟨gb337, _, none⟩) (by first | exact Kd.own_blk (Kd.R_ne HO321.out BK337.out (by decide)) | (rw [add_block]; exact Kd.own_blk (Kd.R_ne HO321.out BK337.out (by decide))) | (show (Addr.add _ _).block ≠ _; rw [add_block]; exact Kd.own_blk (Kd.R_ne HO321.out BK337.out (by decide))) | (dsimp only; exact Kd.own_blk (Kd.R_ne HO321.out BK337.out (by decide)))) _).trans (hHeld.2.2.1)))), ((cell_far (p := ⟨gb337, _, none⟩) (by first | exact Kd.own_blk (Kd.R_ne HO321.out BK337.out (by decide)) | (rw [add_block]; exact Kd.own_blk (Kd.R_ne HO321.out BK337.out (by decide))) | (show (Addr.add _ _).block ≠ _; rw [add_block]; exact Kd.own_blk (Kd.R_ne HO321.out BK337.out (by decide))) | (dsimp only; exact Kd.own_blk (Kd.R_ne HO321.out BK337.out (by decide)))) _).trans (((cell_far (p := ⟨gb337, _, none⟩) (by first | exact Kd.own_blk (Kd.R_ne HO321.out BK337.out (by decide)) | (rw [add_block]; exact Kd.own_blk (Kd.R_ne HO321.out BK337.out (by decide))) | (show (Addr.add _ _).block ≠ _; rw [add_block]; exact Kd.own_blk (Kd.R_ne HO321.out BK337.out (by decide))) | (dsimp only; exact Kd.own_blk (Kd.R_ne HO321.out BK337.out (by decide)))) _).trans (hHeld.2.2.2.1)))), ((cell_far (p := ⟨gb337, _, none⟩) (by first | exact Kd.own_blk (Kd.R_ne HO321.out BK337.out (by decide)) | (rw [add_block]; exact Kd.own_blk (Kd.R_ne HO321.out BK337.out (by decide))) | (show (Addr.add _ _).block ≠ _; rw [add_block]; exact Kd.own_blk (Kd.R_ne HO321.out BK337.out (by decide))) | (dsimp only; exact Kd.own_blk (Kd.R_ne HO321.out BK337.out (by decide)))) _).trans (((cell_far (p := ⟨gb337, _, none⟩) (by first | exact Kd.own_blk (Kd.R_ne HO321.out BK337.out (by decide)) | (rw [add_block]; exact Kd.own_blk (Kd.R_ne HO321.out BK337.out (by decide))) | (show (Addr.add _ _).block ≠ _; rw [add_block]; exact Kd.own_blk (Kd.R_ne HO321.out BK337.out (by decide))) | (dsimp only; exact Kd.own_blk (Kd.R_ne HO321.out BK337.out (by decide)))) _).trans (hHeld.2.2.2.2.1)))), ((cell_far (p := ⟨gb337, _, none⟩) (by first | exact Kd.own_blk (Kd.R_ne HO321.out BK337.out (by decide)) | (rw [add_block]; exact Kd.own_blk (Kd.R_ne HO321.out BK337.out (by decide))) | (show (Addr.add _ _).block ≠ _; rw [add_block]; exact Kd.own_blk (Kd.R_ne HO321.out BK337.out (by decide))) | (dsimp only; exact Kd.own_blk (Kd.R_ne HO321.out BK337.out (by decide)))) _).trans (((cell_far (p := ⟨gb337, _, none⟩) (by first | exact Kd.own_blk (Kd.R_ne HO321.out BK337.out (by decide)) | (rw [add_block]; exact Kd.own_blk (Kd.R_ne HO321.out BK337.out (by decide))) | (show (Addr.add _ _).block ≠ _; rw [add_block]; exact Kd.own_blk (Kd.R_ne HO321.out BK337.out (by decide))) | (dsimp only; exact Kd.own_blk (Kd.R_ne HO321.out BK337.out (by decide)))) _).trans (hHeld.2.2.2.2.2.1)))), ((cell_far (p := ⟨gb337, _, none⟩) (by first | exact Kd.own_blk (Kd.R_ne HO321.out BK337.out (by decide)) | (rw [add_block]; exact Kd.own_blk (Kd.R_ne HO321.out BK337.out (by decide))) | (show (Addr.add _ _).block ≠ _; rw [add_block]; exact Kd.own_blk (Kd.R_ne HO321.out BK337.out (by decide))) | (dsimp only; exact Kd.own_blk (Kd.R_ne HO321.out BK337.out (by decide)))) _).trans (((cell_far (p := ⟨gb337, _, none⟩) (by first | exact Kd.own_blk (Kd.R_ne HO321.out BK337.out (by decide)) | (rw [add_block]; exact Kd.own_blk (Kd.R_ne HO321.out BK337.out (by decide))) | (show (Addr.add _ _).block ≠ _; rw [add_block]; exact Kd.own_blk (Kd.R_ne HO321.out BK337.out (by decide))) | (dsimp only; exact Kd.own_blk (Kd.R_ne HO321.out BK337.out (by decide)))) _).trans (hHeld.2.2.2.2.2.2))))⟩ (fun hHeld => ?_)
      clear hK K
      refine pure_ (i := 18) (N := some 14) (v := ?_) (a' := ?_) #[true, true, true, true, true, true, true, true, true, true, true, true, true, true, true, true, true, true, true] rfl rfl (any_of HT_.out (by kernel_rfl)) (fun _ _ _ h => h) (Or.inl ⟨by rfl, ?_⟩) ?_ ?_
      rotate_left
      · intro w'
        go_simp
        with_reducible rfl
      rotate_left
      · simp only [Act.put, List.setIfInBounds_toArray, List.set_cons_zero, List.set_cons_succ, i64_w, i32_w]
        rfl
      refine done_ (done_of HT_.out (by kernel_rfl)) ?_
      go_upto_region 7 with (fail)
      go_cut [84] (fun v84 wc => ∃ (kq : Nat) (x84_13 : Bool), v84 = .bool x84_13 ∧ Aside0 (thermionlaw07_GaugeRises.j0 kq t319 t323 t326 x84_13 t327 t328 t329 = some r) ∧ Aside0 (kq ≤ k) ∧ Aside0 (Kd.R k36 36 wc w.heap.size (fun _ => True) (.slice (some ad332) t319.length co17) t319) ∧ Aside0 (wc.heap[gb331]? = some (.cells #[.int .i64 t328, .int .i64 t329] 34 (0, 0))) ∧ Aside0 (wc.heap[gb337]? = some (.cells #[.int .i64 t334, .int .i64 t335] 34 (0, 0))) ∧ Aside0 (IsS76 w wc g318 t327) ∧ Aside0 (Below w.heap.size w wc))
      case first =>
        have H := HC14.out
        clear HC14
        by_cases c31 : t330 = 0
        · rw [if_pos c31] at H
          have c31b0 : (t330 == 0) = true := beq_iff_eq.mpr c31
          have c31b1 : (t330 != 0) = false := bne_eq_false_iff_eq.mpr c31
          clear c31
          (first | rw [c31b0] | (simp only [i64_w, i32_w]; rw [c31b0]) | skip)
          by_cases c32 : t336 = 0
          · rw [if_pos c32] at H
            have c32b0 : (t336 == 0) = true := beq_iff_eq.mpr c32
            have c32b1 : (t336 != 0) = false := bne_eq_false_iff_eq.mpr c32
            clear c32
            by_cases c33 : t334 < t328
            · rw [if_pos c33] at H
              have c33b0 : decide (t334 < t328) = true := decide_eq_true c33
              clear c33
              have H' := Aside0.mk H
              clear H
              have hnb34 := NB337_331.out
              have hnc34 := NB331_337.out
              have hnb35 := NB337_318.out
              have hnc35 := NB318_337.out
              have hcz36_0 : w28.cell? ⟨gb337, 0, none⟩ = some (.int .i64 0) := (blk_cell BK337.out 0).trans rfl
              have hcz36_1 : w28.cell? ⟨gb337, 1, none⟩ = some (.int .i64 0) := (blk_cell BK337.out 1).trans rfl
              have hfz36_0 := blk_frozen BK337.out 0
              have hfz36_1 := blk_frozen BK337.out 1
              have hnb37 := NB331_318.out
              have hnc37 := NB318_331.out
              have hcz38_0 : w28.cell? ⟨gb331, 0, none⟩ = some (.int .i64 t328) := (blk_cell BK331.out 0).trans rfl
              have hcz38_1 : w28.cell? ⟨gb331, 1, none⟩ = some (.int .i64 t329) := (blk_cell BK331.out 1).trans rfl
              have hfz38_0 := blk_frozen BK331.out 0
              have hfz38_1 := blk_frozen BK331.out 1
              go_wp2
              go_meet
              case rel => exact ⟨_, (true), (by first | rfl | (simp; done) | (simp [*]; done)), H', ⟨by first | omega | exact Nat.le_refl _⟩, ⟨by (with_reducible repeat (first | apply Kd.R_alloc | apply Kd.R_drewN | apply Kd.R_drew)); exact Kd.R_mono (Kd.R_far (p := ⟨gb337, 1, none⟩) (Kd.R_far (p := ⟨gb337, 0, none⟩) (Kd.R_types HO321.out BK337.out (by decide)) (fun _ hk => hk.2) (.int .i64 t334)) (fun _ hk => hk.2) (.int .i64 t335)) (fun _ hk => trivial)⟩, ⟨by (with_reducible repeat (first | refine blk_drewN ?_ _ | refine blk_drew ?_ | refine blk_alloc ?_ _)); refine blk_far ?_ NB331_337.out _; (with_reducible repeat (first | refine blk_drewN ?_ _ | refine blk_drew ?_ | refine blk_alloc ?_ _)); refine blk_far ?_ NB331_337.out _; (with_reducible repeat (first | refine blk_drewN ?_ _ | refine blk_drew ?_ | refine blk_alloc ?_ _)); exact BK331.out⟩, ⟨by (with_reducible repeat (first | refine blk_drewN ?_ _ | refine blk_drew ?_ | refine blk_alloc ?_ _)); refine blk_put (cs := #[.int .i64 t334, .int .i64 0]) ?_ 1 _ rfl; (with_reducible repeat (first | refine blk_drewN ?_ _ | refine blk_drew ?_ | refine blk_alloc ?_ _)); refine blk_put (cs := #[.int .i64 0, .int .i64 0]) ?_ 0 _ rfl; (with_reducible repeat (first | refine blk_drewN ?_ _ | refine blk_drew ?_ | refine blk_alloc ?_ _)); exact BK337.out⟩, ⟨by repeat (first | (with_reducible first | exact HI318.out | apply IsS76.alloc | apply IsS76.drewN | apply IsS76.drew | apply IsS76.set_0 | refine IsS76.far ?_ NB318_331.out _ | refine IsS76.far ?_ NB318_337.out _) | exact HI318.out)⟩, ⟨by repeat (first | (with_reducible first | exact HB.out | apply below_alloc | apply pw_below_drewN | apply below_drew1 | refine below_set ?_ (IsS76.ge HI318.out) | refine below_set ?_ GE331.out | refine below_set ?_ GE337.out) | exact HB.out)⟩⟩
            · rw [if_neg c33] at H
              have c33b0 : decide (t334 < t328) = false := decide_eq_false c33
              clear c33
              by_cases c39 : t335 < t329
              · rw [if_pos c39] at H
                have c39b0 : decide (t335 < t329) = true := decide_eq_true c39
                clear c39
                have H' := Aside0.mk H
                clear H
                have hnb40 := NB337_331.out
                have hnc40 := NB331_337.out
                have hnb41 := NB337_318.out
                have hnc41 := NB318_337.out
                have hcz42_0 : w28.cell? ⟨gb337, 0, none⟩ = some (.int .i64 0) := (blk_cell BK337.out 0).trans rfl
                have hcz42_1 : w28.cell? ⟨gb337, 1, none⟩ = some (.int .i64 0) := (blk_cell BK337.out 1).trans rfl
                have hfz42_0 := blk_frozen BK337.out 0
                have hfz42_1 := blk_frozen BK337.out 1
                have hnb43 := NB331_318.out
                have hnc43 := NB318_331.out
                have hcz44_0 : w28.cell? ⟨gb331, 0, none⟩ = some (.int .i64 t328) := (blk_cell BK331.out 0).trans rfl
                have hcz44_1 : w28.cell? ⟨gb331, 1, none⟩ = some (.int .i64 t329) := (blk_cell BK331.out 1).trans rfl
                have hfz44_0 := blk_frozen BK331.out 0
                have hfz44_1 := blk_frozen BK331.out 1
                go_wp2
                go_meet
                case rel => exact ⟨_, (true), (by first | rfl | (simp; done) | (simp [*]; done)), H', ⟨by first | omega | exact Nat.le_refl _⟩, ⟨by (with_reducible repeat (first | apply Kd.R_alloc | apply Kd.R_drewN | apply Kd.R_drew)); exact Kd.R_mono (Kd.R_far (p := ⟨gb337, 1, none⟩) (Kd.R_far (p := ⟨gb337, 0, none⟩) (Kd.R_types HO321.out BK337.out (by decide)) (fun _ hk => hk.2) (.int .i64 t334)) (fun _ hk => hk.2) (.int .i64 t335)) (fun _ hk => trivial)⟩, ⟨by (with_reducible repeat (first | refine blk_drewN ?_ _ | refine blk_drew ?_ | refine blk_alloc ?_ _)); refine blk_far ?_ NB331_337.out _; (with_reducible repeat (first | refine blk_drewN ?_ _ | refine blk_drew ?_ | refine blk_alloc ?_ _)); refine blk_far ?_ NB331_337.out _; (with_reducible repeat (first | refine blk_drewN ?_ _ | refine blk_drew ?_ | refine blk_alloc ?_ _)); exact BK331.out⟩, ⟨by (with_reducible repeat (first | refine blk_drewN ?_ _ | refine blk_drew ?_ | refine blk_alloc ?_ _)); refine blk_put (cs := #[.int .i64 t334, .int .i64 0]) ?_ 1 _ rfl; (with_reducible repeat (first | refine blk_drewN ?_ _ | refine blk_drew ?_ | refine blk_alloc ?_ _)); refine blk_put (cs := #[.int .i64 0, .int .i64 0]) ?_ 0 _ rfl; (with_reducible repeat (first | refine blk_drewN ?_ _ | refine blk_drew ?_ | refine blk_alloc ?_ _)); exact BK337.out⟩, ⟨by repeat (first | (with_reducible first | exact HI318.out | apply IsS76.alloc | apply IsS76.drewN | apply IsS76.drew | apply IsS76.set_0 | refine IsS76.far ?_ NB318_331.out _ | refine IsS76.far ?_ NB318_337.out _) | exact HI318.out)⟩, ⟨by repeat (first | (with_reducible first | exact HB.out | apply below_alloc | apply pw_below_drewN | apply below_drew1 | refine below_set ?_ (IsS76.ge HI318.out) | refine below_set ?_ GE331.out | refine below_set ?_ GE337.out) | exact HB.out)⟩⟩
              · rw [if_neg c39] at H
                have c39b0 : decide (t335 < t329) = false := decide_eq_false c39
                clear c39
                have H' := Aside0.mk H
                clear H
                have hnb45 := NB337_331.out
                have hnc45 := NB331_337.out
                have hnb46 := NB337_318.out
                have hnc46 := NB318_337.out
                have hcz47_0 : w28.cell? ⟨gb337, 0, none⟩ = some (.int .i64 0) := (blk_cell BK337.out 0).trans rfl
                have hcz47_1 : w28.cell? ⟨gb337, 1, none⟩ = some (.int .i64 0) := (blk_cell BK337.out 1).trans rfl
                have hfz47_0 := blk_frozen BK337.out 0
                have hfz47_1 := blk_frozen BK337.out 1
                have hnb48 := NB331_318.out
                have hnc48 := NB318_331.out
                have hcz49_0 : w28.cell? ⟨gb331, 0, none⟩ = some (.int .i64 t328) := (blk_cell BK331.out 0).trans rfl
                have hcz49_1 : w28.cell? ⟨gb331, 1, none⟩ = some (.int .i64 t329) := (blk_cell BK331.out 1).trans rfl
                have hfz49_0 := blk_frozen BK331.out 0
                have hfz49_1 := blk_frozen BK331.out 1
                go_wp2
                go_meet
                case rel => exact ⟨_, (false), (by first | rfl | (simp; done) | (simp [*]; done)), H', ⟨by first | omega | exact Nat.le_refl _⟩, ⟨by (with_reducible repeat (first | apply Kd.R_alloc | apply Kd.R_drewN | apply Kd.R_drew)); exact Kd.R_mono (Kd.R_far (p := ⟨gb337, 1, none⟩) (Kd.R_far (p := ⟨gb337, 0, none⟩) (Kd.R_types HO321.out BK337.out (by decide)) (fun _ hk => hk.2) (.int .i64 t334)) (fun _ hk => hk.2) (.int .i64 t335)) (fun _ hk => trivial)⟩, ⟨by (with_reducible repeat (first | refine blk_drewN ?_ _ | refine blk_drew ?_ | refine blk_alloc ?_ _)); refine blk_far ?_ NB331_337.out _; (with_reducible repeat (first | refine blk_drewN ?_ _ | refine blk_drew ?_ | refine blk_alloc ?_ _)); refine blk_far ?_ NB331_337.out _; (with_reducible repeat (first | refine blk_drewN ?_ _ | refine blk_drew ?_ | refine blk_alloc ?_ _)); exact BK331.out⟩, ⟨by (with_reducible repeat (first | refine blk_drewN ?_ _ | refine blk_drew ?_ | refine blk_alloc ?_ _)); refine blk_put (cs := #[.int .i64 t334, .int .i64 0]) ?_ 1 _ rfl; (with_reducible repeat (first | refine blk_drewN ?_ _ | refine blk_drew ?_ | refine blk_alloc ?_ _)); refine blk_put (cs := #[.int .i64 0, .int .i64 0]) ?_ 0 _ rfl; (with_reducible repeat (first | refine blk_drewN ?_ _ | refine blk_drew ?_ | refine blk_alloc ?_ _)); exact BK337.out⟩, ⟨by repeat (first | (with_reducible first | exact HI318.out | apply IsS76.alloc | apply IsS76.drewN | apply IsS76.drew | apply IsS76.set_0 | refine IsS76.far ?_ NB318_331.out _ | refine IsS76.far ?_ NB318_337.out _) | exact HI318.out)⟩, ⟨by repeat (first | (with_reducible first | exact HB.out | apply below_alloc | apply pw_below_drewN | apply below_drew1 | refine below_set ?_ (IsS76.ge HI318.out) | refine below_set ?_ GE331.out | refine below_set ?_ GE337.out) | exact HB.out)⟩⟩
          · rw [if_neg c32] at H
            have c32b0 : (t336 == 0) = false := beq_eq_false_iff_ne.mpr c32
            have c32b1 : (t336 != 0) = true := bne_iff_ne.mpr c32
            have H' := Aside0.mk H
            clear H
            go_wp2
            go_meet
            case rel => exact ⟨_, ((t336 != 12)), (by first | rfl | (simp; done) | (simp [*]; done)), H', ⟨by first | omega | exact Nat.le_refl _⟩, ⟨by (with_reducible repeat (first | apply Kd.R_alloc | apply Kd.R_drewN | apply Kd.R_drew)); exact Kd.R_mono (Kd.R_far (p := ⟨gb337, 1, none⟩) (Kd.R_far (p := ⟨gb337, 0, none⟩) (Kd.R_types HO321.out BK337.out (by decide)) (fun _ hk => hk.2) (.int .i64 t334)) (fun _ hk => hk.2) (.int .i64 t335)) (fun _ hk => trivial)⟩, ⟨by (with_reducible repeat (first | refine blk_drewN ?_ _ | refine blk_drew ?_ | refine blk_alloc ?_ _)); refine blk_far ?_ NB331_337.out _; (with_reducible repeat (first | refine blk_drewN ?_ _ | refine blk_drew ?_ | refine blk_alloc ?_ _)); refine blk_far ?_ NB331_337.out _; (with_reducible repeat (first | refine blk_drewN ?_ _ | refine blk_drew ?_ | refine blk_alloc ?_ _)); exact BK331.out⟩, ⟨by (with_reducible repeat (first | refine blk_drewN ?_ _ | refine blk_drew ?_ | refine blk_alloc ?_ _)); refine blk_put (cs := #[.int .i64 t334, .int .i64 0]) ?_ 1 _ rfl; (with_reducible repeat (first | refine blk_drewN ?_ _ | refine blk_drew ?_ | refine blk_alloc ?_ _)); refine blk_put (cs := #[.int .i64 0, .int .i64 0]) ?_ 0 _ rfl; (with_reducible repeat (first | refine blk_drewN ?_ _ | refine blk_drew ?_ | refine blk_alloc ?_ _)); exact BK337.out⟩, ⟨by repeat (first | (with_reducible first | exact HI318.out | apply IsS76.alloc | apply IsS76.drewN | apply IsS76.drew | apply IsS76.set_0 | refine IsS76.far ?_ NB318_331.out _ | refine IsS76.far ?_ NB318_337.out _) | exact HI318.out)⟩, ⟨by repeat (first | (with_reducible first | exact HB.out | apply below_alloc | apply pw_below_drewN | apply below_drew1 | refine below_set ?_ (IsS76.ge HI318.out) | refine below_set ?_ GE331.out | refine below_set ?_ GE337.out) | exact HB.out)⟩⟩
        · rw [if_neg c31] at H
          have c31b0 : (t330 == 0) = false := beq_eq_false_iff_ne.mpr c31
          have c31b1 : (t330 != 0) = true := bne_iff_ne.mpr c31
          (first | rw [c31b0] | (simp only [i64_w, i32_w]; rw [c31b0]) | skip)
          have H' := Aside0.mk H
          clear H
          go_wp2
          go_meet
          case rel => exact ⟨_, (true), (by first | rfl | (simp; done) | (simp [*]; done)), H', ⟨by first | omega | exact Nat.le_refl _⟩, ⟨by (with_reducible repeat (first | apply Kd.R_alloc | apply Kd.R_drewN | apply Kd.R_drew)); exact Kd.R_mono (Kd.R_far (p := ⟨gb337, 1, none⟩) (Kd.R_far (p := ⟨gb337, 0, none⟩) (Kd.R_types HO321.out BK337.out (by decide)) (fun _ hk => hk.2) (.int .i64 t334)) (fun _ hk => hk.2) (.int .i64 t335)) (fun _ hk => trivial)⟩, ⟨by (with_reducible repeat (first | refine blk_drewN ?_ _ | refine blk_drew ?_ | refine blk_alloc ?_ _)); refine blk_far ?_ NB331_337.out _; (with_reducible repeat (first | refine blk_drewN ?_ _ | refine blk_drew ?_ | refine blk_alloc ?_ _)); refine blk_far ?_ NB331_337.out _; (with_reducible repeat (first | refine blk_drewN ?_ _ | refine blk_drew ?_ | refine blk_alloc ?_ _)); exact BK331.out⟩, ⟨by (with_reducible repeat (first | refine blk_drewN ?_ _ | refine blk_drew ?_ | refine blk_alloc ?_ _)); refine blk_put (cs := #[.int .i64 t334, .int .i64 0]) ?_ 1 _ rfl; (with_reducible repeat (first | refine blk_drewN ?_ _ | refine blk_drew ?_ | refine blk_alloc ?_ _)); refine blk_put (cs := #[.int .i64 0, .int .i64 0]) ?_ 0 _ rfl; (with_reducible repeat (first | refine blk_drewN ?_ _ | refine blk_drew ?_ | refine blk_alloc ?_ _)); exact BK337.out⟩, ⟨by repeat (first | (with_reducible first | exact HI318.out | apply IsS76.alloc | apply IsS76.drewN | apply IsS76.drew | apply IsS76.set_0 | refine IsS76.far ?_ NB318_331.out _ | refine IsS76.far ?_ NB318_337.out _) | exact HI318.out)⟩, ⟨by repeat (first | (with_reducible first | exact HB.out | apply below_alloc | apply pw_below_drewN | apply below_drew1 | refine below_set ?_ (IsS76.ge HI318.out) | refine below_set ?_ GE331.out | refine below_set ?_ GE337.out) | exact HB.out)⟩⟩
      case rest =>
        clear HC14
        try clear c1
        try clear c2
        try clear p2
        try clear c3
        try clear c4
        try clear p6
        try clear c17
        try clear c21
        try clear c31
        try clear c31b0
        try clear c31b1
        try clear c32
        try clear c32b0
        try clear c32b1
        try clear c33
        try clear c33b0
        try clear c34
        try clear c35
        try clear c37
        try clear c39
        try clear c39b0
        try clear c40
        try clear c41
        try clear c43
        try clear c45
        try clear c46
        try clear c48
        try clear hcz36_0
        try clear hcz36_1
        try clear hcz38_0
        try clear hcz38_1
        try clear hcz42_0
        try clear hcz42_1
        try clear hcz44_0
        try clear hcz44_1
        try clear hcz47_0
        try clear hcz47_1
        try clear hcz49_0
        try clear hcz49_1
        try clear hfz36_0
        try clear hfz36_1
        try clear hfz38_0
        try clear hfz38_1
        try clear hfz42_0
        try clear hfz42_1
        try clear hfz44_0
        try clear hfz44_1
        try clear hfz47_0
        try clear hfz47_1
        try clear hfz49_0
        try clear hfz49_1
        obtain ⟨kq, x84_13, rfl, HA, HJ13, HO_8, BK331, BK337, HI318, HB⟩ := hcut
        cases kq with
        | zero => exact absurd HA.out (by simp [thermionlaw07_GaugeRises.j0])
        | succ kj13 =>
          have H := HA.out
          clear HA
          simp only [thermionlaw07_GaugeRises.j0] at H
          by_cases c50 : x84_13 = true
          · subst c50
            have H1 : (some false) = some r := by rw [if_pos rfl] at H; exact H
            clear H
            have H := H1
            clear H1
            obtain rfl := Option.some.inj H
            go_wp2
            go_ret
            exact ⟨by first | rfl | (simp [errW_none, errW_some] <;> rfl) | (simp [*, errW_none, errW_some] <;> rfl), by repeat (first | (with_reducible first | exact HB.out | apply below_alloc | apply pw_below_drewN | apply below_drew1 | refine below_set ?_ (IsS76.ge HI318.out) | refine below_set ?_ GE331.out | refine below_set ?_ GE337.out) | exact HB.out)⟩
          · replace c50 := Bool.eq_false_iff.mpr c50
            subst c50
            have H1 : ((thermionkit_OwnBench.f t319).bind fun t338 => (thermionlaw07_GaugeRises.l0 kj13 t319 t323 t326 t338 0 t327 t328 t329)) = some r := by rw [if_neg (show ¬ (false = true) by decide)] at H; exact H
            clear H
            have H := H1
            clear H1
            replace H := Option.bind_eq_some_iff.mp H
            obtain ⟨t338, A510, H⟩ := H
            replace H : (thermionlaw07_GaugeRises.l0 kj13 t319 t323 t326 t338 0 t327 t328 t329) = some r := H
            have A51 := Aside0.mk A510
            clear A510
            have H' := Aside0.mk H
            clear H
            go_wp2_with (first | ((with_reducible refine gate_callee (f := 24) rfl ?_); refine goesL_ (some 86) rfl rfl Try.func24 (by kernel_rfl) rfl #[.slice (some ad332) t319.length co17] rfl (by (try simp only [List.map_toArray, List.map_cons, List.map_nil]); first | done | rfl | (simp only [List.length_drop, List.length_take]; rfl)) ?_; (with_reducible refine (thermionkit_OwnBench.calls _ _ t319 t338 _ ?side1 ?side2 A51.out).mono ?_); (case side1 => repeat (first | exact (Kd.R_reads' HO_8.out).2.2 | (with_reducible refine Kd.C_alloc ?_ _) | (with_reducible refine Kd.C_drewN ?_ _) | (with_reducible refine Kd.C_drew ?_))); (case side2 => exact (Kd.R_reads' HO_8.out).2.1); rintro e w52 ⟨v339, rfl, ho0, hb⟩; refine ⟨_, rfl, ?_⟩; have n0_ := Aside0.mk (Kd.R_elder' (by (with_reducible repeat (first | apply Kd.R_alloc | apply Kd.R_drewN | apply Kd.R_drew)); exact HO_8.out) (Kd.R_base ho0) hb); have n1_ := Aside0.mk (Kd.R_lower (Kd.R_new' ho0 (Kd.R_lt (by (with_reducible repeat (first | apply Kd.R_alloc | apply Kd.R_drewN | apply Kd.R_drew)); exact HO_8.out))) (below_size (by repeat (first | (with_reducible first | exact HB.out | apply below_alloc | apply pw_below_drewN | apply below_drew1 | refine below_set ?_ (IsS76.ge HI318.out) | refine below_set ?_ GE331.out | refine below_set ?_ GE337.out) | exact HB.out)))); have n2_ := Aside0.mk (blk_below (g := gb331) (o := .cells #[.int .i64 t328, .int .i64 t329] 34 (0, 0)) (by (with_reducible repeat (first | refine blk_drewN ?_ _ | refine blk_drew ?_ | refine blk_alloc ?_ _)); exact BK331.out) hb); have n3_ := Aside0.mk (blk_below (g := gb337) (o := .cells #[.int .i64 t334, .int .i64 t335] 34 (0, 0)) (by (with_reducible repeat (first | refine blk_drewN ?_ _ | refine blk_drew ?_ | refine blk_alloc ?_ _)); exact BK337.out) hb); have n4_ := Aside0.mk (IsS76.below (by repeat (first | (with_reducible first | exact HI318.out | apply IsS76.alloc | apply IsS76.drewN | apply IsS76.drew | apply IsS76.set_0 | refine IsS76.far ?_ NB318_331.out _ | refine IsS76.far ?_ NB318_337.out _) | exact HI318.out)) hb); have n5_ := Aside0.mk (below_step (by repeat (first | (with_reducible first | exact HB.out | apply below_alloc | apply pw_below_drewN | apply below_drew1 | refine below_set ?_ (IsS76.ge HI318.out) | refine below_set ?_ GE331.out | refine below_set ?_ GE337.out) | exact HB.out)) hb); clear HO_8; clear BK331; clear BK337; clear HI318; clear HB; have HO_8 := n0_; have HO340 := n1_; have BK331 := n2_; have BK337 := n3_; have HI318 := n4_; have HB := n5_; clear n0_ n1_ n2_ n3_ n4_ n5_; (try clear hb); (try clear hb2); (try clear hk); (try clear hi); (try clear ho0)))
            go_loopg [16] kj13 (fun kq v16 w' => ∃ (x15_2 : List (S36)) (x16_2 : Int) (x319000_2 : Int), v16 = .int .i64 x16_2 ∧ Aside0 (thermionlaw07_GaugeRises.l0 kq t319 t323 t326 x15_2 x16_2 x319000_2 t328 t329 = some r) ∧ Aside0 (kq ≤ kj13) ∧ Aside0 (Kd.R k36 36 w' w.heap.size (fun k_ => some k_ ≠ (v339 : Value).ownBlock) (.slice (some ad332) t319.length co17) t319) ∧ Aside0 (Kd.R k36 36 w' w.heap.size (fun k_ => some k_ ≠ ((.slice (some ad332) t319.length co17) : Value).ownBlock) v339 x15_2) ∧ Aside0 (w'.heap[gb331]? = some (.cells #[.int .i64 t328, .int .i64 t329] 34 (0, 0))) ∧ Aside0 (w'.heap[gb337]? = some (.cells #[.int .i64 t334, .int .i64 t335] 34 (0, 0))) ∧ Aside0 (IsS76 w w' g318 x319000_2) ∧ Aside0 (Below w.heap.size w w'))
            case atStart => exact ⟨(t338), (0), (t327), (by first | rfl | (simp; done) | (simp [*]; done)), H', ⟨Nat.le_refl _⟩, ⟨by (with_reducible repeat (first | apply Kd.R_alloc | apply Kd.R_drewN | apply Kd.R_drew)); exact Kd.R_mono HO_8.out (fun _ hk => hk.2)⟩, ⟨by (with_reducible repeat (first | apply Kd.R_alloc | apply Kd.R_drewN | apply Kd.R_drew)); exact Kd.R_mono HO340.out (fun _ hk => hk.2)⟩, ⟨by (with_reducible repeat (first | refine blk_drewN ?_ _ | refine blk_drew ?_ | refine blk_alloc ?_ _)); exact BK331.out⟩, ⟨by (with_reducible repeat (first | refine blk_drewN ?_ _ | refine blk_drew ?_ | refine blk_alloc ?_ _)); exact BK337.out⟩, ⟨by repeat (first | (with_reducible first | exact HI318.out | apply IsS76.alloc | apply IsS76.drewN | apply IsS76.drew | apply IsS76.set_0 | refine IsS76.far ?_ NB318_331.out _ | refine IsS76.far ?_ NB318_337.out _) | exact HI318.out)⟩, ⟨by repeat (first | (with_reducible first | exact HB.out | apply below_alloc | apply pw_below_drewN | apply below_drew1 | refine below_set ?_ (IsS76.ge HI318.out) | refine below_set ?_ GE331.out | refine below_set ?_ GE337.out) | exact HB.out)⟩⟩
            case round =>
              clear H'
              try clear c1
              try clear c2
              try clear p2
              try clear c3
              try clear c4
              try clear c5
              try clear p6
              try clear c17
              try clear c21
              try clear c24
              try clear c31
              try clear c31b0
              try clear c31b1
              try clear c32
              try clear c32b0
              try clear c32b1
              try clear c33
              try clear c33b0
              try clear c34
              try clear c35
              try clear c37
              try clear c39
              try clear c39b0
              try clear c40
              try clear c41
              try clear c43
              try clear c45
              try clear c46
              try clear c48
              try clear c50
              try clear hcz36_0
              try clear hcz36_1
              try clear hcz38_0
              try clear hcz38_1
              try clear hcz42_0
              try clear hcz42_1
              try clear hcz44_0
              try clear hcz44_1
              try clear hcz47_0
              try clear hcz47_1
              try clear hcz49_0
              try clear hcz49_1
              try clear hfz36_0
              try clear hfz36_1
              try clear hfz38_0
              try clear hfz38_1
              try clear hfz42_0
              try clear hfz42_1
              try clear hfz44_0
              try clear hfz44_1
              try clear hfz47_0
              try clear hfz47_1
              try clear hfz49_0
              try clear hfz49_1
              try clear p2
              try clear p6
              obtain ⟨x15_2, x16_2, x319000_2, rfl, HA, HK2, HO_8, HO_15, BK331, BK337, HI318, HB⟩ := hrel
              cases gk with
              | zero => exact absurd HA.out (by simp [thermionlaw07_GaugeRises.l0])
              | succ k2 =>
                have H := HA.out
                clear HA
                simp only [thermionlaw07_GaugeRises.l0] at H
                by_cases c53 : x16_2 < (x15_2.length : Int)
                · rw [if_pos c53] at H
                  have c53b0 : decide (x16_2 < (x15_2.length : Int)) = true := decide_eq_true c53
                  clear c53
                  by_cases c54 : 0 ≤ x16_2
                  · rw [if_pos c54] at H
                    have c54b0 : decide (0 ≤ x16_2) = true := decide_eq_true c54
                    clear c54
                    by_cases c55 : x16_2 < (t319.length : Int)
                    · rw [if_pos c55] at H
                      have c55b0 : decide (x16_2 < (t319.length : Int)) = true := decide_eq_true c55
                      clear c55
                      replace H := Option.bind_eq_some_iff.mp H
                      obtain ⟨⟨t343, t344, t345⟩, A560, H⟩ := H
                      replace H : ((thermionkit_Dice_Range.f t345 ((rd_T36 t319 x16_2).f1.f0) ((rd_T36 t319 x16_2).f1.f1)).bind fun bt348 => ((some (x15_2.set (x16_2 : Int).toNat (⟨(⟨t343, t344⟩ : S34), (⟨(rd_T36 x15_2 x16_2).f1.f0, (rd_T36 x15_2 x16_2).f1.f1⟩ : S34), (rd_T36 x15_2 x16_2).f2, (rd_T36 x15_2 x16_2).f3, (rd_T36 x15_2 x16_2).f4⟩ : S36) : List (S36))).bind fun y351 => (thermionlaw07_GaugeRises.l0 k2 t319 t323 t326 (y351.set (x16_2 : Int).toNat (⟨(⟨(rd_T36 y351 x16_2).f0.f0, (rd_T36 y351 x16_2).f0.f1⟩ : S34), (⟨bt348.1, bt348.2.1⟩ : S34), (rd_T36 y351 x16_2).f2, (rd_T36 y351 x16_2).f3, (rd_T36 y351 x16_2).f4⟩ : S36)) (wrap64 (x16_2 + 1)) bt348.2.2 t328 t329))) = some r := H
                      have A56 := Aside0.mk A560
                      clear A560
                      replace H := Option.bind_eq_some_iff.mp H
                      obtain ⟨⟨t348, t349, t350⟩, A570, H⟩ := H
                      replace H : ((some (x15_2.set (x16_2 : Int).toNat (⟨(⟨t343, t344⟩ : S34), (⟨(rd_T36 x15_2 x16_2).f1.f0, (rd_T36 x15_2 x16_2).f1.f1⟩ : S34), (rd_T36 x15_2 x16_2).f2, (rd_T36 x15_2 x16_2).f3, (rd_T36 x15_2 x16_2).f4⟩ : S36) : List (S36))).bind fun y351 => (thermionlaw07_GaugeRises.l0 k2 t319 t323 t326 (y351.set (x16_2 : Int).toNat (⟨(⟨(rd_T36 y351 x16_2).f0.f0, (rd_T36 y351 x16_2).f0.f1⟩ : S34), (⟨t348, t349⟩ : S34), (rd_T36 y351 x16_2).f2, (rd_T36 y351 x16_2).f3, (rd_T36 y351 x16_2).f4⟩ : S36)) (wrap64 (x16_2 + 1)) t350 t328 t329)) = some r := H
                      have A57 := Aside0.mk A570
                      clear A570
                      obtain ⟨y351, hy351⟩ : ∃ y_ : List (S36), y_ = (x15_2.set (x16_2 : Int).toNat (⟨(⟨t343, t344⟩ : S34), (⟨(rd_T36 x15_2 x16_2).f1.f0, (rd_T36 x15_2 x16_2).f1.f1⟩ : S34), (rd_T36 x15_2 x16_2).f2, (rd_T36 x15_2 x16_2).f3, (rd_T36 x15_2 x16_2).f4⟩ : S36)) := ⟨_, rfl⟩
                      replace H : (thermionlaw07_GaugeRises.l0 k2 t319 t323 t326 (y351.set (x16_2 : Int).toNat (⟨(⟨(rd_T36 y351 x16_2).f0.f0, (rd_T36 y351 x16_2).f0.f1⟩ : S34), (⟨t348, t349⟩ : S34), (rd_T36 y351 x16_2).f2, (rd_T36 y351 x16_2).f3, (rd_T36 y351 x16_2).f4⟩ : S36)) (wrap64 (x16_2 + 1)) t350 t328 t329) = some r := by first | (rw [hy351]; with_reducible exact H) | (have H2_ := (Option.bind_some _ _).symm.trans H; rw [hy351]; with_reducible exact H2_) | (have H2_ := (Option.bind_some _ _).symm.trans H; with_reducible exact H2_) | with_reducible exact H | (rw [hy351]; exact H) | exact H
                      have Ny351 := Aside0.mk hy351
                      clear hy351
                      obtain ⟨y352, hy352⟩ : ∃ y_ : List (S36), y_ = (y351.set (x16_2 : Int).toNat (⟨(⟨(rd_T36 y351 x16_2).f0.f0, (rd_T36 y351 x16_2).f0.f1⟩ : S34), (⟨t348, t349⟩ : S34), (rd_T36 y351 x16_2).f2, (rd_T36 y351 x16_2).f3, (rd_T36 y351 x16_2).f4⟩ : S36)) := ⟨_, rfl⟩
                      replace H : (thermionlaw07_GaugeRises.l0 k2 t319 t323 t326 y352 (wrap64 (x16_2 + 1)) t350 t328 t329) = some r := by first | (rw [hy352]; with_reducible exact H) | (have H2_ := (Option.bind_some _ _).symm.trans H; rw [hy352]; with_reducible exact H2_) | (have H2_ := (Option.bind_some _ _).symm.trans H; with_reducible exact H2_) | with_reducible exact H | (rw [hy352]; exact H) | exact H
                      have Ny352 := Aside0.mk hy352
                      clear hy352
                      have H' := Aside0.mk H
                      clear H
                      obtain ⟨Ao60, co60, eo60⟩ := Kd.R_slice HO_15.out
                      subst eo60
                      try go_wp2
                      have n0_ := Aside0.mk (Kd.R_drew HO_8.out)
                      have n1_ := Aside0.mk (Kd.R_drew HO_15.out)
                      have n2_ := Aside0.mk (blk_drew BK331.out)
                      have n3_ := Aside0.mk (blk_drew BK337.out)
                      have n4_ := Aside0.mk (IsS76.drew HI318.out)
                      have n5_ := Aside0.mk (below_drew1 HB.out)
                      clear HO_8
                      clear HO_15
                      clear BK331
                      clear BK337
                      clear HI318
                      clear HB
                      have HO_8 := n0_
                      have HO_15 := n1_
                      have BK331 := n2_
                      have BK337 := n3_
                      have HI318 := n4_
                      have HB := n5_
                      clear n0_ n1_ n2_ n3_ n4_ n5_
                      have p341 : 0 ≤ (x16_2 : Int) := of_decide_eq_true (by first | (with_reducible assumption) | assumption)
                      have q341 : x16_2 < (t319.length : Int) := of_decide_eq_true (by first | (with_reducible assumption) | assumption)
                      obtain ⟨ad341, e341, hx341_0, hx341_1, hx341_2, hx341_3, hx341_4, hx341_5, hx341_6⟩ := at_T36 (Kd.R_reads' HO_8.out).2.2 x16_2 p341 q341
                      obtain rfl : ad332 = ad341 := (by injection e341)
                      replace p341 := eq_true p341
                      replace q341 := eq_true q341
                      have p342 : 0 ≤ (x16_2 : Int) := of_decide_eq_true (by first | (with_reducible assumption) | assumption)
                      have q342 : x16_2 < (t319.length : Int) := of_decide_eq_true (by first | (with_reducible assumption) | assumption)
                      obtain ⟨ad342, e342, hx342_0, hx342_1, hx342_2, hx342_3, hx342_4, hx342_5, hx342_6⟩ := at_T36 (Kd.R_reads' HO_8.out).2.2 x16_2 p342 q342
                      obtain rfl : ad332 = ad342 := (by injection e342)
                      replace p342 := eq_true p342
                      replace q342 := eq_true q342
                      have p346 : 0 ≤ (x16_2 : Int) := of_decide_eq_true (by first | (with_reducible assumption) | assumption)
                      have q346 : x16_2 < (t319.length : Int) := of_decide_eq_true (by first | (with_reducible assumption) | assumption)
                      obtain ⟨ad346, e346, hx346_0, hx346_1, hx346_2, hx346_3, hx346_4, hx346_5, hx346_6⟩ := at_T36 (Kd.R_reads' HO_8.out).2.2 x16_2 p346 q346
                      obtain rfl : ad332 = ad346 := (by injection e346)
                      replace p346 := eq_true p346
                      replace q346 := eq_true q346
                      have p347 : 0 ≤ (x16_2 : Int) := of_decide_eq_true (by first | (with_reducible assumption) | assumption)
                      have q347 : x16_2 < (t319.length : Int) := of_decide_eq_true (by first | (with_reducible assumption) | assumption)
                      obtain ⟨ad347, e347, hx347_0, hx347_1, hx347_2, hx347_3, hx347_4, hx347_5, hx347_6⟩ := at_T36 (Kd.R_reads' HO_8.out).2.2 x16_2 p347 q347
                      obtain rfl : ad332 = ad347 := (by injection e347)
                      replace p347 := eq_true p347
                      replace q347 := eq_true q347
                      refine start_ (n := 38) (S := fun w' => w'.cell? (ad332.add ((x16_2).toNat * 7)) = some (.int .i64 ((rd_T36 t319 x16_2).f0.f0)) ∧ w'.cell? ⟨(ad332.add ((x16_2).toNat * 7)).block, (ad332.add ((x16_2).toNat * 7)).off + 1, none⟩ = some (.int .i64 ((rd_T36 t319 x16_2).f0.f1)) ∧ w'.cell? ⟨(ad332.add ((x16_2).toNat * 7)).block, (ad332.add ((x16_2).toNat * 7)).off + 2, none⟩ = some (.int .i64 ((rd_T36 t319 x16_2).f1.f0)) ∧ w'.cell? ⟨(ad332.add ((x16_2).toNat * 7)).block, (ad332.add ((x16_2).toNat * 7)).off + 3, none⟩ = some (.int .i64 ((rd_T36 t319 x16_2).f1.f1)) ∧ w'.cell? ⟨(ad332.add ((x16_2).toNat * 7)).block, (ad332.add ((x16_2).toNat * 7)).off + 4, none⟩ = some (.int .i64 ((rd_T36 t319 x16_2).f2)) ∧ w'.cell? ⟨(ad332.add ((x16_2).toNat * 7)).block, (ad332.add ((x16_2).toNat * 7)).off + 5, none⟩ = some (.int .i64 ((rd_T36 t319 x16_2).f3)) ∧ w'.cell? ⟨(ad332.add ((x16_2).toNat * 7)).block, (ad332.add ((x16_2).toNat * 7)).off + 6, none⟩ = some (.int .i64 ((rd_T36 t319 x16_2).f4)) ∧ w'.cell? (ad332.add ((x16_2).toNat * 7)) = some (.int .i64 ((rd_T36 t319 x16_2).f0.f0)) ∧ w'.cell? ⟨(ad332.add ((x16_2).toNat * 7)).block, (ad332.add ((x16_2).toNat * 7)).off + 1, none⟩ = some (.int .i64 ((rd_T36 t319 x16_2).f0.f1)) ∧ w'.cell? ⟨(ad332.add ((x16_2).toNat * 7)).block, (ad332.add ((x16_2).toNat * 7)).off + 2, none⟩ = some (.int .i64 ((rd_T36 t319 x16_2).f1.f0)) ∧ w'.cell? ⟨(ad332.add ((x16_2).toNat * 7)).block, (ad332.add ((x16_2).toNat * 7)).off + 3, none⟩ = some (.int .i64 ((rd_T36 t319 x16_2).f1.f1)) ∧ w'.cell? ⟨(ad332.add ((x16_2).toNat * 7)).block, (ad332.add ((x16_2).toNat * 7)).off + 4, none⟩ = some (.int .i64 ((rd_T36 t319 x16_2).f2)) ∧ w'.cell? ⟨(ad332.add ((x16_2).toNat * 7)).block, (ad332.add ((x16_2).toNat * 7)).off + 5, none⟩ = some (.int .i64 ((rd_T36 t319 x16_2).f3)) ∧ w'.cell? ⟨(ad332.add ((x16_2).toNat * 7)).block, (ad332.add ((x16_2).toNat * 7)).off + 6, none⟩ = some (.int .i64 ((rd_T36 t319 x16_2).f4)) ∧ w'.cell? (ad332.add ((x16_2).toNat * 7)) = some (.int .i64 ((rd_T36 t319 x16_2).f0.f0)) ∧ w'.cell? ⟨(ad332.add ((x16_2).toNat * 7)).block, (ad332.add ((x16_2).toNat * 7)).off + 1, none⟩ = some (.int .i64 ((rd_T36 t319 x16_2).f0.f1)) ∧ w'.cell? ⟨(ad332.add ((x16_2).toNat * 7)).block, (ad332.add ((x16_2).toNat * 7)).off + 2, none⟩ = some (.int .i64 ((rd_T36 t319 x16_2).f1.f0)) ∧ w'.cell? ⟨(ad332.add ((x16_2).toNat * 7)).block, (ad332.add ((x16_2).toNat * 7)).off + 3, none⟩ = some (.int .i64 ((rd_T36 t319 x16_2).f1.f1)) ∧ w'.cell? ⟨(ad332.add ((x16_2).toNat * 7)).block, (ad332.add ((x16_2).toNat * 7)).off + 4, none⟩ = some (.int .i64 ((rd_T36 t319 x16_2).f2)) ∧ w'.cell? ⟨(ad332.add ((x16_2).toNat * 7)).block, (ad332.add ((x16_2).toNat * 7)).off + 5, none⟩ = some (.int .i64 ((rd_T36 t319 x16_2).f3)) ∧ w'.cell? ⟨(ad332.add ((x16_2).toNat * 7)).block, (ad332.add ((x16_2).toNat * 7)).off + 6, none⟩ = some (.int .i64 ((rd_T36 t319 x16_2).f4)) ∧ w'.cell? (ad332.add ((x16_2).toNat * 7)) = some (.int .i64 ((rd_T36 t319 x16_2).f0.f0)) ∧ w'.cell? ⟨(ad332.add ((x16_2).toNat * 7)).block, (ad332.add ((x16_2).toNat * 7)).off + 1, none⟩ = some (.int .i64 ((rd_T36 t319 x16_2).f0.f1)) ∧ w'.cell? ⟨(ad332.add ((x16_2).toNat * 7)).block, (ad332.add ((x16_2).toNat * 7)).off + 2, none⟩ = some (.int .i64 ((rd_T36 t319 x16_2).f1.f0)) ∧ w'.cell? ⟨(ad332.add ((x16_2).toNat * 7)).block, (ad332.add ((x16_2).toNat * 7)).off + 3, none⟩ = some (.int .i64 ((rd_T36 t319 x16_2).f1.f1)) ∧ w'.cell? ⟨(ad332.add ((x16_2).toNat * 7)).block, (ad332.add ((x16_2).toNat * 7)).off + 4, none⟩ = some (.int .i64 ((rd_T36 t319 x16_2).f2)) ∧ w'.cell? ⟨(ad332.add ((x16_2).toNat * 7)).block, (ad332.add ((x16_2).toNat * 7)).off + 5, none⟩ = some (.int .i64 ((rd_T36 t319 x16_2).f3)) ∧ w'.cell? ⟨(ad332.add ((x16_2).toNat * 7)).block, (ad332.add ((x16_2).toNat * 7)).off + 6, none⟩ = some (.int .i64 ((rd_T36 t319 x16_2).f4))) (ds := [34, 37]) #[false, false, false, false, false, false, false, false, false, false, false, false, false, false, false, false, false, false, false, false, false, false, false, false, false, false, false, false, false, false, false, false, false, false, false, false, false, false] (by kernel_rfl) rfl rfl ⟨hx341_0, hx341_1, hx341_2, hx341_3, hx341_4, hx341_5, hx341_6, hx342_0, hx342_1, hx342_2, hx342_3, hx342_4, hx342_5, hx342_6, hx346_0, hx346_1, hx346_2, hx346_3, hx346_4, hx346_5, hx346_6, hx347_0, hx347_1, hx347_2, hx347_3, hx347_4, hx347_5, hx347_6⟩ (fun hHeld => ?_); refine with_tabW thermionlaw07_GaugeRises.tab13 thermionlaw07_GaugeRises.bits13 (fun HT_ HW_ => ?_)
                      generalize wr.drew = w61 at HO_8 HO_15 BK331 BK337 HI318 HB hx341_0 hx341_1 hx341_2 hx341_3 hx341_4 hx341_5 hx341_6 hx342_0 hx342_1 hx342_2 hx342_3 hx342_4 hx342_5 hx342_6 hx346_0 hx346_1 hx346_2 hx346_3 hx346_4 hx346_5 hx346_6 hx347_0 hx347_1 hx347_2 hx347_3 hx347_4 hx347_5 hx347_6 hHeld ⊢
                      refine pure_ (i := 0) (N := some 93) (v := ?_) (a' := ?_) #[true, false, false, false, false, false, false, false, false, false, false, false, false, false, false, false, false, false, false, false, false, false, false, false, false, false, false, false, false, false, false, false, false, false, false, false, false, false] rfl rfl (any_of HT_.out (by kernel_rfl)) (fun _ _ _ h => h) (Or.inl ⟨by rfl, ?_⟩) ?_ ?_
                      rotate_left
                      · intro w'
                        go_simp
                        with_reducible rfl
                      rotate_left
                      · simp only [Act.put, List.setIfInBounds_toArray, List.set_cons_zero, List.set_cons_succ, i64_w, i32_w]
                        rfl
                      refine pure_ (i := 1) (N := some 94) (v := ?_) (a' := ?_) #[true, true, false, false, false, false, false, false, false, false, false, false, false, false, false, false, false, false, false, false, false, false, false, false, false, false, false, false, false, false, false, false, false, false, false, false, false, false] rfl rfl (any_of HT_.out (by kernel_rfl)) (fun _ _ _ h => h) (Or.inl ⟨by rfl, ?_⟩) ?_ ?_
                      rotate_left
                      · intro w'
                        go_simp
                        with_reducible rfl
                      rotate_left
                      · simp only [Act.put, List.setIfInBounds_toArray, List.set_cons_zero, List.set_cons_succ, i64_w, i32_w]
                        rfl
                      refine pure_ (i := 2) (N := some 95) (v := ?_) (a' := ?_) #[true, true, true, false, false, false, false, false, false, false, false, false, false, false, false, false, false, false, false, false, false, false, false, false, false, false, false, false, false, false, false, false, false, false, false, false, false, false] rfl rfl (any_of HT_.out (by kernel_rfl)) (fun _ _ _ h => h) (Or.inl ⟨by rfl, ?_⟩) ?_ ?_
                      rotate_left
                      · intro w'
                        go_simp
                        with_reducible rfl
                      rotate_left
                      · simp only [Act.put, List.setIfInBounds_toArray, List.set_cons_zero, List.set_cons_succ, i64_w, i32_w]
                        rfl
                      refine pure_ (i := 3) (N := some 96) (v := ?_) (a' := ?_) #[true, true, true, true, false, false, false, false, false, false, false, false, false, false, false, false, false, false, false, false, false, false, false, false, false, false, false, false, false, false, false, false, false, false, false, false, false, false] rfl rfl (any_of HT_.out (by kernel_rfl)) (fun _ _ _ h => h) (Or.inl ⟨by rfl, ?_⟩) ?_ ?_
                      rotate_left
                      · intro w'
                        go_simp
                        with_reducible rfl
                      rotate_left
                      · simp only [Act.put, List.setIfInBounds_toArray, List.set_cons_zero, List.set_cons_succ, i64_w, i32_w]
                        rfl
                      refine pure_ (i := 4) (N := some 97) (v := ?_) (a' := ?_) #[true, true, true, true, true, false, false, false, false, false, false, false, false, false, false, false, false, false, false, false, false, false, false, false, false, false, false, false, false, false, false, false, false, false, false, false, false, false] rfl rfl (any_of HT_.out (by kernel_rfl)) (fun _ _ _ h => h) (Or.inl ⟨by rfl, ?_⟩) ?_ ?_
                      rotate_left
                      · intro w'
                        go_simp
                        with_reducible rfl
                      rotate_left
                      · simp only [Act.put, List.setIfInBounds_toArray, List.set_cons_zero, List.set_cons_succ, i64_w, i32_w]
                        rfl
                      refine pure_ (i := 5) (N := some 98) (v := ?_) (a' := ?_) #[true, true, true, true, true, true, false, false, false, false, false, false, false, false, false, false, false, false, false, false, false, false, false, false, false, false, false, false, false, false, false, false, false, false, false, false, false, false] rfl rfl (any_of HT_.out (by kernel_rfl)) (fun _ _ _ h => h) (Or.inl ⟨by rfl, ?_⟩) ?_ ?_
                      rotate_left
                      · intro w'
                        go_simp
                        with_reducible rfl
                      rotate_left
                      · simp only [Act.put, List.setIfInBounds_toArray, List.set_cons_zero, List.set_cons_succ, i64_w, i32_w]
                        rfl
                      refine pure_ (i := 6) (N := some 99) (v := ?_) (a' := ?_) #[true, true, true, true, true, true, true, false, false, false, false, false, false, false, false, false, false, false, false, false, false, false, false, false, false, false, false, false, false, false, false, false, false, false, false, false, false, false] rfl rfl (any_of HT_.out (by kernel_rfl)) (fun _ _ _ h => h) (Or.inl ⟨by rfl, ?_⟩) ?_ ?_
                      rotate_left
                      · intro w'
                        go_simp
                        with_reducible rfl
                      rotate_left
                      · simp only [Act.put, List.setIfInBounds_toArray, List.set_cons_zero, List.set_cons_succ, i64_w, i32_w]
                        rfl
                      refine pure_ (i := 7) (N := some 100) (v := ?_) (a' := ?_) #[true, true, true, true, true, true, true, true, false, false, false, false, false, false, false, false, false, false, false, false, false, false, false, false, false, false, false, false, false, false, false, false, false, false, false, false, false, false] rfl rfl (any_of HT_.out (by kernel_rfl)) (fun _ _ _ h => h) (Or.inl ⟨by rfl, ?_⟩) ?_ ?_
                      rotate_left
                      · intro w'
                        go_simp
                        with_reducible rfl
                      rotate_left
                      · simp only [Act.put, List.setIfInBounds_toArray, List.set_cons_zero, List.set_cons_succ, i64_w, i32_w]
                        rfl
                      refine pure_ (i := 8) (N := some 101) (v := ?_) (a' := ?_) #[true, true, true, true, true, true, true, true, true, false, false, false, false, false, false, false, false, false, false, false, false, false, false, false, false, false, false, false, false, false, false, false, false, false, false, false, false, false] rfl rfl (any_of HT_.out (by kernel_rfl)) (fun _ _ _ h => h) (Or.inl ⟨by rfl, ?_⟩) ?_ ?_
                      rotate_left
                      · intro w'
                        go_simp
                        with_reducible rfl
                      rotate_left
                      · simp only [Act.put, List.setIfInBounds_toArray, List.set_cons_zero, List.set_cons_succ, i64_w, i32_w]
                        rfl
                      refine pure_ (i := 9) (N := some 102) (v := ?_) (a' := ?_) #[true, true, true, true, true, true, true, true, true, true, false, false, false, false, false, false, false, false, false, false, false, false, false, false, false, false, false, false, false, false, false, false, false, false, false, false, false, false] rfl rfl (any_of HT_.out (by kernel_rfl)) (fun _ _ _ h => h) (Or.inl ⟨by rfl, ?_⟩) ?_ ?_
                      rotate_left
                      · intro w'
                        go_simp
                        with_reducible rfl
                      rotate_left
                      · simp only [Act.put, List.setIfInBounds_toArray, List.set_cons_zero, List.set_cons_succ, i64_w, i32_w]
                        rfl
                      refine pure_ (i := 11) (N := some 104) (v := ?_) (a' := ?_) #[true, true, true, true, true, true, true, true, true, true, false, true, false, false, false, false, false, false, false, false, false, false, false, false, false, false, false, false, false, false, false, false, false, false, false, false, false, false] rfl rfl (any_of HT_.out (by kernel_rfl)) (fun _ _ _ h => h) (Or.inl ⟨by rfl, ?_⟩) ?_ ?_
                      rotate_left
                      · intro w'
                        go_simp
                        with_reducible rfl
                      rotate_left
                      · simp only [Act.put, List.setIfInBounds_toArray, List.set_cons_zero, List.set_cons_succ, i64_w, i32_w]
                        rfl
                      refine pure_ (i := 12) (N := some 105) (v := ?_) (a' := ?_) #[true, true, true, true, true, true, true, true, true, true, false, true, true, false, false, false, false, false, false, false, false, false, false, false, false, false, false, false, false, false, false, false, false, false, false, false, false, false] rfl rfl (any_of HT_.out (by kernel_rfl)) (fun _ _ _ h => h) (Or.inl ⟨by rfl, ?_⟩) ?_ ?_
                      rotate_left
                      · intro w'
                        go_simp
                        with_reducible rfl
                      rotate_left
                      · simp only [Act.put, List.setIfInBounds_toArray, List.set_cons_zero, List.set_cons_succ, i64_w, i32_w]
                        rfl
                      refine pure_ (i := 13) (N := some 106) (v := ?_) (a' := ?_) #[true, true, true, true, true, true, true, true, true, true, false, true, true, true, false, false, false, false, false, false, false, false, false, false, false, false, false, false, false, false, false, false, false, false, false, false, false, false] rfl rfl (any_of HT_.out (by kernel_rfl)) (fun _ _ _ h => h) (Or.inl ⟨by rfl, ?_⟩) ?_ ?_
                      rotate_left
                      · intro w'
                        go_simp
                        with_reducible rfl
                      rotate_left
                      · simp only [Act.put, List.setIfInBounds_toArray, List.set_cons_zero, List.set_cons_succ, i64_w, i32_w]
                        rfl
                      refine pure_ (i := 14) (N := some 107) (v := ?_) (a' := ?_) #[true, true, true, true, true, true, true, true, true, true, false, true, true, true, true, false, false, false, false, false, false, false, false, false, false, false, false, false, false, false, false, false, false, false, false, false, false, false] rfl rfl (any_of HT_.out (by kernel_rfl)) (fun _ _ _ h => h) (Or.inl ⟨by rfl, ?_⟩) ?_ ?_
                      rotate_left
                      · intro w'
                        go_simp
                        with_reducible rfl
                      rotate_left
                      · simp only [Act.put, List.setIfInBounds_toArray, List.set_cons_zero, List.set_cons_succ, i64_w, i32_w]
                        rfl
                      refine pure_ (i := 15) (N := some 108) (v := ?_) (a' := ?_) #[true, true, true, true, true, true, true, true, true, true, false, true, true, true, true, true, false, false, false, false, false, false, false, false, false, false, false, false, false, false, false, false, false, false, false, false, false, false] rfl rfl (any_of HT_.out (by kernel_rfl)) (fun _ _ _ h => h) (Or.inl ⟨by rfl, ?_⟩) ?_ ?_
                      rotate_left
                      · intro w'
                        go_simp
                        with_reducible rfl
                      rotate_left
                      · simp only [Act.put, List.setIfInBounds_toArray, List.set_cons_zero, List.set_cons_succ, i64_w, i32_w]
                        rfl
                      refine pure_ (i := 18) (N := some 111) (v := ?_) (a' := ?_) #[true, true, true, true, true, true, true, true, true, true, false, true, true, true, true, true, false, false, true, false, false, false, false, false, false, false, false, false, false, false, false, false, false, false, false, false, false, false] rfl rfl (any_of HT_.out (by kernel_rfl)) (fun _ _ _ h => h) (Or.inl ⟨by rfl, ?_⟩) ?_ ?_
                      rotate_left
                      · intro w'
                        go_simp
                        with_reducible rfl
                      rotate_left
                      · simp only [Act.put, List.setIfInBounds_toArray, List.set_cons_zero, List.set_cons_succ, i64_w, i32_w]
                        rfl
                      refine pure_ (i := 19) (N := some 112) (v := ?_) (a' := ?_) #[true, true, true, true, true, true, true, true, true, true, false, true, true, true, true, true, false, false, true, true, false, false, false, false, false, false, false, false, false, false, false, false, false, false, false, false, false, false] rfl rfl (any_of HT_.out (by kernel_rfl)) (fun _ _ _ h => h) (Or.inl ⟨by rfl, ?_⟩) ?_ ?_
                      rotate_left
                      · intro w'
                        go_simp
                        with_reducible rfl
                      rotate_left
                      · simp only [Act.put, List.setIfInBounds_toArray, List.set_cons_zero, List.set_cons_succ, i64_w, i32_w]
                        rfl
                      refine pure_ (i := 20) (N := some 113) (v := ?_) (a' := ?_) #[true, true, true, true, true, true, true, true, true, true, false, true, true, true, true, true, false, false, true, true, true, false, false, false, false, false, false, false, false, false, false, false, false, false, false, false, false, false] rfl rfl (any_of HT_.out (by kernel_rfl)) (fun _ _ _ h => h) (Or.inl ⟨by rfl, ?_⟩) ?_ ?_
                      rotate_left
                      · intro w'
                        go_simp
                        with_reducible rfl
                      rotate_left
                      · simp only [Act.put, List.setIfInBounds_toArray, List.set_cons_zero, List.set_cons_succ, i64_w, i32_w]
                        rfl
                      refine pure_ (i := 21) (N := some 114) (v := ?_) (a' := ?_) #[true, true, true, true, true, true, true, true, true, true, false, true, true, true, true, true, false, false, true, true, true, true, false, false, false, false, false, false, false, false, false, false, false, false, false, false, false, false] rfl rfl (any_of HT_.out (by kernel_rfl)) (fun _ _ _ h => h) (Or.inl ⟨by rfl, ?_⟩) ?_ ?_
                      rotate_left
                      · intro w'
                        go_simp
                        with_reducible rfl
                      rotate_left
                      · simp only [Act.put, List.setIfInBounds_toArray, List.set_cons_zero, List.set_cons_succ, i64_w, i32_w]
                        rfl
                      refine pure_ (i := 22) (N := some 115) (v := ?_) (a' := ?_) #[true, true, true, true, true, true, true, true, true, true, false, true, true, true, true, true, false, false, true, true, true, true, true, false, false, false, false, false, false, false, false, false, false, false, false, false, false, false] rfl rfl (any_of HT_.out (by kernel_rfl)) (fun _ _ _ h => h) (Or.inl ⟨by rfl, ?_⟩) ?_ ?_
                      rotate_left
                      · intro w'
                        go_simp
                        with_reducible rfl
                      rotate_left
                      · simp only [Act.put, List.setIfInBounds_toArray, List.set_cons_zero, List.set_cons_succ, i64_w, i32_w]
                        rfl
                      refine pure_ (i := 23) (N := some 116) (v := ?_) (a' := ?_) #[true, true, true, true, true, true, true, true, true, true, false, true, true, true, true, true, false, false, true, true, true, true, true, true, false, false, false, false, false, false, false, false, false, false, false, false, false, false] rfl rfl (any_of HT_.out (by kernel_rfl)) (fun _ _ _ h => h) (Or.inl ⟨by rfl, ?_⟩) ?_ ?_
                      rotate_left
                      · intro w'
                        go_simp
                        with_reducible rfl
                      rotate_left
                      · simp only [Act.put, List.setIfInBounds_toArray, List.set_cons_zero, List.set_cons_succ, i64_w, i32_w]
                        rfl
                      refine pure_ (i := 25) (N := some 118) (v := ?_) (a' := ?_) #[true, true, true, true, true, true, true, true, true, true, false, true, true, true, true, true, false, false, true, true, true, true, true, true, false, true, false, false, false, false, false, false, false, false, false, false, false, false] rfl rfl (any_of HT_.out (by kernel_rfl)) (fun _ _ _ h => h) (Or.inl ⟨by rfl, ?_⟩) ?_ ?_
                      rotate_left
                      · intro w'
                        go_simp
                        with_reducible rfl
                      rotate_left
                      · simp only [Act.put, List.setIfInBounds_toArray, List.set_cons_zero, List.set_cons_succ, i64_w, i32_w]
                        rfl
                      refine pure_ (i := 26) (N := some 119) (v := ?_) (a' := ?_) #[true, true, true, true, true, true, true, true, true, true, false, true, true, true, true, true, false, false, true, true, true, true, true, true, false, true, true, false, false, false, false, false, false, false, false, false, false, false] rfl rfl (any_of HT_.out (by kernel_rfl)) (fun _ _ _ h => h) (Or.inl ⟨by rfl, ?_⟩) ?_ ?_
                      rotate_left
                      · intro w'
                        go_simp
                        with_reducible rfl
                      rotate_left
                      · simp only [Act.put, List.setIfInBounds_toArray, List.set_cons_zero, List.set_cons_succ, i64_w, i32_w]
                        rfl
                      refine pure_ (i := 27) (N := some 120) (v := ?_) (a' := ?_) #[true, true, true, true, true, true, true, true, true, true, false, true, true, true, true, true, false, false, true, true, true, true, true, true, false, true, true, true, false, false, false, false, false, false, false, false, false, false] rfl rfl (any_of HT_.out (by kernel_rfl)) (fun _ _ _ h => h) (Or.inl ⟨by rfl, ?_⟩) ?_ ?_
                      rotate_left
                      · intro w'
                        go_simp
                        with_reducible rfl
                      rotate_left
                      · simp only [Act.put, List.setIfInBounds_toArray, List.set_cons_zero, List.set_cons_succ, i64_w, i32_w]
                        rfl
                      refine pure_ (i := 28) (N := some 121) (v := ?_) (a' := ?_) #[true, true, true, true, true, true, true, true, true, true, false, true, true, true, true, true, false, false, true, true, true, true, true, true, false, true, true, true, true, false, false, false, false, false, false, false, false, false] rfl rfl (any_of HT_.out (by kernel_rfl)) (fun _ _ _ h => h) (Or.inl ⟨by rfl, ?_⟩) ?_ ?_
                      rotate_left
                      · intro w'
                        go_simp
                        with_reducible rfl
                      rotate_left
                      · simp only [Act.put, List.setIfInBounds_toArray, List.set_cons_zero, List.set_cons_succ, i64_w, i32_w]
                        rfl
                      refine pure_ (i := 29) (N := some 122) (v := ?_) (a' := ?_) #[true, true, true, true, true, true, true, true, true, true, false, true, true, true, true, true, false, false, true, true, true, true, true, true, false, true, true, true, true, true, false, false, false, false, false, false, false, false] rfl rfl (any_of HT_.out (by kernel_rfl)) (fun _ _ _ h => h) (Or.inl ⟨by rfl, ?_⟩) ?_ ?_
                      rotate_left
                      · intro w'
                        go_simp
                        with_reducible rfl
                      rotate_left
                      · simp only [Act.put, List.setIfInBounds_toArray, List.set_cons_zero, List.set_cons_succ, i64_w, i32_w]
                        rfl
                      refine take_ (i := 10) (N := some 103) (v := ?_) (a' := ?_) #[true, true, true, true, true, true, true, true, true, true, true, true, true, true, true, true, false, false, true, true, true, true, true, true, false, true, true, true, true, true, false, false, false, false, false, false, false, false] rfl rfl (take_ofW HT_.out HW_.out (by kernel_rfl)) (fun _ _ _ h => h) (Or.inl ⟨by rfl, ?_⟩) hHeld ?_ ?_
                      rotate_left
                      · rintro w' ⟨s0, s1, s2, s3, s4, s5, s6, s7, s8, s9, s10, s11, s12, s13, s14, s15, s16, s17, s18, s19, s20, s21, s22, s23, s24, s25, s26, s27⟩
                        go_simp
                        with_reducible rfl
                      rotate_left
                      · simp only [Act.put, List.setIfInBounds_toArray, List.set_cons_zero, List.set_cons_succ, i64_w, i32_w]
                        rfl
                      refine take_ (i := 16) (N := some 109) (v := ?_) (a' := ?_) #[true, true, true, true, true, true, true, true, true, true, true, true, true, true, true, true, true, false, true, true, true, true, true, true, false, true, true, true, true, true, false, false, false, false, false, false, false, false] rfl rfl (take_ofW HT_.out HW_.out (by kernel_rfl)) (fun _ _ _ h => h) (Or.inl ⟨by rfl, ?_⟩) hHeld ?_ ?_
                      rotate_left
                      · rintro w' ⟨s0, s1, s2, s3, s4, s5, s6, s7, s8, s9, s10, s11, s12, s13, s14, s15, s16, s17, s18, s19, s20, s21, s22, s23, s24, s25, s26, s27⟩
                        go_simp
                        with_reducible rfl
                      rotate_left
                      · simp only [Act.put, List.setIfInBounds_toArray, List.set_cons_zero, List.set_cons_succ, i64_w, i32_w]
                        rfl
                      refine take_ (i := 24) (N := some 117) (v := ?_) (a' := ?_) #[true, true, true, true, true, true, true, true, true, true, true, true, true, true, true, true, true, false, true, true, true, true, true, true, true, true, true, true, true, true, false, false, false, false, false, false, false, false] rfl rfl (take_ofW HT_.out HW_.out (by kernel_rfl)) (fun _ _ _ h => h) (Or.inl ⟨by rfl, ?_⟩) hHeld ?_ ?_
                      rotate_left
                      · rintro w' ⟨s0, s1, s2, s3, s4, s5, s6, s7, s8, s9, s10, s11, s12, s13, s14, s15, s16, s17, s18, s19, s20, s21, s22, s23, s24, s25, s26, s27⟩
                        go_simp
                        with_reducible rfl
                      rotate_left
                      · simp only [Act.put, List.setIfInBounds_toArray, List.set_cons_zero, List.set_cons_succ, i64_w, i32_w]
                        rfl
                      refine take_ (i := 30) (N := some 123) (v := ?_) (a' := ?_) #[true, true, true, true, true, true, true, true, true, true, true, true, true, true, true, true, true, false, true, true, true, true, true, true, true, true, true, true, true, true, true, false, false, false, false, false, false, false] rfl rfl (take_ofW HT_.out HW_.out (by kernel_rfl)) (fun _ _ _ h => h) (Or.inl ⟨by rfl, ?_⟩) hHeld ?_ ?_
                      rotate_left
                      · rintro w' ⟨s0, s1, s2, s3, s4, s5, s6, s7, s8, s9, s10, s11, s12, s13, s14, s15, s16, s17, s18, s19, s20, s21, s22, s23, s24, s25, s26, s27⟩
                        go_simp
                        with_reducible rfl
                      rotate_left
                      · simp only [Act.put, List.setIfInBounds_toArray, List.set_cons_zero, List.set_cons_succ, i64_w, i32_w]
                        rfl
                      refine one_ (i := 17) (N := some 110) #[true, true, true, true, true, true, true, true, true, true, true, true, true, true, true, true, true, true, true, true, true, true, true, true, true, true, true, true, true, true, true, false, false, false, false, false, false, false] rfl rfl (one_of HT_.out (by kernel_rfl)) (by decide) (fun K hK => ?_)
                      refine goes_ Try.func25 (by kernel_rfl) rfl #[.pointer (some ⟨g318, 0, none⟩), .int .i64 ((rd_T36 t319 x16_2).f0.f0), .int .i64 ((rd_T36 t319 x16_2).f0.f1)] (by rfl) rfl rfl (by (try simp only [List.map_toArray, List.map_cons, List.map_nil]); first | done | rfl | (simp only [List.length_drop, List.length_take]; rfl)) ?_
                      with_reducible refine (thermionkit_Dice_Range.calls g318 x319000_2 ((rd_T36 t319 x16_2).f0.f0) ((rd_T36 t319 x16_2).f0.f1) t343 t344 t345 w _ ?side1 ?side2 A56.out).mono ?_
                      (case side1 => repeat (first | (with_reducible first | exact HI318.out | apply IsS76.alloc | apply IsS76.drewN | apply IsS76.drew | apply IsS76.set_0 | refine IsS76.far ?_ NB318_331.out _ | refine IsS76.far ?_ NB318_337.out _) | exact HI318.out))
                      (case side2 => repeat (first | (with_reducible first | exact HB.out | apply below_alloc | apply pw_below_drewN | apply below_drew1 | refine below_set ?_ (IsS76.ge HI318.out) | refine below_set ?_ GE331.out | refine below_set ?_ GE337.out) | exact HB.out))
                      rintro e w62 ⟨rfl, hi, hb, hk⟩
                      have HS0_ := keep_cell hk (hHeld.1) (by first | (rw [add_block]; exact Kd.own_blk (IsS76.own_ne HI318.out HO_8.out (by decide))) | (show (Addr.add _ _).block ≠ _; rw [add_block]; exact Kd.own_blk (IsS76.own_ne HI318.out HO_8.out (by decide))) | exact Kd.own_blk (IsS76.own_ne HI318.out HO_8.out (by decide)))
                      have HS1_ := keep_cell hk (hHeld.2.1) (by first | (rw [add_block]; exact Kd.own_blk (IsS76.own_ne HI318.out HO_8.out (by decide))) | (show (Addr.add _ _).block ≠ _; rw [add_block]; exact Kd.own_blk (IsS76.own_ne HI318.out HO_8.out (by decide))) | exact Kd.own_blk (IsS76.own_ne HI318.out HO_8.out (by decide)))
                      have HS2_ := keep_cell hk (hHeld.2.2.1) (by first | (rw [add_block]; exact Kd.own_blk (IsS76.own_ne HI318.out HO_8.out (by decide))) | (show (Addr.add _ _).block ≠ _; rw [add_block]; exact Kd.own_blk (IsS76.own_ne HI318.out HO_8.out (by decide))) | exact Kd.own_blk (IsS76.own_ne HI318.out HO_8.out (by decide)))
                      have HS3_ := keep_cell hk (hHeld.2.2.2.1) (by first | (rw [add_block]; exact Kd.own_blk (IsS76.own_ne HI318.out HO_8.out (by decide))) | (show (Addr.add _ _).block ≠ _; rw [add_block]; exact Kd.own_blk (IsS76.own_ne HI318.out HO_8.out (by decide))) | exact Kd.own_blk (IsS76.own_ne HI318.out HO_8.out (by decide)))
                      have HS4_ := keep_cell hk (hHeld.2.2.2.2.1) (by first | (rw [add_block]; exact Kd.own_blk (IsS76.own_ne HI318.out HO_8.out (by decide))) | (show (Addr.add _ _).block ≠ _; rw [add_block]; exact Kd.own_blk (IsS76.own_ne HI318.out HO_8.out (by decide))) | exact Kd.own_blk (IsS76.own_ne HI318.out HO_8.out (by decide)))
                      have HS5_ := keep_cell hk (hHeld.2.2.2.2.2.1) (by first | (rw [add_block]; exact Kd.own_blk (IsS76.own_ne HI318.out HO_8.out (by decide))) | (show (Addr.add _ _).block ≠ _; rw [add_block]; exact Kd.own_blk (IsS76.own_ne HI318.out HO_8.out (by decide))) | exact Kd.own_blk (IsS76.own_ne HI318.out HO_8.out (by decide)))
                      have HS6_ := keep_cell hk (hHeld.2.2.2.2.2.2.1) (by first | (rw [add_block]; exact Kd.own_blk (IsS76.own_ne HI318.out HO_8.out (by decide))) | (show (Addr.add _ _).block ≠ _; rw [add_block]; exact Kd.own_blk (IsS76.own_ne HI318.out HO_8.out (by decide))) | exact Kd.own_blk (IsS76.own_ne HI318.out HO_8.out (by decide)))
                      have HS7_ := keep_cell hk (hHeld.2.2.2.2.2.2.2.1) (by first | (rw [add_block]; exact Kd.own_blk (IsS76.own_ne HI318.out HO_8.out (by decide))) | (show (Addr.add _ _).block ≠ _; rw [add_block]; exact Kd.own_blk (IsS76.own_ne HI318.out HO_8.out (by decide))) | exact Kd.own_blk (IsS76.own_ne HI318.out HO_8.out (by decide)))
                      have HS8_ := keep_cell hk (hHeld.2.2.2.2.2.2.2.2.1) (by first | (rw [add_block]; exact Kd.own_blk (IsS76.own_ne HI318.out HO_8.out (by decide))) | (show (Addr.add _ _).block ≠ _; rw [add_block]; exact Kd.own_blk (IsS76.own_ne HI318.out HO_8.out (by decide))) | exact Kd.own_blk (IsS76.own_ne HI318.out HO_8.out (by decide)))
                      have HS9_ := keep_cell hk (hHeld.2.2.2.2.2.2.2.2.2.1) (by first | (rw [add_block]; exact Kd.own_blk (IsS76.own_ne HI318.out HO_8.out (by decide))) | (show (Addr.add _ _).block ≠ _; rw [add_block]; exact Kd.own_blk (IsS76.own_ne HI318.out HO_8.out (by decide))) | exact Kd.own_blk (IsS76.own_ne HI318.out HO_8.out (by decide)))
                      have HS10_ := keep_cell hk (hHeld.2.2.2.2.2.2.2.2.2.2.1) (by first | (rw [add_block]; exact Kd.own_blk (IsS76.own_ne HI318.out HO_8.out (by decide))) | (show (Addr.add _ _).block ≠ _; rw [add_block]; exact Kd.own_blk (IsS76.own_ne HI318.out HO_8.out (by decide))) | exact Kd.own_blk (IsS76.own_ne HI318.out HO_8.out (by decide)))
                      have HS11_ := keep_cell hk (hHeld.2.2.2.2.2.2.2.2.2.2.2.1) (by first | (rw [add_block]; exact Kd.own_blk (IsS76.own_ne HI318.out HO_8.out (by decide))) | (show (Addr.add _ _).block ≠ _; rw [add_block]; exact Kd.own_blk (IsS76.own_ne HI318.out HO_8.out (by decide))) | exact Kd.own_blk (IsS76.own_ne HI318.out HO_8.out (by decide)))
                      have HS12_ := keep_cell hk (hHeld.2.2.2.2.2.2.2.2.2.2.2.2.1) (by first | (rw [add_block]; exact Kd.own_blk (IsS76.own_ne HI318.out HO_8.out (by decide))) | (show (Addr.add _ _).block ≠ _; rw [add_block]; exact Kd.own_blk (IsS76.own_ne HI318.out HO_8.out (by decide))) | exact Kd.own_blk (IsS76.own_ne HI318.out HO_8.out (by decide)))
                      have HS13_ := keep_cell hk (hHeld.2.2.2.2.2.2.2.2.2.2.2.2.2.1) (by first | (rw [add_block]; exact Kd.own_blk (IsS76.own_ne HI318.out HO_8.out (by decide))) | (show (Addr.add _ _).block ≠ _; rw [add_block]; exact Kd.own_blk (IsS76.own_ne HI318.out HO_8.out (by decide))) | exact Kd.own_blk (IsS76.own_ne HI318.out HO_8.out (by decide)))
                      have HS14_ := keep_cell hk (hHeld.2.2.2.2.2.2.2.2.2.2.2.2.2.2.1) (by first | (rw [add_block]; exact Kd.own_blk (IsS76.own_ne HI318.out HO_8.out (by decide))) | (show (Addr.add _ _).block ≠ _; rw [add_block]; exact Kd.own_blk (IsS76.own_ne HI318.out HO_8.out (by decide))) | exact Kd.own_blk (IsS76.own_ne HI318.out HO_8.out (by decide)))
                      have HS15_ := keep_cell hk (hHeld.2.2.2.2.2.2.2.2.2.2.2.2.2.2.2.1) (by first | (rw [add_block]; exact Kd.own_blk (IsS76.own_ne HI318.out HO_8.out (by decide))) | (show (Addr.add _ _).block ≠ _; rw [add_block]; exact Kd.own_blk (IsS76.own_ne HI318.out HO_8.out (by decide))) | exact Kd.own_blk (IsS76.own_ne HI318.out HO_8.out (by decide)))
                      have HS16_ := keep_cell hk (hHeld.2.2.2.2.2.2.2.2.2.2.2.2.2.2.2.2.1) (by first | (rw [add_block]; exact Kd.own_blk (IsS76.own_ne HI318.out HO_8.out (by decide))) | (show (Addr.add _ _).block ≠ _; rw [add_block]; exact Kd.own_blk (IsS76.own_ne HI318.out HO_8.out (by decide))) | exact Kd.own_blk (IsS76.own_ne HI318.out HO_8.out (by decide)))
                      have HS17_ := keep_cell hk (hHeld.2.2.2.2.2.2.2.2.2.2.2.2.2.2.2.2.2.1) (by first | (rw [add_block]; exact Kd.own_blk (IsS76.own_ne HI318.out HO_8.out (by decide))) | (show (Addr.add _ _).block ≠ _; rw [add_block]; exact Kd.own_blk (IsS76.own_ne HI318.out HO_8.out (by decide))) | exact Kd.own_blk (IsS76.own_ne HI318.out HO_8.out (by decide)))
                      have HS18_ := keep_cell hk (hHeld.2.2.2.2.2.2.2.2.2.2.2.2.2.2.2.2.2.2.1) (by first | (rw [add_block]; exact Kd.own_blk (IsS76.own_ne HI318.out HO_8.out (by decide))) | (show (Addr.add _ _).block ≠ _; rw [add_block]; exact Kd.own_blk (IsS76.own_ne HI318.out HO_8.out (by decide))) | exact Kd.own_blk (IsS76.own_ne HI318.out HO_8.out (by decide)))
                      have HS19_ := keep_cell hk (hHeld.2.2.2.2.2.2.2.2.2.2.2.2.2.2.2.2.2.2.2.1) (by first | (rw [add_block]; exact Kd.own_blk (IsS76.own_ne HI318.out HO_8.out (by decide))) | (show (Addr.add _ _).block ≠ _; rw [add_block]; exact Kd.own_blk (IsS76.own_ne HI318.out HO_8.out (by decide))) | exact Kd.own_blk (IsS76.own_ne HI318.out HO_8.out (by decide)))
                      have HS20_ := keep_cell hk (hHeld.2.2.2.2.2.2.2.2.2.2.2.2.2.2.2.2.2.2.2.2.1) (by first | (rw [add_block]; exact Kd.own_blk (IsS76.own_ne HI318.out HO_8.out (by decide))) | (show (Addr.add _ _).block ≠ _; rw [add_block]; exact Kd.own_blk (IsS76.own_ne HI318.out HO_8.out (by decide))) | exact Kd.own_blk (IsS76.own_ne HI318.out HO_8.out (by decide)))
                      have HS21_ := keep_cell hk (hHeld.2.2.2.2.2.2.2.2.2.2.2.2.2.2.2.2.2.2.2.2.2.1) (by first | (rw [add_block]; exact Kd.own_blk (IsS76.own_ne HI318.out HO_8.out (by decide))) | (show (Addr.add _ _).block ≠ _; rw [add_block]; exact Kd.own_blk (IsS76.own_ne HI318.out HO_8.out (by decide))) | exact Kd.own_blk (IsS76.own_ne HI318.out HO_8.out (by decide)))
                      have HS22_ := keep_cell hk (hHeld.2.2.2.2.2.2.2.2.2.2.2.2.2.2.2.2.2.2.2.2.2.2.1) (by first | (rw [add_block]; exact Kd.own_blk (IsS76.own_ne HI318.out HO_8.out (by decide))) | (show (Addr.add _ _).block ≠ _; rw [add_block]; exact Kd.own_blk (IsS76.own_ne HI318.out HO_8.out (by decide))) | exact Kd.own_blk (IsS76.own_ne HI318.out HO_8.out (by decide)))
                      have HS23_ := keep_cell hk (hHeld.2.2.2.2.2.2.2.2.2.2.2.2.2.2.2.2.2.2.2.2.2.2.2.1) (by first | (rw [add_block]; exact Kd.own_blk (IsS76.own_ne HI318.out HO_8.out (by decide))) | (show (Addr.add _ _).block ≠ _; rw [add_block]; exact Kd.own_blk (IsS76.own_ne HI318.out HO_8.out (by decide))) | exact Kd.own_blk (IsS76.own_ne HI318.out HO_8.out (by decide)))
                      have HS24_ := keep_cell hk (hHeld.2.2.2.2.2.2.2.2.2.2.2.2.2.2.2.2.2.2.2.2.2.2.2.2.1) (by first | (rw [add_block]; exact Kd.own_blk (IsS76.own_ne HI318.out HO_8.out (by decide))) | (show (Addr.add _ _).block ≠ _; rw [add_block]; exact Kd.own_blk (IsS76.own_ne HI318.out HO_8.out (by decide))) | exact Kd.own_blk (IsS76.own_ne HI318.out HO_8.out (by decide)))
                      have HS25_ := keep_cell hk (hHeld.2.2.2.2.2.2.2.2.2.2.2.2.2.2.2.2.2.2.2.2.2.2.2.2.2.1) (by first | (rw [add_block]; exact Kd.own_blk (IsS76.own_ne HI318.out HO_8.out (by decide))) | (show (Addr.add _ _).block ≠ _; rw [add_block]; exact Kd.own_blk (IsS76.own_ne HI318.out HO_8.out (by decide))) | exact Kd.own_blk (IsS76.own_ne HI318.out HO_8.out (by decide)))
                      have HS26_ := keep_cell hk (hHeld.2.2.2.2.2.2.2.2.2.2.2.2.2.2.2.2.2.2.2.2.2.2.2.2.2.2.1) (by first | (rw [add_block]; exact Kd.own_blk (IsS76.own_ne HI318.out HO_8.out (by decide))) | (show (Addr.add _ _).block ≠ _; rw [add_block]; exact Kd.own_blk (IsS76.own_ne HI318.out HO_8.out (by decide))) | exact Kd.own_blk (IsS76.own_ne HI318.out HO_8.out (by decide)))
                      have HS27_ := keep_cell hk (hHeld.2.2.2.2.2.2.2.2.2.2.2.2.2.2.2.2.2.2.2.2.2.2.2.2.2.2.2) (by first | (rw [add_block]; exact Kd.own_blk (IsS76.own_ne HI318.out HO_8.out (by decide))) | (show (Addr.add _ _).block ≠ _; rw [add_block]; exact Kd.own_blk (IsS76.own_ne HI318.out HO_8.out (by decide))) | exact Kd.own_blk (IsS76.own_ne HI318.out HO_8.out (by decide)))
                      refine ⟨_, rfl, ?_⟩
                      have n0_ := Aside0.mk (Kd.R_mono (Kd.R_keep (IsS76.apart (show IsS76 w _ g318 x319000_2 from by repeat (first | (with_reducible first | exact HI318.out | apply IsS76.alloc | apply IsS76.drewN | apply IsS76.drew | apply IsS76.set_0 | refine IsS76.far ?_ NB318_331.out _ | refine IsS76.far ?_ NB318_337.out _) | exact HI318.out)) (by (with_reducible repeat (first | apply Kd.R_alloc | apply Kd.R_drewN | apply Kd.R_drew)); exact HO_8.out) (by decide)) hk (fun _ h => h.2)) (fun _ h => h.1))
                      have n1_ := Aside0.mk (Kd.R_mono (Kd.R_keep (IsS76.apart (show IsS76 w _ g318 x319000_2 from by repeat (first | (with_reducible first | exact HI318.out | apply IsS76.alloc | apply IsS76.drewN | apply IsS76.drew | apply IsS76.set_0 | refine IsS76.far ?_ NB318_331.out _ | refine IsS76.far ?_ NB318_337.out _) | exact HI318.out)) (by (with_reducible repeat (first | apply Kd.R_alloc | apply Kd.R_drewN | apply Kd.R_drew)); exact HO_15.out) (by decide)) hk (fun _ h => h.2)) (fun _ h => h.1))
                      have n2_ := Aside0.mk (KeepBut.blk hk (g' := gb331) (o := .cells #[.int .i64 t328, .int .i64 t329] 34 (0, 0)) (by (with_reducible repeat (first | refine blk_drewN ?_ _ | refine blk_drew ?_ | refine blk_alloc ?_ _)); exact BK331.out) NB331_318.out (by simp))
                      have n3_ := Aside0.mk (KeepBut.blk hk (g' := gb337) (o := .cells #[.int .i64 t334, .int .i64 t335] 34 (0, 0)) (by (with_reducible repeat (first | refine blk_drewN ?_ _ | refine blk_drew ?_ | refine blk_alloc ?_ _)); exact BK337.out) NB337_318.out (by simp))
                      have n4_ := Aside0.mk (hb)
                      have n5_ := Aside0.mk (hi)
                      clear HO_8
                      clear HO_15
                      clear BK331
                      clear BK337
                      clear HB
                      clear HI318
                      have HO_8 := n0_
                      have HO_15 := n1_
                      have BK331 := n2_
                      have BK337 := n3_
                      have HB := n4_
                      have HI318 := n5_
                      clear n0_ n1_ n2_ n3_ n4_ n5_
                      (try clear hb)
                      (try clear hb2)
                      (try clear hk)
                      (try clear hi)
                      refine hK.out _ _ ⟨HS0_, HS1_, HS2_, HS3_, HS4_, HS5_, HS6_, HS7_, HS8_, HS9_, HS10_, HS11_, HS12_, HS13_, HS14_, HS15_, HS16_, HS17_, HS18_, HS19_, HS20_, HS21_, HS22_, HS23_, HS24_, HS25_, HS26_, HS27_⟩ (fun hHeld => ?_)
                      clear hK K
                      refine norm_ (a' := ?_) ?_ ?_
                      rotate_left
                      · show Act.put _ (some 110) _ = _
                        simp only [Act.put, List.setIfInBounds_toArray, List.set_cons_zero, List.set_cons_succ, i64_w, i32_w]
                        rfl
                      refine one_ (i := 31) (N := some 124) #[true, true, true, true, true, true, true, true, true, true, true, true, true, true, true, true, true, true, true, true, true, true, true, true, true, true, true, true, true, true, true, true, false, false, false, false, false, false] rfl rfl (one_of HT_.out (by kernel_rfl)) (by decide) (fun K hK => ?_)
                      refine goes_ Try.func25 (by kernel_rfl) rfl #[.pointer (some ⟨g318, 0, none⟩), .int .i64 ((rd_T36 t319 x16_2).f1.f0), .int .i64 ((rd_T36 t319 x16_2).f1.f1)] (by rfl) rfl rfl (by (try simp only [List.map_toArray, List.map_cons, List.map_nil]); first | done | rfl | (simp only [List.length_drop, List.length_take]; rfl)) ?_
                      with_reducible refine (thermionkit_Dice_Range.calls g318 t345 ((rd_T36 t319 x16_2).f1.f0) ((rd_T36 t319 x16_2).f1.f1) t348 t349 t350 w _ ?side1 ?side2 A57.out).mono ?_
                      (case side1 => repeat (first | (with_reducible first | exact HI318.out | apply IsS76.alloc | apply IsS76.drewN | apply IsS76.drew | apply IsS76.set_0 | refine IsS76.far ?_ NB318_331.out _ | refine IsS76.far ?_ NB318_337.out _) | exact HI318.out))
                      (case side2 => repeat (first | (with_reducible first | exact HB.out | apply below_alloc | apply pw_below_drewN | apply below_drew1 | refine below_set ?_ (IsS76.ge HI318.out) | refine below_set ?_ GE331.out | refine below_set ?_ GE337.out) | exact HB.out))
                      rintro e w63 ⟨rfl, hi, hb, hk⟩
                      have HS0_ := keep_cell hk (hHeld.1) (by first | (rw [add_block]; exact Kd.own_blk (IsS76.own_ne HI318.out HO_8.out (by decide))) | (show (Addr.add _ _).block ≠ _; rw [add_block]; exact Kd.own_blk (IsS76.own_ne HI318.out HO_8.out (by decide))) | exact Kd.own_blk (IsS76.own_ne HI318.out HO_8.out (by decide)))
                      have HS1_ := keep_cell hk (hHeld.2.1) (by first | (rw [add_block]; exact Kd.own_blk (IsS76.own_ne HI318.out HO_8.out (by decide))) | (show (Addr.add _ _).block ≠ _; rw [add_block]; exact Kd.own_blk (IsS76.own_ne HI318.out HO_8.out (by decide))) | exact Kd.own_blk (IsS76.own_ne HI318.out HO_8.out (by decide)))
                      have HS2_ := keep_cell hk (hHeld.2.2.1) (by first | (rw [add_block]; exact Kd.own_blk (IsS76.own_ne HI318.out HO_8.out (by decide))) | (show (Addr.add _ _).block ≠ _; rw [add_block]; exact Kd.own_blk (IsS76.own_ne HI318.out HO_8.out (by decide))) | exact Kd.own_blk (IsS76.own_ne HI318.out HO_8.out (by decide)))
                      have HS3_ := keep_cell hk (hHeld.2.2.2.1) (by first | (rw [add_block]; exact Kd.own_blk (IsS76.own_ne HI318.out HO_8.out (by decide))) | (show (Addr.add _ _).block ≠ _; rw [add_block]; exact Kd.own_blk (IsS76.own_ne HI318.out HO_8.out (by decide))) | exact Kd.own_blk (IsS76.own_ne HI318.out HO_8.out (by decide)))
                      have HS4_ := keep_cell hk (hHeld.2.2.2.2.1) (by first | (rw [add_block]; exact Kd.own_blk (IsS76.own_ne HI318.out HO_8.out (by decide))) | (show (Addr.add _ _).block ≠ _; rw [add_block]; exact Kd.own_blk (IsS76.own_ne HI318.out HO_8.out (by decide))) | exact Kd.own_blk (IsS76.own_ne HI318.out HO_8.out (by decide)))
                      have HS5_ := keep_cell hk (hHeld.2.2.2.2.2.1) (by first | (rw [add_block]; exact Kd.own_blk (IsS76.own_ne HI318.out HO_8.out (by decide))) | (show (Addr.add _ _).block ≠ _; rw [add_block]; exact Kd.own_blk (IsS76.own_ne HI318.out HO_8.out (by decide))) | exact Kd.own_blk (IsS76.own_ne HI318.out HO_8.out (by decide)))
                      have HS6_ := keep_cell hk (hHeld.2.2.2.2.2.2.1) (by first | (rw [add_block]; exact Kd.own_blk (IsS76.own_ne HI318.out HO_8.out (by decide))) | (show (Addr.add _ _).block ≠ _; rw [add_block]; exact Kd.own_blk (IsS76.own_ne HI318.out HO_8.out (by decide))) | exact Kd.own_blk (IsS76.own_ne HI318.out HO_8.out (by decide)))
                      have HS7_ := keep_cell hk (hHeld.2.2.2.2.2.2.2.1) (by first | (rw [add_block]; exact Kd.own_blk (IsS76.own_ne HI318.out HO_8.out (by decide))) | (show (Addr.add _ _).block ≠ _; rw [add_block]; exact Kd.own_blk (IsS76.own_ne HI318.out HO_8.out (by decide))) | exact Kd.own_blk (IsS76.own_ne HI318.out HO_8.out (by decide)))
                      have HS8_ := keep_cell hk (hHeld.2.2.2.2.2.2.2.2.1) (by first | (rw [add_block]; exact Kd.own_blk (IsS76.own_ne HI318.out HO_8.out (by decide))) | (show (Addr.add _ _).block ≠ _; rw [add_block]; exact Kd.own_blk (IsS76.own_ne HI318.out HO_8.out (by decide))) | exact Kd.own_blk (IsS76.own_ne HI318.out HO_8.out (by decide)))
                      have HS9_ := keep_cell hk (hHeld.2.2.2.2.2.2.2.2.2.1) (by first | (rw [add_block]; exact Kd.own_blk (IsS76.own_ne HI318.out HO_8.out (by decide))) | (show (Addr.add _ _).block ≠ _; rw [add_block]; exact Kd.own_blk (IsS76.own_ne HI318.out HO_8.out (by decide))) | exact Kd.own_blk (IsS76.own_ne HI318.out HO_8.out (by decide)))
                      have HS10_ := keep_cell hk (hHeld.2.2.2.2.2.2.2.2.2.2.1) (by first | (rw [add_block]; exact Kd.own_blk (IsS76.own_ne HI318.out HO_8.out (by decide))) | (show (Addr.add _ _).block ≠ _; rw [add_block]; exact Kd.own_blk (IsS76.own_ne HI318.out HO_8.out (by decide))) | exact Kd.own_blk (IsS76.own_ne HI318.out HO_8.out (by decide)))
                      have HS11_ := keep_cell hk (hHeld.2.2.2.2.2.2.2.2.2.2.2.1) (by first | (rw [add_block]; exact Kd.own_blk (IsS76.own_ne HI318.out HO_8.out (by decide))) | (show (Addr.add _ _).block ≠ _; rw [add_block]; exact Kd.own_blk (IsS76.own_ne HI318.out HO_8.out (by decide))) | exact Kd.own_blk (IsS76.own_ne HI318.out HO_8.out (by decide)))
                      have HS12_ := keep_cell hk (hHeld.2.2.2.2.2.2.2.2.2.2.2.2.1) (by first | (rw [add_block]; exact Kd.own_blk (IsS76.own_ne HI318.out HO_8.out (by decide))) | (show (Addr.add _ _).block ≠ _; rw [add_block]; exact Kd.own_blk (IsS76.own_ne HI318.out HO_8.out (by decide))) | exact Kd.own_blk (IsS76.own_ne HI318.out HO_8.out (by decide)))
                      have HS13_ := keep_cell hk (hHeld.2.2.2.2.2.2.2.2.2.2.2.2.2.1) (by first | (rw [add_block]; exact Kd.own_blk (IsS76.own_ne HI318.out HO_8.out (by decide))) | (show (Addr.add _ _).block ≠ _; rw [add_block]; exact Kd.own_blk (IsS76.own_ne HI318.out HO_8.out (by decide))) | exact Kd.own_blk (IsS76.own_ne HI318.out HO_8.out (by decide)))
                      have HS14_ := keep_cell hk (hHeld.2.2.2.2.2.2.2.2.2.2.2.2.2.2.1) (by first | (rw [add_block]; exact Kd.own_blk (IsS76.own_ne HI318.out HO_8.out (by decide))) | (show (Addr.add _ _).block ≠ _; rw [add_block]; exact Kd.own_blk (IsS76.own_ne HI318.out HO_8.out (by decide))) | exact Kd.own_blk (IsS76.own_ne HI318.out HO_8.out (by decide)))
                      have HS15_ := keep_cell hk (hHeld.2.2.2.2.2.2.2.2.2.2.2.2.2.2.2.1) (by first | (rw [add_block]; exact Kd.own_blk (IsS76.own_ne HI318.out HO_8.out (by decide))) | (show (Addr.add _ _).block ≠ _; rw [add_block]; exact Kd.own_blk (IsS76.own_ne HI318.out HO_8.out (by decide))) | exact Kd.own_blk (IsS76.own_ne HI318.out HO_8.out (by decide)))
                      have HS16_ := keep_cell hk (hHeld.2.2.2.2.2.2.2.2.2.2.2.2.2.2.2.2.1) (by first | (rw [add_block]; exact Kd.own_blk (IsS76.own_ne HI318.out HO_8.out (by decide))) | (show (Addr.add _ _).block ≠ _; rw [add_block]; exact Kd.own_blk (IsS76.own_ne HI318.out HO_8.out (by decide))) | exact Kd.own_blk (IsS76.own_ne HI318.out HO_8.out (by decide)))
                      have HS17_ := keep_cell hk (hHeld.2.2.2.2.2.2.2.2.2.2.2.2.2.2.2.2.2.1) (by first | (rw [add_block]; exact Kd.own_blk (IsS76.own_ne HI318.out HO_8.out (by decide))) | (show (Addr.add _ _).block ≠ _; rw [add_block]; exact Kd.own_blk (IsS76.own_ne HI318.out HO_8.out (by decide))) | exact Kd.own_blk (IsS76.own_ne HI318.out HO_8.out (by decide)))
                      have HS18_ := keep_cell hk (hHeld.2.2.2.2.2.2.2.2.2.2.2.2.2.2.2.2.2.2.1) (by first | (rw [add_block]; exact Kd.own_blk (IsS76.own_ne HI318.out HO_8.out (by decide))) | (show (Addr.add _ _).block ≠ _; rw [add_block]; exact Kd.own_blk (IsS76.own_ne HI318.out HO_8.out (by decide))) | exact Kd.own_blk (IsS76.own_ne HI318.out HO_8.out (by decide)))
                      have HS19_ := keep_cell hk (hHeld.2.2.2.2.2.2.2.2.2.2.2.2.2.2.2.2.2.2.2.1) (by first | (rw [add_block]; exact Kd.own_blk (IsS76.own_ne HI318.out HO_8.out (by decide))) | (show (Addr.add _ _).block ≠ _; rw [add_block]; exact Kd.own_blk (IsS76.own_ne HI318.out HO_8.out (by decide))) | exact Kd.own_blk (IsS76.own_ne HI318.out HO_8.out (by decide)))
                      have HS20_ := keep_cell hk (hHeld.2.2.2.2.2.2.2.2.2.2.2.2.2.2.2.2.2.2.2.2.1) (by first | (rw [add_block]; exact Kd.own_blk (IsS76.own_ne HI318.out HO_8.out (by decide))) | (show (Addr.add _ _).block ≠ _; rw [add_block]; exact Kd.own_blk (IsS76.own_ne HI318.out HO_8.out (by decide))) | exact Kd.own_blk (IsS76.own_ne HI318.out HO_8.out (by decide)))
                      have HS21_ := keep_cell hk (hHeld.2.2.2.2.2.2.2.2.2.2.2.2.2.2.2.2.2.2.2.2.2.1) (by first | (rw [add_block]; exact Kd.own_blk (IsS76.own_ne HI318.out HO_8.out (by decide))) | (show (Addr.add _ _).block ≠ _; rw [add_block]; exact Kd.own_blk (IsS76.own_ne HI318.out HO_8.out (by decide))) | exact Kd.own_blk (IsS76.own_ne HI318.out HO_8.out (by decide)))
                      have HS22_ := keep_cell hk (hHeld.2.2.2.2.2.2.2.2.2.2.2.2.2.2.2.2.2.2.2.2.2.2.1) (by first | (rw [add_block]; exact Kd.own_blk (IsS76.own_ne HI318.out HO_8.out (by decide))) | (show (Addr.add _ _).block ≠ _; rw [add_block]; exact Kd.own_blk (IsS76.own_ne HI318.out HO_8.out (by decide))) | exact Kd.own_blk (IsS76.own_ne HI318.out HO_8.out (by decide)))
                      have HS23_ := keep_cell hk (hHeld.2.2.2.2.2.2.2.2.2.2.2.2.2.2.2.2.2.2.2.2.2.2.2.1) (by first | (rw [add_block]; exact Kd.own_blk (IsS76.own_ne HI318.out HO_8.out (by decide))) | (show (Addr.add _ _).block ≠ _; rw [add_block]; exact Kd.own_blk (IsS76.own_ne HI318.out HO_8.out (by decide))) | exact Kd.own_blk (IsS76.own_ne HI318.out HO_8.out (by decide)))
                      have HS24_ := keep_cell hk (hHeld.2.2.2.2.2.2.2.2.2.2.2.2.2.2.2.2.2.2.2.2.2.2.2.2.1) (by first | (rw [add_block]; exact Kd.own_blk (IsS76.own_ne HI318.out HO_8.out (by decide))) | (show (Addr.add _ _).block ≠ _; rw [add_block]; exact Kd.own_blk (IsS76.own_ne HI318.out HO_8.out (by decide))) | exact Kd.own_blk (IsS76.own_ne HI318.out HO_8.out (by decide)))
                      have HS25_ := keep_cell hk (hHeld.2.2.2.2.2.2.2.2.2.2.2.2.2.2.2.2.2.2.2.2.2.2.2.2.2.1) (by first | (rw [add_block]; exact Kd.own_blk (IsS76.own_ne HI318.out HO_8.out (by decide))) | (show (Addr.add _ _).block ≠ _; rw [add_block]; exact Kd.own_blk (IsS76.own_ne HI318.out HO_8.out (by decide))) | exact Kd.own_blk (IsS76.own_ne HI318.out HO_8.out (by decide)))
                      have HS26_ := keep_cell hk (hHeld.2.2.2.2.2.2.2.2.2.2.2.2.2.2.2.2.2.2.2.2.2.2.2.2.2.2.1) (by first | (rw [add_block]; exact Kd.own_blk (IsS76.own_ne HI318.out HO_8.out (by decide))) | (show (Addr.add _ _).block ≠ _; rw [add_block]; exact Kd.own_blk (IsS76.own_ne HI318.out HO_8.out (by decide))) | exact Kd.own_blk (IsS76.own_ne HI318.out HO_8.out (by decide)))
                      have HS27_ := keep_cell hk (hHeld.2.2.2.2.2.2.2.2.2.2.2.2.2.2.2.2.2.2.2.2.2.2.2.2.2.2.2) (by first | (rw [add_block]; exact Kd.own_blk (IsS76.own_ne HI318.out HO_8.out (by decide))) | (show (Addr.add _ _).block ≠ _; rw [add_block]; exact Kd.own_blk (IsS76.own_ne HI318.out HO_8.out (by decide))) | exact Kd.own_blk (IsS76.own_ne HI318.out HO_8.out (by decide)))
                      refine ⟨_, rfl, ?_⟩
                      have n0_ := Aside0.mk (Kd.R_mono (Kd.R_keep (IsS76.apart (show IsS76 w _ g318 t345 from by repeat (first | (with_reducible first | exact HI318.out | apply IsS76.alloc | apply IsS76.drewN | apply IsS76.drew | apply IsS76.set_0 | refine IsS76.far ?_ NB318_331.out _ | refine IsS76.far ?_ NB318_337.out _) | exact HI318.out)) (by (with_reducible repeat (first | apply Kd.R_alloc | apply Kd.R_drewN | apply Kd.R_drew)); exact HO_8.out) (by decide)) hk (fun _ h => h.2)) (fun _ h => h.1))
                      have n1_ := Aside0.mk (Kd.R_mono (Kd.R_keep (IsS76.apart (show IsS76 w _ g318 t345 from by repeat (first | (with_reducible first | exact HI318.out | apply IsS76.alloc | apply IsS76.drewN | apply IsS76.drew | apply IsS76.set_0 | refine IsS76.far ?_ NB318_331.out _ | refine IsS76.far ?_ NB318_337.out _) | exact HI318.out)) (by (with_reducible repeat (first | apply Kd.R_alloc | apply Kd.R_drewN | apply Kd.R_drew)); exact HO_15.out) (by decide)) hk (fun _ h => h.2)) (fun _ h => h.1))
                      have n2_ := Aside0.mk (KeepBut.blk hk (g' := gb331) (o := .cells #[.int .i64 t328, .int .i64 t329] 34 (0, 0)) (by (with_reducible repeat (first | refine blk_drewN ?_ _ | refine blk_drew ?_ | refine blk_alloc ?_ _)); exact BK331.out) NB331_318.out (by simp))
                      have n3_ := Aside0.mk (KeepBut.blk hk (g' := gb337) (o := .cells #[.int .i64 t334, .int .i64 t335] 34 (0, 0)) (by (with_reducible repeat (first | refine blk_drewN ?_ _ | refine blk_drew ?_ | refine blk_alloc ?_ _)); exact BK337.out) NB337_318.out (by simp))
                      have n4_ := Aside0.mk (hb)
                      have n5_ := Aside0.mk (hi)
                      clear HO_8
                      clear HO_15
                      clear BK331
                      clear BK337
                      clear HB
                      clear HI318
                      have HO_8 := n0_
                      have HO_15 := n1_
                      have BK331 := n2_
                      have BK337 := n3_
                      have HB := n4_
                      have HI318 := n5_
                      clear n0_ n1_ n2_ n3_ n4_ n5_
                      (try clear hb)
                      (try clear hb2)
                      (try clear hk)
                      (try clear hi)
                      have p58 : 0 ≤ (x16_2 : Int) := of_decide_eq_true (by first | (with_reducible assumption) | assumption)
                      have q58 : (x16_2 : Int) < ((x15_2.length : Int) : Int) := of_decide_eq_true (by first | (with_reducible assumption) | assumption)
                      obtain ⟨go58, co58, eo58, gb58, gl58, cl58, HG58⟩ := Kd.R_form HO_15.out (by omega)
                      (first | cases eo58 | (injection eo58 with ea_ en_ ec_; (first | subst ea_ | (injection ea_ with ea_; subst ea_)); subst ec_; clear en_))
                      have GB58 := Aside0.mk gb58
                      have GG58 := Aside0.mk HG58
                      clear gb58 gl58 HG58
                      obtain ⟨ce58, hcl58, hM58, hcc58, hfr58⟩ := Kd.R_elem HO_15.out z36 (x16_2 : Int) p58 q58
                      obtain rfl := k36_openM hM58
                      have hx58_0 : World.cell? _ ⟨go58, (x16_2 : Int).toNat * 7, none⟩ = some (.int .i64 ((rd_T36 x15_2 x16_2).f0.f0)) := hcc58 0 _ rfl
                      have hx58_1 : World.cell? _ ⟨go58, (x16_2 : Int).toNat * 7 + 1, none⟩ = some (.int .i64 ((rd_T36 x15_2 x16_2).f0.f1)) := hcc58 1 _ rfl
                      have hx58_2 : World.cell? _ ⟨go58, (x16_2 : Int).toNat * 7 + 2, none⟩ = some (.int .i64 ((rd_T36 x15_2 x16_2).f1.f0)) := hcc58 2 _ rfl
                      have hx58_3 : World.cell? _ ⟨go58, (x16_2 : Int).toNat * 7 + 3, none⟩ = some (.int .i64 ((rd_T36 x15_2 x16_2).f1.f1)) := hcc58 3 _ rfl
                      have hx58_4 : World.cell? _ ⟨go58, (x16_2 : Int).toNat * 7 + 4, none⟩ = some (.int .i64 ((rd_T36 x15_2 x16_2).f2)) := hcc58 4 _ rfl
                      have hx58_5 : World.cell? _ ⟨go58, (x16_2 : Int).toNat * 7 + 5, none⟩ = some (.int .i64 ((rd_T36 x15_2 x16_2).f3)) := hcc58 5 _ rfl
                      have hx58_6 : World.cell? _ ⟨go58, (x16_2 : Int).toNat * 7 + 6, none⟩ = some (.int .i64 ((rd_T36 x15_2 x16_2).f4)) := hcc58 6 _ rfl
                      have hf58_0 : World.frozen? _ ⟨go58, (x16_2 : Int).toNat * 7, none⟩ = false := hfr58 0
                      have hf58_1 : World.frozen? _ ⟨go58, (x16_2 : Int).toNat * 7 + 1, none⟩ = false := hfr58 1
                      have hf58_2 : World.frozen? _ ⟨go58, (x16_2 : Int).toNat * 7 + 2, none⟩ = false := hfr58 2
                      have hf58_3 : World.frozen? _ ⟨go58, (x16_2 : Int).toNat * 7 + 3, none⟩ = false := hfr58 3
                      have hf58_4 : World.frozen? _ ⟨go58, (x16_2 : Int).toNat * 7 + 4, none⟩ = false := hfr58 4
                      have hf58_5 : World.frozen? _ ⟨go58, (x16_2 : Int).toNat * 7 + 5, none⟩ = false := hfr58 5
                      have hf58_6 : World.frozen? _ ⟨go58, (x16_2 : Int).toNat * 7 + 6, none⟩ = false := hfr58 6
                      clear hcl58 hcc58 hfr58 hM58
                      replace p58 := eq_true p58
                      replace q58 := eq_true q58
                      have HN318_go58 := Aside0.mk (show g318 ≠ go58 from by have h_ := IsS76.own_ne HI318.out HO_15.out (by decide); intro e_; exact h_ (by rw [e_]; rfl))
                      obtain ⟨ce64, hcl64, hM64, hcc64, hfr64⟩ := Kd.R_elem HO_15.out z36 (x16_2 : Int) (of_decide_eq_true (by first | (with_reducible assumption) | assumption)) (by have h_ : (x16_2 : Int) < ((x15_2.length : Int) : Int) := of_decide_eq_true (by first | (with_reducible assumption) | assumption); first | exact h_ | (have e_ := (Kd.R_reads' HO_15.out).1; omega) | simpa using h_)
                      obtain rfl := k36_openM hM64
                      have HP64 := (Kd.R_seg HO_15.out (x16_2 : Int) (of_decide_eq_true (by first | (with_reducible assumption) | assumption)) (by have h_ : (x16_2 : Int) < ((x15_2.length : Int) : Int) := of_decide_eq_true (by first | (with_reducible assumption) | assumption); first | exact h_ | (have e_ := (Kd.R_reads' HO_15.out).1; omega) | simpa using h_) (seg := [.int .i64 t343, .int .i64 t344]) (j := 0) hcl64 hcc64 (show 2 ≤ 7 from by decide) (x' := (⟨(⟨t343, t344⟩ : S34), (⟨(rd_T36 x15_2 x16_2).f1.f0, (rd_T36 x15_2 x16_2).f1.f1⟩ : S34), (rd_T36 x15_2 x16_2).f2, (rd_T36 x15_2 x16_2).f3, (rd_T36 x15_2 x16_2).f4⟩ : S36)) (k36_mkM _ _ _ (⟨(⟨t343, t344⟩ : S34), (⟨(rd_T36 x15_2 x16_2).f1.f0, (rd_T36 x15_2 x16_2).f1.f1⟩ : S34), (rd_T36 x15_2 x16_2).f2, (rd_T36 x15_2 x16_2).f3, (rd_T36 x15_2 x16_2).f4⟩ : S36) ) (fun _ hk => hk)).1
                      rw [← Ny351.out] at HP64
                      have HQ64 := Aside0.mk HP64
                      clear hcl64 hcc64 hfr64 hM64 HP64
                      have p59 : 0 ≤ (x16_2 : Int) := of_decide_eq_true (by first | (with_reducible assumption) | assumption)
                      have q59 : (x16_2 : Int) < ((x15_2.length : Int) : Int) := of_decide_eq_true (by first | (with_reducible assumption) | assumption)
                      replace p59 := eq_true p59
                      replace q59 := eq_true q59
                      have HN318_go58 := Aside0.mk (show g318 ≠ go58 from by have h_ := IsS76.own_ne HI318.out HO_15.out (by decide); intro e_; exact h_ (by rw [e_]; rfl))
                      obtain ⟨ce65, hcl65, hM65, hcc65, hfr65⟩ := Kd.R_elem HQ64.out z36 (x16_2 : Int) (of_decide_eq_true (by first | (with_reducible assumption) | assumption)) (by have h_ : (x16_2 : Int) < ((x15_2.length : Int) : Int) := of_decide_eq_true (by first | (with_reducible assumption) | assumption); first | exact h_ | (have e_ := (Kd.R_reads' HO_15.out).1; omega) | simpa using h_)
                      obtain rfl := k36_openM hM65
                      have HP65 := (Kd.R_seg HQ64.out (x16_2 : Int) (of_decide_eq_true (by first | (with_reducible assumption) | assumption)) (by have h_ : (x16_2 : Int) < ((x15_2.length : Int) : Int) := of_decide_eq_true (by first | (with_reducible assumption) | assumption); first | exact h_ | (have e_ := (Kd.R_reads' HO_15.out).1; omega) | simpa using h_) (seg := [.int .i64 t348, .int .i64 t349]) (j := 2) hcl65 hcc65 (show 4 ≤ 7 from by decide) (x' := (⟨(⟨(rd_T36 y351 x16_2).f0.f0, (rd_T36 y351 x16_2).f0.f1⟩ : S34), (⟨t348, t349⟩ : S34), (rd_T36 y351 x16_2).f2, (rd_T36 y351 x16_2).f3, (rd_T36 y351 x16_2).f4⟩ : S36)) (k36_mkM _ _ _ (⟨(⟨(rd_T36 y351 x16_2).f0.f0, (rd_T36 y351 x16_2).f0.f1⟩ : S34), (⟨t348, t349⟩ : S34), (rd_T36 y351 x16_2).f2, (rd_T36 y351 x16_2).f3, (rd_T36 y351 x16_2).f4⟩ : S36) ) (fun _ hk => hk)).1
                      rw [← Ny352.out] at HP65
                      have HQ65 := Aside0.mk HP65
                      clear hcl65 hcc65 hfr65 hM65 HP65
                      refine hK.out _ _ ⟨HS0_, HS1_, HS2_, HS3_, HS4_, HS5_, HS6_, HS7_, HS8_, HS9_, HS10_, HS11_, HS12_, HS13_, HS14_, HS15_, HS16_, HS17_, HS18_, HS19_, HS20_, HS21_, HS22_, HS23_, HS24_, HS25_, HS26_, HS27_⟩ (fun hHeld => ?_)
                      clear hK K
                      refine norm_ (a' := ?_) ?_ ?_
                      rotate_left
                      · show Act.put _ (some 124) _ = _
                        simp only [Act.put, List.setIfInBounds_toArray, List.set_cons_zero, List.set_cons_succ, i64_w, i32_w]
                        rfl
                      refine pure_ (i := 32) (N := some 125) (v := ?_) (a' := ?_) #[true, true, true, true, true, true, true, true, true, true, true, true, true, true, true, true, true, true, true, true, true, true, true, true, true, true, true, true, true, true, true, true, true, false, false, false, false, false] rfl rfl (any_of HT_.out (by kernel_rfl)) (fun _ _ _ h => h) (Or.inl ⟨by rfl, ?_⟩) ?_ ?_
                      rotate_left
                      · intro w'
                        go_simp
                        with_reducible rfl
                      rotate_left
                      · simp only [Act.put, List.setIfInBounds_toArray, List.set_cons_zero, List.set_cons_succ, i64_w, i32_w]
                        rfl
                      refine pure_ (i := 33) (N := some 126) (v := ?_) (a' := ?_) #[true, true, true, true, true, true, true, true, true, true, true, true, true, true, true, true, true, true, true, true, true, true, true, true, true, true, true, true, true, true, true, true, true, true, false, false, false, false] rfl rfl (any_of HT_.out (by kernel_rfl)) (fun _ _ _ h => h) (Or.inl ⟨by rfl, ?_⟩) ?_ ?_
                      rotate_left
                      · intro w'
                        go_simp
                        with_reducible rfl
                      rotate_left
                      · simp only [Act.put, List.setIfInBounds_toArray, List.set_cons_zero, List.set_cons_succ, i64_w, i32_w]
                        rfl
                      refine last_ (i := 34) (N := none) #[true, true, true, true, true, true, true, true, true, true, true, true, true, true, true, true, true, true, true, true, true, true, true, true, true, true, true, true, true, true, true, true, true, true, true, false, false, false] rfl rfl (one_of HT_.out (by kernel_rfl)) (by decide) (fun K hK => ?_)
                      refine skip_ (w1 := ?_) (by rfl) rfl ?_ ?_
                      rotate_left
                      · go_simp
                        rfl
                      refine hK.out _ _ ?_
                      clear hK K
                      refine pure_ (i := 35) (N := some 127) (v := ?_) (a' := ?_) #[true, true, true, true, true, true, true, true, true, true, true, true, true, true, true, true, true, true, true, true, true, true, true, true, true, true, true, true, true, true, true, true, true, true, true, true, false, false] rfl rfl (any_of HT_.out (by kernel_rfl)) (fun _ _ _ h => h) (Or.inl ⟨by rfl, ?_⟩) ?_ ?_
                      rotate_left
                      · intro w'
                        go_simp
                        with_reducible rfl
                      rotate_left
                      · simp only [Act.put, List.setIfInBounds_toArray, List.set_cons_zero, List.set_cons_succ, i64_w, i32_w]
                        rfl
                      refine pure_ (i := 36) (N := some 128) (v := ?_) (a' := ?_) #[true, true, true, true, true, true, true, true, true, true, true, true, true, true, true, true, true, true, true, true, true, true, true, true, true, true, true, true, true, true, true, true, true, true, true, true, true, false] rfl rfl (any_of HT_.out (by kernel_rfl)) (fun _ _ _ h => h) (Or.inl ⟨by rfl, ?_⟩) ?_ ?_
                      rotate_left
                      · intro w'
                        go_simp
                        with_reducible rfl
                      rotate_left
                      · simp only [Act.put, List.setIfInBounds_toArray, List.set_cons_zero, List.set_cons_succ, i64_w, i32_w]
                        rfl
                      refine last_ (i := 37) (N := none) #[true, true, true, true, true, true, true, true, true, true, true, true, true, true, true, true, true, true, true, true, true, true, true, true, true, true, true, true, true, true, true, true, true, true, true, true, true, true] rfl rfl (one_of HT_.out (by kernel_rfl)) (by decide) (fun K hK => ?_)
                      refine skip_ (w1 := ?_) (by rfl) rfl ?_ ?_
                      rotate_left
                      · go_simp
                        rfl
                      refine hK.out _ _ ?_
                      clear hK K
                      refine done_ (done_of HT_.out (by kernel_rfl)) ?_
                      try go_wp2
                      go_roundg k2
                      case measure => have := HJ13.out; have := HK2.out; omega
                      case rel => exact ⟨(y352), (wrap64 (x16_2 + 1)), (t350), (by first | rfl | (simp; done) | (simp [*]; done)), H', ⟨by have := HJ13.out; have := HK2.out; omega⟩, ⟨by (with_reducible repeat (first | apply Kd.R_alloc | apply Kd.R_drewN | apply Kd.R_drew)); exact Kd.R_mono (Kd.R_far (p := ⟨go58, (x16_2 : Int).toNat * 7 + 3, none⟩) (Kd.R_far (p := ⟨go58, (x16_2 : Int).toNat * 7 + 2, none⟩) (Kd.R_far (p := ⟨go58, (x16_2 : Int).toNat * 7 + 1, none⟩) (Kd.R_far (p := ⟨go58, (x16_2 : Int).toNat * 7, none⟩) (Kd.R_mono HO_8.out (fun k_ hk => (⟨hk, fun e_ => hk (by rw [e_]; rfl)⟩ : _ ∧ k_ ≠ go58))) (fun _ hk => hk.2) (.int .i64 t343)) (fun _ hk => hk.2) (.int .i64 t344)) (fun _ hk => hk.2) (.int .i64 t348)) (fun _ hk => hk.2) (.int .i64 t349)) (fun _ hk => hk.1)⟩, ⟨by (with_reducible repeat (first | apply Kd.R_alloc | apply Kd.R_drewN | apply Kd.R_drew)); exact HQ65.out⟩, ⟨by (with_reducible repeat (first | refine blk_drewN ?_ _ | refine blk_drew ?_ | refine blk_alloc ?_ _)); refine blk_far ?_ (by have h_ := Kd.R_ne HO_15.out BK331.out (by decide); intro e_; exact h_ (by rw [e_]; rfl)) _; (with_reducible repeat (first | refine blk_drewN ?_ _ | refine blk_drew ?_ | refine blk_alloc ?_ _)); refine blk_far ?_ (by have h_ := Kd.R_ne HO_15.out BK331.out (by decide); intro e_; exact h_ (by rw [e_]; rfl)) _; (with_reducible repeat (first | refine blk_drewN ?_ _ | refine blk_drew ?_ | refine blk_alloc ?_ _)); refine blk_far ?_ (by have h_ := Kd.R_ne HO_15.out BK331.out (by decide); intro e_; exact h_ (by rw [e_]; rfl)) _; (with_reducible repeat (first | refine blk_drewN ?_ _ | refine blk_drew ?_ | refine blk_alloc ?_ _)); refine blk_far ?_ (by have h_ := Kd.R_ne HO_15.out BK331.out (by decide); intro e_; exact h_ (by rw [e_]; rfl)) _; (with_reducible repeat (first | refine blk_drewN ?_ _ | refine blk_drew ?_ | refine blk_alloc ?_ _)); exact BK331.out⟩, ⟨by (with_reducible repeat (first | refine blk_drewN ?_ _ | refine blk_drew ?_ | refine blk_alloc ?_ _)); refine blk_far ?_ (by have h_ := Kd.R_ne HO_15.out BK337.out (by decide); intro e_; exact h_ (by rw [e_]; rfl)) _; (with_reducible repeat (first | refine blk_drewN ?_ _ | refine blk_drew ?_ | refine blk_alloc ?_ _)); refine blk_far ?_ (by have h_ := Kd.R_ne HO_15.out BK337.out (by decide); intro e_; exact h_ (by rw [e_]; rfl)) _; (with_reducible repeat (first | refine blk_drewN ?_ _ | refine blk_drew ?_ | refine blk_alloc ?_ _)); refine blk_far ?_ (by have h_ := Kd.R_ne HO_15.out BK337.out (by decide); intro e_; exact h_ (by rw [e_]; rfl)) _; (with_reducible repeat (first | refine blk_drewN ?_ _ | refine blk_drew ?_ | refine blk_alloc ?_ _)); refine blk_far ?_ (by have h_ := Kd.R_ne HO_15.out BK337.out (by decide); intro e_; exact h_ (by rw [e_]; rfl)) _; (with_reducible repeat (first | refine blk_drewN ?_ _ | refine blk_drew ?_ | refine blk_alloc ?_ _)); exact BK337.out⟩, ⟨by repeat (first | (with_reducible first | exact HI318.out | apply IsS76.alloc | apply IsS76.drewN | apply IsS76.drew | apply IsS76.set_0 | refine IsS76.far ?_ HN318_go58.out _ | refine IsS76.far ?_ HN318_go58.out _ | refine IsS76.far ?_ HN318_go58.out _ | refine IsS76.far ?_ HN318_go58.out _ | refine IsS76.far ?_ NB318_331.out _ | refine IsS76.far ?_ NB318_337.out _) | exact HI318.out)⟩, ⟨by repeat (first | (with_reducible first | exact HB.out | apply below_alloc | apply pw_below_drewN | apply below_drew1 | refine below_set ?_ GB58.out | refine below_set ?_ GB58.out | refine below_set ?_ GB58.out | refine below_set ?_ GB58.out | refine below_set ?_ (IsS76.ge HI318.out) | refine below_set ?_ GE331.out | refine below_set ?_ GE337.out) | exact HB.out)⟩⟩
                    · rw [if_neg c55] at H
                      exact absurd H (by simp)
                  · rw [if_neg c54] at H
                    exact absurd H (by simp)
                · rw [if_neg c53] at H
                  have c53b0 : decide (x16_2 < (x15_2.length : Int)) = false := decide_eq_false c53
                  clear c53
                  replace H := Option.bind_eq_some_iff.mp H
                  obtain ⟨⟨t353, t354, t355⟩, A660, H⟩ := H
                  replace H : (if t355 = 12 then ((thermionlaw07_awake.f k2).bind fun t357 => (some t357)) else (if t355 = 0 then ((thermionkit_Within.f t353 t354 t328 t329).bind fun t358 => (if t358 = true then ((thermionlaw07_awake.f k2).bind fun t359 => (some t359)) else (some false))) else (some false))) = some r := H
                  have A66 := Aside0.mk A660
                  clear A660
                  by_cases c67 : t355 = 12
                  · rw [if_pos c67] at H
                    have c67b0 : (t355 == 12) = true := beq_iff_eq.mpr c67
                    have c67b1 : (t355 != 12) = false := bne_eq_false_iff_eq.mpr c67
                    clear c67
                    replace H := Option.bind_eq_some_iff.mp H
                    obtain ⟨t357, A680, H⟩ := H
                    replace H : (some t357) = some r := H
                    have A68 := Aside0.mk A680
                    clear A680
                    obtain rfl := Option.some.inj H
                    obtain ⟨Ao69, co69, eo69⟩ := Kd.R_slice HO_15.out
                    subst eo69
                    go_wp2_with (first | ((with_reducible refine gate_callee (f := 21) rfl ?_); refine goesL_ (some 133) rfl rfl Try.func21 (by kernel_rfl) rfl #[.slice Ao69 x15_2.length co69, .int .i64 t323, .int .i64 t326] rfl (by (try simp only [List.map_toArray, List.map_cons, List.map_nil]); first | done | rfl | (simp only [List.length_drop, List.length_take]; rfl)) ?_; (with_reducible refine (gauge_True.calls _ _ x15_2 t323 t326 t353 t354 t355 _ ?side1 ?side2 A66.out).mono ?_); (case side1 => repeat (first | exact (Kd.R_reads' HO_15.out).2.2 | (with_reducible refine Kd.C_alloc ?_ _) | (with_reducible refine Kd.C_drewN ?_ _) | (with_reducible refine Kd.C_drew ?_))); (case side2 => exact (Kd.R_reads' HO_15.out).2.1); rintro e w70 ⟨rfl, hb⟩; refine ⟨_, rfl, ?_⟩; have n0_ := Aside0.mk (Kd.R_below (by (with_reducible repeat (first | apply Kd.R_alloc | apply Kd.R_drewN | apply Kd.R_drew)); exact HO_8.out) hb); have n1_ := Aside0.mk (Kd.R_below (by (with_reducible repeat (first | apply Kd.R_alloc | apply Kd.R_drewN | apply Kd.R_drew)); exact HO_15.out) hb); have n2_ := Aside0.mk (blk_below (g := gb331) (o := .cells #[.int .i64 t328, .int .i64 t329] 34 (0, 0)) (by (with_reducible repeat (first | refine blk_drewN ?_ _ | refine blk_drew ?_ | refine blk_alloc ?_ _)); exact BK331.out) hb); have n3_ := Aside0.mk (blk_below (g := gb337) (o := .cells #[.int .i64 t334, .int .i64 t335] 34 (0, 0)) (by (with_reducible repeat (first | refine blk_drewN ?_ _ | refine blk_drew ?_ | refine blk_alloc ?_ _)); exact BK337.out) hb); have n4_ := Aside0.mk (IsS76.below (by repeat (first | (with_reducible first | exact HI318.out | apply IsS76.alloc | apply IsS76.drewN | apply IsS76.drew | apply IsS76.set_0 | refine IsS76.far ?_ NB318_331.out _ | refine IsS76.far ?_ NB318_337.out _) | exact HI318.out)) hb); have n5_ := Aside0.mk (below_step (by repeat (first | (with_reducible first | exact HB.out | apply below_alloc | apply pw_below_drewN | apply below_drew1 | refine below_set ?_ (IsS76.ge HI318.out) | refine below_set ?_ GE331.out | refine below_set ?_ GE337.out) | exact HB.out)) hb); clear HO_8; clear HO_15; clear BK331; clear BK337; clear HI318; clear HB; have HO_8 := n0_; have HO_15 := n1_; have BK331 := n2_; have BK337 := n3_; have HI318 := n4_; have HB := n5_; clear n0_ n1_ n2_ n3_ n4_ n5_; (try clear hb); (try clear hb2); (try clear hk); (try clear hi)) | ((with_reducible refine gate_dst (N := 17) rfl ?_); refine box_event ?hg (N := 17) ?hd (cs := #[.int .i64 0, .int .i64 0]) (t := 34) ?hr ?_; (case hd => rfl); (case hg => rfl); (case hr => first | (go_simp; done) | (go_simp; rfl)); intro gb356 hg w71 hbox hb; have n0_ := Aside0.mk (Kd.R_below (by (with_reducible repeat (first | apply Kd.R_alloc | apply Kd.R_drewN | apply Kd.R_drew)); exact HO_8.out) hb); have n1_ := Aside0.mk (Kd.R_below (by (with_reducible repeat (first | apply Kd.R_alloc | apply Kd.R_drewN | apply Kd.R_drew)); exact HO_15.out) hb); have n2_ := Aside0.mk (blk_below (g := gb331) (o := .cells #[.int .i64 t328, .int .i64 t329] 34 (0, 0)) (by (with_reducible repeat (first | refine blk_drewN ?_ _ | refine blk_drew ?_ | refine blk_alloc ?_ _)); exact BK331.out) hb); have n3_ := Aside0.mk (blk_below (g := gb337) (o := .cells #[.int .i64 t334, .int .i64 t335] 34 (0, 0)) (by (with_reducible repeat (first | refine blk_drewN ?_ _ | refine blk_drew ?_ | refine blk_alloc ?_ _)); exact BK337.out) hb); have n4_ := Aside0.mk (IsS76.below (by repeat (first | (with_reducible first | exact HI318.out | apply IsS76.alloc | apply IsS76.drewN | apply IsS76.drew | apply IsS76.set_0 | refine IsS76.far ?_ NB318_331.out _ | refine IsS76.far ?_ NB318_337.out _) | exact HI318.out)) hb); have n5_ := Aside0.mk (below_step (by repeat (first | (with_reducible first | exact HB.out | apply below_alloc | apply pw_below_drewN | apply below_drew1 | refine below_set ?_ (IsS76.ge HI318.out) | refine below_set ?_ GE331.out | refine below_set ?_ GE337.out) | exact HB.out)) hb); have n6_ := Aside0.mk (hbox); have n7_ := Aside0.mk ((by rw [hg]; exact (below_size (by repeat (first | (with_reducible first | exact HB.out | apply below_alloc | apply pw_below_drewN | apply below_drew1 | refine below_set ?_ (IsS76.ge HI318.out) | refine below_set ?_ GE331.out | refine below_set ?_ GE337.out) | exact HB.out))) : w.heap.size ≤ gb356)); have n8_ := Aside0.mk ((by rw [hg]; exact (below_size (by repeat (first | (with_reducible first | exact HB.out | apply below_alloc | apply pw_below_drewN | apply below_drew1 | refine below_set ?_ (IsS76.ge HI318.out) | refine below_set ?_ GE331.out | refine below_set ?_ GE337.out) | exact HB.out))) : w.heap.size ≤ gb356)); have n9_ := Aside0.mk ((by rw [hg]; exact Nat.ne_of_lt (blk_lt (g := gb331) (o := .cells #[.int .i64 t328, .int .i64 t329] 34 (0, 0)) (by (with_reducible repeat (first | refine blk_drewN ?_ _ | refine blk_drew ?_ | refine blk_alloc ?_ _)); exact BK331.out)) : gb331 ≠ gb356)); have n10_ := Aside0.mk ((by rw [hg]; exact Nat.ne_of_gt (blk_lt (g := gb331) (o := .cells #[.int .i64 t328, .int .i64 t329] 34 (0, 0)) (by (with_reducible repeat (first | refine blk_drewN ?_ _ | refine blk_drew ?_ | refine blk_alloc ?_ _)); exact BK331.out)) : gb356 ≠ gb331)); have n11_ := Aside0.mk ((by rw [hg]; exact Nat.ne_of_lt (blk_lt (g := gb337) (o := .cells #[.int .i64 t334, .int .i64 t335] 34 (0, 0)) (by (with_reducible repeat (first | refine blk_drewN ?_ _ | refine blk_drew ?_ | refine blk_alloc ?_ _)); exact BK337.out)) : gb337 ≠ gb356)); have n12_ := Aside0.mk ((by rw [hg]; exact Nat.ne_of_gt (blk_lt (g := gb337) (o := .cells #[.int .i64 t334, .int .i64 t335] 34 (0, 0)) (by (with_reducible repeat (first | refine blk_drewN ?_ _ | refine blk_drew ?_ | refine blk_alloc ?_ _)); exact BK337.out)) : gb356 ≠ gb337)); have n13_ := Aside0.mk ((by rw [hg]; exact Nat.ne_of_lt (IsS76.lt (show IsS76 w _ g318 x319000_2 from by repeat (first | (with_reducible first | exact HI318.out | apply IsS76.alloc | apply IsS76.drewN | apply IsS76.drew | apply IsS76.set_0 | refine IsS76.far ?_ NB318_331.out _ | refine IsS76.far ?_ NB318_337.out _) | exact HI318.out))) : g318 ≠ gb356)); have n14_ := Aside0.mk ((by rw [hg]; exact Nat.ne_of_gt (IsS76.lt (show IsS76 w _ g318 x319000_2 from by repeat (first | (with_reducible first | exact HI318.out | apply IsS76.alloc | apply IsS76.drewN | apply IsS76.drew | apply IsS76.set_0 | refine IsS76.far ?_ NB318_331.out _ | refine IsS76.far ?_ NB318_337.out _) | exact HI318.out))) : gb356 ≠ g318)); clear HO_8; clear HO_15; clear BK331; clear BK337; clear HI318; clear HB; have HO_8 := n0_; have HO_15 := n1_; have BK331 := n2_; have BK337 := n3_; have HI318 := n4_; have HB := n5_; have BK356 := n6_; have GW356 := n7_; have GE356 := n8_; have NB331_356 := n9_; have NB356_331 := n10_; have NB337_356 := n11_; have NB356_337 := n12_; have NB318_356 := n13_; have NB356_318 := n14_; clear n0_ n1_ n2_ n3_ n4_ n5_ n6_ n7_ n8_ n9_ n10_ n11_ n12_ n13_ n14_; clear hb hbox hg; have hnb72 := NB356_331.out; have hnc72 := NB331_356.out; have hnb73 := NB356_337.out; have hnc73 := NB337_356.out; have hnb74 := NB356_318.out; have hnc74 := NB318_356.out; have hcz75_0 : w71.cell? ⟨gb356, 0, none⟩ = some (.int .i64 0) := (blk_cell BK356.out 0).trans rfl; have hcz75_1 : w71.cell? ⟨gb356, 1, none⟩ = some (.int .i64 0) := (blk_cell BK356.out 1).trans rfl; have hfz75_0 := blk_frozen BK356.out 0; have hfz75_1 := blk_frozen BK356.out 1) | (go_at_call 13; (with_reducible refine (thermionlaw07_awake.calls k2  t357 _ A68.out).mono ?_); rintro e w76 ⟨rfl, hb⟩; have n0_ := Aside0.mk (Kd.R_below (by (with_reducible repeat (first | apply Kd.R_alloc | apply Kd.R_drewN | apply Kd.R_drew)); exact (Kd.R_mono (Kd.R_far (p := ⟨gb356, 1, none⟩) (Kd.R_far (p := ⟨gb356, 0, none⟩) (Kd.R_types HO_8.out BK356.out (by decide)) (fun _ hk => hk.2) (.int .i64 t353)) (fun _ hk => hk.2) (.int .i64 t354)) (fun _ h_ => h_.1))) hb); have n1_ := Aside0.mk (Kd.R_below (by (with_reducible repeat (first | apply Kd.R_alloc | apply Kd.R_drewN | apply Kd.R_drew)); exact (Kd.R_mono (Kd.R_far (p := ⟨gb356, 1, none⟩) (Kd.R_far (p := ⟨gb356, 0, none⟩) (Kd.R_types HO_15.out BK356.out (by decide)) (fun _ hk => hk.2) (.int .i64 t353)) (fun _ hk => hk.2) (.int .i64 t354)) (fun _ h_ => h_.1))) hb); have n2_ := Aside0.mk (blk_below (g := gb331) (o := .cells #[.int .i64 t328, .int .i64 t329] 34 (0, 0)) (by (with_reducible repeat (first | refine blk_drewN ?_ _ | refine blk_drew ?_ | refine blk_alloc ?_ _)); refine blk_far ?_ NB331_356.out _; (with_reducible repeat (first | refine blk_drewN ?_ _ | refine blk_drew ?_ | refine blk_alloc ?_ _)); refine blk_far ?_ NB331_356.out _; (with_reducible repeat (first | refine blk_drewN ?_ _ | refine blk_drew ?_ | refine blk_alloc ?_ _)); exact BK331.out) hb); have n3_ := Aside0.mk (blk_below (g := gb337) (o := .cells #[.int .i64 t334, .int .i64 t335] 34 (0, 0)) (by (with_reducible repeat (first | refine blk_drewN ?_ _ | refine blk_drew ?_ | refine blk_alloc ?_ _)); refine blk_far ?_ NB337_356.out _; (with_reducible repeat (first | refine blk_drewN ?_ _ | refine blk_drew ?_ | refine blk_alloc ?_ _)); refine blk_far ?_ NB337_356.out _; (with_reducible repeat (first | refine blk_drewN ?_ _ | refine blk_drew ?_ | refine blk_alloc ?_ _)); exact BK337.out) hb); have n4_ := Aside0.mk (IsS76.below (show IsS76 w ((w71.setCell ⟨gb356, 0, none⟩ (.int .i64 t353)).setCell ⟨gb356, 1, none⟩ (.int .i64 t354)) g318 x319000_2 from by repeat (first | (with_reducible first | exact HI318.out | apply IsS76.alloc | apply IsS76.drewN | apply IsS76.drew | apply IsS76.set_0 | refine IsS76.far ?_ NB318_331.out _ | refine IsS76.far ?_ NB318_337.out _ | refine IsS76.far ?_ NB318_356.out _) | exact HI318.out)) hb); have n5_ := Aside0.mk (blk_below (g := gb356) (o := .cells #[.int .i64 t353, .int .i64 t354] 34 (0, 0)) (by (with_reducible repeat (first | refine blk_drewN ?_ _ | refine blk_drew ?_ | refine blk_alloc ?_ _)); refine blk_put (cs := #[.int .i64 t353, .int .i64 0]) ?_ 1 _ rfl; (with_reducible repeat (first | refine blk_drewN ?_ _ | refine blk_drew ?_ | refine blk_alloc ?_ _)); refine blk_put (cs := #[.int .i64 0, .int .i64 0]) ?_ 0 _ rfl; (with_reducible repeat (first | refine blk_drewN ?_ _ | refine blk_drew ?_ | refine blk_alloc ?_ _)); exact BK356.out) hb); have n6_ := Aside0.mk (below_step (by repeat (first | (with_reducible first | exact HB.out | apply below_alloc | apply pw_below_drewN | apply below_drew1 | refine below_set ?_ (IsS76.ge HI318.out) | refine below_set ?_ GE331.out | refine below_set ?_ GE337.out | refine below_set ?_ GE356.out) | exact HB.out)) hb); clear HO_8; clear HO_15; clear BK331; clear BK337; clear HI318; clear BK356; clear HB; have HO_8 := n0_; have HO_15 := n1_; have BK331 := n2_; have BK337 := n3_; have HI318 := n4_; have BK356 := n5_; have HB := n6_; clear n0_ n1_ n2_ n3_ n4_ n5_ n6_; (try clear hb); (try clear hb2); (try clear hk); (try clear hi)))
                    go_ret
                    exact ⟨by first | rfl | (simp [errW_none, errW_some] <;> rfl) | (simp [*, errW_none, errW_some] <;> rfl), by repeat (first | (with_reducible first | exact HB.out | apply below_alloc | apply pw_below_drewN | apply below_drew1 | refine below_set ?_ (IsS76.ge HI318.out) | refine below_set ?_ GE331.out | refine below_set ?_ GE337.out | refine below_set ?_ GE356.out) | exact HB.out)⟩
                  · rw [if_neg c67] at H
                    have c67b0 : (t355 == 12) = false := beq_eq_false_iff_ne.mpr c67
                    have c67b1 : (t355 != 12) = true := bne_iff_ne.mpr c67
                    by_cases c77 : t355 = 0
                    · rw [if_pos c77] at H
                      have c77b0 : (t355 == 0) = true := beq_iff_eq.mpr c77
                      have c77b1 : (t355 != 0) = false := bne_eq_false_iff_eq.mpr c77
                      clear c77
                      replace H := Option.bind_eq_some_iff.mp H
                      obtain ⟨t358, A780, H⟩ := H
                      replace H : (if t358 = true then ((thermionlaw07_awake.f k2).bind fun t359 => (some t359)) else (some false)) = some r := H
                      have A78 := Aside0.mk A780
                      clear A780
                      by_cases c79 : t358 = true
                      · subst c79
                        have H1 : ((thermionlaw07_awake.f k2).bind fun t359 => (some t359)) = some r := by rw [if_pos rfl] at H; exact H
                        clear H
                        have H := H1
                        clear H1
                        replace H := Option.bind_eq_some_iff.mp H
                        obtain ⟨t359, A800, H⟩ := H
                        replace H : (some t359) = some r := H
                        have A80 := Aside0.mk A800
                        clear A800
                        obtain rfl := Option.some.inj H
                        obtain ⟨Ao81, co81, eo81⟩ := Kd.R_slice HO_15.out
                        subst eo81
                        go_wp2_with (first | ((with_reducible refine gate_callee (f := 21) rfl ?_); refine goesL_ (some 133) rfl rfl Try.func21 (by kernel_rfl) rfl #[.slice Ao81 x15_2.length co81, .int .i64 t323, .int .i64 t326] rfl (by (try simp only [List.map_toArray, List.map_cons, List.map_nil]); first | done | rfl | (simp only [List.length_drop, List.length_take]; rfl)) ?_; (with_reducible refine (gauge_True.calls _ _ x15_2 t323 t326 t353 t354 t355 _ ?side1 ?side2 A66.out).mono ?_); (case side1 => repeat (first | exact (Kd.R_reads' HO_15.out).2.2 | (with_reducible refine Kd.C_alloc ?_ _) | (with_reducible refine Kd.C_drewN ?_ _) | (with_reducible refine Kd.C_drew ?_))); (case side2 => exact (Kd.R_reads' HO_15.out).2.1); rintro e w82 ⟨rfl, hb⟩; refine ⟨_, rfl, ?_⟩; have n0_ := Aside0.mk (Kd.R_below (by (with_reducible repeat (first | apply Kd.R_alloc | apply Kd.R_drewN | apply Kd.R_drew)); exact HO_8.out) hb); have n1_ := Aside0.mk (Kd.R_below (by (with_reducible repeat (first | apply Kd.R_alloc | apply Kd.R_drewN | apply Kd.R_drew)); exact HO_15.out) hb); have n2_ := Aside0.mk (blk_below (g := gb331) (o := .cells #[.int .i64 t328, .int .i64 t329] 34 (0, 0)) (by (with_reducible repeat (first | refine blk_drewN ?_ _ | refine blk_drew ?_ | refine blk_alloc ?_ _)); exact BK331.out) hb); have n3_ := Aside0.mk (blk_below (g := gb337) (o := .cells #[.int .i64 t334, .int .i64 t335] 34 (0, 0)) (by (with_reducible repeat (first | refine blk_drewN ?_ _ | refine blk_drew ?_ | refine blk_alloc ?_ _)); exact BK337.out) hb); have n4_ := Aside0.mk (IsS76.below (by repeat (first | (with_reducible first | exact HI318.out | apply IsS76.alloc | apply IsS76.drewN | apply IsS76.drew | apply IsS76.set_0 | refine IsS76.far ?_ NB318_331.out _ | refine IsS76.far ?_ NB318_337.out _) | exact HI318.out)) hb); have n5_ := Aside0.mk (below_step (by repeat (first | (with_reducible first | exact HB.out | apply below_alloc | apply pw_below_drewN | apply below_drew1 | refine below_set ?_ (IsS76.ge HI318.out) | refine below_set ?_ GE331.out | refine below_set ?_ GE337.out) | exact HB.out)) hb); clear HO_8; clear HO_15; clear BK331; clear BK337; clear HI318; clear HB; have HO_8 := n0_; have HO_15 := n1_; have BK331 := n2_; have BK337 := n3_; have HI318 := n4_; have HB := n5_; clear n0_ n1_ n2_ n3_ n4_ n5_; (try clear hb); (try clear hb2); (try clear hk); (try clear hi)) | ((with_reducible refine gate_dst (N := 17) rfl ?_); refine box_event ?hg (N := 17) ?hd (cs := #[.int .i64 0, .int .i64 0]) (t := 34) ?hr ?_; (case hd => rfl); (case hg => rfl); (case hr => first | (go_simp; done) | (go_simp; rfl)); intro gb356 hg w83 hbox hb; have n0_ := Aside0.mk (Kd.R_below (by (with_reducible repeat (first | apply Kd.R_alloc | apply Kd.R_drewN | apply Kd.R_drew)); exact HO_8.out) hb); have n1_ := Aside0.mk (Kd.R_below (by (with_reducible repeat (first | apply Kd.R_alloc | apply Kd.R_drewN | apply Kd.R_drew)); exact HO_15.out) hb); have n2_ := Aside0.mk (blk_below (g := gb331) (o := .cells #[.int .i64 t328, .int .i64 t329] 34 (0, 0)) (by (with_reducible repeat (first | refine blk_drewN ?_ _ | refine blk_drew ?_ | refine blk_alloc ?_ _)); exact BK331.out) hb); have n3_ := Aside0.mk (blk_below (g := gb337) (o := .cells #[.int .i64 t334, .int .i64 t335] 34 (0, 0)) (by (with_reducible repeat (first | refine blk_drewN ?_ _ | refine blk_drew ?_ | refine blk_alloc ?_ _)); exact BK337.out) hb); have n4_ := Aside0.mk (IsS76.below (by repeat (first | (with_reducible first | exact HI318.out | apply IsS76.alloc | apply IsS76.drewN | apply IsS76.drew | apply IsS76.set_0 | refine IsS76.far ?_ NB318_331.out _ | refine IsS76.far ?_ NB318_337.out _) | exact HI318.out)) hb); have n5_ := Aside0.mk (below_step (by repeat (first | (with_reducible first | exact HB.out | apply below_alloc | apply pw_below_drewN | apply below_drew1 | refine below_set ?_ (IsS76.ge HI318.out) | refine below_set ?_ GE331.out | refine below_set ?_ GE337.out) | exact HB.out)) hb); have n6_ := Aside0.mk (hbox); have n7_ := Aside0.mk ((by rw [hg]; exact (below_size (by repeat (first | (with_reducible first | exact HB.out | apply below_alloc | apply pw_below_drewN | apply below_drew1 | refine below_set ?_ (IsS76.ge HI318.out) | refine below_set ?_ GE331.out | refine below_set ?_ GE337.out) | exact HB.out))) : w.heap.size ≤ gb356)); have n8_ := Aside0.mk ((by rw [hg]; exact (below_size (by repeat (first | (with_reducible first | exact HB.out | apply below_alloc | apply pw_below_drewN | apply below_drew1 | refine below_set ?_ (IsS76.ge HI318.out) | refine below_set ?_ GE331.out | refine below_set ?_ GE337.out) | exact HB.out))) : w.heap.size ≤ gb356)); have n9_ := Aside0.mk ((by rw [hg]; exact Nat.ne_of_lt (blk_lt (g := gb331) (o := .cells #[.int .i64 t328, .int .i64 t329] 34 (0, 0)) (by (with_reducible repeat (first | refine blk_drewN ?_ _ | refine blk_drew ?_ | refine blk_alloc ?_ _)); exact BK331.out)) : gb331 ≠ gb356)); have n10_ := Aside0.mk ((by rw [hg]; exact Nat.ne_of_gt (blk_lt (g := gb331) (o := .cells #[.int .i64 t328, .int .i64 t329] 34 (0, 0)) (by (with_reducible repeat (first | refine blk_drewN ?_ _ | refine blk_drew ?_ | refine blk_alloc ?_ _)); exact BK331.out)) : gb356 ≠ gb331)); have n11_ := Aside0.mk ((by rw [hg]; exact Nat.ne_of_lt (blk_lt (g := gb337) (o := .cells #[.int .i64 t334, .int .i64 t335] 34 (0, 0)) (by (with_reducible repeat (first | refine blk_drewN ?_ _ | refine blk_drew ?_ | refine blk_alloc ?_ _)); exact BK337.out)) : gb337 ≠ gb356)); have n12_ := Aside0.mk ((by rw [hg]; exact Nat.ne_of_gt (blk_lt (g := gb337) (o := .cells #[.int .i64 t334, .int .i64 t335] 34 (0, 0)) (by (with_reducible repeat (first | refine blk_drewN ?_ _ | refine blk_drew ?_ | refine blk_alloc ?_ _)); exact BK337.out)) : gb356 ≠ gb337)); have n13_ := Aside0.mk ((by rw [hg]; exact Nat.ne_of_lt (IsS76.lt (show IsS76 w _ g318 x319000_2 from by repeat (first | (with_reducible first | exact HI318.out | apply IsS76.alloc | apply IsS76.drewN | apply IsS76.drew | apply IsS76.set_0 | refine IsS76.far ?_ NB318_331.out _ | refine IsS76.far ?_ NB318_337.out _) | exact HI318.out))) : g318 ≠ gb356)); have n14_ := Aside0.mk ((by rw [hg]; exact Nat.ne_of_gt (IsS76.lt (show IsS76 w _ g318 x319000_2 from by repeat (first | (with_reducible first | exact HI318.out | apply IsS76.alloc | apply IsS76.drewN | apply IsS76.drew | apply IsS76.set_0 | refine IsS76.far ?_ NB318_331.out _ | refine IsS76.far ?_ NB318_337.out _) | exact HI318.out))) : gb356 ≠ g318)); clear HO_8; clear HO_15; clear BK331; clear BK337; clear HI318; clear HB; have HO_8 := n0_; have HO_15 := n1_; have BK331 := n2_; have BK337 := n3_; have HI318 := n4_; have HB := n5_; have BK356 := n6_; have GW356 := n7_; have GE356 := n8_; have NB331_356 := n9_; have NB356_331 := n10_; have NB337_356 := n11_; have NB356_337 := n12_; have NB318_356 := n13_; have NB356_318 := n14_; clear n0_ n1_ n2_ n3_ n4_ n5_ n6_ n7_ n8_ n9_ n10_ n11_ n12_ n13_ n14_; clear hb hbox hg; have hnb84 := NB356_331.out; have hnc84 := NB331_356.out; have hnb85 := NB356_337.out; have hnc85 := NB337_356.out; have hnb86 := NB356_318.out; have hnc86 := NB318_356.out; have hcz87_0 : w83.cell? ⟨gb356, 0, none⟩ = some (.int .i64 0) := (blk_cell BK356.out 0).trans rfl; have hcz87_1 : w83.cell? ⟨gb356, 1, none⟩ = some (.int .i64 0) := (blk_cell BK356.out 1).trans rfl; have hfz87_0 := blk_frozen BK356.out 0; have hfz87_1 := blk_frozen BK356.out 1; have hnb88 := NB331_337.out; have hnc88 := NB337_331.out; have hnb89 := NB331_318.out; have hnc89 := NB318_331.out; have hcz90_0 : w83.cell? ⟨gb331, 0, none⟩ = some (.int .i64 t328) := (blk_cell BK331.out 0).trans rfl; have hcz90_1 : w83.cell? ⟨gb331, 1, none⟩ = some (.int .i64 t329) := (blk_cell BK331.out 1).trans rfl; have hfz90_0 := blk_frozen BK331.out 0; have hfz90_1 := blk_frozen BK331.out 1) | (go_at_call 26; (with_reducible refine (thermionkit_Within.calls t353 t354 t328 t329 true _ A78.out).mono ?_); rintro e w91 ⟨rfl, hb⟩; have n0_ := Aside0.mk (Kd.R_below (by (with_reducible repeat (first | apply Kd.R_alloc | apply Kd.R_drewN | apply Kd.R_drew)); exact (Kd.R_mono (Kd.R_far (p := ⟨gb356, 1, none⟩) (Kd.R_far (p := ⟨gb356, 0, none⟩) (Kd.R_types HO_8.out BK356.out (by decide)) (fun _ hk => hk.2) (.int .i64 t353)) (fun _ hk => hk.2) (.int .i64 t354)) (fun _ h_ => h_.1))) hb); have n1_ := Aside0.mk (Kd.R_below (by (with_reducible repeat (first | apply Kd.R_alloc | apply Kd.R_drewN | apply Kd.R_drew)); exact (Kd.R_mono (Kd.R_far (p := ⟨gb356, 1, none⟩) (Kd.R_far (p := ⟨gb356, 0, none⟩) (Kd.R_types HO_15.out BK356.out (by decide)) (fun _ hk => hk.2) (.int .i64 t353)) (fun _ hk => hk.2) (.int .i64 t354)) (fun _ h_ => h_.1))) hb); have n2_ := Aside0.mk (blk_below (g := gb331) (o := .cells #[.int .i64 t328, .int .i64 t329] 34 (0, 0)) (by (with_reducible repeat (first | refine blk_drewN ?_ _ | refine blk_drew ?_ | refine blk_alloc ?_ _)); refine blk_far ?_ NB331_356.out _; (with_reducible repeat (first | refine blk_drewN ?_ _ | refine blk_drew ?_ | refine blk_alloc ?_ _)); refine blk_far ?_ NB331_356.out _; (with_reducible repeat (first | refine blk_drewN ?_ _ | refine blk_drew ?_ | refine blk_alloc ?_ _)); exact BK331.out) hb); have n3_ := Aside0.mk (blk_below (g := gb337) (o := .cells #[.int .i64 t334, .int .i64 t335] 34 (0, 0)) (by (with_reducible repeat (first | refine blk_drewN ?_ _ | refine blk_drew ?_ | refine blk_alloc ?_ _)); refine blk_far ?_ NB337_356.out _; (with_reducible repeat (first | refine blk_drewN ?_ _ | refine blk_drew ?_ | refine blk_alloc ?_ _)); refine blk_far ?_ NB337_356.out _; (with_reducible repeat (first | refine blk_drewN ?_ _ | refine blk_drew ?_ | refine blk_alloc ?_ _)); exact BK337.out) hb); have n4_ := Aside0.mk (IsS76.below (show IsS76 w ((w83.setCell ⟨gb356, 0, none⟩ (.int .i64 t353)).setCell ⟨gb356, 1, none⟩ (.int .i64 t354)) g318 x319000_2 from by repeat (first | (with_reducible first | exact HI318.out | apply IsS76.alloc | apply IsS76.drewN | apply IsS76.drew | apply IsS76.set_0 | refine IsS76.far ?_ NB318_331.out _ | refine IsS76.far ?_ NB318_337.out _ | refine IsS76.far ?_ NB318_356.out _) | exact HI318.out)) hb); have n5_ := Aside0.mk (blk_below (g := gb356) (o := .cells #[.int .i64 t353, .int .i64 t354] 34 (0, 0)) (by (with_reducible repeat (first | refine blk_drewN ?_ _ | refine blk_drew ?_ | refine blk_alloc ?_ _)); refine blk_put (cs := #[.int .i64 t353, .int .i64 0]) ?_ 1 _ rfl; (with_reducible repeat (first | refine blk_drewN ?_ _ | refine blk_drew ?_ | refine blk_alloc ?_ _)); refine blk_put (cs := #[.int .i64 0, .int .i64 0]) ?_ 0 _ rfl; (with_reducible repeat (first | refine blk_drewN ?_ _ | refine blk_drew ?_ | refine blk_alloc ?_ _)); exact BK356.out) hb); have n6_ := Aside0.mk (below_step (by repeat (first | (with_reducible first | exact HB.out | apply below_alloc | apply pw_below_drewN | apply below_drew1 | refine below_set ?_ (IsS76.ge HI318.out) | refine below_set ?_ GE331.out | refine below_set ?_ GE337.out | refine below_set ?_ GE356.out) | exact HB.out)) hb); clear HO_8; clear HO_15; clear BK331; clear BK337; clear HI318; clear BK356; clear HB; have HO_8 := n0_; have HO_15 := n1_; have BK331 := n2_; have BK337 := n3_; have HI318 := n4_; have BK356 := n5_; have HB := n6_; clear n0_ n1_ n2_ n3_ n4_ n5_ n6_; (try clear hb); (try clear hb2); (try clear hk); (try clear hi)) | (go_at_call 13; (with_reducible refine (thermionlaw07_awake.calls k2  t359 _ A80.out).mono ?_); rintro e w92 ⟨rfl, hb⟩; have n0_ := Aside0.mk (Kd.R_below (by (with_reducible repeat (first | apply Kd.R_alloc | apply Kd.R_drewN | apply Kd.R_drew)); exact HO_8.out) hb); have n1_ := Aside0.mk (Kd.R_below (by (with_reducible repeat (first | apply Kd.R_alloc | apply Kd.R_drewN | apply Kd.R_drew)); exact HO_15.out) hb); have n2_ := Aside0.mk (blk_below (g := gb331) (o := .cells #[.int .i64 t328, .int .i64 t329] 34 (0, 0)) (by (with_reducible repeat (first | refine blk_drewN ?_ _ | refine blk_drew ?_ | refine blk_alloc ?_ _)); exact BK331.out) hb); have n3_ := Aside0.mk (blk_below (g := gb337) (o := .cells #[.int .i64 t334, .int .i64 t335] 34 (0, 0)) (by (with_reducible repeat (first | refine blk_drewN ?_ _ | refine blk_drew ?_ | refine blk_alloc ?_ _)); exact BK337.out) hb); have n4_ := Aside0.mk (IsS76.below (by repeat (first | (with_reducible first | exact HI318.out | apply IsS76.alloc | apply IsS76.drewN | apply IsS76.drew | apply IsS76.set_0 | refine IsS76.far ?_ NB318_331.out _ | refine IsS76.far ?_ NB318_337.out _ | refine IsS76.far ?_ NB318_356.out _) | exact HI318.out)) hb); have n5_ := Aside0.mk (blk_below (g := gb356) (o := .cells #[.int .i64 t353, .int .i64 t354] 34 (0, 0)) (by (with_reducible repeat (first | refine blk_drewN ?_ _ | refine blk_drew ?_ | refine blk_alloc ?_ _)); exact BK356.out) hb); have n6_ := Aside0.mk (below_step (by repeat (first | (with_reducible first | exact HB.out | apply below_alloc | apply pw_below_drewN | apply below_drew1 | refine below_set ?_ (IsS76.ge HI318.out) | refine below_set ?_ GE331.out | refine below_set ?_ GE337.out | refine below_set ?_ GE356.out) | exact HB.out)) hb); clear HO_8; clear HO_15; clear BK331; clear BK337; clear HI318; clear BK356; clear HB; have HO_8 := n0_; have HO_15 := n1_; have BK331 := n2_; have BK337 := n3_; have HI318 := n4_; have BK356 := n5_; have HB := n6_; clear n0_ n1_ n2_ n3_ n4_ n5_ n6_; (try clear hb); (try clear hb2); (try clear hk); (try clear hi)))
                        go_ret
                        exact ⟨by first | rfl | (simp [errW_none, errW_some] <;> rfl) | (simp [*, errW_none, errW_some] <;> rfl), by repeat (first | (with_reducible first | exact HB.out | apply below_alloc | apply pw_below_drewN | apply below_drew1 | refine below_set ?_ (IsS76.ge HI318.out) | refine below_set ?_ GE331.out | refine below_set ?_ GE337.out | refine below_set ?_ GE356.out) | exact HB.out)⟩
                      · replace c79 := Bool.eq_false_iff.mpr c79
                        subst c79
                        have H1 : (some false) = some r := by rw [if_neg (show ¬ (false = true) by decide)] at H; exact H
                        clear H
                        have H := H1
                        clear H1
                        obtain rfl := Option.some.inj H
                        obtain ⟨Ao93, co93, eo93⟩ := Kd.R_slice HO_15.out
                        subst eo93
                        go_wp2_with (first | ((with_reducible refine gate_callee (f := 21) rfl ?_); refine goesL_ (some 133) rfl rfl Try.func21 (by kernel_rfl) rfl #[.slice Ao93 x15_2.length co93, .int .i64 t323, .int .i64 t326] rfl (by (try simp only [List.map_toArray, List.map_cons, List.map_nil]); first | done | rfl | (simp only [List.length_drop, List.length_take]; rfl)) ?_; (with_reducible refine (gauge_True.calls _ _ x15_2 t323 t326 t353 t354 t355 _ ?side1 ?side2 A66.out).mono ?_); (case side1 => repeat (first | exact (Kd.R_reads' HO_15.out).2.2 | (with_reducible refine Kd.C_alloc ?_ _) | (with_reducible refine Kd.C_drewN ?_ _) | (with_reducible refine Kd.C_drew ?_))); (case side2 => exact (Kd.R_reads' HO_15.out).2.1); rintro e w94 ⟨rfl, hb⟩; refine ⟨_, rfl, ?_⟩; have n0_ := Aside0.mk (Kd.R_below (by (with_reducible repeat (first | apply Kd.R_alloc | apply Kd.R_drewN | apply Kd.R_drew)); exact HO_8.out) hb); have n1_ := Aside0.mk (Kd.R_below (by (with_reducible repeat (first | apply Kd.R_alloc | apply Kd.R_drewN | apply Kd.R_drew)); exact HO_15.out) hb); have n2_ := Aside0.mk (blk_below (g := gb331) (o := .cells #[.int .i64 t328, .int .i64 t329] 34 (0, 0)) (by (with_reducible repeat (first | refine blk_drewN ?_ _ | refine blk_drew ?_ | refine blk_alloc ?_ _)); exact BK331.out) hb); have n3_ := Aside0.mk (blk_below (g := gb337) (o := .cells #[.int .i64 t334, .int .i64 t335] 34 (0, 0)) (by (with_reducible repeat (first | refine blk_drewN ?_ _ | refine blk_drew ?_ | refine blk_alloc ?_ _)); exact BK337.out) hb); have n4_ := Aside0.mk (IsS76.below (by repeat (first | (with_reducible first | exact HI318.out | apply IsS76.alloc | apply IsS76.drewN | apply IsS76.drew | apply IsS76.set_0 | refine IsS76.far ?_ NB318_331.out _ | refine IsS76.far ?_ NB318_337.out _) | exact HI318.out)) hb); have n5_ := Aside0.mk (below_step (by repeat (first | (with_reducible first | exact HB.out | apply below_alloc | apply pw_below_drewN | apply below_drew1 | refine below_set ?_ (IsS76.ge HI318.out) | refine below_set ?_ GE331.out | refine below_set ?_ GE337.out) | exact HB.out)) hb); clear HO_8; clear HO_15; clear BK331; clear BK337; clear HI318; clear HB; have HO_8 := n0_; have HO_15 := n1_; have BK331 := n2_; have BK337 := n3_; have HI318 := n4_; have HB := n5_; clear n0_ n1_ n2_ n3_ n4_ n5_; (try clear hb); (try clear hb2); (try clear hk); (try clear hi)) | ((with_reducible refine gate_dst (N := 17) rfl ?_); refine box_event ?hg (N := 17) ?hd (cs := #[.int .i64 0, .int .i64 0]) (t := 34) ?hr ?_; (case hd => rfl); (case hg => rfl); (case hr => first | (go_simp; done) | (go_simp; rfl)); intro gb356 hg w95 hbox hb; have n0_ := Aside0.mk (Kd.R_below (by (with_reducible repeat (first | apply Kd.R_alloc | apply Kd.R_drewN | apply Kd.R_drew)); exact HO_8.out) hb); have n1_ := Aside0.mk (Kd.R_below (by (with_reducible repeat (first | apply Kd.R_alloc | apply Kd.R_drewN | apply Kd.R_drew)); exact HO_15.out) hb); have n2_ := Aside0.mk (blk_below (g := gb331) (o := .cells #[.int .i64 t328, .int .i64 t329] 34 (0, 0)) (by (with_reducible repeat (first | refine blk_drewN ?_ _ | refine blk_drew ?_ | refine blk_alloc ?_ _)); exact BK331.out) hb); have n3_ := Aside0.mk (blk_below (g := gb337) (o := .cells #[.int .i64 t334, .int .i64 t335] 34 (0, 0)) (by (with_reducible repeat (first | refine blk_drewN ?_ _ | refine blk_drew ?_ | refine blk_alloc ?_ _)); exact BK337.out) hb); have n4_ := Aside0.mk (IsS76.below (by repeat (first | (with_reducible first | exact HI318.out | apply IsS76.alloc | apply IsS76.drewN | apply IsS76.drew | apply IsS76.set_0 | refine IsS76.far ?_ NB318_331.out _ | refine IsS76.far ?_ NB318_337.out _) | exact HI318.out)) hb); have n5_ := Aside0.mk (below_step (by repeat (first | (with_reducible first | exact HB.out | apply below_alloc | apply pw_below_drewN | apply below_drew1 | refine below_set ?_ (IsS76.ge HI318.out) | refine below_set ?_ GE331.out | refine below_set ?_ GE337.out) | exact HB.out)) hb); have n6_ := Aside0.mk (hbox); have n7_ := Aside0.mk ((by rw [hg]; exact (below_size (by repeat (first | (with_reducible first | exact HB.out | apply below_alloc | apply pw_below_drewN | apply below_drew1 | refine below_set ?_ (IsS76.ge HI318.out) | refine below_set ?_ GE331.out | refine below_set ?_ GE337.out) | exact HB.out))) : w.heap.size ≤ gb356)); have n8_ := Aside0.mk ((by rw [hg]; exact (below_size (by repeat (first | (with_reducible first | exact HB.out | apply below_alloc | apply pw_below_drewN | apply below_drew1 | refine below_set ?_ (IsS76.ge HI318.out) | refine below_set ?_ GE331.out | refine below_set ?_ GE337.out) | exact HB.out))) : w.heap.size ≤ gb356)); have n9_ := Aside0.mk ((by rw [hg]; exact Nat.ne_of_lt (blk_lt (g := gb331) (o := .cells #[.int .i64 t328, .int .i64 t329] 34 (0, 0)) (by (with_reducible repeat (first | refine blk_drewN ?_ _ | refine blk_drew ?_ | refine blk_alloc ?_ _)); exact BK331.out)) : gb331 ≠ gb356)); have n10_ := Aside0.mk ((by rw [hg]; exact Nat.ne_of_gt (blk_lt (g := gb331) (o := .cells #[.int .i64 t328, .int .i64 t329] 34 (0, 0)) (by (with_reducible repeat (first | refine blk_drewN ?_ _ | refine blk_drew ?_ | refine blk_alloc ?_ _)); exact BK331.out)) : gb356 ≠ gb331)); have n11_ := Aside0.mk ((by rw [hg]; exact Nat.ne_of_lt (blk_lt (g := gb337) (o := .cells #[.int .i64 t334, .int .i64 t335] 34 (0, 0)) (by (with_reducible repeat (first | refine blk_drewN ?_ _ | refine blk_drew ?_ | refine blk_alloc ?_ _)); exact BK337.out)) : gb337 ≠ gb356)); have n12_ := Aside0.mk ((by rw [hg]; exact Nat.ne_of_gt (blk_lt (g := gb337) (o := .cells #[.int .i64 t334, .int .i64 t335] 34 (0, 0)) (by (with_reducible repeat (first | refine blk_drewN ?_ _ | refine blk_drew ?_ | refine blk_alloc ?_ _)); exact BK337.out)) : gb356 ≠ gb337)); have n13_ := Aside0.mk ((by rw [hg]; exact Nat.ne_of_lt (IsS76.lt (show IsS76 w _ g318 x319000_2 from by repeat (first | (with_reducible first | exact HI318.out | apply IsS76.alloc | apply IsS76.drewN | apply IsS76.drew | apply IsS76.set_0 | refine IsS76.far ?_ NB318_331.out _ | refine IsS76.far ?_ NB318_337.out _) | exact HI318.out))) : g318 ≠ gb356)); have n14_ := Aside0.mk ((by rw [hg]; exact Nat.ne_of_gt (IsS76.lt (show IsS76 w _ g318 x319000_2 from by repeat (first | (with_reducible first | exact HI318.out | apply IsS76.alloc | apply IsS76.drewN | apply IsS76.drew | apply IsS76.set_0 | refine IsS76.far ?_ NB318_331.out _ | refine IsS76.far ?_ NB318_337.out _) | exact HI318.out))) : gb356 ≠ g318)); clear HO_8; clear HO_15; clear BK331; clear BK337; clear HI318; clear HB; have HO_8 := n0_; have HO_15 := n1_; have BK331 := n2_; have BK337 := n3_; have HI318 := n4_; have HB := n5_; have BK356 := n6_; have GW356 := n7_; have GE356 := n8_; have NB331_356 := n9_; have NB356_331 := n10_; have NB337_356 := n11_; have NB356_337 := n12_; have NB318_356 := n13_; have NB356_318 := n14_; clear n0_ n1_ n2_ n3_ n4_ n5_ n6_ n7_ n8_ n9_ n10_ n11_ n12_ n13_ n14_; clear hb hbox hg; have hnb96 := NB356_331.out; have hnc96 := NB331_356.out; have hnb97 := NB356_337.out; have hnc97 := NB337_356.out; have hnb98 := NB356_318.out; have hnc98 := NB318_356.out; have hcz99_0 : w95.cell? ⟨gb356, 0, none⟩ = some (.int .i64 0) := (blk_cell BK356.out 0).trans rfl; have hcz99_1 : w95.cell? ⟨gb356, 1, none⟩ = some (.int .i64 0) := (blk_cell BK356.out 1).trans rfl; have hfz99_0 := blk_frozen BK356.out 0; have hfz99_1 := blk_frozen BK356.out 1; have hnb100 := NB331_337.out; have hnc100 := NB337_331.out; have hnb101 := NB331_318.out; have hnc101 := NB318_331.out; have hcz102_0 : w95.cell? ⟨gb331, 0, none⟩ = some (.int .i64 t328) := (blk_cell BK331.out 0).trans rfl; have hcz102_1 : w95.cell? ⟨gb331, 1, none⟩ = some (.int .i64 t329) := (blk_cell BK331.out 1).trans rfl; have hfz102_0 := blk_frozen BK331.out 0; have hfz102_1 := blk_frozen BK331.out 1) | (go_at_call 26; (with_reducible refine (thermionkit_Within.calls t353 t354 t328 t329 false _ A78.out).mono ?_); rintro e w103 ⟨rfl, hb⟩; have n0_ := Aside0.mk (Kd.R_below (by (with_reducible repeat (first | apply Kd.R_alloc | apply Kd.R_drewN | apply Kd.R_drew)); exact (Kd.R_mono (Kd.R_far (p := ⟨gb356, 1, none⟩) (Kd.R_far (p := ⟨gb356, 0, none⟩) (Kd.R_types HO_8.out BK356.out (by decide)) (fun _ hk => hk.2) (.int .i64 t353)) (fun _ hk => hk.2) (.int .i64 t354)) (fun _ h_ => h_.1))) hb); have n1_ := Aside0.mk (Kd.R_below (by (with_reducible repeat (first | apply Kd.R_alloc | apply Kd.R_drewN | apply Kd.R_drew)); exact (Kd.R_mono (Kd.R_far (p := ⟨gb356, 1, none⟩) (Kd.R_far (p := ⟨gb356, 0, none⟩) (Kd.R_types HO_15.out BK356.out (by decide)) (fun _ hk => hk.2) (.int .i64 t353)) (fun _ hk => hk.2) (.int .i64 t354)) (fun _ h_ => h_.1))) hb); have n2_ := Aside0.mk (blk_below (g := gb331) (o := .cells #[.int .i64 t328, .int .i64 t329] 34 (0, 0)) (by (with_reducible repeat (first | refine blk_drewN ?_ _ | refine blk_drew ?_ | refine blk_alloc ?_ _)); refine blk_far ?_ NB331_356.out _; (with_reducible repeat (first | refine blk_drewN ?_ _ | refine blk_drew ?_ | refine blk_alloc ?_ _)); refine blk_far ?_ NB331_356.out _; (with_reducible repeat (first | refine blk_drewN ?_ _ | refine blk_drew ?_ | refine blk_alloc ?_ _)); exact BK331.out) hb); have n3_ := Aside0.mk (blk_below (g := gb337) (o := .cells #[.int .i64 t334, .int .i64 t335] 34 (0, 0)) (by (with_reducible repeat (first | refine blk_drewN ?_ _ | refine blk_drew ?_ | refine blk_alloc ?_ _)); refine blk_far ?_ NB337_356.out _; (with_reducible repeat (first | refine blk_drewN ?_ _ | refine blk_drew ?_ | refine blk_alloc ?_ _)); refine blk_far ?_ NB337_356.out _; (with_reducible repeat (first | refine blk_drewN ?_ _ | refine blk_drew ?_ | refine blk_alloc ?_ _)); exact BK337.out) hb); have n4_ := Aside0.mk (IsS76.below (show IsS76 w ((w95.setCell ⟨gb356, 0, none⟩ (.int .i64 t353)).setCell ⟨gb356, 1, none⟩ (.int .i64 t354)) g318 x319000_2 from by repeat (first | (with_reducible first | exact HI318.out | apply IsS76.alloc | apply IsS76.drewN | apply IsS76.drew | apply IsS76.set_0 | refine IsS76.far ?_ NB318_331.out _ | refine IsS76.far ?_ NB318_337.out _ | refine IsS76.far ?_ NB318_356.out _) | exact HI318.out)) hb); have n5_ := Aside0.mk (blk_below (g := gb356) (o := .cells #[.int .i64 t353, .int .i64 t354] 34 (0, 0)) (by (with_reducible repeat (first | refine blk_drewN ?_ _ | refine blk_drew ?_ | refine blk_alloc ?_ _)); refine blk_put (cs := #[.int .i64 t353, .int .i64 0]) ?_ 1 _ rfl; (with_reducible repeat (first | refine blk_drewN ?_ _ | refine blk_drew ?_ | refine blk_alloc ?_ _)); refine blk_put (cs := #[.int .i64 0, .int .i64 0]) ?_ 0 _ rfl; (with_reducible repeat (first | refine blk_drewN ?_ _ | refine blk_drew ?_ | refine blk_alloc ?_ _)); exact BK356.out) hb); have n6_ := Aside0.mk (below_step (by repeat (first | (with_reducible first | exact HB.out | apply below_alloc | apply pw_below_drewN | apply below_drew1 | refine below_set ?_ (IsS76.ge HI318.out) | refine below_set ?_ GE331.out | refine below_set ?_ GE337.out | refine below_set ?_ GE356.out) | exact HB.out)) hb); clear HO_8; clear HO_15; clear BK331; clear BK337; clear HI318; clear BK356; clear HB; have HO_8 := n0_; have HO_15 := n1_; have BK331 := n2_; have BK337 := n3_; have HI318 := n4_; have BK356 := n5_; have HB := n6_; clear n0_ n1_ n2_ n3_ n4_ n5_ n6_; (try clear hb); (try clear hb2); (try clear hk); (try clear hi)))
                        go_ret
                        exact ⟨by first | rfl | (simp [errW_none, errW_some] <;> rfl) | (simp [*, errW_none, errW_some] <;> rfl), by repeat (first | (with_reducible first | exact HB.out | apply below_alloc | apply pw_below_drewN | apply below_drew1 | refine below_set ?_ (IsS76.ge HI318.out) | refine below_set ?_ GE331.out | refine below_set ?_ GE337.out | refine below_set ?_ GE356.out) | exact HB.out)⟩
                    · rw [if_neg c77] at H
                      have c77b0 : (t355 == 0) = false := beq_eq_false_iff_ne.mpr c77
                      have c77b1 : (t355 != 0) = true := bne_iff_ne.mpr c77
                      obtain rfl := Option.some.inj H
                      obtain ⟨Ao104, co104, eo104⟩ := Kd.R_slice HO_15.out
                      subst eo104
                      go_wp2_with (first | ((with_reducible refine gate_callee (f := 21) rfl ?_); refine goesL_ (some 133) rfl rfl Try.func21 (by kernel_rfl) rfl #[.slice Ao104 x15_2.length co104, .int .i64 t323, .int .i64 t326] rfl (by (try simp only [List.map_toArray, List.map_cons, List.map_nil]); first | done | rfl | (simp only [List.length_drop, List.length_take]; rfl)) ?_; (with_reducible refine (gauge_True.calls _ _ x15_2 t323 t326 t353 t354 t355 _ ?side1 ?side2 A66.out).mono ?_); (case side1 => repeat (first | exact (Kd.R_reads' HO_15.out).2.2 | (with_reducible refine Kd.C_alloc ?_ _) | (with_reducible refine Kd.C_drewN ?_ _) | (with_reducible refine Kd.C_drew ?_))); (case side2 => exact (Kd.R_reads' HO_15.out).2.1); rintro e w105 ⟨rfl, hb⟩; refine ⟨_, rfl, ?_⟩; have n0_ := Aside0.mk (Kd.R_below (by (with_reducible repeat (first | apply Kd.R_alloc | apply Kd.R_drewN | apply Kd.R_drew)); exact HO_8.out) hb); have n1_ := Aside0.mk (Kd.R_below (by (with_reducible repeat (first | apply Kd.R_alloc | apply Kd.R_drewN | apply Kd.R_drew)); exact HO_15.out) hb); have n2_ := Aside0.mk (blk_below (g := gb331) (o := .cells #[.int .i64 t328, .int .i64 t329] 34 (0, 0)) (by (with_reducible repeat (first | refine blk_drewN ?_ _ | refine blk_drew ?_ | refine blk_alloc ?_ _)); exact BK331.out) hb); have n3_ := Aside0.mk (blk_below (g := gb337) (o := .cells #[.int .i64 t334, .int .i64 t335] 34 (0, 0)) (by (with_reducible repeat (first | refine blk_drewN ?_ _ | refine blk_drew ?_ | refine blk_alloc ?_ _)); exact BK337.out) hb); have n4_ := Aside0.mk (IsS76.below (by repeat (first | (with_reducible first | exact HI318.out | apply IsS76.alloc | apply IsS76.drewN | apply IsS76.drew | apply IsS76.set_0 | refine IsS76.far ?_ NB318_331.out _ | refine IsS76.far ?_ NB318_337.out _) | exact HI318.out)) hb); have n5_ := Aside0.mk (below_step (by repeat (first | (with_reducible first | exact HB.out | apply below_alloc | apply pw_below_drewN | apply below_drew1 | refine below_set ?_ (IsS76.ge HI318.out) | refine below_set ?_ GE331.out | refine below_set ?_ GE337.out) | exact HB.out)) hb); clear HO_8; clear HO_15; clear BK331; clear BK337; clear HI318; clear HB; have HO_8 := n0_; have HO_15 := n1_; have BK331 := n2_; have BK337 := n3_; have HI318 := n4_; have HB := n5_; clear n0_ n1_ n2_ n3_ n4_ n5_; (try clear hb); (try clear hb2); (try clear hk); (try clear hi)) | ((with_reducible refine gate_dst (N := 17) rfl ?_); refine box_event ?hg (N := 17) ?hd (cs := #[.int .i64 0, .int .i64 0]) (t := 34) ?hr ?_; (case hd => rfl); (case hg => rfl); (case hr => first | (go_simp; done) | (go_simp; rfl)); intro gb356 hg w106 hbox hb; have n0_ := Aside0.mk (Kd.R_below (by (with_reducible repeat (first | apply Kd.R_alloc | apply Kd.R_drewN | apply Kd.R_drew)); exact HO_8.out) hb); have n1_ := Aside0.mk (Kd.R_below (by (with_reducible repeat (first | apply Kd.R_alloc | apply Kd.R_drewN | apply Kd.R_drew)); exact HO_15.out) hb); have n2_ := Aside0.mk (blk_below (g := gb331) (o := .cells #[.int .i64 t328, .int .i64 t329] 34 (0, 0)) (by (with_reducible repeat (first | refine blk_drewN ?_ _ | refine blk_drew ?_ | refine blk_alloc ?_ _)); exact BK331.out) hb); have n3_ := Aside0.mk (blk_below (g := gb337) (o := .cells #[.int .i64 t334, .int .i64 t335] 34 (0, 0)) (by (with_reducible repeat (first | refine blk_drewN ?_ _ | refine blk_drew ?_ | refine blk_alloc ?_ _)); exact BK337.out) hb); have n4_ := Aside0.mk (IsS76.below (by repeat (first | (with_reducible first | exact HI318.out | apply IsS76.alloc | apply IsS76.drewN | apply IsS76.drew | apply IsS76.set_0 | refine IsS76.far ?_ NB318_331.out _ | refine IsS76.far ?_ NB318_337.out _) | exact HI318.out)) hb); have n5_ := Aside0.mk (below_step (by repeat (first | (with_reducible first | exact HB.out | apply below_alloc | apply pw_below_drewN | apply below_drew1 | refine below_set ?_ (IsS76.ge HI318.out) | refine below_set ?_ GE331.out | refine below_set ?_ GE337.out) | exact HB.out)) hb); have n6_ := Aside0.mk (hbox); have n7_ := Aside0.mk ((by rw [hg]; exact (below_size (by repeat (first | (with_reducible first | exact HB.out | apply below_alloc | apply pw_below_drewN | apply below_drew1 | refine below_set ?_ (IsS76.ge HI318.out) | refine below_set ?_ GE331.out | refine below_set ?_ GE337.out) | exact HB.out))) : w.heap.size ≤ gb356)); have n8_ := Aside0.mk ((by rw [hg]; exact (below_size (by repeat (first | (with_reducible first | exact HB.out | apply below_alloc | apply pw_below_drewN | apply below_drew1 | refine below_set ?_ (IsS76.ge HI318.out) | refine below_set ?_ GE331.out | refine below_set ?_ GE337.out) | exact HB.out))) : w.heap.size ≤ gb356)); have n9_ := Aside0.mk ((by rw [hg]; exact Nat.ne_of_lt (blk_lt (g := gb331) (o := .cells #[.int .i64 t328, .int .i64 t329] 34 (0, 0)) (by (with_reducible repeat (first | refine blk_drewN ?_ _ | refine blk_drew ?_ | refine blk_alloc ?_ _)); exact BK331.out)) : gb331 ≠ gb356)); have n10_ := Aside0.mk ((by rw [hg]; exact Nat.ne_of_gt (blk_lt (g := gb331) (o := .cells #[.int .i64 t328, .int .i64 t329] 34 (0, 0)) (by (with_reducible repeat (first | refine blk_drewN ?_ _ | refine blk_drew ?_ | refine blk_alloc ?_ _)); exact BK331.out)) : gb356 ≠ gb331)); have n11_ := Aside0.mk ((by rw [hg]; exact Nat.ne_of_lt (blk_lt (g := gb337) (o := .cells #[.int .i64 t334, .int .i64 t335] 34 (0, 0)) (by (with_reducible repeat (first | refine blk_drewN ?_ _ | refine blk_drew ?_ | refine blk_alloc ?_ _)); exact BK337.out)) : gb337 ≠ gb356)); have n12_ := Aside0.mk ((by rw [hg]; exact Nat.ne_of_gt (blk_lt (g := gb337) (o := .cells #[.int .i64 t334, .int .i64 t335] 34 (0, 0)) (by (with_reducible repeat (first | refine blk_drewN ?_ _ | refine blk_drew ?_ | refine blk_alloc ?_ _)); exact BK337.out)) : gb356 ≠ gb337)); have n13_ := Aside0.mk ((by rw [hg]; exact Nat.ne_of_lt (IsS76.lt (show IsS76 w _ g318 x319000_2 from by repeat (first | (with_reducible first | exact HI318.out | apply IsS76.alloc | apply IsS76.drewN | apply IsS76.drew | apply IsS76.set_0 | refine IsS76.far ?_ NB318_331.out _ | refine IsS76.far ?_ NB318_337.out _) | exact HI318.out))) : g318 ≠ gb356)); have n14_ := Aside0.mk ((by rw [hg]; exact Nat.ne_of_gt (IsS76.lt (show IsS76 w _ g318 x319000_2 from by repeat (first | (with_reducible first | exact HI318.out | apply IsS76.alloc | apply IsS76.drewN | apply IsS76.drew | apply IsS76.set_0 | refine IsS76.far ?_ NB318_331.out _ | refine IsS76.far ?_ NB318_337.out _) | exact HI318.out))) : gb356 ≠ g318)); clear HO_8; clear HO_15; clear BK331; clear BK337; clear HI318; clear HB; have HO_8 := n0_; have HO_15 := n1_; have BK331 := n2_; have BK337 := n3_; have HI318 := n4_; have HB := n5_; have BK356 := n6_; have GW356 := n7_; have GE356 := n8_; have NB331_356 := n9_; have NB356_331 := n10_; have NB337_356 := n11_; have NB356_337 := n12_; have NB318_356 := n13_; have NB356_318 := n14_; clear n0_ n1_ n2_ n3_ n4_ n5_ n6_ n7_ n8_ n9_ n10_ n11_ n12_ n13_ n14_; clear hb hbox hg; have hnb107 := NB356_331.out; have hnc107 := NB331_356.out; have hnb108 := NB356_337.out; have hnc108 := NB337_356.out; have hnb109 := NB356_318.out; have hnc109 := NB318_356.out; have hcz110_0 : w106.cell? ⟨gb356, 0, none⟩ = some (.int .i64 0) := (blk_cell BK356.out 0).trans rfl; have hcz110_1 : w106.cell? ⟨gb356, 1, none⟩ = some (.int .i64 0) := (blk_cell BK356.out 1).trans rfl; have hfz110_0 := blk_frozen BK356.out 0; have hfz110_1 := blk_frozen BK356.out 1))
                      go_ret
                      exact ⟨by first | rfl | (simp [errW_none, errW_some] <;> rfl) | (simp [*, errW_none, errW_some] <;> rfl), by repeat (first | (with_reducible first | exact HB.out | apply below_alloc | apply pw_below_drewN | apply below_drew1 | refine below_set ?_ (IsS76.ge HI318.out) | refine below_set ?_ GE331.out | refine below_set ?_ GE337.out | refine below_set ?_ GE356.out) | exact HB.out)⟩
    · rw [if_neg c11] at H
      exact absurd H (by simp)
  · rw [if_neg c10] at H
    exact absurd H (by simp)

/-- THE ONE PURE STATEMENT of thermionlaw07_GaugeRises: yours. -/
def thermionlaw07_GaugeRises.Pure : Prop := ∀ (l0 : List Int) (a1 : Int) (a2 : Int), l0.length ≤ maxLen → l0.length * 8 ≤ 140737488351232 → (∀ x ∈ l0, (Lit.int .i64 x).wf = true) → (Lit.int .i64 a1).wf = true → (Lit.int .i64 a2).wf = true → ∃ k, thermionlaw07_GaugeRises.f k l0 a1 a2 = some true
theorem thermionlaw07_GaugeRises.walk (P : thermionlaw07_GaugeRises.Pure) (a0 : Option Addr) (len0 cap0 : Nat) (z0 : List Int) (a1 : Int) (a2 : Int) (w : World) (w0 : (a0 = none ∧ len0 = 0 ∧ cap0 = 0 ∧ z0 = []) ∨ ∃ x, a0 = some x ∧ len0 ≤ cap0 ∧ cap0 ≤ maxLen ∧ z0.length = cap0 ∧ (∀ i, i < z0.length → w.cell? (x.add i) = some (.int .i64 (z0.getD i 0))) ∧ ∀ n ∈ z0, (Lit.int .i64 n).wf = true) (y0 : len0 * 8 ≤ 140737488351232) (w1 : (Lit.int .i64 a1).wf = true) (w2 : (Lit.int .i64 a2).wf = true) :
    Calls Try.prog 6 #[.slice a0 len0 cap0, .int .i64 a1, .int .i64 a2] w fun e w' => e = .returned (.bool true) ∧ Below w.heap.size w w' := by
  obtain ⟨l0, rfl, hr0, hm0, hw0, hc0⟩ := ReadsInt.ofRowC w0
  obtain ⟨k, h⟩ := P l0 a1 a2 hm0 y0 hw0 w1 w2
  refine (thermionlaw07_GaugeRises.calls k _ _ l0 a1 a2 true w (Kd.C_of_reads (d := (0 : Int)) (h1 := fun _ => rfl) hr0) hc0 h).mono ?_
  rintro e w' ⟨rfl, hd⟩
  exact ⟨rfl, hd⟩

end Go.Proofs.Ytdbpobadeibjaaa.GD
