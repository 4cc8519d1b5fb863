-- written for this claim by a program of this session (wip/gp), over the kit's own printer; Lean checks it
import Derived.Test.YtdbpobadeibjaaaGAllx0
import Derived.Test.YtdbpobadeibjaaaGAllx2
import Derived.Test.YtdbpobadeibjaaaGAllx15
import Derived.Test.YtdbpobadeibjaaaGAllx18
import Derived.Test.YtdbpobadeibjaaaGAllx19
import Derived.Test.YtdbpobadeibjaaaGAllx21
namespace Go.Proofs.Ytdbpobadeibjaaa.GAll
open Go.RowKit Go.Proofs.YtdbpobadeibjaaaW.PrintWords Go.Proofs.YtdbpobadeibjaaaW.PrintLast Go.Proofs.YtdbpobadeibjaaaW.PrintMore
attribute [local go_sem] max2_int min2_int max_two min_two max_three min_three max_four min_four   -- for this text's walks alone
set_option linter.unusedVariables false
set_option linter.unusedSimpArgs false

attribute [local go_sem high] eqA50
/-! ### thermionlaw07_GaugeSamples: function 7 -/
mutual
def thermionlaw07_GaugeSamples.j0 : Nat → Int → Int → Int → Int → Int → Int → Int → Int → Int → Int → Int → Bool → Option (Bool)
  | 0, _, _, _, _, _, _, _, _, _, _, _, _ => none
  | k + 1, x0, x1, x2, x4, x5, x13, x14, x15, x16, x17, x18, x85 => if x85 = true then (some false) else ((gauge_Chance.f x13 x14 x15 x16).bind fun bt237 => ((thermionref07_Chance.f k x13 x14 x15 x16).bind fun bt240 => ((gauge_Plan.f x0 x1 x2 x4 x5).bind fun bt243 => ((thermionref07_Plan.f k x0 x1 x2 x4 x5).bind fun bt247 => (if bt237.1 = bt240.1 then (if bt237.2.1 = bt240.2.1 then (if bt237.2.2 = bt240.2.2 then (if (!(bt243.1 == bt247.1) || (!(bt243.2.1 == bt247.2.1))) = true then (thermionlaw07_GaugeSamples.j1 k x4 x5 x13 x17 x18 true) else (thermionlaw07_GaugeSamples.j1 k x4 x5 x13 x17 x18 (bt243.2.2 != bt247.2.2))) else (thermionlaw07_GaugeSamples.j1 k x4 x5 x13 x17 x18 true)) else (thermionlaw07_GaugeSamples.j1 k x4 x5 x13 x17 x18 true)) else (thermionlaw07_GaugeSamples.j1 k x4 x5 x13 x17 x18 true))))))
def thermionlaw07_GaugeSamples.j1 : Nat → Int → Int → Int → Int → Int → Bool → Option (Bool)
  | 0, _, _, _, _, _, _ => none
  | k + 1, x4, x5, x13, x17, x18, x144 => if x144 = true then (some false) else ((thermionkit_Mod.f x4 30).bind fun t251 => ((thermionkit_Mod.f x5 30).bind fun t252 => ((gauge_Plan.f x13 x17 x18 (wrap64 (1 + t251)) (wrap64 (1 + t252))).bind fun bt253 => ((thermionkit_Mod.f x4 30).bind fun t256 => ((thermionkit_Mod.f x5 30).bind fun t257 => ((thermionref07_Plan.f k x13 x17 x18 (wrap64 (1 + t256)) (wrap64 (1 + t257))).bind fun bt258 => (if (bt253.1 == bt258.1 && (bt253.2.1 == bt258.2.1)) = true then (if bt253.2.2 = bt258.2.2 then ((thermionlaw07_awake.f k).bind fun t261 => (some t261)) else (some false)) else (some false))))))))
end
def thermionlaw07_GaugeSamples.f (k : Nat) (a0 : Int) (a1 : Int) (a2 : Int) (a3 : Int) (a4 : Int) (a5 : Int) : Option (Bool) := (thermionkit_Mod.f a0 24).bind fun t225 => ((thermionkit_Mod.f a1 (wrap64 ((wrap64 (1 + t225)) + 1))).bind fun t226 => ((thermionkit_Mod.f a2 (wrap64 ((wrap64 (1 + t225)) + 1))).bind fun t227 => ((thermionkit_Mod.f a3 (wrap64 (t227 + 1))).bind fun t228 => ((thermionkit_Mod.f a1 (wrap64 (1 + t225))).bind fun t229 => ((thermionkit_Mod.f a3 (wrap64 ((wrap64 (1 + t225)) - t229))).bind fun t230 => ((gauge_Chance.f a0 a1 a2 a3).bind fun bt231 => ((thermionref07_Chance.f k a0 a1 a2 a3).bind fun bt234 => (if bt231.1 = bt234.1 then (if bt231.2.1 = bt234.2.1 then (thermionlaw07_GaugeSamples.j0 k a0 a1 a2 a4 a5 (wrap64 (1 + t225)) t226 t227 t228 t229 (wrap64 ((wrap64 (t229 + 1)) + t230)) (bt231.2.2 != bt234.2.2)) else (thermionlaw07_GaugeSamples.j0 k a0 a1 a2 a4 a5 (wrap64 (1 + t225)) t226 t227 t228 t229 (wrap64 ((wrap64 (t229 + 1)) + t230)) true)) else (thermionlaw07_GaugeSamples.j0 k a0 a1 a2 a4 a5 (wrap64 (1 + t225)) t226 t227 t228 t229 (wrap64 ((wrap64 (t229 + 1)) + t230)) true)))))))))
theorem thermionlaw07_GaugeSamples.mono_l : ∀ k, (∀ y0 y1 y2 y3 y4 y5 y6 y7 y8 y9 y10 y11, LeO (thermionlaw07_GaugeSamples.j0 k y0 y1 y2 y3 y4 y5 y6 y7 y8 y9 y10 y11) (thermionlaw07_GaugeSamples.j0 (k + 1) y0 y1 y2 y3 y4 y5 y6 y7 y8 y9 y10 y11)) ∧ (∀ y0 y1 y2 y3 y4 y5, LeO (thermionlaw07_GaugeSamples.j1 k y0 y1 y2 y3 y4 y5) (thermionlaw07_GaugeSamples.j1 (k + 1) y0 y1 y2 y3 y4 y5))
  | 0 => ⟨fun _ _ _ _ _ _ _ _ _ _ _ _ r h => by simp [thermionlaw07_GaugeSamples.j0] at h, fun _ _ _ _ _ _ r h => by simp [thermionlaw07_GaugeSamples.j1] at h⟩
  | k + 1 => by
    obtain ⟨ih0, ih1⟩ := thermionlaw07_GaugeSamples.mono_l k
    refine ⟨?_, ?_⟩
    · intro y0 y1 y2 y3 y4 y5 y6 y7 y8 y9 y10 y11
      unfold thermionlaw07_GaugeSamples.j0
      repeat' first
      | (with_reducible exact ih0 _ _ _ _ _ _ _ _ _ _ _ _)
      | (with_reducible exact ih1 _ _ _ _ _ _)
      | (with_reducible exact thermionlaw07_awake.mono _)
      | (with_reducible exact thermionref07_Chance.mono _ _ _ _ _)
      | (with_reducible exact thermionref07_Plan.mono _ _ _ _ _ _)
      | (with_reducible exact LeO.refl _)
      | (with_reducible exact LeO.none _)
      | (with_reducible refine LeO.ite ?_ ?_)
      | (with_reducible refine LeO.bind ?_ (fun _ => ?_))
      | exact ih0 _ _ _ _ _ _ _ _ _ _ _ _
      | exact ih1 _ _ _ _ _ _
      | exact thermionlaw07_awake.mono _
      | exact thermionref07_Chance.mono _ _ _ _ _
      | exact thermionref07_Plan.mono _ _ _ _ _ _
      | exact LeO.none _
      | refine LeO.ite ?_ ?_
      | refine LeO.bind ?_ (fun _ => ?_)
    · intro y0 y1 y2 y3 y4 y5
      unfold thermionlaw07_GaugeSamples.j1
      repeat' first
      | (with_reducible exact ih0 _ _ _ _ _ _ _ _ _ _ _ _)
      | (with_reducible exact ih1 _ _ _ _ _ _)
      | (with_reducible exact thermionlaw07_awake.mono _)
      | (with_reducible exact thermionref07_Chance.mono _ _ _ _ _)
      | (with_reducible exact thermionref07_Plan.mono _ _ _ _ _ _)
      | (with_reducible exact LeO.refl _)
      | (with_reducible exact LeO.none _)
      | (with_reducible refine LeO.ite ?_ ?_)
      | (with_reducible refine LeO.bind ?_ (fun _ => ?_))
      | exact ih0 _ _ _ _ _ _ _ _ _ _ _ _
      | exact ih1 _ _ _ _ _ _
      | exact thermionlaw07_awake.mono _
      | exact thermionref07_Chance.mono _ _ _ _ _
      | exact thermionref07_Plan.mono _ _ _ _ _ _
      | exact LeO.none _
      | refine LeO.ite ?_ ?_
      | refine LeO.bind ?_ (fun _ => ?_)
theorem thermionlaw07_GaugeSamples.mono : ∀ a0 a1 a2 a3 a4 a5 k, LeO (thermionlaw07_GaugeSamples.f k a0 a1 a2 a3 a4 a5) (thermionlaw07_GaugeSamples.f (k + 1) a0 a1 a2 a3 a4 a5) := by
  intro a0 a1 a2 a3 a4 a5 k
  obtain ⟨ih0, ih1⟩ := thermionlaw07_GaugeSamples.mono_l k
  unfold thermionlaw07_GaugeSamples.f
  repeat' first
      | (with_reducible exact ih0 _ _ _ _ _ _ _ _ _ _ _ _)
      | (with_reducible exact ih1 _ _ _ _ _ _)
      | (with_reducible exact thermionlaw07_awake.mono _)
      | (with_reducible exact thermionref07_Chance.mono _ _ _ _ _)
      | (with_reducible exact thermionref07_Plan.mono _ _ _ _ _ _)
      | (with_reducible exact LeO.refl _)
      | (with_reducible exact LeO.none _)
      | (with_reducible refine LeO.ite ?_ ?_)
      | (with_reducible refine LeO.bind ?_ (fun _ => ?_))
      | exact ih0 _ _ _ _ _ _ _ _ _ _ _ _
      | exact ih1 _ _ _ _ _ _
      | exact thermionlaw07_awake.mono _
      | exact thermionref07_Chance.mono _ _ _ _ _
      | exact thermionref07_Plan.mono _ _ _ _ _ _
      | exact LeO.none _
      | refine LeO.ite ?_ ?_
      | refine LeO.bind ?_ (fun _ => ?_)
set_option maxHeartbeats 8000000 in
set_option maxRecDepth 100000 in
theorem thermionlaw07_GaugeSamples.calls (k : Nat) (a0 : Int) (a1 : Int) (a2 : Int) (a3 : Int) (a4 : Int) (a5 : Int) (r : Bool) (w : World) (h : thermionlaw07_GaugeSamples.f k a0 a1 a2 a3 a4 a5 = some r) :
    Calls Try.prog 7 #[.int .i64 a0, .int .i64 a1, .int .i64 a2, .int .i64 a3, .int .i64 a4, .int .i64 a5] w fun e w' => e = .returned (.bool r) ∧ Below w.heap.size w w' := by
  have hu50 := Try.underlying50
  have HB := Aside0.mk (Below.refl w.heap.size w)
  have H : ((thermionkit_Mod.f a0 24).bind fun t225 => ((thermionkit_Mod.f a1 (wrap64 ((wrap64 (1 + t225)) + 1))).bind fun t226 => ((thermionkit_Mod.f a2 (wrap64 ((wrap64 (1 + t225)) + 1))).bind fun t227 => ((thermionkit_Mod.f a3 (wrap64 (t227 + 1))).bind fun t228 => ((thermionkit_Mod.f a1 (wrap64 (1 + t225))).bind fun t229 => ((thermionkit_Mod.f a3 (wrap64 ((wrap64 (1 + t225)) - t229))).bind fun t230 => ((gauge_Chance.f a0 a1 a2 a3).bind fun bt231 => ((thermionref07_Chance.f k a0 a1 a2 a3).bind fun bt234 => (if bt231.1 = bt234.1 then (if bt231.2.1 = bt234.2.1 then (thermionlaw07_GaugeSamples.j0 k a0 a1 a2 a4 a5 (wrap64 (1 + t225)) t226 t227 t228 t229 (wrap64 ((wrap64 (t229 + 1)) + t230)) (bt231.2.2 != bt234.2.2)) else (thermionlaw07_GaugeSamples.j0 k a0 a1 a2 a4 a5 (wrap64 (1 + t225)) t226 t227 t228 t229 (wrap64 ((wrap64 (t229 + 1)) + t230)) true)) else (thermionlaw07_GaugeSamples.j0 k a0 a1 a2 a4 a5 (wrap64 (1 + t225)) t226 t227 t228 t229 (wrap64 ((wrap64 (t229 + 1)) + t230)) true)))))))))) = some r := h
  clear h
  replace H := Option.bind_eq_some_iff.mp H
  obtain ⟨t225, A70, H⟩ := H
  replace H : ((thermionkit_Mod.f a1 (wrap64 ((wrap64 (1 + t225)) + 1))).bind fun t226 => ((thermionkit_Mod.f a2 (wrap64 ((wrap64 (1 + t225)) + 1))).bind fun t227 => ((thermionkit_Mod.f a3 (wrap64 (t227 + 1))).bind fun t228 => ((thermionkit_Mod.f a1 (wrap64 (1 + t225))).bind fun t229 => ((thermionkit_Mod.f a3 (wrap64 ((wrap64 (1 + t225)) - t229))).bind fun t230 => ((gauge_Chance.f a0 a1 a2 a3).bind fun bt231 => ((thermionref07_Chance.f k a0 a1 a2 a3).bind fun bt234 => (if bt231.1 = bt234.1 then (if bt231.2.1 = bt234.2.1 then (thermionlaw07_GaugeSamples.j0 k a0 a1 a2 a4 a5 (wrap64 (1 + t225)) t226 t227 t228 t229 (wrap64 ((wrap64 (t229 + 1)) + t230)) (bt231.2.2 != bt234.2.2)) else (thermionlaw07_GaugeSamples.j0 k a0 a1 a2 a4 a5 (wrap64 (1 + t225)) t226 t227 t228 t229 (wrap64 ((wrap64 (t229 + 1)) + t230)) true)) else (thermionlaw07_GaugeSamples.j0 k a0 a1 a2 a4 a5 (wrap64 (1 + t225)) t226 t227 t228 t229 (wrap64 ((wrap64 (t229 + 1)) + t230)) true))))))))) = some r := H
  have A7 := Aside0.mk A70
  clear A70
  replace H := Option.bind_eq_some_iff.mp H
  obtain ⟨t226, A80, H⟩ := H
  replace H : ((thermionkit_Mod.f a2 (wrap64 ((wrap64 (1 + t225)) + 1))).bind fun t227 => ((thermionkit_Mod.f a3 (wrap64 (t227 + 1))).bind fun t228 => ((thermionkit_Mod.f a1 (wrap64 (1 + t225))).bind fun t229 => ((thermionkit_Mod.f a3 (wrap64 ((wrap64 (1 + t225)) - t229))).bind fun t230 => ((gauge_Chance.f a0 a1 a2 a3).bind fun bt231 => ((thermionref07_Chance.f k a0 a1 a2 a3).bind fun bt234 => (if bt231.1 = bt234.1 then (if bt231.2.1 = bt234.2.1 then (thermionlaw07_GaugeSamples.j0 k a0 a1 a2 a4 a5 (wrap64 (1 + t225)) t226 t227 t228 t229 (wrap64 ((wrap64 (t229 + 1)) + t230)) (bt231.2.2 != bt234.2.2)) else (thermionlaw07_GaugeSamples.j0 k a0 a1 a2 a4 a5 (wrap64 (1 + t225)) t226 t227 t228 t229 (wrap64 ((wrap64 (t229 + 1)) + t230)) true)) else (thermionlaw07_GaugeSamples.j0 k a0 a1 a2 a4 a5 (wrap64 (1 + t225)) t226 t227 t228 t229 (wrap64 ((wrap64 (t229 + 1)) + t230)) true)))))))) = some r := H
  have A8 := Aside0.mk A80
  clear A80
  replace H := Option.bind_eq_some_iff.mp H
  obtain ⟨t227, A90, H⟩ := H
  replace H : ((thermionkit_Mod.f a3 (wrap64 (t227 + 1))).bind fun t228 => ((thermionkit_Mod.f a1 (wrap64 (1 + t225))).bind fun t229 => ((thermionkit_Mod.f a3 (wrap64 ((wrap64 (1 + t225)) - t229))).bind fun t230 => ((gauge_Chance.f a0 a1 a2 a3).bind fun bt231 => ((thermionref07_Chance.f k a0 a1 a2 a3).bind fun bt234 => (if bt231.1 = bt234.1 then (if bt231.2.1 = bt234.2.1 then (thermionlaw07_GaugeSamples.j0 k a0 a1 a2 a4 a5 (wrap64 (1 + t225)) t226 t227 t228 t229 (wrap64 ((wrap64 (t229 + 1)) + t230)) (bt231.2.2 != bt234.2.2)) else (thermionlaw07_GaugeSamples.j0 k a0 a1 a2 a4 a5 (wrap64 (1 + t225)) t226 t227 t228 t229 (wrap64 ((wrap64 (t229 + 1)) + t230)) true)) else (thermionlaw07_GaugeSamples.j0 k a0 a1 a2 a4 a5 (wrap64 (1 + t225)) t226 t227 t228 t229 (wrap64 ((wrap64 (t229 + 1)) + t230)) true))))))) = some r := H
  have A9 := Aside0.mk A90
  clear A90
  replace H := Option.bind_eq_some_iff.mp H
  obtain ⟨t228, A100, H⟩ := H
  replace H : ((thermionkit_Mod.f a1 (wrap64 (1 + t225))).bind fun t229 => ((thermionkit_Mod.f a3 (wrap64 ((wrap64 (1 + t225)) - t229))).bind fun t230 => ((gauge_Chance.f a0 a1 a2 a3).bind fun bt231 => ((thermionref07_Chance.f k a0 a1 a2 a3).bind fun bt234 => (if bt231.1 = bt234.1 then (if bt231.2.1 = bt234.2.1 then (thermionlaw07_GaugeSamples.j0 k a0 a1 a2 a4 a5 (wrap64 (1 + t225)) t226 t227 t228 t229 (wrap64 ((wrap64 (t229 + 1)) + t230)) (bt231.2.2 != bt234.2.2)) else (thermionlaw07_GaugeSamples.j0 k a0 a1 a2 a4 a5 (wrap64 (1 + t225)) t226 t227 t228 t229 (wrap64 ((wrap64 (t229 + 1)) + t230)) true)) else (thermionlaw07_GaugeSamples.j0 k a0 a1 a2 a4 a5 (wrap64 (1 + t225)) t226 t227 t228 t229 (wrap64 ((wrap64 (t229 + 1)) + t230)) true)))))) = some r := H
  have A10 := Aside0.mk A100
  clear A100
  replace H := Option.bind_eq_some_iff.mp H
  obtain ⟨t229, A110, H⟩ := H
  replace H : ((thermionkit_Mod.f a3 (wrap64 ((wrap64 (1 + t225)) - t229))).bind fun t230 => ((gauge_Chance.f a0 a1 a2 a3).bind fun bt231 => ((thermionref07_Chance.f k a0 a1 a2 a3).bind fun bt234 => (if bt231.1 = bt234.1 then (if bt231.2.1 = bt234.2.1 then (thermionlaw07_GaugeSamples.j0 k a0 a1 a2 a4 a5 (wrap64 (1 + t225)) t226 t227 t228 t229 (wrap64 ((wrap64 (t229 + 1)) + t230)) (bt231.2.2 != bt234.2.2)) else (thermionlaw07_GaugeSamples.j0 k a0 a1 a2 a4 a5 (wrap64 (1 + t225)) t226 t227 t228 t229 (wrap64 ((wrap64 (t229 + 1)) + t230)) true)) else (thermionlaw07_GaugeSamples.j0 k a0 a1 a2 a4 a5 (wrap64 (1 + t225)) t226 t227 t228 t229 (wrap64 ((wrap64 (t229 + 1)) + t230)) true))))) = some r := H
  have A11 := Aside0.mk A110
  clear A110
  replace H := Option.bind_eq_some_iff.mp H
  obtain ⟨t230, A120, H⟩ := H
  replace H : ((gauge_Chance.f a0 a1 a2 a3).bind fun bt231 => ((thermionref07_Chance.f k a0 a1 a2 a3).bind fun bt234 => (if bt231.1 = bt234.1 then (if bt231.2.1 = bt234.2.1 then (thermionlaw07_GaugeSamples.j0 k a0 a1 a2 a4 a5 (wrap64 (1 + t225)) t226 t227 t228 t229 (wrap64 ((wrap64 (t229 + 1)) + t230)) (bt231.2.2 != bt234.2.2)) else (thermionlaw07_GaugeSamples.j0 k a0 a1 a2 a4 a5 (wrap64 (1 + t225)) t226 t227 t228 t229 (wrap64 ((wrap64 (t229 + 1)) + t230)) true)) else (thermionlaw07_GaugeSamples.j0 k a0 a1 a2 a4 a5 (wrap64 (1 + t225)) t226 t227 t228 t229 (wrap64 ((wrap64 (t229 + 1)) + t230)) true)))) = some r := H
  have A12 := Aside0.mk A120
  clear A120
  replace H := Option.bind_eq_some_iff.mp H
  obtain ⟨⟨t231, t232, t233⟩, A130, H⟩ := H
  replace H : ((thermionref07_Chance.f k a0 a1 a2 a3).bind fun bt234 => (if t231 = bt234.1 then (if t232 = bt234.2.1 then (thermionlaw07_GaugeSamples.j0 k a0 a1 a2 a4 a5 (wrap64 (1 + t225)) t226 t227 t228 t229 (wrap64 ((wrap64 (t229 + 1)) + t230)) (t233 != bt234.2.2)) else (thermionlaw07_GaugeSamples.j0 k a0 a1 a2 a4 a5 (wrap64 (1 + t225)) t226 t227 t228 t229 (wrap64 ((wrap64 (t229 + 1)) + t230)) true)) else (thermionlaw07_GaugeSamples.j0 k a0 a1 a2 a4 a5 (wrap64 (1 + t225)) t226 t227 t228 t229 (wrap64 ((wrap64 (t229 + 1)) + t230)) true))) = some r := H
  have A13 := Aside0.mk A130
  clear A130
  replace H := Option.bind_eq_some_iff.mp H
  obtain ⟨⟨t234, t235, t236⟩, A140, H⟩ := H
  replace H : (if t231 = t234 then (if t232 = t235 then (thermionlaw07_GaugeSamples.j0 k a0 a1 a2 a4 a5 (wrap64 (1 + t225)) t226 t227 t228 t229 (wrap64 ((wrap64 (t229 + 1)) + t230)) (t233 != t236)) else (thermionlaw07_GaugeSamples.j0 k a0 a1 a2 a4 a5 (wrap64 (1 + t225)) t226 t227 t228 t229 (wrap64 ((wrap64 (t229 + 1)) + t230)) true)) else (thermionlaw07_GaugeSamples.j0 k a0 a1 a2 a4 a5 (wrap64 (1 + t225)) t226 t227 t228 t229 (wrap64 ((wrap64 (t229 + 1)) + t230)) true)) = some r := H
  have A14 := Aside0.mk A140
  clear A140
  have HC15 := Aside0.mk H
  clear H
  go_enter Try.func7, Try.ntmps7
  go_upto_region 9 with (first | ((with_reducible refine gate_callee (f := 17) rfl ?_); refine goesL_ (some 30) rfl rfl Try.func17 (by kernel_rfl) rfl #[.int .i64 a0, .int .i64 24] rfl (by (try simp only [List.map_toArray, List.map_cons, List.map_nil]); first | done | rfl | (simp only [List.length_drop, List.length_take]; rfl)) ?_; (with_reducible refine (thermionkit_Mod.calls a0 24 t225 _ A7.out).mono ?_); rintro e w' ⟨rfl, ⟨nd, rfl⟩⟩; refine ⟨_, rfl, ?_⟩) | ((with_reducible refine gate_callee (f := 17) rfl ?_); refine goesL_ (some 35) rfl rfl Try.func17 (by kernel_rfl) rfl #[.int .i64 a1, .int .i64 (wrap64 ((wrap64 (1 + t225)) + 1))] rfl (by (try simp only [List.map_toArray, List.map_cons, List.map_nil]); first | done | rfl | (simp only [List.length_drop, List.length_take]; rfl)) ?_; (with_reducible refine (thermionkit_Mod.calls a1 (wrap64 ((wrap64 (1 + t225)) + 1)) t226 _ A8.out).mono ?_); rintro e w' ⟨rfl, ⟨nd, rfl⟩⟩; refine ⟨_, rfl, ?_⟩) | ((with_reducible refine gate_callee (f := 17) rfl ?_); refine goesL_ (some 39) rfl rfl Try.func17 (by kernel_rfl) rfl #[.int .i64 a2, .int .i64 (wrap64 ((wrap64 (1 + t225)) + 1))] rfl (by (try simp only [List.map_toArray, List.map_cons, List.map_nil]); first | done | rfl | (simp only [List.length_drop, List.length_take]; rfl)) ?_; (with_reducible refine (thermionkit_Mod.calls a2 (wrap64 ((wrap64 (1 + t225)) + 1)) t227 _ A9.out).mono ?_); rintro e w' ⟨rfl, ⟨nd, rfl⟩⟩; refine ⟨_, rfl, ?_⟩) | ((with_reducible refine gate_callee (f := 17) rfl ?_); refine goesL_ (some 43) rfl rfl Try.func17 (by kernel_rfl) rfl #[.int .i64 a3, .int .i64 (wrap64 (t227 + 1))] rfl (by (try simp only [List.map_toArray, List.map_cons, List.map_nil]); first | done | rfl | (simp only [List.length_drop, List.length_take]; rfl)) ?_; (with_reducible refine (thermionkit_Mod.calls a3 (wrap64 (t227 + 1)) t228 _ A10.out).mono ?_); rintro e w' ⟨rfl, ⟨nd, rfl⟩⟩; refine ⟨_, rfl, ?_⟩) | ((with_reducible refine gate_callee (f := 17) rfl ?_); refine goesL_ (some 46) rfl rfl Try.func17 (by kernel_rfl) rfl #[.int .i64 a1, .int .i64 (wrap64 (1 + t225))] rfl (by (try simp only [List.map_toArray, List.map_cons, List.map_nil]); first | done | rfl | (simp only [List.length_drop, List.length_take]; rfl)) ?_; (with_reducible refine (thermionkit_Mod.calls a1 (wrap64 (1 + t225)) t229 _ A11.out).mono ?_); rintro e w' ⟨rfl, ⟨nd, rfl⟩⟩; refine ⟨_, rfl, ?_⟩) | ((with_reducible refine gate_callee (f := 17) rfl ?_); refine goesL_ (some 53) rfl rfl Try.func17 (by kernel_rfl) rfl #[.int .i64 a3, .int .i64 (wrap64 ((wrap64 (1 + t225)) - t229))] rfl (by (try simp only [List.map_toArray, List.map_cons, List.map_nil]); first | done | rfl | (simp only [List.length_drop, List.length_take]; rfl)) ?_; (with_reducible refine (thermionkit_Mod.calls a3 (wrap64 ((wrap64 (1 + t225)) - t229)) t230 _ A12.out).mono ?_); rintro e w' ⟨rfl, ⟨nd, rfl⟩⟩; refine ⟨_, rfl, ?_⟩) | ((with_reducible refine gate_callee (f := 27) rfl ?_); refine goesL_ (some 60) rfl rfl Try.func27 (by kernel_rfl) rfl #[.int .i64 a0, .int .i64 a1, .int .i64 a2, .int .i64 a3] rfl (by (try simp only [List.map_toArray, List.map_cons, List.map_nil]); first | done | rfl | (simp only [List.length_drop, List.length_take]; rfl)) ?_; (with_reducible refine (gauge_Chance.calls a0 a1 a2 a3 t231 t232 t233 _ A13.out).mono ?_); rintro e w16 ⟨rfl, hb⟩; refine ⟨_, rfl, ?_⟩; have n0_ := Aside0.mk (below_step (by repeat (first | (with_reducible first | exact HB.out | apply below_alloc | apply pw_below_drewN | apply below_drew1) | exact HB.out)) hb); clear HB; have HB := n0_; clear n0_; (try clear hb); (try clear hb2); (try clear hk); (try clear hi)) | ((with_reducible refine gate_callee (f := 28) rfl ?_); refine goesL_ (some 69) rfl rfl Try.func28 (by kernel_rfl) rfl #[.int .i64 a0, .int .i64 a1, .int .i64 a2, .int .i64 a3] rfl (by (try simp only [List.map_toArray, List.map_cons, List.map_nil]); first | done | rfl | (simp only [List.length_drop, List.length_take]; rfl)) ?_; (with_reducible refine (thermionref07_Chance.calls k a0 a1 a2 a3 t234 t235 t236 _ A14.out).mono ?_); rintro e w17 ⟨rfl, hb⟩; refine ⟨_, rfl, ?_⟩; have n0_ := Aside0.mk (below_step (by repeat (first | (with_reducible first | exact HB.out | apply below_alloc | apply pw_below_drewN | apply below_drew1) | exact HB.out)) hb); clear HB; have HB := n0_; clear n0_; (try clear hb); (try clear hb2); (try clear hk); (try clear hi)))
  (try simp only [Act.put, List.setIfInBounds_toArray, List.set_cons_zero, List.set_cons_succ])
  go_cut [85] (fun v85 wc => ∃ (kq : Nat) (x85_14 : Bool), v85 = .bool x85_14 ∧ Aside0 (thermionlaw07_GaugeSamples.j0 kq a0 a1 a2 a4 a5 (wrap64 (1 + t225)) t226 t227 t228 t229 (wrap64 ((wrap64 (t229 + 1)) + t230)) x85_14 = some r) ∧ Aside0 (kq ≤ k) ∧ Aside0 (Below w.heap.size w wc))
  case first =>
    have H := HC15.out
    clear HC15
    by_cases c18 : t231 = t234
    · rw [if_pos c18] at H
      have c18b0 : (t231 == t234) = true := beq_iff_eq.mpr c18
      have c18b1 : (t231 != t234) = false := bne_eq_false_iff_eq.mpr c18
      clear c18
      (first | rw [c18b0] | (simp only [i64_w, i32_w]; rw [c18b0]) | skip)
      by_cases c19 : t232 = t235
      · rw [if_pos c19] at H
        have c19b0 : (t232 == t235) = true := beq_iff_eq.mpr c19
        have c19b1 : (t232 != t235) = false := bne_eq_false_iff_eq.mpr c19
        clear c19
        have H' := Aside0.mk H
        clear H
        go_wp2
        go_meet
        case rel => exact ⟨_, ((t233 != t236)), (by first | rfl | (simp; done) | (simp [*]; done)), H', ⟨by first | omega | exact Nat.le_refl _⟩, ⟨by repeat (first | (with_reducible first | exact HB.out | apply below_alloc | apply pw_below_drewN | apply below_drew1) | exact HB.out)⟩⟩
      · rw [if_neg c19] at H
        have c19b0 : (t232 == t235) = false := beq_eq_false_iff_ne.mpr c19
        have c19b1 : (t232 != t235) = true := bne_iff_ne.mpr c19
        have H' := Aside0.mk H
        clear H
        go_wp2
        go_meet
        case rel => exact ⟨_, (true), (by first | rfl | (simp; done) | (simp [*]; done)), H', ⟨by first | omega | exact Nat.le_refl _⟩, ⟨by repeat (first | (with_reducible first | exact HB.out | apply below_alloc | apply pw_below_drewN | apply below_drew1) | exact HB.out)⟩⟩
    · rw [if_neg c18] at H
      have c18b0 : (t231 == t234) = false := beq_eq_false_iff_ne.mpr c18
      have c18b1 : (t231 != t234) = true := bne_iff_ne.mpr c18
      (first | rw [c18b0] | (simp only [i64_w, i32_w]; rw [c18b0]) | skip)
      have H' := Aside0.mk H
      clear H
      go_wp2
      go_meet
      case rel => exact ⟨_, (true), (by first | rfl | (simp; done) | (simp [*]; done)), H', ⟨by first | omega | exact Nat.le_refl _⟩, ⟨by repeat (first | (with_reducible first | exact HB.out | apply below_alloc | apply pw_below_drewN | apply below_drew1) | exact HB.out)⟩⟩
  case rest =>
    clear HC15
    try clear c1
    try clear c2
    try clear p2
    try clear p6
    try clear c7
    try clear c17
    try clear c18
    try clear c18b0
    try clear c18b1
    try clear c19
    try clear c19b0
    try clear c19b1
    obtain ⟨kq, x85_14, rfl, HA, HJ14, HB⟩ := hcut
    cases kq with
    | zero => exact absurd HA.out (by simp [thermionlaw07_GaugeSamples.j0])
    | succ kj14 =>
      have H := HA.out
      clear HA
      simp only [thermionlaw07_GaugeSamples.j0] at H
      by_cases c20 : x85_14 = true
      · subst c20
        have H1 : (some false) = some r := by rw [if_pos rfl] at H; exact H
        clear H
        have H := H1
        clear H1
        obtain rfl := Option.some.inj H
        go_wp2
        go_ret
        exact ⟨by first | rfl | (simp [errW_none, errW_some] <;> rfl) | (simp [*, errW_none, errW_some] <;> rfl), by repeat (first | (with_reducible first | exact HB.out | apply below_alloc | apply pw_below_drewN | apply below_drew1) | exact HB.out)⟩
      · replace c20 := Bool.eq_false_iff.mpr c20
        subst c20
        have H1 : ((gauge_Chance.f (wrap64 (1 + t225)) t226 t227 t228).bind fun bt237 => ((thermionref07_Chance.f kj14 (wrap64 (1 + t225)) t226 t227 t228).bind fun bt240 => ((gauge_Plan.f a0 a1 a2 a4 a5).bind fun bt243 => ((thermionref07_Plan.f kj14 a0 a1 a2 a4 a5).bind fun bt247 => (if bt237.1 = bt240.1 then (if bt237.2.1 = bt240.2.1 then (if bt237.2.2 = bt240.2.2 then (if (!(bt243.1 == bt247.1) || (!(bt243.2.1 == bt247.2.1))) = true then (thermionlaw07_GaugeSamples.j1 kj14 a4 a5 (wrap64 (1 + t225)) t229 (wrap64 ((wrap64 (t229 + 1)) + t230)) true) else (thermionlaw07_GaugeSamples.j1 kj14 a4 a5 (wrap64 (1 + t225)) t229 (wrap64 ((wrap64 (t229 + 1)) + t230)) (bt243.2.2 != bt247.2.2))) else (thermionlaw07_GaugeSamples.j1 kj14 a4 a5 (wrap64 (1 + t225)) t229 (wrap64 ((wrap64 (t229 + 1)) + t230)) true)) else (thermionlaw07_GaugeSamples.j1 kj14 a4 a5 (wrap64 (1 + t225)) t229 (wrap64 ((wrap64 (t229 + 1)) + t230)) true)) else (thermionlaw07_GaugeSamples.j1 kj14 a4 a5 (wrap64 (1 + t225)) t229 (wrap64 ((wrap64 (t229 + 1)) + t230)) true)))))) = some r := by rw [if_neg (show ¬ (false = true) by decide)] at H; exact H
        clear H
        have H := H1
        clear H1
        replace H := Option.bind_eq_some_iff.mp H
        obtain ⟨⟨t237, t238, t239⟩, A210, H⟩ := H
        replace H : ((thermionref07_Chance.f kj14 (wrap64 (1 + t225)) t226 t227 t228).bind fun bt240 => ((gauge_Plan.f a0 a1 a2 a4 a5).bind fun bt243 => ((thermionref07_Plan.f kj14 a0 a1 a2 a4 a5).bind fun bt247 => (if t237 = bt240.1 then (if t238 = bt240.2.1 then (if t239 = bt240.2.2 then (if (!(bt243.1 == bt247.1) || (!(bt243.2.1 == bt247.2.1))) = true then (thermionlaw07_GaugeSamples.j1 kj14 a4 a5 (wrap64 (1 + t225)) t229 (wrap64 ((wrap64 (t229 + 1)) + t230)) true) else (thermionlaw07_GaugeSamples.j1 kj14 a4 a5 (wrap64 (1 + t225)) t229 (wrap64 ((wrap64 (t229 + 1)) + t230)) (bt243.2.2 != bt247.2.2))) else (thermionlaw07_GaugeSamples.j1 kj14 a4 a5 (wrap64 (1 + t225)) t229 (wrap64 ((wrap64 (t229 + 1)) + t230)) true)) else (thermionlaw07_GaugeSamples.j1 kj14 a4 a5 (wrap64 (1 + t225)) t229 (wrap64 ((wrap64 (t229 + 1)) + t230)) true)) else (thermionlaw07_GaugeSamples.j1 kj14 a4 a5 (wrap64 (1 + t225)) t229 (wrap64 ((wrap64 (t229 + 1)) + t230)) true))))) = some r := H
        have A21 := Aside0.mk A210
        clear A210
        replace H := Option.bind_eq_some_iff.mp H
        obtain ⟨⟨t240, t241, t242⟩, A220, H⟩ := H
        replace H : ((gauge_Plan.f a0 a1 a2 a4 a5).bind fun bt243 => ((thermionref07_Plan.f kj14 a0 a1 a2 a4 a5).bind fun bt247 => (if t237 = t240 then (if t238 = t241 then (if t239 = t242 then (if (!(bt243.1 == bt247.1) || (!(bt243.2.1 == bt247.2.1))) = true then (thermionlaw07_GaugeSamples.j1 kj14 a4 a5 (wrap64 (1 + t225)) t229 (wrap64 ((wrap64 (t229 + 1)) + t230)) true) else (thermionlaw07_GaugeSamples.j1 kj14 a4 a5 (wrap64 (1 + t225)) t229 (wrap64 ((wrap64 (t229 + 1)) + t230)) (bt243.2.2 != bt247.2.2))) else (thermionlaw07_GaugeSamples.j1 kj14 a4 a5 (wrap64 (1 + t225)) t229 (wrap64 ((wrap64 (t229 + 1)) + t230)) true)) else (thermionlaw07_GaugeSamples.j1 kj14 a4 a5 (wrap64 (1 + t225)) t229 (wrap64 ((wrap64 (t229 + 1)) + t230)) true)) else (thermionlaw07_GaugeSamples.j1 kj14 a4 a5 (wrap64 (1 + t225)) t229 (wrap64 ((wrap64 (t229 + 1)) + t230)) true)))) = some r := H
        have A22 := Aside0.mk A220
        clear A220
        replace H := Option.bind_eq_some_iff.mp H
        obtain ⟨⟨t243, t244, t245⟩, A230, H⟩ := H
        replace H : ((thermionref07_Plan.f kj14 a0 a1 a2 a4 a5).bind fun bt247 => (if t237 = t240 then (if t238 = t241 then (if t239 = t242 then (if (!(t243 == bt247.1) || (!(t244 == bt247.2.1))) = true then (thermionlaw07_GaugeSamples.j1 kj14 a4 a5 (wrap64 (1 + t225)) t229 (wrap64 ((wrap64 (t229 + 1)) + t230)) true) else (thermionlaw07_GaugeSamples.j1 kj14 a4 a5 (wrap64 (1 + t225)) t229 (wrap64 ((wrap64 (t229 + 1)) + t230)) (t245 != bt247.2.2))) else (thermionlaw07_GaugeSamples.j1 kj14 a4 a5 (wrap64 (1 + t225)) t229 (wrap64 ((wrap64 (t229 + 1)) + t230)) true)) else (thermionlaw07_GaugeSamples.j1 kj14 a4 a5 (wrap64 (1 + t225)) t229 (wrap64 ((wrap64 (t229 + 1)) + t230)) true)) else (thermionlaw07_GaugeSamples.j1 kj14 a4 a5 (wrap64 (1 + t225)) t229 (wrap64 ((wrap64 (t229 + 1)) + t230)) true))) = some r := H
        have A23 := Aside0.mk A230
        clear A230
        replace H := Option.bind_eq_some_iff.mp H
        obtain ⟨⟨t247, t248, t249⟩, A240, H⟩ := H
        replace H : (if t237 = t240 then (if t238 = t241 then (if t239 = t242 then (if (!(t243 == t247) || (!(t244 == t248))) = true then (thermionlaw07_GaugeSamples.j1 kj14 a4 a5 (wrap64 (1 + t225)) t229 (wrap64 ((wrap64 (t229 + 1)) + t230)) true) else (thermionlaw07_GaugeSamples.j1 kj14 a4 a5 (wrap64 (1 + t225)) t229 (wrap64 ((wrap64 (t229 + 1)) + t230)) (t245 != t249))) else (thermionlaw07_GaugeSamples.j1 kj14 a4 a5 (wrap64 (1 + t225)) t229 (wrap64 ((wrap64 (t229 + 1)) + t230)) true)) else (thermionlaw07_GaugeSamples.j1 kj14 a4 a5 (wrap64 (1 + t225)) t229 (wrap64 ((wrap64 (t229 + 1)) + t230)) true)) else (thermionlaw07_GaugeSamples.j1 kj14 a4 a5 (wrap64 (1 + t225)) t229 (wrap64 ((wrap64 (t229 + 1)) + t230)) true)) = some r := H
        have A24 := Aside0.mk A240
        clear A240
        have HC25 := Aside0.mk H
        clear H
        go_upto_region 15 with (first | ((with_reducible refine gate_callee (f := 27) rfl ?_); refine goesL_ (some 91) rfl rfl Try.func27 (by kernel_rfl) rfl #[.int .i64 (wrap64 (1 + t225)), .int .i64 t226, .int .i64 t227, .int .i64 t228] rfl (by (try simp only [List.map_toArray, List.map_cons, List.map_nil]); first | done | rfl | (simp only [List.length_drop, List.length_take]; rfl)) ?_; (with_reducible refine (gauge_Chance.calls (wrap64 (1 + t225)) t226 t227 t228 t237 t238 t239 _ A21.out).mono ?_); rintro e w26 ⟨rfl, hb⟩; refine ⟨_, rfl, ?_⟩; have n0_ := Aside0.mk (below_step (by repeat (first | (with_reducible first | exact HB.out | apply below_alloc | apply pw_below_drewN | apply below_drew1) | exact HB.out)) hb); clear HB; have HB := n0_; clear n0_; (try clear hb); (try clear hb2); (try clear hk); (try clear hi)) | ((with_reducible refine gate_callee (f := 28) rfl ?_); refine goesL_ (some 100) rfl rfl Try.func28 (by kernel_rfl) rfl #[.int .i64 (wrap64 (1 + t225)), .int .i64 t226, .int .i64 t227, .int .i64 t228] rfl (by (try simp only [List.map_toArray, List.map_cons, List.map_nil]); first | done | rfl | (simp only [List.length_drop, List.length_take]; rfl)) ?_; (with_reducible refine (thermionref07_Chance.calls kj14 (wrap64 (1 + t225)) t226 t227 t228 t240 t241 t242 _ A22.out).mono ?_); rintro e w27 ⟨rfl, hb⟩; refine ⟨_, rfl, ?_⟩; have n0_ := Aside0.mk (below_step (by repeat (first | (with_reducible first | exact HB.out | apply below_alloc | apply pw_below_drewN | apply below_drew1) | exact HB.out)) hb); clear HB; have HB := n0_; clear n0_; (try clear hb); (try clear hb2); (try clear hk); (try clear hi)) | ((with_reducible refine gate_callee (f := 29) rfl ?_); refine goesL_ (some 110) rfl rfl Try.func29 (by kernel_rfl) rfl #[.int .i64 a0, .int .i64 a1, .int .i64 a2, .int .i64 a4, .int .i64 a5] rfl (by (try simp only [List.map_toArray, List.map_cons, List.map_nil]); first | done | rfl | (simp only [List.length_drop, List.length_take]; rfl)) ?_; (with_reducible refine (gauge_Plan.calls a0 a1 a2 a4 a5 t243 t244 t245 _ A23.out).mono ?_); rintro e w28 ⟨rfl, hb⟩; refine ⟨_, rfl, ?_⟩; have n0_ := Aside0.mk (below_step (by repeat (first | (with_reducible first | exact HB.out | apply below_alloc | apply pw_below_drewN | apply below_drew1) | exact HB.out)) hb); clear HB; have HB := n0_; clear n0_; (try clear hb); (try clear hb2); (try clear hk); (try clear hi)) | ((with_reducible refine gate_dst (N := 25) rfl ?_); refine box_event ?hg (N := 25) ?hd (cs := #[.int .i64 0, .int .i64 0]) (t := 50) ?hr ?_; (case hd => rfl); (case hg => rfl); (case hr => first | (go_simp; done) | (go_simp; rfl)); intro gb246 hg w29 hbox hb; have n0_ := Aside0.mk (below_step (by repeat (first | (with_reducible first | exact HB.out | apply below_alloc | apply pw_below_drewN | apply below_drew1) | exact HB.out)) hb); have n1_ := Aside0.mk (hbox); have n2_ := Aside0.mk ((by rw [hg]; exact (below_size (by repeat (first | (with_reducible first | exact HB.out | apply below_alloc | apply pw_below_drewN | apply below_drew1) | exact HB.out))) : w.heap.size ≤ gb246)); have n3_ := Aside0.mk ((by rw [hg]; exact (below_size (by repeat (first | (with_reducible first | exact HB.out | apply below_alloc | apply pw_below_drewN | apply below_drew1) | exact HB.out))) : w.heap.size ≤ gb246)); clear HB; have HB := n0_; have BK246 := n1_; have GW246 := n2_; have GE246 := n3_; clear n0_ n1_ n2_ n3_; clear hb hbox hg; have hcz30_0 : w29.cell? ⟨gb246, 0, none⟩ = some (.int .i64 0) := (blk_cell BK246.out 0).trans rfl; have hcz30_1 : w29.cell? ⟨gb246, 1, none⟩ = some (.int .i64 0) := (blk_cell BK246.out 1).trans rfl; have hfz30_0 := blk_frozen BK246.out 0; have hfz30_1 := blk_frozen BK246.out 1) | ((with_reducible refine gate_callee (f := 30) rfl ?_); refine goesL_ (some 119) rfl rfl Try.func30 (by kernel_rfl) rfl #[.int .i64 a0, .int .i64 a1, .int .i64 a2, .int .i64 a4, .int .i64 a5] rfl (by (try simp only [List.map_toArray, List.map_cons, List.map_nil]); first | done | rfl | (simp only [List.length_drop, List.length_take]; rfl)) ?_; (with_reducible refine (thermionref07_Plan.calls kj14 a0 a1 a2 a4 a5 t247 t248 t249 _ A24.out).mono ?_); rintro e w31 ⟨rfl, hb⟩; refine ⟨_, rfl, ?_⟩; have n0_ := Aside0.mk (blk_below (g := gb246) (o := .cells #[.int .i64 t243, .int .i64 t244] 50 (0, 0)) (by (with_reducible repeat (first | refine blk_drewN ?_ _ | refine blk_drew ?_ | refine blk_alloc ?_ _)); refine blk_put (cs := #[.int .i64 t243, .int .i64 0]) ?_ 1 _ rfl; (with_reducible repeat (first | refine blk_drewN ?_ _ | refine blk_drew ?_ | refine blk_alloc ?_ _)); refine blk_put (cs := #[.int .i64 0, .int .i64 0]) ?_ 0 _ rfl; (with_reducible repeat (first | refine blk_drewN ?_ _ | refine blk_drew ?_ | refine blk_alloc ?_ _)); exact BK246.out) hb); have n1_ := Aside0.mk (below_step (by repeat (first | (with_reducible first | exact HB.out | apply below_alloc | apply pw_below_drewN | apply below_drew1 | refine below_set ?_ GE246.out) | exact HB.out)) hb); clear BK246; clear HB; have BK246 := n0_; have HB := n1_; clear n0_ n1_; (try clear hb); (try clear hb2); (try clear hk); (try clear hi)) | ((with_reducible refine gate_dst (N := 27) rfl ?_); refine box_event ?hg (N := 27) ?hd (cs := #[.int .i64 0, .int .i64 0]) (t := 50) ?hr ?_; (case hd => rfl); (case hg => rfl); (case hr => first | (go_simp; done) | (go_simp; rfl)); intro gb250 hg w32 hbox hb; have n0_ := Aside0.mk (blk_below (g := gb246) (o := .cells #[.int .i64 t243, .int .i64 t244] 50 (0, 0)) (by (with_reducible repeat (first | refine blk_drewN ?_ _ | refine blk_drew ?_ | refine blk_alloc ?_ _)); exact BK246.out) hb); have n1_ := Aside0.mk (below_step (by repeat (first | (with_reducible first | exact HB.out | apply below_alloc | apply pw_below_drewN | apply below_drew1 | refine below_set ?_ GE246.out) | exact HB.out)) hb); have n2_ := Aside0.mk (hbox); have n3_ := Aside0.mk ((by rw [hg]; exact (below_size (by repeat (first | (with_reducible first | exact HB.out | apply below_alloc | apply pw_below_drewN | apply below_drew1 | refine below_set ?_ GE246.out) | exact HB.out))) : w.heap.size ≤ gb250)); have n4_ := Aside0.mk ((by rw [hg]; exact (below_size (by repeat (first | (with_reducible first | exact HB.out | apply below_alloc | apply pw_below_drewN | apply below_drew1 | refine below_set ?_ GE246.out) | exact HB.out))) : w.heap.size ≤ gb250)); have n5_ := Aside0.mk ((by rw [hg]; exact Nat.ne_of_lt (blk_lt (g := gb246) (o := .cells #[.int .i64 t243, .int .i64 t244] 50 (0, 0)) (by (with_reducible repeat (first | refine blk_drewN ?_ _ | refine blk_drew ?_ | refine blk_alloc ?_ _)); exact BK246.out)) : gb246 ≠ gb250)); have n6_ := Aside0.mk ((by rw [hg]; exact Nat.ne_of_gt (blk_lt (g := gb246) (o := .cells #[.int .i64 t243, .int .i64 t244] 50 (0, 0)) (by (with_reducible repeat (first | refine blk_drewN ?_ _ | refine blk_drew ?_ | refine blk_alloc ?_ _)); exact BK246.out)) : gb250 ≠ gb246)); clear BK246; clear HB; have BK246 := n0_; have HB := n1_; have BK250 := n2_; have GW250 := n3_; have GE250 := n4_; have NB246_250 := n5_; have NB250_246 := n6_; clear n0_ n1_ n2_ n3_ n4_ n5_ n6_; clear hb hbox hg; have hnb33 := NB250_246.out; have hnc33 := NB246_250.out; have hcz34_0 : w32.cell? ⟨gb250, 0, none⟩ = some (.int .i64 0) := (blk_cell BK250.out 0).trans rfl; have hcz34_1 : w32.cell? ⟨gb250, 1, none⟩ = some (.int .i64 0) := (blk_cell BK250.out 1).trans rfl; have hfz34_0 := blk_frozen BK250.out 0; have hfz34_1 := blk_frozen BK250.out 1))
        (try simp only [Act.put, List.setIfInBounds_toArray, List.set_cons_zero, List.set_cons_succ])
        go_cut [144] (fun v144 wc => ∃ (kq : Nat) (x144_24 : Bool), v144 = .bool x144_24 ∧ Aside0 (thermionlaw07_GaugeSamples.j1 kq a4 a5 (wrap64 (1 + t225)) t229 (wrap64 ((wrap64 (t229 + 1)) + t230)) x144_24 = some r) ∧ Aside0 (kq ≤ kj14) ∧ Aside0 (wc.heap[gb246]? = some (.cells #[.int .i64 t243, .int .i64 t244] 50 (0, 0))) ∧ Aside0 (wc.heap[gb250]? = some (.cells #[.int .i64 t247, .int .i64 t248] 50 (0, 0))) ∧ Aside0 (Below w.heap.size w wc))
        case first =>
          have H := HC25.out
          clear HC25
          by_cases c35 : t237 = t240
          · rw [if_pos c35] at H
            have c35b0 : (t237 == t240) = true := beq_iff_eq.mpr c35
            have c35b1 : (t237 != t240) = false := bne_eq_false_iff_eq.mpr c35
            clear c35
            (first | rw [c35b0] | (simp only [i64_w, i32_w]; rw [c35b0]) | skip)
            by_cases c36 : t238 = t241
            · rw [if_pos c36] at H
              have c36b0 : (t238 == t241) = true := beq_iff_eq.mpr c36
              have c36b1 : (t238 != t241) = false := bne_eq_false_iff_eq.mpr c36
              clear c36
              by_cases c37 : t239 = t242
              · rw [if_pos c37] at H
                have c37b0 : (t239 == t242) = true := beq_iff_eq.mpr c37
                have c37b1 : (t239 != t242) = false := bne_eq_false_iff_eq.mpr c37
                clear c37
                by_cases c38 : (!(t243 == t247) || (!(t244 == t248))) = true
                · rw [if_pos c38] at H
                  have c38b0 : (!(t243 == t247) || (!(t244 == t248))) = true := c38
                  clear c38
                  have H' := Aside0.mk H
                  clear H
                  have hnb39 := NB246_250.out
                  have hnc39 := NB250_246.out
                  have hcz40_0 : w32.cell? ⟨gb246, 0, none⟩ = some (.int .i64 t243) := (blk_cell BK246.out 0).trans rfl
                  have hcz40_1 : w32.cell? ⟨gb246, 1, none⟩ = some (.int .i64 t244) := (blk_cell BK246.out 1).trans rfl
                  have hfz40_0 := blk_frozen BK246.out 0
                  have hfz40_1 := blk_frozen BK246.out 1
                  have hcz41_0 : w32.cell? ⟨gb250, 0, none⟩ = some (.int .i64 0) := (blk_cell BK250.out 0).trans rfl
                  have hcz41_1 : w32.cell? ⟨gb250, 1, none⟩ = some (.int .i64 0) := (blk_cell BK250.out 1).trans rfl
                  have hfz41_0 := blk_frozen BK250.out 0
                  have hfz41_1 := blk_frozen BK250.out 1
                  go_wp2
                  go_meet
                  case rel => exact ⟨_, (true), (by first | rfl | (simp; done) | (simp [*]; done)), H', ⟨by have := HJ14.out; first | omega | exact Nat.le_refl _⟩, ⟨by (with_reducible repeat (first | refine blk_drewN ?_ _ | refine blk_drew ?_ | refine blk_alloc ?_ _)); refine blk_far ?_ NB246_250.out _; (with_reducible repeat (first | refine blk_drewN ?_ _ | refine blk_drew ?_ | refine blk_alloc ?_ _)); refine blk_far ?_ NB246_250.out _; (with_reducible repeat (first | refine blk_drewN ?_ _ | refine blk_drew ?_ | refine blk_alloc ?_ _)); exact BK246.out⟩, ⟨by (with_reducible repeat (first | refine blk_drewN ?_ _ | refine blk_drew ?_ | refine blk_alloc ?_ _)); refine blk_put (cs := #[.int .i64 t247, .int .i64 0]) ?_ 1 _ rfl; (with_reducible repeat (first | refine blk_drewN ?_ _ | refine blk_drew ?_ | refine blk_alloc ?_ _)); refine blk_put (cs := #[.int .i64 0, .int .i64 0]) ?_ 0 _ rfl; (with_reducible repeat (first | refine blk_drewN ?_ _ | refine blk_drew ?_ | refine blk_alloc ?_ _)); exact BK250.out⟩, ⟨by repeat (first | (with_reducible first | exact HB.out | apply below_alloc | apply pw_below_drewN | apply below_drew1 | refine below_set ?_ GE246.out | refine below_set ?_ GE250.out) | exact HB.out)⟩⟩
                · rw [if_neg c38] at H
                  have c38b0 : (!(t243 == t247) || (!(t244 == t248))) = false := by simpa using c38
                  clear c38
                  have H' := Aside0.mk H
                  clear H
                  have hnb42 := NB246_250.out
                  have hnc42 := NB250_246.out
                  have hcz43_0 : w32.cell? ⟨gb246, 0, none⟩ = some (.int .i64 t243) := (blk_cell BK246.out 0).trans rfl
                  have hcz43_1 : w32.cell? ⟨gb246, 1, none⟩ = some (.int .i64 t244) := (blk_cell BK246.out 1).trans rfl
                  have hfz43_0 := blk_frozen BK246.out 0
                  have hfz43_1 := blk_frozen BK246.out 1
                  have hcz44_0 : w32.cell? ⟨gb250, 0, none⟩ = some (.int .i64 0) := (blk_cell BK250.out 0).trans rfl
                  have hcz44_1 : w32.cell? ⟨gb250, 1, none⟩ = some (.int .i64 0) := (blk_cell BK250.out 1).trans rfl
                  have hfz44_0 := blk_frozen BK250.out 0
                  have hfz44_1 := blk_frozen BK250.out 1
                  go_wp2
                  go_meet
                  case rel => exact ⟨_, ((t245 != t249)), (by first | rfl | (simp; done) | (simp [*]; done)), H', ⟨by have := HJ14.out; first | omega | exact Nat.le_refl _⟩, ⟨by (with_reducible repeat (first | refine blk_drewN ?_ _ | refine blk_drew ?_ | refine blk_alloc ?_ _)); refine blk_far ?_ NB246_250.out _; (with_reducible repeat (first | refine blk_drewN ?_ _ | refine blk_drew ?_ | refine blk_alloc ?_ _)); refine blk_far ?_ NB246_250.out _; (with_reducible repeat (first | refine blk_drewN ?_ _ | refine blk_drew ?_ | refine blk_alloc ?_ _)); exact BK246.out⟩, ⟨by (with_reducible repeat (first | refine blk_drewN ?_ _ | refine blk_drew ?_ | refine blk_alloc ?_ _)); refine blk_put (cs := #[.int .i64 t247, .int .i64 0]) ?_ 1 _ rfl; (with_reducible repeat (first | refine blk_drewN ?_ _ | refine blk_drew ?_ | refine blk_alloc ?_ _)); refine blk_put (cs := #[.int .i64 0, .int .i64 0]) ?_ 0 _ rfl; (with_reducible repeat (first | refine blk_drewN ?_ _ | refine blk_drew ?_ | refine blk_alloc ?_ _)); exact BK250.out⟩, ⟨by repeat (first | (with_reducible first | exact HB.out | apply below_alloc | apply pw_below_drewN | apply below_drew1 | refine below_set ?_ GE246.out | refine below_set ?_ GE250.out) | exact HB.out)⟩⟩
              · rw [if_neg c37] at H
                have c37b0 : (t239 == t242) = false := beq_eq_false_iff_ne.mpr c37
                have c37b1 : (t239 != t242) = true := bne_iff_ne.mpr c37
                have H' := Aside0.mk H
                clear H
                go_wp2
                go_meet
                case rel => exact ⟨_, (true), (by first | rfl | (simp; done) | (simp [*]; done)), H', ⟨by have := HJ14.out; first | omega | exact Nat.le_refl _⟩, ⟨by (with_reducible repeat (first | refine blk_drewN ?_ _ | refine blk_drew ?_ | refine blk_alloc ?_ _)); refine blk_far ?_ NB246_250.out _; (with_reducible repeat (first | refine blk_drewN ?_ _ | refine blk_drew ?_ | refine blk_alloc ?_ _)); refine blk_far ?_ NB246_250.out _; (with_reducible repeat (first | refine blk_drewN ?_ _ | refine blk_drew ?_ | refine blk_alloc ?_ _)); exact BK246.out⟩, ⟨by (with_reducible repeat (first | refine blk_drewN ?_ _ | refine blk_drew ?_ | refine blk_alloc ?_ _)); refine blk_put (cs := #[.int .i64 t247, .int .i64 0]) ?_ 1 _ rfl; (with_reducible repeat (first | refine blk_drewN ?_ _ | refine blk_drew ?_ | refine blk_alloc ?_ _)); refine blk_put (cs := #[.int .i64 0, .int .i64 0]) ?_ 0 _ rfl; (with_reducible repeat (first | refine blk_drewN ?_ _ | refine blk_drew ?_ | refine blk_alloc ?_ _)); exact BK250.out⟩, ⟨by repeat (first | (with_reducible first | exact HB.out | apply below_alloc | apply pw_below_drewN | apply below_drew1 | refine below_set ?_ GE246.out | refine below_set ?_ GE250.out) | exact HB.out)⟩⟩
            · rw [if_neg c36] at H
              have c36b0 : (t238 == t241) = false := beq_eq_false_iff_ne.mpr c36
              have c36b1 : (t238 != t241) = true := bne_iff_ne.mpr c36
              have H' := Aside0.mk H
              clear H
              go_wp2
              go_meet
              case rel => exact ⟨_, (true), (by first | rfl | (simp; done) | (simp [*]; done)), H', ⟨by have := HJ14.out; first | omega | exact Nat.le_refl _⟩, ⟨by (with_reducible repeat (first | refine blk_drewN ?_ _ | refine blk_drew ?_ | refine blk_alloc ?_ _)); refine blk_far ?_ NB246_250.out _; (with_reducible repeat (first | refine blk_drewN ?_ _ | refine blk_drew ?_ | refine blk_alloc ?_ _)); refine blk_far ?_ NB246_250.out _; (with_reducible repeat (first | refine blk_drewN ?_ _ | refine blk_drew ?_ | refine blk_alloc ?_ _)); exact BK246.out⟩, ⟨by (with_reducible repeat (first | refine blk_drewN ?_ _ | refine blk_drew ?_ | refine blk_alloc ?_ _)); refine blk_put (cs := #[.int .i64 t247, .int .i64 0]) ?_ 1 _ rfl; (with_reducible repeat (first | refine blk_drewN ?_ _ | refine blk_drew ?_ | refine blk_alloc ?_ _)); refine blk_put (cs := #[.int .i64 0, .int .i64 0]) ?_ 0 _ rfl; (with_reducible repeat (first | refine blk_drewN ?_ _ | refine blk_drew ?_ | refine blk_alloc ?_ _)); exact BK250.out⟩, ⟨by repeat (first | (with_reducible first | exact HB.out | apply below_alloc | apply pw_below_drewN | apply below_drew1 | refine below_set ?_ GE246.out | refine below_set ?_ GE250.out) | exact HB.out)⟩⟩
          · rw [if_neg c35] at H
            have c35b0 : (t237 == t240) = false := beq_eq_false_iff_ne.mpr c35
            have c35b1 : (t237 != t240) = true := bne_iff_ne.mpr c35
            (first | rw [c35b0] | (simp only [i64_w, i32_w]; rw [c35b0]) | skip)
            have H' := Aside0.mk H
            clear H
            go_wp2
            go_meet
            case rel => exact ⟨_, (true), (by first | rfl | (simp; done) | (simp [*]; done)), H', ⟨by have := HJ14.out; first | omega | exact Nat.le_refl _⟩, ⟨by (with_reducible repeat (first | refine blk_drewN ?_ _ | refine blk_drew ?_ | refine blk_alloc ?_ _)); refine blk_far ?_ NB246_250.out _; (with_reducible repeat (first | refine blk_drewN ?_ _ | refine blk_drew ?_ | refine blk_alloc ?_ _)); refine blk_far ?_ NB246_250.out _; (with_reducible repeat (first | refine blk_drewN ?_ _ | refine blk_drew ?_ | refine blk_alloc ?_ _)); exact BK246.out⟩, ⟨by (with_reducible repeat (first | refine blk_drewN ?_ _ | refine blk_drew ?_ | refine blk_alloc ?_ _)); refine blk_put (cs := #[.int .i64 t247, .int .i64 0]) ?_ 1 _ rfl; (with_reducible repeat (first | refine blk_drewN ?_ _ | refine blk_drew ?_ | refine blk_alloc ?_ _)); refine blk_put (cs := #[.int .i64 0, .int .i64 0]) ?_ 0 _ rfl; (with_reducible repeat (first | refine blk_drewN ?_ _ | refine blk_drew ?_ | refine blk_alloc ?_ _)); exact BK250.out⟩, ⟨by repeat (first | (with_reducible first | exact HB.out | apply below_alloc | apply pw_below_drewN | apply below_drew1 | refine below_set ?_ GE246.out | refine below_set ?_ GE250.out) | exact HB.out)⟩⟩
        case rest =>
          clear HC25
          try clear c1
          try clear c2
          try clear p2
          try clear c3
          try clear c4
          try clear p6
          try clear c7
          try clear c17
          try clear c18
          try clear c18b0
          try clear c18b1
          try clear c19
          try clear c19b0
          try clear c19b1
          try clear c20
          try clear c27
          try clear c28
          try clear c29
          try clear c30
          try clear c33
          try clear c35
          try clear c35b0
          try clear c35b1
          try clear c36
          try clear c36b0
          try clear c36b1
          try clear c37
          try clear c37b0
          try clear c37b1
          try clear c38
          try clear c38b0
          try clear c39
          try clear c42
          try clear hcz30_0
          try clear hcz30_1
          try clear hcz34_0
          try clear hcz34_1
          try clear hcz40_0
          try clear hcz40_1
          try clear hcz41_0
          try clear hcz41_1
          try clear hcz43_0
          try clear hcz43_1
          try clear hcz44_0
          try clear hcz44_1
          try clear hfz30_0
          try clear hfz30_1
          try clear hfz34_0
          try clear hfz34_1
          try clear hfz40_0
          try clear hfz40_1
          try clear hfz41_0
          try clear hfz41_1
          try clear hfz43_0
          try clear hfz43_1
          try clear hfz44_0
          try clear hfz44_1
          try clear p2
          try clear p6
          obtain ⟨kq, x144_24, rfl, HA, HJ24, BK246, BK250, HB⟩ := hcut
          cases kq with
          | zero => exact absurd HA.out (by simp [thermionlaw07_GaugeSamples.j1])
          | succ kj24 =>
            have H := HA.out
            clear HA
            simp only [thermionlaw07_GaugeSamples.j1] at H
            by_cases c45 : x144_24 = true
            · subst c45
              have H1 : (some false) = some r := by rw [if_pos rfl] at H; exact H
              clear H
              have H := H1
              clear H1
              obtain rfl := Option.some.inj H
              go_wp2
              go_ret
              exact ⟨by first | rfl | (simp [errW_none, errW_some] <;> rfl) | (simp [*, errW_none, errW_some] <;> rfl), by repeat (first | (with_reducible first | exact HB.out | apply below_alloc | apply pw_below_drewN | apply below_drew1 | refine below_set ?_ GE246.out | refine below_set ?_ GE250.out) | exact HB.out)⟩
            · replace c45 := Bool.eq_false_iff.mpr c45
              subst c45
              have H1 : ((thermionkit_Mod.f a4 30).bind fun t251 => ((thermionkit_Mod.f a5 30).bind fun t252 => ((gauge_Plan.f (wrap64 (1 + t225)) t229 (wrap64 ((wrap64 (t229 + 1)) + t230)) (wrap64 (1 + t251)) (wrap64 (1 + t252))).bind fun bt253 => ((thermionkit_Mod.f a4 30).bind fun t256 => ((thermionkit_Mod.f a5 30).bind fun t257 => ((thermionref07_Plan.f kj24 (wrap64 (1 + t225)) t229 (wrap64 ((wrap64 (t229 + 1)) + t230)) (wrap64 (1 + t256)) (wrap64 (1 + t257))).bind fun bt258 => (if (bt253.1 == bt258.1 && (bt253.2.1 == bt258.2.1)) = true then (if bt253.2.2 = bt258.2.2 then ((thermionlaw07_awake.f kj24).bind fun t261 => (some t261)) else (some false)) else (some false)))))))) = some r := by rw [if_neg (show ¬ (false = true) by decide)] at H; exact H
              clear H
              have H := H1
              clear H1
              replace H := Option.bind_eq_some_iff.mp H
              obtain ⟨t251, A460, H⟩ := H
              replace H : ((thermionkit_Mod.f a5 30).bind fun t252 => ((gauge_Plan.f (wrap64 (1 + t225)) t229 (wrap64 ((wrap64 (t229 + 1)) + t230)) (wrap64 (1 + t251)) (wrap64 (1 + t252))).bind fun bt253 => ((thermionkit_Mod.f a4 30).bind fun t256 => ((thermionkit_Mod.f a5 30).bind fun t257 => ((thermionref07_Plan.f kj24 (wrap64 (1 + t225)) t229 (wrap64 ((wrap64 (t229 + 1)) + t230)) (wrap64 (1 + t256)) (wrap64 (1 + t257))).bind fun bt258 => (if (bt253.1 == bt258.1 && (bt253.2.1 == bt258.2.1)) = true then (if bt253.2.2 = bt258.2.2 then ((thermionlaw07_awake.f kj24).bind fun t261 => (some t261)) else (some false)) else (some false))))))) = some r := H
              have A46 := Aside0.mk A460
              clear A460
              replace H := Option.bind_eq_some_iff.mp H
              obtain ⟨t252, A470, H⟩ := H
              replace H : ((gauge_Plan.f (wrap64 (1 + t225)) t229 (wrap64 ((wrap64 (t229 + 1)) + t230)) (wrap64 (1 + t251)) (wrap64 (1 + t252))).bind fun bt253 => ((thermionkit_Mod.f a4 30).bind fun t256 => ((thermionkit_Mod.f a5 30).bind fun t257 => ((thermionref07_Plan.f kj24 (wrap64 (1 + t225)) t229 (wrap64 ((wrap64 (t229 + 1)) + t230)) (wrap64 (1 + t256)) (wrap64 (1 + t257))).bind fun bt258 => (if (bt253.1 == bt258.1 && (bt253.2.1 == bt258.2.1)) = true then (if bt253.2.2 = bt258.2.2 then ((thermionlaw07_awake.f kj24).bind fun t261 => (some t261)) else (some false)) else (some false)))))) = some r := H
              have A47 := Aside0.mk A470
              clear A470
              replace H := Option.bind_eq_some_iff.mp H
              obtain ⟨⟨t253, t254, t255⟩, A480, H⟩ := H
              replace H : ((thermionkit_Mod.f a4 30).bind fun t256 => ((thermionkit_Mod.f a5 30).bind fun t257 => ((thermionref07_Plan.f kj24 (wrap64 (1 + t225)) t229 (wrap64 ((wrap64 (t229 + 1)) + t230)) (wrap64 (1 + t256)) (wrap64 (1 + t257))).bind fun bt258 => (if (t253 == bt258.1 && (t254 == bt258.2.1)) = true then (if t255 = bt258.2.2 then ((thermionlaw07_awake.f kj24).bind fun t261 => (some t261)) else (some false)) else (some false))))) = some r := H
              have A48 := Aside0.mk A480
              clear A480
              replace H := Option.bind_eq_some_iff.mp H
              obtain ⟨t256, A490, H⟩ := H
              replace H : ((thermionkit_Mod.f a5 30).bind fun t257 => ((thermionref07_Plan.f kj24 (wrap64 (1 + t225)) t229 (wrap64 ((wrap64 (t229 + 1)) + t230)) (wrap64 (1 + t256)) (wrap64 (1 + t257))).bind fun bt258 => (if (t253 == bt258.1 && (t254 == bt258.2.1)) = true then (if t255 = bt258.2.2 then ((thermionlaw07_awake.f kj24).bind fun t261 => (some t261)) else (some false)) else (some false)))) = some r := H
              have A49 := Aside0.mk A490
              clear A490
              replace H := Option.bind_eq_some_iff.mp H
              obtain ⟨t257, A500, H⟩ := H
              replace H : ((thermionref07_Plan.f kj24 (wrap64 (1 + t225)) t229 (wrap64 ((wrap64 (t229 + 1)) + t230)) (wrap64 (1 + t256)) (wrap64 (1 + t257))).bind fun bt258 => (if (t253 == bt258.1 && (t254 == bt258.2.1)) = true then (if t255 = bt258.2.2 then ((thermionlaw07_awake.f kj24).bind fun t261 => (some t261)) else (some false)) else (some false))) = some r := H
              have A50 := Aside0.mk A500
              clear A500
              replace H := Option.bind_eq_some_iff.mp H
              obtain ⟨⟨t258, t259, t260⟩, A510, H⟩ := H
              replace H : (if (t253 == t258 && (t254 == t259)) = true then (if t255 = t260 then ((thermionlaw07_awake.f kj24).bind fun t261 => (some t261)) else (some false)) else (some false)) = some r := H
              have A51 := Aside0.mk A510
              clear A510
              by_cases c52 : (t253 == t258 && (t254 == t259)) = true
              · rw [if_pos c52] at H
                have c52b0 : (t253 == t258 && (t254 == t259)) = true := c52
                (try (have c52b1 : decide (t253 = t258 && (t254 == t259)) = true := by simpa using c52))
                (try (have c52b2 : (t253 == t258 && (t254 == t259)) = true := by simpa using c52))
                clear c52
                by_cases c53 : t255 = t260
                · rw [if_pos c53] at H
                  have c53b0 : (t255 == t260) = true := beq_iff_eq.mpr c53
                  have c53b1 : (t255 != t260) = false := bne_eq_false_iff_eq.mpr c53
                  clear c53
                  replace H := Option.bind_eq_some_iff.mp H
                  obtain ⟨t261, A540, H⟩ := H
                  replace H : (some t261) = some r := H
                  have A54 := Aside0.mk A540
                  clear A540
                  obtain rfl := Option.some.inj H
                  go_wp2_with (first | ((with_reducible refine gate_callee (f := 17) rfl ?_); refine goesL_ (some 150) rfl rfl Try.func17 (by kernel_rfl) rfl #[.int .i64 a4, .int .i64 30] rfl (by (try simp only [List.map_toArray, List.map_cons, List.map_nil]); first | done | rfl | (simp only [List.length_drop, List.length_take]; rfl)) ?_; (with_reducible refine (thermionkit_Mod.calls a4 30 t251 _ A46.out).mono ?_); rintro e w' ⟨rfl, ⟨nd, rfl⟩⟩; refine ⟨_, rfl, ?_⟩; (try (rw [drewN_self wc]; generalize hq_ : World.drewN wc _ = wc; have n0_ : Aside0 (wc.heap[gb246]? = some (.cells #[.int .i64 t243, .int .i64 t244] 50 (0, 0))) := ⟨by rw [← hq_]; exact (by (with_reducible repeat (first | refine blk_drewN ?_ _ | refine blk_drew ?_ | refine blk_alloc ?_ _)); exact BK246.out)⟩; have n1_ : Aside0 (wc.heap[gb250]? = some (.cells #[.int .i64 t247, .int .i64 t248] 50 (0, 0))) := ⟨by rw [← hq_]; exact (by (with_reducible repeat (first | refine blk_drewN ?_ _ | refine blk_drew ?_ | refine blk_alloc ?_ _)); exact BK250.out)⟩; have n2_ : Aside0 (Below w.heap.size w wc) := ⟨by rw [← hq_]; exact (by repeat (first | (with_reducible first | exact HB.out | apply below_alloc | apply pw_below_drewN | apply below_drew1 | refine below_set ?_ GE246.out | refine below_set ?_ GE250.out) | exact HB.out))⟩; clear BK246 BK250 HB hq_; have BK246 := n0_; have BK250 := n1_; have HB := n2_; clear n0_ n1_ n2_))) | ((with_reducible refine gate_callee (f := 17) rfl ?_); refine goesL_ (some 153) rfl rfl Try.func17 (by kernel_rfl) rfl #[.int .i64 a5, .int .i64 30] rfl (by (try simp only [List.map_toArray, List.map_cons, List.map_nil]); first | done | rfl | (simp only [List.length_drop, List.length_take]; rfl)) ?_; (with_reducible refine (thermionkit_Mod.calls a5 30 t252 _ A47.out).mono ?_); rintro e w' ⟨rfl, ⟨nd, rfl⟩⟩; refine ⟨_, rfl, ?_⟩; (try (rw [drewN_self wc]; generalize hq_ : World.drewN wc _ = wc; have n0_ : Aside0 (wc.heap[gb246]? = some (.cells #[.int .i64 t243, .int .i64 t244] 50 (0, 0))) := ⟨by rw [← hq_]; exact (by (with_reducible repeat (first | refine blk_drewN ?_ _ | refine blk_drew ?_ | refine blk_alloc ?_ _)); exact BK246.out)⟩; have n1_ : Aside0 (wc.heap[gb250]? = some (.cells #[.int .i64 t247, .int .i64 t248] 50 (0, 0))) := ⟨by rw [← hq_]; exact (by (with_reducible repeat (first | refine blk_drewN ?_ _ | refine blk_drew ?_ | refine blk_alloc ?_ _)); exact BK250.out)⟩; have n2_ : Aside0 (Below w.heap.size w wc) := ⟨by rw [← hq_]; exact (by repeat (first | (with_reducible first | exact HB.out | apply below_alloc | apply pw_below_drewN | apply below_drew1 | refine below_set ?_ GE246.out | refine below_set ?_ GE250.out) | exact HB.out))⟩; clear BK246 BK250 HB hq_; have BK246 := n0_; have BK250 := n1_; have HB := n2_; clear n0_ n1_ n2_))) | ((with_reducible refine gate_callee (f := 29) rfl ?_); refine goesL_ (some 155) rfl rfl Try.func29 (by kernel_rfl) rfl #[.int .i64 (wrap64 (1 + t225)), .int .i64 t229, .int .i64 (wrap64 ((wrap64 (t229 + 1)) + t230)), .int .i64 (wrap64 (1 + t251)), .int .i64 (wrap64 (1 + t252))] rfl (by (try simp only [List.map_toArray, List.map_cons, List.map_nil]); first | done | rfl | (simp only [List.length_drop, List.length_take]; rfl)) ?_; (with_reducible refine (gauge_Plan.calls (wrap64 (1 + t225)) t229 (wrap64 ((wrap64 (t229 + 1)) + t230)) (wrap64 (1 + t251)) (wrap64 (1 + t252)) t253 t254 t255 _ A48.out).mono ?_); rintro e w55 ⟨rfl, hb⟩; refine ⟨_, rfl, ?_⟩; have n0_ := Aside0.mk (blk_below (g := gb246) (o := .cells #[.int .i64 t243, .int .i64 t244] 50 (0, 0)) (by (with_reducible repeat (first | refine blk_drewN ?_ _ | refine blk_drew ?_ | refine blk_alloc ?_ _)); exact BK246.out) hb); have n1_ := Aside0.mk (blk_below (g := gb250) (o := .cells #[.int .i64 t247, .int .i64 t248] 50 (0, 0)) (by (with_reducible repeat (first | refine blk_drewN ?_ _ | refine blk_drew ?_ | refine blk_alloc ?_ _)); exact BK250.out) hb); have n2_ := Aside0.mk (below_step (by repeat (first | (with_reducible first | exact HB.out | apply below_alloc | apply pw_below_drewN | apply below_drew1 | refine below_set ?_ GE246.out | refine below_set ?_ GE250.out) | exact HB.out)) hb); clear BK246; clear BK250; clear HB; have BK246 := n0_; have BK250 := n1_; have HB := n2_; clear n0_ n1_ n2_; (try clear hb); (try clear hb2); (try clear hk); (try clear hi); have hnb56 := NB246_250.out; have hnc56 := NB250_246.out; have hcz57_0 : w55.cell? ⟨gb246, 0, none⟩ = some (.int .i64 t243) := (blk_cell BK246.out 0).trans rfl; have hcz57_1 : w55.cell? ⟨gb246, 1, none⟩ = some (.int .i64 t244) := (blk_cell BK246.out 1).trans rfl; have hfz57_0 := blk_frozen BK246.out 0; have hfz57_1 := blk_frozen BK246.out 1) | ((with_reducible refine gate_callee (f := 17) rfl ?_); refine goesL_ (some 163) rfl rfl Try.func17 (by kernel_rfl) rfl #[.int .i64 a4, .int .i64 30] rfl (by (try simp only [List.map_toArray, List.map_cons, List.map_nil]); first | done | rfl | (simp only [List.length_drop, List.length_take]; rfl)) ?_; (with_reducible refine (thermionkit_Mod.calls a4 30 t256 _ A49.out).mono ?_); rintro e w' ⟨rfl, ⟨nd, rfl⟩⟩; refine ⟨_, rfl, ?_⟩) | ((with_reducible refine gate_callee (f := 17) rfl ?_); refine goesL_ (some 166) rfl rfl Try.func17 (by kernel_rfl) rfl #[.int .i64 a5, .int .i64 30] rfl (by (try simp only [List.map_toArray, List.map_cons, List.map_nil]); first | done | rfl | (simp only [List.length_drop, List.length_take]; rfl)) ?_; (with_reducible refine (thermionkit_Mod.calls a5 30 t257 _ A50.out).mono ?_); rintro e w' ⟨rfl, ⟨nd, rfl⟩⟩; refine ⟨_, rfl, ?_⟩) | ((with_reducible refine gate_callee (f := 30) rfl ?_); refine goesL_ (some 168) rfl rfl Try.func30 (by kernel_rfl) rfl #[.int .i64 (wrap64 (1 + t225)), .int .i64 t229, .int .i64 (wrap64 ((wrap64 (t229 + 1)) + t230)), .int .i64 (wrap64 (1 + t256)), .int .i64 (wrap64 (1 + t257))] rfl (by (try simp only [List.map_toArray, List.map_cons, List.map_nil]); first | done | rfl | (simp only [List.length_drop, List.length_take]; rfl)) ?_; (with_reducible refine (thermionref07_Plan.calls kj24 (wrap64 (1 + t225)) t229 (wrap64 ((wrap64 (t229 + 1)) + t230)) (wrap64 (1 + t256)) (wrap64 (1 + t257)) t258 t259 t260 _ A51.out).mono ?_); rintro e w58 ⟨rfl, hb⟩; refine ⟨_, rfl, ?_⟩; have n0_ := Aside0.mk (blk_below (g := gb246) (o := .cells #[.int .i64 t253, .int .i64 t254] 50 (0, 0)) (by (with_reducible repeat (first | refine blk_drewN ?_ _ | refine blk_drew ?_ | refine blk_alloc ?_ _)); refine blk_put (cs := #[.int .i64 t253, .int .i64 t244]) ?_ 1 _ rfl; (with_reducible repeat (first | refine blk_drewN ?_ _ | refine blk_drew ?_ | refine blk_alloc ?_ _)); refine blk_put (cs := #[.int .i64 t243, .int .i64 t244]) ?_ 0 _ rfl; (with_reducible repeat (first | refine blk_drewN ?_ _ | refine blk_drew ?_ | refine blk_alloc ?_ _)); exact BK246.out) hb); have n1_ := Aside0.mk (blk_below (g := gb250) (o := .cells #[.int .i64 t247, .int .i64 t248] 50 (0, 0)) (by (with_reducible repeat (first | refine blk_drewN ?_ _ | refine blk_drew ?_ | refine blk_alloc ?_ _)); refine blk_far ?_ NB250_246.out _; (with_reducible repeat (first | refine blk_drewN ?_ _ | refine blk_drew ?_ | refine blk_alloc ?_ _)); refine blk_far ?_ NB250_246.out _; (with_reducible repeat (first | refine blk_drewN ?_ _ | refine blk_drew ?_ | refine blk_alloc ?_ _)); exact BK250.out) hb); have n2_ := Aside0.mk (below_step (by repeat (first | (with_reducible first | exact HB.out | apply below_alloc | apply pw_below_drewN | apply below_drew1 | refine below_set ?_ GE246.out | refine below_set ?_ GE250.out) | exact HB.out)) hb); clear BK246; clear BK250; clear HB; have BK246 := n0_; have BK250 := n1_; have HB := n2_; clear n0_ n1_ n2_; (try clear hb); (try clear hb2); (try clear hk); (try clear hi); have hcz59_0 : w58.cell? ⟨gb250, 0, none⟩ = some (.int .i64 t247) := (blk_cell BK250.out 0).trans rfl; have hcz59_1 : w58.cell? ⟨gb250, 1, none⟩ = some (.int .i64 t248) := (blk_cell BK250.out 1).trans rfl; have hfz59_0 := blk_frozen BK250.out 0; have hfz59_1 := blk_frozen BK250.out 1; have hcz60_0 : w58.cell? ⟨gb246, 0, none⟩ = some (.int .i64 t253) := (blk_cell BK246.out 0).trans rfl; have hcz60_1 : w58.cell? ⟨gb246, 1, none⟩ = some (.int .i64 t254) := (blk_cell BK246.out 1).trans rfl; have hfz60_0 := blk_frozen BK246.out 0; have hfz60_1 := blk_frozen BK246.out 1) | (go_at_call 13; (with_reducible refine (thermionlaw07_awake.calls kj24  t261 _ A54.out).mono ?_); rintro e w61 ⟨rfl, hb⟩; have n0_ := Aside0.mk (blk_below (g := gb246) (o := .cells #[.int .i64 t253, .int .i64 t254] 50 (0, 0)) (by (with_reducible repeat (first | refine blk_drewN ?_ _ | refine blk_drew ?_ | refine blk_alloc ?_ _)); refine blk_far ?_ NB246_250.out _; (with_reducible repeat (first | refine blk_drewN ?_ _ | refine blk_drew ?_ | refine blk_alloc ?_ _)); refine blk_far ?_ NB246_250.out _; (with_reducible repeat (first | refine blk_drewN ?_ _ | refine blk_drew ?_ | refine blk_alloc ?_ _)); exact BK246.out) hb); have n1_ := Aside0.mk (blk_below (g := gb250) (o := .cells #[.int .i64 t258, .int .i64 t259] 50 (0, 0)) (by (with_reducible repeat (first | refine blk_drewN ?_ _ | refine blk_drew ?_ | refine blk_alloc ?_ _)); refine blk_put (cs := #[.int .i64 t258, .int .i64 t248]) ?_ 1 _ rfl; (with_reducible repeat (first | refine blk_drewN ?_ _ | refine blk_drew ?_ | refine blk_alloc ?_ _)); refine blk_put (cs := #[.int .i64 t247, .int .i64 t248]) ?_ 0 _ rfl; (with_reducible repeat (first | refine blk_drewN ?_ _ | refine blk_drew ?_ | refine blk_alloc ?_ _)); exact BK250.out) hb); have n2_ := Aside0.mk (below_step (by repeat (first | (with_reducible first | exact HB.out | apply below_alloc | apply pw_below_drewN | apply below_drew1 | refine below_set ?_ GE246.out | refine below_set ?_ GE250.out) | exact HB.out)) hb); clear BK246; clear BK250; clear HB; have BK246 := n0_; have BK250 := n1_; have HB := n2_; clear n0_ n1_ n2_; (try clear hb); (try clear hb2); (try clear hk); (try clear hi)))
                  go_ret
                  exact ⟨by first | rfl | (simp [errW_none, errW_some] <;> rfl) | (simp [*, errW_none, errW_some] <;> rfl), by repeat (first | (with_reducible first | exact HB.out | apply below_alloc | apply pw_below_drewN | apply below_drew1 | refine below_set ?_ GE246.out | refine below_set ?_ GE250.out) | exact HB.out)⟩
                · rw [if_neg c53] at H
                  have c53b0 : (t255 == t260) = false := beq_eq_false_iff_ne.mpr c53
                  have c53b1 : (t255 != t260) = true := bne_iff_ne.mpr c53
                  obtain rfl := Option.some.inj H
                  go_wp2_with (first | ((with_reducible refine gate_callee (f := 17) rfl ?_); refine goesL_ (some 150) rfl rfl Try.func17 (by kernel_rfl) rfl #[.int .i64 a4, .int .i64 30] rfl (by (try simp only [List.map_toArray, List.map_cons, List.map_nil]); first | done | rfl | (simp only [List.length_drop, List.length_take]; rfl)) ?_; (with_reducible refine (thermionkit_Mod.calls a4 30 t251 _ A46.out).mono ?_); rintro e w' ⟨rfl, ⟨nd, rfl⟩⟩; refine ⟨_, rfl, ?_⟩; (try (rw [drewN_self wc]; generalize hq_ : World.drewN wc _ = wc; have n0_ : Aside0 (wc.heap[gb246]? = some (.cells #[.int .i64 t243, .int .i64 t244] 50 (0, 0))) := ⟨by rw [← hq_]; exact (by (with_reducible repeat (first | refine blk_drewN ?_ _ | refine blk_drew ?_ | refine blk_alloc ?_ _)); exact BK246.out)⟩; have n1_ : Aside0 (wc.heap[gb250]? = some (.cells #[.int .i64 t247, .int .i64 t248] 50 (0, 0))) := ⟨by rw [← hq_]; exact (by (with_reducible repeat (first | refine blk_drewN ?_ _ | refine blk_drew ?_ | refine blk_alloc ?_ _)); exact BK250.out)⟩; have n2_ : Aside0 (Below w.heap.size w wc) := ⟨by rw [← hq_]; exact (by repeat (first | (with_reducible first | exact HB.out | apply below_alloc | apply pw_below_drewN | apply below_drew1 | refine below_set ?_ GE246.out | refine below_set ?_ GE250.out) | exact HB.out))⟩; clear BK246 BK250 HB hq_; have BK246 := n0_; have BK250 := n1_; have HB := n2_; clear n0_ n1_ n2_))) | ((with_reducible refine gate_callee (f := 17) rfl ?_); refine goesL_ (some 153) rfl rfl Try.func17 (by kernel_rfl) rfl #[.int .i64 a5, .int .i64 30] rfl (by (try simp only [List.map_toArray, List.map_cons, List.map_nil]); first | done | rfl | (simp only [List.length_drop, List.length_take]; rfl)) ?_; (with_reducible refine (thermionkit_Mod.calls a5 30 t252 _ A47.out).mono ?_); rintro e w' ⟨rfl, ⟨nd, rfl⟩⟩; refine ⟨_, rfl, ?_⟩; (try (rw [drewN_self wc]; generalize hq_ : World.drewN wc _ = wc; have n0_ : Aside0 (wc.heap[gb246]? = some (.cells #[.int .i64 t243, .int .i64 t244] 50 (0, 0))) := ⟨by rw [← hq_]; exact (by (with_reducible repeat (first | refine blk_drewN ?_ _ | refine blk_drew ?_ | refine blk_alloc ?_ _)); exact BK246.out)⟩; have n1_ : Aside0 (wc.heap[gb250]? = some (.cells #[.int .i64 t247, .int .i64 t248] 50 (0, 0))) := ⟨by rw [← hq_]; exact (by (with_reducible repeat (first | refine blk_drewN ?_ _ | refine blk_drew ?_ | refine blk_alloc ?_ _)); exact BK250.out)⟩; have n2_ : Aside0 (Below w.heap.size w wc) := ⟨by rw [← hq_]; exact (by repeat (first | (with_reducible first | exact HB.out | apply below_alloc | apply pw_below_drewN | apply below_drew1 | refine below_set ?_ GE246.out | refine below_set ?_ GE250.out) | exact HB.out))⟩; clear BK246 BK250 HB hq_; have BK246 := n0_; have BK250 := n1_; have HB := n2_; clear n0_ n1_ n2_))) | ((with_reducible refine gate_callee (f := 29) rfl ?_); refine goesL_ (some 155) rfl rfl Try.func29 (by kernel_rfl) rfl #[.int .i64 (wrap64 (1 + t225)), .int .i64 t229, .int .i64 (wrap64 ((wrap64 (t229 + 1)) + t230)), .int .i64 (wrap64 (1 + t251)), .int .i64 (wrap64 (1 + t252))] rfl (by (try simp only [List.map_toArray, List.map_cons, List.map_nil]); first | done | rfl | (simp only [List.length_drop, List.length_take]; rfl)) ?_; (with_reducible refine (gauge_Plan.calls (wrap64 (1 + t225)) t229 (wrap64 ((wrap64 (t229 + 1)) + t230)) (wrap64 (1 + t251)) (wrap64 (1 + t252)) t253 t254 t255 _ A48.out).mono ?_); rintro e w62 ⟨rfl, hb⟩; refine ⟨_, rfl, ?_⟩; have n0_ := Aside0.mk (blk_below (g := gb246) (o := .cells #[.int .i64 t243, .int .i64 t244] 50 (0, 0)) (by (with_reducible repeat (first | refine blk_drewN ?_ _ | refine blk_drew ?_ | refine blk_alloc ?_ _)); exact BK246.out) hb); have n1_ := Aside0.mk (blk_below (g := gb250) (o := .cells #[.int .i64 t247, .int .i64 t248] 50 (0, 0)) (by (with_reducible repeat (first | refine blk_drewN ?_ _ | refine blk_drew ?_ | refine blk_alloc ?_ _)); exact BK250.out) hb); have n2_ := Aside0.mk (below_step (by repeat (first | (with_reducible first | exact HB.out | apply below_alloc | apply pw_below_drewN | apply below_drew1 | refine below_set ?_ GE246.out | refine below_set ?_ GE250.out) | exact HB.out)) hb); clear BK246; clear BK250; clear HB; have BK246 := n0_; have BK250 := n1_; have HB := n2_; clear n0_ n1_ n2_; (try clear hb); (try clear hb2); (try clear hk); (try clear hi); have hnb63 := NB246_250.out; have hnc63 := NB250_246.out; have hcz64_0 : w62.cell? ⟨gb246, 0, none⟩ = some (.int .i64 t243) := (blk_cell BK246.out 0).trans rfl; have hcz64_1 : w62.cell? ⟨gb246, 1, none⟩ = some (.int .i64 t244) := (blk_cell BK246.out 1).trans rfl; have hfz64_0 := blk_frozen BK246.out 0; have hfz64_1 := blk_frozen BK246.out 1) | ((with_reducible refine gate_callee (f := 17) rfl ?_); refine goesL_ (some 163) rfl rfl Try.func17 (by kernel_rfl) rfl #[.int .i64 a4, .int .i64 30] rfl (by (try simp only [List.map_toArray, List.map_cons, List.map_nil]); first | done | rfl | (simp only [List.length_drop, List.length_take]; rfl)) ?_; (with_reducible refine (thermionkit_Mod.calls a4 30 t256 _ A49.out).mono ?_); rintro e w' ⟨rfl, ⟨nd, rfl⟩⟩; refine ⟨_, rfl, ?_⟩) | ((with_reducible refine gate_callee (f := 17) rfl ?_); refine goesL_ (some 166) rfl rfl Try.func17 (by kernel_rfl) rfl #[.int .i64 a5, .int .i64 30] rfl (by (try simp only [List.map_toArray, List.map_cons, List.map_nil]); first | done | rfl | (simp only [List.length_drop, List.length_take]; rfl)) ?_; (with_reducible refine (thermionkit_Mod.calls a5 30 t257 _ A50.out).mono ?_); rintro e w' ⟨rfl, ⟨nd, rfl⟩⟩; refine ⟨_, rfl, ?_⟩) | ((with_reducible refine gate_callee (f := 30) rfl ?_); refine goesL_ (some 168) rfl rfl Try.func30 (by kernel_rfl) rfl #[.int .i64 (wrap64 (1 + t225)), .int .i64 t229, .int .i64 (wrap64 ((wrap64 (t229 + 1)) + t230)), .int .i64 (wrap64 (1 + t256)), .int .i64 (wrap64 (1 + t257))] rfl (by (try simp only [List.map_toArray, List.map_cons, List.map_nil]); first | done | rfl | (simp only [List.length_drop, List.length_take]; rfl)) ?_; (with_reducible refine (thermionref07_Plan.calls kj24 (wrap64 (1 + t225)) t229 (wrap64 ((wrap64 (t229 + 1)) + t230)) (wrap64 (1 + t256)) (wrap64 (1 + t257)) t258 t259 t260 _ A51.out).mono ?_); rintro e w65 ⟨rfl, hb⟩; refine ⟨_, rfl, ?_⟩; have n0_ := Aside0.mk (blk_below (g := gb246) (o := .cells #[.int .i64 t253, .int .i64 t254] 50 (0, 0)) (by (with_reducible repeat (first | refine blk_drewN ?_ _ | refine blk_drew ?_ | refine blk_alloc ?_ _)); refine blk_put (cs := #[.int .i64 t253, .int .i64 t244]) ?_ 1 _ rfl; (with_reducible repeat (first | refine blk_drewN ?_ _ | refine blk_drew ?_ | refine blk_alloc ?_ _)); refine blk_put (cs := #[.int .i64 t243, .int .i64 t244]) ?_ 0 _ rfl; (with_reducible repeat (first | refine blk_drewN ?_ _ | refine blk_drew ?_ | refine blk_alloc ?_ _)); exact BK246.out) hb); have n1_ := Aside0.mk (blk_below (g := gb250) (o := .cells #[.int .i64 t247, .int .i64 t248] 50 (0, 0)) (by (with_reducible repeat (first | refine blk_drewN ?_ _ | refine blk_drew ?_ | refine blk_alloc ?_ _)); refine blk_far ?_ NB250_246.out _; (with_reducible repeat (first | refine blk_drewN ?_ _ | refine blk_drew ?_ | refine blk_alloc ?_ _)); refine blk_far ?_ NB250_246.out _; (with_reducible repeat (first | refine blk_drewN ?_ _ | refine blk_drew ?_ | refine blk_alloc ?_ _)); exact BK250.out) hb); have n2_ := Aside0.mk (below_step (by repeat (first | (with_reducible first | exact HB.out | apply below_alloc | apply pw_below_drewN | apply below_drew1 | refine below_set ?_ GE246.out | refine below_set ?_ GE250.out) | exact HB.out)) hb); clear BK246; clear BK250; clear HB; have BK246 := n0_; have BK250 := n1_; have HB := n2_; clear n0_ n1_ n2_; (try clear hb); (try clear hb2); (try clear hk); (try clear hi); have hcz66_0 : w65.cell? ⟨gb250, 0, none⟩ = some (.int .i64 t247) := (blk_cell BK250.out 0).trans rfl; have hcz66_1 : w65.cell? ⟨gb250, 1, none⟩ = some (.int .i64 t248) := (blk_cell BK250.out 1).trans rfl; have hfz66_0 := blk_frozen BK250.out 0; have hfz66_1 := blk_frozen BK250.out 1; have hcz67_0 : w65.cell? ⟨gb246, 0, none⟩ = some (.int .i64 t253) := (blk_cell BK246.out 0).trans rfl; have hcz67_1 : w65.cell? ⟨gb246, 1, none⟩ = some (.int .i64 t254) := (blk_cell BK246.out 1).trans rfl; have hfz67_0 := blk_frozen BK246.out 0; have hfz67_1 := blk_frozen BK246.out 1))
                  go_ret
                  exact ⟨by first | rfl | (simp [errW_none, errW_some] <;> rfl) | (simp [*, errW_none, errW_some] <;> rfl), by repeat (first | (with_reducible first | exact HB.out | apply below_alloc | apply pw_below_drewN | apply below_drew1 | refine below_set ?_ GE246.out | refine below_set ?_ GE250.out) | exact HB.out)⟩
              · rw [if_neg c52] at H
                have c52b0 : (t253 == t258 && (t254 == t259)) = false := by simpa using c52
                (try (have c52b1 : decide (t253 = t258 && (t254 == t259)) = false := by simpa using c52))
                (try (have c52b2 : (t253 == t258 && (t254 == t259)) = false := by simpa using c52))
                (try (have c52b3 : ¬ (t253 = t258 && (t254 == t259)) := by simpa using c52))
                clear c52
                obtain rfl := Option.some.inj H
                go_wp2_with (first | ((with_reducible refine gate_callee (f := 17) rfl ?_); refine goesL_ (some 150) rfl rfl Try.func17 (by kernel_rfl) rfl #[.int .i64 a4, .int .i64 30] rfl (by (try simp only [List.map_toArray, List.map_cons, List.map_nil]); first | done | rfl | (simp only [List.length_drop, List.length_take]; rfl)) ?_; (with_reducible refine (thermionkit_Mod.calls a4 30 t251 _ A46.out).mono ?_); rintro e w' ⟨rfl, ⟨nd, rfl⟩⟩; refine ⟨_, rfl, ?_⟩; (try (rw [drewN_self wc]; generalize hq_ : World.drewN wc _ = wc; have n0_ : Aside0 (wc.heap[gb246]? = some (.cells #[.int .i64 t243, .int .i64 t244] 50 (0, 0))) := ⟨by rw [← hq_]; exact (by (with_reducible repeat (first | refine blk_drewN ?_ _ | refine blk_drew ?_ | refine blk_alloc ?_ _)); exact BK246.out)⟩; have n1_ : Aside0 (wc.heap[gb250]? = some (.cells #[.int .i64 t247, .int .i64 t248] 50 (0, 0))) := ⟨by rw [← hq_]; exact (by (with_reducible repeat (first | refine blk_drewN ?_ _ | refine blk_drew ?_ | refine blk_alloc ?_ _)); exact BK250.out)⟩; have n2_ : Aside0 (Below w.heap.size w wc) := ⟨by rw [← hq_]; exact (by repeat (first | (with_reducible first | exact HB.out | apply below_alloc | apply pw_below_drewN | apply below_drew1 | refine below_set ?_ GE246.out | refine below_set ?_ GE250.out) | exact HB.out))⟩; clear BK246 BK250 HB hq_; have BK246 := n0_; have BK250 := n1_; have HB := n2_; clear n0_ n1_ n2_))) | ((with_reducible refine gate_callee (f := 17) rfl ?_); refine goesL_ (some 153) rfl rfl Try.func17 (by kernel_rfl) rfl #[.int .i64 a5, .int .i64 30] rfl (by (try simp only [List.map_toArray, List.map_cons, List.map_nil]); first | done | rfl | (simp only [List.length_drop, List.length_take]; rfl)) ?_; (with_reducible refine (thermionkit_Mod.calls a5 30 t252 _ A47.out).mono ?_); rintro e w' ⟨rfl, ⟨nd, rfl⟩⟩; refine ⟨_, rfl, ?_⟩; (try (rw [drewN_self wc]; generalize hq_ : World.drewN wc _ = wc; have n0_ : Aside0 (wc.heap[gb246]? = some (.cells #[.int .i64 t243, .int .i64 t244] 50 (0, 0))) := ⟨by rw [← hq_]; exact (by (with_reducible repeat (first | refine blk_drewN ?_ _ | refine blk_drew ?_ | refine blk_alloc ?_ _)); exact BK246.out)⟩; have n1_ : Aside0 (wc.heap[gb250]? = some (.cells #[.int .i64 t247, .int .i64 t248] 50 (0, 0))) := ⟨by rw [← hq_]; exact (by (with_reducible repeat (first | refine blk_drewN ?_ _ | refine blk_drew ?_ | refine blk_alloc ?_ _)); exact BK250.out)⟩; have n2_ : Aside0 (Below w.heap.size w wc) := ⟨by rw [← hq_]; exact (by repeat (first | (with_reducible first | exact HB.out | apply below_alloc | apply pw_below_drewN | apply below_drew1 | refine below_set ?_ GE246.out | refine below_set ?_ GE250.out) | exact HB.out))⟩; clear BK246 BK250 HB hq_; have BK246 := n0_; have BK250 := n1_; have HB := n2_; clear n0_ n1_ n2_))) | ((with_reducible refine gate_callee (f := 29) rfl ?_); refine goesL_ (some 155) rfl rfl Try.func29 (by kernel_rfl) rfl #[.int .i64 (wrap64 (1 + t225)), .int .i64 t229, .int .i64 (wrap64 ((wrap64 (t229 + 1)) + t230)), .int .i64 (wrap64 (1 + t251)), .int .i64 (wrap64 (1 + t252))] rfl (by (try simp only [List.map_toArray, List.map_cons, List.map_nil]); first | done | rfl | (simp only [List.length_drop, List.length_take]; rfl)) ?_; (with_reducible refine (gauge_Plan.calls (wrap64 (1 + t225)) t229 (wrap64 ((wrap64 (t229 + 1)) + t230)) (wrap64 (1 + t251)) (wrap64 (1 + t252)) t253 t254 t255 _ A48.out).mono ?_); rintro e w68 ⟨rfl, hb⟩; refine ⟨_, rfl, ?_⟩; have n0_ := Aside0.mk (blk_below (g := gb246) (o := .cells #[.int .i64 t243, .int .i64 t244] 50 (0, 0)) (by (with_reducible repeat (first | refine blk_drewN ?_ _ | refine blk_drew ?_ | refine blk_alloc ?_ _)); exact BK246.out) hb); have n1_ := Aside0.mk (blk_below (g := gb250) (o := .cells #[.int .i64 t247, .int .i64 t248] 50 (0, 0)) (by (with_reducible repeat (first | refine blk_drewN ?_ _ | refine blk_drew ?_ | refine blk_alloc ?_ _)); exact BK250.out) hb); have n2_ := Aside0.mk (below_step (by repeat (first | (with_reducible first | exact HB.out | apply below_alloc | apply pw_below_drewN | apply below_drew1 | refine below_set ?_ GE246.out | refine below_set ?_ GE250.out) | exact HB.out)) hb); clear BK246; clear BK250; clear HB; have BK246 := n0_; have BK250 := n1_; have HB := n2_; clear n0_ n1_ n2_; (try clear hb); (try clear hb2); (try clear hk); (try clear hi); have hnb69 := NB246_250.out; have hnc69 := NB250_246.out; have hcz70_0 : w68.cell? ⟨gb246, 0, none⟩ = some (.int .i64 t243) := (blk_cell BK246.out 0).trans rfl; have hcz70_1 : w68.cell? ⟨gb246, 1, none⟩ = some (.int .i64 t244) := (blk_cell BK246.out 1).trans rfl; have hfz70_0 := blk_frozen BK246.out 0; have hfz70_1 := blk_frozen BK246.out 1) | ((with_reducible refine gate_callee (f := 17) rfl ?_); refine goesL_ (some 163) rfl rfl Try.func17 (by kernel_rfl) rfl #[.int .i64 a4, .int .i64 30] rfl (by (try simp only [List.map_toArray, List.map_cons, List.map_nil]); first | done | rfl | (simp only [List.length_drop, List.length_take]; rfl)) ?_; (with_reducible refine (thermionkit_Mod.calls a4 30 t256 _ A49.out).mono ?_); rintro e w' ⟨rfl, ⟨nd, rfl⟩⟩; refine ⟨_, rfl, ?_⟩) | ((with_reducible refine gate_callee (f := 17) rfl ?_); refine goesL_ (some 166) rfl rfl Try.func17 (by kernel_rfl) rfl #[.int .i64 a5, .int .i64 30] rfl (by (try simp only [List.map_toArray, List.map_cons, List.map_nil]); first | done | rfl | (simp only [List.length_drop, List.length_take]; rfl)) ?_; (with_reducible refine (thermionkit_Mod.calls a5 30 t257 _ A50.out).mono ?_); rintro e w' ⟨rfl, ⟨nd, rfl⟩⟩; refine ⟨_, rfl, ?_⟩) | ((with_reducible refine gate_callee (f := 30) rfl ?_); refine goesL_ (some 168) rfl rfl Try.func30 (by kernel_rfl) rfl #[.int .i64 (wrap64 (1 + t225)), .int .i64 t229, .int .i64 (wrap64 ((wrap64 (t229 + 1)) + t230)), .int .i64 (wrap64 (1 + t256)), .int .i64 (wrap64 (1 + t257))] rfl (by (try simp only [List.map_toArray, List.map_cons, List.map_nil]); first | done | rfl | (simp only [List.length_drop, List.length_take]; rfl)) ?_; (with_reducible refine (thermionref07_Plan.calls kj24 (wrap64 (1 + t225)) t229 (wrap64 ((wrap64 (t229 + 1)) + t230)) (wrap64 (1 + t256)) (wrap64 (1 + t257)) t258 t259 t260 _ A51.out).mono ?_); rintro e w71 ⟨rfl, hb⟩; refine ⟨_, rfl, ?_⟩; have n0_ := Aside0.mk (blk_below (g := gb246) (o := .cells #[.int .i64 t253, .int .i64 t254] 50 (0, 0)) (by (with_reducible repeat (first | refine blk_drewN ?_ _ | refine blk_drew ?_ | refine blk_alloc ?_ _)); refine blk_put (cs := #[.int .i64 t253, .int .i64 t244]) ?_ 1 _ rfl; (with_reducible repeat (first | refine blk_drewN ?_ _ | refine blk_drew ?_ | refine blk_alloc ?_ _)); refine blk_put (cs := #[.int .i64 t243, .int .i64 t244]) ?_ 0 _ rfl; (with_reducible repeat (first | refine blk_drewN ?_ _ | refine blk_drew ?_ | refine blk_alloc ?_ _)); exact BK246.out) hb); have n1_ := Aside0.mk (blk_below (g := gb250) (o := .cells #[.int .i64 t247, .int .i64 t248] 50 (0, 0)) (by (with_reducible repeat (first | refine blk_drewN ?_ _ | refine blk_drew ?_ | refine blk_alloc ?_ _)); refine blk_far ?_ NB250_246.out _; (with_reducible repeat (first | refine blk_drewN ?_ _ | refine blk_drew ?_ | refine blk_alloc ?_ _)); refine blk_far ?_ NB250_246.out _; (with_reducible repeat (first | refine blk_drewN ?_ _ | refine blk_drew ?_ | refine blk_alloc ?_ _)); exact BK250.out) hb); have n2_ := Aside0.mk (below_step (by repeat (first | (with_reducible first | exact HB.out | apply below_alloc | apply pw_below_drewN | apply below_drew1 | refine below_set ?_ GE246.out | refine below_set ?_ GE250.out) | exact HB.out)) hb); clear BK246; clear BK250; clear HB; have BK246 := n0_; have BK250 := n1_; have HB := n2_; clear n0_ n1_ n2_; (try clear hb); (try clear hb2); (try clear hk); (try clear hi); have hcz72_0 : w71.cell? ⟨gb250, 0, none⟩ = some (.int .i64 t247) := (blk_cell BK250.out 0).trans rfl; have hcz72_1 : w71.cell? ⟨gb250, 1, none⟩ = some (.int .i64 t248) := (blk_cell BK250.out 1).trans rfl; have hfz72_0 := blk_frozen BK250.out 0; have hfz72_1 := blk_frozen BK250.out 1; have hcz73_0 : w71.cell? ⟨gb246, 0, none⟩ = some (.int .i64 t253) := (blk_cell BK246.out 0).trans rfl; have hcz73_1 : w71.cell? ⟨gb246, 1, none⟩ = some (.int .i64 t254) := (blk_cell BK246.out 1).trans rfl; have hfz73_0 := blk_frozen BK246.out 0; have hfz73_1 := blk_frozen BK246.out 1))
                go_ret
                exact ⟨by first | rfl | (simp [errW_none, errW_some] <;> rfl) | (simp [*, errW_none, errW_some] <;> rfl), by repeat (first | (with_reducible first | exact HB.out | apply below_alloc | apply pw_below_drewN | apply below_drew1 | refine below_set ?_ GE246.out | refine below_set ?_ GE250.out) | exact HB.out)⟩

/-- THE ONE PURE STATEMENT of thermionlaw07_GaugeSamples: yours. -/
def thermionlaw07_GaugeSamples.Pure : Prop := ∀ (a0 : Int) (a1 : Int) (a2 : Int) (a3 : Int) (a4 : Int) (a5 : Int), (Lit.int .i64 a0).wf = true → (Lit.int .i64 a1).wf = true → (Lit.int .i64 a2).wf = true → (Lit.int .i64 a3).wf = true → (Lit.int .i64 a4).wf = true → (Lit.int .i64 a5).wf = true → ∃ k, thermionlaw07_GaugeSamples.f k a0 a1 a2 a3 a4 a5 = some true
theorem thermionlaw07_GaugeSamples.walk (P : thermionlaw07_GaugeSamples.Pure) (a0 : Int) (a1 : Int) (a2 : Int) (a3 : Int) (a4 : Int) (a5 : Int) (w : World) (w0 : (Lit.int .i64 a0).wf = true) (w1 : (Lit.int .i64 a1).wf = true) (w2 : (Lit.int .i64 a2).wf = true) (w3 : (Lit.int .i64 a3).wf = true) (w4 : (Lit.int .i64 a4).wf = true) (w5 : (Lit.int .i64 a5).wf = true) :
    Calls Try.prog 7 #[.int .i64 a0, .int .i64 a1, .int .i64 a2, .int .i64 a3, .int .i64 a4, .int .i64 a5] w fun e w' => e = .returned (.bool true) ∧ Below w.heap.size w w' := by
  obtain ⟨k, h⟩ := P a0 a1 a2 a3 a4 a5 w0 w1 w2 w3 w4 w5
  refine (thermionlaw07_GaugeSamples.calls k a0 a1 a2 a3 a4 a5 true w h).mono ?_
  rintro e w' ⟨rfl, hd⟩
  exact ⟨rfl, hd⟩

end Go.Proofs.Ytdbpobadeibjaaa.GAll
