-- written for this claim by a program of this session (wip/gp), over the kit's own printer; Lean checks it
import Derived.Test.YtdbpobadeibjaabGEx0
import Derived.Test.YtdbpobadeibjaabGEx1
import Derived.Test.YtdbpobadeibjaabGEx2
import Derived.Test.YtdbpobadeibjaabGEx11
import Derived.Test.YtdbpobadeibjaabGEx14
import Derived.Test.YtdbpobadeibjaabGEx16
import Derived.Test.YtdbpobadeibjaabGEx17
import Derived.Test.YtdbpobadeibjaabGEx19
namespace Go.Proofs.Ytdbpobadeibjaab.GE
open Go.RowKit Go.Proofs.YtdbpobadeibjaabW.PrintWords Go.Proofs.YtdbpobadeibjaabW.PrintLast Go.Proofs.YtdbpobadeibjaabW.PrintMore
attribute [local go_sem] max2_int min2_int max_two min_two max_three min_three max_four min_four
set_option linter.unusedVariables false
set_option linter.unusedSimpArgs false

attribute [local go_sem high] eqA34 eqA73
/-! ### L_awake: function 18 -/
def L_awake.f (k : Nat)  : Option (Bool) := (L_bench.f).bind fun t220 => ((gauge_True.f t220 1 1000).bind fun bt223 => ((gauge_Plan.f 10 0 5 10 10).bind fun bt227 => ((L_span.f 10 20).bind fun bt231 => ((L_span.f 0 1).bind fun bt233 => ((L_span.f 0 25).bind fun bt235 => ((gauge_Keeps.f bt231.1 bt231.2 bt233.1 bt233.2 bt235.1 bt235.2).bind fun bt237 => (if bt223.2.2 = 0 then (if bt227.2.2 = 0 then (if bt237.2.2 = 0 then ((L_span.f 985 1016).bind fun bt241 => (if (bt223.1 == bt241.1 && (bt223.2.1 == bt241.2)) = true then (if (bt227.1 == 3 && (bt227.2.1 == 0)) = true then ((L_span.f 5000 1000000).bind fun bt243 => (if (bt237.1 == bt243.1 && (bt237.2.1 == bt243.2)) = true then ((L_span.f 95 105).bind fun bt245 => ((L_span.f 106 200).bind fun bt247 => ((gauge_Verdict.f k bt245.1 bt245.2 bt247.1 bt247.2).bind fun t249 => (if t249 = 2 then (if 13 ≤ 5026338869833 then ((gauge_Check.f (List.replicate 13 z49)).bind fun t253 => (some (t253 == 8))) else (none)) else (some false))))) else (some false))) else (some false)) else (some false))) else (some false)) else (some false)) else (some false))))))))
theorem L_awake.mono : ∀ k,LeO (L_awake.f k ) (L_awake.f (k + 1) ) := by
 intro  k
 unfold L_awake.f
 repeat' first
   | (with_reducible exact gauge_Verdict.mono _ _ _ _ _)
   | (with_reducible exact LeO.refl _)
   | (with_reducible exact LeO.none _)
   | (with_reducible refine LeO.ite ?_ ?_)
   | (with_reducible refine LeO.bind ?_ (fun _ => ?_))
   | exact gauge_Verdict.mono _ _ _ _ _
   | exact LeO.none _
   | refine LeO.ite ?_ ?_
   | refine LeO.bind ?_ (fun _ => ?_)
def L_awake.T4 : Bool × List (List Nat × List Nat) := (true,[([],[]),([0],[0]),([1],[1]),([2],[2]),([3,2],[2,3]),([2,4],[2,4]),([5,2],[5]),([6],[6]),([7,6],[6,7]),([6,8],[6,8]),([9,6],[9]),([10],[10]),([10,10],[10]),([11,12,10],[10,11,12]),([10,13],[10,13]),([14,12],[14]),([15],[15]),([15],[15]),([16,17,15],[15,16,17]),([15,18],[15,18]),([19,15],[19]),([20],[20]),([20,20],[20]),([21,22,20],[20,21,22]),([20,23],[20,23]),([24,22],[24]),([25,25],[25]),([26,25],[25]),([26,27,27,25],[25,26,27]),([28,25],[25,28]),([25,29],[25,29]),([30,28],[30]),([31],[31]),([32,31,31],[31,32]),([33,31],[31,33]),([31,34],[31,34]),([35,33,0,1,2,3,4,5,6,7,8,9,10,11,12,13,14,15,16,17,18,19,20,21,22,23,24,25,26,27,28,29,30,31,32,33,34,35],[35])])
def L_awake.B4 : List Nat := [0,1,3,7,15,31,63,127,255,511,1023,2047,2047,8191,16383,32767,65535,65535,262143,524287,1048575,2097151,2097151,8388607,16777215,33554431,67108863,134217727,268435455,536870911,1073741823,2147483647,4294967295,8589934591,17179869183,34359738367,68719476735]
theorem L_awake.tab4 : rtab .any (opsOf Try.f18 4) = L_awake.T4 := by kernel_rfl
theorem L_awake.bits4 : waitsOk L_awake.T4.2 L_awake.B4 = true := by kernel_rfl
/-! #### what awake's examples come to -/
def awBench : List S49 := [⟨⟨1000000,1000000⟩,⟨0,0⟩,10,-1,100⟩,⟨⟨990000,1010000⟩,⟨-5,5⟩,1,0,50⟩]
theorem aw_span (a b : Int) : L_span.f a b = some (a,b) := by kernel_rfl
theorem aw_bench : L_bench.f = some awBench := by kernel_rfl
theorem aw_true : gauge_True.f awBench 1 1000 = some (985,1016,0) := by kernel_rfl
theorem aw_plan : gauge_Plan.f 10 0 5 10 10 = some (3,0,0) := by kernel_rfl
theorem aw_check : gauge_Check.f (List.replicate 13 z49) = some 8 := by kernel_rfl
theorem aw_sure : keepsP sureB 10 20 0 1 0 25 = 5000 := by
 unfold keepsP
 rw [leastTrue_eq (m := 5001) (by omega) (fun i hi => ?_) (fun _ => ?_)]
 ·rfl
 ·unfold overP sureB verdictP agedLo agedHi
  rw [if_neg (by omega),if_pos (by omega)]
  rfl
 ·unfold overP sureB verdictP agedLo agedHi
  rw [if_neg (by omega),if_neg (by omega),if_neg (by omega)]
  rfl
theorem aw_may : keepsP mayB 10 20 0 1 0 25 = 1000000 := by
 unfold keepsP
 rw [leastTrue_eq (m := 1000001) (by omega) (fun i hi => ?_) (fun h => absurd h (by omega))]
 ·rfl
 ·unfold overP mayB verdictP agedLo agedHi
  rw [if_neg (by omega)]
  by_cases c : 10 + (i : Int) * 0 / 1000 ≥ 0 ∧ 20 + -(-((i : Int) * 1) / 1000) ≤ 25
  ·rw [if_pos c];rfl
  ·rw [if_neg c,if_neg (by omega)];rfl
theorem aw_keeps : gauge_Keeps.f 10 20 0 1 0 25 = some (5000,1000000,0) := by
 unfold gauge_Keeps.f
 rw [if_neg (by unfold keepsErr driftErr rangeErr;decide),aw_sure,aw_may]
theorem aw_verdict (k : Nat) (t : Int) (h : gauge_Verdict.f k 95 105 106 200 = some t) : t = 2 := by
 have h1 := gauge_Verdict.mono 95 105 106 200 k t h
 have h2 := gauge_Verdict.mono 95 105 106 200 (k + 1) t h1
 have h3 := gauge_Verdict.mono 95 105 106 200 (k + 1 + 1) t h2
 rw [gauge_Verdict.eq] at h3
 exact (Option.some.inj h3).symm
theorem L_awake.only (k : Nat) (r : Bool) (h : L_awake.f k = some r) : r = true := by
 unfold L_awake.f at h
 obtain ⟨b,e1,h⟩ := oB_ h
 obtain rfl := Option.some.inj (aw_bench.symm.trans e1)
 obtain ⟨t,e2,h⟩ := oB_ h
 obtain rfl := Option.some.inj (aw_true.symm.trans e2)
 obtain ⟨t,e3,h⟩ := oB_ h
 obtain rfl := Option.some.inj (aw_plan.symm.trans e3)
 obtain ⟨t,e4,h⟩ := oB_ h
 obtain rfl := Option.some.inj ((aw_span _ _).symm.trans e4)
 obtain ⟨t,e5,h⟩ := oB_ h
 obtain rfl := Option.some.inj ((aw_span _ _).symm.trans e5)
 obtain ⟨t,e6,h⟩ := oB_ h
 obtain rfl := Option.some.inj ((aw_span _ _).symm.trans e6)
 obtain ⟨t,e7,h⟩ := oB_ h
 obtain rfl := Option.some.inj (aw_keeps.symm.trans e7)
 clear e1 e2 e3 e4 e5 e6 e7
 rw [if_pos rfl,if_pos rfl,if_pos rfl] at h
 obtain ⟨t,e8,h⟩ := oB_ h
 obtain rfl := Option.some.inj ((aw_span _ _).symm.trans e8)
 rw [if_pos (by decide),if_pos (by decide)] at h
 obtain ⟨t,e9,h⟩ := oB_ h
 obtain rfl := Option.some.inj ((aw_span _ _).symm.trans e9)
 rw [if_pos (by decide)] at h
 obtain ⟨t,e10,h⟩ := oB_ h
 obtain rfl := Option.some.inj ((aw_span _ _).symm.trans e10)
 obtain ⟨t,e11,h⟩ := oB_ h
 obtain rfl := Option.some.inj ((aw_span _ _).symm.trans e11)
 obtain ⟨t,e12,h⟩ := oB_ h
 rw [if_pos (aw_verdict k t e12),if_pos (by omega)] at h
 obtain ⟨t,e13,h⟩ := oB_ h
 obtain rfl := Option.some.inj (aw_check.symm.trans e13)
 exact (Option.some.inj h).symm
theorem L_awake.holds : L_awake.f 3 = some true := by
 unfold L_awake.f
 refine Option.bind_eq_some_iff.mpr ⟨_,aw_bench,Option.bind_eq_some_iff.mpr ⟨_,aw_true,Option.bind_eq_some_iff.mpr ⟨_,aw_plan,Option.bind_eq_some_iff.mpr ⟨_,aw_span _ _,Option.bind_eq_some_iff.mpr ⟨_,aw_span _ _,Option.bind_eq_some_iff.mpr ⟨_,aw_span _ _,Option.bind_eq_some_iff.mpr ⟨_,aw_keeps,?_⟩⟩⟩⟩⟩⟩⟩
 rw [if_pos rfl,if_pos rfl,if_pos rfl]
 refine Option.bind_eq_some_iff.mpr ⟨_,aw_span _ _,?_⟩
 rw [if_pos (by decide),if_pos (by decide)]
 refine Option.bind_eq_some_iff.mpr ⟨_,aw_span _ _,?_⟩
 rw [if_pos (by decide)]
 refine Option.bind_eq_some_iff.mpr ⟨_,aw_span _ _,Option.bind_eq_some_iff.mpr ⟨_,aw_span _ _,Option.bind_eq_some_iff.mpr ⟨_,gauge_Verdict.eq 0 _ _ _ _,?_⟩⟩⟩
 rw [if_pos (show verdictP 95 105 106 200 = 2 by decide),if_pos (by omega)]
 exact Option.bind_eq_some_iff.mpr ⟨_,aw_check,rfl⟩
set_option maxHeartbeats 8000000 in
set_option maxRecDepth 100000 in
theorem L_awake.calls (k : Nat)  (r : Bool) (w : World) (h : L_awake.f k  = some r) :
  Calls Try.prog 18 #[] w fun e w' => e = .returned (.bool r) ∧ Below w.heap.size w w' := by
 have hrt_ := aM_ (L_awake.only k r h)
 have hu34 := Try.underlying34
 have hu73 := Try.underlying73
 have HB := aM_ (Below.refl w.heap.size w)
 have H : ((L_bench.f).bind fun t220 => ((gauge_True.f t220 1 1000).bind fun bt223 => ((gauge_Plan.f 10 0 5 10 10).bind fun bt227 => ((L_span.f 10 20).bind fun bt231 => ((L_span.f 0 1).bind fun bt233 => ((L_span.f 0 25).bind fun bt235 => ((gauge_Keeps.f bt231.1 bt231.2 bt233.1 bt233.2 bt235.1 bt235.2).bind fun bt237 => (if bt223.2.2 = 0 then (if bt227.2.2 = 0 then (if bt237.2.2 = 0 then ((L_span.f 985 1016).bind fun bt241 => (if (bt223.1 == bt241.1 && (bt223.2.1 == bt241.2)) = true then (if (bt227.1 == 3 && (bt227.2.1 == 0)) = true then ((L_span.f 5000 1000000).bind fun bt243 => (if (bt237.1 == bt243.1 && (bt237.2.1 == bt243.2)) = true then ((L_span.f 95 105).bind fun bt245 => ((L_span.f 106 200).bind fun bt247 => ((gauge_Verdict.f k bt245.1 bt245.2 bt247.1 bt247.2).bind fun t249 => (if t249 = 2 then (if 13 ≤ 5026338869833 then ((gauge_Check.f (List.replicate 13 z49)).bind fun t253 => (some (t253 == 8))) else (none)) else (some false))))) else (some false))) else (some false)) else (some false))) else (some false)) else (some false)) else (some false))))))))) = some r := h
 clear h
 replace H := oB_ H
 obtain ⟨t220,A10,H⟩ := H
 replace H : ((gauge_True.f t220 1 1000).bind fun bt223 => ((gauge_Plan.f 10 0 5 10 10).bind fun bt227 => ((L_span.f 10 20).bind fun bt231 => ((L_span.f 0 1).bind fun bt233 => ((L_span.f 0 25).bind fun bt235 => ((gauge_Keeps.f bt231.1 bt231.2 bt233.1 bt233.2 bt235.1 bt235.2).bind fun bt237 => (if bt223.2.2 = 0 then (if bt227.2.2 = 0 then (if bt237.2.2 = 0 then ((L_span.f 985 1016).bind fun bt241 => (if (bt223.1 == bt241.1 && (bt223.2.1 == bt241.2)) = true then (if (bt227.1 == 3 && (bt227.2.1 == 0)) = true then ((L_span.f 5000 1000000).bind fun bt243 => (if (bt237.1 == bt243.1 && (bt237.2.1 == bt243.2)) = true then ((L_span.f 95 105).bind fun bt245 => ((L_span.f 106 200).bind fun bt247 => ((gauge_Verdict.f k bt245.1 bt245.2 bt247.1 bt247.2).bind fun t249 => (if t249 = 2 then (if 13 ≤ 5026338869833 then ((gauge_Check.f (List.replicate 13 z49)).bind fun t253 => (some (t253 == 8))) else (none)) else (some false))))) else (some false))) else (some false)) else (some false))) else (some false)) else (some false)) else (some false)))))))) = some r := H
 have A1 := aM_ A10
 clear A10
 replace H := oB_ H
 obtain ⟨⟨t223,t224,t225⟩,A20,H⟩ := H
 replace H : ((gauge_Plan.f 10 0 5 10 10).bind fun bt227 => ((L_span.f 10 20).bind fun bt231 => ((L_span.f 0 1).bind fun bt233 => ((L_span.f 0 25).bind fun bt235 => ((gauge_Keeps.f bt231.1 bt231.2 bt233.1 bt233.2 bt235.1 bt235.2).bind fun bt237 => (if t225 = 0 then (if bt227.2.2 = 0 then (if bt237.2.2 = 0 then ((L_span.f 985 1016).bind fun bt241 => (if (t223 == bt241.1 && (t224 == bt241.2)) = true then (if (bt227.1 == 3 && (bt227.2.1 == 0)) = true then ((L_span.f 5000 1000000).bind fun bt243 => (if (bt237.1 == bt243.1 && (bt237.2.1 == bt243.2)) = true then ((L_span.f 95 105).bind fun bt245 => ((L_span.f 106 200).bind fun bt247 => ((gauge_Verdict.f k bt245.1 bt245.2 bt247.1 bt247.2).bind fun t249 => (if t249 = 2 then (if 13 ≤ 5026338869833 then ((gauge_Check.f (List.replicate 13 z49)).bind fun t253 => (some (t253 == 8))) else (none)) else (some false))))) else (some false))) else (some false)) else (some false))) else (some false)) else (some false)) else (some false))))))) = some r := H
 have A2 := aM_ A20
 clear A20
 replace H := oB_ H
 obtain ⟨⟨t227,t228,t229⟩,A30,H⟩ := H
 replace H : ((L_span.f 10 20).bind fun bt231 => ((L_span.f 0 1).bind fun bt233 => ((L_span.f 0 25).bind fun bt235 => ((gauge_Keeps.f bt231.1 bt231.2 bt233.1 bt233.2 bt235.1 bt235.2).bind fun bt237 => (if t225 = 0 then (if t229 = 0 then (if bt237.2.2 = 0 then ((L_span.f 985 1016).bind fun bt241 => (if (t223 == bt241.1 && (t224 == bt241.2)) = true then (if (t227 == 3 && (t228 == 0)) = true then ((L_span.f 5000 1000000).bind fun bt243 => (if (bt237.1 == bt243.1 && (bt237.2.1 == bt243.2)) = true then ((L_span.f 95 105).bind fun bt245 => ((L_span.f 106 200).bind fun bt247 => ((gauge_Verdict.f k bt245.1 bt245.2 bt247.1 bt247.2).bind fun t249 => (if t249 = 2 then (if 13 ≤ 5026338869833 then ((gauge_Check.f (List.replicate 13 z49)).bind fun t253 => (some (t253 == 8))) else (none)) else (some false))))) else (some false))) else (some false)) else (some false))) else (some false)) else (some false)) else (some false)))))) = some r := H
 have A3 := aM_ A30
 clear A30
 replace H := oB_ H
 obtain ⟨⟨t231,t232⟩,A40,H⟩ := H
 replace H : ((L_span.f 0 1).bind fun bt233 => ((L_span.f 0 25).bind fun bt235 => ((gauge_Keeps.f t231 t232 bt233.1 bt233.2 bt235.1 bt235.2).bind fun bt237 => (if t225 = 0 then (if t229 = 0 then (if bt237.2.2 = 0 then ((L_span.f 985 1016).bind fun bt241 => (if (t223 == bt241.1 && (t224 == bt241.2)) = true then (if (t227 == 3 && (t228 == 0)) = true then ((L_span.f 5000 1000000).bind fun bt243 => (if (bt237.1 == bt243.1 && (bt237.2.1 == bt243.2)) = true then ((L_span.f 95 105).bind fun bt245 => ((L_span.f 106 200).bind fun bt247 => ((gauge_Verdict.f k bt245.1 bt245.2 bt247.1 bt247.2).bind fun t249 => (if t249 = 2 then (if 13 ≤ 5026338869833 then ((gauge_Check.f (List.replicate 13 z49)).bind fun t253 => (some (t253 == 8))) else (none)) else (some false))))) else (some false))) else (some false)) else (some false))) else (some false)) else (some false)) else (some false))))) = some r := H
 have A4 := aM_ A40
 clear A40
 replace H := oB_ H
 obtain ⟨⟨t233,t234⟩,A50,H⟩ := H
 replace H : ((L_span.f 0 25).bind fun bt235 => ((gauge_Keeps.f t231 t232 t233 t234 bt235.1 bt235.2).bind fun bt237 => (if t225 = 0 then (if t229 = 0 then (if bt237.2.2 = 0 then ((L_span.f 985 1016).bind fun bt241 => (if (t223 == bt241.1 && (t224 == bt241.2)) = true then (if (t227 == 3 && (t228 == 0)) = true then ((L_span.f 5000 1000000).bind fun bt243 => (if (bt237.1 == bt243.1 && (bt237.2.1 == bt243.2)) = true then ((L_span.f 95 105).bind fun bt245 => ((L_span.f 106 200).bind fun bt247 => ((gauge_Verdict.f k bt245.1 bt245.2 bt247.1 bt247.2).bind fun t249 => (if t249 = 2 then (if 13 ≤ 5026338869833 then ((gauge_Check.f (List.replicate 13 z49)).bind fun t253 => (some (t253 == 8))) else (none)) else (some false))))) else (some false))) else (some false)) else (some false))) else (some false)) else (some false)) else (some false)))) = some r := H
 have A5 := aM_ A50
 clear A50
 replace H := oB_ H
 obtain ⟨⟨t235,t236⟩,A60,H⟩ := H
 replace H : ((gauge_Keeps.f t231 t232 t233 t234 t235 t236).bind fun bt237 => (if t225 = 0 then (if t229 = 0 then (if bt237.2.2 = 0 then ((L_span.f 985 1016).bind fun bt241 => (if (t223 == bt241.1 && (t224 == bt241.2)) = true then (if (t227 == 3 && (t228 == 0)) = true then ((L_span.f 5000 1000000).bind fun bt243 => (if (bt237.1 == bt243.1 && (bt237.2.1 == bt243.2)) = true then ((L_span.f 95 105).bind fun bt245 => ((L_span.f 106 200).bind fun bt247 => ((gauge_Verdict.f k bt245.1 bt245.2 bt247.1 bt247.2).bind fun t249 => (if t249 = 2 then (if 13 ≤ 5026338869833 then ((gauge_Check.f (List.replicate 13 z49)).bind fun t253 => (some (t253 == 8))) else (none)) else (some false))))) else (some false))) else (some false)) else (some false))) else (some false)) else (some false)) else (some false))) = some r := H
 have A6 := aM_ A60
 clear A60
 replace H := oB_ H
 obtain ⟨⟨t237,t238,t239⟩,A70,H⟩ := H
 replace H : (if t225 = 0 then (if t229 = 0 then (if t239 = 0 then ((L_span.f 985 1016).bind fun bt241 => (if (t223 == bt241.1 && (t224 == bt241.2)) = true then (if (t227 == 3 && (t228 == 0)) = true then ((L_span.f 5000 1000000).bind fun bt243 => (if (t237 == bt243.1 && (t238 == bt243.2)) = true then ((L_span.f 95 105).bind fun bt245 => ((L_span.f 106 200).bind fun bt247 => ((gauge_Verdict.f k bt245.1 bt245.2 bt247.1 bt247.2).bind fun t249 => (if t249 = 2 then (if 13 ≤ 5026338869833 then ((gauge_Check.f (List.replicate 13 z49)).bind fun t253 => (some (t253 == 8))) else (none)) else (some false))))) else (some false))) else (some false)) else (some false))) else (some false)) else (some false)) else (some false)) = some r := H
 have A7 := aM_ A70
 clear A70
 by_cases c8 : t225 = 0
 ·rw [if_pos c8] at H
  have c8b0 : (t225 == 0) = true := beq_iff_eq.mpr c8
  have c8b1 : (t225 != 0) = false := bne_eq_false_iff_eq.mpr c8
  clear c8
  by_cases c9 : t229 = 0
  ·rw [if_pos c9] at H
   have c9b0 : (t229 == 0) = true := beq_iff_eq.mpr c9
   have c9b1 : (t229 != 0) = false := bne_eq_false_iff_eq.mpr c9
   clear c9
   by_cases c10 : t239 = 0
   ·rw [if_pos c10] at H
    have c10b0 : (t239 == 0) = true := beq_iff_eq.mpr c10
    have c10b1 : (t239 != 0) = false := bne_eq_false_iff_eq.mpr c10
    clear c10
    replace H := oB_ H
    obtain ⟨⟨t241,t242⟩,A110,H⟩ := H
    replace H : (if (t223 == t241 && (t224 == t242)) = true then (if (t227 == 3 && (t228 == 0)) = true then ((L_span.f 5000 1000000).bind fun bt243 => (if (t237 == bt243.1 && (t238 == bt243.2)) = true then ((L_span.f 95 105).bind fun bt245 => ((L_span.f 106 200).bind fun bt247 => ((gauge_Verdict.f k bt245.1 bt245.2 bt247.1 bt247.2).bind fun t249 => (if t249 = 2 then (if 13 ≤ 5026338869833 then ((gauge_Check.f (List.replicate 13 z49)).bind fun t253 => (some (t253 == 8))) else (none)) else (some false))))) else (some false))) else (some false)) else (some false)) = some r := H
    have A11 := aM_ A110
    clear A110
    by_cases c12 : (t223 == t241 && (t224 == t242)) = true
    ·rw [if_pos c12] at H
     have c12b0 : (t223 == t241 && (t224 == t242)) = true := c12
     (try (have c12b1 : decide (t223 = t241 && (t224 == t242)) = true := by simpa using c12))
     (try (have c12b2 : (t223 == t241 && (t224 == t242)) = true := by simpa using c12))
     clear c12
     by_cases c13 : (t227 == 3 && (t228 == 0)) = true
     ·rw [if_pos c13] at H
      have c13b0 : (t227 == 3 && (t228 == 0)) = true := c13
      (try (have c13b1 : decide (t227 = 3 && (t228 == 0)) = true := by simpa using c13))
      (try (have c13b2 : (t227 == 3 && (t228 == 0)) = true := by simpa using c13))
      clear c13
      replace H := oB_ H
      obtain ⟨⟨t243,t244⟩,A140,H⟩ := H
      replace H : (if (t237 == t243 && (t238 == t244)) = true then ((L_span.f 95 105).bind fun bt245 => ((L_span.f 106 200).bind fun bt247 => ((gauge_Verdict.f k bt245.1 bt245.2 bt247.1 bt247.2).bind fun t249 => (if t249 = 2 then (if 13 ≤ 5026338869833 then ((gauge_Check.f (List.replicate 13 z49)).bind fun t253 => (some (t253 == 8))) else (none)) else (some false))))) else (some false)) = some r := H
      have A14 := aM_ A140
      clear A140
      by_cases c15 : (t237 == t243 && (t238 == t244)) = true
      ·rw [if_pos c15] at H
       have c15b0 : (t237 == t243 && (t238 == t244)) = true := c15
       (try (have c15b1 : decide (t237 = t243 && (t238 == t244)) = true := by simpa using c15))
       (try (have c15b2 : (t237 == t243 && (t238 == t244)) = true := by simpa using c15))
       clear c15
       replace H := oB_ H
       obtain ⟨⟨t245,t246⟩,A160,H⟩ := H
       replace H : ((L_span.f 106 200).bind fun bt247 => ((gauge_Verdict.f k t245 t246 bt247.1 bt247.2).bind fun t249 => (if t249 = 2 then (if 13 ≤ 5026338869833 then ((gauge_Check.f (List.replicate 13 z49)).bind fun t253 => (some (t253 == 8))) else (none)) else (some false)))) = some r := H
       have A16 := aM_ A160
       clear A160
       replace H := oB_ H
       obtain ⟨⟨t247,t248⟩,A170,H⟩ := H
       replace H : ((gauge_Verdict.f k t245 t246 t247 t248).bind fun t249 => (if t249 = 2 then (if 13 ≤ 5026338869833 then ((gauge_Check.f (List.replicate 13 z49)).bind fun t253 => (some (t253 == 8))) else (none)) else (some false))) = some r := H
       have A17 := aM_ A170
       clear A170
       replace H := oB_ H
       obtain ⟨t249,A180,H⟩ := H
       replace H : (if t249 = 2 then (if 13 ≤ 5026338869833 then ((gauge_Check.f (List.replicate 13 z49)).bind fun t253 => (some (t253 == 8))) else (none)) else (some false)) = some r := H
       have A18 := aM_ A180
       clear A180
       by_cases c19 : t249 = 2
       ·rw [if_pos c19] at H
        have c19b0 : (t249 == 2) = true := beq_iff_eq.mpr c19
        have c19b1 : (t249 != 2) = false := bne_eq_false_iff_eq.mpr c19
        clear c19
        by_cases c20 : 13 ≤ 5026338869833
        ·rw [if_pos c20] at H
         have c20b0 := eq_true c20
         have c20b1 : decide (13 ≤ 5026338869833) = true := decide_eq_true c20
         clear c20
         obtain ⟨y250,hy250⟩ : ∃ y_ : List (S49),y_ = (List.replicate 13 z49) := ⟨_,rfl⟩
         replace H : ((gauge_Check.f y250).bind fun t253 => (some (t253 == 8))) = some r := by first | (rw [hy250];with_reducible exact H) | (have H2_ := (Option.bind_some _ _).symm.trans H;rw [hy250];with_reducible exact H2_) | (have H2_ := (Option.bind_some _ _).symm.trans H;with_reducible exact H2_) | with_reducible exact H | (rw [hy250];exact H) | exact H
         have Ny250 := aM_ hy250
         clear hy250
         replace H := oB_ H
         obtain ⟨t253,A210,H⟩ := H
         replace H : (some (t253 == 8)) = some r := H
         have A21 := aM_ A210
         clear A210
         obtain rfl := Option.some.inj H
         go_enter Try.func18,Try.ntmps18
         try go_wp2_with (first | ((with_reducible refine gate_callee (f := 30) rfl ?_);refine goesL_ (some 8) rfl rfl Try.func30 (by kernel_rfl) rfl #[] rfl (by (try simp only [List.map_toArray,List.map_cons,List.map_nil]);first | done | rfl) ?_;(with_reducible refine (L_bench.calls  t220 _ A1.out).mono ?_);rintro e w22 ⟨v221,rfl,ho0,hb⟩;refine ⟨_,rfl,?_⟩;have n0_ := aM_ (Kd.R_lower ho0 (below_size (by repeat (first | (with_reducible first | exact HB.out | apply bA_ | apply bN_ | apply bD_) | exact HB.out))));have n1_ := aM_ (bT_ (by repeat (first | (with_reducible first | exact HB.out | apply bA_ | apply bN_ | apply bD_) | exact HB.out)) hb);clear HB;have HO222 := n0_;have HB := n1_;clear n0_ n1_;(try clear hb);(try clear hb2);(try clear hk);(try clear hi);(try clear ho0);obtain ⟨Ao23,co23,eo23⟩ := Kd.R_slice HO222.out;subst eo23) | ((with_reducible refine gate_callee (f := 16) rfl ?_);refine goesL_ (some 9) rfl rfl Try.func16 (by kernel_rfl) rfl #[.slice Ao23 t220.length co23,.int .i64 1,.int .i64 1000] rfl (by (try simp only [List.map_toArray,List.map_cons,List.map_nil]);first | done | rfl) ?_;(with_reducible refine (gauge_True.calls _ _ t220 1 1000 t223 t224 t225 _ ?side1 ?side2 A2.out).mono ?_);(case side1 => repeat (first | exact (Kd.R_reads' HO222.out).2.2 | (with_reducible refine Kd.C_alloc ?_ _) | (with_reducible refine Kd.C_drewN ?_ _) | (with_reducible refine Kd.C_drew ?_)));(case side2 => exact (Kd.R_reads' HO222.out).2.1);rintro e w24 ⟨rfl,hb⟩;refine ⟨_,rfl,?_⟩;have n0_ := aM_ (Kd.R_below (by (with_reducible repeat (first | apply Kd.R_alloc | apply Kd.R_drewN | apply Kd.R_drew));exact HO222.out) hb);have n1_ := aM_ (bT_ (by repeat (first | (with_reducible first | exact HB.out | apply bA_ | apply bN_ | apply bD_) | exact HB.out)) hb);clear HO222;clear HB;have HO222 := n0_;have HB := n1_;clear n0_ n1_;(try clear hb);(try clear hb2);(try clear hk);(try clear hi)) | ((with_reducible refine gate_dst (N := 1) rfl ?_);refine box_event ?hg (N := 1) ?hd (cs := #[.int .i64 0,.int .i64 0]) (t := 34) ?hr ?_;(case hd => rfl);(case hg => rfl);(case hr => first | (go_simp;done) | (go_simp;rfl));intro gb226 hg w25 hbox hb;have n0_ := aM_ (Kd.R_below (by (with_reducible repeat (first | apply Kd.R_alloc | apply Kd.R_drewN | apply Kd.R_drew));exact HO222.out) hb);have n1_ := aM_ (bT_ (by repeat (first | (with_reducible first | exact HB.out | apply bA_ | apply bN_ | apply bD_) | exact HB.out)) hb);have n2_ := aM_ (hbox);have n3_ := aM_ ((by rw [hg];exact (below_size (by repeat (first | (with_reducible first | exact HB.out | apply bA_ | apply bN_ | apply bD_) | exact HB.out))) : w.heap.size ≤ gb226));have n4_ := aM_ ((by rw [hg];exact (below_size (by repeat (first | (with_reducible first | exact HB.out | apply bA_ | apply bN_ | apply bD_) | exact HB.out))) : w.heap.size ≤ gb226));clear HO222;clear HB;have HO222 := n0_;have HB := n1_;have BK226 := n2_;have GW226 := n3_;have GE226 := n4_;clear n0_ n1_ n2_ n3_ n4_;clear hb hbox hg;have hcz26_0 : w25.cell? ⟨gb226,0,none⟩ = some (.int .i64 0) := (blk_cell BK226.out 0).trans rfl;have hcz26_1 : w25.cell? ⟨gb226,1,none⟩ = some (.int .i64 0) := (blk_cell BK226.out 1).trans rfl;have hfz26_0 := blk_frozen BK226.out 0;have hfz26_1 := blk_frozen BK226.out 1) | ((with_reducible refine gate_callee (f := 46) rfl ?_);refine goesL_ (some 13) rfl rfl Try.func46 (by kernel_rfl) rfl #[.int .i64 10,.int .i64 0,.int .i64 5,.int .i64 10,.int .i64 10] rfl (by (try simp only [List.map_toArray,List.map_cons,List.map_nil]);first | done | rfl) ?_;(with_reducible refine (gauge_Plan.calls 10 0 5 10 10 t227 t228 t229 _ A3.out).mono ?_);rintro e w27 ⟨rfl,hb⟩;refine ⟨_,rfl,?_⟩;have n0_ := aM_ (Kd.R_below (by (with_reducible repeat (first | apply Kd.R_alloc | apply Kd.R_drewN | apply Kd.R_drew));exact (Kd.R_mono (Kd.R_far (p := ⟨gb226,1,none⟩) (Kd.R_far (p := ⟨gb226,0,none⟩) (Kd.R_types HO222.out BK226.out (by decide)) (fun _ hk => hk.2) (.int .i64 t223)) (fun _ hk => hk.2) (.int .i64 t224)) (fun _ h_ => h_.1))) hb);have n1_ := aM_ (kB_ (g := gb226) (o := .cells #[.int .i64 t223,.int .i64 t224] 34 (0,0)) (by (with_reducible repeat (first | refine kN_ ?_ _ | refine kD_ ?_ | refine kA_ ?_ _));refine blk_put (cs := #[.int .i64 t223,.int .i64 0]) ?_ 1 _ rfl;(with_reducible repeat (first | refine kN_ ?_ _ | refine kD_ ?_ | refine kA_ ?_ _));refine blk_put (cs := #[.int .i64 0,.int .i64 0]) ?_ 0 _ rfl;(with_reducible repeat (first | refine kN_ ?_ _ | refine kD_ ?_ | refine kA_ ?_ _));exact BK226.out) hb);have n2_ := aM_ (bT_ (by repeat (first | (with_reducible first | exact HB.out | apply bA_ | apply bN_ | apply bD_ | refine bS_ ?_ GE226.out) | exact HB.out)) hb);clear HO222;clear BK226;clear HB;have HO222 := n0_;have BK226 := n1_;have HB := n2_;clear n0_ n1_ n2_;(try clear hb);(try clear hb2);(try clear hk);(try clear hi)) | ((with_reducible refine gate_dst (N := 3) rfl ?_);refine box_event ?hg (N := 3) ?hd (cs := #[.int .i64 0,.int .i64 0]) (t := 73) ?hr ?_;(case hd => rfl);(case hg => rfl);(case hr => first | (go_simp;done) | (go_simp;rfl));intro gb230 hg w28 hbox hb;have n0_ := aM_ (Kd.R_below (by (with_reducible repeat (first | apply Kd.R_alloc | apply Kd.R_drewN | apply Kd.R_drew));exact HO222.out) hb);have n1_ := aM_ (kB_ (g := gb226) (o := .cells #[.int .i64 t223,.int .i64 t224] 34 (0,0)) (by (with_reducible repeat (first | refine kN_ ?_ _ | refine kD_ ?_ | refine kA_ ?_ _));exact BK226.out) hb);have n2_ := aM_ (bT_ (by repeat (first | (with_reducible first | exact HB.out | apply bA_ | apply bN_ | apply bD_ | refine bS_ ?_ GE226.out) | exact HB.out)) hb);have n3_ := aM_ (hbox);have n4_ := aM_ ((by rw [hg];exact (below_size (by repeat (first | (with_reducible first | exact HB.out | apply bA_ | apply bN_ | apply bD_ | refine bS_ ?_ GE226.out) | exact HB.out))) : w.heap.size ≤ gb230));have n5_ := aM_ ((by rw [hg];exact (below_size (by repeat (first | (with_reducible first | exact HB.out | apply bA_ | apply bN_ | apply bD_ | refine bS_ ?_ GE226.out) | exact HB.out))) : w.heap.size ≤ gb230));have n6_ := aM_ ((by rw [hg];exact Nat.ne_of_lt (blk_lt (g := gb226) (o := .cells #[.int .i64 t223,.int .i64 t224] 34 (0,0)) (by (with_reducible repeat (first | refine kN_ ?_ _ | refine kD_ ?_ | refine kA_ ?_ _));exact BK226.out)) : gb226 ≠ gb230));have n7_ := aM_ ((by rw [hg];exact Nat.ne_of_gt (blk_lt (g := gb226) (o := .cells #[.int .i64 t223,.int .i64 t224] 34 (0,0)) (by (with_reducible repeat (first | refine kN_ ?_ _ | refine kD_ ?_ | refine kA_ ?_ _));exact BK226.out)) : gb230 ≠ gb226));clear HO222;clear BK226;clear HB;have HO222 := n0_;have BK226 := n1_;have HB := n2_;have BK230 := n3_;have GW230 := n4_;have GE230 := n5_;have NB226_230 := n6_;have NB230_226 := n7_;clear n0_ n1_ n2_ n3_ n4_ n5_ n6_ n7_;clear hb hbox hg;have hnb29 := NB230_226.out;have hnc29 := NB226_230.out;have hcz30_0 : w28.cell? ⟨gb230,0,none⟩ = some (.int .i64 0) := (blk_cell BK230.out 0).trans rfl;have hcz30_1 : w28.cell? ⟨gb230,1,none⟩ = some (.int .i64 0) := (blk_cell BK230.out 1).trans rfl;have hfz30_0 := blk_frozen BK230.out 0;have hfz30_1 := blk_frozen BK230.out 1) | ((with_reducible refine gate_callee (f := 24) rfl ?_);refine goesL_ (some 17) rfl rfl Try.func24 (by kernel_rfl) rfl #[.int .i64 10,.int .i64 20] rfl (by (try simp only [List.map_toArray,List.map_cons,List.map_nil]);first | done | rfl) ?_;(with_reducible refine (L_span.calls 10 20 t231 t232 _ A4.out).mono ?_);rintro e w31 ⟨rfl,hb⟩;refine ⟨_,rfl,?_⟩;have n0_ := aM_ (Kd.R_below (by (with_reducible repeat (first | apply Kd.R_alloc | apply Kd.R_drewN | apply Kd.R_drew));exact (Kd.R_mono (Kd.R_far (p := ⟨gb230,1,none⟩) (Kd.R_far (p := ⟨gb230,0,none⟩) (Kd.R_types HO222.out BK230.out (by decide)) (fun _ hk => hk.2) (.int .i64 t227)) (fun _ hk => hk.2) (.int .i64 t228)) (fun _ h_ => h_.1))) hb);have n1_ := aM_ (kB_ (g := gb226) (o := .cells #[.int .i64 t223,.int .i64 t224] 34 (0,0)) (by (with_reducible repeat (first | refine kN_ ?_ _ | refine kD_ ?_ | refine kA_ ?_ _));refine blk_far ?_ NB226_230.out _;(with_reducible repeat (first | refine kN_ ?_ _ | refine kD_ ?_ | refine kA_ ?_ _));refine blk_far ?_ NB226_230.out _;(with_reducible repeat (first | refine kN_ ?_ _ | refine kD_ ?_ | refine kA_ ?_ _));exact BK226.out) hb);have n2_ := aM_ (kB_ (g := gb230) (o := .cells #[.int .i64 t227,.int .i64 t228] 73 (0,0)) (by (with_reducible repeat (first | refine kN_ ?_ _ | refine kD_ ?_ | refine kA_ ?_ _));refine blk_put (cs := #[.int .i64 t227,.int .i64 0]) ?_ 1 _ rfl;(with_reducible repeat (first | refine kN_ ?_ _ | refine kD_ ?_ | refine kA_ ?_ _));refine blk_put (cs := #[.int .i64 0,.int .i64 0]) ?_ 0 _ rfl;(with_reducible repeat (first | refine kN_ ?_ _ | refine kD_ ?_ | refine kA_ ?_ _));exact BK230.out) hb);have n3_ := aM_ (bT_ (by repeat (first | (with_reducible first | exact HB.out | apply bA_ | apply bN_ | apply bD_ | refine bS_ ?_ GE226.out | refine bS_ ?_ GE230.out) | exact HB.out)) hb);clear HO222;clear BK226;clear BK230;clear HB;have HO222 := n0_;have BK226 := n1_;have BK230 := n2_;have HB := n3_;clear n0_ n1_ n2_ n3_;(try clear hb);(try clear hb2);(try clear hk);(try clear hi)) | ((with_reducible refine gate_callee (f := 24) rfl ?_);refine goesL_ (some 18) rfl rfl Try.func24 (by kernel_rfl) rfl #[.int .i64 0,.int .i64 1] rfl (by (try simp only [List.map_toArray,List.map_cons,List.map_nil]);first | done | rfl) ?_;(with_reducible refine (L_span.calls 0 1 t233 t234 _ A5.out).mono ?_);rintro e w32 ⟨rfl,hb⟩;refine ⟨_,rfl,?_⟩;have n0_ := aM_ (Kd.R_below (by (with_reducible repeat (first | apply Kd.R_alloc | apply Kd.R_drewN | apply Kd.R_drew));exact HO222.out) hb);have n1_ := aM_ (kB_ (g := gb226) (o := .cells #[.int .i64 t223,.int .i64 t224] 34 (0,0)) (by (with_reducible repeat (first | refine kN_ ?_ _ | refine kD_ ?_ | refine kA_ ?_ _));exact BK226.out) hb);have n2_ := aM_ (kB_ (g := gb230) (o := .cells #[.int .i64 t227,.int .i64 t228] 73 (0,0)) (by (with_reducible repeat (first | refine kN_ ?_ _ | refine kD_ ?_ | refine kA_ ?_ _));exact BK230.out) hb);have n3_ := aM_ (bT_ (by repeat (first | (with_reducible first | exact HB.out | apply bA_ | apply bN_ | apply bD_ | refine bS_ ?_ GE226.out | refine bS_ ?_ GE230.out) | exact HB.out)) hb);clear HO222;clear BK226;clear BK230;clear HB;have HO222 := n0_;have BK226 := n1_;have BK230 := n2_;have HB := n3_;clear n0_ n1_ n2_ n3_;(try clear hb);(try clear hb2);(try clear hk);(try clear hi)) | ((with_reducible refine gate_callee (f := 24) rfl ?_);refine goesL_ (some 19) rfl rfl Try.func24 (by kernel_rfl) rfl #[.int .i64 0,.int .i64 25] rfl (by (try simp only [List.map_toArray,List.map_cons,List.map_nil]);first | done | rfl) ?_;(with_reducible refine (L_span.calls 0 25 t235 t236 _ A6.out).mono ?_);rintro e w33 ⟨rfl,hb⟩;refine ⟨_,rfl,?_⟩;have n0_ := aM_ (Kd.R_below (by (with_reducible repeat (first | apply Kd.R_alloc | apply Kd.R_drewN | apply Kd.R_drew));exact HO222.out) hb);have n1_ := aM_ (kB_ (g := gb226) (o := .cells #[.int .i64 t223,.int .i64 t224] 34 (0,0)) (by (with_reducible repeat (first | refine kN_ ?_ _ | refine kD_ ?_ | refine kA_ ?_ _));exact BK226.out) hb);have n2_ := aM_ (kB_ (g := gb230) (o := .cells #[.int .i64 t227,.int .i64 t228] 73 (0,0)) (by (with_reducible repeat (first | refine kN_ ?_ _ | refine kD_ ?_ | refine kA_ ?_ _));exact BK230.out) hb);have n3_ := aM_ (bT_ (by repeat (first | (with_reducible first | exact HB.out | apply bA_ | apply bN_ | apply bD_ | refine bS_ ?_ GE226.out | refine bS_ ?_ GE230.out) | exact HB.out)) hb);clear HO222;clear BK226;clear BK230;clear HB;have HO222 := n0_;have BK226 := n1_;have BK230 := n2_;have HB := n3_;clear n0_ n1_ n2_ n3_;(try clear hb);(try clear hb2);(try clear hk);(try clear hi)) | ((with_reducible refine gate_callee (f := 47) rfl ?_);refine goesL_ (some 20) rfl rfl Try.func47 (by kernel_rfl) rfl #[.agg #[.int .i64 t231,.int .i64 t232],.agg #[.int .i64 t233,.int .i64 t234],.agg #[.int .i64 t235,.int .i64 t236]] rfl (by (try simp only [List.map_toArray,List.map_cons,List.map_nil]);first | done | rfl) ?_;(with_reducible refine (gauge_Keeps.calls t231 t232 t233 t234 t235 t236 t237 t238 t239 _ A7.out).mono ?_);rintro e w34 ⟨rfl,hb⟩;refine ⟨_,rfl,?_⟩;have n0_ := aM_ (Kd.R_below (by (with_reducible repeat (first | apply Kd.R_alloc | apply Kd.R_drewN | apply Kd.R_drew));exact HO222.out) hb);have n1_ := aM_ (kB_ (g := gb226) (o := .cells #[.int .i64 t223,.int .i64 t224] 34 (0,0)) (by (with_reducible repeat (first | refine kN_ ?_ _ | refine kD_ ?_ | refine kA_ ?_ _));exact BK226.out) hb);have n2_ := aM_ (kB_ (g := gb230) (o := .cells #[.int .i64 t227,.int .i64 t228] 73 (0,0)) (by (with_reducible repeat (first | refine kN_ ?_ _ | refine kD_ ?_ | refine kA_ ?_ _));exact BK230.out) hb);have n3_ := aM_ (bT_ (by repeat (first | (with_reducible first | exact HB.out | apply bA_ | apply bN_ | apply bD_ | refine bS_ ?_ GE226.out | refine bS_ ?_ GE230.out) | exact HB.out)) hb);clear HO222;clear BK226;clear BK230;clear HB;have HO222 := n0_;have BK226 := n1_;have BK230 := n2_;have HB := n3_;clear n0_ n1_ n2_ n3_;(try clear hb);(try clear hb2);(try clear hk);(try clear hi)) | ((with_reducible refine gate_dst (N := 5) rfl ?_);refine box_event ?hg (N := 5) ?hd (cs := #[.int .i64 0,.int .i64 0]) (t := 34) ?hr ?_;(case hd => rfl);(case hg => rfl);(case hr => first | (go_simp;done) | (go_simp;rfl));intro gb240 hg w35 hbox hb;have n0_ := aM_ (Kd.R_below (by (with_reducible repeat (first | apply Kd.R_alloc | apply Kd.R_drewN | apply Kd.R_drew));exact HO222.out) hb);have n1_ := aM_ (kB_ (g := gb226) (o := .cells #[.int .i64 t223,.int .i64 t224] 34 (0,0)) (by (with_reducible repeat (first | refine kN_ ?_ _ | refine kD_ ?_ | refine kA_ ?_ _));exact BK226.out) hb);have n2_ := aM_ (kB_ (g := gb230) (o := .cells #[.int .i64 t227,.int .i64 t228] 73 (0,0)) (by (with_reducible repeat (first | refine kN_ ?_ _ | refine kD_ ?_ | refine kA_ ?_ _));exact BK230.out) hb);have n3_ := aM_ (bT_ (by repeat (first | (with_reducible first | exact HB.out | apply bA_ | apply bN_ | apply bD_ | refine bS_ ?_ GE226.out | refine bS_ ?_ GE230.out) | exact HB.out)) hb);have n4_ := aM_ (hbox);have n5_ := aM_ ((by rw [hg];exact (below_size (by repeat (first | (with_reducible first | exact HB.out | apply bA_ | apply bN_ | apply bD_ | refine bS_ ?_ GE226.out | refine bS_ ?_ GE230.out) | exact HB.out))) : w.heap.size ≤ gb240));have n6_ := aM_ ((by rw [hg];exact (below_size (by repeat (first | (with_reducible first | exact HB.out | apply bA_ | apply bN_ | apply bD_ | refine bS_ ?_ GE226.out | refine bS_ ?_ GE230.out) | exact HB.out))) : w.heap.size ≤ gb240));have n7_ := aM_ ((by rw [hg];exact Nat.ne_of_lt (blk_lt (g := gb226) (o := .cells #[.int .i64 t223,.int .i64 t224] 34 (0,0)) (by (with_reducible repeat (first | refine kN_ ?_ _ | refine kD_ ?_ | refine kA_ ?_ _));exact BK226.out)) : gb226 ≠ gb240));have n8_ := aM_ ((by rw [hg];exact Nat.ne_of_gt (blk_lt (g := gb226) (o := .cells #[.int .i64 t223,.int .i64 t224] 34 (0,0)) (by (with_reducible repeat (first | refine kN_ ?_ _ | refine kD_ ?_ | refine kA_ ?_ _));exact BK226.out)) : gb240 ≠ gb226));have n9_ := aM_ ((by rw [hg];exact Nat.ne_of_lt (blk_lt (g := gb230) (o := .cells #[.int .i64 t227,.int .i64 t228] 73 (0,0)) (by (with_reducible repeat (first | refine kN_ ?_ _ | refine kD_ ?_ | refine kA_ ?_ _));exact BK230.out)) : gb230 ≠ gb240));have n10_ := aM_ ((by rw [hg];exact Nat.ne_of_gt (blk_lt (g := gb230) (o := .cells #[.int .i64 t227,.int .i64 t228] 73 (0,0)) (by (with_reducible repeat (first | refine kN_ ?_ _ | refine kD_ ?_ | refine kA_ ?_ _));exact BK230.out)) : gb240 ≠ gb230));clear HO222;clear BK226;clear BK230;clear HB;have HO222 := n0_;have BK226 := n1_;have BK230 := n2_;have HB := n3_;have BK240 := n4_;have GW240 := n5_;have GE240 := n6_;have NB226_240 := n7_;have NB240_226 := n8_;have NB230_240 := n9_;have NB240_230 := n10_;clear n0_ n1_ n2_ n3_ n4_ n5_ n6_ n7_ n8_ n9_ n10_;clear hb hbox hg;have hnb36 := NB240_226.out;have hnc36 := NB226_240.out;have hnb37 := NB240_230.out;have hnc37 := NB230_240.out;have hcz38_0 : w35.cell? ⟨gb240,0,none⟩ = some (.int .i64 0) := (blk_cell BK240.out 0).trans rfl;have hcz38_1 : w35.cell? ⟨gb240,1,none⟩ = some (.int .i64 0) := (blk_cell BK240.out 1).trans rfl;have hfz38_0 := blk_frozen BK240.out 0;have hfz38_1 := blk_frozen BK240.out 1))
         have n0_ : Aside0 (Kd.R k49 49 ((w35.setCell ⟨gb240,0,none⟩ (.int .i64 t237)).setCell ⟨gb240,1,none⟩ (.int .i64 t238)) w.heap.size (fun _ => True) (.slice Ao23 t220.length co23) t220) := ⟨by (with_reducible repeat (first | apply Kd.R_alloc | apply Kd.R_drewN | apply Kd.R_drew));exact Kd.R_mono (Kd.R_far (p := ⟨gb240,1,none⟩) (Kd.R_far (p := ⟨gb240,0,none⟩) (Kd.R_types HO222.out BK240.out (by decide)) (fun _ hk => hk.2) (.int .i64 t237)) (fun _ hk => hk.2) (.int .i64 t238)) (fun _ hk => trivial)⟩
         have n1_ : Aside0 (((w35.setCell ⟨gb240,0,none⟩ (.int .i64 t237)).setCell ⟨gb240,1,none⟩ (.int .i64 t238)).heap[gb226]? = some (.cells #[.int .i64 t223,.int .i64 t224] 34 (0,0))) := ⟨by (with_reducible repeat (first | refine kN_ ?_ _ | refine kD_ ?_ | refine kA_ ?_ _));refine blk_far ?_ NB226_240.out _;(with_reducible repeat (first | refine kN_ ?_ _ | refine kD_ ?_ | refine kA_ ?_ _));refine blk_far ?_ NB226_240.out _;(with_reducible repeat (first | refine kN_ ?_ _ | refine kD_ ?_ | refine kA_ ?_ _));exact BK226.out⟩
         have n2_ : Aside0 (((w35.setCell ⟨gb240,0,none⟩ (.int .i64 t237)).setCell ⟨gb240,1,none⟩ (.int .i64 t238)).heap[gb230]? = some (.cells #[.int .i64 t227,.int .i64 t228] 73 (0,0))) := ⟨by (with_reducible repeat (first | refine kN_ ?_ _ | refine kD_ ?_ | refine kA_ ?_ _));refine blk_far ?_ NB230_240.out _;(with_reducible repeat (first | refine kN_ ?_ _ | refine kD_ ?_ | refine kA_ ?_ _));refine blk_far ?_ NB230_240.out _;(with_reducible repeat (first | refine kN_ ?_ _ | refine kD_ ?_ | refine kA_ ?_ _));exact BK230.out⟩
         have n3_ : Aside0 (((w35.setCell ⟨gb240,0,none⟩ (.int .i64 t237)).setCell ⟨gb240,1,none⟩ (.int .i64 t238)).heap[gb240]? = some (.cells #[.int .i64 t237,.int .i64 t238] 34 (0,0))) := ⟨by (with_reducible repeat (first | refine kN_ ?_ _ | refine kD_ ?_ | refine kA_ ?_ _));refine blk_put (cs := #[.int .i64 t237,.int .i64 0]) ?_ 1 _ rfl;(with_reducible repeat (first | refine kN_ ?_ _ | refine kD_ ?_ | refine kA_ ?_ _));refine blk_put (cs := #[.int .i64 0,.int .i64 0]) ?_ 0 _ rfl;(with_reducible repeat (first | refine kN_ ?_ _ | refine kD_ ?_ | refine kA_ ?_ _));exact BK240.out⟩
         have n4_ : Aside0 (Below w.heap.size w ((w35.setCell ⟨gb240,0,none⟩ (.int .i64 t237)).setCell ⟨gb240,1,none⟩ (.int .i64 t238))) := ⟨by repeat (first | (with_reducible first | exact HB.out | apply bA_ | apply bN_ | apply bD_ | refine bS_ ?_ GE226.out | refine bS_ ?_ GE230.out | refine bS_ ?_ GE240.out) | exact HB.out)⟩
         (try clear HO222)
         (try clear BK226)
         (try clear BK230)
         (try clear BK240)
         (try clear HB)
         generalize ((w35.setCell ⟨gb240,0,none⟩ (.int .i64 t237)).setCell ⟨gb240,1,none⟩ (.int .i64 t238)) = w39 at n0_ n1_ n2_ n3_ n4_ ⊢
         have HO222 := n0_
         have BK226 := n1_
         have BK230 := n2_
         have BK240 := n3_
         have HB := n4_
         clear n0_ n1_ n2_ n3_ n4_
         have n0_ := aM_ (Kd.R_drew HO222.out)
         have n1_ := aM_ (kD_ BK226.out)
         have n2_ := aM_ (kD_ BK230.out)
         have n3_ := aM_ (kD_ BK240.out)
         have n4_ := aM_ (bD_ HB.out)
         clear HO222
         clear BK226
         clear BK230
         clear BK240
         clear HB
         have HO222 := n0_
         have BK226 := n1_
         have BK230 := n2_
         have BK240 := n3_
         have HB := n4_
         clear n0_ n1_ n2_ n3_ n4_
         refine start_ (n := 37) (S := fun w' => w'.cell? ⟨gb226,0,none⟩ = some (.int .i64 t223) ∧ w'.cell? ⟨gb226,1,none⟩ = some (.int .i64 t224) ∧ w'.cell? ⟨gb230,0,none⟩ = some (.int .i64 t227) ∧ w'.cell? ⟨gb230,1,none⟩ = some (.int .i64 t228) ∧ w'.cell? ⟨gb240,0,none⟩ = some (.int .i64 t237) ∧ w'.cell? ⟨gb240,1,none⟩ = some (.int .i64 t238)) (ds := []) #[false,false,false,false,false,false,false,false,false,false,false,false,false,false,false,false,false,false,false,false,false,false,false,false,false,false,false,false,false,false,false,false,false,false,false,false,false] (by kernel_rfl) rfl rfl ⟨(blk_cell BK226.out 0).trans rfl,(blk_cell BK226.out 1).trans rfl,(blk_cell BK230.out 0).trans rfl,(blk_cell BK230.out 1).trans rfl,(blk_cell BK240.out 0).trans rfl,(blk_cell BK240.out 1).trans rfl⟩ (fun hHeld => ?_);refine with_tabW L_awake.tab4 L_awake.bits4 (fun HT_ HW_ => ?_)
         generalize w39.drew = w40 at HO222 BK226 BK230 BK240 HB hHeld ⊢
         refine pure_ (i := 0) (N := some 23) (v := ?_) (a' := ?_) #[true,false,false,false,false,false,false,false,false,false,false,false,false,false,false,false,false,false,false,false,false,false,false,false,false,false,false,false,false,false,false,false,false,false,false,false,false] rfl rfl (any_of HT_.out (by kernel_rfl)) (fun _ _ _ h => h) (Or.inl ⟨by rfl,?_⟩) ?_ ?_
         rotate_left
         ·intro w'
          go_simp
          with_reducible rfl
         rotate_left
         ·simp only [Act.put,sB_,sZ_,sS_,i64_w,i32_w]
          rfl
         refine pure_ (i := 1) (N := some 24) (v := ?_) (a' := ?_) #[true,true,false,false,false,false,false,false,false,false,false,false,false,false,false,false,false,false,false,false,false,false,false,false,false,false,false,false,false,false,false,false,false,false,false,false,false] rfl rfl (any_of HT_.out (by kernel_rfl)) (fun _ _ _ h => h) (Or.inl ⟨by rfl,?_⟩) ?_ ?_
         rotate_left
         ·intro w'
          go_simp
          with_reducible rfl
         rotate_left
         ·simp only [Act.put,sB_,sZ_,sS_,i64_w,i32_w]
          rfl
         refine pure_ (i := 2) (N := some 25) (v := ?_) (a' := ?_) #[true,true,true,false,false,false,false,false,false,false,false,false,false,false,false,false,false,false,false,false,false,false,false,false,false,false,false,false,false,false,false,false,false,false,false,false,false] rfl rfl (any_of HT_.out (by kernel_rfl)) (fun _ _ _ h => h) (Or.inl ⟨by rfl,?_⟩) ?_ ?_
         rotate_left
         ·intro w'
          go_simp
          with_reducible rfl
         rotate_left
         ·simp only [Act.put,sB_,sZ_,sS_,i64_w,i32_w]
          rfl
         refine pure_ (i := 3) (N := some 26) (v := ?_) (a' := ?_) #[true,true,true,true,false,false,false,false,false,false,false,false,false,false,false,false,false,false,false,false,false,false,false,false,false,false,false,false,false,false,false,false,false,false,false,false,false] rfl rfl (any_of HT_.out (by kernel_rfl)) (fun _ _ _ h => h) (Or.inl ⟨by rfl,?_⟩) ?_ ?_
         rotate_left
         ·intro w'
          go_simp
          with_reducible rfl
         rotate_left
         ·simp only [Act.put,sB_,sZ_,sS_,i64_w,i32_w]
          rfl
         refine pure_ (i := 4) (N := some 27) (v := ?_) (a' := ?_) #[true,true,true,true,true,false,false,false,false,false,false,false,false,false,false,false,false,false,false,false,false,false,false,false,false,false,false,false,false,false,false,false,false,false,false,false,false] rfl rfl (any_of HT_.out (by kernel_rfl)) (fun _ _ _ h => h) (Or.inl ⟨by rfl,?_⟩) ?_ ?_
         rotate_left
         ·intro w'
          go_simp
          with_reducible rfl
         rotate_left
         ·simp only [Act.put,sB_,sZ_,sS_,i64_w,i32_w]
          rfl
         refine pure_ (i := 5) (N := some 28) (v := ?_) (a' := ?_) #[true,true,true,true,true,true,false,false,false,false,false,false,false,false,false,false,false,false,false,false,false,false,false,false,false,false,false,false,false,false,false,false,false,false,false,false,false] rfl rfl (any_of HT_.out (by kernel_rfl)) (fun _ _ _ h => h) (Or.inl ⟨by rfl,?_⟩) ?_ ?_
         rotate_left
         ·intro w'
          go_simp
          with_reducible rfl
         rotate_left
         ·simp only [Act.put,sB_,sZ_,sS_,i64_w,i32_w]
          rfl
         refine pure_ (i := 6) (N := some 29) (v := ?_) (a' := ?_) #[true,true,true,true,true,true,true,false,false,false,false,false,false,false,false,false,false,false,false,false,false,false,false,false,false,false,false,false,false,false,false,false,false,false,false,false,false] rfl rfl (any_of HT_.out (by kernel_rfl)) (fun _ _ _ h => h) (Or.inl ⟨by rfl,?_⟩) ?_ ?_
         rotate_left
         ·intro w'
          go_simp
          with_reducible rfl
         rotate_left
         ·simp only [Act.put,sB_,sZ_,sS_,i64_w,i32_w]
          rfl
         refine pure_ (i := 7) (N := some 30) (v := ?_) (a' := ?_) #[true,true,true,true,true,true,true,true,false,false,false,false,false,false,false,false,false,false,false,false,false,false,false,false,false,false,false,false,false,false,false,false,false,false,false,false,false] rfl rfl (any_of HT_.out (by kernel_rfl)) (fun _ _ _ h => h) (Or.inl ⟨by rfl,?_⟩) ?_ ?_
         rotate_left
         ·intro w'
          go_simp
          with_reducible rfl
         rotate_left
         ·simp only [Act.put,sB_,sZ_,sS_,i64_w,i32_w]
          rfl
         refine pure_ (i := 8) (N := some 31) (v := ?_) (a' := ?_) #[true,true,true,true,true,true,true,true,true,false,false,false,false,false,false,false,false,false,false,false,false,false,false,false,false,false,false,false,false,false,false,false,false,false,false,false,false] rfl rfl (any_of HT_.out (by kernel_rfl)) (fun _ _ _ h => h) (Or.inl ⟨by rfl,?_⟩) ?_ ?_
         rotate_left
         ·intro w'
          go_simp
          with_reducible rfl
         rotate_left
         ·simp only [Act.put,sB_,sZ_,sS_,i64_w,i32_w]
          rfl
         refine pure_ (i := 9) (N := some 32) (v := ?_) (a' := ?_) #[true,true,true,true,true,true,true,true,true,true,false,false,false,false,false,false,false,false,false,false,false,false,false,false,false,false,false,false,false,false,false,false,false,false,false,false,false] rfl rfl (any_of HT_.out (by kernel_rfl)) (fun _ _ _ h => h) (Or.inl ⟨by rfl,?_⟩) ?_ ?_
         rotate_left
         ·intro w'
          go_simp
          with_reducible rfl
         rotate_left
         ·simp only [Act.put,sB_,sZ_,sS_,i64_w,i32_w]
          rfl
         refine pure_ (i := 10) (N := some 33) (v := ?_) (a' := ?_) #[true,true,true,true,true,true,true,true,true,true,true,false,false,false,false,false,false,false,false,false,false,false,false,false,false,false,false,false,false,false,false,false,false,false,false,false,false] rfl rfl (any_of HT_.out (by kernel_rfl)) (fun _ _ _ h => h) (Or.inl ⟨by rfl,?_⟩) ?_ ?_
         rotate_left
         ·intro w'
          go_simp
          with_reducible rfl
         rotate_left
         ·simp only [Act.put,sB_,sZ_,sS_,i64_w,i32_w]
          rfl
         refine take_ (i := 11) (N := some 34) (v := ?_) (a' := ?_) #[true,true,true,true,true,true,true,true,true,true,true,true,false,false,false,false,false,false,false,false,false,false,false,false,false,false,false,false,false,false,false,false,false,false,false,false,false] rfl rfl (take_ofW HT_.out HW_.out (by kernel_rfl)) (fun _ _ _ h => h) (Or.inl ⟨by rfl,?_⟩) hHeld ?_ ?_
         rotate_left
         ·rintro w' ⟨s0,s1,s2,s3,s4,s5⟩
          go_simp
          with_reducible rfl
         rotate_left
         ·simp only [Act.put,sB_,sZ_,sS_,i64_w,i32_w]
          rfl
         refine one_ (i := 12) (N := some 35) #[true,true,true,true,true,true,true,true,true,true,true,true,true,false,false,false,false,false,false,false,false,false,false,false,false,false,false,false,false,false,false,false,false,false,false,false,false] rfl rfl (one_of HT_.out (by kernel_rfl)) (by decide) (fun K hK => ?_)
         refine goes_ Try.func24 (by kernel_rfl) rfl #[.int .i64 985,.int .i64 1016] (by rfl) rfl rfl (by (try simp only [List.map_toArray,List.map_cons,List.map_nil]);first | done | rfl) ?_
         with_reducible refine (L_span.calls 985 1016 t241 t242 _ A11.out).mono ?_
         rintro e w41 ⟨rfl,hb⟩
         refine ⟨_,rfl,?_⟩
         have n0_ := aM_ (Kd.R_below (by (with_reducible repeat (first | apply Kd.R_alloc | apply Kd.R_drewN | apply Kd.R_drew));exact HO222.out) hb)
         have n1_ := aM_ (kB_ (g := gb226) (o := .cells #[.int .i64 t223,.int .i64 t224] 34 (0,0)) (by (with_reducible repeat (first | refine kN_ ?_ _ | refine kD_ ?_ | refine kA_ ?_ _));exact BK226.out) hb)
         have n2_ := aM_ (kB_ (g := gb230) (o := .cells #[.int .i64 t227,.int .i64 t228] 73 (0,0)) (by (with_reducible repeat (first | refine kN_ ?_ _ | refine kD_ ?_ | refine kA_ ?_ _));exact BK230.out) hb)
         have n3_ := aM_ (kB_ (g := gb240) (o := .cells #[.int .i64 t237,.int .i64 t238] 34 (0,0)) (by (with_reducible repeat (first | refine kN_ ?_ _ | refine kD_ ?_ | refine kA_ ?_ _));exact BK240.out) hb)
         have n4_ := aM_ (bT_ (by repeat (first | (with_reducible first | exact HB.out | apply bA_ | apply bN_ | apply bD_ | refine bS_ ?_ GE226.out | refine bS_ ?_ GE230.out | refine bS_ ?_ GE240.out) | exact HB.out)) hb)
         clear HO222
         clear BK226
         clear BK230
         clear BK240
         clear HB
         have HO222 := n0_
         have BK226 := n1_
         have BK230 := n2_
         have BK240 := n3_
         have HB := n4_
         clear n0_ n1_ n2_ n3_ n4_
         (try clear hb)
         (try clear hb2)
         (try clear hk)
         (try clear hi)
         refine hK.out _ _ ⟨(blk_cell BK226.out 0).trans rfl,(blk_cell BK226.out 1).trans rfl,(blk_cell BK230.out 0).trans rfl,(blk_cell BK230.out 1).trans rfl,(blk_cell BK240.out 0).trans rfl,(blk_cell BK240.out 1).trans rfl⟩ (fun hHeld => ?_)
         clear hK K
         refine norm_ (a' := ?_) ?_ ?_
         rotate_left
         ·show Act.put _ (some 35) _ = _
          simp only [Act.put,sB_,sZ_,sS_,i64_w,i32_w]
          rfl
         refine pure_ (i := 13) (N := some 36) (v := ?_) (a' := ?_) #[true,true,true,true,true,true,true,true,true,true,true,true,true,true,false,false,false,false,false,false,false,false,false,false,false,false,false,false,false,false,false,false,false,false,false,false,false] rfl rfl (any_of HT_.out (by kernel_rfl)) (fun _ _ _ h => h) (Or.inl ⟨by rfl,?_⟩) ?_ ?_
         rotate_left
         ·intro w'
          go_simp
          with_reducible rfl
         rotate_left
         ·simp only [Act.put,sB_,sZ_,sS_,i64_w,i32_w]
          rfl
         refine pure_ (i := 14) (N := some 37) (v := ?_) (a' := ?_) #[true,true,true,true,true,true,true,true,true,true,true,true,true,true,true,false,false,false,false,false,false,false,false,false,false,false,false,false,false,false,false,false,false,false,false,false,false] rfl rfl (any_of HT_.out (by kernel_rfl)) (fun _ _ _ h => h) (Or.inl ⟨by rfl,?_⟩) ?_ ?_
         rotate_left
         ·intro w'
          go_simp
          with_reducible rfl
         rotate_left
         ·simp only [Act.put,sB_,sZ_,sS_,i64_w,i32_w]
          rfl
         refine pure_ (i := 15) (N := some 38) (v := ?_) (a' := ?_) #[true,true,true,true,true,true,true,true,true,true,true,true,true,true,true,true,false,false,false,false,false,false,false,false,false,false,false,false,false,false,false,false,false,false,false,false,false] rfl rfl (any_of HT_.out (by kernel_rfl)) (fun _ _ _ h => h) (Or.inl ⟨by rfl,?_⟩) ?_ ?_
         rotate_left
         ·intro w'
          go_simp
          with_reducible rfl
         rotate_left
         ·simp only [Act.put,sB_,sZ_,sS_,i64_w,i32_w]
          rfl
         refine pure_ (i := 17) (N := some 40) (v := ?_) (a' := ?_) #[true,true,true,true,true,true,true,true,true,true,true,true,true,true,true,true,false,true,false,false,false,false,false,false,false,false,false,false,false,false,false,false,false,false,false,false,false] rfl rfl (any_of HT_.out (by kernel_rfl)) (fun _ _ _ h => h) (Or.inl ⟨by rfl,?_⟩) ?_ ?_
         rotate_left
         ·intro w'
          go_simp
          with_reducible rfl
         rotate_left
         ·simp only [Act.put,sB_,sZ_,sS_,i64_w,i32_w]
          rfl
         refine take_ (i := 16) (N := some 39) (v := ?_) (a' := ?_) #[true,true,true,true,true,true,true,true,true,true,true,true,true,true,true,true,true,true,false,false,false,false,false,false,false,false,false,false,false,false,false,false,false,false,false,false,false] rfl rfl (take_ofW HT_.out HW_.out (by kernel_rfl)) (fun _ _ _ h => h) (Or.inl ⟨by rfl,?_⟩) hHeld ?_ ?_
         rotate_left
         ·rintro w' ⟨s0,s1,s2,s3,s4,s5⟩
          go_simp
          with_reducible rfl
         rotate_left
         ·simp only [Act.put,sB_,sZ_,sS_,i64_w,i32_w]
          rfl
         refine pure_ (i := 18) (N := some 41) (v := ?_) (a' := ?_) #[true,true,true,true,true,true,true,true,true,true,true,true,true,true,true,true,true,true,true,false,false,false,false,false,false,false,false,false,false,false,false,false,false,false,false,false,false] rfl rfl (any_of HT_.out (by kernel_rfl)) (fun _ _ _ h => h) (Or.inl ⟨by rfl,?_⟩) ?_ ?_
         rotate_left
         ·intro w'
          go_simp
          with_reducible rfl
         rotate_left
         ·simp only [Act.put,sB_,sZ_,sS_,i64_w,i32_w]
          rfl
         refine pure_ (i := 19) (N := some 42) (v := ?_) (a' := ?_) #[true,true,true,true,true,true,true,true,true,true,true,true,true,true,true,true,true,true,true,true,false,false,false,false,false,false,false,false,false,false,false,false,false,false,false,false,false] rfl rfl (any_of HT_.out (by kernel_rfl)) (fun _ _ _ h => h) (Or.inl ⟨by rfl,?_⟩) ?_ ?_
         rotate_left
         ·intro w'
          go_simp
          with_reducible rfl
         rotate_left
         ·simp only [Act.put,sB_,sZ_,sS_,i64_w,i32_w]
          rfl
         refine pure_ (i := 20) (N := some 43) (v := ?_) (a' := ?_) #[true,true,true,true,true,true,true,true,true,true,true,true,true,true,true,true,true,true,true,true,true,false,false,false,false,false,false,false,false,false,false,false,false,false,false,false,false] rfl rfl (any_of HT_.out (by kernel_rfl)) (fun _ _ _ h => h) (Or.inl ⟨by rfl,?_⟩) ?_ ?_
         rotate_left
         ·intro w'
          go_simp
          with_reducible rfl
         rotate_left
         ·simp only [Act.put,sB_,sZ_,sS_,i64_w,i32_w]
          rfl
         refine take_ (i := 21) (N := some 44) (v := ?_) (a' := ?_) #[true,true,true,true,true,true,true,true,true,true,true,true,true,true,true,true,true,true,true,true,true,true,false,false,false,false,false,false,false,false,false,false,false,false,false,false,false] rfl rfl (take_ofW HT_.out HW_.out (by kernel_rfl)) (fun _ _ _ h => h) (Or.inl ⟨by rfl,?_⟩) hHeld ?_ ?_
         rotate_left
         ·rintro w' ⟨s0,s1,s2,s3,s4,s5⟩
          go_simp
          with_reducible rfl
         rotate_left
         ·simp only [Act.put,sB_,sZ_,sS_,i64_w,i32_w]
          rfl
         refine one_ (i := 22) (N := some 45) #[true,true,true,true,true,true,true,true,true,true,true,true,true,true,true,true,true,true,true,true,true,true,true,false,false,false,false,false,false,false,false,false,false,false,false,false,false] rfl rfl (one_of HT_.out (by kernel_rfl)) (by decide) (fun K hK => ?_)
         refine goes_ Try.func24 (by kernel_rfl) rfl #[.int .i64 5000,.int .i64 1000000] (by rfl) rfl rfl (by (try simp only [List.map_toArray,List.map_cons,List.map_nil]);first | done | rfl) ?_
         with_reducible refine (L_span.calls 5000 1000000 t243 t244 _ A14.out).mono ?_
         rintro e w42 ⟨rfl,hb⟩
         refine ⟨_,rfl,?_⟩
         have n0_ := aM_ (Kd.R_below (by (with_reducible repeat (first | apply Kd.R_alloc | apply Kd.R_drewN | apply Kd.R_drew));exact HO222.out) hb)
         have n1_ := aM_ (kB_ (g := gb226) (o := .cells #[.int .i64 t223,.int .i64 t224] 34 (0,0)) (by (with_reducible repeat (first | refine kN_ ?_ _ | refine kD_ ?_ | refine kA_ ?_ _));exact BK226.out) hb)
         have n2_ := aM_ (kB_ (g := gb230) (o := .cells #[.int .i64 t227,.int .i64 t228] 73 (0,0)) (by (with_reducible repeat (first | refine kN_ ?_ _ | refine kD_ ?_ | refine kA_ ?_ _));exact BK230.out) hb)
         have n3_ := aM_ (kB_ (g := gb240) (o := .cells #[.int .i64 t237,.int .i64 t238] 34 (0,0)) (by (with_reducible repeat (first | refine kN_ ?_ _ | refine kD_ ?_ | refine kA_ ?_ _));exact BK240.out) hb)
         have n4_ := aM_ (bT_ (by repeat (first | (with_reducible first | exact HB.out | apply bA_ | apply bN_ | apply bD_ | refine bS_ ?_ GE226.out | refine bS_ ?_ GE230.out | refine bS_ ?_ GE240.out) | exact HB.out)) hb)
         clear HO222
         clear BK226
         clear BK230
         clear BK240
         clear HB
         have HO222 := n0_
         have BK226 := n1_
         have BK230 := n2_
         have BK240 := n3_
         have HB := n4_
         clear n0_ n1_ n2_ n3_ n4_
         (try clear hb)
         (try clear hb2)
         (try clear hk)
         (try clear hi)
         refine hK.out _ _ ⟨(blk_cell BK226.out 0).trans rfl,(blk_cell BK226.out 1).trans rfl,(blk_cell BK230.out 0).trans rfl,(blk_cell BK230.out 1).trans rfl,(blk_cell BK240.out 0).trans rfl,(blk_cell BK240.out 1).trans rfl⟩ (fun hHeld => ?_)
         clear hK K
         refine norm_ (a' := ?_) ?_ ?_
         rotate_left
         ·show Act.put _ (some 45) _ = _
          simp only [Act.put,sB_,sZ_,sS_,i64_w,i32_w]
          rfl
         refine pure_ (i := 23) (N := some 46) (v := ?_) (a' := ?_) #[true,true,true,true,true,true,true,true,true,true,true,true,true,true,true,true,true,true,true,true,true,true,true,true,false,false,false,false,false,false,false,false,false,false,false,false,false] rfl rfl (any_of HT_.out (by kernel_rfl)) (fun _ _ _ h => h) (Or.inl ⟨by rfl,?_⟩) ?_ ?_
         rotate_left
         ·intro w'
          go_simp
          with_reducible rfl
         rotate_left
         ·simp only [Act.put,sB_,sZ_,sS_,i64_w,i32_w]
          rfl
         refine pure_ (i := 24) (N := some 47) (v := ?_) (a' := ?_) #[true,true,true,true,true,true,true,true,true,true,true,true,true,true,true,true,true,true,true,true,true,true,true,true,true,false,false,false,false,false,false,false,false,false,false,false,false] rfl rfl (any_of HT_.out (by kernel_rfl)) (fun _ _ _ h => h) (Or.inl ⟨by rfl,?_⟩) ?_ ?_
         rotate_left
         ·intro w'
          go_simp
          with_reducible rfl
         rotate_left
         ·simp only [Act.put,sB_,sZ_,sS_,i64_w,i32_w]
          rfl
         refine pure_ (i := 25) (N := some 48) (v := ?_) (a' := ?_) #[true,true,true,true,true,true,true,true,true,true,true,true,true,true,true,true,true,true,true,true,true,true,true,true,true,true,false,false,false,false,false,false,false,false,false,false,false] rfl rfl (any_of HT_.out (by kernel_rfl)) (fun _ _ _ h => h) (Or.inl ⟨by rfl,?_⟩) ?_ ?_
         rotate_left
         ·intro w'
          go_simp
          with_reducible rfl
         rotate_left
         ·simp only [Act.put,sB_,sZ_,sS_,i64_w,i32_w]
          rfl
         refine one_ (i := 26) (N := some 49) #[true,true,true,true,true,true,true,true,true,true,true,true,true,true,true,true,true,true,true,true,true,true,true,true,true,true,true,false,false,false,false,false,false,false,false,false,false] rfl rfl (one_of HT_.out (by kernel_rfl)) (by decide) (fun K hK => ?_)
         refine goes_ Try.func24 (by kernel_rfl) rfl #[.int .i64 95,.int .i64 105] (by rfl) rfl rfl (by (try simp only [List.map_toArray,List.map_cons,List.map_nil]);first | done | rfl) ?_
         with_reducible refine (L_span.calls 95 105 t245 t246 _ A16.out).mono ?_
         rintro e w43 ⟨rfl,hb⟩
         refine ⟨_,rfl,?_⟩
         have n0_ := aM_ (Kd.R_below (by (with_reducible repeat (first | apply Kd.R_alloc | apply Kd.R_drewN | apply Kd.R_drew));exact HO222.out) hb)
         have n1_ := aM_ (kB_ (g := gb226) (o := .cells #[.int .i64 t223,.int .i64 t224] 34 (0,0)) (by (with_reducible repeat (first | refine kN_ ?_ _ | refine kD_ ?_ | refine kA_ ?_ _));exact BK226.out) hb)
         have n2_ := aM_ (kB_ (g := gb230) (o := .cells #[.int .i64 t227,.int .i64 t228] 73 (0,0)) (by (with_reducible repeat (first | refine kN_ ?_ _ | refine kD_ ?_ | refine kA_ ?_ _));exact BK230.out) hb)
         have n3_ := aM_ (kB_ (g := gb240) (o := .cells #[.int .i64 t237,.int .i64 t238] 34 (0,0)) (by (with_reducible repeat (first | refine kN_ ?_ _ | refine kD_ ?_ | refine kA_ ?_ _));exact BK240.out) hb)
         have n4_ := aM_ (bT_ (by repeat (first | (with_reducible first | exact HB.out | apply bA_ | apply bN_ | apply bD_ | refine bS_ ?_ GE226.out | refine bS_ ?_ GE230.out | refine bS_ ?_ GE240.out) | exact HB.out)) hb)
         clear HO222
         clear BK226
         clear BK230
         clear BK240
         clear HB
         have HO222 := n0_
         have BK226 := n1_
         have BK230 := n2_
         have BK240 := n3_
         have HB := n4_
         clear n0_ n1_ n2_ n3_ n4_
         (try clear hb)
         (try clear hb2)
         (try clear hk)
         (try clear hi)
         refine hK.out _ _ ⟨(blk_cell BK226.out 0).trans rfl,(blk_cell BK226.out 1).trans rfl,(blk_cell BK230.out 0).trans rfl,(blk_cell BK230.out 1).trans rfl,(blk_cell BK240.out 0).trans rfl,(blk_cell BK240.out 1).trans rfl⟩ (fun hHeld => ?_)
         clear hK K
         refine norm_ (a' := ?_) ?_ ?_
         rotate_left
         ·show Act.put _ (some 49) _ = _
          simp only [Act.put,sB_,sZ_,sS_,i64_w,i32_w]
          rfl
         refine one_ (i := 27) (N := some 50) #[true,true,true,true,true,true,true,true,true,true,true,true,true,true,true,true,true,true,true,true,true,true,true,true,true,true,true,true,false,false,false,false,false,false,false,false,false] rfl rfl (one_of HT_.out (by kernel_rfl)) (by decide) (fun K hK => ?_)
         refine goes_ Try.func24 (by kernel_rfl) rfl #[.int .i64 106,.int .i64 200] (by rfl) rfl rfl (by (try simp only [List.map_toArray,List.map_cons,List.map_nil]);first | done | rfl) ?_
         with_reducible refine (L_span.calls 106 200 t247 t248 _ A17.out).mono ?_
         rintro e w44 ⟨rfl,hb⟩
         refine ⟨_,rfl,?_⟩
         have n0_ := aM_ (Kd.R_below (by (with_reducible repeat (first | apply Kd.R_alloc | apply Kd.R_drewN | apply Kd.R_drew));exact HO222.out) hb)
         have n1_ := aM_ (kB_ (g := gb226) (o := .cells #[.int .i64 t223,.int .i64 t224] 34 (0,0)) (by (with_reducible repeat (first | refine kN_ ?_ _ | refine kD_ ?_ | refine kA_ ?_ _));exact BK226.out) hb)
         have n2_ := aM_ (kB_ (g := gb230) (o := .cells #[.int .i64 t227,.int .i64 t228] 73 (0,0)) (by (with_reducible repeat (first | refine kN_ ?_ _ | refine kD_ ?_ | refine kA_ ?_ _));exact BK230.out) hb)
         have n3_ := aM_ (kB_ (g := gb240) (o := .cells #[.int .i64 t237,.int .i64 t238] 34 (0,0)) (by (with_reducible repeat (first | refine kN_ ?_ _ | refine kD_ ?_ | refine kA_ ?_ _));exact BK240.out) hb)
         have n4_ := aM_ (bT_ (by repeat (first | (with_reducible first | exact HB.out | apply bA_ | apply bN_ | apply bD_ | refine bS_ ?_ GE226.out | refine bS_ ?_ GE230.out | refine bS_ ?_ GE240.out) | exact HB.out)) hb)
         clear HO222
         clear BK226
         clear BK230
         clear BK240
         clear HB
         have HO222 := n0_
         have BK226 := n1_
         have BK230 := n2_
         have BK240 := n3_
         have HB := n4_
         clear n0_ n1_ n2_ n3_ n4_
         (try clear hb)
         (try clear hb2)
         (try clear hk)
         (try clear hi)
         refine hK.out _ _ ⟨(blk_cell BK226.out 0).trans rfl,(blk_cell BK226.out 1).trans rfl,(blk_cell BK230.out 0).trans rfl,(blk_cell BK230.out 1).trans rfl,(blk_cell BK240.out 0).trans rfl,(blk_cell BK240.out 1).trans rfl⟩ (fun hHeld => ?_)
         clear hK K
         refine norm_ (a' := ?_) ?_ ?_
         rotate_left
         ·show Act.put _ (some 50) _ = _
          simp only [Act.put,sB_,sZ_,sS_,i64_w,i32_w]
          rfl
         refine one_ (i := 28) (N := some 51) #[true,true,true,true,true,true,true,true,true,true,true,true,true,true,true,true,true,true,true,true,true,true,true,true,true,true,true,true,true,false,false,false,false,false,false,false,false] rfl rfl (one_of HT_.out (by kernel_rfl)) (by decide) (fun K hK => ?_)
         refine goes_ Try.func20 (by kernel_rfl) rfl #[.agg #[.int .i64 t245,.int .i64 t246],.agg #[.int .i64 t247,.int .i64 t248]] (by rfl) rfl rfl (by (try simp only [List.map_toArray,List.map_cons,List.map_nil]);first | done | rfl) ?_
         with_reducible refine (gauge_Verdict.calls k t245 t246 t247 t248 t249 _ A18.out).mono ?_
         rintro e w45 ⟨rfl,hb⟩
         refine ⟨_,rfl,?_⟩
         have n0_ := aM_ (Kd.R_below (by (with_reducible repeat (first | apply Kd.R_alloc | apply Kd.R_drewN | apply Kd.R_drew));exact HO222.out) hb)
         have n1_ := aM_ (kB_ (g := gb226) (o := .cells #[.int .i64 t223,.int .i64 t224] 34 (0,0)) (by (with_reducible repeat (first | refine kN_ ?_ _ | refine kD_ ?_ | refine kA_ ?_ _));exact BK226.out) hb)
         have n2_ := aM_ (kB_ (g := gb230) (o := .cells #[.int .i64 t227,.int .i64 t228] 73 (0,0)) (by (with_reducible repeat (first | refine kN_ ?_ _ | refine kD_ ?_ | refine kA_ ?_ _));exact BK230.out) hb)
         have n3_ := aM_ (kB_ (g := gb240) (o := .cells #[.int .i64 t237,.int .i64 t238] 34 (0,0)) (by (with_reducible repeat (first | refine kN_ ?_ _ | refine kD_ ?_ | refine kA_ ?_ _));exact BK240.out) hb)
         have n4_ := aM_ (bT_ (by repeat (first | (with_reducible first | exact HB.out | apply bA_ | apply bN_ | apply bD_ | refine bS_ ?_ GE226.out | refine bS_ ?_ GE230.out | refine bS_ ?_ GE240.out) | exact HB.out)) hb)
         clear HO222
         clear BK226
         clear BK230
         clear BK240
         clear HB
         have HO222 := n0_
         have BK226 := n1_
         have BK230 := n2_
         have BK240 := n3_
         have HB := n4_
         clear n0_ n1_ n2_ n3_ n4_
         (try clear hb)
         (try clear hb2)
         (try clear hk)
         (try clear hi)
         refine hK.out _ _ ⟨(blk_cell BK226.out 0).trans rfl,(blk_cell BK226.out 1).trans rfl,(blk_cell BK230.out 0).trans rfl,(blk_cell BK230.out 1).trans rfl,(blk_cell BK240.out 0).trans rfl,(blk_cell BK240.out 1).trans rfl⟩ (fun hHeld => ?_)
         clear hK K
         refine norm_ (a' := ?_) ?_ ?_
         rotate_left
         ·show Act.put _ (some 51) _ = _
          simp only [Act.put,sB_,sZ_,sS_,i64_w,i32_w]
          rfl
         refine pure_ (i := 29) (N := some 52) (v := ?_) (a' := ?_) #[true,true,true,true,true,true,true,true,true,true,true,true,true,true,true,true,true,true,true,true,true,true,true,true,true,true,true,true,true,true,false,false,false,false,false,false,false] rfl rfl (any_of HT_.out (by kernel_rfl)) (fun _ _ _ h => h) (Or.inl ⟨by rfl,?_⟩) ?_ ?_
         rotate_left
         ·intro w'
          go_simp
          with_reducible rfl
         rotate_left
         ·simp only [Act.put,sB_,sZ_,sS_,i64_w,i32_w]
          rfl
         refine pure_ (i := 30) (N := some 53) (v := ?_) (a' := ?_) #[true,true,true,true,true,true,true,true,true,true,true,true,true,true,true,true,true,true,true,true,true,true,true,true,true,true,true,true,true,true,true,false,false,false,false,false,false] rfl rfl (any_of HT_.out (by kernel_rfl)) (fun _ _ _ h => h) (Or.inl ⟨by rfl,?_⟩) ?_ ?_
         rotate_left
         ·intro w'
          go_simp
          with_reducible rfl
         rotate_left
         ·simp only [Act.put,sB_,sZ_,sS_,i64_w,i32_w]
          rfl
         refine pure_ (i := 31) (N := some 54) (v := ?_) (a' := ?_) #[true,true,true,true,true,true,true,true,true,true,true,true,true,true,true,true,true,true,true,true,true,true,true,true,true,true,true,true,true,true,true,true,false,false,false,false,false] rfl rfl (any_of HT_.out (by kernel_rfl)) (fun _ _ _ h => h) (Or.inl ⟨by rfl,?_⟩) ?_ ?_
         rotate_left
         ·intro w'
          go_simp
          with_reducible rfl
         rotate_left
         ·simp only [Act.put,sB_,sZ_,sS_,i64_w,i32_w]
          rfl
         refine one_ (i := 32) (N := some 55) #[true,true,true,true,true,true,true,true,true,true,true,true,true,true,true,true,true,true,true,true,true,true,true,true,true,true,true,true,true,true,true,true,true,false,false,false,false] rfl rfl (one_of HT_.out (by kernel_rfl)) (by decide) (fun K hK => ?_)
         refine Kd.R_make_step k49 _ 49 (by rfl) (N := 55) rfl 25 _ _ rfl 13 rfl rfl Try.underlying25 (.agg #[(.int .i64 0),(.int .i64 0),(.int .i64 0),(.int .i64 0),(.int .i64 0),(.int .i64 0),(.int .i64 0)]) 56 info49 rfl (by decide) (by omega) z49 (ok := fun _ => True) (okp := fun _ => True) (k49_mkM _ _ _ z49 ) (fun _ hk => hk) trivial (by omega) (by omega) (Below.refl _ _) (Nat.le_refl _) ?_
         intro v251 w46 ho47 hb hg_ hnew_
         clear hg_ hnew_
         (first | rw [← Ny250.out] at ho47 | (simp only [Int.reduceToNat] at ho47;rw [← Ny250.out] at ho47))
         have n0_ := aM_ (Kd.R_elder' (by (with_reducible repeat (first | apply Kd.R_alloc | apply Kd.R_drewN | apply Kd.R_drew));exact HO222.out) (Kd.R_base ho47) hb)
         have n1_ := aM_ (Kd.R_lower (Kd.R_new' ho47 (Kd.R_lt (by (with_reducible repeat (first | apply Kd.R_alloc | apply Kd.R_drewN | apply Kd.R_drew));exact HO222.out))) (below_size (by repeat (first | (with_reducible first | exact HB.out | apply bA_ | apply bN_ | apply bD_ | refine bS_ ?_ GE226.out | refine bS_ ?_ GE230.out | refine bS_ ?_ GE240.out) | exact HB.out))))
         have n2_ := aM_ (kB_ (g := gb226) (o := .cells #[.int .i64 t223,.int .i64 t224] 34 (0,0)) (by (with_reducible repeat (first | refine kN_ ?_ _ | refine kD_ ?_ | refine kA_ ?_ _));exact BK226.out) hb)
         have n3_ := aM_ (kB_ (g := gb230) (o := .cells #[.int .i64 t227,.int .i64 t228] 73 (0,0)) (by (with_reducible repeat (first | refine kN_ ?_ _ | refine kD_ ?_ | refine kA_ ?_ _));exact BK230.out) hb)
         have n4_ := aM_ (kB_ (g := gb240) (o := .cells #[.int .i64 t237,.int .i64 t238] 34 (0,0)) (by (with_reducible repeat (first | refine kN_ ?_ _ | refine kD_ ?_ | refine kA_ ?_ _));exact BK240.out) hb)
         have n5_ := aM_ (bT_ (by repeat (first | (with_reducible first | exact HB.out | apply bA_ | apply bN_ | apply bD_ | refine bS_ ?_ GE226.out | refine bS_ ?_ GE230.out | refine bS_ ?_ GE240.out) | exact HB.out)) hb)
         clear HO222
         clear BK226
         clear BK230
         clear BK240
         clear HB
         have HO222 := n0_
         have HO252 := n1_
         have BK226 := n2_
         have BK230 := n3_
         have BK240 := n4_
         have HB := n5_
         clear n0_ n1_ n2_ n3_ n4_ n5_
         clear hb ho47
         obtain ⟨Ao48,co48,eo48⟩ := Kd.R_slice HO252.out
         (first | subst eo48 | (injection eo48 with f1_ f2_ f3_;have f4_ := f1_.symm;have f5_ := f3_.symm;clear f1_ f2_ f3_;subst f4_;subst f5_))
         refine hK.out _ _ ⟨(blk_cell BK226.out 0).trans rfl,(blk_cell BK226.out 1).trans rfl,(blk_cell BK230.out 0).trans rfl,(blk_cell BK230.out 1).trans rfl,(blk_cell BK240.out 0).trans rfl,(blk_cell BK240.out 1).trans rfl⟩ (fun hHeld => ?_)
         clear hK K
         refine norm_ (a' := ?_) ?_ ?_
         rotate_left
         ·show Act.put _ (some 55) _ = _
          simp only [Act.put,sB_,sZ_,sS_,i64_w,i32_w]
          rfl
         refine one_ (i := 33) (N := some 56) #[true,true,true,true,true,true,true,true,true,true,true,true,true,true,true,true,true,true,true,true,true,true,true,true,true,true,true,true,true,true,true,true,true,true,false,false,false] rfl rfl (one_of HT_.out (by kernel_rfl)) (by decide) (fun K hK => ?_)
         refine goes_ Try.func31 (by kernel_rfl) rfl #[.slice Ao48 y250.length co48] (by rfl) rfl rfl (by (try simp only [List.map_toArray,List.map_cons,List.map_nil]);first | done | rfl) ?_
         with_reducible refine (gauge_Check.calls _ _ y250 t253 _ ?side1 ?side2 A21.out).mono ?_
         (case side1 => repeat (first | exact (Kd.R_reads' HO252.out).2.2 | (with_reducible refine Kd.C_alloc ?_ _) | (with_reducible refine Kd.C_drewN ?_ _) | (with_reducible refine Kd.C_drew ?_)))
         (case side2 => exact (Kd.R_reads' HO252.out).2.1)
         rintro e w49 ⟨rfl,hb⟩
         refine ⟨_,rfl,?_⟩
         have n0_ := aM_ (Kd.R_below (by (with_reducible repeat (first | apply Kd.R_alloc | apply Kd.R_drewN | apply Kd.R_drew));exact HO222.out) hb)
         have n1_ := aM_ (Kd.R_below (by (with_reducible repeat (first | apply Kd.R_alloc | apply Kd.R_drewN | apply Kd.R_drew));exact HO252.out) hb)
         have n2_ := aM_ (kB_ (g := gb226) (o := .cells #[.int .i64 t223,.int .i64 t224] 34 (0,0)) (by (with_reducible repeat (first | refine kN_ ?_ _ | refine kD_ ?_ | refine kA_ ?_ _));exact BK226.out) hb)
         have n3_ := aM_ (kB_ (g := gb230) (o := .cells #[.int .i64 t227,.int .i64 t228] 73 (0,0)) (by (with_reducible repeat (first | refine kN_ ?_ _ | refine kD_ ?_ | refine kA_ ?_ _));exact BK230.out) hb)
         have n4_ := aM_ (kB_ (g := gb240) (o := .cells #[.int .i64 t237,.int .i64 t238] 34 (0,0)) (by (with_reducible repeat (first | refine kN_ ?_ _ | refine kD_ ?_ | refine kA_ ?_ _));exact BK240.out) hb)
         have n5_ := aM_ (bT_ (by repeat (first | (with_reducible first | exact HB.out | apply bA_ | apply bN_ | apply bD_ | refine bS_ ?_ GE226.out | refine bS_ ?_ GE230.out | refine bS_ ?_ GE240.out) | exact HB.out)) hb)
         clear HO222
         clear HO252
         clear BK226
         clear BK230
         clear BK240
         clear HB
         have HO222 := n0_
         have HO252 := n1_
         have BK226 := n2_
         have BK230 := n3_
         have BK240 := n4_
         have HB := n5_
         clear n0_ n1_ n2_ n3_ n4_ n5_
         (try clear hb)
         (try clear hb2)
         (try clear hk)
         (try clear hi)
         refine hK.out _ _ ⟨(blk_cell BK226.out 0).trans rfl,(blk_cell BK226.out 1).trans rfl,(blk_cell BK230.out 0).trans rfl,(blk_cell BK230.out 1).trans rfl,(blk_cell BK240.out 0).trans rfl,(blk_cell BK240.out 1).trans rfl⟩ (fun hHeld => ?_)
         clear hK K
         refine norm_ (a' := ?_) ?_ ?_
         rotate_left
         ·show Act.put _ (some 56) _ = _
          simp only [Act.put,sB_,sZ_,sS_,i64_w,i32_w]
          rfl
         refine pure_ (i := 34) (N := some 57) (v := ?_) (a' := ?_) #[true,true,true,true,true,true,true,true,true,true,true,true,true,true,true,true,true,true,true,true,true,true,true,true,true,true,true,true,true,true,true,true,true,true,true,false,false] rfl rfl (any_of HT_.out (by kernel_rfl)) (fun _ _ _ h => h) (Or.inl ⟨by rfl,?_⟩) ?_ ?_
         rotate_left
         ·intro w'
          go_simp
          with_reducible rfl
         rotate_left
         ·simp only [Act.put,sB_,sZ_,sS_,i64_w,i32_w]
          rfl
         refine pure_ (i := 35) (N := some 58) (v := ?_) (a' := ?_) #[true,true,true,true,true,true,true,true,true,true,true,true,true,true,true,true,true,true,true,true,true,true,true,true,true,true,true,true,true,true,true,true,true,true,true,true,false] rfl rfl (any_of HT_.out (by kernel_rfl)) (fun _ _ _ h => h) (Or.inl ⟨by rfl,?_⟩) ?_ ?_
         rotate_left
         ·intro w'
          go_simp
          with_reducible rfl
         rotate_left
         ·simp only [Act.put,sB_,sZ_,sS_,i64_w,i32_w]
          rfl
         refine pure_ (i := 36) (N := some 0) (v := ?_) (a' := ?_) #[true,true,true,true,true,true,true,true,true,true,true,true,true,true,true,true,true,true,true,true,true,true,true,true,true,true,true,true,true,true,true,true,true,true,true,true,true] rfl rfl (any_of HT_.out (by kernel_rfl)) (fun _ _ _ h => h) (Or.inl ⟨by rfl,?_⟩) ?_ ?_
         rotate_left
         ·intro w'
          go_simp
          with_reducible rfl
         rotate_left
         ·simp only [Act.put,sB_,sZ_,sS_,i64_w,i32_w]
          rfl
         refine done_ (done_of HT_.out (by kernel_rfl)) ?_
         try go_wp2
         go_ret
         exact ⟨by first | rfl | (simp [*] <;> rfl),by repeat (first | (with_reducible first | exact HB.out | apply bA_ | apply bN_ | apply bD_ | refine bS_ ?_ GE226.out | refine bS_ ?_ GE230.out | refine bS_ ?_ GE240.out) | exact HB.out)⟩
        ·rw [if_neg c20] at H
         exact absurd (hrt_.out ▸ H) (by simp)
       ·rw [if_neg c19] at H
        exact absurd (hrt_.out ▸ H) (by simp)
      ·rw [if_neg c15] at H
       exact absurd (hrt_.out ▸ H) (by simp)
     ·rw [if_neg c13] at H
      exact absurd (hrt_.out ▸ H) (by simp)
    ·rw [if_neg c12] at H
     exact absurd (hrt_.out ▸ H) (by simp)
   ·rw [if_neg c10] at H
    exact absurd (hrt_.out ▸ H) (by simp)
  ·rw [if_neg c9] at H
   exact absurd (hrt_.out ▸ H) (by simp)
 ·rw [if_neg c8] at H
  exact absurd (hrt_.out ▸ H) (by simp)

end Go.Proofs.Ytdbpobadeibjaab.GE
