-- written for this claim by a program of this session (wip/gp), over the kit's own printer; Lean checks it
import Derived.Test.YtdbpobadeibjaabGEx0
import Derived.Test.YtdbpobadeibjaabGEx11
import Derived.Test.YtdbpobadeibjaabGEx12
namespace Go.Proofs.Ytdbpobadeibjaab.GE
open Go.RowKit Go.Proofs.YtdbpobadeibjaabW.PrintWords Go.Proofs.YtdbpobadeibjaabW.PrintLast Go.Proofs.YtdbpobadeibjaabW.PrintMore
attribute [local go_sem] max2_int min2_int max_two min_two max_three min_three max_four min_four
set_option linter.unusedVariables false
set_option linter.unusedSimpArgs false

--HAND
/-! ### gauge.source,by hand: function 45 -/
def srcStep (l : List S49) (s : Int × Int × Bool) (k : Int) : Int × Int × Bool :=
 (backLo (rd_T49 l k).f0.f0 (rd_T49 l k).f0.f1 (rd_T49 l k).f1.f1 s.1,backHi (rd_T49 l k).f0.f0 (rd_T49 l k).f0.f1 (rd_T49 l k).f1.f0 s.2.1,
  s.2.2 && decide (backLo (rd_T49 l k).f0.f0 (rd_T49 l k).f0.f1 (rd_T49 l k).f1.f1 s.1 ≤ backHi (rd_T49 l k).f0.f0 (rd_T49 l k).f0.f1 (rd_T49 l k).f1.f0 s.2.1))
def srcFold (l : List S49) (ks : List Int) (s : Int × Int × Bool) : Int × Int × Bool := ks.foldl (srcStep l) s
def srcStart (l : List S49) (m number : Int) : Int × Int × Bool := (number - (rd_T49 l m).f2 / 2,number + (rd_T49 l m).f2 / 2,true)
def srcEnd (s : Int × Int × Bool) : Int × Int × Bool := (max s.1 (-1000000000),min s.2.1 1000000000,s.2.2 && decide (max s.1 (-1000000000) ≤ min s.2.1 1000000000))
def sourceP (l : List S49) (m number : Int) : Int × Int × Bool := srcEnd (srcFold l (chainL l m) (srcStart l m number))
def SourceOk (l : List S49) (m number : Int) : Prop := BenchOk l ∧ 0 ≤ m ∧ m < l.length ∧ -1000000000 ≤ number ∧ number ≤ 1000000000
instance (l : List S49) (m number : Int) : Decidable (SourceOk l m number) := by unfold SourceOk;infer_instance
def gauge_source.f (l0 : List (S49)) (a1 : Int) (a2 : Int) : Option (Int × Int × Bool) := if SourceOk l0 a1 a2 then some (sourceP l0 a1 a2) else none

def srcBd : Nat → Int
 | 0 => 1000500000
 | n + 1 => 2 * srcBd n + 2000003
theorem srcBd_le : ∀ n,n ≤ 11 → 0 ≤ srcBd n ∧ srcBd n ≤ 2100000000000 := by decide
theorem srcFold_snoc (l : List S49) (ks : List Int) (k : Int) (s : Int × Int × Bool) : srcFold l (ks ++ [k]) s = srcStep l (srcFold l ks s) k := by simp [srcFold]
theorem srcFold_bound {l : List S49} (h : BenchOk l) {s : Int × Int × Bool} (h0 : -1000500000 ≤ s.1) (h1 : s.1 ≤ 1000500000) (h2 : -1000500000 ≤ s.2.1) (h3 : s.2.1 ≤ 1000500000) :
  ∀ (n : Nat) (ks : List Int),ks.length = n → (∀ x ∈ ks,0 ≤ x ∧ x < l.length) → -(srcBd n) ≤ (srcFold l ks s).1 ∧ (srcFold l ks s).1 ≤ srcBd n ∧ -(srcBd n) ≤ (srcFold l ks s).2.1 ∧ (srcFold l ks s).2.1 ≤ srcBd n := by
 intro n
 induction n with
 | zero =>
  intro ks hk _
  obtain rfl : ks = [] := List.length_eq_zero_iff.1 hk
  exact ⟨h0,h1,h2,h3⟩
 | succ n ih =>
  intro ks hk hx
  obtain ⟨ks,k,rfl⟩ : ∃ ys y,ks = ys ++ [y] := ⟨ks.dropLast,ks.getLast (by intro e;simp [e] at hk),(List.dropLast_concat_getLast _).symm⟩
  obtain ⟨i0,i1,i2,i3⟩ := ih ks (by simpa using hk) (fun x hm => hx x (by simp [hm]))
  rw [srcFold_snoc]
  obtain ⟨k0,k1⟩ := hx k (by simp)
  have hm := (h.at k k0 k1).1
  have a := backLo_bound (glo := (rd_T49 l k).f0.f0) (ghi := (rd_T49 l k).f0.f1) (olo := (rd_T49 l k).f1.f0) (ohi := (rd_T49 l k).f1.f1) hm i0 i1
  have b := backHi_bound (glo := (rd_T49 l k).f0.f0) (ghi := (rd_T49 l k).f0.f1) (olo := (rd_T49 l k).f1.f0) (ohi := (rd_T49 l k).f1.f1) hm i2 i3
  exact ⟨a.1,a.2,b.1,b.2⟩
theorem srcStart_bound {l : List S49} {m number : Int} (h : SourceOk l m number) : -1000500000 ≤ (srcStart l m number).1 ∧ (srcStart l m number).1 ≤ 1000500000 ∧ -1000500000 ≤ (srcStart l m number).2.1 ∧ (srcStart l m number).2.1 ≤ 1000500000 := by
 obtain ⟨hb,m0,m1,n0,n1⟩ := h
 have := (hb.at m m0 m1).2
 simp only [srcStart]
 omega
theorem src_ahead {l : List S49} {m number : Int} (h : SourceOk l m number) {pre : List Int} {x : Int} (hp : (pre ++ [x]) <+: chainL l m) :
  (0 ≤ x ∧ x < l.length) ∧ -2100000000000 ≤ (srcFold l pre (srcStart l m number)).1 ∧ (srcFold l pre (srcStart l m number)).1 ≤ 2100000000000 ∧ -2100000000000 ≤ (srcFold l pre (srcStart l m number)).2.1 ∧ (srcFold l pre (srcStart l m number)).2.1 ≤ 2100000000000 := by
 obtain ⟨rest,hr⟩ := hp
 have hlen := chainGo_length l l.length m
 have hmem := chainGo_mem h.1 l.length m h.2.2.1
 unfold chainL at hr
 rw [← hr] at hlen hmem
 have h12 := h.1.1
 simp at hlen
 have hb := srcBd_le pre.length (by omega)
 obtain ⟨s0,s1,s2,s3⟩ := srcStart_bound h
 obtain ⟨a,b,c,d⟩ := srcFold_bound h.1 s0 s1 s2 s3 pre.length pre rfl (fun y hy => hmem y (by simp [hy]))
 exact ⟨hmem x (by simp),by omega,by omega,by omega,by omega⟩

theorem six_new (w : World) (o0 o1 o2 o3 o4 o5 : Obj) : ∃ W,(((((w.alloc o0).alloc o1).alloc o2).alloc o3).alloc o4).alloc o5 = W ∧ W.heap.size = w.heap.size + 1 + 1 + 1 + 1 + 1 + 1 ∧ Below w.heap.size w W ∧ W.heap[w.heap.size]? = some o0 ∧ W.heap[w.heap.size + 1]? = some o1 ∧ W.heap[w.heap.size + 1 + 1]? = some o2 ∧
  W.heap[w.heap.size + 1 + 1 + 1]? = some o3 ∧ W.heap[w.heap.size + 1 + 1 + 1 + 1]? = some o4 ∧ W.heap[w.heap.size + 1 + 1 + 1 + 1 + 1]? = some o5 := by
 refine ⟨_,rfl,by simp,?_,?_,?_,?_,?_,?_,?_⟩
 ·exact bA_ (bA_ (bA_ (bA_ (bA_ (bA_ (Below.refl _ _) _) _) _) _) _) _
 ·exact kA_ (kA_ (kA_ (kA_ (kA_ (blk_new w _) _) _) _) _) _
 ·have := kA_ (kA_ (kA_ (kA_ (blk_new (w.alloc o0) o1) o2) o3) o4) o5;simpa only [World.size_alloc] using this
 ·have := kA_ (kA_ (kA_ (blk_new ((w.alloc o0).alloc o1) o2) o3) o4) o5;simpa only [World.size_alloc] using this
 ·have := kA_ (kA_ (blk_new (((w.alloc o0).alloc o1).alloc o2) o3) o4) o5;simpa only [World.size_alloc] using this
 ·have := kA_ (blk_new ((((w.alloc o0).alloc o1).alloc o2).alloc o3) o4) o5;simpa only [World.size_alloc] using this
 ·have := blk_new (((((w.alloc o0).alloc o1).alloc o2).alloc o3).alloc o4) o5;simpa only [World.size_alloc] using this

def SrcI (l0 : List S49) (a1 a2 : Int) (sv : Value) (w : World) (pre : List Int) (W : World) : Prop :=
 ∃ lo hi sm,srcFold l0 pre (srcStart l0 a1 a2) = (lo,hi,sm) ∧ W.heap[w.heap.size]? = some (.cells #[sv] 25 (0,0)) ∧ W.heap[w.heap.size + 1]? = some (.cells #[.int .i64 0,.int .i64 0] 34 (0,0)) ∧
  W.heap[w.heap.size + 1 + 1]? = some (.cells #[.int .i64 lo,.int .i64 hi] 34 (0,0)) ∧ W.heap[w.heap.size + 1 + 1 + 1]? = some (.cells #[.bool sm] 4 (0,0)) ∧
  W.heap[w.heap.size + 1 + 1 + 1 + 1]? = some (.cells #[sv] 25 (0,0)) ∧ Below w.heap.size w W
theorem SrcI.grown {l0 : List S49} {a1 a2 : Int} {sv : Value} {w : World} {pre : List Int} {W W' : World} {row : Option Nat} (h : SrcI l0 a1 a2 sv w pre W) (hg : W.grownBy W' row) (hr : ∀ r,row = some r → w.heap.size + 1 + 1 + 1 + 1 < r) : SrcI l0 a1 a2 sv w pre W' := by
 obtain ⟨lo,hi,sm,h0,h1,h2,h3,h4,h5,h6⟩ := h
 have ne : ∀ k,k ≤ w.heap.size + 1 + 1 + 1 + 1 → some k ≠ row := fun k hk e => by have := hr k e.symm;omega
 exact ⟨lo,hi,sm,h0,heap_other hg h1 (ne _ (by omega)),heap_other hg h2 (ne _ (by omega)),heap_other hg h3 (ne _ (by omega)),heap_other hg h4 (ne _ (by omega)),heap_other hg h5 (ne _ (by omega)),h6.grown hg h6.size (fun k e => by have := hr k e;omega)⟩

attribute [local go_sem] Oper.semAt_some in
set_option maxHeartbeats 8000000 in
set_option maxRecDepth 1000000 in
theorem gauge_source.calls (A0 : Option Addr) (c0 : Nat) (l0 : List (S49)) (a1 : Int) (a2 : Int) (r1 : Int) (r2 : Int) (r3 : Bool) (w : World) (hr0 : Kd.C k49 w A0 l0.length l0) (hc0 : l0.length ≤ c0) (h : gauge_source.f l0 a1 a2 = some (r1,r2,r3)) :
  Calls Try.prog 45 #[.slice A0 l0.length c0,.int .i64 a1,.int .i64 a2] w fun e w' => e = .returned (.tuple #[.agg #[.int .i64 r1,.int .i64 r2],.bool r3]) ∧ Below w.heap.size w w' := by
 unfold gauge_source.f at h
 by_cases hok : SourceOk l0 a1 a2
 case neg => rw [if_neg hok] at h;cases h
 rw [if_pos hok] at h
 have HP := aM_ (Option.some.inj h)
 clear h
 have OK := aM_ hok
 obtain ⟨hb,m0,m1,n0,n1⟩ := hok
 have st := (hb.at a1 m0 m1).2
 have hlen := hb.1
 have s0 := st.1
 have s1 := st.2.1
 clear st
 have HR := aM_ hr0
 obtain ⟨ad,rfl,q0,q1,q2,q3,q4,q5,q6⟩ := at_T49 hr0 a1 m0 m1
 clear hr0 q0 q1 q2 q3 q5 q6
 have HS := aM_ (show srcStart l0 a1 a2 = (a2 - (rd_T49 l0 a1).f2 / 2,a2 + (rd_T49 l0 a1).f2 / 2,true) from rfl)
 replace q4 : ((w.alloc (.cells #[.slice (some ad) l0.length c0] 25)).alloc (.cells #[.int .i64 0,.int .i64 0] 34)).cell? ⟨(ad.add (a1.toNat * 7)).block,(ad.add (a1.toNat * 7)).off + 4,none⟩ = _ := pw_cell_below (bA_ (bA_ (Below.refl _ _) _) _) q4
 generalize hst : (rd_T49 l0 a1).f2 = step at q4 s0 s1 HS
 clear hst
 have hu36 := Try.underlying49
 have hu34 := Try.underlying34
 refine calls_marks Try.func45 rfl ?_
 simp only [Try.ntmps45,List.size_toArray,List.length_cons,List.length_nil,Nat.reduceAdd,Nat.reduceSub,Array.replicate_succ,Array.replicate_zero,List.push_toArray,List.append_toArray,List.nil_append,List.cons_append]
 go_wp2_with (go_at_call 63;(with_reducible refine (gauge_chain.calls _ _ _ _ _).mono ?_);rintro e w' ⟨rfl,rfl⟩)
 obtain ⟨W0,hW,hsz,bw,f0,f1,f2,f3,f4,f5⟩ := six_new w (.cells #[.slice (some ad) l0.length c0] 25) (.cells #[.int .i64 0,.int .i64 0] 34) (.cells #[.int .i64 (a2 - step / 2),.int .i64 (a2 + step / 2)] 34) (.cells #[.bool true] 4) (.cells #[.slice (some ad) l0.length c0] 25) (.cells #[.int .i64 a1] 3)
 rw [hW]
 clear hW q4
 refine wp_range_chain l0 (some ad) c0 a1 (w.heap.size + 1 + 1 + 1 + 1) (w.heap.size + 1 + 1 + 1 + 1 + 1) 9 hlen (by omega) (fun i i0 i1 => (hb.at i i0 i1).2.2.2.2.2.2) m1 (by omega) rfl f5
  (SrcI l0 a1 a2 (.slice (some ad) l0.length c0) w)
  (fun pre W W' row hi hg hr => hi.grown hg (fun r e => by rcases hr r e with rfl | ⟨h1,_⟩ <;> omega))
  (fun pre W hi => by obtain ⟨_,_,_,_,_,_,_,_,h5,h6⟩ := hi;exact ⟨h5,Kd.C_below HR.out h6⟩)
  ⟨_,_,_,HS.out,f0,f1,f2,f3,f4,bw⟩
  (fun x => { tmps := #[.slice (some ad) l0.length c0,.int .i64 a1,.int .i64 a2,.pointer (some ⟨w.heap.size,0,none⟩),undef,undef,.pointer (some ⟨w.heap.size + 1,0,none⟩),.bool false,.int .i64 (step / 2),.pointer (some ⟨w.heap.size + 1 + 1,0,none⟩),.pointer (some ⟨w.heap.size + 1 + 1 + 1,0,none⟩),
   .int .i64 x,.slice (some ad) l0.length c0,.int .i64 a1,.pointer (some (ad.add (a1.toNat * 7))),.pointer (some ⟨(ad.add (a1.toNat * 7)).block,(ad.add (a1.toNat * 7)).off + 4,none⟩),.int .i64 step,.int .i64 (step / 2),.int .i64 a2,.int .i64 (step / 2),.int .i64 (a2 - step / 2),.int .i64 a2,.int .i64 (step / 2),.int .i64 (a2 + step / 2),
   .agg #[.int .i64 (a2 - step / 2),.int .i64 (a2 + step / 2)],.slice (some ad) l0.length c0,.int .i64 a1,.func (.func 86) #[] #[.pointer (some ⟨w.heap.size + 1 + 1 + 1 + 1,0,none⟩),.pointer (some ⟨w.heap.size + 1 + 1 + 1 + 1 + 1,0,none⟩)],.int .i64 x,
   undef,undef,undef,undef,undef,undef,undef,undef,undef,undef,undef,undef,undef,undef,undef,undef,undef,undef,undef,undef,undef,undef,undef,undef,undef,undef,undef,undef,undef,undef],defers := [] }) ?assign ?body ?done
 case assign =>
  intro lp x W K hK
  gi_wp2
  exact hK
 case body =>
  intro lp pre x W hpre hi hmc
  obtain ⟨lo,hi,sm,g0,g1,g2,g3,g4,g5,g6⟩ := hi
  obtain ⟨⟨x0,x1⟩,lo0,lo1,hi0,hi1⟩ := src_ahead OK.out hpre
  rw [g0] at lo0 lo1 hi0 hi1
  have mk := (hb.at x x0 x1).1
  have CR := aM_ (Kd.C_below HR.out g6)
  obtain ⟨ad2,had2,p0,p1,p2,p3,p4,p5,p6⟩ := at_T49 CR.out x x0 x1
  obtain rfl : ad = ad2 := Option.some.inj had2
  clear had2
  have G0 : Aside0 (srcFold l0 (pre ++ [x]) (srcStart l0 a1 a2) = _) := ⟨by rw [srcFold_snoc,g0]⟩
  unfold srcStep at G0
  generalize rd_T49 l0 x = mx at mk p0 p1 p2 p3 p4 p5 p6 G0
  have HC := aM_ (gauge_back.calls mx.f0.f0 mx.f0.f1 mx.f1.f0 mx.f1.f1 mx.f2 mx.f3 mx.f4 lo hi W.drew mk lo0 lo1 hi0 hi1)
  generalize backLo mx.f0.f0 mx.f0.f1 mx.f1.f1 lo = LO at G0 HC
  generalize backHi mx.f0.f0 mx.f0.f1 mx.f1.f0 hi = HI at G0 HC
  clear mk
  have k1 : W.cell? ⟨w.heap.size,0,none⟩ = some (.slice (some ad) l0.length c0) := (blk_cell g1 0).trans rfl
  have k3 : W.cell? ⟨w.heap.size + 1 + 1,0,none⟩ = some (.int .i64 lo) := (blk_cell g3 0).trans rfl
  have k4 : W.cell? ⟨w.heap.size + 1 + 1,1,none⟩ = some (.int .i64 hi) := (blk_cell g3 1).trans rfl
  have E1 := aM_ g1
  have E2 := aM_ g2
  have E3 := aM_ g3
  have E4 := aM_ g4
  have E5 := aM_ g5
  have E6 := aM_ g6
  have E7 := aM_ hmc
  clear g0 g1 g2 g3 g4 g5 g6 hmc hpre lo0 lo1 hi0 hi1
  cases sm
  all_goals
   gi_wp2_with (fail)
   gi_region_with (refine ⟨trivial,?_⟩;gi_at_call 70;(with_reducible refine (CallsIn.inRound lp (callsIn_wide.2 HC.out)).mono ?_);rintro e w' ⟨rfl,hb⟩;have z3 := kB_ (kD_ E3.out) hb;have z0 : w'.cell? ⟨w.heap.size + 1 + 1,0,none⟩ = some (.int .i64 lo) := (blk_cell z3 0).trans rfl;have z1 : w'.cell? ⟨w.heap.size + 1 + 1,1,none⟩ = some (.int .i64 hi) := (blk_cell z3 1).trans rfl;have y0 := blk_frozen z3 0;have y1 := blk_frozen z3 1;have HBB := aM_ hb;clear z3 hb)
   all_goals
    clear z0 z1 y0 y1 k1 k3 k4 p0 p1 p2 p3 p4 p5 p6
    obtain ⟨W3,hW3⟩ : ∃ W3,(w'.setCell ⟨w.heap.size + 1 + 1,0,none⟩ (.int .i64 LO)).setCell ⟨w.heap.size + 1 + 1,1,none⟩ (.int .i64 HI) = W3 := ⟨_,rfl⟩
    have far : ∀ k cs t,k ≠ w.heap.size + 1 + 1 → W.heap[k]? = some (.cells cs t (0,0)) → W3.heap[k]? = some (.cells cs t (0,0)) := fun k cs t hk hc => by
     rw [← hW3];exact blk_far (blk_far (kB_ (kD_ hc) HBB.out) hk _) hk _
    have FAR := aM_ far
    have n3 : W3.heap[w.heap.size + 1 + 1]? = some (.cells #[.int .i64 LO,.int .i64 HI] 34 (0,0)) := by
     rw [← hW3];exact blk_put (blk_put (kB_ (kD_ E3.out) HBB.out) 0 _ rfl) 1 _ rfl
    have N3 := aM_ n3
    have N4 := aM_ (far _ _ _ (by omega) E4.out)
    have BW3 : Aside0 (Below w.heap.size w W3) := ⟨by rw [← hW3];exact bS_ (bS_ (bT_ (bD_ E6.out) HBB.out) (by omega)) (by omega)⟩
    have KF : Aside0 (KeepsFrom W0.heap.size W W3) := ⟨by rw [← hW3];exact (((KeepsOthers.drew W).trans ⟨HBB.out.size,fun k o hk _ => (HBB.out.block k (blk_lt hk)).trans hk⟩).trans ((KeepsOthers.setCell _ _ _).trans (KeepsOthers.setCell _ _ _))).from _⟩
    rw [hW3]
    clear hW3 HBB far n3
    have c0' : W3.cell? ⟨w.heap.size + 1 + 1,0,none⟩ = some (.int .i64 LO) := (blk_cell N3.out 0).trans rfl
    have c1' : W3.cell? ⟨w.heap.size + 1 + 1,1,none⟩ = some (.int .i64 HI) := (blk_cell N3.out 1).trans rfl
    have c2' := (blk_cell N4.out 0).trans rfl
    have f2' := blk_frozen N4.out 0
    gi_wp2
    exact ⟨KF.out.trans ((KeepsOthers.setCell _ _ _).from _),blk_far (FAR.out _ _ _ (by omega) E7.out) (by show _ ≠ w.heap.size + 1 + 1 + 1;omega) _,LO,HI,_,G0.out,blk_far (FAR.out _ _ _ (by omega) E1.out) (by show _ ≠ w.heap.size + 1 + 1 + 1;omega) _,blk_far (FAR.out _ _ _ (by omega) E2.out) (by show _ ≠ w.heap.size + 1 + 1 + 1;omega) _,
     blk_far N3.out (by show _ ≠ w.heap.size + 1 + 1 + 1;omega) _,blk_put N4.out 0 _ rfl,blk_far (FAR.out _ _ _ (by omega) E5.out) (by show _ ≠ w.heap.size + 1 + 1 + 1;omega) _,bS_ BW3.out (by omega)⟩
 case done =>
  intro D W hD hi hK
  obtain ⟨lo,hi,sm,g0,g1,g2,g3,g4,g5,g6⟩ := hi
  have hp := HP.out
  unfold sourceP at hp
  rw [g0] at hp
  have HE : Aside0 (srcEnd (lo,hi,sm) = (r1,r2,r3)) := ⟨hp⟩
  have k1 : W.cell? ⟨w.heap.size,0,none⟩ = some (.slice (some ad) l0.length c0) := (blk_cell g1 0).trans rfl
  have k3 : W.cell? ⟨w.heap.size + 1 + 1,0,none⟩ = some (.int .i64 lo) := (blk_cell g3 0).trans rfl
  have k4 : W.cell? ⟨w.heap.size + 1 + 1,1,none⟩ = some (.int .i64 hi) := (blk_cell g3 1).trans rfl
  have k5 := blk_frozen g3 0
  have k6 := blk_frozen g3 1
  have E2 := aM_ g2
  have E3 := aM_ g3
  have E4 := aM_ g4
  have E6 := aM_ g6
  have EK := aM_ hK
  clear g0 g1 g2 g3 g4 g5 g6 hK hp
  have hr1 : r1 = max lo (-1000000000) := (congrArg (fun t => t.1) HE.out).symm
  have hr2 : r2 = min hi 1000000000 := (congrArg (fun t => t.2.1) HE.out).symm
  have hr3 : r3 = (sm && decide (r1 ≤ r2)) := by rw [hr1,hr2];exact (congrArg (fun t => t.2.2) HE.out).symm
  have H3 := aM_ hr3
  clear HE hr3
  have hx : (if lo < -1000000000 then (-1000000000 : Int) else lo) = r1 := by rw [hr1];split <;> omega
  have hy : (if 1000000000 < hi then (1000000000 : Int) else hi) = r2 := by rw [hr2];split <;> omega
  clear hr1 hr2
  go_wp2
  clear hx hy k1 k3 k4 k5 k6
  obtain ⟨W5,hW5⟩ : ∃ W5,(W.setCell ⟨w.heap.size + 1 + 1,0,none⟩ (.int .i64 r1)).setCell ⟨w.heap.size + 1 + 1,1,none⟩ (.int .i64 r2) = W5 := ⟨_,rfl⟩
  have n3 : W5.heap[w.heap.size + 1 + 1]? = some (.cells #[.int .i64 r1,.int .i64 r2] 34 (0,0)) := by rw [← hW5];exact blk_put (blk_put E3.out 0 _ rfl) 1 _ rfl
  have n2 : W5.heap[w.heap.size + 1]? = some (.cells #[.int .i64 0,.int .i64 0] 34 (0,0)) := by rw [← hW5];exact blk_far (blk_far E2.out (by show _ ≠ w.heap.size + 1 + 1;omega) _) (by show _ ≠ w.heap.size + 1 + 1;omega) _
  have n4 : W5.heap[w.heap.size + 1 + 1 + 1]? = some (.cells #[.bool sm] 4 (0,0)) := by rw [← hW5];exact blk_far (blk_far E4.out (by show _ ≠ w.heap.size + 1 + 1;omega) _) (by show _ ≠ w.heap.size + 1 + 1;omega) _
  have hk5 : W5.heap[D]? = some (.deferred (some [])) := by rw [← hW5];exact heap_set_other (heap_set_other EK.out (by omega)) (by omega)
  have B5 : Aside0 (Below w.heap.size w W5) := ⟨by rw [← hW5];exact bS_ (bS_ E6.out (by omega)) (by omega)⟩
  rw [hW5]
  clear hW5 E2 E3 E4 E6 EK
  have k2 : W5.cell? ⟨w.heap.size + 1,0,none⟩ = some (.int .i64 0) := (blk_cell n2 0).trans rfl
  have k3 : W5.cell? ⟨w.heap.size + 1,1,none⟩ = some (.int .i64 0) := (blk_cell n2 1).trans rfl
  have k4 := blk_frozen n2 0
  have k5 := blk_frozen n2 1
  have k6 : W5.cell? ⟨w.heap.size + 1 + 1,0,none⟩ = some (.int .i64 r1) := (blk_cell n3 0).trans rfl
  have k7 : W5.cell? ⟨w.heap.size + 1 + 1,1,none⟩ = some (.int .i64 r2) := (blk_cell n3 1).trans rfl
  have k8 : W5.cell? ⟨w.heap.size + 1 + 1 + 1,0,none⟩ = some (.bool sm) := (blk_cell n4 0).trans rfl
  have N2 := aM_ n2
  have HK := aM_ hk5
  clear n2 n3 n4 hk5
  cases sm
  all_goals
   go_region
   go_wp2
   obtain ⟨W6,hW6⟩ : ∃ W6,((W5.setCell ⟨w.heap.size + 1,0,none⟩ (.int .i64 r1)).setCell ⟨w.heap.size + 1,1,none⟩ (.int .i64 r2)).drew = W6 := ⟨_,rfl⟩
   have n2 : W6.heap[w.heap.size + 1]? = some (.cells #[.int .i64 r1,.int .i64 r2] 34 (0,0)) := by rw [← hW6];exact kD_ (blk_put (blk_put N2.out 0 _ rfl) 1 _ rfl)
   have hk6 : W6.heap[D]? = some (.deferred (some [])) := by
    rw [← hW6];exact kD_ (heap_set_other (heap_set_other HK.out (by omega)) (by omega))
   have B6 : Below w.heap.size w W6 := by rw [← hW6];exact bD_ (bS_ (bS_ B5.out (by omega)) (by omega))
   rw [hW6]
   clear hW6
   refine ⟨by simp,.inl ⟨D,_,rfl,run_takeDeferred hk6,?_⟩⟩
   have n7 : (W6.putObj D (.deferred none)).heap[w.heap.size + 1]? = some (.cells #[.int .i64 r1,.int .i64 r2] 34 (0,0)) := (World.putObj_heap_other (by omega)).trans n2
   have q0 : (W6.putObj D (.deferred none)).cell? ⟨w.heap.size + 1,0,none⟩ = some (.int .i64 r1) := (blk_cell n7 0).trans rfl
   have q1 : (W6.putObj D (.deferred none)).cell? ⟨w.heap.size + 1,1,none⟩ = some (.int .i64 r2) := (blk_cell n7 1).trans rfl
   have B7 : Below w.heap.size w (W6.putObj D (.deferred none)) := B6.grown (grownBy_putObj' W6 D _) B6.size (fun k e => by have := Option.some.inj e;omega)
   rw [H3.out]
   exact ⟨_,by simp [results,Try.results45,go_sem,q0,q1];rfl,by simp,B7⟩

end Go.Proofs.Ytdbpobadeibjaab.GE
