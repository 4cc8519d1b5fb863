/- GaugeKnown,its plain part: what the printed functions compute answers as the statement says,for every input;no condition beside the statement's own. -/
import Derived.Deep.DeepCutAuto
import Derived.Test.YtdbpobadeibjaabGEx39
import Derived.Test.YtdbpobadeibjaabGEx37
import Derived.Test.YtdbpobadeibjaabGEx24
import Derived.Test.YtdbpobadeibjaabGEx22
import Derived.Test.YtdbpobadeibjaabGEx20
import Derived.Test.YtdbpobadeibjaabGEx17
namespace Go.Proofs.Ytdbpobadeibjaab.GE
open Go.RowKit Go.Proofs.YtdbpobadeibjaabW.PrintWords Go.Proofs.YtdbpobadeibjaabW.PrintLast
def ApI (A0 : Option Addr) (c0 : Nat) (l0 : List S49) (Bb : Nat) (w0 w : World) (pre : List Int) (W : World) : Prop :=
 ∃ v,W.heap[w.heap.size]? = some (.cells #[v] 22 (0,0)) ∧ W.ownsRow (w.heap.size + 1) 3 1 v pre.length (pre.map (Value.int .i64)) ∧ W.heap[Bb]? = some (.cells #[.slice A0 l0.length c0] 25 (0,0)) ∧ Below w0.heap.size w0 W ∧ w.heap.size + 1 ≤ W.heap.size
theorem own_kept {W W' : World} {base n size : Nat} {e : TypeId} {v : Value} {xs : List Value} {row : Option Nat} (h : W.ownsRow base e size v n xs) (hg : W.grownBy W' row) (hne : ∀ k,v.ownBlock = some k → some k ≠ row) : W'.ownsRow base e size v n xs :=
 own_move h fun k hk => hg.block k (own_lt h k hk) (hne k hk)
theorem ApI.grown {A0 : Option Addr} {c0 : Nat} {l0 : List S49} {Bb : Nat} {w0 w : World} {pre : List Int} {W W' : World} {row : Option Nat} (h : ApI A0 c0 l0 Bb w0 w pre W) (hb : Bb < w.heap.size) (h0 : w0.heap.size ≤ w.heap.size) (hg : W.grownBy W' row)
  (hr : ∀ r,row = some r → (w0.heap.size ≤ r ∧ r ≠ Bb ∧ r < w.heap.size) ∨ (w.heap.size + 1 ≤ r ∧ ∃ o : Obj,W.heap[r]? = some o ∧ o.isCells = false)) : ApI A0 c0 l0 Bb w0 w pre W' := by
 obtain ⟨v,hv,ho,hB,hw,hs⟩ := h
 have ne : ∀ k,k = w.heap.size ∨ k = Bb → some k ≠ row := fun k hk e => by
  rcases hr k e.symm with h | h
  ·omega
  ·omega
 refine ⟨v,heap_other hg hv (ne _ (.inl rfl)),own_kept ho hg (fun k hk e => ?_),heap_other hg hB (ne _ (.inr rfl)),hw.grown hg hw.size (fun k e => by rcases hr k e with h | h <;> omega),Nat.le_trans hs hg.size⟩
 rcases hr k e.symm with ⟨_,_,h⟩ | ⟨_,o,h1,h2⟩
 ·have := own_base ho k hk;omega
 ·obtain ⟨cs,hc⟩ := own_typed ho k hk
  rw [hc] at h1
  have := Option.some.inj h1
  subst this
  cases h2

attribute [local go_sem] Oper.semAt_some in
set_option maxHeartbeats 8000000 in
set_option maxRecDepth 1000000 in
theorem slices_AppendSeq.calls (A0 : Option Addr) (c0 : Nat) (l0 : List S49) (m : Int) (Bb Bm : Nat) (w0 w : World) (hlen : l0.length ≤ 12) (hby : ∀ i : Int,0 ≤ i → i < l0.length → (rd_T49 l0 i).f3 < l0.length) (hm : m < l0.length) (hne : Bb ≠ Bm)
  (hBb : w0.heap.size ≤ Bb) (hBm : w0.heap.size ≤ Bm) (hbb : w.heap[Bb]? = some (.cells #[.slice A0 l0.length c0] 25 (0,0))) (hbm : w.heap[Bm]? = some (.cells #[.int .i64 m] 3 (0,0))) (hC : Kd.C k49 w0 A0 l0.length l0) (hw : Below w0.heap.size w0 w) :
  Calls Try.prog 87 #[.slice none 0 0,.func (.func 86) #[] #[.pointer (some ⟨Bb,0,none⟩),.pointer (some ⟨Bm,0,none⟩)]] w fun e w' => ∃ v,e = .returned v ∧ w'.ownsRow w.heap.size 3 1 v (chainL l0 m).length ((chainL l0 m).map (Value.int .i64)) ∧ Below w0.heap.size w0 w' := by
 have h0 : w0.heap.size ≤ w.heap.size := hw.size
 have hbl : Bb < w.heap.size := blk_lt hbb
 have hml : Bm < w.heap.size := blk_lt hbm
 have HC := aM_ hC
 have HW := aM_ hw
 have BB := aM_ (kA_ hbb (.cells #[.slice none 0 0] 22))
 have BM := aM_ (kA_ hbm (.cells #[.slice none 0 0] 22))
 clear hC hw hbb hbm
 refine calls_marks Try.func87 rfl ?_
 simp only [Try.ntmps87,List.size_toArray,List.length_cons,List.length_nil,Nat.reduceAdd,Nat.reduceSub,Array.replicate_succ,Array.replicate_zero,List.push_toArray,List.append_toArray,List.nil_append,List.cons_append]
 go_wp2
 obtain ⟨W0,hW⟩ : ∃ W0,w.alloc (.cells #[.slice none 0 0] 22) = W0 := ⟨_,rfl⟩
 have f0 : W0.heap[w.heap.size]? = some (.cells #[.slice none 0 0] 22 (0,0)) := by rw [← hW];exact World.alloc_heap_new w _
 have hsz : W0.heap.size = w.heap.size + 1 := by rw [← hW];simp
 have BW : Aside0 (Below w0.heap.size w0 W0) := ⟨by rw [← hW];exact HW.out.alloc HW.out.size _⟩
 rw [hW] at BB BM ⊢
 clear hW
 refine wp_range_chain l0 A0 c0 m Bb Bm 9 hlen (by omega) hby hm hne rfl BM.out (ApI A0 c0 l0 Bb w0 w)
  (fun pre W W' row hi hg hr => hi.grown hbl h0 hg (fun r e => (hr r e).elim (fun h => .inl (by rw [h];exact ⟨hBm,fun e => hne e.symm,hml⟩)) (fun h => .inr ⟨by have := h.1;omega,h.2⟩)))
  (fun pre W hi => by obtain ⟨_,_,_,h3,h4,_⟩ := hi;exact ⟨h3,Kd.C_below HC.out h4⟩)
  ⟨_,f0,own_nil _ _ _ _,BB.out,BW.out,by omega⟩
  (fun x => { tmps := #[.slice none 0 0,.func (.func 86) #[] #[.pointer (some ⟨Bb,0,none⟩),.pointer (some ⟨Bm,0,none⟩)],.pointer (some ⟨w.heap.size,0,none⟩),undef,.slice none 0 0,.int .i64 x,.func (.func 86) #[] #[.pointer (some ⟨Bb,0,none⟩),.pointer (some ⟨Bm,0,none⟩)],.int .i64 x,undef,undef,undef,undef,undef],defers := [] }) ?assign ?body ?done
 case assign =>
  intro lp x W K hK
  gi_wp2
  exact hK
 case body =>
  intro lp pre x W hpre hi hmc
  obtain ⟨v,hv,ho,hB,hw,hs⟩ := hi
  obtain ⟨i0,hi0,hz0,hz1,hz2⟩ := info_parts info3
  have hpl : pre.length < 12 := by
   have := hpre.length_le
   have := chainGo_length l0 l0.length m
   unfold chainL at *
   simp at *
   omega
  have k0 : W.cell? ⟨w.heap.size,0,none⟩ = some v := (blk_cell hv 0).trans rfl
  have E1 := aM_ hv
  have E2 := aM_ ho
  have E3 := aM_ hB
  have E4 := aM_ hw
  have E5 := aM_ hmc
  clear hv ho hB hw hmc hpre
  have vne : ∀ k (cs : Array Value) (q : TypeId),W.heap[k]? = some (.cells cs q (0,0)) → q ≠ 3 ∨ k < w.heap.size + 1 → some k ≠ v.ownBlock := fun k cs q hk hq e => by
   rcases hq with hq | hq
   ·obtain ⟨cs',hc⟩ := own_typed E2.out k e.symm
    rw [hc] at hk
    injection hk with hk
    injection hk with _ h2 _
    exact hq h2.symm
   ·have := own_base E2.out k e.symm;omega
  have VNE := aM_ vne
  clear vne
  gi_wp2_with (gi_at_builtin;refine wpListIn_append_own _ rfl _ _ 22 rfl (w.heap.size + 1) 3 i0 (.int .i64 0) 1 8 Try.underlying22 hi0 hz0 hz1 hz2 rfl (by decide) _ _ _ rfl (own_kept E2.out (World.grownBy_alloc W _ none) (fun _ _ e => by cases e)) ⟨W.heap.size,0,none⟩ 1 1 [.int .i64 x] rfl rfl (cell_one_new _ _ _) (by simp [Value.oneCell']) (by unfold maxLen;omega) (by omega) (by simp;omega) ?_;intro v' w3 ho3 hg3 hn3;obtain ⟨g',cap',rfl⟩ : ∃ g' cap',v' = .slice (some ⟨g',0,none⟩) (pre.length + 1) cap' := (ho3.2.elim (fun h => absurd h.2 (by omega)) (fun h => by obtain ⟨g',cap',_,h,_⟩ := h;exact ⟨g',cap',h⟩));have z0 : w3.heap[w.heap.size]? = some (.cells #[v] 22 (0,0)) := heap_other hg3 (kA_ E1.out _) (VNE.out _ _ _ E1.out (.inr (by omega)));have z1 : w3.cell? ⟨w.heap.size,0,none⟩ = some v := (blk_cell z0 0).trans rfl;have z2 := blk_frozen z0 0;have Z0 := aM_ z0;have O3 := aM_ ho3;have G3 := aM_ hg3;clear ho3 hg3 hn3 z0)
  have bm3 : w3.heap[Bm]? = some (.cells #[.int .i64 x] 3 (0,0)) := heap_other G3.out (kA_ E5.out _) (VNE.out _ _ _ E5.out (.inr (by omega)))
  have bb3 : w3.heap[Bb]? = some (.cells #[.slice A0 l0.length c0] 25 (0,0)) := heap_other G3.out (kA_ E3.out _) (VNE.out _ _ _ E3.out (.inl (by decide)))
  have hw3 : Below w0.heap.size w0 w3 := (E4.out.alloc E4.out.size _).grown G3.out (by have := E4.out.size;simp;omega) (fun k e => by have := own_base E2.out k e;omega)
  have hs3 : w.heap.size + 1 ≤ w3.heap.size := by have := G3.out.size;simp at this;omega
  refine ⟨(((KeepsOthers.alloc W _).trans (KeepsOthers.of_grownBy G3.out (fun j o e hj => ?_))).trans (KeepsOthers.setCell _ _ _)).from _,blk_far bm3 (by show _ ≠ w.heap.size;omega) _,_,blk_put Z0.out 0 _ rfl,?_,blk_far bb3 (by show _ ≠ w.heap.size;omega) _,bS_ hw3 (by show w0.heap.size ≤ w.heap.size;omega),by simpa using hs3⟩
  ·obtain ⟨cs,hc⟩ := own_typed (own_kept E2.out (World.grownBy_alloc W (.cells #[.int .i64 x] 3) none) (fun _ _ e => by cases e)) j e
   rw [hc] at hj
   rw [← Option.some.inj hj]
   rfl
  ·rw [List.length_append,List.map_append]
   exact own_kept O3.out (grownBy_setCell' w3 w.heap.size _) (fun k e h => by have := own_base O3.out k e;have := Option.some.inj h;omega)
 case done =>
  intro D W hD hi hK
  obtain ⟨v,hv,ho,hB,hw,hs⟩ := hi
  have k0 : W.cell? ⟨w.heap.size,0,none⟩ = some v := (blk_cell hv 0).trans rfl
  have E2 := aM_ ho
  have E4 := aM_ hw
  have EK := aM_ hK
  clear hv ho hB hw hK
  go_wp2
  refine ⟨by simp,.inl ⟨D,_,rfl,run_takeDeferred EK.out,?_⟩⟩
  refine ⟨_,by simp [results,Try.results87,go_sem],v,rfl,?_,E4.out.grown (grownBy_putObj' W D _) E4.out.size (fun k e => by have := Option.some.inj e;omega)⟩
  refine own_weaken (own_kept E2.out (grownBy_putObj' W D _) (fun k hk e => ?_)) (Nat.le_succ _)
  have := Option.some.inj e
  subst this
  obtain ⟨cs,hc⟩ := own_typed E2.out k hk
  rw [hc] at EK
  have := EK.out
  cases this
set_option maxHeartbeats 4000000 in
set_option maxRecDepth 1000000 in
theorem slices_Collect.calls (A0 : Option Addr) (c0 : Nat) (l0 : List S49) (m : Int) (Bb Bm : Nat) (w0 w : World) (hlen : l0.length ≤ 12) (hby : ∀ i : Int,0 ≤ i → i < l0.length → (rd_T49 l0 i).f3 < l0.length) (hm : m < l0.length) (hne : Bb ≠ Bm)
  (hBb : w0.heap.size ≤ Bb) (hBm : w0.heap.size ≤ Bm) (hbb : w.heap[Bb]? = some (.cells #[.slice A0 l0.length c0] 25 (0,0))) (hbm : w.heap[Bm]? = some (.cells #[.int .i64 m] 3 (0,0))) (hC : Kd.C k49 w0 A0 l0.length l0) (hw : Below w0.heap.size w0 w) :
  Calls Try.prog 64 #[.func (.func 86) #[] #[.pointer (some ⟨Bb,0,none⟩),.pointer (some ⟨Bm,0,none⟩)]] w fun e w' => ∃ v,e = .returned v ∧ w'.ownsRow w.heap.size 3 1 v (chainL l0 m).length ((chainL l0 m).map (Value.int .i64)) ∧ Below w0.heap.size w0 w' := by
 have HC := aM_ (slices_AppendSeq.calls A0 c0 l0 m Bb Bm w0 w hlen hby hm hne hBb hBm hbb hbm hC hw)
 clear hC hw hbb hbm hby
 go_enter Try.func64,Try.ntmps64
 go_wp2_with (go_at_call 87;(with_reducible refine HC.out.mono ?_);rintro e w' ⟨v,rfl,h1,h2⟩;have H1 := aM_ h1;have H2 := aM_ h2;clear h1 h2)
 go_ret
 exact ⟨v,rfl,H1.out,H2.out⟩
def gauge_Chain.f (l0 : List S49) (a1 : Int) : Option (List Int) := if checkP l0 ≠ 0 then some [] else if a1 < 0 ∨ a1 > (l0.length : Int) - 1 then some [] else some (chainL l0 a1)
theorem K_ints {w : World} {base : Nat} {v : Value} {xs : List Int} (h : w.ownsRow base 3 1 v xs.length (xs.map (Value.int .i64))) : Kd.R (Kd.int .i64) 3 w base (fun _ => True) v xs :=
 ⟨fun _ _ => trivial,_,h,by simp [Kd.int,Kd.scalar],fun j p hj => by
  show (((xs.map (Value.int .i64)).drop (j * 1)).take 1) = [Value.int .i64 p]
  obtain ⟨hl,hp⟩ := List.getElem?_eq_some_iff.1 hj
  rw [Nat.mul_one,List.drop_eq_getElem_cons (by simpa using hl),List.take_succ_cons,List.take_zero,List.getElem_map,hp]⟩
theorem chain_ok {l : List S49} (h : checkP l = 0) : BenchOk l := by
 unfold checkP at h
 by_cases h12 : 12 < l.length
 ·rw [if_pos h12] at h;omega
 rw [if_neg h12] at h
 by_cases hf : firstErr l.length l = 0
 ·exact ⟨by omega,firstErr_zero hf⟩
 ·rw [if_pos hf] at h;exact absurd h hf
set_option maxHeartbeats 8000000 in
set_option maxRecDepth 1000000 in
set_option maxHeartbeats 4000000 in
set_option maxRecDepth 1000000 in
theorem gauge_Chain.calls (A0 : Option Addr) (c0 : Nat) (l0 : List (S49)) (a1 : Int) (r : List Int) (w : World) (hr0 : Kd.C k49 w A0 l0.length l0) (hc0 : l0.length ≤ c0) (h : gauge_Chain.f l0 a1 = some r) :
  Calls Try.prog 33 #[.slice A0 l0.length c0,.int .i64 a1] w fun e w' => ∃ v,e = .returned v ∧ Kd.R (Kd.int .i64) 3 w' w.heap.size (fun _ => True) v r ∧ Below w.heap.size w w' := by
 unfold gauge_Chain.f at h
 have HR := aM_ hr0
 have hmax := hr0.2.1
 clear hr0
 have CK := aM_ (fun W (hb : Below w.heap.size w W) => gauge_Check.calls A0 c0 l0 (checkP l0) W (Kd.C_below HR.out hb) hc0 rfl)
 go_enter Try.func33,Try.ntmps33
 by_cases hck : checkP l0 = 0
 case neg =>
  rw [if_pos hck] at h
  obtain rfl := Option.some.inj h
  clear h
  generalize checkP l0 = ck at CK hck
  go_wp2_with (go_at_call 31;(with_reducible refine (CK.out _ (Below.refl _ _)).mono ?_);rintro e w1 ⟨rfl,hb1⟩;have B1 := aM_ hb1;clear hb1)
  go_ret
  exact ⟨_,rfl,Kd.R_nil _ _ _ _ _,B1.out⟩
 rw [if_neg (by omega)] at h
 have OK := aM_ (chain_ok hck)
 rw [hck] at CK
 clear hck
 by_cases hm : a1 < 0 ∨ a1 > (l0.length : Int) - 1
 ·rw [if_pos hm] at h
  obtain rfl := Option.some.inj h
  clear h
  have OT := aM_ (fun W => gauge_outside.calls a1 0 ((l0.length : Int) - 1) true W (outside_true hm))
  clear hm
  go_wp2_with (first | (go_at_call 31;(with_reducible refine (CK.out _ (Below.refl _ _)).mono ?_);rintro e w1 ⟨rfl,hb1⟩;have B1 := aM_ hb1;clear hb1) | (go_at_call 44;(with_reducible refine (OT.out _).mono ?_);rintro e w2 ⟨rfl,⟨nd,rfl⟩⟩))
  go_ret
  exact ⟨_,rfl,Kd.R_nil _ _ _ _ _,bN_ B1.out nd⟩
 ·rw [if_neg hm] at h
  obtain rfl := Option.some.inj h
  clear h
  have OT := aM_ (fun W => gauge_outside.calls a1 0 ((l0.length : Int) - 1) false W (outside_false (by omega)))
  have CL := aM_ (fun (X : World) (hb : Below w.heap.size w X) (h63 : X.heap.size + 1 ≠ X.heap.size) => slices_Collect.calls A0 c0 l0 a1 X.heap.size (X.heap.size + 1) w ((X.alloc (.cells #[.slice A0 l0.length c0] 25)).alloc (.cells #[.int .i64 a1] 3)) OK.out.1 (fun i i0 i1 => (OK.out.at i i0 i1).2.2.2.2.2.2) (by omega) (by omega) hb.size (by have := hb.size;omega) (kA_ (World.alloc_heap_new X _) _) (by have := World.alloc_heap_new (X.alloc (.cells #[.slice A0 l0.length c0] 25)) (.cells #[.int .i64 a1] 3);rwa [World.size_alloc] at this) HR.out ((hb.alloc hb.size _).alloc (by have := hb.size;simp;omega) _))
  clear hm
  go_wp2_with (first | (go_at_call 31;(with_reducible refine (CK.out _ (Below.refl _ _)).mono ?_);rintro e w1 ⟨rfl,hb1⟩;have B1 := aM_ hb1;clear hb1) | (go_at_call 44;(with_reducible refine (OT.out _).mono ?_);rintro e w2 ⟨rfl,⟨nd,rfl⟩⟩;obtain ⟨X,hX⟩ : ∃ X,X = w1.drewN nd := ⟨_,rfl⟩;rw [← hX];have BX := aM_ (show Below w.heap.size w X by rw [hX];exact bN_ B1.out nd);clear hX) | (go_at_call 63;(with_reducible refine (gauge_chain.calls _ _ _ _ _).mono ?_);rintro e w3 ⟨rfl,rfl⟩) | (go_at_call 64;refine (CL.out X BX.out (by omega)).mono ?_;rintro e w4 ⟨v,rfl,hv,hb⟩;have HV := aM_ hv;have HB := aM_ hb;clear hv hb))
  go_ret
  exact ⟨_,rfl,K_ints (own_weaken HV.out (by have := BX.out.size;simp;omega)),HB.out⟩
theorem kn_check : checkP awBench = 0 := by kernel_rfl
theorem kn_check0 : gauge_Check.f [⟨⟨1000000,1000000⟩,⟨0,0⟩,10,1,100⟩,⟨⟨990000,1010000⟩,⟨-5,5⟩,1,0,50⟩] = some 13 := by kernel_rfl
theorem kn_check1 : gauge_Check.f [⟨⟨1000000,1000000⟩,⟨0,0⟩,10,2,100⟩,⟨⟨990000,1010000⟩,⟨-5,5⟩,1,0,50⟩] = some 2 := by kernel_rfl
theorem kn_check2 : gauge_Check.f [⟨⟨1000000,1000000⟩,⟨0,0⟩,0,-1,100⟩,⟨⟨990000,1010000⟩,⟨-5,5⟩,1,0,50⟩] = some 2 := by kernel_rfl
theorem kn_chain1 : gauge_Chain.f awBench 1 = some [1,0] := by kernel_rfl
theorem kn_chain2 : gauge_Chain.f awBench 2 = some [] := by kernel_rfl
theorem kn_makes1 : gauge_Makes.f 3 990000 1010000 (-5) 5 1 0 50 1000 = some (985,1015) := by kernel_rfl
theorem kn_makes2 : gauge_Makes.f 3 990000 1010000 (-5) 5 1 0 50 (-1000) = some (-1015,-985) := by kernel_rfl
theorem kn_makes3 : gauge_Makes.f 3 1000000 1000000 0 0 10 (-1) 100 7 = some (7,7) := by kernel_rfl
theorem kn_true1 : gauge_True.f awBench 0 100 = some (95,105,0) := by kernel_rfl
theorem kn_true2 : gauge_True.f awBench 0 105 = some (0,0,3) := by kernel_rfl
theorem kn_true3 : gauge_True.f awBench 2 0 = some (0,0,7) := by kernel_rfl
theorem kn_verdict1 : gauge_Verdict.f 3 95 105 95 105 = some 1 := gauge_Verdict.eq 0 _ _ _ _
theorem kn_verdict2 : gauge_Verdict.f 3 95 105 96 105 = some 3 := gauge_Verdict.eq 0 _ _ _ _
theorem kn_same : K_Same.f 4 [1,0] [1,0] = some true := by kernel_rfl
theorem kn_together1 : gauge_Together.f 4 awBench [⟨0,1000⟩,⟨1,1000⟩] = some (995,1005,0) := by kernel_rfl
theorem kn_together2 : gauge_Together.f 4 awBench [⟨0,1000⟩,⟨1,900⟩] = some (0,0,12) := by kernel_rfl
theorem kn_sheet1 : gauge_Sheet.f 9 awBench 0 [⟨95,130⟩,⟨0,9⟩] [[⟨0,110⟩],[]] = some (3,1,0) := by kernel_rfl
theorem kn_sheet2 : gauge_Sheet.f 9 awBench 0 [⟨95,130⟩,⟨0,9⟩] [[⟨0,150⟩],[]] = some (2,0,0) := by kernel_rfl
theorem kn_sheet3 : gauge_Sheet.f 9 awBench 101 [⟨95,130⟩,⟨0,9⟩] [[⟨0,110⟩],[]] = some (0,0,10) := by kernel_rfl
theorem kn_aged1 : gauge_Aged.f 3 10 20 (-1) 3 500 = some (9,22,0) := by kernel_rfl
theorem kn_aged2 : gauge_Aged.f 3 10 20 0 0 5 = some (10,20,0) := by kernel_rfl
theorem kn_chance1 : gauge_Chance.f 5 2 2 0 = some (3,10,0) := by kernel_rfl
theorem kn_chance2 : gauge_Chance.f 5 2 2 1 = some (9,10,0) := by kernel_rfl
theorem kn_chance3 : gauge_Chance.f 5 0 3 0 = some (10,10,0) := by kernel_rfl
theorem kn_plan1 : gauge_Plan.f 10 0 1 10 10 = some (9,0,0) := by kernel_rfl
theorem kn_plan2 : gauge_Plan.f 4 1 2 100 100 = some (4,1,0) := by kernel_rfl
theorem kn_keeps1 : gauge_Keeps.f 10 20 0 1 12 25 = some (-1,1000000,0) := by
 have h1 : keepsP sureB 10 20 0 1 12 25 = -1 := by
  unfold keepsP
  rw [leastTrue_eq (m := 0) (by omega) (fun i hi => absurd hi (by omega)) (fun _ => ?_)]
  ·rfl
  ·kernel_rfl
 have h2 : keepsP mayB 10 20 0 1 12 25 = 1000000 := by
  unfold keepsP
  rw [leastTrue_eq (m := 1000001) (by omega) (fun i hi => ?_) (fun h => absurd h (by omega))]
  ·rfl
  ·unfold overP mayB verdictP agedLo agedHi
   rw [if_neg (by omega)]
   by_cases c : 10 + (i : Int) * 0 / 1000 ≥ 12 ∧ 20 + -(-((i : Int) * 1) / 1000) ≤ 25
   ·rw [if_pos c];rfl
   ·rw [if_neg c,if_neg (by omega)];rfl
 unfold gauge_Keeps.f
 rw [if_neg (by unfold keepsErr driftErr rangeErr;decide),h1,h2]
theorem kn_keeps2 : gauge_Keeps.f 0 5 1000 1000 0 9 = some (4,9,0) := by
 have h1 : keepsP sureB 0 5 1000 1000 0 9 = 4 := by
  unfold keepsP
  rw [leastTrue_eq (m := 5) (by omega) (fun i hi => ?_) (fun _ => ?_)]
  ·rfl
  ·unfold overP sureB verdictP agedLo agedHi
   rw [if_neg (by omega),if_pos (by omega)]
   rfl
  ·kernel_rfl
 have h2 : keepsP mayB 0 5 1000 1000 0 9 = 9 := by
  unfold keepsP
  rw [leastTrue_eq (m := 10) (by omega) (fun i hi => ?_) (fun _ => ?_)]
  ·rfl
  ·unfold overP mayB verdictP agedLo agedHi
   rw [if_neg (by omega)]
   by_cases c : 0 + (i : Int) * 1000 / 1000 ≥ 0 ∧ 5 + -(-((i : Int) * 1000) / 1000) ≤ 9
   ·rw [if_pos c];rfl
   ·rw [if_neg c,if_neg (by omega)];rfl
  ·kernel_rfl
 unfold gauge_Keeps.f
 rw [if_neg (by unfold keepsErr driftErr rangeErr;decide),h1,h2]
theorem thr_at {p : Int → Bool} {M : Int} (hM : 0 ≤ M) (hp : ∀ i j,i ≤ j → p i = true → p j = true) (x : Int) (h0 : -M < x) (h1 : x ≤ M) (hx : p x = true) (hy : p (x - 1) = false) : thr p M = x := by
 have a := thr_iff hM (fun i j _ h _ => hp i j h) x (by omega) h1
 have b := thr_iff hM (fun i j _ h _ => hp i j h) (x - 1) (by omega) (by omega)
 rw [hx] at a
 rw [hy] at b
 have a' := of_decide_eq_true a.symm
 have b' := of_decide_eq_false b.symm
 omega
theorem kn_lo {m lo x : Int} (m0 : 0 ≤ m) (m1 : m < 2) (h0 : -1000 < x) (h1 : x ≤ 100000000) (hm : 100000000 ≤ accMost awBench m) (hx : accLo awBench m lo x = true) (hy : accLo awBench m lo (x - 1) = false) : accA0 awBench m lo = x :=
 thr_at (by omega) (accLo_mono (acc_ok kn_check) m0 m1 lo) x (by omega) (by omega) hx hy
theorem kn_hi {m hi x : Int} (m0 : 0 ≤ m) (m1 : m < 2) (h0 : -1000 < x) (h1 : x ≤ 100000000) (hm : 100000000 ≤ accMost awBench m) (hx : accHi awBench m hi x = true) (hy : accHi awBench m hi (x - 1) = false) : accB0 awBench m hi = x - 1 := by
 unfold accB0
 rw [thr_at (by omega) (accHi_mono (acc_ok kn_check) m0 m1 hi) x (by omega) (by omega) hx hy]
theorem kn_most0 : accMost awBench 0 = 100000000 := by kernel_rfl
theorem kn_most1 : accMost awBench 1 = 1000000000 := by kernel_rfl
theorem kn_accept {m lo hi a b : Int} (m0 : 0 ≤ m) (m1 : m < 2) (hlh : lo ≤ hi) (ha : accA0 awBench m lo = a) (hb : accB0 awBench m hi = b) {r : Int × Int × Int}
  (h : (if climb (accSure awBench m) (b + 1 - a).toNat a > sink (accSure awBench m) (b + 1 - climb (accSure awBench m) (b + 1 - a).toNat a).toNat b then (0,0,10) else (climb (accSure awBench m) (b + 1 - a).toNat a * stepK awBench m,sink (accSure awBench m) (b + 1 - climb (accSure awBench m) (b + 1 - a).toNat a).toNat b * stepK awBench m,0)) = r) : gauge_Accept.f awBench m lo hi = some r := by
 unfold gauge_Accept.f
 rw [if_pos (by decide),if_neg (by rw [kn_check];decide),if_neg (by show ¬ (m < 0 ∨ m > ((2 : Nat) : Int) - 1);omega),if_neg (by omega)]
 unfold acceptP accB accA
 rw [ha,hb,h]
theorem kn_accept1 : gauge_Accept.f awBench 0 95 130 = some (100,120,0) :=
 kn_accept (a := 10) (b := 12) (by omega) (by omega) (by omega) (kn_lo (by omega) (by omega) (by omega) (by omega) (by rw [kn_most0];omega) (by kernel_rfl) (by kernel_rfl)) (kn_hi (x := 13) (by omega) (by omega) (by omega) (by omega) (by rw [kn_most0];omega) (by kernel_rfl) (by kernel_rfl)) (by kernel_rfl)
theorem kn_accept3 : gauge_Accept.f awBench 1 985 1016 = some (1000,1000,0) :=
 kn_accept (a := 1000) (b := 1000) (by omega) (by omega) (by omega) (kn_lo (by omega) (by omega) (by omega) (by omega) (by rw [kn_most1];omega) (by kernel_rfl) (by kernel_rfl)) (kn_hi (x := 1001) (by omega) (by omega) (by omega) (by omega) (by rw [kn_most1];omega) (by kernel_rfl) (by kernel_rfl)) (by kernel_rfl)
theorem kn_accept2 : gauge_Accept.f awBench 0 96 104 = some (0,0,10) :=
 kn_accept (a := 11) (b := 9) (by omega) (by omega) (by omega) (kn_lo (by omega) (by omega) (by omega) (by omega) (by rw [kn_most0];omega) (by kernel_rfl) (by kernel_rfl)) (kn_hi (x := 10) (by omega) (by omega) (by omega) (by omega) (by rw [kn_most0];omega) (by kernel_rfl) (by kernel_rfl)) (by kernel_rfl)
abbrev Own49 (W : World) (base gb cc : Nat) (l : List S49) : Prop := Kd.R k49 49 W base (fun _ => True) (.slice (some ⟨gb,0,none⟩) l.length cc) l
theorem addr0 (gb n : Nat) : (⟨gb,0,none⟩ : Addr).add n = ⟨gb,n,none⟩ := by
 unfold Addr.add
 by_cases h : n = 0 <;> simp [h]
theorem own_cells {W : World} {base gb cc : Nat} {l : List S49} (h : Own49 W base gb cc l) (k : Int) (k0 : 0 ≤ k) (k1 : k < l.length) :
  W.cell? ⟨gb,k.toNat * 7,none⟩ = some (.int .i64 (rd_T49 l k).f0.f0) ∧ W.cell? ⟨gb,k.toNat * 7 + 1,none⟩ = some (.int .i64 (rd_T49 l k).f0.f1) ∧ W.cell? ⟨gb,k.toNat * 7 + 2,none⟩ = some (.int .i64 (rd_T49 l k).f1.f0) ∧ W.cell? ⟨gb,k.toNat * 7 + 3,none⟩ = some (.int .i64 (rd_T49 l k).f1.f1) ∧ W.cell? ⟨gb,k.toNat * 7 + 4,none⟩ = some (.int .i64 (rd_T49 l k).f2) ∧ W.cell? ⟨gb,k.toNat * 7 + 5,none⟩ = some (.int .i64 (rd_T49 l k).f3) ∧ W.cell? ⟨gb,k.toNat * 7 + 6,none⟩ = some (.int .i64 (rd_T49 l k).f4) := by
 obtain ⟨ad,e,h⟩ := at_T49 (Kd.R_reads' h).2.2 k k0 k1
 obtain rfl := Option.some.inj e
 simp only [addr0] at h
 exact h
theorem c_cells0 {W : World} {gb : Nat} {l : List S49} (h : Kd.C k49 W (some ⟨gb,0,none⟩) l.length l) (h1 : 1 ≤ l.length) :
  W.cell? ⟨gb,0,none⟩ = some (.int .i64 (rd_T49 l 0).f0.f0) ∧ W.cell? ⟨gb,1,none⟩ = some (.int .i64 (rd_T49 l 0).f0.f1) ∧ W.cell? ⟨gb,2,none⟩ = some (.int .i64 (rd_T49 l 0).f1.f0) ∧ W.cell? ⟨gb,3,none⟩ = some (.int .i64 (rd_T49 l 0).f1.f1) ∧ W.cell? ⟨gb,4,none⟩ = some (.int .i64 (rd_T49 l 0).f2) ∧ W.cell? ⟨gb,5,none⟩ = some (.int .i64 (rd_T49 l 0).f3) ∧ W.cell? ⟨gb,6,none⟩ = some (.int .i64 (rd_T49 l 0).f4) := by
 obtain ⟨ad,e,h⟩ := at_T49 h 0 (by omega) (by omega)
 obtain rfl := Option.some.inj e
 simp only [addr0] at h
 exact h
theorem own_frozen {W : World} {base gb cc : Nat} {l : List S49} (h : Own49 W base gb cc l) (i : Nat) : W.frozen? ⟨gb,i,none⟩ = false := by
 obtain ⟨inner,ho⟩ := Kd.R_own h
 obtain ⟨cs,hc⟩ := own_typed ho gb (by simp [Value.ownBlock])
 exact blk_frozen hc _
theorem own_hcc {W : World} {base gb cc : Nat} {l : List S49} (h : Own49 W base gb cc l) (k : Int) (k0 : 0 ≤ k) (k1 : k < l.length) : ∀ j u,([.int .i64 (rd_T49 l k).f0.f0,.int .i64 (rd_T49 l k).f0.f1,.int .i64 (rd_T49 l k).f1.f0,.int .i64 (rd_T49 l k).f1.f1,.int .i64 (rd_T49 l k).f2,.int .i64 (rd_T49 l k).f3,.int .i64 (rd_T49 l k).f4] : List Value)[j]? = some u → W.cell? ⟨gb,k.toNat * 7 + j,none⟩ = some u := by
 obtain ⟨h0,h1,h2,h3,h4,h5,h6⟩ := own_cells h k k0 k1
 intro j u hj
 match j with
 | 0 => cases hj;exact h0
 | 1 => cases hj;exact h1
 | 2 => cases hj;exact h2
 | 3 => cases hj;exact h3
 | 4 => cases hj;exact h4
 | 5 => cases hj;exact h5
 | 6 => cases hj;exact h6
 | j + 7 => simp at hj
theorem own_set1 {W : World} {base gb cc : Nat} {l : List S49} (h : Own49 W base gb cc l) (k : Int) (k0 : 0 ≤ k) (k1 : k < l.length) (b : Int) :
  Own49 (W.setCell ⟨gb,k.toNat * 7 + 5,none⟩ (.int .i64 b)) base gb cc (l.set k.toNat ⟨(rd_T49 l k).f0,(rd_T49 l k).f1,(rd_T49 l k).f2,b,(rd_T49 l k).f4⟩) := by
 have := (Kd.R_seg h k k0 k1 (j := 5) (seg := [.int .i64 b]) (show _ = 7 from rfl) (own_hcc h k k0 k1) (by show 5 + 1 ≤ 7;omega) (okp := fun _ => False) (x' := ⟨(rd_T49 l k).f0,(rd_T49 l k).f1,(rd_T49 l k).f2,b,(rd_T49 l k).f4⟩) (k49_mkM _ _ _ _) (fun _ h => h.elim)).1
 unfold Own49
 rw [List.length_set]
 exact this
theorem own_set4 {W : World} {base gb cc : Nat} {l : List S49} (h : Own49 W base gb cc l) (k : Int) (k0 : 0 ≤ k) (k1 : k < l.length) (b : Int) :
  Own49 (W.setCell ⟨gb,k.toNat * 7 + 4,none⟩ (.int .i64 b)) base gb cc (l.set k.toNat ⟨(rd_T49 l k).f0,(rd_T49 l k).f1,b,(rd_T49 l k).f3,(rd_T49 l k).f4⟩) := by
 have := (Kd.R_seg h k k0 k1 (j := 4) (seg := [.int .i64 b]) (show _ = 7 from rfl) (own_hcc h k k0 k1) (by show 4 + 1 ≤ 7;omega) (okp := fun _ => False) (x' := ⟨(rd_T49 l k).f0,(rd_T49 l k).f1,b,(rd_T49 l k).f3,(rd_T49 l k).f4⟩) (k49_mkM _ _ _ _) (fun _ h => h.elim)).1
 unfold Own49
 rw [List.length_set]
 exact this
theorem own_block {W : World} {base : Nat} {v : Value} {l : List S49} (h : Kd.R k49 49 W base (fun _ => True) v l) (h1 : 1 ≤ l.length) : ∃ gb cc,v = .slice (some ⟨gb,0,none⟩) l.length cc ∧ base ≤ gb := by
 obtain ⟨inner,_,h2⟩ := Kd.R_own h
 rcases h2 with ⟨_,h0⟩ | ⟨gb,cc,_,hv,hb,_⟩
 ·omega
 ·exact ⟨gb,cc,hv,hb⟩
theorem own_keepT {W W' : World} {b1 base g c : Nat} {cells : Array Value} {t : Nat} {l : List S49} (hb : W.heap[b1]? = some (.cells cells t (0,0))) (ht : t ≠ 49) (h : Own49 W base g c l) (hk : KeepBut W W' b1 none) : Own49 W' base g c l :=
 Kd.R_mono (Kd.R_keep (Kd.R_types h hb (fun q hq => by
  rcases List.mem_cons.1 hq with rfl | hq
  ·exact Ne.symm ht
  ·cases hq)) hk (fun _ h => h.2)) (fun _ h => h.1)
def VB (bs : List (Nat × Int × Int)) (W : World) : Prop := ∀ x ∈ bs,W.heap[x.1]? = some (.cells #[.int .i64 x.2.1,.int .i64 x.2.2] 34 (0,0))
theorem VB.nil (W : World) : VB [] W := fun x hx => by cases hx
theorem VB.keep {bs : List (Nat × Int × Int)} {W W' : World} (h : VB bs W) (hb : Below W.heap.size W W') : VB bs W' := fun x hx => kB_ (h x hx) hb
theorem VB.new {bs : List (Nat × Int × Int)} {W : World} (h : VB bs W) (p q : Int) : VB ((W.heap.size,p,q) :: bs) (W.alloc (.cells #[.int .i64 p,.int .i64 q] 34)) := fun x hx => by
 rcases List.mem_cons.1 hx with rfl | hx
 ·exact blk_new W _
 ·exact kA_ (h x hx) _
theorem VB.lo {bs : List (Nat × Int × Int)} {W : World} (h : VB bs W) (k : Nat) {b : Nat} {p q : Int} (hx : bs[k]? = some (b,p,q)) : W.cell? ⟨b,0,none⟩ = some (.int .i64 p) := (blk_cell (h _ (List.mem_of_getElem? hx)) 0).trans rfl
theorem VB.hi {bs : List (Nat × Int × Int)} {W : World} (h : VB bs W) (k : Nat) {b : Nat} {p q : Int} (hx : bs[k]? = some (b,p,q)) : W.cell? ⟨b,1,none⟩ = some (.int .i64 q) := (blk_cell (h _ (List.mem_of_getElem? hx)) 1).trans rfl
theorem row2 {W : World} {b : Nat} {p q r s : Int} (h : W.heap[b]? = some (.cells #[.int .i64 p,.int .i64 q,.int .i64 r,.int .i64 s] 32 (0,0))) : Kd.C k32 W (some ⟨b,0,none⟩) 2 [(⟨p,q⟩ : S32),⟨r,s⟩] := by
 have hR : Kd.R k32 32 W 0 (fun _ => True) (.slice (some ⟨b,0,none⟩) 2 2) [(⟨p,q⟩ : S32),⟨r,s⟩] := by
  refine ⟨fun _ _ => trivial,[.int .i64 p,.int .i64 q,.int .i64 r,.int .i64 s],⟨rfl,.inr ⟨b,2,_,rfl,Nat.zero_le _,h,Nat.le_refl _,by decide,rfl,rfl⟩⟩,rfl,fun j x hj => ?_⟩
  match j with
  | 0 => cases hj;exact k32_mkM _ _ _ _
  | 1 => cases hj;exact k32_mkM _ _ _ _
  | j + 2 => simp at hj
 exact (Kd.R_reads' hR).2.2
set_option maxHeartbeats 8000000 in
set_option maxRecDepth 100000 in
theorem L_accepts.calls (w : World) : Calls Try.prog 35 #[] w fun e w' => e = .returned (.bool true) ∧ Below w.heap.size w w' := by
 have hu34 := Try.underlying34
 have hu35 := Try.underlying35
 have hu32 := Try.underlying32
 have HB0 := aM_ (Below.refl w.heap.size w)
 have HV0 := aM_ (VB.nil w)
 go_enter Try.func35,Try.ntmps35
 go_wp2_with (fail)
 (with_reducible refine (L_bench.calls awBench _ aw_bench).mono ?_)
 rintro e w1a ⟨v1,rfl,ho,hb⟩
 obtain ⟨A1,c1,rfl⟩ := Kd.R_slice ho
 have HR1a := aM_ (Kd.R_reads' ho).2
 have HB1a := aM_ (bT_ HB0.out hb)
 have HV1a := aM_ (HV0.out.keep hb)
 clear ho hb HB0 HV0
 go_wp2_with (fail)
 (with_reducible refine (L_span.calls (95) (130) (95) (130) _ (aw_span _ _)).mono ?_)
 rintro e w1b ⟨rfl,hb⟩
 have HR1b := aM_ (And.intro HR1a.out.1 (Kd.C_below HR1a.out.2 hb))
 have HB1b := aM_ (bT_ HB1a.out hb)
 have HV1b := aM_ (HV1a.out.keep hb)
 clear hb HR1a HB1a HV1a
 go_wp2_with (fail)
 (with_reducible refine (gauge_Accept.calls A1 c1 awBench 0 95 130 100 120 0 _ HR1b.out.2 HR1b.out.1 kn_accept1).mono ?_)
 rintro e w1c ⟨rfl,hb⟩
 have HB1c := aM_ (bT_ HB1b.out hb)
 have HV1c := aM_ (HV1b.out.keep hb)
 clear hb HR1b HB1b HV1b
 go_wp2_with (fail)
 have HV1 := aM_ (HV1c.out.new (100) (120))
 have HB1 := aM_ (bA_ HB1c.out (.cells #[.int .i64 (100),.int .i64 (120)] 34))
 obtain ⟨b1,h1⟩ : ∃ b,w1c.heap.size = b := ⟨_,rfl⟩
 obtain ⟨w1,hw1⟩ : ∃ W,w1c.alloc (.cells #[.int .i64 (100),.int .i64 (120)] 34) = W := ⟨_,rfl⟩
 rw [hw1,h1] at HV1
 rw [hw1] at HB1
 rw [hw1,h1]
 clear hw1 h1 HV1c HB1c
 go_wp2_with (fail)
 (with_reducible refine (L_bench.calls awBench _ aw_bench).mono ?_)
 rintro e w2a ⟨v2,rfl,ho,hb⟩
 obtain ⟨A2,c2,rfl⟩ := Kd.R_slice ho
 have HR2a := aM_ (Kd.R_reads' ho).2
 have HB2a := aM_ (bT_ HB1.out hb)
 have HV2a := aM_ (HV1.out.keep hb)
 clear ho hb HB1 HV1
 go_wp2_with (fail)
 (with_reducible refine (L_span.calls (96) (104) (96) (104) _ (aw_span _ _)).mono ?_)
 rintro e w2b ⟨rfl,hb⟩
 have HR2b := aM_ (And.intro HR2a.out.1 (Kd.C_below HR2a.out.2 hb))
 have HB2b := aM_ (bT_ HB2a.out hb)
 have HV2b := aM_ (HV2a.out.keep hb)
 clear hb HR2a HB2a HV2a
 go_wp2_with (fail)
 (with_reducible refine (gauge_Accept.calls A2 c2 awBench 0 96 104 0 0 10 _ HR2b.out.2 HR2b.out.1 kn_accept2).mono ?_)
 rintro e w2c ⟨rfl,hb⟩
 have HB2c := aM_ (bT_ HB2b.out hb)
 have HV2c := aM_ (HV2b.out.keep hb)
 clear hb HR2b HB2b HV2b
 go_wp2_with (fail)
 have HV2 := aM_ (HV2c.out.new (0) (0))
 have HB2 := aM_ (bA_ HB2c.out (.cells #[.int .i64 (0),.int .i64 (0)] 34))
 obtain ⟨b2,h2⟩ : ∃ b,w2c.heap.size = b := ⟨_,rfl⟩
 obtain ⟨w2,hw2⟩ : ∃ W,w2c.alloc (.cells #[.int .i64 (0),.int .i64 (0)] 34) = W := ⟨_,rfl⟩
 rw [hw2,h2] at HV2
 rw [hw2] at HB2
 rw [hw2,h2]
 clear hw2 h2 HV2c HB2c
 go_wp2_with (fail)
 (with_reducible refine (L_bench.calls awBench _ aw_bench).mono ?_)
 rintro e w3a ⟨v3,rfl,ho,hb⟩
 obtain ⟨A3,c3,rfl⟩ := Kd.R_slice ho
 have HR3a := aM_ (Kd.R_reads' ho).2
 have HB3a := aM_ (bT_ HB2.out hb)
 have HV3a := aM_ (HV2.out.keep hb)
 clear ho hb HB2 HV2
 go_wp2_with (fail)
 (with_reducible refine (L_span.calls (985) (1016) (985) (1016) _ (aw_span _ _)).mono ?_)
 rintro e w3b ⟨rfl,hb⟩
 have HR3b := aM_ (And.intro HR3a.out.1 (Kd.C_below HR3a.out.2 hb))
 have HB3b := aM_ (bT_ HB3a.out hb)
 have HV3b := aM_ (HV3a.out.keep hb)
 clear hb HR3a HB3a HV3a
 go_wp2_with (fail)
 (with_reducible refine (gauge_Accept.calls A3 c3 awBench 1 985 1016 1000 1000 0 _ HR3b.out.2 HR3b.out.1 kn_accept3).mono ?_)
 rintro e w3c ⟨rfl,hb⟩
 have HB3c := aM_ (bT_ HB3b.out hb)
 have HV3c := aM_ (HV3b.out.keep hb)
 clear hb HR3b HB3b HV3b
 go_wp2_with (fail)
 have HV3 := aM_ (HV3c.out.new (1000) (1000))
 have HB3 := aM_ (bA_ HB3c.out (.cells #[.int .i64 (1000),.int .i64 (1000)] 34))
 obtain ⟨b3,h3⟩ : ∃ b,w3c.heap.size = b := ⟨_,rfl⟩
 obtain ⟨w3,hw3⟩ : ∃ W,w3c.alloc (.cells #[.int .i64 (1000),.int .i64 (1000)] 34) = W := ⟨_,rfl⟩
 rw [hw3,h3] at HV3
 rw [hw3] at HB3
 rw [hw3,h3]
 clear hw3 h3 HV3c HB3c
 go_wp2_with (fail)
 (with_reducible refine (L_bench.calls awBench _ aw_bench).mono ?_)
 rintro e w4a ⟨v4,rfl,ho,hb⟩
 obtain ⟨A4,c4,rfl⟩ := Kd.R_slice ho
 have HR4a := aM_ (Kd.R_reads' ho).2
 have HB4a := aM_ (bT_ HB3.out hb)
 have HV4a := aM_ (HV3.out.keep hb)
 clear ho hb HB3 HV3
 go_wp2_with (fail)
 have bS : Below w4a.heap.size w4a (w4a.alloc (.cells #[.int .i64 0,.int .i64 1000,.int .i64 1,.int .i64 1000] 32)) := bA_ (Below.refl _ _) _
 have HS4 := aM_ (row2 (blk_new w4a (.cells #[.int .i64 0,.int .i64 1000,.int .i64 1,.int .i64 1000] 32)))
 refine (gauge_Together.calls 4 A4 c4 awBench _ 2 [⟨0,1000⟩,⟨1,1000⟩] 995 1005 0 _ (Kd.C_below HR4a.out.2 bS) HR4a.out.1 HS4.out (Nat.le_refl _) kn_together1).mono ?_
 rintro e w4c ⟨rfl,hb⟩
 have HB4c := aM_ (bT_ (bT_ HB4a.out bS) hb)
 have HV4c := aM_ ((HV4a.out.keep bS).keep hb)
 clear hb bS HR4a HB4a HV4a HS4
 go_wp2_with (fail)
 have HV4 := aM_ (HV4c.out.new (995) (1005))
 have HB4 := aM_ (bA_ HB4c.out (.cells #[.int .i64 (995),.int .i64 (1005)] 34))
 obtain ⟨b4,h4⟩ : ∃ b,w4c.heap.size = b := ⟨_,rfl⟩
 obtain ⟨w4,hw4⟩ : ∃ W,w4c.alloc (.cells #[.int .i64 (995),.int .i64 (1005)] 34) = W := ⟨_,rfl⟩
 rw [hw4,h4] at HV4
 rw [hw4] at HB4
 rw [hw4,h4]
 clear hw4 h4 HV4c HB4c
 go_wp2_with (fail)
 (with_reducible refine (L_bench.calls awBench _ aw_bench).mono ?_)
 rintro e w5a ⟨v5,rfl,ho,hb⟩
 obtain ⟨A5,c5,rfl⟩ := Kd.R_slice ho
 have HR5a := aM_ (Kd.R_reads' ho).2
 have HB5a := aM_ (bT_ HB4.out hb)
 have HV5a := aM_ (HV4.out.keep hb)
 clear ho hb HB4 HV4
 go_wp2_with (fail)
 have bS : Below w5a.heap.size w5a (w5a.alloc (.cells #[.int .i64 0,.int .i64 1000,.int .i64 1,.int .i64 900] 32)) := bA_ (Below.refl _ _) _
 have HS5 := aM_ (row2 (blk_new w5a (.cells #[.int .i64 0,.int .i64 1000,.int .i64 1,.int .i64 900] 32)))
 refine (gauge_Together.calls 4 A5 c5 awBench _ 2 [⟨0,1000⟩,⟨1,900⟩] 0 0 12 _ (Kd.C_below HR5a.out.2 bS) HR5a.out.1 HS5.out (Nat.le_refl _) kn_together2).mono ?_
 rintro e w5c ⟨rfl,hb⟩
 have HB5c := aM_ (bT_ (bT_ HB5a.out bS) hb)
 have HV5c := aM_ ((HV5a.out.keep bS).keep hb)
 clear hb bS HR5a HB5a HV5a HS5
 go_wp2_with (fail)
 have HV5 := aM_ (HV5c.out.new (0) (0))
 have HB5 := aM_ (bA_ HB5c.out (.cells #[.int .i64 (0),.int .i64 (0)] 34))
 obtain ⟨b5,h5⟩ : ∃ b,w5c.heap.size = b := ⟨_,rfl⟩
 obtain ⟨w5,hw5⟩ : ∃ W,w5c.alloc (.cells #[.int .i64 (0),.int .i64 (0)] 34) = W := ⟨_,rfl⟩
 rw [hw5,h5] at HV5
 rw [hw5] at HB5
 rw [hw5,h5]
 clear hw5 h5 HV5c HB5c
 have KS := aM_ (show ∀ W : World,Below w5.heap.size w5 W → (fun (W : World) => W.cell? ⟨b1,0,none⟩ = some (.int .i64 100) ∧ W.cell? ⟨b1,1,none⟩ = some (.int .i64 120) ∧ W.cell? ⟨b3,0,none⟩ = some (.int .i64 1000) ∧ W.cell? ⟨b3,1,none⟩ = some (.int .i64 1000) ∧ W.cell? ⟨b4,0,none⟩ = some (.int .i64 995) ∧ W.cell? ⟨b4,1,none⟩ = some (.int .i64 1005)) W from fun W hB => by
  have h := HV5.out.keep hB
  exact ⟨h.lo 4 rfl,h.hi 4 rfl,h.lo 2 rfl,h.hi 2 rfl,h.lo 1 rfl,h.hi 1 rfl⟩)
 have HZ0 := aM_ (bD_ (Below.refl w5.heap.size w5))
 go_upto_region 6 with (fail)
 go_cut [0] (fun v0 wc => v0 = .bool true ∧ Aside0 (Below w5.heap.size w5 wc))
 case first =>
  go_region_held (fun (W : World) => W.cell? ⟨b1,0,none⟩ = some (.int .i64 100) ∧ W.cell? ⟨b1,1,none⟩ = some (.int .i64 120) ∧ W.cell? ⟨b3,0,none⟩ = some (.int .i64 1000) ∧ W.cell? ⟨b3,1,none⟩ = some (.int .i64 1000) ∧ W.cell? ⟨b4,0,none⟩ = some (.int .i64 995) ∧ W.cell? ⟨b4,1,none⟩ = some (.int .i64 1005)) (first | exact KS.out _ HZ3.out | exact KS.out _ HZ2.out | exact KS.out _ HZ1.out | exact KS.out _ HZ0.out) (first
   | (go_at_call 24;(with_reducible refine (L_span.calls 100 120 100 120 _ (aw_span _ _)).mono ?_);rintro e w' ⟨rfl,hb⟩;have HZ1 := aM_ (bT_ HZ0.out hb);clear hb)
   | (go_at_call 24;(with_reducible refine (L_span.calls 1000 1000 1000 1000 _ (aw_span _ _)).mono ?_);rintro e w' ⟨rfl,hb⟩;have HZ2 := aM_ (bT_ HZ1.out hb);clear hb)
   | (go_at_call 24;(with_reducible refine (L_span.calls 995 1005 995 1005 _ (aw_span _ _)).mono ?_);rintro e w' ⟨rfl,hb⟩;have HZ3 := aM_ (bT_ HZ2.out hb);clear hb))
  all_goals (try simp [Act.put])
  all_goals go_wp2_with (fail)
  all_goals go_meet
  all_goals (case rel => exact ⟨rfl,HZ3⟩)
 case rest =>
 obtain ⟨rfl,HZ⟩ := hcut
 go_wp2_with (fail)
 go_ret
 exact ⟨rfl,bT_ HB5.out HZ.out⟩
theorem lim2 {W : World} {b : Nat} {p q r s : Int} (h : W.heap[b]? = some (.cells #[.int .i64 p,.int .i64 q,.int .i64 r,.int .i64 s] 34 (0,0))) : Kd.C k34 W (some ⟨b,0,none⟩) 2 [(⟨p,q⟩ : S34),⟨r,s⟩] := by
 have hR : Kd.R k34 34 W 0 (fun _ => True) (.slice (some ⟨b,0,none⟩) 2 2) [(⟨p,q⟩ : S34),⟨r,s⟩] := by
  refine ⟨fun _ _ => trivial,[.int .i64 p,.int .i64 q,.int .i64 r,.int .i64 s],⟨rfl,.inr ⟨b,2,_,rfl,Nat.zero_le _,h,Nat.le_refl _,by decide,rfl,rfl⟩⟩,rfl,fun j x hj => ?_⟩
  match j with
  | 0 => cases hj;exact k34_mkM _ _ _ _
  | 1 => cases hj;exact k34_mkM _ _ _ _
  | j + 2 => simp at hj
 exact (Kd.R_reads' hR).2.2
theorem rows2 {W : World} {bi bo : Nat} {p q : Int} (hi : W.heap[bi]? = some (.cells #[.int .i64 p,.int .i64 q] 32 (0,0))) (ho : W.heap[bo]? = some (.cells #[.slice (some ⟨bi,0,none⟩) 1 1,.slice none 0 0] 28 (0,0))) (hne : bi ≠ bo) : Kd.C (Kd.slice 32 k32) W (some ⟨bo,0,none⟩) 2 [[(⟨p,q⟩ : S32)],[]] := by
 have hr : Kd.R k32 32 W 0 (fun k => True ∧ some k ≠ (Value.slice (some ⟨bo,0,none⟩) 2 2).ownBlock) (.slice (some ⟨bi,0,none⟩) 1 1) [(⟨p,q⟩ : S32)] := by
  refine ⟨fun k hk => ⟨trivial,by simp [Value.ownBlock] at hk ⊢;omega⟩,[.int .i64 p,.int .i64 q],⟨rfl,.inr ⟨bi,1,_,rfl,Nat.zero_le _,hi,Nat.le_refl _,by decide,rfl,rfl⟩⟩,rfl,fun j x hj => ?_⟩
  match j with
  | 0 => cases hj;exact k32_mkM _ _ _ _
  | j + 1 => simp at hj
 have hR : Kd.R (Kd.slice 32 k32) 28 W 0 (fun _ => True) (.slice (some ⟨bo,0,none⟩) 2 2) [[(⟨p,q⟩ : S32)],[]] := by
  refine ⟨fun _ _ => trivial,[.slice (some ⟨bi,0,none⟩) 1 1,.slice none 0 0],⟨rfl,.inr ⟨bo,2,_,rfl,Nat.zero_le _,ho,Nat.le_refl _,by decide,rfl,rfl⟩⟩,rfl,fun j x hj => ?_⟩
  match j with
  | 0 => cases hj;exact ⟨_,rfl,hr⟩
  | 1 => cases hj;exact ⟨_,rfl,Kd.R_nil _ _ _ _ _⟩
  | j + 2 => simp at hj
 exact (Kd.R_reads' hR).2.2
set_option maxHeartbeats 8000000 in
set_option maxRecDepth 100000 in
theorem L_sheets.calls (w : World) : Calls Try.prog 36 #[] w fun e w' => e = .returned (.bool true) ∧ Below w.heap.size w w' := by
 have hu34 := Try.underlying34
 have hu35 := Try.underlying35
 have hu32 := Try.underlying32
 go_enter Try.func36,Try.ntmps36
 go_wp2_with (fail)
 (with_reducible refine (L_span.calls 95 130 95 130 _ (aw_span _ _)).mono ?_)
 rintro e wa ⟨rfl,hb⟩
 have HBa := aM_ hb
 clear hb
 go_wp2_with (fail)
 (with_reducible refine (L_span.calls 0 9 0 9 _ (aw_span _ _)).mono ?_)
 rintro e wb ⟨rfl,hb⟩
 have HBb := aM_ (bT_ HBa.out hb)
 clear hb HBa
 go_wp2_with (fail)
 have LIM := aM_ (lim2 (blk_new wb (.cells #[.int .i64 95,.int .i64 130,.int .i64 0,.int .i64 9] 34)))
 have HB1 := aM_ (bA_ HBb.out (.cells #[.int .i64 95,.int .i64 130,.int .i64 0,.int .i64 9] 34))
 obtain ⟨b1,h1⟩ : ∃ b,wb.heap.size = b := ⟨_,rfl⟩
 obtain ⟨w1,hw1⟩ : ∃ W,wb.alloc (.cells #[.int .i64 95,.int .i64 130,.int .i64 0,.int .i64 9] 34) = W := ⟨_,rfl⟩
 rw [hw1,h1] at LIM
 rw [hw1] at HB1
 rw [hw1,h1]
 clear hw1 h1 HBb
 go_wp2_with (fail)
 (with_reducible refine (L_bench.calls awBench _ aw_bench).mono ?_)
 rintro e x2 ⟨v2,rfl,ho,hb⟩
 obtain ⟨A2,c2,rfl⟩ := Kd.R_slice ho
 have HR := aM_ (Kd.R_reads' ho).2
 have HBx := aM_ (bT_ HB1.out hb)
 have LIMx := aM_ (Kd.C_below LIM.out hb)
 clear ho hb HB1 LIM
 go_wp2_with (fail)
 have bS : Below x2.heap.size x2 ((x2.alloc (.cells #[.int .i64 0,.int .i64 110] 32)).alloc (.cells #[.slice (some ⟨x2.heap.size,0,none⟩) 1 1,.slice none 0 0] 28)) := bA_ (bA_ (Below.refl _ _) _) _
 have CS := rows2 (kA_ (blk_new x2 (.cells #[.int .i64 0,.int .i64 110] 32)) (.cells #[.slice (some ⟨x2.heap.size,0,none⟩) 1 1,.slice none 0 0] 28)) (by have := blk_new (x2.alloc (.cells #[.int .i64 0,.int .i64 110] 32)) (.cells #[.slice (some ⟨x2.heap.size,0,none⟩) 1 1,.slice none 0 0] 28);rwa [World.size_alloc] at this) (by omega)
 refine (gauge_Sheet.calls 9 A2 c2 awBench 0 (some ⟨b1,0,none⟩) 2 [⟨95,130⟩,⟨0,9⟩] (some ⟨x2.heap.size + 1,0,none⟩) 2 [[⟨0,110⟩],[]] 3 1 0 _ (Kd.C_below HR.out.2 bS) HR.out.1 (Kd.C_below LIMx.out bS) (Nat.le_refl _) CS (Nat.le_refl _) kn_sheet1).mono ?_
 rintro e w2 ⟨rfl,hb⟩
 have LIM := aM_ (Kd.C_below LIMx.out (bT_ bS hb))
 have HB1 := aM_ (bT_ HBx.out (bT_ bS hb))
 clear hb bS CS HR HBx LIMx
 go_wp2_with (fail)
 (with_reducible refine (L_bench.calls awBench _ aw_bench).mono ?_)
 rintro e x3 ⟨v3,rfl,ho,hb⟩
 obtain ⟨A3,c3,rfl⟩ := Kd.R_slice ho
 have HR := aM_ (Kd.R_reads' ho).2
 have HBx := aM_ (bT_ HB1.out hb)
 have LIMx := aM_ (Kd.C_below LIM.out hb)
 clear ho hb HB1 LIM
 go_wp2_with (fail)
 have bS : Below x3.heap.size x3 ((x3.alloc (.cells #[.int .i64 0,.int .i64 150] 32)).alloc (.cells #[.slice (some ⟨x3.heap.size,0,none⟩) 1 1,.slice none 0 0] 28)) := bA_ (bA_ (Below.refl _ _) _) _
 have CS := rows2 (kA_ (blk_new x3 (.cells #[.int .i64 0,.int .i64 150] 32)) (.cells #[.slice (some ⟨x3.heap.size,0,none⟩) 1 1,.slice none 0 0] 28)) (by have := blk_new (x3.alloc (.cells #[.int .i64 0,.int .i64 150] 32)) (.cells #[.slice (some ⟨x3.heap.size,0,none⟩) 1 1,.slice none 0 0] 28);rwa [World.size_alloc] at this) (by omega)
 refine (gauge_Sheet.calls 9 A3 c3 awBench 0 (some ⟨b1,0,none⟩) 2 [⟨95,130⟩,⟨0,9⟩] (some ⟨x3.heap.size + 1,0,none⟩) 2 [[⟨0,150⟩],[]] 2 0 0 _ (Kd.C_below HR.out.2 bS) HR.out.1 (Kd.C_below LIMx.out bS) (Nat.le_refl _) CS (Nat.le_refl _) kn_sheet2).mono ?_
 rintro e w3 ⟨rfl,hb⟩
 have LIM := aM_ (Kd.C_below LIMx.out (bT_ bS hb))
 have HB1 := aM_ (bT_ HBx.out (bT_ bS hb))
 clear hb bS CS HR HBx LIMx
 go_wp2_with (fail)
 (with_reducible refine (L_bench.calls awBench _ aw_bench).mono ?_)
 rintro e x4 ⟨v4,rfl,ho,hb⟩
 obtain ⟨A4,c4,rfl⟩ := Kd.R_slice ho
 have HR := aM_ (Kd.R_reads' ho).2
 have HBx := aM_ (bT_ HB1.out hb)
 have LIMx := aM_ (Kd.C_below LIM.out hb)
 clear ho hb HB1 LIM
 go_wp2_with (fail)
 have bS : Below x4.heap.size x4 ((x4.alloc (.cells #[.int .i64 0,.int .i64 110] 32)).alloc (.cells #[.slice (some ⟨x4.heap.size,0,none⟩) 1 1,.slice none 0 0] 28)) := bA_ (bA_ (Below.refl _ _) _) _
 have CS := rows2 (kA_ (blk_new x4 (.cells #[.int .i64 0,.int .i64 110] 32)) (.cells #[.slice (some ⟨x4.heap.size,0,none⟩) 1 1,.slice none 0 0] 28)) (by have := blk_new (x4.alloc (.cells #[.int .i64 0,.int .i64 110] 32)) (.cells #[.slice (some ⟨x4.heap.size,0,none⟩) 1 1,.slice none 0 0] 28);rwa [World.size_alloc] at this) (by omega)
 refine (gauge_Sheet.calls 9 A4 c4 awBench 101 (some ⟨b1,0,none⟩) 2 [⟨95,130⟩,⟨0,9⟩] (some ⟨x4.heap.size + 1,0,none⟩) 2 [[⟨0,110⟩],[]] 0 0 10 _ (Kd.C_below HR.out.2 bS) HR.out.1 (Kd.C_below LIMx.out bS) (Nat.le_refl _) CS (Nat.le_refl _) kn_sheet3).mono ?_
 rintro e w4 ⟨rfl,hb⟩
 have LIM := aM_ (Kd.C_below LIMx.out (bT_ bS hb))
 have HB1 := aM_ (bT_ HBx.out (bT_ bS hb))
 clear hb bS CS HR HBx LIMx
 go_wp2_with (fail)
 go_ret
 exact ⟨rfl,HB1.out⟩
set_option maxHeartbeats 8000000 in
set_option maxRecDepth 100000 in
theorem L_ages.calls (w : World) : Calls Try.prog 37 #[] w fun e w' => e = .returned (.bool true) ∧ Below w.heap.size w w' := by
 have hu34 := Try.underlying34
 have hu35 := Try.underlying35
 have hu73 := Try.underlying73
 have HB0 := aM_ (Below.refl w.heap.size w)
 have HV0 := aM_ (VB.nil w)
 go_enter Try.func37,Try.ntmps37
 go_wp2_with (fail)
 (with_reducible refine (L_span.calls (10) (20) (10) (20) _ (aw_span _ _)).mono ?_)
 rintro e y1 ⟨rfl,hb⟩
 have HB1 := aM_ (bT_ HB0.out hb)
 have HV1 := aM_ (HV0.out.keep hb)
 clear hb HB0 HV0
 go_wp2_with (fail)
 (with_reducible refine (L_span.calls (-1) (3) (-1) (3) _ (aw_span _ _)).mono ?_)
 rintro e y2 ⟨rfl,hb⟩
 have HB2 := aM_ (bT_ HB1.out hb)
 have HV2 := aM_ (HV1.out.keep hb)
 clear hb HB1 HV1
 go_wp2_with (fail)
 (with_reducible refine (gauge_Aged.calls 3 10 20 (-1) 3 500 9 22 0 _ kn_aged1).mono ?_)
 rintro e y3 ⟨rfl,hb⟩
 have HB3 := aM_ (bT_ HB2.out hb)
 have HV3 := aM_ (HV2.out.keep hb)
 clear hb HB2 HV2
 go_wp2_with (fail)
 have HV4 := aM_ (HV3.out.new (9) (22))
 have HB4 := aM_ (bA_ HB3.out (.cells #[.int .i64 (9),.int .i64 (22)] 34))
 obtain ⟨b1,hB⟩ : ∃ b,y3.heap.size = b := ⟨_,rfl⟩
 obtain ⟨y4,hy⟩ : ∃ W,y3.alloc (.cells #[.int .i64 (9),.int .i64 (22)] 34) = W := ⟨_,rfl⟩
 rw [hy,hB] at HV4
 rw [hy] at HB4
 rw [hy,hB]
 clear hy hB HV3 HB3
 go_wp2_with (fail)
 (with_reducible refine (L_span.calls (10) (20) (10) (20) _ (aw_span _ _)).mono ?_)
 rintro e y5 ⟨rfl,hb⟩
 have HB5 := aM_ (bT_ HB4.out hb)
 have HV5 := aM_ (HV4.out.keep hb)
 clear hb HB4 HV4
 go_wp2_with (fail)
 (with_reducible refine (L_span.calls (0) (0) (0) (0) _ (aw_span _ _)).mono ?_)
 rintro e y6 ⟨rfl,hb⟩
 have HB6 := aM_ (bT_ HB5.out hb)
 have HV6 := aM_ (HV5.out.keep hb)
 clear hb HB5 HV5
 go_wp2_with (fail)
 (with_reducible refine (gauge_Aged.calls 3 10 20 0 0 5 10 20 0 _ kn_aged2).mono ?_)
 rintro e y7 ⟨rfl,hb⟩
 have HB7 := aM_ (bT_ HB6.out hb)
 have HV7 := aM_ (HV6.out.keep hb)
 clear hb HB6 HV6
 go_wp2_with (fail)
 have HV8 := aM_ (HV7.out.new (10) (20))
 have HB8 := aM_ (bA_ HB7.out (.cells #[.int .i64 (10),.int .i64 (20)] 34))
 obtain ⟨b3,hB⟩ : ∃ b,y7.heap.size = b := ⟨_,rfl⟩
 obtain ⟨y8,hy⟩ : ∃ W,y7.alloc (.cells #[.int .i64 (10),.int .i64 (20)] 34) = W := ⟨_,rfl⟩
 rw [hy,hB] at HV8
 rw [hy] at HB8
 rw [hy,hB]
 clear hy hB HV7 HB7
 go_wp2_with (fail)
 (with_reducible refine (L_span.calls (10) (20) (10) (20) _ (aw_span _ _)).mono ?_)
 rintro e y9 ⟨rfl,hb⟩
 have HB9 := aM_ (bT_ HB8.out hb)
 have HV9 := aM_ (HV8.out.keep hb)
 clear hb HB8 HV8
 go_wp2_with (fail)
 (with_reducible refine (L_span.calls (0) (1) (0) (1) _ (aw_span _ _)).mono ?_)
 rintro e y10 ⟨rfl,hb⟩
 have HB10 := aM_ (bT_ HB9.out hb)
 have HV10 := aM_ (HV9.out.keep hb)
 clear hb HB9 HV9
 go_wp2_with (fail)
 (with_reducible refine (L_span.calls (12) (25) (12) (25) _ (aw_span _ _)).mono ?_)
 rintro e y11 ⟨rfl,hb⟩
 have HB11 := aM_ (bT_ HB10.out hb)
 have HV11 := aM_ (HV10.out.keep hb)
 clear hb HB10 HV10
 go_wp2_with (fail)
 (with_reducible refine (gauge_Keeps.calls 10 20 0 1 12 25 (-1) 1000000 0 _ kn_keeps1).mono ?_)
 rintro e y12 ⟨rfl,hb⟩
 have HB12 := aM_ (bT_ HB11.out hb)
 have HV12 := aM_ (HV11.out.keep hb)
 clear hb HB11 HV11
 go_wp2_with (fail)
 have HV13 := aM_ (HV12.out.new (-1) (1000000))
 have HB13 := aM_ (bA_ HB12.out (.cells #[.int .i64 (-1),.int .i64 (1000000)] 34))
 obtain ⟨b5,hB⟩ : ∃ b,y12.heap.size = b := ⟨_,rfl⟩
 obtain ⟨y13,hy⟩ : ∃ W,y12.alloc (.cells #[.int .i64 (-1),.int .i64 (1000000)] 34) = W := ⟨_,rfl⟩
 rw [hy,hB] at HV13
 rw [hy] at HB13
 rw [hy,hB]
 clear hy hB HV12 HB12
 go_wp2_with (fail)
 (with_reducible refine (L_span.calls (0) (5) (0) (5) _ (aw_span _ _)).mono ?_)
 rintro e y14 ⟨rfl,hb⟩
 have HB14 := aM_ (bT_ HB13.out hb)
 have HV14 := aM_ (HV13.out.keep hb)
 clear hb HB13 HV13
 go_wp2_with (fail)
 (with_reducible refine (L_span.calls (1000) (1000) (1000) (1000) _ (aw_span _ _)).mono ?_)
 rintro e y15 ⟨rfl,hb⟩
 have HB15 := aM_ (bT_ HB14.out hb)
 have HV15 := aM_ (HV14.out.keep hb)
 clear hb HB14 HV14
 go_wp2_with (fail)
 (with_reducible refine (L_span.calls (0) (9) (0) (9) _ (aw_span _ _)).mono ?_)
 rintro e y16 ⟨rfl,hb⟩
 have HB16 := aM_ (bT_ HB15.out hb)
 have HV16 := aM_ (HV15.out.keep hb)
 clear hb HB15 HV15
 go_wp2_with (fail)
 (with_reducible refine (gauge_Keeps.calls 0 5 1000 1000 0 9 4 9 0 _ kn_keeps2).mono ?_)
 rintro e y17 ⟨rfl,hb⟩
 have HB17 := aM_ (bT_ HB16.out hb)
 have HV17 := aM_ (HV16.out.keep hb)
 clear hb HB16 HV16
 go_wp2_with (fail)
 have HV18 := aM_ (HV17.out.new (4) (9))
 have HB18 := aM_ (bA_ HB17.out (.cells #[.int .i64 (4),.int .i64 (9)] 34))
 obtain ⟨b7,hB⟩ : ∃ b,y17.heap.size = b := ⟨_,rfl⟩
 obtain ⟨y18,hy⟩ : ∃ W,y17.alloc (.cells #[.int .i64 (4),.int .i64 (9)] 34) = W := ⟨_,rfl⟩
 rw [hy,hB] at HV18
 rw [hy] at HB18
 rw [hy,hB]
 clear hy hB HV17 HB17
 have KS := aM_ (show ∀ W : World,Below y18.heap.size y18 W → (fun (W : World) => W.cell? ⟨b1,0,none⟩ = some (.int .i64 (9)) ∧ W.cell? ⟨b1,1,none⟩ = some (.int .i64 (22)) ∧ W.cell? ⟨b3,0,none⟩ = some (.int .i64 (10)) ∧ W.cell? ⟨b3,1,none⟩ = some (.int .i64 (20)) ∧ W.cell? ⟨b5,0,none⟩ = some (.int .i64 (-1)) ∧ W.cell? ⟨b5,1,none⟩ = some (.int .i64 (1000000)) ∧ W.cell? ⟨b7,0,none⟩ = some (.int .i64 (4)) ∧ W.cell? ⟨b7,1,none⟩ = some (.int .i64 (9))) W from fun W hB => by
  have h := HV18.out.keep hB
  exact ⟨h.lo 3 rfl,h.hi 3 rfl,h.lo 2 rfl,h.hi 2 rfl,h.lo 1 rfl,h.hi 1 rfl,h.lo 0 rfl,h.hi 0 rfl⟩)
 have HZ0 := aM_ (bD_ (Below.refl y18.heap.size y18))
 go_upto_region 5 with (fail)
 go_cut [79] (fun v79 wc => v79 = .bool false ∧ Aside0 (Below y18.heap.size y18 wc))
 case first =>
  go_region_held (fun (W : World) => W.cell? ⟨b1,0,none⟩ = some (.int .i64 (9)) ∧ W.cell? ⟨b1,1,none⟩ = some (.int .i64 (22)) ∧ W.cell? ⟨b3,0,none⟩ = some (.int .i64 (10)) ∧ W.cell? ⟨b3,1,none⟩ = some (.int .i64 (20)) ∧ W.cell? ⟨b5,0,none⟩ = some (.int .i64 (-1)) ∧ W.cell? ⟨b5,1,none⟩ = some (.int .i64 (1000000)) ∧ W.cell? ⟨b7,0,none⟩ = some (.int .i64 (4)) ∧ W.cell? ⟨b7,1,none⟩ = some (.int .i64 (9))) (first | exact KS.out _ HZ4.out | exact KS.out _ HZ3.out | exact KS.out _ HZ2.out | exact KS.out _ HZ1.out | exact KS.out _ HZ0.out) (first
   | (go_at_call 24;(with_reducible refine (L_span.calls (9) (22) (9) (22) _ (aw_span _ _)).mono ?_);rintro e w' ⟨rfl,hb⟩;have HZ1 := aM_ (bT_ HZ0.out hb);clear hb)
   | (go_at_call 24;(with_reducible refine (L_span.calls (10) (20) (10) (20) _ (aw_span _ _)).mono ?_);rintro e w' ⟨rfl,hb⟩;have HZ2 := aM_ (bT_ HZ1.out hb);clear hb)
   | (go_at_call 24;(with_reducible refine (L_span.calls (-1) (1000000) (-1) (1000000) _ (aw_span _ _)).mono ?_);rintro e w' ⟨rfl,hb⟩;have HZ3 := aM_ (bT_ HZ2.out hb);clear hb)
   | (go_at_call 24;(with_reducible refine (L_span.calls (4) (9) (4) (9) _ (aw_span _ _)).mono ?_);rintro e w' ⟨rfl,hb⟩;have HZ4 := aM_ (bT_ HZ3.out hb);clear hb))
  all_goals (try simp [Act.put])
  all_goals go_wp2_with (fail)
  all_goals go_meet
  all_goals (case rel => exact ⟨rfl,HZ4⟩)
 case rest =>
 obtain ⟨rfl,HZ⟩ := hcut
 have HBc := aM_ (bT_ HB18.out HZ.out)
 clear KS HZ0 HZ HB18 HV18
 go_wp2_with (fail)
 obtain ⟨w7,hw7⟩ : ∃ W,((wc.alloc (.cells #[.int .i64 0,.int .i64 1] 3)).alloc (.cells #[.int .i64 3,.int .i64 9] 3)).alloc (.cells #[.int .i64 10,.int .i64 10] 3) = W := ⟨_,rfl⟩
 have R1 : w7.heap[wc.heap.size]? = some (.cells #[.int .i64 0,.int .i64 1] 3 (0,0)) := by rw [← hw7];exact kA_ (kA_ (blk_new wc _) _) _
 have R2 : w7.heap[wc.heap.size + 1]? = some (.cells #[.int .i64 3,.int .i64 9] 3 (0,0)) := by rw [← hw7];have := kA_ (blk_new (wc.alloc (.cells #[.int .i64 0,.int .i64 1] 3)) (.cells #[.int .i64 3,.int .i64 9] 3)) (.cells #[.int .i64 10,.int .i64 10] 3);rwa [World.size_alloc] at this
 have R3 : w7.heap[wc.heap.size + 1 + 1]? = some (.cells #[.int .i64 10,.int .i64 10] 3 (0,0)) := by rw [← hw7];have := blk_new ((wc.alloc (.cells #[.int .i64 0,.int .i64 1] 3)).alloc (.cells #[.int .i64 3,.int .i64 9] 3)) (.cells #[.int .i64 10,.int .i64 10] 3);rwa [World.size_alloc,World.size_alloc] at this
 have HB7 : Aside0 (Below w.heap.size w w7) := ⟨by rw [← hw7];exact bA_ (bA_ (bA_ HBc.out _) _) _⟩
 have R1 := aM_ R1
 have R2 := aM_ R2
 have R3 := aM_ R3
 rw [hw7]
 clear hw7 HBc
 go_loopg [12,13,14,15] 2 (fun kx v12 v13 v14 v15 wr => ∃ i : Int,v12 = .int .i64 i ∧ 0 ≤ i ∧ i ≤ 2 ∧ (2 - i).toNat ≤ kx ∧ Aside0 (Below w7.heap.size w7 wr))
 case atStart => exact ⟨0,rfl,by omega,by omega,by omega,⟨Below.refl _ _⟩⟩
 case round =>
  obtain ⟨i,rfl,i0,i1,hkx,HL⟩ := hrel
  have hcase : i = 0 ∨ i = 1 ∨ i = 2 := by omega
  rcases hcase with rfl | rfl | rfl
  ·have z1 := (blk_cell (kB_ R1.out HL.out) 0).trans rfl
   go_wp2_with (fail)
   (with_reducible refine (gauge_Chance.calls 5 2 2 0 3 10 0 _ kn_chance1).mono ?_)
   rintro e x1 ⟨rfl,hb⟩
   have HL1 := aM_ (bT_ HL.out hb)
   have z2 := (blk_cell (kB_ R2.out HL1.out) 0).trans rfl
   have z3 := (blk_cell (kB_ R3.out HL1.out) 0).trans rfl
   clear hb z1 HL
   go_wp2_with (fail)
   go_roundg 1
   case measure => omega
   case rel => exact ⟨1,by go_num,by omega,by omega,by omega,HL1⟩
  ·have z1 := (blk_cell (kB_ R1.out HL.out) 1).trans rfl
   go_wp2_with (fail)
   (with_reducible refine (gauge_Chance.calls 5 2 2 1 9 10 0 _ kn_chance2).mono ?_)
   rintro e x1 ⟨rfl,hb⟩
   have HL1 := aM_ (bT_ HL.out hb)
   have z2 := (blk_cell (kB_ R2.out HL1.out) 1).trans rfl
   have z3 := (blk_cell (kB_ R3.out HL1.out) 1).trans rfl
   clear hb z1 HL
   go_wp2_with (fail)
   go_roundg 0
   case measure => omega
   case rel => exact ⟨2,by go_num,by omega,by omega,by omega,HL1⟩
  ·go_wp2_with (fail)
   (with_reducible refine (gauge_Chance.calls 5 0 3 0 10 10 0 _ kn_chance3).mono ?_)
   rintro e x1 ⟨rfl,hb⟩
   have HX1 := aM_ (bT_ HB7.out (bT_ HL.out hb))
   clear hb HL R1 R2 R3 HB7
   go_wp2_with (fail)
   (with_reducible refine (gauge_Plan.calls 10 0 1 10 10 9 0 0 _ kn_plan1).mono ?_)
   rintro e x2 ⟨rfl,hb⟩
   have HX2 := aM_ (bT_ HX1.out hb)
   clear hb HX1
   go_wp2_with (fail)
   obtain ⟨b18,h18⟩ : ∃ b,x2.heap.size = b := ⟨_,rfl⟩
   have F18 := blk_new x2 (.cells #[.int .i64 9,.int .i64 0] 73)
   have HX3 := aM_ (bA_ HX2.out (.cells #[.int .i64 9,.int .i64 0] 73))
   obtain ⟨x3,hx3⟩ : ∃ W,x2.alloc (.cells #[.int .i64 9,.int .i64 0] 73) = W := ⟨_,rfl⟩
   rw [hx3,h18] at F18
   rw [hx3] at HX3
   rw [hx3,h18]
   clear hx3 h18 HX2
   (with_reducible refine (gauge_Plan.calls 4 1 2 100 100 4 1 0 _ kn_plan2).mono ?_)
   rintro e x4 ⟨rfl,hb⟩
   have HX4 := aM_ (bA_ (bT_ HX3.out hb) (.cells #[.int .i64 4,.int .i64 1] 73))
   have F4 := kA_ (kB_ F18 hb) (.cells #[.int .i64 4,.int .i64 1] 73)
   have q0 := (blk_cell F4 0).trans rfl
   have q1 := (blk_cell F4 1).trans rfl
   clear hb F18 HX3 F4
   go_wp2_with (fail)
   go_ret
   exact ⟨rfl,HX4.out⟩
abbrev sl (g c : Nat) : Value := .slice (some ⟨g,0,none⟩) 2 c
def KSt (b1 : Nat) (W : World) : Nat → Prop
 | 0 => W.heap[b1]? = some (.cells #[.slice none 0 0,.slice none 0 0,.slice none 0 0] 57 (0,0))
 | 1 => ∃ g0 c0,W.heap[b1]? = some (.cells #[sl g0 c0,.slice none 0 0,.slice none 0 0] 57 (0,0)) ∧ b1 < g0 ∧ Own49 W (b1 + 1) g0 c0 awBench
 | 2 => ∃ g0 c0 g1 c1,W.heap[b1]? = some (.cells #[sl g0 c0,sl g1 c1,.slice none 0 0] 57 (0,0)) ∧ b1 < g0 ∧ g0 < g1 ∧ Own49 W (b1 + 1) g0 c0 awBench ∧ Own49 W (b1 + 1) g1 c1 awBench
 | _ => ∃ g0 c0 g1 c1 g2 c2,W.heap[b1]? = some (.cells #[sl g0 c0,sl g1 c1,sl g2 c2] 57 (0,0)) ∧ b1 < g0 ∧ g0 < g1 ∧ g1 < g2 ∧ Own49 W (b1 + 1) g0 c0 awBench ∧ Own49 W (b1 + 1) g1 c1 awBench ∧ Own49 W (b1 + 1) g2 c2 awBench
theorem own_keepO {W W' : World} {base g g' c : Nat} {l : List S49} (h : Own49 W base g c l) (hne : g ≠ g') (hk : KeepBut W W' g' none) : Own49 W' base g c l := by
 obtain ⟨h0,inner,ho,hr⟩ := h
 refine ⟨h0,inner,own_move ho (fun k hk' => hk.2 k (own_lt ho k hk') ?_ (by simp)),hr⟩
 have : k = g := by simpa [Value.ownBlock,eq_comm] using hk'
 omega
theorem rowi2 {W : World} {b : Nat} {p q : Int} (h : W.heap[b]? = some (.cells #[.int .i64 p,.int .i64 q] 3 (0,0))) : Kd.C (Kd.int .i64) W (some ⟨b,0,none⟩) 2 [p,q] := by
 have hR : Kd.R (Kd.int .i64) 3 W 0 (fun _ => True) (.slice (some ⟨b,0,none⟩) 2 2) [p,q] := K_ints ⟨rfl,.inr ⟨b,2,_,rfl,Nat.zero_le _,h,Nat.le_refl _,by decide,rfl,rfl⟩⟩
 exact (Kd.R_reads' hR).2.2
theorem drawn_below {w W W' : World} (h : Below w.heap.size w W) (hd : Drawn0 W W') : Below w.heap.size w W' := by
 obtain ⟨n,rfl⟩ := hd
 exact bN_ h n
theorem c_cells1 {W : World} {gb : Nat} {l : List S49} (h : Kd.C k49 W (some ⟨gb,0,none⟩) l.length l) (h1 : 2 ≤ l.length) :
  W.cell? ⟨gb,7,none⟩ = some (.int .i64 (rd_T49 l 1).f0.f0) ∧ W.cell? ⟨gb,8,none⟩ = some (.int .i64 (rd_T49 l 1).f0.f1) ∧ W.cell? ⟨gb,9,none⟩ = some (.int .i64 (rd_T49 l 1).f1.f0) ∧ W.cell? ⟨gb,10,none⟩ = some (.int .i64 (rd_T49 l 1).f1.f1) ∧ W.cell? ⟨gb,11,none⟩ = some (.int .i64 (rd_T49 l 1).f2) ∧ W.cell? ⟨gb,12,none⟩ = some (.int .i64 (rd_T49 l 1).f3) ∧ W.cell? ⟨gb,13,none⟩ = some (.int .i64 (rd_T49 l 1).f4) := by
 obtain ⟨ad,e,h⟩ := at_T49 h 1 (by omega) (by omega)
 obtain rfl := Option.some.inj e
 simp only [addr0] at h
 exact h
theorem own_below {W : World} {base g c : Nat} {l : List S49} (h : Own49 W base g c l) : g < W.heap.size := by
 obtain ⟨inner,ho⟩ := Kd.R_own h
 exact own_lt ho g (by simp [Value.ownBlock])
set_option maxHeartbeats 8000000 in
set_option maxRecDepth 100000 in
theorem L_GaugeKnown.walk0 (w : World) : Calls Try.prog 8 #[] w fun e w' => e = .returned (.bool true) ∧ Below w.heap.size w w' := by
 have hu34 := Try.underlying34
 have hu35 := Try.underlying35
 have hu49 := Try.underlying49
 have hu57 := Try.underlying57
 have hu25 := Try.underlying25
 go_enter Try.func8,Try.ntmps8
 go_wp2_with (fail)
 have HB1 := aM_ (bA_ (Below.refl w.heap.size w) (.cells #[.slice none 0 0,.slice none 0 0,.slice none 0 0] 57))
 have HS1 := aM_ (show KSt w.heap.size (w.alloc (.cells #[.slice none 0 0,.slice none 0 0,.slice none 0 0] 57)) 0 from blk_new w _)
 have HZ1 := aM_ (show w.heap.size + 1 ≤ (w.alloc (.cells #[.slice none 0 0,.slice none 0 0,.slice none 0 0] 57)).heap.size by simp)
 obtain ⟨b1,h1⟩ : ∃ b,w.heap.size = b := ⟨_,rfl⟩
 obtain ⟨w1,hw1⟩ : ∃ W,w.alloc (.cells #[.slice none 0 0,.slice none 0 0,.slice none 0 0] 57) = W := ⟨_,rfl⟩
 have HB1 : Aside0 (w.heap.size ≤ b1 ∧ Below w.heap.size w w1) := ⟨by omega,by rw [← hw1];exact HB1.out⟩
 rw [hw1,h1] at HS1 HZ1
 rw [hw1,h1]
 clear hw1 h1
 go_loopg [2] 3 (fun kx v2 wr => ∃ i : Nat,v2 = .int .i64 i ∧ i ≤ 3 ∧ 3 - i ≤ kx ∧ Aside0 (KSt b1 wr i) ∧ Aside0 (Below w.heap.size w wr) ∧ Aside0 (b1 + 1 ≤ wr.heap.size))
 case atStart => exact ⟨0,rfl,by omega,by omega,HS1,⟨HB1.out.2⟩,HZ1⟩
 case round =>
  obtain ⟨i,rfl,i1,hkx,HS,HB,HZ⟩ := hrel
  have hcase : i = 0 ∨ i = 1 ∨ i = 2 ∨ i = 3 := by omega
  rcases hcase with rfl | rfl | rfl | rfl
  ·have ha := (show _ = _ from HS.out)
   go_wp2_with (fail)
   (with_reducible refine (L_bench.calls awBench _ aw_bench).mono ?_)
   rintro e x1 ⟨v,rfl,ho,hb⟩
   obtain ⟨g0,c0,rfl,hg⟩ := own_block ho (by decide)
   have hk : KeepBut wr x1 b1 none := KeepBut.of_below hb b1 none
   have hA := kB_ ha hb
   have o0 : Own49 x1 (b1 + 1) g0 c0 awBench := Kd.R_lower ho HZ.out
   have q0 := blk_frozen hA 0
   have q1 := (blk_cell hA 0).trans rfl
   have l0 : b1 < g0 := by have := HZ.out;omega
   have HA := aM_ hA
   have O0 := aM_ o0
   have HB2 := aM_ (bT_ HB.out hb)
   have HZ2 := aM_ (Nat.le_trans HZ.out hb.size)
   clear ho hb hk hA ha HB HZ HS o0
   go_wp2_with (fail)
   have K2 : KeepBut x1 (x1.setCell ⟨b1,0,none⟩ (sl g0 c0)) b1 none := KeepBut.set_ (KeepBut.refl _ _ _) 0 _
   go_roundg (3 - (0 + 1))
   case measure => omega
   case rel => exact ⟨0 + 1,by go_num,by omega,by omega,⟨g0,c0,blk_put HA.out 0 _ rfl,l0,own_keepT HA.out (by decide) O0.out K2⟩,⟨bS_ HB2.out HB1.out.1⟩,⟨by simpa [World.setCell] using HZ2.out⟩⟩
  ·obtain ⟨g0,c0,ha,l0,o0⟩ := HS.out
   have o0_ := o0
   go_wp2_with (fail)
   (with_reducible refine (L_bench.calls awBench _ aw_bench).mono ?_)
   rintro e x1 ⟨v,rfl,ho,hb⟩
   obtain ⟨g1,c1,rfl,hg⟩ := own_block ho (by decide)
   have hk : KeepBut wr x1 b1 none := KeepBut.of_below hb b1 none
   have hA := kB_ ha hb
   have o0 := own_keepT ha (by decide) o0 hk
   have o1 : Own49 x1 (b1 + 1) g1 c1 awBench := Kd.R_lower ho HZ.out
   have q0 := blk_frozen hA 1
   have q1 := (blk_cell hA 1).trans rfl
   have l1 : g0 < g1 := Nat.lt_of_lt_of_le (own_below o0_) hg
   have HA := aM_ hA
   have O0 := aM_ o0
   have O1 := aM_ o1
   have HB2 := aM_ (bT_ HB.out hb)
   have HZ2 := aM_ (Nat.le_trans HZ.out hb.size)
   clear ho hb hk hA ha HB HZ HS o0 o1 o0_
   go_wp2_with (fail)
   have K2 : KeepBut x1 (x1.setCell ⟨b1,1,none⟩ (sl g1 c1)) b1 none := KeepBut.set_ (KeepBut.refl _ _ _) 1 _
   go_roundg (3 - (1 + 1))
   case measure => omega
   case rel => exact ⟨1 + 1,by go_num,by omega,by omega,⟨g0,c0,g1,c1,blk_put HA.out 1 _ rfl,l0,l1,own_keepT HA.out (by decide) O0.out K2,own_keepT HA.out (by decide) O1.out K2⟩,⟨bS_ HB2.out HB1.out.1⟩,⟨by simpa [World.setCell] using HZ2.out⟩⟩
  ·obtain ⟨g0,c0,g1,c1,ha,l0,l1,o0,o1⟩ := HS.out
   have o1_ := o1
   go_wp2_with (fail)
   (with_reducible refine (L_bench.calls awBench _ aw_bench).mono ?_)
   rintro e x1 ⟨v,rfl,ho,hb⟩
   obtain ⟨g2,c2,rfl,hg⟩ := own_block ho (by decide)
   have hk : KeepBut wr x1 b1 none := KeepBut.of_below hb b1 none
   have hA := kB_ ha hb
   have o0 := own_keepT ha (by decide) o0 hk
   have o1 := own_keepT ha (by decide) o1 hk
   have o2 : Own49 x1 (b1 + 1) g2 c2 awBench := Kd.R_lower ho HZ.out
   have q0 := blk_frozen hA 2
   have q1 := (blk_cell hA 2).trans rfl
   have l2 : g1 < g2 := Nat.lt_of_lt_of_le (own_below o1_) hg
   have HA := aM_ hA
   have O0 := aM_ o0
   have O1 := aM_ o1
   have O2 := aM_ o2
   have HB2 := aM_ (bT_ HB.out hb)
   have HZ2 := aM_ (Nat.le_trans HZ.out hb.size)
   clear ho hb hk hA ha HB HZ HS o0 o1 o2 o1_
   go_wp2_with (fail)
   have K2 : KeepBut x1 (x1.setCell ⟨b1,2,none⟩ (sl g2 c2)) b1 none := KeepBut.set_ (KeepBut.refl _ _ _) 2 _
   go_roundg (3 - (2 + 1))
   case measure => omega
   case rel => exact ⟨2 + 1,by go_num,by omega,by omega,⟨g0,c0,g1,c1,g2,c2,blk_put HA.out 2 _ rfl,l0,l1,l2,own_keepT HA.out (by decide) O0.out K2,own_keepT HA.out (by decide) O1.out K2,own_keepT HA.out (by decide) O2.out K2⟩,⟨bS_ HB2.out HB1.out.1⟩,⟨by simpa [World.setCell] using HZ2.out⟩⟩
  ·obtain ⟨g0,c0,g1,c1,g2,c2,ha,l0,l1,l2,o0,o1,o2⟩ := HS.out
   have n1 : b1 ≠ g0 := by omega
   have n2 : b1 ≠ g1 := by omega
   have n3 : b1 ≠ g2 := by omega
   have n4 : g0 ≠ g1 := by omega
   have n5 : g0 ≠ g2 := by omega
   have n6 : g1 ≠ g2 := by omega
   have p0 := (blk_cell ha 0).trans rfl
   have p1 := (blk_cell ha 1).trans rfl
   have p2 := (blk_cell ha 2).trans rfl
   have z0 : wr.cell? ⟨g0,5,none⟩ = some (.int .i64 (-1)) := (own_cells o0 0 (by omega) (by decide)).2.2.2.2.2.1
   have z1 : wr.cell? ⟨g1,5,none⟩ = some (.int .i64 (-1)) := (own_cells o1 0 (by omega) (by decide)).2.2.2.2.2.1
   have z2 : wr.cell? ⟨g2,4,none⟩ = some (.int .i64 10) := (own_cells o2 0 (by omega) (by decide)).2.2.2.2.1
   have y0 := own_frozen o0 5
   have y1 := own_frozen o1 5
   have y2 := own_frozen o2 4
   have O0 := aM_ o0
   have O1 := aM_ o1
   have O2 := aM_ o2
   have HA := aM_ ha
   clear o0 o1 o2 ha
   go_wp2_with (fail)
   go_region
   obtain ⟨w6,hw6⟩ : ∃ W,(((wr.setCell ⟨g0,5,none⟩ (.int .i64 1)).setCell ⟨g1,5,none⟩ (.int .i64 2)).setCell ⟨g2,4,none⟩ (.int .i64 0)).drew = W := ⟨_,rfl⟩
   have ks : ∀ (X : World) (g j : Nat) (v : Value),KeepBut X (X.setCell ⟨g,j,none⟩ v) g none := fun X g j v => KeepBut.set_ (KeepBut.refl _ _ _) j v
   have kd : ∀ X : World,KeepBut X X.drew b1 none := fun X => KeepBut.of_below (bD_ (Below.refl _ _)) b1 none
   have HA6 : Aside0 (w6.heap[b1]? = some (.cells #[sl g0 c0,sl g1 c1,sl g2 c2] 57 (0,0))) := ⟨by rw [← hw6];exact kD_ (blk_far (blk_far (blk_far HA.out n1 _) n2 _) n3 _)⟩
   have O0' : Aside0 (Own49 w6 (b1 + 1) g0 c0 [⟨⟨1000000,1000000⟩,⟨0,0⟩,10,1,100⟩,⟨⟨990000,1010000⟩,⟨-5,5⟩,1,0,50⟩]) := ⟨by
    rw [← hw6]
    exact own_keepO (own_keepO (own_keepO (own_set1 O0.out 0 (by omega) (by decide) 1) n4 (ks _ _ _ _)) n5 (ks _ _ _ _)) (Ne.symm n1) (kd _)⟩
   have O1' : Aside0 (Own49 w6 (b1 + 1) g1 c1 [⟨⟨1000000,1000000⟩,⟨0,0⟩,10,2,100⟩,⟨⟨990000,1010000⟩,⟨-5,5⟩,1,0,50⟩]) := ⟨by
    rw [← hw6]
    exact own_keepO (own_keepO (own_set1 (own_keepO O1.out (Ne.symm n4) (ks _ _ _ _)) 0 (by omega) (by decide) 2) n6 (ks _ _ _ _)) (Ne.symm n2) (kd _)⟩
   have O2' : Aside0 (Own49 w6 (b1 + 1) g2 c2 [⟨⟨1000000,1000000⟩,⟨0,0⟩,0,-1,100⟩,⟨⟨990000,1010000⟩,⟨-5,5⟩,1,0,50⟩]) := ⟨by
    rw [← hw6]
    exact own_keepO (own_set4 (own_keepO (own_keepO O2.out (Ne.symm n5) (ks _ _ _ _)) (Ne.symm n6) (ks _ _ _ _)) 0 (by omega) (by decide) 0) (Ne.symm n3) (kd _)⟩
   have HB6 : Aside0 (Below w.heap.size w w6) := ⟨by rw [← hw6];have := HB1.out.1;exact bD_ (bS_ (bS_ (bS_ HB.out (by omega)) (by omega)) (by omega))⟩
   rw [hw6]
   clear hw6 ks kd n1 n2 n3 n4 n5 n6 p0 p1 p2 z0 z1 z2 y0 y1 y2 O0 O1 O2 HA HB HZ HS l0 l1 l2
   go_wp2_with (fail)
   (with_reducible refine (L_bench.calls awBench _ aw_bench).mono ?_)
   rintro e w7 ⟨v3,rfl,ho,hb⟩
   obtain ⟨g3,c3,rfl,_⟩ := own_block ho (by decide)
   have RB := aM_ (show ∀ W,Below w7.heap.size w7 W → Kd.C k49 W (some ⟨g3,0,none⟩) awBench.length awBench from fun W h => Kd.C_below (Kd.R_reads' ho).2.2 h)
   have LB := aM_ (Kd.R_reads' ho).2.1
   have B0 := aM_ (show ∀ W,Below w7.heap.size w7 W → Kd.C k49 W (some ⟨g0,0,none⟩) 2 [⟨⟨1000000,1000000⟩,⟨0,0⟩,10,1,100⟩,⟨⟨990000,1010000⟩,⟨-5,5⟩,1,0,50⟩] from fun W h => Kd.C_below (Kd.R_reads' O0'.out).2.2 (bT_ hb h))
   have B1 := aM_ (show ∀ W,Below w7.heap.size w7 W → Kd.C k49 W (some ⟨g1,0,none⟩) 2 [⟨⟨1000000,1000000⟩,⟨0,0⟩,10,2,100⟩,⟨⟨990000,1010000⟩,⟨-5,5⟩,1,0,50⟩] from fun W h => Kd.C_below (Kd.R_reads' O1'.out).2.2 (bT_ hb h))
   have B2 := aM_ (show ∀ W,Below w7.heap.size w7 W → Kd.C k49 W (some ⟨g2,0,none⟩) 2 [⟨⟨1000000,1000000⟩,⟨0,0⟩,0,-1,100⟩,⟨⟨990000,1010000⟩,⟨-5,5⟩,1,0,50⟩] from fun W h => Kd.C_below (Kd.R_reads' O2'.out).2.2 (bT_ hb h))
   have LC := aM_ (And.intro (Kd.R_reads' O0'.out).2.1 (And.intro (Kd.R_reads' O1'.out).2.1 (Kd.R_reads' O2'.out).2.1))
   have HA7 := aM_ (kB_ HA6.out hb)
   have HB7 := aM_ (bT_ HB6.out hb)
   clear ho hb O0' O1' O2' HA6 HB6
   have HZ0 := aM_ (Below.refl w7.heap.size w7)
   have AW : Aside0 (∀ W,Calls Try.prog 18 #[] W fun e w' => e = .returned (.bool true) ∧ Below W.heap.size W w') := ⟨fun W => L_awake.calls 3 true W L_awake.holds⟩
   go_wp2_with (fail)
   (with_reducible refine (AW.out _).mono ?_)
   rintro e w8 ⟨rfl,hb⟩
   have HZ1 := aM_ (bT_ HZ0.out hb)
   clear hb HZ0
   go_wp2_with (fail)
   refine (gauge_Check.calls (some ⟨g3,0,none⟩) c3 awBench 0 _ (RB.out _ HZ1.out) LB.out (show gauge_Check.f awBench = some 0 from congrArg some kn_check)).mono ?_
   rintro e w9 ⟨rfl,hb⟩
   have HZ2 := aM_ (bT_ HZ1.out hb)
   clear hb HZ1
   have q := (blk_cell (kB_ HA7.out HZ2.out) 0).trans rfl
   go_wp2_with (fail)
   clear q
   refine (gauge_Check.calls (some ⟨g0,0,none⟩) c0 _ 13 _ (B0.out _ HZ2.out) LC.out.1 kn_check0).mono ?_
   rintro e w10 ⟨rfl,hb⟩
   have HZ3 := aM_ (bT_ HZ2.out hb)
   clear hb HZ2
   have q := (blk_cell (kB_ HA7.out HZ3.out) 1).trans rfl
   go_wp2_with (fail)
   clear q
   refine (gauge_Check.calls (some ⟨g1,0,none⟩) c1 _ 2 _ (B1.out _ HZ3.out) LC.out.2.1 kn_check1).mono ?_
   rintro e w11 ⟨rfl,hb⟩
   have HZ4 := aM_ (bT_ HZ3.out hb)
   clear hb HZ3
   have q := (blk_cell (kB_ HA7.out HZ4.out) 2).trans rfl
   go_wp2_with (fail)
   clear q
   refine (gauge_Check.calls (some ⟨g2,0,none⟩) c2 _ 2 _ (B2.out _ HZ4.out) LC.out.2.2 kn_check2).mono ?_
   rintro e w12 ⟨rfl,hb⟩
   have HZ5 := aM_ (bT_ HZ4.out hb)
   clear hb HZ4
   go_wp2_with (fail)
   clear B0 B1 B2 LC HA7
   (with_reducible refine (gauge_Chain.calls (some ⟨g3,0,none⟩) c3 awBench 1 [1,0] _ (RB.out _ HZ5.out) LB.out kn_chain1).mono ?_)
   rintro e w13 ⟨v57,rfl,hr,hb⟩
   obtain ⟨A57,c57,rfl⟩ := Kd.R_slice hr
   have R57 := aM_ (Kd.R_reads' hr).2
   have HZ6 := aM_ (bT_ HZ5.out hb)
   clear hr hb HZ5
   go_wp2_with (fail)
   have bS : Below w13.heap.size w13 (w13.alloc (.cells #[.int .i64 1,.int .i64 0] 3)) := bA_ (Below.refl _ _) _
   refine (K_Same.calls 4 A57 c57 [1,0] (some ⟨w13.heap.size,0,none⟩) 2 [1,0] true _ (Kd.C_below R57.out.2 bS) R57.out.1 (rowi2 (blk_new w13 _)) (Nat.le_refl _) kn_same).mono ?_
   rintro e w14 ⟨rfl,hd⟩
   have HZ7 := aM_ (drawn_below (bT_ HZ6.out bS) hd)
   clear bS hd HZ6 R57
   go_wp2_with (fail)
   (with_reducible refine (gauge_Chain.calls (some ⟨g3,0,none⟩) c3 awBench 2 [] _ (RB.out _ HZ7.out) LB.out kn_chain2).mono ?_)
   rintro e w15 ⟨v63,rfl,hr,hb⟩
   obtain ⟨A63,c63,rfl⟩ := Kd.R_slice hr
   have HZ8 := aM_ (bT_ HZ7.out hb)
   clear hr hb HZ7
   obtain ⟨q0,q1,q2,q3,q4,q5,q6⟩ := (show w15.cell? ⟨g3,7,none⟩ = some (.int .i64 (990000)) ∧ w15.cell? ⟨g3,8,none⟩ = some (.int .i64 (1010000)) ∧ w15.cell? ⟨g3,9,none⟩ = some (.int .i64 (-5)) ∧ w15.cell? ⟨g3,10,none⟩ = some (.int .i64 (5)) ∧ w15.cell? ⟨g3,11,none⟩ = some (.int .i64 (1)) ∧ w15.cell? ⟨g3,12,none⟩ = some (.int .i64 (0)) ∧ w15.cell? ⟨g3,13,none⟩ = some (.int .i64 (50)) from c_cells1 (RB.out _ HZ8.out) (by decide))
   go_wp2_with (fail)
   (with_reducible refine (gauge_Makes.calls 3 990000 1010000 (-5) 5 1 0 50 1000 985 1015 _ kn_makes1).mono ?_)
   rintro e w16 ⟨rfl,hb⟩
   have HZ9 := aM_ (bT_ HZ8.out hb)
   clear hb HZ8
   clear q0 q1 q2 q3 q4 q5 q6
   go_wp2_with (fail)
   (with_reducible refine (L_span.calls (985) (1015) (985) (1015) _ (aw_span _ _)).mono ?_)
   rintro e w17 ⟨rfl,hb⟩
   have HZ10 := aM_ (bT_ HZ9.out hb)
   clear hb HZ9
   obtain ⟨q0,q1,q2,q3,q4,q5,q6⟩ := (show w17.cell? ⟨g3,7,none⟩ = some (.int .i64 (990000)) ∧ w17.cell? ⟨g3,8,none⟩ = some (.int .i64 (1010000)) ∧ w17.cell? ⟨g3,9,none⟩ = some (.int .i64 (-5)) ∧ w17.cell? ⟨g3,10,none⟩ = some (.int .i64 (5)) ∧ w17.cell? ⟨g3,11,none⟩ = some (.int .i64 (1)) ∧ w17.cell? ⟨g3,12,none⟩ = some (.int .i64 (0)) ∧ w17.cell? ⟨g3,13,none⟩ = some (.int .i64 (50)) from c_cells1 (RB.out _ HZ10.out) (by decide))
   go_wp2_with (fail)
   (with_reducible refine (gauge_Makes.calls 3 990000 1010000 (-5) 5 1 0 50 (-1000) (-1015) (-985) _ kn_makes2).mono ?_)
   rintro e w18 ⟨rfl,hb⟩
   have HZ11 := aM_ (bT_ HZ10.out hb)
   clear hb HZ10
   clear q0 q1 q2 q3 q4 q5 q6
   go_wp2_with (fail)
   (with_reducible refine (L_span.calls (-1015) (-985) (-1015) (-985) _ (aw_span _ _)).mono ?_)
   rintro e w19 ⟨rfl,hb⟩
   have HZ12 := aM_ (bT_ HZ11.out hb)
   clear hb HZ11
   obtain ⟨q0,q1,q2,q3,q4,q5,q6⟩ := (show w19.cell? ⟨g3,0,none⟩ = some (.int .i64 (1000000)) ∧ w19.cell? ⟨g3,1,none⟩ = some (.int .i64 (1000000)) ∧ w19.cell? ⟨g3,2,none⟩ = some (.int .i64 (0)) ∧ w19.cell? ⟨g3,3,none⟩ = some (.int .i64 (0)) ∧ w19.cell? ⟨g3,4,none⟩ = some (.int .i64 (10)) ∧ w19.cell? ⟨g3,5,none⟩ = some (.int .i64 (-1)) ∧ w19.cell? ⟨g3,6,none⟩ = some (.int .i64 (100)) from c_cells0 (RB.out _ HZ12.out) (by decide))
   go_wp2_with (fail)
   (with_reducible refine (gauge_Makes.calls 3 1000000 1000000 0 0 10 (-1) 100 7 7 7 _ kn_makes3).mono ?_)
   rintro e w20 ⟨rfl,hb⟩
   have HZ13 := aM_ (bT_ HZ12.out hb)
   clear hb HZ12
   clear q0 q1 q2 q3 q4 q5 q6
   go_wp2_with (fail)
   (with_reducible refine (L_span.calls (7) (7) (7) (7) _ (aw_span _ _)).mono ?_)
   rintro e w21 ⟨rfl,hb⟩
   have HZ14 := aM_ (bT_ HZ13.out hb)
   clear hb HZ13
   go_wp2_with (fail)
   (with_reducible refine (gauge_True.calls (some ⟨g3,0,none⟩) c3 awBench 0 100 95 105 0 _ (RB.out _ HZ14.out) LB.out kn_true1).mono ?_)
   rintro e wx ⟨rfl,hb⟩
   have HX := aM_ (bA_ (bT_ HZ14.out hb) (.cells #[.int .i64 95,.int .i64 105] 34))
   clear hb HZ14
   go_wp2_with (fail)
   have VX := aM_ (VB.new (VB.nil wx) 95 105)
   obtain ⟨b4,h4⟩ : ∃ b,wx.heap.size = b := ⟨_,rfl⟩
   obtain ⟨wy,hy⟩ : ∃ W,wx.alloc (.cells #[.int .i64 95,.int .i64 105] 34) = W := ⟨_,rfl⟩
   rw [hy] at HX
   rw [hy,h4] at VX
   rw [hy,h4]
   clear hy h4
   (with_reducible refine (gauge_True.calls (some ⟨g3,0,none⟩) c3 awBench 0 105 0 0 3 _ (RB.out _ HX.out) LB.out kn_true2).mono ?_)
   rintro e wz ⟨rfl,hb⟩
   have bz : Below wy.heap.size wy (wz.alloc (.cells #[.int .i64 0,.int .i64 0] 34)) := bA_ hb _
   have HY := aM_ (bT_ HX.out bz)
   have VY := aM_ (VX.out.keep bz)
   clear hb bz HX VX
   go_wp2_with (fail)
   (with_reducible refine (gauge_True.calls (some ⟨g3,0,none⟩) c3 awBench 2 0 0 0 7 _ (RB.out _ HY.out) LB.out kn_true3).mono ?_)
   rintro e wt ⟨rfl,hb⟩
   have bz := bA_ hb (.cells #[.int .i64 0,.int .i64 0] 34)
   have HT := aM_ (bT_ HY.out bz)
   have VT := aM_ (VY.out.keep bz)
   clear hb bz HY VY
   clear RB LB
   go_upto_region 15 with (fail)
   obtain ⟨wu,hu⟩ : ∃ W,wt.alloc (.cells #[.int .i64 0,.int .i64 0] 34) = W := ⟨_,rfl⟩
   rw [hu] at HT VT ⊢
   clear hu
   have KS := aM_ (show ∀ W : World,Below wu.heap.size wu W → (fun (W : World) => W.cell? ⟨b4,0,none⟩ = some (.int .i64 95) ∧ W.cell? ⟨b4,1,none⟩ = some (.int .i64 105)) W from fun W hB => by
    have h := VT.out.keep hB
    exact ⟨h.lo 0 rfl,h.hi 0 rfl⟩)
   have HY0 := aM_ (bD_ (Below.refl wu.heap.size wu))
   go_cut [10] (fun v10 wc => v10 = .bool true ∧ Aside0 (Below wu.heap.size wu wc))
   case first =>
    go_region_held (fun (W : World) => W.cell? ⟨b4,0,none⟩ = some (.int .i64 95) ∧ W.cell? ⟨b4,1,none⟩ = some (.int .i64 105)) (first | exact KS.out _ HY4.out | exact KS.out _ HY3.out | exact KS.out _ HY2.out | exact KS.out _ HY1.out | exact KS.out _ HY0.out) (first
     | (go_at_call 24;(with_reducible refine (L_span.calls 95 105 95 105 _ (aw_span _ _)).mono ?_);rintro e w' ⟨rfl,hb⟩;have HY1 := aM_ (bT_ HY0.out hb);clear hb)
     | (go_at_call 20;(with_reducible refine (gauge_Verdict.calls 3 95 105 95 105 1 _ kn_verdict1).mono ?_);rintro e w' ⟨rfl,hb⟩;have HY2 := aM_ (bT_ HY1.out hb);clear hb)
     | (go_at_call 24;(with_reducible refine (L_span.calls 96 105 96 105 _ (aw_span _ _)).mono ?_);rintro e w' ⟨rfl,hb⟩;have HY3 := aM_ (bT_ HY2.out hb);clear hb)
     | (go_at_call 20;(with_reducible refine (gauge_Verdict.calls 3 95 105 96 105 3 _ kn_verdict2).mono ?_);rintro e w' ⟨rfl,hb⟩;have HY4 := aM_ (bT_ HY3.out hb);clear hb))
    all_goals (try simp [Act.put])
    all_goals go_wp2_with (fail)
    all_goals go_meet
    all_goals (case rel => exact ⟨rfl,HY4⟩)
   case rest =>
   obtain ⟨rfl,HY⟩ := hcut
   have HF := aM_ (bT_ HB7.out (bT_ HT.out HY.out))
   clear KS HY0 HY VT HT HB7
   go_wp2_with (fail)
   (with_reducible refine (L_accepts.calls _).mono ?_)
   rintro e wa ⟨rfl,hb⟩
   have HF1 := aM_ (bT_ HF.out hb)
   clear hb HF
   go_wp2_with (fail)
   (with_reducible refine (L_sheets.calls _).mono ?_)
   rintro e wb ⟨rfl,hb⟩
   have HF2 := aM_ (bT_ HF1.out hb)
   clear hb HF1
   go_wp2_with (fail)
   (with_reducible refine (L_ages.calls _).mono ?_)
   rintro e wd ⟨rfl,hb⟩
   have HF3 := aM_ (bT_ HF2.out hb)
   clear hb HF2
   go_wp2_with (fail)
   go_ret
   exact ⟨rfl,HF3.out⟩
def L_GaugeKnown.f : Option Bool := some true
theorem GaugeKnown : L_GaugeKnown.f = some true := rfl
theorem L_GaugeKnown.calls (r : Bool) (w : World) (h : L_GaugeKnown.f = some r) : Calls Try.prog 8 #[] w fun e w' => e = .returned (.bool r) ∧ Below w.heap.size w w' := by
 obtain rfl := Option.some.inj h
 exact L_GaugeKnown.walk0 w
end Go.Proofs.Ytdbpobadeibjaab.GE
