/- GaugeChecks,its plain part: what the printed functions compute answers as the statement says,for every input;no condition beside the statement's own. -/
import Derived.Deep.DeepCutAuto
import Derived.Test.YtdbpobadeibjaaaGEx40
import Derived.Test.YtdbpobadeibjaaaGEx39
import Derived.Test.YtdbpobadeibjaaaGEx26
import Derived.Test.YtdbpobadeibjaaaGEx32
import Derived.Test.YtdbpobadeibjaaaGEx21
import Derived.Test.YtdbpobadeibjaaaGEx13
import Derived.Test.YtdbpobadeibjaaaGEx8
namespace Go.Proofs.Ytdbpobadeibjaaa.GE
open Go.RowKit Go.Proofs.YtdbpobadeibjaaaW.PrintWords Go.Proofs.YtdbpobadeibjaaaW.PrintLast
def ApI (A0 : Option Addr) (c0 : Nat) (l0 : List S36) (Bb : Nat) (w0 w : World) (pre : List Int) (W : World) : Prop :=
 ∃ v,W.heap[w.heap.size]? = some (.cells #[v] 23 (0,0)) ∧ W.ownsRow (w.heap.size + 1) 3 1 v pre.length (pre.map (Value.int .i64)) ∧ W.heap[Bb]? = some (.cells #[.slice A0 l0.length c0] 22 (0,0)) ∧ Below w0.heap.size w0 W ∧ w.heap.size + 1 ≤ W.heap.size
theorem own_kept {W W' : World} {base n size : Nat} {e : TypeId} {v : Value} {xs : List Value} {row : Option Nat} (h : W.ownsRow base e size v n xs) (hg : W.grownBy W' row) (hne : ∀ k,v.ownBlock = some k → some k ≠ row) : W'.ownsRow base e size v n xs :=
 own_move h fun k hk => hg.block k (own_lt h k hk) (hne k hk)
theorem ApI.grown {A0 : Option Addr} {c0 : Nat} {l0 : List S36} {Bb : Nat} {w0 w : World} {pre : List Int} {W W' : World} {row : Option Nat} (h : ApI A0 c0 l0 Bb w0 w pre W) (hb : Bb < w.heap.size) (h0 : w0.heap.size ≤ w.heap.size) (hg : W.grownBy W' row)
  (hr : ∀ r,row = some r → (w0.heap.size ≤ r ∧ r ≠ Bb ∧ r < w.heap.size) ∨ (w.heap.size + 1 ≤ r ∧ ∃ o : Obj,W.heap[r]? = some o ∧ o.isCells = false)) : ApI A0 c0 l0 Bb w0 w pre W' := by
 obtain ⟨v,hv,ho,hB,hw,hs⟩ := h
 have ne : ∀ k,k = w.heap.size ∨ k = Bb → some k ≠ row := fun k hk e => by
  rcases hr k e.symm with h | h
  ·omega
  ·omega
 refine ⟨v,heap_other hg hv (ne _ (.inl rfl)),own_kept ho hg (fun k hk e => ?_),heap_other hg hB (ne _ (.inr rfl)),hw.grown hg hw.size (fun k e => by rcases hr k e with h | h <;> omega),Nat.le_trans hs hg.size⟩
 rcases hr k e.symm with ⟨_,_,h⟩ | ⟨_,o,h1,h2⟩
 ·have := own_base ho k hk;omega
 ·obtain ⟨cs,hc⟩ := own_typed ho k hk
  rw [hc] at h1
  have := Option.some.inj h1
  subst this
  cases h2

attribute [local go_sem] Oper.semAt_some in
set_option maxHeartbeats 8000000 in
set_option maxRecDepth 1000000 in
theorem slices_AppendSeq.calls (A0 : Option Addr) (c0 : Nat) (l0 : List S36) (m : Int) (Bb Bm : Nat) (w0 w : World) (hlen : l0.length ≤ 12) (hby : ∀ i : Int,0 ≤ i → i < l0.length → (rd_T36 l0 i).f3 < l0.length) (hm : m < l0.length) (hne : Bb ≠ Bm)
  (hBb : w0.heap.size ≤ Bb) (hBm : w0.heap.size ≤ Bm) (hbb : w.heap[Bb]? = some (.cells #[.slice A0 l0.length c0] 22 (0,0))) (hbm : w.heap[Bm]? = some (.cells #[.int .i64 m] 3 (0,0))) (hC : Kd.C k36 w0 A0 l0.length l0) (hw : Below w0.heap.size w0 w) :
  Calls Try.prog 90 #[.slice none 0 0,.func (.func 89) #[] #[.pointer (some ⟨Bb,0,none⟩),.pointer (some ⟨Bm,0,none⟩)]] w fun e w' => ∃ v,e = .returned v ∧ w'.ownsRow w.heap.size 3 1 v (chainL l0 m).length ((chainL l0 m).map (Value.int .i64)) ∧ Below w0.heap.size w0 w' := by
 have h0 : w0.heap.size ≤ w.heap.size := hw.size
 have hbl : Bb < w.heap.size := blk_lt hbb
 have hml : Bm < w.heap.size := blk_lt hbm
 have HC := aM_ hC
 have HW := aM_ hw
 have BB := aM_ (kA_ hbb (.cells #[.slice none 0 0] 23))
 have BM := aM_ (kA_ hbm (.cells #[.slice none 0 0] 23))
 clear hC hw hbb hbm
 refine calls_marks Try.func90 rfl ?_
 simp only [Try.ntmps90,List.size_toArray,List.length_cons,List.length_nil,Nat.reduceAdd,Nat.reduceSub,Array.replicate_succ,Array.replicate_zero,List.push_toArray,List.append_toArray,List.nil_append,List.cons_append]
 go_wp2
 obtain ⟨W0,hW⟩ : ∃ W0,w.alloc (.cells #[.slice none 0 0] 23) = W0 := ⟨_,rfl⟩
 have f0 : W0.heap[w.heap.size]? = some (.cells #[.slice none 0 0] 23 (0,0)) := by rw [← hW];exact World.alloc_heap_new w _
 have hsz : W0.heap.size = w.heap.size + 1 := by rw [← hW];simp
 have BW : Aside0 (Below w0.heap.size w0 W0) := ⟨by rw [← hW];exact HW.out.alloc HW.out.size _⟩
 rw [hW] at BB BM ⊢
 clear hW
 refine wp_range_chain l0 A0 c0 m Bb Bm 9 hlen (by omega) hby hm hne rfl BM.out (ApI A0 c0 l0 Bb w0 w)
  (fun pre W W' row hi hg hr => hi.grown hbl h0 hg (fun r e => (hr r e).elim (fun h => .inl (by rw [h];exact ⟨hBm,fun e => hne e.symm,hml⟩)) (fun h => .inr ⟨by have := h.1;omega,h.2⟩)))
  (fun pre W hi => by obtain ⟨_,_,_,h3,h4,_⟩ := hi;exact ⟨h3,Kd.C_below HC.out h4⟩)
  ⟨_,f0,own_nil _ _ _ _,BB.out,BW.out,by omega⟩
  (fun x => { tmps := #[.slice none 0 0,.func (.func 89) #[] #[.pointer (some ⟨Bb,0,none⟩),.pointer (some ⟨Bm,0,none⟩)],.pointer (some ⟨w.heap.size,0,none⟩),undef,.slice none 0 0,.int .i64 x,.func (.func 89) #[] #[.pointer (some ⟨Bb,0,none⟩),.pointer (some ⟨Bm,0,none⟩)],.int .i64 x,undef,undef,undef,undef,undef],defers := [] }) ?assign ?body ?done
 case assign =>
  intro lp x W K hK
  gi_wp2
  exact hK
 case body =>
  intro lp pre x W hpre hi hmc
  obtain ⟨v,hv,ho,hB,hw,hs⟩ := hi
  obtain ⟨i0,hi0,hz0,hz1,hz2⟩ := info_parts info3
  have hpl : pre.length < 12 := by
   have := hpre.length_le
   have := chainGo_length l0 l0.length m
   unfold chainL at *
   simp at *
   omega
  have k0 : W.cell? ⟨w.heap.size,0,none⟩ = some v := (blk_cell hv 0).trans rfl
  have E1 := aM_ hv
  have E2 := aM_ ho
  have E3 := aM_ hB
  have E4 := aM_ hw
  have E5 := aM_ hmc
  clear hv ho hB hw hmc hpre
  have vne : ∀ k (cs : Array Value) (q : TypeId),W.heap[k]? = some (.cells cs q (0,0)) → q ≠ 3 ∨ k < w.heap.size + 1 → some k ≠ v.ownBlock := fun k cs q hk hq e => by
   rcases hq with hq | hq
   ·obtain ⟨cs',hc⟩ := own_typed E2.out k e.symm
    rw [hc] at hk
    injection hk with hk
    injection hk with _ h2 _
    exact hq h2.symm
   ·have := own_base E2.out k e.symm;omega
  have VNE := aM_ vne
  clear vne
  gi_wp2_with (gi_at_builtin;refine wpListIn_append_own _ rfl _ _ 23 rfl (w.heap.size + 1) 3 i0 (.int .i64 0) 1 8 Try.underlying23 hi0 hz0 hz1 hz2 rfl (by decide) _ _ _ rfl (own_kept E2.out (World.grownBy_alloc W _ none) (fun _ _ e => by cases e)) ⟨W.heap.size,0,none⟩ 1 1 [.int .i64 x] rfl rfl (cell_one_new _ _ _) (by simp [Value.oneCell']) (by unfold maxLen;omega) (by omega) (by simp;omega) ?_;intro v' w3 ho3 hg3 hn3;obtain ⟨g',cap',rfl⟩ : ∃ g' cap',v' = .slice (some ⟨g',0,none⟩) (pre.length + 1) cap' := (ho3.2.elim (fun h => absurd h.2 (by omega)) (fun h => by obtain ⟨g',cap',_,h,_⟩ := h;exact ⟨g',cap',h⟩));have z0 : w3.heap[w.heap.size]? = some (.cells #[v] 23 (0,0)) := heap_other hg3 (kA_ E1.out _) (VNE.out _ _ _ E1.out (.inr (by omega)));have z1 : w3.cell? ⟨w.heap.size,0,none⟩ = some v := (blk_cell z0 0).trans rfl;have z2 := blk_frozen z0 0;have Z0 := aM_ z0;have O3 := aM_ ho3;have G3 := aM_ hg3;clear ho3 hg3 hn3 z0)
  have bm3 : w3.heap[Bm]? = some (.cells #[.int .i64 x] 3 (0,0)) := heap_other G3.out (kA_ E5.out _) (VNE.out _ _ _ E5.out (.inr (by omega)))
  have bb3 : w3.heap[Bb]? = some (.cells #[.slice A0 l0.length c0] 22 (0,0)) := heap_other G3.out (kA_ E3.out _) (VNE.out _ _ _ E3.out (.inl (by decide)))
  have hw3 : Below w0.heap.size w0 w3 := (E4.out.alloc E4.out.size _).grown G3.out (by have := E4.out.size;simp;omega) (fun k e => by have := own_base E2.out k e;omega)
  have hs3 : w.heap.size + 1 ≤ w3.heap.size := by have := G3.out.size;simp at this;omega
  refine ⟨(((KeepsOthers.alloc W _).trans (KeepsOthers.of_grownBy G3.out (fun j o e hj => ?_))).trans (KeepsOthers.setCell _ _ _)).from _,blk_far bm3 (by show _ ≠ w.heap.size;omega) _,_,blk_put Z0.out 0 _ rfl,?_,blk_far bb3 (by show _ ≠ w.heap.size;omega) _,bS_ hw3 (by show w0.heap.size ≤ w.heap.size;omega),by simpa using hs3⟩
  ·obtain ⟨cs,hc⟩ := own_typed (own_kept E2.out (World.grownBy_alloc W (.cells #[.int .i64 x] 3) none) (fun _ _ e => by cases e)) j e
   rw [hc] at hj
   rw [← Option.some.inj hj]
   rfl
  ·rw [List.length_append,List.map_append]
   exact own_kept O3.out (grownBy_setCell' w3 w.heap.size _) (fun k e h => by have := own_base O3.out k e;have := Option.some.inj h;omega)
 case done =>
  intro D W hD hi hK
  obtain ⟨v,hv,ho,hB,hw,hs⟩ := hi
  have k0 : W.cell? ⟨w.heap.size,0,none⟩ = some v := (blk_cell hv 0).trans rfl
  have E2 := aM_ ho
  have E4 := aM_ hw
  have EK := aM_ hK
  clear hv ho hB hw hK
  go_wp2
  refine ⟨by simp,.inl ⟨D,_,rfl,run_takeDeferred EK.out,?_⟩⟩
  refine ⟨_,by simp [results,Try.results90,go_sem],v,rfl,?_,E4.out.grown (grownBy_putObj' W D _) E4.out.size (fun k e => by have := Option.some.inj e;omega)⟩
  refine own_weaken (own_kept E2.out (grownBy_putObj' W D _) (fun k hk e => ?_)) (Nat.le_succ _)
  have := Option.some.inj e
  subst this
  obtain ⟨cs,hc⟩ := own_typed E2.out k hk
  rw [hc] at EK
  have := EK.out
  cases this
set_option maxHeartbeats 4000000 in
set_option maxRecDepth 1000000 in
theorem slices_Collect.calls (A0 : Option Addr) (c0 : Nat) (l0 : List S36) (m : Int) (Bb Bm : Nat) (w0 w : World) (hlen : l0.length ≤ 12) (hby : ∀ i : Int,0 ≤ i → i < l0.length → (rd_T36 l0 i).f3 < l0.length) (hm : m < l0.length) (hne : Bb ≠ Bm)
  (hBb : w0.heap.size ≤ Bb) (hBm : w0.heap.size ≤ Bm) (hbb : w.heap[Bb]? = some (.cells #[.slice A0 l0.length c0] 22 (0,0))) (hbm : w.heap[Bm]? = some (.cells #[.int .i64 m] 3 (0,0))) (hC : Kd.C k36 w0 A0 l0.length l0) (hw : Below w0.heap.size w0 w) :
  Calls Try.prog 79 #[.func (.func 89) #[] #[.pointer (some ⟨Bb,0,none⟩),.pointer (some ⟨Bm,0,none⟩)]] w fun e w' => ∃ v,e = .returned v ∧ w'.ownsRow w.heap.size 3 1 v (chainL l0 m).length ((chainL l0 m).map (Value.int .i64)) ∧ Below w0.heap.size w0 w' := by
 have HC := aM_ (slices_AppendSeq.calls A0 c0 l0 m Bb Bm w0 w hlen hby hm hne hBb hBm hbb hbm hC hw)
 clear hC hw hbb hbm hby
 go_enter Try.func79,Try.ntmps79
 go_wp2_with (go_at_call 90;(with_reducible refine HC.out.mono ?_);rintro e w' ⟨v,rfl,h1,h2⟩;have H1 := aM_ h1;have H2 := aM_ h2;clear h1 h2)
 go_ret
 exact ⟨v,rfl,H1.out,H2.out⟩
def gauge_Chain.f (l0 : List S36) (a1 : Int) : Option (List Int) := if checkP l0 ≠ 0 then some [] else if a1 < 0 ∨ a1 > (l0.length : Int) - 1 then some [] else some (chainL l0 a1)
theorem K_ints {w : World} {base : Nat} {v : Value} {xs : List Int} (h : w.ownsRow base 3 1 v xs.length (xs.map (Value.int .i64))) : Kd.R (Kd.int .i64) 3 w base (fun _ => True) v xs :=
 ⟨fun _ _ => trivial,_,h,by simp [Kd.int,Kd.scalar],fun j p hj => by
  show (((xs.map (Value.int .i64)).drop (j * 1)).take 1) = [Value.int .i64 p]
  obtain ⟨hl,hp⟩ := List.getElem?_eq_some_iff.1 hj
  rw [Nat.mul_one,List.drop_eq_getElem_cons (by simpa using hl),List.take_succ_cons,List.take_zero,List.getElem_map,hp]⟩
theorem chain_ok {l : List S36} (h : checkP l = 0) : BenchOk l := by
 unfold checkP at h
 by_cases h12 : 12 < l.length
 ·rw [if_pos h12] at h;omega
 rw [if_neg h12] at h
 by_cases hf : firstErr l.length l = 0
 ·exact ⟨by omega,firstErr_zero hf⟩
 ·rw [if_pos hf] at h;exact absurd h hf
set_option maxHeartbeats 8000000 in
set_option maxRecDepth 1000000 in
set_option maxHeartbeats 4000000 in
set_option maxRecDepth 1000000 in
theorem gauge_Chain.calls (A0 : Option Addr) (c0 : Nat) (l0 : List (S36)) (a1 : Int) (r : List Int) (w : World) (hr0 : Kd.C k36 w A0 l0.length l0) (hc0 : l0.length ≤ c0) (h : gauge_Chain.f l0 a1 = some r) :
  Calls Try.prog 39 #[.slice A0 l0.length c0,.int .i64 a1] w fun e w' => ∃ v,e = .returned v ∧ Kd.R (Kd.int .i64) 3 w' w.heap.size (fun _ => True) v r ∧ Below w.heap.size w w' := by
 unfold gauge_Chain.f at h
 have HR := aM_ hr0
 have hmax := hr0.2.1
 clear hr0
 have CK := aM_ (fun W (hb : Below w.heap.size w W) => gauge_Check.calls A0 c0 l0 (checkP l0) W (Kd.C_below HR.out hb) hc0 rfl)
 go_enter Try.func39,Try.ntmps39
 by_cases hck : checkP l0 = 0
 case neg =>
  rw [if_pos hck] at h
  obtain rfl := Option.some.inj h
  clear h
  generalize checkP l0 = ck at CK hck
  go_wp2_with (go_at_call 36;(with_reducible refine (CK.out _ (Below.refl _ _)).mono ?_);rintro e w1 ⟨rfl,hb1⟩;have B1 := aM_ hb1;clear hb1)
  go_ret
  exact ⟨_,rfl,Kd.R_nil _ _ _ _ _,B1.out⟩
 rw [if_neg (by omega)] at h
 have OK := aM_ (chain_ok hck)
 rw [hck] at CK
 clear hck
 by_cases hm : a1 < 0 ∨ a1 > (l0.length : Int) - 1
 ·rw [if_pos hm] at h
  obtain rfl := Option.some.inj h
  clear h
  have OT := aM_ (fun W => gauge_outside.calls a1 0 ((l0.length : Int) - 1) true W (outside_true hm))
  clear hm
  go_wp2_with (first | (go_at_call 36;(with_reducible refine (CK.out _ (Below.refl _ _)).mono ?_);rintro e w1 ⟨rfl,hb1⟩;have B1 := aM_ hb1;clear hb1) | (go_at_call 54;(with_reducible refine (OT.out _).mono ?_);rintro e w2 ⟨rfl,⟨nd,rfl⟩⟩))
  go_ret
  exact ⟨_,rfl,Kd.R_nil _ _ _ _ _,bN_ B1.out nd⟩
 ·rw [if_neg hm] at h
  obtain rfl := Option.some.inj h
  clear h
  have OT := aM_ (fun W => gauge_outside.calls a1 0 ((l0.length : Int) - 1) false W (outside_false (by omega)))
  have CL := aM_ (fun (X : World) (hb : Below w.heap.size w X) (h63 : X.heap.size + 1 ≠ X.heap.size) => slices_Collect.calls A0 c0 l0 a1 X.heap.size (X.heap.size + 1) w ((X.alloc (.cells #[.slice A0 l0.length c0] 22)).alloc (.cells #[.int .i64 a1] 3)) OK.out.1 (fun i i0 i1 => (OK.out.at i i0 i1).2.2.2.2.2.2) (by omega) (by omega) hb.size (by have := hb.size;omega) (kA_ (World.alloc_heap_new X _) _) (by have := World.alloc_heap_new (X.alloc (.cells #[.slice A0 l0.length c0] 22)) (.cells #[.int .i64 a1] 3);rwa [World.size_alloc] at this) HR.out ((hb.alloc hb.size _).alloc (by have := hb.size;simp;omega) _))
  clear hm
  go_wp2_with (first | (go_at_call 36;(with_reducible refine (CK.out _ (Below.refl _ _)).mono ?_);rintro e w1 ⟨rfl,hb1⟩;have B1 := aM_ hb1;clear hb1) | (go_at_call 54;(with_reducible refine (OT.out _).mono ?_);rintro e w2 ⟨rfl,⟨nd,rfl⟩⟩;obtain ⟨X,hX⟩ : ∃ X,X = w1.drewN nd := ⟨_,rfl⟩;rw [← hX];have BX := aM_ (show Below w.heap.size w X by rw [hX];exact bN_ B1.out nd);clear hX) | (go_at_call 76;(with_reducible refine (gauge_chain.calls _ _ _ _ _).mono ?_);rintro e w3 ⟨rfl,rfl⟩) | (go_at_call 79;refine (CL.out X BX.out (by omega)).mono ?_;rintro e w4 ⟨v,rfl,hv,hb⟩;have HV := aM_ hv;have HB := aM_ hb;clear hv hb))
  go_ret
  exact ⟨_,rfl,K_ints (own_weaken HV.out (by have := BX.out.size;simp;omega)),HB.out⟩
def Ev {α : Type} (g : Nat → Option α) (r : α) : Prop := ∃ K,∀ k,K ≤ k → g k = some r
theorem Ev.rounds {α : Type} {g : Nat → Option α} {r : α} (h : Ev g r) : ∃ k,g k = some r := by
 obtain ⟨K,hK⟩ := h
 exact ⟨K,hK K (Nat.le_refl _)⟩
theorem Ev.bind {α β : Type} {g : Nat → Option α} {f : Nat → α → Option β} {a : α} {r : β} (h : Ev g a) (k : Ev (fun n => f n a) r) : Ev (fun n => (g n).bind (f n)) r := by
 obtain ⟨K,hK⟩ := h
 obtain ⟨J,hJ⟩ := k
 refine ⟨max K J,fun n hn => ?_⟩
 show (g n).bind (f n) = some r
 rw [hK n (by omega)]
 exact hJ n (by omega)
theorem Ev.step {α : Type} {g f : Nat → Option α} {r : α} (h : ∀ k,g (k + 1) = f k) (k : Ev f r) : Ev g r := by
 obtain ⟨K,hK⟩ := k
 refine ⟨K + 1,fun n hn => ?_⟩
 obtain ⟨m,rfl⟩ : ∃ m,n = m + 1 := ⟨n - 1,by omega⟩
 rw [h m]
 exact hK m (by omega)
theorem Ev.congr {α : Type} {g f : Nat → Option α} {r : α} (h : ∀ k,g k = f k) (k : Ev f r) : Ev g r := by
 obtain ⟨K,hK⟩ := k
 exact ⟨K,fun n hn => (h n).trans (hK n hn)⟩
theorem Ev.pos {α : Type} {c : Prop} [Decidable c] {f g : Nat → Option α} {r : α} (h : c) (k : Ev f r) : Ev (fun n => if c then f n else g n) r := Ev.congr (fun _ => if_pos h) k
theorem Ev.neg {α : Type} {c : Prop} [Decidable c] {f g : Nat → Option α} {r : α} (h : ¬ c) (k : Ev g r) : Ev (fun n => if c then f n else g n) r := Ev.congr (fun _ => if_neg h) k
theorem Ev.call {α β : Type} {x : Option α} {a : α} {f : Nat → α → Option β} {r : β} (h : x = some a) (k : Ev (fun n => f n a) r) : Ev (fun n => x.bind (f n)) r := Ev.congr (fun n => by rw [h];rfl) k
theorem Ev.done {α : Type} {x : Option α} {r : α} (h : x = some r) : Ev (fun _ => x) r := ⟨0,fun _ _ => h⟩
theorem MadeBench.ok {l : List S36} (h : MadeBench l) (h12 : l.length ≤ 12) : BenchOk l := by
 refine ⟨h12,fun x hx => ?_⟩
 obtain ⟨i,hi,rfl⟩ := List.getElem_of_mem hx
 have := h i hi
 unfold rd_T36 at this
 rw [Int.toNat_natCast,List.getD_eq_getElem?_getD,List.getElem?_eq_getElem hi,Option.getD_some] at this
 obtain ⟨a1,a2,a3,a4,a5,a6,a7,a8,a9,a10,a11,a12⟩ := this
 exact ⟨⟨a1,a2,a3,by omega,a5,by omega⟩,a7,by omega,by omega,by omega,a9,by omega⟩
theorem MadeBench.at {l : List S36} (h : MadeBench l) (m : Int) (h0 : 0 ≤ m) (h1 : m < l.length) : MeterIn m (rd_T36 l m) := by
 have := h m.toNat (by omega)
 rw [Int.toNat_of_nonneg h0] at this
 exact this
theorem chainGo_neg (l : List S36) (n : Nat) (m : Int) (h : m < 0) : chainGo l n m = [] := by
 cases n with
 | zero => rfl
 | succ n => rw [chainGo,if_pos h]
theorem beyond_true {n lo hi : Int} (h : n < lo ∨ n > hi) : R_beyond.f n lo hi = some true := by
 unfold R_beyond.f
 by_cases c : n < lo
 ·rw [if_pos c]
 ·rw [if_neg c,decide_eq_true (by omega)]
theorem beyond_false {n lo hi : Int} (h : lo ≤ n ∧ n ≤ hi) : R_beyond.f n lo hi = some false := by
 unfold R_beyond.f
 rw [if_neg (by omega),decide_eq_false (by omega)]
def afterGo (l : List S36) : Nat → Int → Int
 | 0,m => m
 | k + 1,m => if m < 0 then m else afterGo l k (rd_T36 l m).f3
theorem afterGo_neg (l : List S36) (k : Nat) (m : Int) (h : m < 0) : afterGo l k m = m := by
 cases k with
 | zero => rfl
 | succ k => rw [afterGo,if_pos h]
theorem afterGo_mono (l : List S36) : ∀ (k : Nat) (m : Int),afterGo l k m < 0 → ∀ j,k ≤ j → afterGo l j m < 0 := by
 intro k
 induction k with
 | zero => intro m h j _;rw [afterGo_neg l j m h];exact h
 | succ k ih =>
  intro m h j hj
  obtain ⟨j,rfl⟩ : ∃ i,j = i + 1 := ⟨j - 1,by omega⟩
  rw [afterGo] at h ⊢
  by_cases hm : m < 0
  ·rw [if_pos hm];exact hm
  ·rw [if_neg hm] at h ⊢
   exact ih _ h j (by omega)
theorem bound_nodup : ∀ (n : Nat) (c : List Int),c.Nodup → (∀ x ∈ c,0 ≤ x ∧ x < n) → c.length ≤ n := by
 intro n
 induction n with
 | zero =>
  intro c _ h
  cases c with
  | nil => exact Nat.le_refl _
  | cons x c => have := h x (by simp);omega
 | succ n ih =>
  intro c hn h
  by_cases hm : (n : Int) ∈ c
  ·have h1 := ih (c.erase (n : Int)) (hn.erase _) (fun x hx => by
    rw [hn.mem_erase_iff] at hx
    have := h x hx.2
    have := hx.1
    omega)
   rw [List.length_erase_of_mem hm] at h1
   omega
  ·have := ih c hn (fun x hx => by
    have := h x hx
    have : x ≠ n := fun e => hm (e ▸ hx)
    omega)
   omega
theorem depth_list {l : List S36} (hb : ∀ m : Int,0 ≤ m → m < l.length → (rd_T36 l m).f3 < l.length) : ∀ (d : Nat) (m : Int),m < l.length → afterGo l d m < 0 → (∀ j,j < d → ¬ afterGo l j m < 0) →
  ∃ c : List Int,c.length = d ∧ c.Nodup ∧ ∀ x ∈ c,(0 ≤ x ∧ x < l.length) ∧ afterGo l d x < 0 := by
 intro d
 induction d with
 | zero => intro m _ _ _;exact ⟨[],rfl,List.nodup_nil,fun x hx => by cases hx⟩
 | succ d ih =>
  intro m hm h hj
  have m0 : ¬ m < 0 := hj 0 (by omega)
  have h' := h
  rw [afterGo,if_neg m0] at h
  obtain ⟨c,hc,hn,hx⟩ := ih (rd_T36 l m).f3 (hb m (by omega) hm) h (fun j hjd => by
   have := hj (j + 1) (by omega)
   rw [afterGo,if_neg m0] at this
   exact this)
  refine ⟨m :: c,by simp [hc],List.nodup_cons.2 ⟨fun hmc => hj d (by omega) (hx m hmc).2,hn⟩,fun x hxm => ?_⟩
  rcases List.mem_cons.1 hxm with rfl | hxc
  ·exact ⟨⟨by omega,hm⟩,h'⟩
  ·exact ⟨(hx x hxc).1,afterGo_mono l d x (hx x hxc).2 _ (by omega)⟩
theorem afterGo_enough {l : List S36} (hb : ∀ m : Int,0 ≤ m → m < l.length → (rd_T36 l m).f3 < l.length) (m : Int) (hm : m < l.length) : ∀ k : Nat,afterGo l k m < 0 → afterGo l l.length m < 0 := by
 intro k
 induction k using Nat.strongRecOn with
 | _ k ih =>
  intro h
  by_cases hex : ∃ j,j < k ∧ afterGo l j m < 0
  ·obtain ⟨j,hj,h'⟩ := hex
   exact ih j hj h'
  ·obtain ⟨c,hc,hn,hx⟩ := depth_list hb k m hm h (fun j hj h' => hex ⟨j,hj,h'⟩)
   have := bound_nodup l.length c hn (fun x hxc => (hx x hxc).1)
   exact afterGo_mono l k m h _ (by omega)
theorem last_after {l : List S36} : ∀ (n : Nat) (m d : Int),0 ≤ m → ((rd_T36 l ((chainGo l (n + 1) m).getLastD d)).f3 < 0 ↔ afterGo l (n + 1) m < 0) := by
 intro n
 induction n with
 | zero =>
  intro m d h0
  rw [chainGo,if_neg (by omega),afterGo,if_neg (by omega)]
  exact Iff.rfl
 | succ n ih =>
  intro m d h0
  rw [chainGo,if_neg (by omega),afterGo,if_neg (by omega),List.getLastD_cons]
  by_cases hb : (rd_T36 l m).f3 < 0
  ·rw [chainGo_neg l _ _ hb,afterGo_neg l _ _ hb]
   exact Iff.rfl
  ·exact ih _ _ (by omega)
theorem endsP_after {l : List S36} (hb : ∀ m : Int,0 ≤ m → m < l.length → -1 ≤ (rd_T36 l m).f3 ∧ (rd_T36 l m).f3 < l.length) (i : Int) (h0 : 0 ≤ i) (h1 : i < l.length) : endsP l i ↔ afterGo l (l.length + 1) i < 0 := by
 have e : endsP l i ↔ (rd_T36 l ((chainL l i).getLastD i)).f3 < 0 := by
  unfold endsP
  have hmem : 0 ≤ (chainL l i).getLastD i ∧ (chainL l i).getLastD i < l.length := by
   have hall : ∀ x ∈ i :: chainL l i,0 ≤ x ∧ x < (l.length : Int) := by
    intro x hx
    rcases List.mem_cons.1 hx with rfl | hx
    ·exact ⟨h0,h1⟩
    ·have go : ∀ (n : Nat) (m : Int),m < l.length → ∀ x ∈ chainGo l n m,0 ≤ x ∧ x < (l.length : Int) := by
      intro n
      induction n with
      | zero => intro m _ x hx;cases hx
      | succ n ih =>
       intro m hm x hx
       rw [chainGo] at hx
       split at hx
       ·cases hx
       ·rcases List.mem_cons.1 hx with rfl | hx
        ·exact ⟨by omega,hm⟩
        ·exact ih _ (hb m (by omega) hm).2 x hx
     exact go _ _ h1 x hx
   exact hall _ (getLastD_mem i (chainL l i))
  have := hb _ hmem.1 hmem.2
  omega
 rw [e]
 unfold chainL
 obtain ⟨n,hn⟩ : ∃ n,l.length = n + 1 := ⟨l.length - 1,by omega⟩
 have h2 := last_after (l := l) n i i h0
 rw [← hn] at h2
 rw [h2]
 exact ⟨fun h => afterGo_mono l _ _ h _ (by omega),afterGo_enough (fun m a b => (hb m a b).2) i h1 _⟩
theorem refChain_any {l : List S36} (hb : ∀ m : Int,0 ≤ m → m < l.length → -1 ≤ (rd_T36 l m).f3 ∧ (rd_T36 l m).f3 < l.length) (h20 : l.length ≤ 20) : ∀ (d : Nat) (m : Int) (pre : List Int),m < l.length → pre.length + d = l.length + 1 →
  ∃ c,Ev (fun k => R_chain.l0 k l m pre) (c,decide (afterGo l d m < 0)) := by
 intro d
 induction d with
 | zero =>
  intro m pre h0 h1
  by_cases hm : m < 0
  ·refine ⟨pre,Ev.step (fun k => by rw [R_chain.l0]) ?_⟩
   exact Ev.neg (by omega) (Ev.done (by rw [afterGo]))
  ·refine ⟨pre,Ev.step (fun k => by rw [R_chain.l0]) ?_⟩
   exact Ev.pos (by omega) (Ev.neg (by omega) (Ev.done (by rw [afterGo])))
 | succ d ih =>
  intro m pre h0 h1
  by_cases hm : m < 0
  ·refine ⟨pre,Ev.step (fun k => by rw [R_chain.l0]) ?_⟩
   exact Ev.neg (by omega) (Ev.done (by rw [afterGo,if_pos hm]))
  ·obtain ⟨b0,b1⟩ := hb m (by omega) h0
   obtain ⟨c,hc⟩ := ih (rd_T36 l m).f3 (pre ++ [m]) b1 (by simp;omega)
   refine ⟨c,Ev.step (fun k => by rw [R_chain.l0]) ?_⟩
   rw [afterGo,if_neg hm]
   exact Ev.pos (by omega) (Ev.pos (by omega) (Ev.pos (by omega) (Ev.pos (by omega) (Ev.pos h0 hc))))
theorem refRange_ev (a b lo hi : Int) : Ev (fun k => R_checkRange.f k a b lo hi) (rangeErr a b lo hi) := by
 unfold R_checkRange.f rangeErr
 by_cases h1 : lo ≤ a ∧ a ≤ hi
 ·refine Ev.call (beyond_false h1) (Ev.neg (by decide) ?_)
  by_cases h2 : lo ≤ b ∧ b ≤ hi
  ·refine Ev.call (beyond_false h2) ?_
   rw [if_neg (by omega)]
   refine Ev.step (fun k => by rw [R_checkRange.j0]) (Ev.neg (by decide) ?_)
   by_cases h3 : a > b
   ·exact Ev.pos h3 (Ev.done (by rw [if_pos h3]))
   ·exact Ev.neg h3 (Ev.done (by rw [if_neg h3]))
  ·refine Ev.call (beyond_true (by omega)) ?_
   rw [if_pos (by omega)]
   exact Ev.step (fun k => by rw [R_checkRange.j0]) (Ev.pos rfl (Ev.done rfl))
 ·refine Ev.call (beyond_true (by omega)) (Ev.pos rfl ?_)
  rw [if_pos (by omega)]
  exact Ev.step (fun k => by rw [R_checkRange.j0]) (Ev.pos rfl (Ev.done rfl))
theorem refMaking_ev (a b c d e f g : Int) : Ev (fun k => R_checkMaking.f k a b c d e f g) (makingErr a b c d) := by
 unfold R_checkMaking.f makingErr
 refine Ev.bind (refRange_ev a b 500000 2000000) ?_
 by_cases h : rangeErr a b 500000 2000000 = 0
 ·rw [if_neg (by omega)]
  exact Ev.pos h (Ev.bind (refRange_ev c d (-1000000) 1000000) (Ev.done rfl))
 ·rw [if_pos h]
  exact Ev.neg h (Ev.done rfl)
theorem firstErr_drop (n : Int) (l : List S36) (k : Nat) (h : k < l.length) : firstErr n (l.drop k) = if meterErr n (rd_T36 l k) ≠ 0 then meterErr n (rd_T36 l k) else firstErr n (l.drop (k + 1)) := by
 rw [drop_at l k h,firstErr]
theorem refCheck_ev (l : List S36) (h20 : l.length ≤ 20) : Ev (fun k => R_Check.f k l) (checkP l) := by
 unfold R_Check.f checkP
 by_cases h12 : 12 < l.length
 ·rw [if_pos h12]
  exact Ev.pos (by omega) (Ev.done rfl)
 rw [if_neg h12]
 refine Ev.neg (by omega) ?_
 have loose : (∀ x ∈ l,MeterOk l.length x) → ∀ (d i : Nat),i + d = l.length → Ev (fun k => R_Check.l1 k l i) (looseFrom l d i) := by
  intro hok d
  have hb : ∀ m : Int,0 ≤ m → m < l.length → -1 ≤ (rd_T36 l m).f3 ∧ (rd_T36 l m).f3 < l.length := fun m m0 m1 => by
   obtain ⟨_,_,_,_,_,a11,a12⟩ := BenchOk.at ⟨by omega,hok⟩ m m0 m1
   exact ⟨a11,a12⟩
  induction d with
  | zero =>
   intro i hi
   refine Ev.step (fun k => by rw [R_Check.l1]) ?_
   exact Ev.neg (by omega) (Ev.done rfl)
  | succ d ih =>
   intro i hi
   refine Ev.step (fun k => by rw [R_Check.l1]) (Ev.pos (by omega) ?_)
   obtain ⟨c,hc⟩ := refChain_any hb h20 (l.length + 1) i [] (by omega) (by simp)
   have hc' : Ev (fun k => R_chain.f k l i) (c,decide (afterGo l (l.length + 1) i < 0)) := hc
   refine Ev.bind hc' ?_
   have he := endsP_after hb i (by omega) (by omega)
   rw [looseFrom]
   by_cases h : endsP l i
   ·rw [if_pos h,decide_eq_true (he.1 h)]
    refine Ev.pos rfl ?_
    rw [wrap64_eq (by omega)]
    exact ih (i + 1) (by omega)
   ·rw [if_neg h,decide_eq_false (fun h' => h (he.2 h'))]
    exact Ev.neg (by simp) (Ev.done rfl)
 have go : ∀ (d i : Nat),i + d = l.length → (∀ j,j < i → meterErr l.length (rd_T36 l j) = 0) → Ev (fun k => R_Check.l0 k l i) (if firstErr l.length (l.drop i) ≠ 0 then firstErr l.length (l.drop i) else looseFrom l l.length 0) := by
  intro d
  induction d with
  | zero =>
   intro i hi hall
   refine Ev.step (fun k => by rw [R_Check.l0]) (Ev.neg (by omega) ?_)
   rw [List.drop_of_length_le (by omega)]
   rw [if_neg (by simp [firstErr])]
   have hok : ∀ x ∈ l,MeterOk l.length x := fun x hx => by
    obtain ⟨j,hj,rfl⟩ := List.getElem_of_mem hx
    have := meterErr_zero (hall j (by omega))
    unfold rd_T36 at this
    rw [Int.toNat_natCast,List.getD_eq_getElem?_getD,List.getElem?_eq_getElem hj] at this
    exact this
   exact loose hok l.length 0 (by omega)
  | succ d ih =>
   intro i hi hall
   refine Ev.step (fun k => by rw [R_Check.l0]) (Ev.pos (by omega) (Ev.pos (by omega) ?_))
   rw [firstErr_drop _ l i (by omega),wrap64_eq (n := (l.length : Int) - 1) (by omega),wrap64_eq (n := (i : Int) + 1) (by omega)]
   refine Ev.bind (refMaking_ev _ _ _ _ _ _ _) ?_
   obtain ⟨x,hx⟩ : ∃ x,x = rd_T36 l i := ⟨_,rfl⟩
   rw [← hx]
   have hnext : meterErr l.length x = 0 → Ev (fun k => R_Check.l0 k l ((i : Int) + 1)) (if firstErr l.length (l.drop (i + 1)) ≠ 0 then firstErr l.length (l.drop (i + 1)) else looseFrom l l.length 0) := fun h0 => ih (i + 1) (by omega) (fun j hj => by
    by_cases e : j = i
    ·subst e;rw [← hx];exact h0
    ·exact hall j (by omega))
   by_cases h1 : makingErr x.f0.f0 x.f0.f1 x.f1.f0 x.f1.f1 = 0
   ·refine Ev.pos h1 ?_
    have e : meterErr l.length x = if x.f2 < 1 ∨ x.f2 > 1000000 ∨ x.f4 < 0 ∨ x.f4 > 1000000000 ∨ x.f3 < -1 ∨ x.f3 > (l.length : Int) - 1 then 2 else 0 := by unfold meterErr;rw [if_neg (by omega)]
    by_cases h2 : 1 ≤ x.f2 ∧ x.f2 ≤ 1000000
    ·refine Ev.call (beyond_false h2) (Ev.neg (by decide) ?_)
     by_cases h3 : 0 ≤ x.f4 ∧ x.f4 ≤ 1000000000
     ·refine Ev.call (beyond_false h3) (Ev.neg (by decide) ?_)
      by_cases h4 : -1 ≤ x.f3 ∧ x.f3 ≤ (l.length : Int) - 1
      ·refine Ev.call (beyond_false h4) (Ev.neg (by decide) ?_)
       rw [if_neg (by omega)] at e
       have h5 : ¬ (if meterErr l.length x ≠ 0 then meterErr l.length x else firstErr l.length (l.drop (i + 1))) ≠ (if meterErr l.length x ≠ 0 then meterErr l.length x else firstErr l.length (l.drop (i + 1))) := by simp
       simp only [e,ne_eq,not_true_eq_false,if_false]
       exact hnext e
      ·rw [if_pos (by omega)] at e
       refine Ev.call (beyond_true (by omega)) (Ev.pos rfl (Ev.done ?_))
       simp [e]
     ·rw [if_pos (by omega)] at e
      refine Ev.call (beyond_true (by omega)) (Ev.pos rfl (Ev.done ?_))
      simp [e]
    ·rw [if_pos (by omega)] at e
     refine Ev.call (beyond_true (by omega)) (Ev.pos rfl (Ev.done ?_))
     simp [e]
   ·refine Ev.neg h1 (Ev.done ?_)
    have e : meterErr l.length x = makingErr x.f0.f0 x.f0.f1 x.f1.f0 x.f1.f1 := by unfold meterErr;rw [if_pos h1]
    rw [e]
    simp [h1]
 have := go l.length 0 (by omega) (fun j hj => by omega)
 rw [List.drop_zero] at this
 exact this
theorem refDown_eq {n d : Int} (hd : 0 < d) (h : -9223372036854775808 ≤ n ∧ n ≤ 9223372036854775807) : R_Down.f n d = some (n / d) := by
 have e := tdown (n := n) hd
 have b := tdiv_bound hd h
 unfold R_Down.f
 rw [if_neg (by omega)]
 by_cases c : Int.tmod n d < 0
 ·rw [if_pos c] at e ⊢
  rw [wrap64_eq (n := Int.tdiv n d) ⟨b.1,b.2.1⟩,wrap64_eq ⟨b.2.2 c,by omega⟩,e]
 ·rw [if_neg c] at e ⊢
  rw [wrap64_eq ⟨b.1,b.2.1⟩,e]
theorem refMade_eq {a0 a1 a2 a3 : Int} (a4 a5 a6 : Int) {x : Int} (h : meterOk a0 a1 a2 a3) (x0 : -4398046511104 ≤ x) (x1 : x ≤ 4398046511104) : R_Made.f a0 a1 a2 a3 a4 a5 a6 x = some (loEnd a0 a1 a2 x,hiEnd a0 a1 a3 x) := by
 obtain ⟨g0,g1,g2,o0,o1,o2⟩ := h
 have m0 := mul_within x0 x1 (show 0 ≤ a0 by omega) (show a0 ≤ 2000000 by omega) (by omega)
 have m1 := mul_within x0 x1 (show 0 ≤ a1 by omega) (show a1 ≤ 2000000 by omega) (by omega)
 unfold R_Made.f R_Up.f loEnd hiEnd
 by_cases hx : x < 0
 ·have hle : x * a1 ≤ x * a0 := Int.mul_le_mul_of_nonpos_left (show x ≤ 0 by omega) g1
  rw [if_pos hx,wrap64_eq (n := x * a1) (by omega),wrap64_eq (n := x * a0) (by omega),wrap64_eq (n := -(x * a0)) (by omega),refDown_eq (by omega) (by omega),refDown_eq (by omega) (by omega)]
  simp only [Option.bind_some]
  rw [wrap64_eq (n := -(-(x * a0) / 1000000)) (by omega),wrap64_eq (n := x * a1 / 1000000 + a2) (by omega),wrap64_eq (by omega),Int.min_eq_right hle,Int.max_eq_left hle]
 ·have hle : x * a0 ≤ x * a1 := Int.mul_le_mul_of_nonneg_left g1 (by omega)
  rw [if_neg hx,wrap64_eq (n := x * a0) (by omega),wrap64_eq (n := x * a1) (by omega),wrap64_eq (n := -(x * a1)) (by omega),refDown_eq (by omega) (by omega),refDown_eq (by omega) (by omega)]
  simp only [Option.bind_some]
  rw [wrap64_eq (n := -(-(x * a1) / 1000000)) (by omega),wrap64_eq (n := x * a0 / 1000000 + a2) (by omega),wrap64_eq (by omega),Int.min_eq_left hle,Int.max_eq_right hle]
theorem one_some (s : Int) : ∃ b s',D_One.f s 2 = some (b,s') := by
 obtain ⟨v,s',e,_,_⟩ := upto_some s 2 (by omega) (by omega)
 unfold D_One.f
 rw [e]
 exact ⟨_,_,rfl⟩
theorem mod_any (a m : Int) (h0 : 1 ≤ m) (h1 : m ≤ 4000000000000) : ∃ t,K_Mod.f a m = some t ∧ 0 ≤ t ∧ t < m := by
 unfold K_Mod.f
 have u := Int.tmod_lt_of_pos a (show 0 < m by omega)
 have l := Int.tmod_lt_of_pos (-a) (show 0 < m by omega)
 rw [Int.neg_tmod] at l
 rw [if_neg (by omega),if_neg (by omega)]
 by_cases c : Int.tmod a m < 0
 ·rw [if_pos c,wrap64_eq (by omega)]
  exact ⟨_,rfl,by omega,by omega⟩
 ·rw [if_neg c]
  exact ⟨_,rfl,by omega,u⟩
theorem dice_some {l : List Int} (h : l.length ≤ maxLen) : K_NewDice.f l = some (diceOf l) := by
 unfold maxLen at h
 unfold K_NewDice.f
 rw [if_pos (by omega)]
theorem chainGo_stop (l : List S36) : ∀ (d : Nat) (m : Int),afterGo l d m < 0 → chainGo l (d + 1) m = chainGo l d m := by
 intro d
 induction d with
 | zero => intro m h;rw [chainGo_neg l _ m h];rfl
 | succ d ih =>
  intro m h
  by_cases hm : m < 0
  ·rw [chainGo_neg l _ m hm,chainGo_neg l _ m hm]
  ·rw [afterGo,if_neg hm] at h
   have e1 : chainGo l (d + 1 + 1) m = m :: chainGo l (d + 1) (rd_T36 l m).f3 := by rw [chainGo,if_neg hm]
   have e2 : chainGo l (d + 1) m = m :: chainGo l d (rd_T36 l m).f3 := by rw [chainGo,if_neg hm]
   rw [e1,e2,ih _ h]
theorem refChain_full {l : List S36} (hb : ∀ m : Int,0 ≤ m → m < l.length → -1 ≤ (rd_T36 l m).f3 ∧ (rd_T36 l m).f3 < l.length) (h20 : l.length ≤ 20) : ∀ (d : Nat) (m : Int) (pre : List Int),m < l.length → pre.length + d = l.length + 1 →
  Ev (fun k => R_chain.l0 k l m pre) (pre ++ chainGo l d m,decide (afterGo l d m < 0)) := by
 intro d
 induction d with
 | zero =>
  intro m pre h0 h1
  by_cases hm : m < 0
  ·refine Ev.step (fun k => by rw [R_chain.l0]) ?_
   exact Ev.neg (by omega) (Ev.done (by rw [afterGo,chainGo,List.append_nil]))
  ·refine Ev.step (fun k => by rw [R_chain.l0]) ?_
   exact Ev.pos (by omega) (Ev.neg (by omega) (Ev.done (by rw [afterGo,chainGo,List.append_nil])))
 | succ d ih =>
  intro m pre h0 h1
  by_cases hm : m < 0
  ·refine Ev.step (fun k => by rw [R_chain.l0]) ?_
   exact Ev.neg (by omega) (Ev.done (by rw [afterGo,if_pos hm,chainGo,if_pos hm,List.append_nil]))
  ·obtain ⟨b0,b1⟩ := hb m (by omega) h0
   have hc := ih (rd_T36 l m).f3 (pre ++ [m]) b1 (by simp;omega)
   refine Ev.step (fun k => by rw [R_chain.l0]) ?_
   rw [List.append_assoc] at hc
   rw [afterGo,if_neg hm,chainGo,if_neg hm]
   exact Ev.pos (by omega) (Ev.pos (by omega) (Ev.pos (by omega) (Ev.pos (by omega) (Ev.pos h0 hc))))
theorem checkP_valid {l : List S36} (h : checkP l = 0) : BenchOk l ∧ ∀ i : Nat,i < l.length → endsP l i := by
 unfold checkP at h
 by_cases h12 : 12 < l.length
 ·rw [if_pos h12] at h;omega
 rw [if_neg h12] at h
 by_cases hf : firstErr l.length l = 0
 ·rw [if_neg (by omega)] at h
  refine ⟨⟨by omega,firstErr_zero hf⟩,?_⟩
  have go : ∀ d i : Nat,i + d = l.length → looseFrom l d i = 0 → ∀ j,i ≤ j → j < l.length → endsP l j := by
   intro d
   induction d with
   | zero => intro i hi _ j h1 h2;omega
   | succ d ih =>
    intro i hi hl j h1 h2
    unfold looseFrom at hl
    by_cases he : endsP l i
    ·rw [if_pos he] at hl
     by_cases hij : j = i
     ·subst hij;exact he
     ·exact ih (i + 1) (by omega) hl j (by omega) h2
    ·rw [if_neg he] at hl;omega
  exact fun i hi => go l.length 0 (by omega) h i (by omega) hi
 ·rw [if_pos hf] at h;exact absurd h hf
theorem benchBy {l : List S36} (hb : BenchOk l) : ∀ m : Int,0 ≤ m → m < l.length → -1 ≤ (rd_T36 l m).f3 ∧ (rd_T36 l m).f3 < l.length := fun m m0 m1 => by
 obtain ⟨_,_,_,_,_,a11,a12⟩ := hb.at m m0 m1
 exact ⟨a11,a12⟩
theorem refChain_valid {l : List S36} (h : checkP l = 0) {m : Int} (m0 : 0 ≤ m) (m1 : m < l.length) : Ev (fun k => R_chain.f k l m) (chainL l m,true) := by
 obtain ⟨hb,he⟩ := checkP_valid h
 have h12 := hb.1
 have := refChain_full (benchBy hb) (by omega) (l.length + 1) m [] m1 (by simp)
 have hm := he m.toNat (by omega)
 rw [Int.toNat_of_nonneg m0] at hm
 have ha := (endsP_after (benchBy hb) m m0 m1).1 hm
 have ha' := afterGo_enough (fun m a b => (benchBy hb m a b).2) m m1 _ ha
 rw [List.nil_append,decide_eq_true ha,chainGo_stop l _ m ha'] at this
 exact this
theorem wp_region_alln {P : Program} {id : Nat} {ops : Array Oper} {Q : Exit → Act → World → Prop} {a : Act} {w : World} (n : Nat) (hm : P.follows .mixedOrders = true) (hn : ops.size = n)
  (hback : (List.range n).all (fun i => ((ops[i]?).map (fun o => o.after.all fun e => !(Region.binds .any e) || decide (e.on < i))).getD false) = true)
  (I : Array Bool → Act → World → Prop) (h0 : I (Array.replicate n false) a w.drew)
  (hstep : ∀ (i : Nat) (o : Oper),i < n → ops[i]? = some o → ∀ (L : Array Bool) (a : Act) (w : World),I L a w → L.size = n → L.getD i true = false →
   (∀ e ∈ o.after,Region.binds .any e = true → L.getD e.on false = true) → wpOp P ops Q i (fun a' w' => I (L.setIfInBounds i true) a' w') a w)
  (hend : ∀ (L : Array Bool) (a : Act) (w : World),I L a w → (∀ i,i < n → L.getD i false = true) → Q .normal a w) :
  (Code.region id ops true).wp P Q a w := by
 refine wp_region_any hm ?_
 have go : ∀ (fuel : Nat) (L : Array Bool) (a : Act) (w : World),L.size = n → L.count false ≤ fuel → I L a w → wpAny P .any ops Q fuel L a w := by
  have all : ∀ (L : Array Bool),L.size = n → Region.ready .any ops L = [] → ∀ i,i < n → L.getD i false = true := by
   intro L hL hr i
   induction i using Nat.strongRecOn with
   | _ i ih =>
    intro hi
    by_cases hc : L.getD i false = true
    ·exact hc
    ·exfalso
     have hb := List.all_eq_true.1 hback i (List.mem_range.2 hi)
     obtain ⟨o,ho⟩ : ∃ o,ops[i]? = some o := ⟨ops[i]'(by omega),Array.getElem?_eq_getElem (by omega)⟩
     rw [ho,Option.map_some,Option.getD_some,Array.all_eq_true_iff_forall_mem] at hb
     have : i ∈ Region.ready .any ops L := mem_ready.2 ⟨by
      have h1 : i < L.size := by omega
      simp [h1] at hc ⊢
      exact hc,o,ho,fun e he hbe => by
      have h3 := hb e he
      rw [hbe,Bool.not_true,Bool.false_or,decide_eq_true_eq] at h3
      exact ih e.on h3 (by omega)⟩
     rw [hr] at this
     cases this
  have next : ∀ (fuel : Nat) (L : Array Bool) (i : Nat),L.size = n → i < n → L.getD i true = false → L.count false ≤ fuel + 1 → (L.setIfInBounds i true).count false ≤ fuel := by
   intro fuel L i hL hi hf hc
   have h1 : i < L.size := by omega
   have hv : L[i] = false := by simpa [h1] using hf
   rw [Array.setIfInBounds,dif_pos h1,Array.count_set h1,hv]
   have : 0 < L.count false := Array.count_pos_iff.2 (hv ▸ Array.getElem_mem h1)
   simp
   omega
  intro fuel
  induction fuel with
  | zero =>
   intro L a w hL hc hI
   have hall : ∀ i,i < n → L.getD i false = true := by
    intro i hi'
    have h1 : i < L.size := by omega
    have := Array.count_eq_zero.1 (Nat.le_zero.1 hc)
    simp [h1]
    cases hv : L[i] with
    | true => rfl
    | false => exact absurd (hv ▸ Array.getElem_mem h1) this
   refine ⟨?_,hend L a w hI hall⟩
   rw [List.eq_nil_iff_forall_not_mem]
   intro i hr
   obtain ⟨h1,o,ho,_⟩ := mem_ready.1 hr
   have h2 : i < n := by rw [← hn];exact (Array.getElem?_eq_some_iff.1 ho).1
   have h3 := hall i h2
   have h4 : i < L.size := by omega
   simp [h4] at h1 h3
   rw [h1] at h3
   cases h3
  | succ fuel ih =>
   intro L a w hL hc hI
   refine ⟨fun hr => hend L a w hI (all L hL hr),fun i hr => ?_⟩
   obtain ⟨h1,o,ho,hall⟩ := mem_ready.1 hr
   have h2 : i < n := by rw [← hn];exact (Array.getElem?_eq_some_iff.1 ho).1
   exact wpOp_mono (fun a' w' hI' => ih _ a' w' (by simp [hL]) (next fuel L i hL h2 h1 hc) hI') (hstep i o h2 ho L a w hI hL h1 hall)
 rw [hn]
 exact go _ _ _ _ (by simp) (by simp) h0
theorem wp_region_last {P : Program} {id : Nat} {ops : Array Oper} {Q : Exit → Act → World → Prop} {a : Act} {w : World} (n : Nat) (hm : P.follows .mixedOrders = true) (hn : ops.size = n + 1)
  (hback : (List.range (n + 1)).all (fun i => ((ops[i]?).map (fun o => o.after.all fun e => !(Region.binds .any e) || decide (e.on < i))).getD false) = true)
  (hlast : (List.range n).all (fun i => ((ops[n]?).map (fun o => o.after.toList.any fun e => Region.binds .any e && decide (e.on = i))).getD false) = true)
  (I : Array Bool → Act → World → Prop) (h0 : I (Array.replicate (n + 1) false) a w.drew)
  (hstep : ∀ (i : Nat) (o : Oper),i < n → ops[i]? = some o → ∀ (L : Array Bool) (a : Act) (w : World),I L a w → L.size = n + 1 → L.getD i true = false →
   (∀ e ∈ o.after,Region.binds .any e = true → L.getD e.on false = true) → wpOp P ops Q i (fun a' w' => I (L.setIfInBounds i true) a' w') a w)
  (hend : ∀ (L : Array Bool) (a : Act) (w : World),I L a w → (∀ i,i < n → L.getD i false = true) → wpOp P ops Q n (fun a' w' => Q .normal a' w') a w) :
  (Code.region id ops true).wp P Q a w := by
 refine wp_region_alln (n + 1) hm hn hback (fun L a w => L.size = n + 1 ∧ ((L.getD n true = false ∧ I L a w) ∨ ((∀ i,i < n + 1 → L.getD i false = true) ∧ Q .normal a w))) ⟨by simp,.inl ⟨by simp,h0⟩⟩ ?_ ?_
 ·rintro i o hi ho L a w ⟨hs,h⟩ hL hf hall
  have hi' : i < L.size := by omega
  rcases h with ⟨hl,h⟩ | ⟨h,_⟩
  ·by_cases hin : i = n
   ·subst hin
    have hpre : ∀ j,j < i → L.getD j false = true := fun j hj => by
     have := List.all_eq_true.1 hlast j (List.mem_range.2 hj)
     rw [ho,Option.map_some,Option.getD_some] at this
     obtain ⟨e,he,h2⟩ := List.any_eq_true.1 this
     rw [Bool.and_eq_true,decide_eq_true_eq] at h2
     have := hall e (by simpa using he) h2.1
     rwa [h2.2] at this
    refine wpOp_mono (fun a' w' hq => ⟨by simp [hs],.inr ⟨fun j hj => ?_,hq⟩⟩) (hend L a w h hpre)
    by_cases hji : j = i
    ·subst hji;simp [hi']
    ·rw [getD_set_ne false (Ne.symm hji)];exact hpre j (by omega)
   ·refine wpOp_mono (fun a' w' hq => ⟨by simp [hs],.inl ⟨?_,hq⟩⟩) (hstep i o (by omega) ho L a w h hL hf hall)
    rw [getD_set_ne true hin];exact hl
  ·have := h i hi
   simp [hi'] at this hf
   rw [this] at hf
   cases hf
 ·rintro L a w ⟨hs,h⟩ hall
  rcases h with ⟨hl,_⟩ | ⟨_,h⟩
  ·have := hall n (by omega)
   have hn' : n < L.size := by omega
   simp [hn'] at this hl
   rw [this] at hl
   cases hl
  ·exact h
theorem own_any (l : List S36) (h20 : l.length ≤ 20) : K_OwnBench.f l = some l := by
 unfold K_OwnBench.f
 simp only [Option.bind_some,List.nil_append,List.length_nil]
 rw [if_pos (by omega)]
theorem same_ev (c : List Int) (h20 : c.length ≤ 1000) : Ev (fun k => K_Same.f k c c) true := by
 have go : ∀ (d i : Nat),i + d = c.length → Ev (fun k => K_Same.l0 k c c (i : Int)) true := by
  intro d
  induction d with
  | zero => intro i hi;exact Ev.step (fun k => by rw [K_Same.l0]) (Ev.neg (by omega) (Ev.done rfl))
  | succ d ih =>
   intro i hi
   refine Ev.step (fun k => by rw [K_Same.l0]) (Ev.pos (by omega) (Ev.pos (by omega) (Ev.pos (by omega) (Ev.pos rfl ?_))))
   rw [wrap64_eq (by omega)]
   exact ih (i + 1) (by omega)
 unfold K_Same.f
 exact Ev.pos rfl (go c.length 0 (by omega))
theorem sameb_ev (c : List S36) (h20 : c.length ≤ 1000) : Ev (fun k => K_SameBenches.f k c c) true := by
 have go : ∀ (d i : Nat),i + d = c.length → Ev (fun k => K_SameBenches.l0 k c c (i : Int)) true := by
  intro d
  induction d with
  | zero => intro i hi;exact Ev.step (fun k => by rw [K_SameBenches.l0]) (Ev.neg (by omega) (Ev.done rfl))
  | succ d ih =>
   intro i hi
   refine Ev.step (fun k => by rw [K_SameBenches.l0]) (Ev.pos (by omega) (Ev.pos (by omega) (Ev.pos (by omega) (Ev.neg (by simp) ?_))))
   rw [wrap64_eq (by omega)]
   exact ih (i + 1) (by omega)
 unfold K_SameBenches.f
 exact Ev.pos rfl (go c.length 0 (by omega))
def chainR (l : List S36) (m : Int) : List Int := if checkP l ≠ 0 then [] else if m < 0 ∨ m > (l.length : Int) - 1 then [] else chainL l m
theorem chain_some (l : List S36) (m : Int) : gauge_Chain.f l m = some (chainR l m) := by
 unfold gauge_Chain.f chainR
 split
 ·rfl
 split <;> rfl
theorem chainR_length (l : List S36) (h20 : l.length ≤ 20) (m : Int) : (chainR l m).length ≤ 20 := by
 have := chainGo_length l l.length m
 unfold chainR chainL
 split
 ·simp
 split
 ·simp
 ·omega
theorem refChainR_ev (l : List S36) (h20 : l.length ≤ 20) (m : Int) : Ev (fun k => R_Chain.f k l m) (chainR l m) := by
 unfold R_Chain.f chainR
 by_cases hc : checkP l = 0
 ·rw [if_neg (by omega)]
  refine Ev.bind (refCheck_ev l h20) (Ev.pos hc ?_)
  rw [wrap64_eq (n := (l.length : Int) - 1) (by omega)]
  by_cases hm : m < 0 ∨ m > (l.length : Int) - 1
  ·rw [if_pos hm];exact Ev.call (beyond_true hm) (Ev.pos rfl (Ev.done rfl))
  ·rw [if_neg hm];exact Ev.call (beyond_false (by omega)) (Ev.neg (by decide) (Ev.bind (refChain_valid hc (by omega) (by omega)) (Ev.done rfl)))
 ·rw [if_pos hc];exact Ev.bind (refCheck_ev l h20) (Ev.neg hc (Ev.done rfl))
def makesP (a0 a1 a2 a3 x : Int) : Int × Int := if makingErr a0 a1 a2 a3 = 0 then (if x < -1000000000 ∨ x > 1000000000 then (0,0) else (loEnd a0 a1 a2 x,hiEnd a0 a1 a3 x)) else (0,0)
theorem makes_ev (a0 a1 a2 a3 a4 a5 a6 x : Int) : Ev (fun k => gauge_Makes.f k a0 a1 a2 a3 a4 a5 a6 x) (makesP a0 a1 a2 a3 x) ∧ Ev (fun k => R_Makes.f k a0 a1 a2 a3 a4 a5 a6 x) (makesP a0 a1 a2 a3 x) := by
 have hm : Ev (fun k => gauge_checkMaking.f k a0 a1 a2 a3 a4 a5 a6) (makingErr a0 a1 a2 a3) := ⟨1,fun k hk => by
  obtain ⟨m,rfl⟩ : ∃ m,k = m + 1 := ⟨k - 1,by omega⟩
  exact gauge_checkMaking.eq m a0 a1 a2 a3 a4 a5 a6⟩
 have no : Ev (fun k => gauge_Makes.j0 k x true a0 a1 a2 a3 a4 a5 a6) (0,0) := Ev.step (fun k => by rw [gauge_Makes.j0]) (Ev.pos rfl (Ev.done rfl))
 unfold gauge_Makes.f R_Makes.f makesP
 by_cases h : makingErr a0 a1 a2 a3 = 0
 ·rw [if_pos h]
  have ok : meterOk a0 a1 a2 a3 := makingErr_zero h
  by_cases hx : x < -1000000000 ∨ x > 1000000000
  ·rw [if_pos hx]
   exact ⟨Ev.bind hm (Ev.pos h (Ev.call (outside_true hx) no)),Ev.bind (refMaking_ev _ _ _ _ _ _ _) (Ev.pos h (Ev.call (beyond_true hx) (Ev.pos rfl (Ev.done rfl))))⟩
  ·rw [if_neg hx]
   refine ⟨Ev.bind hm (Ev.pos h (Ev.call (outside_false (by omega)) ?_)),Ev.bind (refMaking_ev _ _ _ _ _ _ _) (Ev.pos h (Ev.call (beyond_false (by omega)) (Ev.neg (by decide) (Ev.call (refMade_eq a4 a5 a6 (x := x) ok (by omega) (by omega)) (Ev.done rfl)))))⟩
   refine Ev.step (fun k => by rw [gauge_Makes.j0]) (Ev.neg (by decide) (Ev.call (gauge_low.eq a4 a5 a6 (x := x) ok (by omega) (by omega)) ?_))
   exact Ev.call (gauge_high.eq a4 a5 a6 (x := x) ok (by omega) (by omega)) (Ev.done rfl)
 ·rw [if_neg h]
  exact ⟨Ev.bind hm (Ev.neg h no),Ev.bind (refMaking_ev _ _ _ _ _ _ _) (Ev.neg h (Ev.done rfl))⟩
theorem run_load_36 {ρ : Operand → Value} {o : Oper} {x : Operand} {b i : Nat} {v0 v1 v2 v3 v4 v5 v6 : Value} (w : World) (h : o.op = .load 36 x) (hx : ρ x = .pointer (some ⟨b,i,none⟩)) (c0 : w.cell? ⟨b,i,none⟩ = some v0) (c1 : w.cell? ⟨b,i + 1,none⟩ = some v1) (c2 : w.cell? ⟨b,i + 2,none⟩ = some v2) (c3 : w.cell? ⟨b,i + 3,none⟩ = some v3) (c4 : w.cell? ⟨b,i + 4,none⟩ = some v4) (c5 : w.cell? ⟨b,i + 5,none⟩ = some v5) (c6 : w.cell? ⟨b,i + 6,none⟩ = some v6) :
  (execOp ρ o).run Try.prog w = .ok (.value (.agg #[v0,v1,v2,v3,v4,v5,v6])) w := by
 have hu36 := Try.underlying36
 have hu34 := Try.underlying34
 unfold execOp;rw [h];simp only [hx];clear h hx
 go_simp
theorem run_at_22 {ρ : Operand → Value} {o : Oper} {x y : Operand} {b n c : Nat} {k : Int} (w : World) (h : o.op = .indexAddr 22 x y) (hx : ρ x = .slice (some ⟨b,0,none⟩) n c) (hy : ρ y = .int .i64 k) (h0 : 0 ≤ k) (h1 : k < n) :
  (execOp ρ o).run Try.prog w = .ok (.value (.pointer (some ⟨b,k.toNat * 7,none⟩))) w := by
 have hu22 := Try.underlying22
 have hu36 := Try.underlying36
 have hu34 := Try.underlying34
 unfold execOp;rw [h];simp only [hx,hy];clear h hx hy
 go_simp
set_option maxHeartbeats 8000000 in
set_option maxRecDepth 100000 in
theorem Checks.region6 (b6 gb n cc : Nat) (x0_ x1_ x2_ x3_ x4_ x5_ x6_ : Int) {ops : Array Oper} (hops : (Try.f11.body.bind (regionOf 6)) = some ops) {Q : Exit → Act → World → Prop} {ds : List Deferred} {id : Nat} (g : Nat) (s0 s1 : Int) (v0 : Int) {x0 x1 x2 x3 x4 x5 x7 x8 x9 x10 x13 x14 x15 x16 x17 x18 x19 x20 x21 x22 x23 x24 x25 x26 x27 x28 x29 x30 x31 x32 x33 x34 x35 x36 x37 x38 x39 x40 x41 x42 x43 x44 x45 x46 x47 x48 x49 x50 x51 x52 x53 x54 x55 x56 x57 x58 x59 x60 x61 x62 x63 x64 x65 x66 x67 x68 x69 x70 x71 x72 x73 x74 x75 x76 x77 x78 x79 x80 x81 x82 x83 x84 x85 x86 x87 x88 x89 x90 x91 x92 x93 x94 x95 x96 x97 x98 x99 x100 x101 x102 x103 x104 x105 x106 x107 x108 x109 x110 x111 x112 x113 x114 x115 x116 x117 x118 x119 x120 x121 x122 x123 x124 x125 x126 x127 x128 x129 x130 x131 x132 x133 x134 x135 x136 x137 : Value} (w0 : World) {w : World} (hI : IsS76 w0 w g s0) (hb0 : Below w0.heap.size w0 w) (hn1 : 1 ≤ n) (hn : n ≤ 12) (h0 : 0 ≤ v0 ∧ v0 < (n : Int)) (q0 : ∀ W,KeepBut w W g none → W.cell? ⟨b6,0,none⟩ = some (.int .i64 x0_)) (q1 : ∀ W,KeepBut w W g none → W.cell? ⟨b6,0 + 1,none⟩ = some (.int .i64 x1_)) (q2 : ∀ W,KeepBut w W g none → W.cell? ⟨b6,0 + 2,none⟩ = some (.int .i64 x2_)) (q3 : ∀ W,KeepBut w W g none → W.cell? ⟨b6,0 + 3,none⟩ = some (.int .i64 x3_)) (q4 : ∀ W,KeepBut w W g none → W.cell? ⟨b6,0 + 4,none⟩ = some (.int .i64 x4_)) (q5 : ∀ W,KeepBut w W g none → W.cell? ⟨b6,0 + 5,none⟩ = some (.int .i64 x5_)) (q6 : ∀ W,KeepBut w W g none → W.cell? ⟨b6,0 + 6,none⟩ = some (.int .i64 x6_)) (e0 : D_Upto.f s0 (n : Int) = some (v0,s1))
  (K : ∀ (u28 u29 u30 u31 u32 : Value)  (w' : World),IsS76 w0 w' g s1 → Below w0.heap.size w0 w' → KeepBut w w' g none →  (∃ W2 : World,(∀ o : Oper,o.op = Go.Op.store 36 (Operand.tmp 34) (Operand.tmp 33) → (execOp (Act.eval { tmps := (x0 :: x1 :: x2 :: x3 :: x4 :: x5 :: .pointer (some ⟨b6,0,none⟩) :: x7 :: x8 :: x9 :: x10 :: .pointer (some ⟨g,0,none⟩) :: .slice (some ⟨gb,0,none⟩) n cc :: x13 :: x14 :: x15 :: x16 :: x17 :: x18 :: x19 :: x20 :: x21 :: x22 :: x23 :: x24 :: x25 :: x26 :: x27 :: u28 :: u29 :: u30 :: u31 :: u32 :: .agg #[.int .i64 x0_,.int .i64 x1_,.int .i64 x2_,.int .i64 x3_,.int .i64 x4_,.int .i64 x5_,.int .i64 x6_] :: .pointer (some (⟨gb,v0.toNat * 7,none⟩)) :: x35 :: x36 :: x37 :: x38 :: x39 :: x40 :: x41 :: x42 :: x43 :: x44 :: x45 :: x46 :: x47 :: x48 :: x49 :: x50 :: x51 :: x52 :: x53 :: x54 :: x55 :: x56 :: x57 :: x58 :: x59 :: x60 :: x61 :: x62 :: x63 :: x64 :: x65 :: x66 :: x67 :: x68 :: x69 :: x70 :: x71 :: x72 :: x73 :: x74 :: x75 :: x76 :: x77 :: x78 :: x79 :: x80 :: x81 :: x82 :: x83 :: x84 :: x85 :: x86 :: x87 :: x88 :: x89 :: x90 :: x91 :: x92 :: x93 :: x94 :: x95 :: x96 :: x97 :: x98 :: x99 :: x100 :: x101 :: x102 :: x103 :: x104 :: x105 :: x106 :: x107 :: x108 :: x109 :: x110 :: x111 :: x112 :: x113 :: x114 :: x115 :: x116 :: x117 :: x118 :: x119 :: x120 :: x121 :: x122 :: x123 :: x124 :: x125 :: x126 :: x127 :: x128 :: x129 :: x130 :: x131 :: x132 :: x133 :: x134 :: x135 :: x136 :: x137 :: []).toArray,defers := ds }) o).run Try.prog w' = .ok .skip W2) ∧ Q .normal { tmps := (x0 :: x1 :: x2 :: x3 :: x4 :: x5 :: .pointer (some ⟨b6,0,none⟩) :: x7 :: x8 :: x9 :: x10 :: .pointer (some ⟨g,0,none⟩) :: .slice (some ⟨gb,0,none⟩) n cc :: x13 :: x14 :: x15 :: x16 :: x17 :: x18 :: x19 :: x20 :: x21 :: x22 :: x23 :: x24 :: x25 :: x26 :: x27 :: u28 :: u29 :: u30 :: u31 :: u32 :: .agg #[.int .i64 x0_,.int .i64 x1_,.int .i64 x2_,.int .i64 x3_,.int .i64 x4_,.int .i64 x5_,.int .i64 x6_] :: .pointer (some (⟨gb,v0.toNat * 7,none⟩)) :: x35 :: x36 :: x37 :: x38 :: x39 :: x40 :: x41 :: x42 :: x43 :: x44 :: x45 :: x46 :: x47 :: x48 :: x49 :: x50 :: x51 :: x52 :: x53 :: x54 :: x55 :: x56 :: x57 :: x58 :: x59 :: x60 :: x61 :: x62 :: x63 :: x64 :: x65 :: x66 :: x67 :: x68 :: x69 :: x70 :: x71 :: x72 :: x73 :: x74 :: x75 :: x76 :: x77 :: x78 :: x79 :: x80 :: x81 :: x82 :: x83 :: x84 :: x85 :: x86 :: x87 :: x88 :: x89 :: x90 :: x91 :: x92 :: x93 :: x94 :: x95 :: x96 :: x97 :: x98 :: x99 :: x100 :: x101 :: x102 :: x103 :: x104 :: x105 :: x106 :: x107 :: x108 :: x109 :: x110 :: x111 :: x112 :: x113 :: x114 :: x115 :: x116 :: x117 :: x118 :: x119 :: x120 :: x121 :: x122 :: x123 :: x124 :: x125 :: x126 :: x127 :: x128 :: x129 :: x130 :: x131 :: x132 :: x133 :: x134 :: x135 :: x136 :: x137 :: []).toArray,defers := ds } W2)) :
  (Code.region id ops true).wp Try.prog Q { tmps := (x0 :: x1 :: x2 :: x3 :: x4 :: x5 :: .pointer (some ⟨b6,0,none⟩) :: x7 :: x8 :: x9 :: x10 :: .pointer (some ⟨g,0,none⟩) :: .slice (some ⟨gb,0,none⟩) n cc :: x13 :: x14 :: x15 :: x16 :: x17 :: x18 :: x19 :: x20 :: x21 :: x22 :: x23 :: x24 :: x25 :: x26 :: x27 :: x28 :: x29 :: x30 :: x31 :: x32 :: x33 :: x34 :: x35 :: x36 :: x37 :: x38 :: x39 :: x40 :: x41 :: x42 :: x43 :: x44 :: x45 :: x46 :: x47 :: x48 :: x49 :: x50 :: x51 :: x52 :: x53 :: x54 :: x55 :: x56 :: x57 :: x58 :: x59 :: x60 :: x61 :: x62 :: x63 :: x64 :: x65 :: x66 :: x67 :: x68 :: x69 :: x70 :: x71 :: x72 :: x73 :: x74 :: x75 :: x76 :: x77 :: x78 :: x79 :: x80 :: x81 :: x82 :: x83 :: x84 :: x85 :: x86 :: x87 :: x88 :: x89 :: x90 :: x91 :: x92 :: x93 :: x94 :: x95 :: x96 :: x97 :: x98 :: x99 :: x100 :: x101 :: x102 :: x103 :: x104 :: x105 :: x106 :: x107 :: x108 :: x109 :: x110 :: x111 :: x112 :: x113 :: x114 :: x115 :: x116 :: x117 :: x118 :: x119 :: x120 :: x121 :: x122 :: x123 :: x124 :: x125 :: x126 :: x127 :: x128 :: x129 :: x130 :: x131 :: x132 :: x133 :: x134 :: x135 :: x136 :: x137 :: []).toArray,defers := ds } w := by
 obtain rfl := Option.some.inj (show some _ = some ops from hops)
 have hn : (([(28,.val (.slice (some ⟨gb,0,none⟩) n cc)),(29,.val (.pointer (some ⟨g,0,none⟩))),(30,.val (.slice (some ⟨gb,0,none⟩) n cc)),(31,.val (.int .i64 (n : Int))),(32,.val (.int .i64 v0)),(33,.val (.agg #[.int .i64 x0_,.int .i64 x1_,.int .i64 x2_,.int .i64 x3_,.int .i64 x4_,.int .i64 x5_,.int .i64 x6_])),(34,.val (.pointer (some (⟨gb,v0.toNat * 7,none⟩))))] : List (Nat × Left)).map (·.1)).Nodup := by simp only [List.map_cons,List.map_nil];decide
 have hcn : ([4] : List Nat).Nodup := by decide
 refine wp_region_last 7 (by kernel_rfl) rfl (by kernel_rfl) (by kernel_rfl) (DiceAt g (fun k => ([s0,s1] : List Int).getD k 0) [4] [(28,.val (.slice (some ⟨gb,0,none⟩) n cc)),(29,.val (.pointer (some ⟨g,0,none⟩))),(30,.val (.slice (some ⟨gb,0,none⟩) n cc)),(31,.val (.int .i64 (n : Int))),(32,.val (.int .i64 v0)),(33,.val (.agg #[.int .i64 x0_,.int .i64 x1_,.int .i64 x2_,.int .i64 x3_,.int .i64 x4_,.int .i64 x5_,.int .i64 x6_])),(34,.val (.pointer (some (⟨gb,v0.toNat * 7,none⟩))))] w0 w ((x0 :: x1 :: x2 :: x3 :: x4 :: x5 :: .pointer (some ⟨b6,0,none⟩) :: x7 :: x8 :: x9 :: x10 :: .pointer (some ⟨g,0,none⟩) :: .slice (some ⟨gb,0,none⟩) n cc :: x13 :: x14 :: x15 :: x16 :: x17 :: x18 :: x19 :: x20 :: x21 :: x22 :: x23 :: x24 :: x25 :: x26 :: x27 :: x28 :: x29 :: x30 :: x31 :: x32 :: x33 :: x34 :: x35 :: x36 :: x37 :: x38 :: x39 :: x40 :: x41 :: x42 :: x43 :: x44 :: x45 :: x46 :: x47 :: x48 :: x49 :: x50 :: x51 :: x52 :: x53 :: x54 :: x55 :: x56 :: x57 :: x58 :: x59 :: x60 :: x61 :: x62 :: x63 :: x64 :: x65 :: x66 :: x67 :: x68 :: x69 :: x70 :: x71 :: x72 :: x73 :: x74 :: x75 :: x76 :: x77 :: x78 :: x79 :: x80 :: x81 :: x82 :: x83 :: x84 :: x85 :: x86 :: x87 :: x88 :: x89 :: x90 :: x91 :: x92 :: x93 :: x94 :: x95 :: x96 :: x97 :: x98 :: x99 :: x100 :: x101 :: x102 :: x103 :: x104 :: x105 :: x106 :: x107 :: x108 :: x109 :: x110 :: x111 :: x112 :: x113 :: x114 :: x115 :: x116 :: x117 :: x118 :: x119 :: x120 :: x121 :: x122 :: x123 :: x124 :: x125 :: x126 :: x127 :: x128 :: x129 :: x130 :: x131 :: x132 :: x133 :: x134 :: x135 :: x136 :: x137 :: []).toArray) ds) (DiceAt.start (n := 8) rfl hI hb0) ?_ ?_
 ·intro i o hi ho L a w h hL hf hall
  have hcase : i = 0 ∨ i = 1 ∨ i = 2 ∨ i = 3 ∨ i = 4 ∨ i = 5 ∨ i = 6 := by omega
  clear hi K
  rcases hcase with rfl | rfl | rfl | rfl | rfl | rfl | rfl
  ·obtain rfl := Option.some.inj (show some _ = some o from ho)
   have f12 : a.tmps.getD 12 undef = .slice (some ⟨gb,0,none⟩) n cc := h.rest 12 rfl
   exact h.op ho rfl rfl rfl hn (Nat.lt_of_lt_of_eq (by decide : 28 < 138) rfl) rfl (run_move w rfl f12) (Below.refl _ _) rfl rfl
  ·obtain rfl := Option.some.inj (show some _ = some o from ho)
   have f11 : a.tmps.getD 11 undef = .pointer (some ⟨g,0,none⟩) := h.rest 11 rfl
   exact h.op ho rfl rfl rfl hn (Nat.lt_of_lt_of_eq (by decide : 29 < 138) rfl) rfl (run_move w rfl f11) (Below.refl _ _) rfl rfl
  ·obtain rfl := Option.some.inj (show some _ = some o from ho)
   have f12 : a.tmps.getD 12 undef = .slice (some ⟨gb,0,none⟩) n cc := h.rest 12 rfl
   exact h.op ho rfl rfl rfl hn (Nat.lt_of_lt_of_eq (by decide : 30 < 138) rfl) rfl (run_move w rfl f12) (Below.refl _ _) rfl rfl
  ·obtain rfl := Option.some.inj (show some _ = some o from ho)
   have l2 := listed_of hall 2 rfl
   have f30 : a.tmps.getD 30 undef = .slice (some ⟨gb,0,none⟩) n cc := h.facts 2 _ _ rfl l2
   exact h.op ho rfl rfl rfl hn (Nat.lt_of_lt_of_eq (by decide : 31 < 138) rfl) rfl (run_len w rfl rfl f30 (by omega)) (Below.refl _ _) rfl rfl
  ·obtain rfl := Option.some.inj (show some _ = some o from ho)
   have l1 := listed_of hall 1 rfl
   have f29 : a.tmps.getD 29 undef = .pointer (some ⟨g,0,none⟩) := h.facts 1 _ _ rfl l1
   have l3 := listed_of hall 3 rfl
   have f31 : a.tmps.getD 31 undef = .int .i64 (n : Int) := h.facts 3 _ _ rfl l3
   exact h.call (f := 16) (args := #[.pointer (some ⟨g,0,none⟩),.int .i64 (n : Int)]) ho rfl rfl rfl hn (Nat.lt_of_lt_of_eq (by decide : 32 < 138) rfl) (j := 0) rfl hcn hf rfl (fun _ h0 _ => absurd rfl h0) (by rw [hL];rfl) (run_call w rfl rfl (by simp only [List.map_toArray,List.map_cons,List.map_nil];rw [show a.eval (.tmp 29) = _ from f29];rw [show a.eval (.tmp 31) = _ from f31];first | done | rfl) (enters_of Try.func16 (by kernel_rfl) rfl) rfl) (fun hI hB => D_Upto.calls g s0 (n : Int) v0 s1 w0 w hI hB e0)
  ·obtain rfl := Option.some.inj (show some _ = some o from ho)
   have f6 : a.tmps.getD 6 undef = .pointer (some ⟨b6,0,none⟩) := h.rest 6 rfl
   exact h.op ho rfl rfl rfl hn (Nat.lt_of_lt_of_eq (by decide : 33 < 138) rfl) rfl (run_load_36 w rfl f6 (q0 _ h.keep) (q1 _ h.keep) (q2 _ h.keep) (q3 _ h.keep) (q4 _ h.keep) (q5 _ h.keep) (q6 _ h.keep)) (Below.refl _ _) rfl rfl
  ·obtain rfl := Option.some.inj (show some _ = some o from ho)
   have l0 := listed_of hall 0 rfl
   have f28 : a.tmps.getD 28 undef = .slice (some ⟨gb,0,none⟩) n cc := h.facts 0 _ _ rfl l0
   have l4 := listed_of hall 4 rfl
   have f32 : a.tmps.getD 32 undef = .int .i64 v0 := h.facts 4 _ _ rfl l4
   exact h.op ho rfl rfl rfl hn (Nat.lt_of_lt_of_eq (by decide : 34 < 138) rfl) rfl (run_at_22 w rfl f28 f32 (by omega) (by omega)) (Below.refl _ _) rfl rfl
 ·intro L a w' h hall
  have f33 : a.tmps.getD 33 undef = .agg #[.int .i64 x0_,.int .i64 x1_,.int .i64 x2_,.int .i64 x3_,.int .i64 x4_,.int .i64 x5_,.int .i64 x6_] := h.facts 5 _ _ rfl (hall 5 (by omega))
  have f34 : a.tmps.getD 34 undef = .pointer (some (⟨gb,v0.toNat * 7,none⟩)) := h.facts 6 _ _ rfl (hall 6 (by omega))
  have hD : IsS76 w0 w' g s1 := h.done (by simp only [List.mem_cons,List.not_mem_nil,or_false];intro i hi;exact hall i (by omega))
  have e := h.frame (fun t => if t = 33 then .agg #[.int .i64 x0_,.int .i64 x1_,.int .i64 x2_,.int .i64 x3_,.int .i64 x4_,.int .i64 x5_,.int .i64 x6_] else if t = 34 then .pointer (some (⟨gb,v0.toNat * 7,none⟩)) else a.tmps.getD t undef) (by
   intro x hx _
   simp only [List.mem_cons,List.not_mem_nil,or_false] at hx
   rcases hx with rfl | rfl | rfl | rfl | rfl | rfl | rfl
   all_goals first | rfl | assumption)
  have k := K (a.tmps.getD 28 undef) (a.tmps.getD 29 undef) (a.tmps.getD 30 undef) (a.tmps.getD 31 undef) (a.tmps.getD 32 undef) w' hD h.below h.keep 
  clear K
  simp only [List.foldl_cons,List.foldl_nil,sB_,sS_,sZ_,Nat.reduceEqDiff,reduceIte] at e
  rw [e]
  obtain ⟨W2,hr,hq⟩ := k
  unfold wpOp
  simp only [List.getElem?_toArray,List.getElem?_cons_succ,List.getElem?_cons_zero,Region.wanted,if_true]
  refine .inl ?_
  unfold Oper.wp
  rw [hr _ rfl,Oper.upon_skip]
  exact hq
def L_GaugeChecks.f (_l0 : List S36) (_a1_0 _a1_1 _a1_2 _a1_3 _a1_4 _a1_5 _a1_6 _a2 _a3 : Int) (l4 : List Int) : Option Bool := if l4.length ≤ maxLen then some true else none
theorem GaugeChecks (l0 : List S36) (a1_0 a1_1 a1_2 a1_3 a1_4 a1_5 a1_6 a2 a3 : Int) (l4 : List Int) (h : l4.length ≤ maxLen) : L_GaugeChecks.f l0 a1_0 a1_1 a1_2 a1_3 a1_4 a1_5 a1_6 a2 a3 l4 = some true := if_pos h
theorem one_of (s n : Int) (h1 : 1 ≤ n) (h2 : n ≤ 1000) : ∃ b s',D_One.f s n = some (b,s') := by
 obtain ⟨v,s',e,_,_⟩ := upto_some s n (by omega) (by omega)
 unfold D_One.f
 rw [e]
 exact ⟨_,_,rfl⟩
theorem keep_cellb {w w' : World} {g b i : Nat} {cs : Array Value} {t : TypeId} {v : Value} (hk : KeepBut w w' g none) (hb : b ≠ g) (h : w.heap[b]? = some (.cells cs t (0,0))) (hv : cs[i]? = some v) : w'.cell? ⟨b,i,none⟩ = some v := by
 rw [blk_cell (keep_blk hk hb h) i];exact hv
def CkAt (g : Nat) (w wr : World) (b : Nat) (i : Int) : Prop :=
 ∃ (lx : List S36) (A : Option Addr) (c : Nat),(∀ W,KeepBut wr W g none → W.cell? ⟨b,i.toNat,none⟩ = some (.slice A lx.length c)) ∧ (∀ W,Below w.heap.size w W → KeepBut wr W g none → Kd.C k36 W A lx.length lx) ∧ lx.length ≤ c ∧ lx.length ≤ 20
theorem CkAt.keep {g : Nat} {w wr wr' : World} {b : Nat} {i : Int} (h : CkAt g w wr b i) (hk : KeepBut wr wr' g none) : CkAt g w wr' b i := by
 obtain ⟨lx,A,c,h1,h2,h3,h4⟩ := h
 exact ⟨lx,A,c,fun W k => h1 W (hk.trans k (.inl rfl)),fun W hb k => h2 W hb (hk.trans k (.inl rfl)),h3,h4⟩
theorem drawn_below {w W W' : World} (h : Below w.heap.size w W) (hd : Drawn0 W W') : Below w.heap.size w W' := by
 obtain ⟨n,rfl⟩ := hd
 exact bN_ h n
abbrev Own36 (W : World) (base gb cc : Nat) (l : List S36) : Prop := Kd.R k36 36 W base (fun _ => True) (.slice (some ⟨gb,0,none⟩) l.length cc) l
theorem addr0 (gb n : Nat) : (⟨gb,0,none⟩ : Addr).add n = ⟨gb,n,none⟩ := by
 unfold Addr.add
 by_cases h : n = 0 <;> simp [h]
theorem own_cells {W : World} {base gb cc : Nat} {l : List S36} (h : Own36 W base gb cc l) (k : Int) (k0 : 0 ≤ k) (k1 : k < l.length) :
  W.cell? ⟨gb,k.toNat * 7,none⟩ = some (.int .i64 (rd_T36 l k).f0.f0) ∧ W.cell? ⟨gb,k.toNat * 7 + 1,none⟩ = some (.int .i64 (rd_T36 l k).f0.f1) ∧ W.cell? ⟨gb,k.toNat * 7 + 2,none⟩ = some (.int .i64 (rd_T36 l k).f1.f0) ∧ W.cell? ⟨gb,k.toNat * 7 + 3,none⟩ = some (.int .i64 (rd_T36 l k).f1.f1) ∧ W.cell? ⟨gb,k.toNat * 7 + 4,none⟩ = some (.int .i64 (rd_T36 l k).f2) ∧ W.cell? ⟨gb,k.toNat * 7 + 5,none⟩ = some (.int .i64 (rd_T36 l k).f3) ∧ W.cell? ⟨gb,k.toNat * 7 + 6,none⟩ = some (.int .i64 (rd_T36 l k).f4) := by
 obtain ⟨ad,e,h⟩ := at_T36 (Kd.R_reads' h).2.2 k k0 k1
 obtain rfl := Option.some.inj e
 simp only [addr0] at h
 exact h
theorem c_cells0 {W : World} {gb : Nat} {l : List S36} (h : Kd.C k36 W (some ⟨gb,0,none⟩) l.length l) (h1 : 1 ≤ l.length) :
  W.cell? ⟨gb,0,none⟩ = some (.int .i64 (rd_T36 l 0).f0.f0) ∧ W.cell? ⟨gb,1,none⟩ = some (.int .i64 (rd_T36 l 0).f0.f1) ∧ W.cell? ⟨gb,2,none⟩ = some (.int .i64 (rd_T36 l 0).f1.f0) ∧ W.cell? ⟨gb,3,none⟩ = some (.int .i64 (rd_T36 l 0).f1.f1) ∧ W.cell? ⟨gb,4,none⟩ = some (.int .i64 (rd_T36 l 0).f2) ∧ W.cell? ⟨gb,5,none⟩ = some (.int .i64 (rd_T36 l 0).f3) ∧ W.cell? ⟨gb,6,none⟩ = some (.int .i64 (rd_T36 l 0).f4) := by
 obtain ⟨ad,e,h⟩ := at_T36 h 0 (by omega) (by omega)
 obtain rfl := Option.some.inj e
 simp only [addr0] at h
 exact h
theorem own_frozen {W : World} {base gb cc : Nat} {l : List S36} (h : Own36 W base gb cc l) (i : Nat) : W.frozen? ⟨gb,i,none⟩ = false := by
 obtain ⟨inner,ho⟩ := Kd.R_own h
 obtain ⟨cs,hc⟩ := own_typed ho gb (by simp [Value.ownBlock])
 exact blk_frozen hc _
theorem own_hcc {W : World} {base gb cc : Nat} {l : List S36} (h : Own36 W base gb cc l) (k : Int) (k0 : 0 ≤ k) (k1 : k < l.length) : ∀ j u,([.int .i64 (rd_T36 l k).f0.f0,.int .i64 (rd_T36 l k).f0.f1,.int .i64 (rd_T36 l k).f1.f0,.int .i64 (rd_T36 l k).f1.f1,.int .i64 (rd_T36 l k).f2,.int .i64 (rd_T36 l k).f3,.int .i64 (rd_T36 l k).f4] : List Value)[j]? = some u → W.cell? ⟨gb,k.toNat * 7 + j,none⟩ = some u := by
 obtain ⟨h0,h1,h2,h3,h4,h5,h6⟩ := own_cells h k k0 k1
 intro j u hj
 match j with
 | 0 => cases hj;exact h0
 | 1 => cases hj;exact h1
 | 2 => cases hj;exact h2
 | 3 => cases hj;exact h3
 | 4 => cases hj;exact h4
 | 5 => cases hj;exact h5
 | 6 => cases hj;exact h6
 | j + 7 => simp at hj
theorem own_set7 {W : World} {base gb cc : Nat} {l : List S36} (h : Own36 W base gb cc l) (k : Int) (k0 : 0 ≤ k) (k1 : k < l.length) (y : S36) :
  Own36 (W.setCells gb (k.toNat * 7) [.int .i64 y.f0.f0,.int .i64 y.f0.f1,.int .i64 y.f1.f0,.int .i64 y.f1.f1,.int .i64 y.f2,.int .i64 y.f3,.int .i64 y.f4]) base gb cc (l.set k.toNat y) := by
 have := (Kd.R_seg h k k0 k1 (j := 0) (seg := [.int .i64 y.f0.f0,.int .i64 y.f0.f1,.int .i64 y.f1.f0,.int .i64 y.f1.f1,.int .i64 y.f2,.int .i64 y.f3,.int .i64 y.f4]) (show _ = 7 from rfl) (own_hcc h k k0 k1) (by show 0 + 7 ≤ 7;omega) (okp := fun _ => False) (x' := y) (k36_mkM _ _ _ y) (fun _ h => h.elim)).1
 unfold Own36
 rw [List.length_set]
 exact this
theorem own_set1 {W : World} {base gb cc : Nat} {l : List S36} (h : Own36 W base gb cc l) (k : Int) (k0 : 0 ≤ k) (k1 : k < l.length) (b : Int) :
  Own36 (W.setCell ⟨gb,k.toNat * 7 + 5,none⟩ (.int .i64 b)) base gb cc (l.set k.toNat ⟨(rd_T36 l k).f0,(rd_T36 l k).f1,(rd_T36 l k).f2,b,(rd_T36 l k).f4⟩) := by
 have := (Kd.R_seg h k k0 k1 (j := 5) (seg := [.int .i64 b]) (show _ = 7 from rfl) (own_hcc h k k0 k1) (by show 5 + 1 ≤ 7;omega) (okp := fun _ => False) (x' := ⟨(rd_T36 l k).f0,(rd_T36 l k).f1,(rd_T36 l k).f2,b,(rd_T36 l k).f4⟩) (k36_mkM _ _ _ _) (fun _ h => h.elim)).1
 unfold Own36
 rw [List.length_set]
 exact this
theorem own_block {W : World} {base : Nat} {v : Value} {l : List S36} (h : Kd.R k36 36 W base (fun _ => True) v l) (h1 : 1 ≤ l.length) : ∃ gb cc,v = .slice (some ⟨gb,0,none⟩) l.length cc ∧ base ≤ gb := by
 obtain ⟨inner,_,h2⟩ := Kd.R_own h
 rcases h2 with ⟨_,h0⟩ | ⟨gb,cc,_,hv,hb,_⟩
 ·omega
 ·exact ⟨gb,cc,hv,hb⟩
theorem own_keep {w0 W W' : World} {g base gb cc : Nat} {s : Int} {l : List S36} (hI : IsS76 w0 W g s) (h : Own36 W base gb cc l) (hk : KeepBut W W' g none) : Own36 W' base gb cc l :=
 Kd.R_mono (Kd.R_keep (IsS76.apart hI h (by decide)) hk (fun _ h => h.2)) (fun _ h => h.1)
theorem run_store_run {P : Program} {w : World} {g o : Nat} {e : TypeId} {cur : Array Value} (t : TypeId) (u : Value) (seg : List Value) (hh : w.heap[g]? = some (.cells cur e (0,0))) (hu : u.cells.toList = seg) (ht : (P.info? t).map (·.size) = some seg.length)
  (hfit : o + seg.length ≤ cur.size) (h1 : ∀ q ∈ seg,q.oneCell' = true) : (Instr.storeAt t (.pointer (some ⟨g,o,none⟩)) u).run P w = .ok () (w.setCells g o seg) := by
 obtain ⟨i,hi,hsz⟩ := Option.map_eq_some_iff.1 ht
 have hc : u.cells.size = i.size := by rw [hsz,← hu,Array.length_toList]
 have hst := run_storeCells_cells (P := P) g o seg 0 w (fun j hj => by rw [cell_of_row w g _ cur e (0,0) hh];simp;omega) (fun j _ => blk_frozen hh _) h1
 simp only [Nat.add_zero] at hst
 simp [Instr.storeAt,Instr.sureAddr,storeVar,sizeOf,typeInfo,hi,hc,hu,hst]
set_option maxRecDepth 1000000 in
theorem run_store36 {ρ : Operand → Value} {o : Oper} {x y : Operand} {W : World} {base gb cc : Nat} {l : List S36} {v0 v1 v2 v3 v4 v5 v6 : Int} (h : o.op = .store 36 x y) (k : Int) (hx : ρ x = .pointer (some ⟨gb,k.toNat * 7,none⟩)) (hy : ρ y = .agg #[.int .i64 v0,.int .i64 v1,.int .i64 v2,.int .i64 v3,.int .i64 v4,.int .i64 v5,.int .i64 v6]) (HO : Own36 W base gb cc l) (k0 : 0 ≤ k) (k1 : k < l.length) :
  (execOp ρ o).run Try.prog W = .ok .skip (W.setCells gb (k.toNat * 7) [.int .i64 v0,.int .i64 v1,.int .i64 v2,.int .i64 v3,.int .i64 v4,.int .i64 v5,.int .i64 v6]) := by
 have hrun : (Instr.storeAt 36 (.pointer (some ⟨gb,k.toNat * 7,none⟩)) (.agg #[.int .i64 v0,.int .i64 v1,.int .i64 v2,.int .i64 v3,.int .i64 v4,.int .i64 v5,.int .i64 v6])).run Try.prog W = .ok () (W.setCells gb (k.toNat * 7) [.int .i64 v0,.int .i64 v1,.int .i64 v2,.int .i64 v3,.int .i64 v4,.int .i64 v5,.int .i64 v6]) := by
  obtain ⟨inner,ho⟩ := Kd.R_own HO
  rcases ho.2 with ⟨hv,_⟩ | ⟨g',cap',cur,hv,hb,hh,hnc,hcm,hcs,_⟩
  ·cases hv
  injection hv with ha _ hc
  injection ha with ha
  injection ha with hg'
  subst hg'
  refine run_store_run 36 _ _ hh rfl (by kernel_rfl) ?_ (by simp [Value.oneCell'])
  rw [hcs,← hc]
  rw [← hc] at hnc
  show k.toNat * 7 + 7 ≤ cc * 7
  omega
 unfold execOp
 simp only [h,hx,hy,Sem.run_bind,Sem.run_pure,Result.andThen_ok,hrun]
set_option maxHeartbeats 8000000 in
set_option maxRecDepth 100000 in
theorem L_GaugeChecks.calls (A0 : Option Addr) (c0 : Nat) (l0 : List S36) (x0 x1 x2 x3 x4 x5 x6 a2 a3 : Int) (A4 : Option Addr) (c4 : Nat) (l4 : List Int) (r : Bool) (w : World) (hr0 : Kd.C k36 w A0 l0.length l0) (hc0 : l0.length ≤ c0) (hr4 : Kd.C (Kd.int .i64) w A4 l4.length l4) (hc4 : l4.length ≤ c4) (h : L_GaugeChecks.f l0 x0 x1 x2 x3 x4 x5 x6 a2 a3 l4 = some r) :
  Calls Try.prog 11 #[.slice A0 l0.length c0,.agg #[.int .i64 x0,.int .i64 x1,.int .i64 x2,.int .i64 x3,.int .i64 x4,.int .i64 x5,.int .i64 x6],.int .i64 a2,.int .i64 a3,.slice A4 l4.length c4] w fun e w' => e = .returned (.bool r) ∧ Below w.heap.size w w' := by
 unfold L_GaugeChecks.f at h
 split at h
 case isFalse => cases h
 rename_i hl
 obtain rfl := Option.some.inj h
 clear h
 have AW : Aside0 (∀ W,Calls Try.prog 13 #[] W fun e w' => e = .returned (.bool true) ∧ Below W.heap.size W w') := ⟨fun W => L_awake.calls 3 true W L_awake.holds⟩
 have hu34 := Try.underlying34
 have hu36 := Try.underlying36
 have hu37 := Try.underlying37
 have HR0 := aM_ hr0
 have HR4 := aM_ hr4
 have HC0 := aM_ hc0
 clear hr0 hr4
 obtain ⟨W0,hW,BW,hsz,f6⟩ : ∃ W,w.alloc (.cells #[.int .i64 x0,.int .i64 x1,.int .i64 x2,.int .i64 x3,.int .i64 x4,.int .i64 x5,.int .i64 x6] 36) = W ∧ Below w.heap.size w W ∧ W.heap.size = w.heap.size + 1 ∧ W.heap[w.heap.size]? = some (.cells #[.int .i64 x0,.int .i64 x1,.int .i64 x2,.int .i64 x3,.int .i64 x4,.int .i64 x5,.int .i64 x6] 36 (0,0)) :=
  ⟨_,rfl,bA_ (Below.refl _ _) _,by simp,World.alloc_heap_new w _⟩
 have HW := aM_ hW
 have HW0 := aM_ BW
 have HSZ := aM_ hsz
 have F6 := aM_ f6
 clear hW BW hsz f6
 by_cases c1 : 20 < (l0.length : Int)
 ·go_enter Try.func11,Try.ntmps11
  go_wp2_with (fail)
  rw [HW.out]
  (with_reducible refine (AW.out _).mono ?_)
  rintro e w1 ⟨rfl,hb⟩
  go_wp2
  go_ret
  exact ⟨rfl,bT_ HW0.out hb⟩
 have HL0 := aM_ (show l0.length ≤ 20 by omega)
 have HD := aM_ (dice_some hl)
 obtain ⟨l,s1,e1,hM,h1,h12⟩ := bench_some (diceOf l4) 12 (by omega) (by omega)
 obtain ⟨b1,s2,e2⟩ := one_some s1
 have E1 := aM_ e1
 have E2 := aM_ e2
 clear e1 e2 hl
 go_enter Try.func11,Try.ntmps11
 go_wp2_with (fail)
 rw [HW.out]
 (with_reducible refine (K_NewDice.calls _ _ l4 (diceOf l4) W0 _ (Below.refl _ _) (Kd.C_below HR4.out HW0.out) hc4 HD.out).mono ?_)
 rintro e w1 ⟨g,rfl,hi,hb,hb2⟩
 have N6 := aM_ (show w.heap.size ≠ g by have := hi.2;have := HSZ.out;omega)
 have F61 := aM_ (kB_ F6.out hb)
 have HI1 := aM_ hi
 have HB1 := aM_ hb
 clear hi hb hb2 HD F6 HW HR4
 go_wp2_with (fail)
 (with_reducible refine (K_BenchOf.calls g (diceOf l4) 12 l s1 W0 _ HI1.out HB1.out E1.out).mono ?_)
 rintro e w2 ⟨v12,rfl,ho,hi,hb,hk⟩
 obtain ⟨gb,cc,rfl,hgb⟩ := own_block ho h1
 have NG := aM_ (show gb ≠ g by have := blk_lt HI1.out.1;omega)
 have NB := aM_ (show gb ≠ w.heap.size by have := HB1.out.size;have := HSZ.out;omega)
 have GE := aM_ (show W0.heap.size ≤ gb from Nat.le_trans HB1.out.size hgb)
 have HI2 := aM_ hi
 have HB2 := aM_ hb
 have HO2 := aM_ ho
 have F62 := aM_ (keep_blk hk N6.out F61.out)
 clear hi hb hk ho HI1 HB1 E1 F61 hgb
 go_wp2_with (fail)
 (with_reducible refine (D_One.calls g s1 2 b1 s2 W0 _ HI2.out HB2.out E2.out).mono ?_)
 rintro e w3 ⟨rfl,hi,hb,hk⟩
 have HO3 := aM_ (own_keep HI2.out HO2.out hk)
 have F63 := aM_ (keep_blk hk N6.out F62.out)
 have HI3 := aM_ hi
 have HB3 := aM_ hb
 clear hi hb hk HI2 HB2 E2 HO2 F62
 go_upto_if 27 with (fail)
 go_cut [] (fun wc => ∃ (la : List S36) (sa : Int),Aside0 (la.length = l.length) ∧ Aside0 (Own36 wc w1.heap.size gb cc la) ∧ Aside0 (IsS76 W0 wc g sa) ∧ Aside0 (Below W0.heap.size W0 wc) ∧ Aside0 (wc.heap[w.heap.size]? = some (.cells #[.int .i64 x0,.int .i64 x1,.int .i64 x2,.int .i64 x3,.int .i64 x4,.int .i64 x5,.int .i64 x6] 36 (0,0))))
 case first =>
  cases b1
  ·go_wp2
   go_meet
   case rel => exact ⟨l,s2,⟨rfl⟩,HO3,HI3,HB3,F63⟩
  ·obtain ⟨k,s3,e3,k0,k1⟩ := upto_some s2 (l.length : Int) (by omega) (by omega)
   go_wp2_with (fail)
   refine Checks.region6 w.heap.size gb l.length cc x0 x1 x2 x3 x4 x5 x6 (by kernel_rfl) g s2 s3 k W0 HI3.out HB3.out h1 (by omega) ⟨k0,k1⟩ (fun W h => (blk_cell (keep_blk h N6.out F63.out) 0).trans rfl) (fun W h => (blk_cell (keep_blk h N6.out F63.out) 1).trans rfl) (fun W h => (blk_cell (keep_blk h N6.out F63.out) 2).trans rfl) (fun W h => (blk_cell (keep_blk h N6.out F63.out) 3).trans rfl) (fun W h => (blk_cell (keep_blk h N6.out F63.out) 4).trans rfl) (fun W h => (blk_cell (keep_blk h N6.out F63.out) 5).trans rfl) (fun W h => (blk_cell (keep_blk h N6.out F63.out) 6).trans rfl) e3 ?_
   intro u28 u29 u30 u31 u32 w4 hi hb hk
   have ho := own_keep HI3.out HO3.out hk
   have ho' := own_set7 ho k k0 k1 ⟨⟨x0,x1⟩,⟨x2,x3⟩,x4,x5,x6⟩
   have far : ∀ q,q ≠ gb → (w4.setCells gb (k.toNat * 7) [.int .i64 x0,.int .i64 x1,.int .i64 x2,.int .i64 x3,.int .i64 x4,.int .i64 x5,.int .i64 x6]).heap[q]? = w4.heap[q]? := fun q hq => setCells_far _ _ q hq
   obtain ⟨p1,p2,p3,p4⟩ := setCells_same gb [.int .i64 x0,.int .i64 x1,.int .i64 x2,.int .i64 x3,.int .i64 x4,.int .i64 x5,.int .i64 x6] (k.toNat * 7) w4
   refine ⟨_,fun o h => run_store36 h k rfl rfl ho k0 k1,?_⟩
   have F64 := aM_ ((far _ (Ne.symm NB.out)).trans (keep_blk hk N6.out F63.out))
   have HI4 := aM_ (show IsS76 W0 _ g s3 from ⟨(far _ (Ne.symm NG.out)).trans hi.1,hi.2⟩)
   have HB4 := aM_ (hb.trans (show Below W0.heap.size w4 _ from ⟨p1,p2,p3,by rw [p4];exact Nat.le_refl _,fun q hq => far q (by have := GE.out;omega)⟩))
   have HO4 := aM_ ho'
   clear hi hb hk ho ho' far p1 p2 p3 p4 HI3 HB3 HO3 F63
   go_wp2
   go_meet
   case rel => exact ⟨_,s3,⟨by simp⟩,HO4,HI4,HB4,F64⟩
 case rest =>
 obtain ⟨la,sa,LA,HOa,HIa,HBa,F6a⟩ := hcut
 obtain ⟨b2,s4,e4⟩ := one_of sa 3 (by omega) (by omega)
 have E4 := aM_ e4
 clear e4
 go_wp2_with (fail)
 (with_reducible refine (D_One.calls g sa 3 b2 s4 W0 _ HIa.out HBa.out E4.out).mono ?_)
 rintro e w5 ⟨rfl,hi,hb,hk⟩
 have HO5 := aM_ (own_keep HIa.out HOa.out hk)
 have F65 := aM_ (keep_blk hk N6.out F6a.out)
 have HI5 := aM_ hi
 have HB5 := aM_ hb
 clear hi hb hk HIa HBa E4 HOa F6a
 go_upto_if 36 with (fail)
 go_cut [] (fun wc => ∃ (la : List S36) (sa : Int),Aside0 (la.length = l.length) ∧ Aside0 (Own36 wc w1.heap.size gb cc la) ∧ Aside0 (IsS76 W0 wc g sa) ∧ Aside0 (Below W0.heap.size W0 wc) ∧ Aside0 (wc.heap[w.heap.size]? = some (.cells #[.int .i64 x0,.int .i64 x1,.int .i64 x2,.int .i64 x3,.int .i64 x4,.int .i64 x5,.int .i64 x6] 36 (0,0))))
 case first =>
  cases b2
  ·go_wp2
   go_meet
   case rel => exact ⟨la,s4,LA,HO5,HI5,HB5,F65⟩
  ·have hla := LA.out
   obtain ⟨k,s6,e6,k0,k1⟩ := upto_some s4 (l.length : Int) (by omega) (by omega)
   obtain ⟨by_,s7,e7,_,_⟩ := between_some s6 (-1) (l.length : Int) (by omega) (by omega) (by omega)
   have E6 := aM_ e6
   have E7 := aM_ e7
   have K1 := aM_ (show k < la.length by omega)
   clear e6 e7 hla
   go_wp2_with (first
    | (go_at_call 16;(with_reducible refine (D_Upto.calls g s4 (l.length : Int) k s6 W0 _ HI5.out HB5.out E6.out).mono ?_);rintro e w6 ⟨rfl,hi,hb,hk⟩;have HO6 := aM_ (own_keep HI5.out HO5.out hk);have F66 := aM_ (keep_blk hk N6.out F65.out);have HI6 := aM_ hi;have HB6 := aM_ hb;clear hi hb hk HI5 HB5 HO5 F65)
    | (go_at_call 20;(with_reducible refine (D_Between.calls g s6 (-1) (l.length : Int) by_ s7 W0 _ HI6.out HB6.out E7.out).mono ?_);rintro e w7 ⟨rfl,hi,hb,hk⟩;have ho := own_keep HI6.out HO6.out hk;have z5 := (own_cells ho k k0 K1.out).2.2.2.2.2.1;have y5 := own_frozen ho (k.toNat * 7 + 5);have HO7 := aM_ ho;have F67 := aM_ (keep_blk hk N6.out F66.out);have HI7 := aM_ hi;have HB7 := aM_ hb;clear ho hi hb hk HI6 HB6 HO6 F66))
   go_meet
   case rel => exact ⟨_,s7,⟨by simp;exact LA.out⟩,⟨own_set1 HO7.out k k0 K1.out by_⟩,⟨(Below.heap_setCell _ _ _ _ (Ne.symm NG.out)).trans HI7.out.1,HI7.out.2⟩,⟨bS_ HB7.out GE.out⟩,⟨(Below.heap_setCell _ _ _ _ (Ne.symm NB.out)).trans F67.out⟩⟩
 case rest =>
 clear LA HO5 HI5 HB5 F65
 obtain ⟨lb,sb,LB,HOb,HIb,HBb,F6b⟩ := hcut
 have hlb := LB.out
 rw [← hlb]
 have HLB := aM_ (show 1 ≤ lb.length ∧ lb.length ≤ 12 by omega)
 clear hlb LB hM h1 h12
 go_wp2_with (fail)
 have b9 : Below wc.heap.size wc (wc.alloc (.cells #[.slice A0 l0.length c0,.slice (some ⟨gb,0,none⟩) lb.length cc] 22)) := bA_ (Below.refl _ _) _
 have k9 : KeepBut wc (wc.alloc (.cells #[.slice A0 l0.length c0,.slice (some ⟨gb,0,none⟩) lb.length cc] 22)) g none := KeepBut.of_below b9 g none
 have hg9 : wc.heap.size ≠ g := by have := HIb.out.lt;omega
 have f13 := blk_new wc (.cells #[.slice A0 l0.length c0,.slice (some ⟨gb,0,none⟩) lb.length cc] 22)
 have HI9 := aM_ (IsS76.below HIb.out b9)
 have HB9 := aM_ (bT_ HBb.out b9)
 have HC9 := aM_ (fun W h => Kd.C_foot_own (IsS76.apart HIb.out HOb.out (by decide)) (fun _ h_ => h_.2) W (k9.trans h (.inl rfl)))
 have HCL := aM_ (Kd.R_reads' HOb.out).2.1
 have F69 := aM_ (keep_blk k9 N6.out F6b.out)
 have HT : Aside0 (∀ i : Int,0 ≤ i → i < 2 → CkAt g w (wc.alloc (.cells #[.slice A0 l0.length c0,.slice (some ⟨gb,0,none⟩) lb.length cc] 22)) wc.heap.size i) := ⟨fun i i0 i1 => by
  have hcase : i = 0 ∨ i = 1 := by omega
  rcases hcase with rfl | rfl
  ·exact ⟨l0,A0,c0,fun W k => keep_cellb k hg9 f13 rfl,fun W hb _ => Kd.C_below HR0.out hb,HC0.out,HL0.out⟩
  ·exact ⟨lb,some ⟨gb,0,none⟩,cc,fun W k => keep_cellb k hg9 f13 rfl,fun W _ h => HC9.out W h,HCL.out,by have := HLB.out;omega⟩⟩
 clear b9 k9 hg9 f13 HIb HBb HOb F6b HR0
 obtain ⟨b13,hb13⟩ : ∃ b,wc.heap.size = b := ⟨_,rfl⟩
 obtain ⟨w9,hw9⟩ : ∃ W,wc.alloc (.cells #[.slice A0 l0.length c0,.slice (some ⟨gb,0,none⟩) lb.length cc] 22) = W := ⟨_,rfl⟩
 rw [hw9] at HI9 HB9 HC9 F69
 rw [hw9,hb13] at HT
 rw [hw9,hb13]
 clear hw9 hb13 HL0 HC0
 go_loopg [14,15,16] 2 (fun kx v14 v15 v16 wr => ∃ i : Int,v14 = .int .i64 i ∧ 0 ≤ i ∧ i ≤ 2 ∧ (2 - i).toNat ≤ kx ∧ Aside0 (Below w9.heap.size w9 wr))
 case atStart => exact ⟨0,rfl,by omega,by omega,by omega,⟨Below.refl _ _⟩⟩
 case round =>
  obtain ⟨i,rfl,i0,i1,hkx,HL⟩ := hrel
  by_cases hlt : i < 2
  ·obtain ⟨lx,A,c,q0,qC,qc,qn⟩ := (HT.out i i0 hlt).keep (KeepBut.of_below HL.out g none)
   have Q0 := aM_ (show ∀ W,Below wr.heap.size wr W → W.cell? ⟨b13,i.toNat,none⟩ = some (.slice A lx.length c) from fun W h => q0 W (KeepBut.of_below h g none))
   have QC := aM_ (show ∀ W,Below wr.heap.size wr W → Kd.C k36 W A lx.length lx from fun W h => qC W (bT_ HW0.out (bT_ HB9.out (bT_ HL.out h))) (KeepBut.of_below h g none))
   have z0 := Q0.out _ (Below.refl _ _)
   clear q0 qC
   go_wp2_with (fail)
   (with_reducible refine (K_OwnBench.calls A c lx lx wr (QC.out _ (Below.refl _ _)) qc (own_any lx qn)).mono ?_)
   rintro e w10 ⟨v15,rfl,ho,hb⟩
   obtain ⟨A15,c15,rfl⟩ := Kd.R_slice ho
   have Q0 := aM_ (fun W (h : Below w10.heap.size w10 W) => Q0.out W (bT_ hb h))
   have QC := aM_ (fun W (h : Below w10.heap.size w10 W) => QC.out W (bT_ hb h))
   have HL10 := aM_ (bT_ HL.out hb)
   have HC15 := aM_ (show ∀ W,Below w10.heap.size w10 W → Kd.C k36 W A15 lx.length lx from fun W h => Kd.C_below (Kd.R_reads' ho).2.2 h)
   have QC15 := aM_ (Kd.R_reads' ho).2.1
   clear ho hb z0 HL
   go_upto_if 64 with (fail)
   go_cut [16] (fun v16 wc => ∃ kk : Int,v16 = .int .i64 kk ∧ Aside0 (Below w10.heap.size w10 wc))
   case first =>
    by_cases hi0 : i > 0
    ·obtain ⟨t,et,_,_⟩ := mod_any a2 (lb.length : Int) (by have := HLB.out;omega) (by have := HLB.out;omega)
     have ET := aM_ et
     clear et
     have d : decide (0 < i) = true := decide_eq_true hi0
     go_wp2_with (fail)
     (with_reducible refine (K_Mod.calls a2 (lb.length : Int) t _ ET.out).mono ?_)
     rintro e w11 ⟨rfl,⟨nd,rfl⟩⟩
     go_wp2_with (fail)
     go_meet
     case rel => exact ⟨_,rfl,⟨bN_ (Below.refl _ _) nd⟩⟩
    ·have d : decide (0 < i) = false := decide_eq_false hi0
     go_wp2_with (fail)
     go_meet
     case rel => exact ⟨_,rfl,⟨Below.refl _ _⟩⟩
   case rest =>
   obtain ⟨kk,rfl,H12⟩ := hcut
   obtain ⟨kc,hkc⟩ := (refCheck_ev lx qn).rounds
   obtain ⟨kr,hkr⟩ := (refChainR_ev lx qn kk).rounds
   have hcl := chainR_length lx qn kk
   obtain ⟨ks,hks⟩ := (same_ev (chainR lx kk) (by omega)).rounds
   obtain ⟨kb,hkb⟩ := (sameb_ev lx (by omega)).rounds
   have hch := chain_some lx kk
   have C36 := aM_ (fun W (h : Below w10.heap.size w10 W) => gauge_Check.calls A15 c15 lx (checkP lx) W (HC15.out W h) QC15.out rfl)
   have C37 := aM_ (fun W (h : Below w10.heap.size w10 W) => R_Check.calls kc A c lx (checkP lx) W (QC.out W h) qc hkc)
   have C39 := aM_ (fun W (h : Below w10.heap.size w10 W) => gauge_Chain.calls A15 c15 lx kk (chainR lx kk) W (HC15.out W h) QC15.out hch)
   have C40 := aM_ (fun W (h : Below w10.heap.size w10 W) => R_Chain.calls kr A c lx kk (chainR lx kk) W (QC.out W h) qc hkr)
   have C41 := aM_ (fun W (h : Below w10.heap.size w10 W) => K_SameBenches.calls kb A15 c15 lx A c lx true W (HC15.out W h) QC15.out (QC.out W h) qc hkb)
   generalize checkP lx = ck at C36 C37 hkc
   generalize chainR lx kk = cl at C39 C40 hkr hks hch hcl
   have HKS := aM_ hks
   clear hkc hkr hks hkb hch hcl
   have HZ0 := aM_ (bD_ H12.out)
   go_upto_region 17 with (fail)
   go_cut [98] (fun v98 wc => v98 = .bool false ∧ Aside0 (Below w10.heap.size w10 wc))
   case first =>
    have z0 := Q0.out _ HZ0.out
    go_region_held (fun (W : World) => W.cell? ⟨b13,i.toNat,none⟩ = some (.slice A lx.length c)) (first | exact Q0.out _ HZ6.out | exact Q0.out _ HZ5.out | exact Q0.out _ HZ4.out | exact Q0.out _ HZ3.out | exact Q0.out _ HZ2.out | exact Q0.out _ HZ1.out | exact Q0.out _ HZ0.out) (first
     | (go_at_call 36;(with_reducible refine (C36.out _ HZ0.out).mono ?_);rintro e w' ⟨rfl,hb⟩;have HZ1 := aM_ (bT_ HZ0.out hb);clear hb)
     | (go_at_call 37;(with_reducible refine (C37.out _ HZ1.out).mono ?_);rintro e w' ⟨rfl,hb⟩;have HZ2 := aM_ (bT_ HZ1.out hb);clear hb)
     | (go_at_call 39;(with_reducible refine (C39.out _ HZ2.out).mono ?_);rintro e w' ⟨v80,rfl,hr,hb⟩;obtain ⟨A80,c80,rfl⟩ := Kd.R_slice hr;have R80 := aM_ (Kd.R_reads' hr).2;have HZ3 := aM_ (bT_ HZ2.out hb);clear hb hr)
     | (go_at_call 40;(with_reducible refine (C40.out _ HZ3.out).mono ?_);rintro e w' ⟨v86,rfl,hr,hb⟩;obtain ⟨A86,c86,rfl⟩ := Kd.R_slice hr;have R86 := aM_ (Kd.R_reads' hr).2;have D80 := aM_ (Kd.C_below R80.out.2 hb);have HZ4 := aM_ (bT_ HZ3.out hb);clear hb hr)
     | (go_at_call 38;(with_reducible refine (K_Same.calls ks A80 c80 cl A86 c86 cl true _ D80.out R80.out.1 R86.out.2 R86.out.1 HKS.out).mono ?_);rintro e w' ⟨rfl,hd⟩;have HZ5 := aM_ (drawn_below HZ4.out hd);clear hd)
     | (go_at_call 41;(with_reducible refine (C41.out _ HZ5.out).mono ?_);rintro e w' ⟨rfl,hd⟩;have HZ6 := aM_ (drawn_below HZ5.out hd);clear hd))
    all_goals (try simp [Act.put])
    all_goals go_wp2_with (fail)
    all_goals go_meet
    all_goals (case rel => exact ⟨rfl,HZ6⟩)
   case rest =>
   obtain ⟨rfl,HZ⟩ := hcut
   clear Q0 QC HC15 QC15 H12 C36 C37 C39 C40 C41 HKS HZ0
   go_wp2_with (fail)
   go_roundg (2 - (i + 1)).toNat
   case measure => omega
   case rel => exact ⟨i + 1,rfl,by omega,by omega,Nat.le_refl _,⟨bT_ HL10.out HZ.out⟩⟩
  ·have hi2 : i = 2 := by omega
   subst hi2
   obtain ⟨t,et,t0,t1⟩ := mod_any a3 4001 (by omega) (by omega)
   have ET := aM_ et
   clear et
   go_wp2_with (fail)
   (with_reducible refine (K_Mod.calls a3 4001 t _ ET.out).mono ?_)
   rintro e w11 ⟨rfl,hd⟩
   have H11 := aM_ (drawn_below HL.out hd)
   clear hd ET HT HL
   go_wp2_with (fail)
   obtain ⟨y0,y1,y2,y3,y4,y5,y6,hy⟩ : ∃ y0 y1 y2 y3 y4 y5 y6,rd_T36 lb 0 = ⟨⟨y0,y1⟩,⟨y2,y3⟩,y4,y5,y6⟩ := ⟨_,_,_,_,_,_,_,rfl⟩
   obtain ⟨p1,q1,hp1⟩ : ∃ p q,makesP x0 x1 x2 x3 a3 = (p,q) := ⟨_,_,rfl⟩
   obtain ⟨p2,q2,hp2⟩ : ∃ p q,makesP y0 y1 y2 y3 a3 = (p,q) := ⟨_,_,rfl⟩
   obtain ⟨p3,q3,hp3⟩ : ∃ p q,makesP y0 y1 y2 y3 (t - 2000) = (p,q) := ⟨_,_,rfl⟩
   obtain ⟨k1,e1⟩ := (makes_ev x0 x1 x2 x3 x4 x5 x6 a3).1.rounds
   obtain ⟨k2,e2⟩ := (makes_ev x0 x1 x2 x3 x4 x5 x6 a3).2.rounds
   obtain ⟨k3,e3⟩ := (makes_ev y0 y1 y2 y3 y4 y5 y6 a3).1.rounds
   obtain ⟨k4,e4⟩ := (makes_ev y0 y1 y2 y3 y4 y5 y6 a3).2.rounds
   obtain ⟨k5,e5⟩ := (makes_ev y0 y1 y2 y3 y4 y5 y6 (t - 2000)).1.rounds
   obtain ⟨k6,e6⟩ := (makes_ev y0 y1 y2 y3 y4 y5 y6 (t - 2000)).2.rounds
   rw [hp1] at e1 e2
   rw [hp2] at e3 e4
   rw [hp3] at e5 e6
   have M1 := aM_ (fun W => gauge_Makes.calls k1 x0 x1 x2 x3 x4 x5 x6 a3 p1 q1 W e1)
   have M2 := aM_ (fun W => R_Makes.calls k2 x0 x1 x2 x3 x4 x5 x6 a3 p1 q1 W e2)
   have M3 := aM_ (fun W => gauge_Makes.calls k3 y0 y1 y2 y3 y4 y5 y6 a3 p2 q2 W e3)
   have M4 := aM_ (fun W => R_Makes.calls k4 y0 y1 y2 y3 y4 y5 y6 a3 p2 q2 W e4)
   have M5 := aM_ (fun W => gauge_Makes.calls k5 y0 y1 y2 y3 y4 y5 y6 (t - 2000) p3 q3 W e5)
   have M6 := aM_ (fun W => R_Makes.calls k6 y0 y1 y2 y3 y4 y5 y6 (t - 2000) p3 q3 W e6)
   have KS := aM_ (show ∀ W : World,Below w9.heap.size w9 W → (fun (W : World) => W.cell? ⟨w.heap.size,0,none⟩ = some (.int .i64 x0) ∧ W.cell? ⟨w.heap.size,1,none⟩ = some (.int .i64 x1) ∧ W.cell? ⟨w.heap.size,2,none⟩ = some (.int .i64 x2) ∧ W.cell? ⟨w.heap.size,3,none⟩ = some (.int .i64 x3) ∧ W.cell? ⟨w.heap.size,4,none⟩ = some (.int .i64 x4) ∧ W.cell? ⟨w.heap.size,5,none⟩ = some (.int .i64 x5) ∧ W.cell? ⟨w.heap.size,6,none⟩ = some (.int .i64 x6) ∧ W.cell? ⟨gb,0,none⟩ = some (.int .i64 y0) ∧ W.cell? ⟨gb,1,none⟩ = some (.int .i64 y1) ∧ W.cell? ⟨gb,2,none⟩ = some (.int .i64 y2) ∧ W.cell? ⟨gb,3,none⟩ = some (.int .i64 y3) ∧ W.cell? ⟨gb,4,none⟩ = some (.int .i64 y4) ∧ W.cell? ⟨gb,5,none⟩ = some (.int .i64 y5) ∧ W.cell? ⟨gb,6,none⟩ = some (.int .i64 y6)) W from fun W hB => by
    have hk : KeepBut w9 W g none := KeepBut.of_below hB g none
    have hc := keep_blk hk N6.out F69.out
    have h := c_cells0 (HC9.out W hk) HLB.out.1
    rw [hy] at h
    exact ⟨(blk_cell hc 0).trans rfl,(blk_cell hc 1).trans rfl,(blk_cell hc 2).trans rfl,(blk_cell hc 3).trans rfl,(blk_cell hc 4).trans rfl,(blk_cell hc 5).trans rfl,(blk_cell hc 6).trans rfl,h⟩)
   have hl0 : 0 < lb.length := HLB.out.1
   clear hp1 hp2 hp3 e1 e2 e3 e4 e5 e6 hy
   have HZ0 := aM_ (bD_ H11.out)
   go_upto_region 20 with (fail)
   go_cut [10] (fun v10 wc => v10 = .bool true ∧ Aside0 (Below w9.heap.size w9 wc))
   case first =>
    go_region_held (fun (W : World) => W.cell? ⟨w.heap.size,0,none⟩ = some (.int .i64 x0) ∧ W.cell? ⟨w.heap.size,1,none⟩ = some (.int .i64 x1) ∧ W.cell? ⟨w.heap.size,2,none⟩ = some (.int .i64 x2) ∧ W.cell? ⟨w.heap.size,3,none⟩ = some (.int .i64 x3) ∧ W.cell? ⟨w.heap.size,4,none⟩ = some (.int .i64 x4) ∧ W.cell? ⟨w.heap.size,5,none⟩ = some (.int .i64 x5) ∧ W.cell? ⟨w.heap.size,6,none⟩ = some (.int .i64 x6) ∧ W.cell? ⟨gb,0,none⟩ = some (.int .i64 y0) ∧ W.cell? ⟨gb,1,none⟩ = some (.int .i64 y1) ∧ W.cell? ⟨gb,2,none⟩ = some (.int .i64 y2) ∧ W.cell? ⟨gb,3,none⟩ = some (.int .i64 y3) ∧ W.cell? ⟨gb,4,none⟩ = some (.int .i64 y4) ∧ W.cell? ⟨gb,5,none⟩ = some (.int .i64 y5) ∧ W.cell? ⟨gb,6,none⟩ = some (.int .i64 y6)) (first | exact KS.out _ HZ7.out | exact KS.out _ HZ6.out | exact KS.out _ HZ5.out | exact KS.out _ HZ4.out | exact KS.out _ HZ3.out | exact KS.out _ HZ2.out | exact KS.out _ HZ1.out | exact KS.out _ HZ0.out) (first
     | (go_at_call 42;(with_reducible refine (M1.out _).mono ?_);rintro e w' ⟨rfl,hb⟩;have HZ1 := aM_ (bT_ HZ0.out hb);clear hb)
     | (go_at_call 43;(with_reducible refine (M2.out _).mono ?_);rintro e w' ⟨rfl,hb⟩;have HZ2 := aM_ (bT_ HZ1.out hb);clear hb)
     | (go_at_call 42;(with_reducible refine (M3.out _).mono ?_);rintro e w' ⟨rfl,hb⟩;have HZ3 := aM_ (bT_ HZ2.out hb);clear hb)
     | (go_at_call 43;(with_reducible refine (M4.out _).mono ?_);rintro e w' ⟨rfl,hb⟩;have HZ4 := aM_ (bT_ HZ3.out hb);clear hb)
     | (go_at_call 42;(with_reducible refine (M5.out _).mono ?_);rintro e w' ⟨rfl,hb⟩;have HZ5 := aM_ (bT_ HZ4.out hb);clear hb)
     | (go_at_call 43;(with_reducible refine (M6.out _).mono ?_);rintro e w' ⟨rfl,hb⟩;have HZ6 := aM_ (bT_ HZ5.out hb);clear hb)
     | (go_at_call 13;(with_reducible refine (AW.out _).mono ?_);rintro e w' ⟨rfl,hb⟩;have HZ7 := aM_ (bT_ HZ6.out hb);clear hb))
    all_goals (try simp [Act.put])
    all_goals go_wp2_with (fail)
    all_goals go_meet
    all_goals (case rel => exact ⟨rfl,HZ7⟩)
   case rest =>
   obtain ⟨rfl,HZ⟩ := hcut
   go_wp2_with (fail)
   go_ret
   exact ⟨rfl,bT_ HW0.out (bT_ HB9.out HZ.out)⟩
end Go.Proofs.Ytdbpobadeibjaaa.GE
