-- written for this claim by a program of this session (wip/gp), over the kit's own printer; Lean checks it
import Derived.Test.YtdbpobadeibjaabGEx0
import Derived.Test.YtdbpobadeibjaabGEx12
namespace Go.Proofs.Ytdbpobadeibjaab.GE
open Go.RowKit Go.Proofs.YtdbpobadeibjaabW.PrintWords Go.Proofs.YtdbpobadeibjaabW.PrintLast Go.Proofs.YtdbpobadeibjaabW.PrintMore
attribute [local go_sem] max2_int min2_int max_two min_two max_three min_three max_four min_four
set_option linter.unusedVariables false
set_option linter.unusedSimpArgs false

def IsS65 (w0 W : World) (g : Nat) (f0 : Int) : Prop := W.heap[g]? = some (.cells #[.int .u64 f0] 65 (0,0)) ∧ w0.heap.size ≤ g
theorem IsS65.grown {w0 W : World} {g : Nat} {f0 : Int} {W1 : World} {row : Option Nat} (h : IsS65 w0 W g f0) (hw : W.grownBy W1 row) (hne : some g ≠ row) : IsS65 w0 W1 g f0 := by
 obtain ⟨hb,hg⟩ := h
 exact ⟨blk_grown hb hw hne,hg⟩
theorem IsS65.own_neN {w0 W : World} {g : Nat} {f0 : Int} {α : Type} {d : Kd α} {e : Nat} {base : Nat} {ok : Nat → Prop} {v : Value} {xs : List α} (h : IsS65 w0 W g f0) (ho : Kd.N d e W base ok v xs) (ht : e ≠ 65) : some g ≠ v.ownBlock := by
 obtain ⟨hb,hg⟩ := h
 exact Kd.N_ne ho hb ht
theorem IsS65.fresh {w0 W : World} {g : Nat} {f0 : Int} (h : IsS65 w0 W g f0) : ∀ k,W.heap.size ≤ k → k ≠ g := by
 obtain ⟨hb,hg⟩ := h
 exact Kd.freshB hb
theorem IsS65.kept {w0 W : World} {g : Nat} {f0 : Int} {W1 : World} {S : Nat → Prop} (h : IsS65 w0 W g f0) (hk : Kept W W1 S) (hne : ¬ S g) : IsS65 w0 W1 g f0 := by
 obtain ⟨hb,hg⟩ := h
 exact ⟨blk_kept hb hk hne,hg⟩
theorem IsS65.below {w0 W : World} {g : Nat} {f0 : Int} {W1 : World} (h : IsS65 w0 W g f0) (hw : Below W.heap.size W W1) : IsS65 w0 W1 g f0 := h.grown (grown_of_below hw none) (by simp)
theorem IsS65.alloc {w0 W : World} {g : Nat} {f0 : Int} (h : IsS65 w0 W g f0) (o : Obj) : IsS65 w0 (W.alloc o) g f0 := h.below (bA_ (Below.refl _ _) o)
theorem IsS65.drewN {w0 W : World} {g : Nat} {f0 : Int} (h : IsS65 w0 W g f0) (m : Nat) : IsS65 w0 (W.drewN m) g f0 := h
theorem IsS65.drew {w0 W : World} {g : Nat} {f0 : Int} (h : IsS65 w0 W g f0) : IsS65 w0 W.drew g f0 := h
theorem IsS65.at_ {w0 W : World} {g : Nat} {f0 : Int} {w' : World} {m : Nat} (hq : W.drewN m = w') (h : IsS65 w0 W g f0) : IsS65 w0 w' g f0 := by subst hq;exact IsS65.drewN h m
theorem IsS65.apart {w0 W : World} {g : Nat} {f0 : Int} {α : Type} {d : Kd α} {e : Nat} {base : Nat} {ok : Nat → Prop} {v : Value} {xs : List α} (h : IsS65 w0 W g f0) (ho : d.R e W base ok v xs) (ht : ∀ q,q ∈ e :: d.E → q ≠ 65) : d.R e W base (fun k => ok k ∧ k ≠ g) v xs := by
 obtain ⟨hb,hg⟩ := h
 exact Kd.R_types ho hb ht
theorem IsS65.own_ne {w0 W : World} {g : Nat} {f0 : Int} {α : Type} {d : Kd α} {e : Nat} {base : Nat} {ok : Nat → Prop} {v : Value} {xs : List α} (h : IsS65 w0 W g f0) (ho : d.R e W base ok v xs) (ht : e ≠ 65) : some g ≠ v.ownBlock := by
 obtain ⟨hb,hg⟩ := h
 exact Kd.R_ne ho hb ht
theorem IsS65.apartQ {w0 W : World} {g : Nat} {f0 : Int} {α : Type} {d : Kd α} {e : Nat} {base : Nat} {ok : Nat → Prop} {v : Value} {xs : List α} (h : IsS65 w0 W g f0) (ho : d.Q e W base ok v xs) (ht : ∀ q,q ∈ e :: d.E → q ≠ 65) : d.Q e W base (fun k => ok k ∧ k ≠ g) v xs := by
 obtain ⟨hb,hg⟩ := h
 exact Kd.Q_types ho hb ht
theorem IsS65.own_neQ {w0 W : World} {g : Nat} {f0 : Int} {α : Type} {d : Kd α} {e : Nat} {base : Nat} {ok : Nat → Prop} {v : Value} {xs : List α} (h : IsS65 w0 W g f0) (ho : d.Q e W base ok v xs) (ht : e ≠ 65) : some g ≠ v.ownBlock := by
 obtain ⟨hb,hg⟩ := h
 exact Kd.Q_ne ho hb ht
theorem IsS65.apartS {w0 W : World} {g : Nat} {f0 : Int} {α : Type} {d : Kd α} {e : Nat} {base : Nat} {ok : Nat → Prop} {v : Value} {xs : List α} (h : IsS65 w0 W g f0) (ho : d.S e W base ok v xs) (ht : ∀ q,q ∈ e :: d.E → q ≠ 65) : d.S e W base (fun k => ok k ∧ k ≠ g) v xs := by
 obtain ⟨hb,hg⟩ := h
 exact Kd.S_types ho hb ht
theorem IsS65.own_neS {w0 W : World} {g : Nat} {f0 : Int} {α : Type} {d : Kd α} {e : Nat} {base : Nat} {ok : Nat → Prop} {v : Value} {xs : List α} (h : IsS65 w0 W g f0) (ho : d.S e W base ok v xs) (ht : e ≠ 65) : some g ≠ v.ownBlock := by
 obtain ⟨hb,hg⟩ := h
 exact Kd.S_ne ho hb ht
theorem IsS65.lt {w0 W : World} {g : Nat} {f0 : Int} (h : IsS65 w0 W g f0) : g < W.heap.size := by
 obtain ⟨hb,hg⟩ := h
 exact blk_lt hb
theorem IsS65.ge {w0 W : World} {g : Nat} {f0 : Int} (h : IsS65 w0 W g f0) : w0.heap.size ≤ g := by
 obtain ⟨hb,hg⟩ := h
 exact hg
theorem IsS65.ne_blk {w0 W : World} {g : Nat} {f0 : Int} {a : Nat} {cs : Array Value} {t : TypeId} {fr : Nat × Nat} (h : IsS65 w0 W g f0) (hb2 : W.heap[a]? = some (.cells cs t fr)) (ht : t ≠ 65) : g ≠ a := by
 obtain ⟨hb,hg⟩ := h
 rintro rfl
 rw [hb] at hb2
 injection hb2 with hb2
 injection hb2 with _ ht2
 exact ht ht2.symm
theorem IsS65.far {w0 W : World} {g : Nat} {f0 : Int} {p : Addr} (h : IsS65 w0 W g f0) (hne : g ≠ p.block) (u : Value) : IsS65 w0 (W.setCell p u) g f0 := by
 obtain ⟨hb,hg⟩ := h
 exact ⟨blk_far hb hne u,hg⟩
theorem cellS65_0 {W : World} {g : Nat} {f0 : Int} (h : W.heap[g]? = some (.cells #[.int .u64 f0] 65 (0,0))) : W.cell? ⟨g,0,none⟩ = some (.int .u64 f0) := (blk_cell h 0).trans rfl
theorem IsS65.set_0 {w0 W : World} {g : Nat} {f0 : Int} (h : IsS65 w0 W g f0) (x : Int) : IsS65 w0 (W.setCell ⟨g,0,none⟩ (.int .u64 x)) g x := by
 obtain ⟨hb,hg⟩ := h
 exact ⟨by simpa using blk_set hb 0 (.int .u64 x),hg⟩
theorem IsS65.new (w0 W : World) (f0 : Int) (hB : Below w0.heap.size w0 W) : IsS65 w0 (W.alloc (.cells #[.int .u64 f0] 65)) W.heap.size f0 := ⟨by simpa using heap_alloc_new W _,hB.size⟩

/-! ### D_next: function 38 -/
def D_next.f (s0_0 : Int) : Option (Int × Int) := some (Go.bits .xor .u64 (IntKind.u64.wrap ((Go.bits .xor .u64 (IntKind.u64.wrap ((Go.bits .xor .u64 (IntKind.u64.wrap (s0_0 + 11400714819323198485)) ((IntKind.u64.wrap (s0_0 + 11400714819323198485)) / 1073741824)) * 13787848793156543929)) ((IntKind.u64.wrap ((Go.bits .xor .u64 (IntKind.u64.wrap (s0_0 + 11400714819323198485)) ((IntKind.u64.wrap (s0_0 + 11400714819323198485)) / 1073741824)) * 13787848793156543929)) / 134217728)) * 10723151780598845931)) ((IntKind.u64.wrap ((Go.bits .xor .u64 (IntKind.u64.wrap ((Go.bits .xor .u64 (IntKind.u64.wrap (s0_0 + 11400714819323198485)) ((IntKind.u64.wrap (s0_0 + 11400714819323198485)) / 1073741824)) * 13787848793156543929)) ((IntKind.u64.wrap ((Go.bits .xor .u64 (IntKind.u64.wrap (s0_0 + 11400714819323198485)) ((IntKind.u64.wrap (s0_0 + 11400714819323198485)) / 1073741824)) * 13787848793156543929)) / 134217728)) * 10723151780598845931)) / 2147483648),IntKind.u64.wrap (s0_0 + 11400714819323198485))
set_option maxHeartbeats 8000000 in
set_option maxRecDepth 100000 in
theorem D_next.calls (g : Nat) (s0_0 : Int) (r1 : Int) (r2 : Int) (w0 w : World) (hI : IsS65 w0 w g s0_0) (hB : Below w0.heap.size w0 w) (h : D_next.f s0_0 = some (r1,r2)) :
  Calls Try.prog 38 #[.pointer (some ⟨g,0,none⟩)] w fun e w' => e = .returned (.int .u64 r1) ∧ IsS65 w0 w' g r2 ∧ Below w0.heap.size w0 w' ∧ KeepBut w w' g none := by
 have HI0 := aM_ hI
 have HK := aM_ (KeepBut.refl w g none)
 have HL := aM_ hB.size
 clear hI
 have HW0 := aM_ hB.size
 have HB := aM_ hB
 clear hB
 have H : (some (Go.bits .xor .u64 (IntKind.u64.wrap ((Go.bits .xor .u64 (IntKind.u64.wrap ((Go.bits .xor .u64 (IntKind.u64.wrap (s0_0 + 11400714819323198485)) ((IntKind.u64.wrap (s0_0 + 11400714819323198485)) / 1073741824)) * 13787848793156543929)) ((IntKind.u64.wrap ((Go.bits .xor .u64 (IntKind.u64.wrap (s0_0 + 11400714819323198485)) ((IntKind.u64.wrap (s0_0 + 11400714819323198485)) / 1073741824)) * 13787848793156543929)) / 134217728)) * 10723151780598845931)) ((IntKind.u64.wrap ((Go.bits .xor .u64 (IntKind.u64.wrap ((Go.bits .xor .u64 (IntKind.u64.wrap (s0_0 + 11400714819323198485)) ((IntKind.u64.wrap (s0_0 + 11400714819323198485)) / 1073741824)) * 13787848793156543929)) ((IntKind.u64.wrap ((Go.bits .xor .u64 (IntKind.u64.wrap (s0_0 + 11400714819323198485)) ((IntKind.u64.wrap (s0_0 + 11400714819323198485)) / 1073741824)) * 13787848793156543929)) / 134217728)) * 10723151780598845931)) / 2147483648),IntKind.u64.wrap (s0_0 + 11400714819323198485))) = some (r1,r2) := h
 clear h
 simp only [Option.some.injEq,Prod.mk.injEq] at H
 obtain ⟨rfl,rfl⟩ := H
 obtain ⟨HGz2,hgz2⟩ := HI0.out
 have hcz2_0 := cellS65_0 HGz2
 have hfz2_0 := blk_frozen HGz2 0
 clear HGz2 hgz2
 go_enter Try.func38,Try.ntmps38
 go_wp2
 go_ret
 exact ⟨by first | rfl | (simp [*] <;> rfl),by repeat (first | (with_reducible first | exact HI0.out | apply IsS65.alloc | apply IsS65.drewN | apply IsS65.drew | apply IsS65.set_0) | exact HI0.out),by repeat (first | (with_reducible first | exact HB.out | apply bA_ | apply bN_ | apply bD_ | refine bS_ ?_ (IsS65.ge HI0.out)) | exact HB.out),by repeat (first | (with_reducible first | exact HK.out | apply KeepBut.set_ | apply eN_ | apply eD_ | apply eA_) | exact HK.out)⟩

--HAND
/-! ### a region that draws its order: what each operation leaves -/
theorem wp_region_all {P : Program} {id : Nat} {ops : Array Oper} {Q : Exit → Act → World → Prop} {a : Act} {w : World} (n : Nat) (hm : P.follows .mixedOrders = true) (hn : ops.size = n)
  (hback : (List.range n).all (fun i => ((ops[i]?).map (fun o => o.after.all fun e => decide (e.on < i))).getD false) = true)
  (I : Array Bool → Act → World → Prop) (h0 : I (Array.replicate n false) a w.drew)
  (hstep : ∀ (i : Nat) (o : Oper),i < n → ops[i]? = some o → ∀ (L : Array Bool) (a : Act) (w : World),I L a w → L.size = n → L.getD i true = false →
   (∀ e ∈ o.after,Region.binds .any e = true → L.getD e.on false = true) → wpOp P ops Q i (fun a' w' => I (L.setIfInBounds i true) a' w') a w)
  (hend : ∀ (L : Array Bool) (a : Act) (w : World),I L a w → (∀ i,i < n → L.getD i false = true) → Q .normal a w) :
  (Code.region id ops true).wp P Q a w := by
 refine wp_region_any hm ?_
 have go : ∀ (fuel : Nat) (L : Array Bool) (a : Act) (w : World),L.size = n → L.count false ≤ fuel → I L a w → wpAny P .any ops Q fuel L a w := by
  have all : ∀ (L : Array Bool),L.size = n → Region.ready .any ops L = [] → ∀ i,i < n → L.getD i false = true := by
   intro L hL hr i
   induction i using Nat.strongRecOn with
   | _ i ih =>
    intro hi
    by_cases hc : L.getD i false = true
    ·exact hc
    ·exfalso
     have hb := List.all_eq_true.1 hback i (List.mem_range.2 hi)
     obtain ⟨o,ho⟩ : ∃ o,ops[i]? = some o := ⟨ops[i]'(by omega),Array.getElem?_eq_getElem (by omega)⟩
     rw [ho,Option.map_some,Option.getD_some,Array.all_eq_true_iff_forall_mem] at hb
     have : i ∈ Region.ready .any ops L := mem_ready.2 ⟨by
      have h1 : i < L.size := by omega
      simp [h1] at hc ⊢
      exact hc,o,ho,fun e he _ => ih e.on (of_decide_eq_true (hb e he)) (by have := of_decide_eq_true (hb e he);omega)⟩
     rw [hr] at this
     cases this
  have next : ∀ (fuel : Nat) (L : Array Bool) (i : Nat),L.size = n → i < n → L.getD i true = false → L.count false ≤ fuel + 1 → (L.setIfInBounds i true).count false ≤ fuel := by
   intro fuel L i hL hi hf hc
   have h1 : i < L.size := by omega
   have hv : L[i] = false := by simpa [h1] using hf
   rw [Array.setIfInBounds,dif_pos h1,Array.count_set h1,hv]
   have : 0 < L.count false := Array.count_pos_iff.2 (hv ▸ Array.getElem_mem h1)
   simp
   omega
  intro fuel
  induction fuel with
  | zero =>
   intro L a w hL hc hI
   have hall : ∀ i,i < n → L.getD i false = true := by
    intro i hi'
    have h1 : i < L.size := by omega
    have := Array.count_eq_zero.1 (Nat.le_zero.1 hc)
    simp [h1]
    cases hv : L[i] with
    | true => rfl
    | false => exact absurd (hv ▸ Array.getElem_mem h1) this
   refine ⟨?_,hend L a w hI hall⟩
   rw [List.eq_nil_iff_forall_not_mem]
   intro i hr
   obtain ⟨h1,o,ho,_⟩ := mem_ready.1 hr
   have h2 : i < n := by rw [← hn];exact (Array.getElem?_eq_some_iff.1 ho).1
   have h3 := hall i h2
   have h4 : i < L.size := by omega
   simp [h4] at h1 h3
   rw [h1] at h3
   cases h3
  | succ fuel ih =>
   intro L a w hL hc hI
   refine ⟨fun hr => hend L a w hI (all L hL hr),fun i hr => ?_⟩
   obtain ⟨h1,o,ho,hall⟩ := mem_ready.1 hr
   have h2 : i < n := by rw [← hn];exact (Array.getElem?_eq_some_iff.1 ho).1
   exact wpOp_mono (fun a' w' hI' => ih _ a' w' (by simp [hL]) (next fuel L i hL h2 h1 hc) hI') (hstep i o h2 ho L a w hI hL h1 hall)
 rw [hn]
 exact go _ _ _ _ (by simp) (by simp) h0
theorem listed_of {o : Oper} {L : Array Bool} (h : ∀ e ∈ o.after,Region.binds .any e = true → L.getD e.on false = true) (i : Nat) (hi : (o.after.toList.any fun e => Region.binds .any e && e.on == i) = true) : L.getD i false = true := by
 obtain ⟨e,he,hb⟩ := List.any_eq_true.1 hi
 simp only [Bool.and_eq_true,beq_iff_eq] at hb
 rw [← hb.2]
 exact h e (by simpa using he) hb.1
def regionOf (n : Nat) : Code → Option (Array Oper)
 | .region id ops _ => if id = n then some ops else none
 | .seq a b => (regionOf n a).orElse fun _ => regionOf n b
 | .cond _ a b => (regionOf n a).orElse fun _ => regionOf n b
 | .loop a => regionOf n a
 | .block _ a => regionOf n a
 | .rangeFunc _ _ a b => (regionOf n a).orElse fun _ => regionOf n b
 | _ => none
/-! ### thermionkit.NewDice,by hand: function 9 -/
def diceStep (s x : Int) : Int := IntKind.u64.wrap (Go.bits .xor .u64 s (IntKind.u64.wrap x) + 11400714819323198485)
def diceStart (l : List Int) : Int := (l.length : Int) + 1374496523
def diceOf (l : List Int) : Int := l.foldl diceStep (diceStart l)
theorem diceOf_take (l : List Int) (k : Nat) (h : k < l.length) : (l.take (k + 1)).foldl diceStep (diceStart l) = diceStep ((l.take k).foldl diceStep (diceStart l)) (rd l k) := by
 rw [List.take_succ_eq_append_getElem h,List.foldl_append]
 unfold rd
 rw [Int.toNat_natCast,List.getD_eq_getElem?_getD,List.getElem?_eq_getElem h]
 rfl
theorem next_word (s : Int) : ∃ v,D_next.f s = some (v,IntKind.u64.wrap (s + 11400714819323198485)) := by
 unfold D_next.f
 generalize IntKind.u64.wrap (s + 11400714819323198485) = z
 exact ⟨_,rfl⟩
def MadeDice (w : World) (r : Int) (e : Ending) (w' : World) : Prop := ∃ g,e = .returned (.pointer (some ⟨g,0,none⟩)) ∧ IsS65 w w' g r ∧ Below w.heap.size w w'
set_option maxHeartbeats 4000000 in
set_option maxRecDepth 1000000 in
theorem K_NewDice.made (A0 : Option Addr) (c0 : Nat) (l0 : List Int) (w : World) (hr0 : Kd.C (Kd.int .i64) w A0 l0.length l0) (hlen : l0.length ≤ 9223372036854775807) :
  Calls Try.prog 9 #[.slice A0 l0.length c0] w (MadeDice w (diceOf l0)) := by
 have hu76 := Try.underlying65
 have HR0 := aM_ hr0
 clear hr0
 go_enter Try.func9,Try.ntmps9
 go_wp2
 go_loopw [4] (fun s4 wr => ∃ k : Nat,s4 = .int .i64 k ∧ k ≤ l0.length ∧ Aside0 (IsS65 w wr w.heap.size ((l0.take k).foldl diceStep (diceStart l0))) ∧ Aside0 (Below w.heap.size w wr)) (fun s4 _ => l0.length - (intOf s4).toNat)
 case atStart => exact ⟨0,rfl,Nat.zero_le _,⟨blk_new w _,Nat.le_refl _⟩,⟨bA_ (Below.refl _ _) _⟩⟩
 case round =>
  obtain ⟨k,rfl,hk,HI,HB⟩ := hrel
  by_cases hlt : k < l0.length
  ·obtain ⟨s,hs⟩ : ∃ s,s = (l0.take k).foldl diceStep (diceStart l0) := ⟨_,rfl⟩
   have HN := aM_ (diceOf_take l0 k hlt)
   rw [← hs] at HI HN
   clear hs
   have HC := Kd.C_below HR0.out HB.out
   obtain ⟨ad,rfl,q0⟩ := Kd.at_int HC (k : Int) (by omega) (by omega)
   obtain ⟨x,hx⟩ : ∃ x,x = rd l0 (k : Int) := ⟨_,rfl⟩
   rw [← hx] at q0 HN
   rw [Int.toNat_natCast] at q0
   have b0 : (0 : Int) ≤ (k : Int) := by omega
   have b1 : (k : Int) < (l0.length : Int) := by omega
   have g0 : wr.cell? ⟨w.heap.size,0,none⟩ = some (.int .u64 s) := (blk_cell HI.out.1 0).trans rfl
   have g1 : wr.frozen? ⟨w.heap.size,0,none⟩ = false := blk_frozen HI.out.1 0
   clear HC hx
   go_wp2
   go_region
   obtain ⟨v,hv⟩ := next_word (Go.bits .xor .u64 s (IntKind.u64.wrap x))
   have HV := aM_ hv
   clear hv
   all_goals
    go_wp2_with (fail)
    (with_reducible refine (D_next.calls w.heap.size _ v _ w _ (IsS65.set_0 HI.out _).drew (bD_ (bS_ HB.out (Nat.le_refl _))) HV.out).mono ?_)
    rintro e w3 ⟨rfl,hi,hb,hkp⟩
    have HI3 := aM_ hi
    have HB3 := aM_ hb
    clear hi hb hkp
    go_wp2
    go_roundw
    case rel => exact ⟨k + 1,by go_num,by omega,⟨by rw [HN.out];exact HI3.out⟩,HB3⟩
    case measure => simp [intOf];omega
  ·go_wp2
   go_ret
   have hkk : k = l0.length := by omega
   have h := HI.out
   rw [hkk,List.take_length] at h
   exact ⟨w.heap.size,rfl,h,HB.out⟩
def K_NewDice.f (l0 : List Int) : Option Int := if l0.length ≤ 9223372036854775807 then some (diceOf l0) else none
theorem K_NewDice.calls (A0 : Option Addr) (c0 : Nat) (l0 : List Int) (r : Int) (w0 w : World) (hB : Below w0.heap.size w0 w) (hr0 : Kd.C (Kd.int .i64) w0 A0 l0.length l0) (hc0 : l0.length ≤ c0) (h : K_NewDice.f l0 = some r) :
  Calls Try.prog 9 #[.slice A0 l0.length c0] w fun e w' => ∃ g_ : Nat,e = .returned (.pointer (some ⟨g_,0,none⟩)) ∧ IsS65 w0 w' g_ r ∧ Below w0.heap.size w0 w' ∧ Below w.heap.size w w' := by
 unfold K_NewDice.f at h
 split at h
 ·cases h
  refine (K_NewDice.made A0 c0 l0 w (Kd.C_below hr0 hB) (by assumption)).mono ?_
  rintro e w' ⟨g,he,hI,hb⟩
  exact ⟨g,he,⟨hI.1,Nat.le_trans hB.size hI.2⟩,bT_ hB hb,hb⟩
 ·cases h
/-! ### regions that throw dice -/
inductive Left where
 | val (v : Value)
 | row (t : TypeId) (cs : Array Value)
 | elem (t : TypeId) (cs : Array Value) (i : Nat)
 | var (t : TypeId) (cs : Array Value) (j : Nat) (cs' : Array Value)
 | set (i : Nat)
 | rown (t : TypeId) (cs : Array Value) (m : Nat)
def Left.holds (g n : Nat) (L : Array Bool) (v : Value) (w : World) : Left → Prop
 | .val u => v = u
 | .row t cs => ∃ b,b ≠ g ∧ v = .slice (some ⟨b,0,none⟩) cs.size cs.size ∧ w.heap[b]? = some (.cells cs t (0,0))
 | .elem t cs i => ∃ b,b ≠ g ∧ v = .pointer (some ⟨b,i,none⟩) ∧ w.heap[b]? = some (.cells cs t (0,0))
 | .var t cs j cs' => ∃ b,b ≠ g ∧ n ≤ b ∧ v = .pointer (some ⟨b,0,none⟩) ∧ w.heap[b]? = some (.cells (if L.getD j false = true then cs' else cs) t (0,0))
 | .set i => L.getD i false = true
 | .rown t cs m => ∃ b,b ≠ g ∧ v = .slice (some ⟨b,0,none⟩) m m ∧ w.heap[b]? = some (.cells cs t (0,0))
theorem keep_blk {w w' : World} {g b : Nat} {o : Obj} (hk : KeepBut w w' g none) (hb : b ≠ g) (h : w.heap[b]? = some o) : w'.heap[b]? = some o := by
 rw [hk.2 b (blk_lt h) hb (by simp)]
 exact h
def Left.free (i : Nat) : Left → Bool
 | .var _ _ j _ => j != i
 | _ => true
theorem Left.holds.keep {g n i : Nat} {L : Array Bool} {v : Value} {w w' : World} {s : Left} (h : s.holds g n L v w) (hk : KeepBut w w' g none) (hf : s.free i = true) : s.holds g n (L.setIfInBounds i true) v w' := by
 cases s with
 | val u => exact h
 | row t cs => obtain ⟨b,h1,h2,h3⟩ := h;exact ⟨b,h1,h2,keep_blk hk h1 h3⟩
 | elem t cs i => obtain ⟨b,h1,h2,h3⟩ := h;exact ⟨b,h1,h2,keep_blk hk h1 h3⟩
 | var t cs j cs' =>
  obtain ⟨b,h1,h2,h3,h4⟩ := h
  refine ⟨b,h1,h2,h3,?_⟩
  rw [getD_set_ne false (Ne.symm (by simpa [Left.free] using hf))]
  exact keep_blk hk h1 h4
 | set j => exact getD_set_true h
 | rown t cs m => obtain ⟨b,h1,h2,h3⟩ := h;exact ⟨b,h1,h2,keep_blk hk h1 h3⟩
structure DiceAt (g : Nat) (W : Nat → Int) (cs : List Nat) (F : List (Nat × Left)) (w0 w1 : World) (T : Array Value) (ds : List Deferred) (L : Array Bool) (a : Act) (w : World) : Prop where
 size : a.tmps.size = T.size
 defers : a.defers = ds
 rest : ∀ t,(F.map (·.1)).contains t = false → a.tmps.getD t undef = T.getD t undef
 state : ∃ k,k ≤ cs.length ∧ (∀ j i,cs[j]? = some i → L.getD i true = decide (j < k)) ∧ IsS65 w0 w g (W k)
 below : Below w0.heap.size w0 w
 keep : KeepBut w1 w g none
 facts : ∀ j t s,F[j]? = some (t,s) → L.getD j false = true → s.holds g w1.heap.size L (a.tmps.getD t undef) w
theorem put_at {a : Act} {t t' : Nat} {v : Value} (ht : t < a.tmps.size) : (a.put (some t) v).tmps.getD t' undef = if t' = t then v else a.tmps.getD t' undef := by
 unfold Act.put
 simp only [Array.getD_eq_getD_getElem?,Array.getElem?_setIfInBounds]
 by_cases h : t' = t
 ·subst h;simp [ht]
 ·rw [if_neg h,if_neg (Ne.symm h)]
theorem nodup_at {F : List (Nat × Left)} (hn : (F.map (·.1)).Nodup) {i j t t' : Nat} {s s' : Left} (hi : F[i]? = some (t,s)) (hj : F[j]? = some (t',s')) (hne : j ≠ i) : t' ≠ t := by
 intro h
 subst h
 have h1 : (F.map (·.1))[i]? = some t' := by rw [List.getElem?_map,hi];rfl
 have h2 : (F.map (·.1))[j]? = some t' := by rw [List.getElem?_map,hj];rfl
 have hl : i < (F.map (·.1)).length := (List.getElem?_eq_some_iff.1 h1).1
 exact hne ((List.getElem?_inj hl hn).1 (h1.trans h2.symm)).symm
theorem DiceAt.step {g : Nat} {W : Nat → Int} {cs : List Nat} {F : List (Nat × Left)} {w0 w1 : World} {T : Array Value} {ds : List Deferred} {L : Array Bool} {a : Act} {w w' : World} {i t : Nat} {s : Left} {v : Value}
  (h : DiceAt g W cs F w0 w1 T ds L a w) (hF : F[i]? = some (t,s)) (hn : (F.map (·.1)).Nodup) (ht : t < T.size) (hk : KeepBut w w' g none) (hb : Below w0.heap.size w0 w') (hfr : F.all (fun x => x.2.free i) = true) (hs : s.holds g w1.heap.size (L.setIfInBounds i true) v w')
  (hst : ∃ k,k ≤ cs.length ∧ (∀ j i',cs[j]? = some i' → (L.setIfInBounds i true).getD i' true = decide (j < k)) ∧ IsS65 w0 w' g (W k)) :
  DiceAt g W cs F w0 w1 T ds (L.setIfInBounds i true) (a.put (some t) v) w' := by
 have hta : t < a.tmps.size := by rw [h.size];exact ht
 refine ⟨by unfold Act.put;simp [h.size],h.defers,fun t' ht' => ?_,hst,hb,h.keep.trans hk (.inl rfl),fun j t' s' hj hl => ?_⟩
 ·rw [put_at hta,if_neg ?_]
  ·exact h.rest t' ht'
  ·intro e
   subst e
   have : t' ∈ F.map (·.1) := List.mem_map.2 ⟨_,List.mem_of_getElem? hF,rfl⟩
   simp [List.contains_iff_mem] at ht'
   simp at this
   exact absurd this.choose_spec (ht' _)
 ·by_cases hji : j = i
  ·subst hji
   rw [hF] at hj
   cases hj
   rw [put_at hta,if_pos rfl]
   exact hs
  ·rw [getD_set_ne false (Ne.symm hji)] at hl
   rw [put_at hta,if_neg (nodup_at hn hF hj hji)]
   exact (h.facts j t' s' hj hl).keep hk (List.all_eq_true.1 hfr _ (List.mem_of_getElem? hj))
theorem DiceAt.op {P : Program} {ops : Array Oper} {Q : Exit → Act → World → Prop} {o : Oper} {g : Nat} {W : Nat → Int} {cs : List Nat} {F : List (Nat × Left)} {w0 w1 : World} {T : Array Value} {ds : List Deferred} {L : Array Bool} {a : Act} {w w' : World} {i t : Nat} {s : Left} {v : Value}
  (h : DiceAt g W cs F w0 w1 T ds L a w) (ho : ops[i]? = some o) (hg : o.guard = none) (hd : o.dst = some t) (hF : F[i]? = some (t,s)) (hn : (F.map (·.1)).Nodup) (ht : t < T.size) (hc : cs.contains i = false)
  (hrun : (execOp a.eval o).run P w = .ok (.value v) w') (hbl : Below w.heap.size w w') (hfr : F.all (fun x => x.2.free i) = true) (hs : s.holds g w1.heap.size (L.setIfInBounds i true) v w') :
  wpOp P ops Q i (fun a' w' => DiceAt g W cs F w0 w1 T ds (L.setIfInBounds i true) a' w') a w := by
 unfold wpOp
 simp only [ho,Region.wanted,hg,if_true]
 refine .inl ?_
 unfold Oper.wp
 rw [hrun,Oper.upon_value,hd]
 obtain ⟨k,hkl,hk,hI⟩ := h.state
 refine h.step hF hn ht (KeepBut.of_below hbl g none) (bT_ h.below hbl) hfr hs ⟨k,hkl,fun j i' hj => ?_,hI.below hbl⟩
 rw [getD_set_ne true ?_]
 ·exact hk j i' hj
 ·intro e
  subst e
  have := List.mem_of_getElem? hj
  rw [List.contains_iff_mem.2 this] at hc
  cases hc
theorem DiceAt.call {P : Program} {ops : Array Oper} {Q : Exit → Act → World → Prop} {o : Oper} {g : Nat} {W : Nat → Int} {cs : List Nat} {F : List (Nat × Left)} {w0 w1 : World} {T : Array Value} {ds : List Deferred} {L : Array Bool} {a : Act} {w : World} {i t j : Nat} {v : Value} {f : FuncId} {args : Array Value}
  (h : DiceAt g W cs F w0 w1 T ds L a w) (ho : ops[i]? = some o) (hg : o.guard = none) (hd : o.dst = some t) (hF : F[i]? = some (t,.val v)) (hn : (F.map (·.1)).Nodup) (ht : t < T.size) (hc : cs[j]? = some i) (hcn : cs.Nodup) (hL : L.getD i true = false)
  (hfr : F.all (fun x => x.2.free i) = true) (hprev : ∀ i',j ≠ 0 → cs[j - 1]? = some i' → L.getD i' false = true) (hsz : cs.all (fun i => decide (i < L.size)) = true)
  (hrun : (execOp a.eval o).run P w = .ok (.enter f args) w)
  (hcall : IsS65 w0 w g (W j) → Below w0.heap.size w0 w → Calls P f args w fun e w' => e = .returned v ∧ IsS65 w0 w' g (W (j + 1)) ∧ Below w0.heap.size w0 w' ∧ KeepBut w w' g none) :
  wpOp P ops Q i (fun a' w' => DiceAt g W cs F w0 w1 T ds (L.setIfInBounds i true) a' w') a w := by
 have size_of : ∀ {x},x ∈ cs → x < L.size := fun hx => of_decide_eq_true (List.all_eq_true.1 hsz _ hx)
 obtain ⟨k,hkl,hk,hI⟩ := h.state
 have hjk : j = k := by
  have h1 := hk j i hc
  rw [hL] at h1
  have h2 : ¬ j < k := of_decide_eq_false h1.symm
  by_cases h0 : j = 0
  ·omega
  ·have hlt : j < cs.length := (List.getElem?_eq_some_iff.1 hc).1
   have h4 := List.getElem?_eq_getElem (l := cs) (i := j - 1) (by omega)
   have h3 := hprev _ h0 h4
   have h5 := hk _ _ h4
   have h6 : cs[j - 1] < L.size := size_of (List.getElem_mem _)
   simp [h6] at h3 h5
   rw [h3] at h5
   have := of_decide_eq_true h5.symm
   omega
 subst hjk
 unfold wpOp
 simp only [ho,Region.wanted,hg,if_true]
 refine .inl ?_
 unfold Oper.wp
 rw [hrun,Oper.upon_enter]
 refine (hcall hI h.below).mono ?_
 rintro e w' ⟨rfl,hI',hb,hkp⟩
 rw [hd]
 refine h.step hF hn ht hkp hb hfr rfl ⟨j + 1,(List.getElem?_eq_some_iff.1 hc).1,fun j' i' hj' => ?_,hI'⟩
 by_cases hi : i' = i
 ·subst hi
  have hl : i' < L.size := size_of (List.mem_of_getElem? hc)
  have hjj : j' = j := by
   have hlt : j < cs.length := (List.getElem?_eq_some_iff.1 hc).1
   exact ((List.getElem?_inj hlt hcn).1 (hc.trans hj'.symm)).symm
  rw [hjj,decide_eq_true (by omega)]
  simp [hl]
 ·rw [getD_set_ne true (Ne.symm hi),hk j' i' hj']
  rw [decide_eq_decide]
  have : j' ≠ j := by
   intro e
   subst e
   rw [hc] at hj'
   cases hj'
   exact hi rfl
  omega
theorem DiceAt.other {P : Program} {ops : Array Oper} {Q : Exit → Act → World → Prop} {o : Oper} {g : Nat} {W : Nat → Int} {cs : List Nat} {F : List (Nat × Left)} {w0 w1 : World} {T : Array Value} {ds : List Deferred} {L : Array Bool} {a : Act} {w : World} {i t : Nat} {v : Value} {f : FuncId} {args : Array Value}
  (h : DiceAt g W cs F w0 w1 T ds L a w) (ho : ops[i]? = some o) (hg : o.guard = none) (hd : o.dst = some t) (hF : F[i]? = some (t,.val v)) (hn : (F.map (·.1)).Nodup) (ht : t < T.size) (hc : cs.contains i = false) (hfr : F.all (fun x => x.2.free i) = true)
  (hrun : (execOp a.eval o).run P w = .ok (.enter f args) w) (hcall : Calls P f args w fun e w' => e = .returned v ∧ Below w.heap.size w w') :
  wpOp P ops Q i (fun a' w' => DiceAt g W cs F w0 w1 T ds (L.setIfInBounds i true) a' w') a w := by
 unfold wpOp
 simp only [ho,Region.wanted,hg,if_true]
 refine .inl ?_
 unfold Oper.wp
 rw [hrun,Oper.upon_enter]
 refine hcall.mono ?_
 rintro e w' ⟨rfl,hbl⟩
 rw [hd]
 obtain ⟨k,hkl,hk,hI⟩ := h.state
 refine h.step hF hn ht (KeepBut.of_below hbl g none) (bT_ h.below hbl) hfr rfl ⟨k,hkl,fun j i' hj => ?_,hI.below hbl⟩
 rw [getD_set_ne true ?_]
 ·exact hk j i' hj
 ·intro e
  subst e
  have := List.mem_of_getElem? hj
  rw [List.contains_iff_mem.2 this] at hc
  cases hc
def Left.apart (t : TypeId) : Left → Bool
 | .val _ => true
 | .row u _ => u != t
 | .elem u _ _ => u != t
 | .var u _ _ _ => u != t
 | .set _ => true
 | .rown u _ _ => u != t
theorem DiceAt.store {P : Program} {ops : Array Oper} {Q : Exit → Act → World → Prop} {o : Oper} {g : Nat} {W : Nat → Int} {cs : List Nat} {F : List (Nat × Left)} {w0 w1 : World} {T : Array Value} {ds : List Deferred} {L : Array Bool} {a : Act} {w : World} {i j t : Nat} {ty : TypeId} {c0 c1 : Array Value}
  (h : DiceAt g W cs F w0 w1 T ds L a w) (ho : ops[i]? = some o) (hg : o.guard = none) (hd : o.dst = none) (hF : F[j]? = some (t,.var ty c0 i c1)) (hc : cs.contains i = false) {ti : Nat} (hFi : F[i]? = some (ti,.set j)) (hw1 : w0.heap.size ≤ w1.heap.size) (hi : i < L.size)
  (hty : (F.zipIdx.all fun x => x.2 == j || (x.1.2.apart ty && x.1.2.free i)) = true) (hL : L.getD i true = false) (hLj : L.getD j false = true)
  (hrun : ∀ b,a.tmps.getD t undef = .pointer (some ⟨b,0,none⟩) → w.heap[b]? = some (.cells c0 ty (0,0)) →
   ∃ w',(execOp a.eval o).run P w = .ok .skip w' ∧ w'.heap.size = w.heap.size ∧ w'.heap[b]? = some (.cells c1 ty (0,0)) ∧ (∀ k,k ≠ b → w'.heap[k]? = w.heap[k]?) ∧ ∀ w0 : World,w0.heap.size ≤ b → Below w0.heap.size w0 w → Below w0.heap.size w0 w') :
  wpOp P ops Q i (fun a' w' => DiceAt g W cs F w0 w1 T ds (L.setIfInBounds i true) a' w') a w := by
 unfold wpOp
 simp only [ho,Region.wanted,hg,if_true]
 refine .inl ?_
 unfold Oper.wp
 obtain ⟨b,b1,b2,b3,b4⟩ := h.facts j t _ hF hLj
 have hLi : L.getD i false = false := by simp [hi] at hL ⊢;exact hL
 rw [if_neg (by rw [hLi];decide)] at b4
 obtain ⟨w',hr,hsz,hb,hne,hbel⟩ := hrun b b3 b4
 rw [hr,Oper.upon_skip,hd]
 obtain ⟨k,hkl,hk,hI⟩ := h.state
 refine ⟨h.size,h.defers,h.rest,⟨k,hkl,fun j' i' hj => ?_,?_⟩,?_,?_,fun j' t' s' hj hl => ?_⟩
 ·rw [getD_set_ne true ?_]
  ·exact hk j' i' hj
  ·intro e
   subst e
   have := List.mem_of_getElem? hj
   rw [List.contains_iff_mem.2 this] at hc
   cases hc
 ·exact ⟨(hne g (Ne.symm b1)).trans hI.1,hI.2⟩
 ·exact hbel _ (Nat.le_trans hw1 b2) h.below
 ·exact ⟨by rw [hsz];exact h.keep.1,fun q hq hg' hr' => (hne q (by omega)).trans (h.keep.2 q hq hg' hr')⟩
 ·by_cases hji : j' = i
  ·subst hji
   rw [hFi] at hj
   cases hj
   exact getD_set_true hLj
  rw [getD_set_ne false (Ne.symm hji)] at hl
  by_cases hjj : j' = j
  ·subst hjj
   rw [hF] at hj
   cases hj
   exact ⟨b,b1,b2,b3,by simpa [hi] using hb⟩
  ·have hap : s'.apart ty = true ∧ s'.free i = true := by
    have h1 : ((t',s'),j') ∈ F.zipIdx := by rw [List.mem_zipIdx_iff_getElem?];exact hj
    have h2 := List.all_eq_true.1 hty _ h1
    simpa [hjj] using h2
   obtain ⟨hap,hfree⟩ := hap
   have hother : ∀ (q : Nat) (u : TypeId) (cs : Array Value),u ≠ ty → w.heap[q]? = some (.cells cs u (0,0)) → w'.heap[q]? = some (.cells cs u (0,0)) := fun q u cs hu hq => by
    rw [hne q ?_]
    ·exact hq
    ·intro e
     subst e
     rw [b4] at hq
     cases hq
     exact hu rfl
   have hfact := h.facts j' t' s' hj hl
   cases s' with
   | val u => exact hfact
   | set q => exact getD_set_true hfact
   | rown u cs m => obtain ⟨q,h1,h2,h3⟩ := hfact;exact ⟨q,h1,h2,hother q u cs (by simpa [Left.apart] using hap) h3⟩
   | row u cs => obtain ⟨q,h1,h2,h3⟩ := hfact;exact ⟨q,h1,h2,hother q u cs (by simpa [Left.apart] using hap) h3⟩
   | elem u cs k => obtain ⟨q,h1,h2,h3⟩ := hfact;exact ⟨q,h1,h2,hother q u cs (by simpa [Left.apart] using hap) h3⟩
   | var u cs k cs' =>
    obtain ⟨q,h1,h2,h3,h4⟩ := hfact
    have hu : u ≠ ty := by simpa [Left.apart] using hap
    refine ⟨q,h1,h2,h3,?_⟩
    rw [getD_set_ne false (Ne.symm (by simpa [Left.free] using hfree))]
    exact hother q u _ hu h4
theorem DiceAt.start {g : Nat} {W : Nat → Int} {cs : List Nat} {F : List (Nat × Left)} {w0 w1 : World} {T : Array Value} {ds : List Deferred} {n : Nat} (hcs : cs.all (fun i => decide (i < n)) = true) (hI : IsS65 w0 w1 g (W 0)) (hB : Below w0.heap.size w0 w1) :
  DiceAt g W cs F w0 w1 T ds (Array.replicate n false) { tmps := T,defers := ds } w1.drew :=
 ⟨rfl,rfl,fun _ _ => rfl,⟨0,Nat.zero_le _,fun j i hj => by
  have := of_decide_eq_true (List.all_eq_true.1 hcs _ (List.mem_of_getElem? hj))
  simp [this],hI.drew⟩,bD_ hB,KeepBut.refl _ _ _,fun j t s hj hl => by
  simp at hl
  by_cases h : j < n <;> simp [h] at hl⟩
theorem DiceAt.fresh {g : Nat} {W : Nat → Int} {cs : List Nat} {F : List (Nat × Left)} {w0 w1 : World} {T : Array Value} {ds : List Deferred} {L : Array Bool} {a : Act} {w : World} (h : DiceAt g W cs F w0 w1 T ds L a w) : w.heap.size ≠ g := by
 obtain ⟨k,_,_,hI⟩ := h.state
 have := hI.lt
 omega
theorem DiceAt.done {g : Nat} {W : Nat → Int} {cs : List Nat} {F : List (Nat × Left)} {w0 w1 : World} {T : Array Value} {ds : List Deferred} {L : Array Bool} {a : Act} {w : World} (h : DiceAt g W cs F w0 w1 T ds L a w) (hl : ∀ i ∈ cs,L.getD i false = true) : IsS65 w0 w g (W cs.length) := by
 obtain ⟨k,hkl,hk,hI⟩ := h.state
 rcases Nat.lt_or_ge k cs.length with hlt | hge
 ·exfalso
  have h1 := hk k cs[k] (List.getElem?_eq_getElem hlt)
  have h2 := hl _ (List.getElem_mem hlt)
  rw [decide_eq_false (by omega)] at h1
  have h3 : cs[k] < L.size := by
   rcases Nat.lt_or_ge cs[k] L.size with h | h
   ·exact h
   ·simp [h] at h1
  simp [h3] at h1 h2
  rw [h1] at h2
  cases h2
 ·rw [show cs.length = k by omega]
  exact hI
theorem getD_foldl {G : Nat → Value} (t : Nat) : ∀ (F : List (Nat × Left)) (T : Array Value),(F.foldl (fun T x => T.setIfInBounds x.1 (G x.1)) T).getD t undef = if (F.map (·.1)).contains t = true ∧ t < T.size then G t else T.getD t undef
 | [],T => by simp
 | x :: F,T => by
  rw [List.foldl_cons,getD_foldl t F]
  simp only [Array.size_setIfInBounds,List.map_cons,List.contains_cons,Array.getD_eq_getD_getElem?,Array.getElem?_setIfInBounds,Bool.or_eq_true,beq_iff_eq]
  by_cases h1 : (F.map (·.1)).contains t = true ∧ t < T.size
  ·rw [if_pos h1,if_pos ⟨.inr h1.1,h1.2⟩]
  ·rw [if_neg h1]
   by_cases h2 : x.1 = t
   ·subst h2
    by_cases h3 : x.1 < T.size
    ·rw [if_pos rfl,if_pos h3,if_pos ⟨.inl rfl,h3⟩];rfl
    ·rw [if_pos rfl,if_neg h3,if_neg (fun h => h3 h.2)];simp [h3]
   ·rw [if_neg h2]
    by_cases h3 : (t = x.1 ∨ (F.map (·.1)).contains t = true) ∧ t < T.size
    ·rcases h3.1 with h4 | h4
     ·exact absurd h4.symm h2
     ·exact absurd ⟨h4,h3.2⟩ h1
    ·rw [if_neg h3]
theorem foldl_size {G : Nat → Value} : ∀ (F : List (Nat × Left)) (T : Array Value),(F.foldl (fun T x => T.setIfInBounds x.1 (G x.1)) T).size = T.size
 | [],T => rfl
 | x :: F,T => by rw [List.foldl_cons,foldl_size F];simp
theorem DiceAt.frame {g : Nat} {W : Nat → Int} {cs : List Nat} {F : List (Nat × Left)} {w0 w1 : World} {T : Array Value} {ds : List Deferred} {L : Array Bool} {a : Act} {w : World} (h : DiceAt g W cs F w0 w1 T ds L a w) (G : Nat → Value) (hG : ∀ x ∈ F,x.1 < T.size → a.tmps.getD x.1 undef = G x.1) :
  a = { tmps := F.foldl (fun T x => T.setIfInBounds x.1 (G x.1)) T,defers := ds } := by
 obtain ⟨tm,df⟩ := a
 have h1 : df = ds := h.defers
 have h2 : tm.size = T.size := h.size
 have h3 : tm = F.foldl (fun T x => T.setIfInBounds x.1 (G x.1)) T := by
  refine Array.ext (by rw [foldl_size,h2]) (fun t ht ht' => ?_)
  have e1 : tm[t] = tm.getD t undef := by simp [ht]
  have e2 : (F.foldl (fun T x => T.setIfInBounds x.1 (G x.1)) T)[t] = (F.foldl (fun T x => T.setIfInBounds x.1 (G x.1)) T).getD t undef := by simp [ht']
  rw [e1,e2,getD_foldl]
  by_cases hc : (F.map (·.1)).contains t = true ∧ t < T.size
  ·rw [if_pos hc]
   have := List.contains_iff_mem.1 hc.1
   obtain ⟨x,hx,rfl⟩ := List.mem_map.1 this
   exact hG x hx hc.2
  ·rw [if_neg hc]
   refine h.rest t ?_
   cases hb : (F.map (·.1)).contains t with
   | false => rfl
   | true => exact absurd ⟨hb,by omega⟩ hc
 rw [h1,h3]
theorem DiceAt.var {P : Program} {ops : Array Oper} {Q : Exit → Act → World → Prop} {o : Oper} {g : Nat} {W : Nat → Int} {cs : List Nat} {F : List (Nat × Left)} {w0 w1 : World} {T : Array Value} {ds : List Deferred} {L : Array Bool} {a : Act} {w : World} {i j t tj : Nat} {ty : TypeId} {c0 c1 : Array Value}
  (h : DiceAt g W cs F w0 w1 T ds L a w) (ho : ops[i]? = some o) (hg : o.guard = none) (hd : o.dst = some t) (hF : F[i]? = some (t,.var ty c0 j c1)) (hFj : F[j]? = some (tj,.set i)) (hn : (F.map (·.1)).Nodup) (ht : t < T.size) (hc : cs.contains i = false) (hfr : F.all (fun x => x.2.free i) = true) (hL : L.getD i true = false)
  (hrun : (execOp a.eval o).run P w = .ok (.value (.pointer (some ⟨w.heap.size,0,none⟩))) (w.alloc (.cells c0 ty))) :
  wpOp P ops Q i (fun a' w' => DiceAt g W cs F w0 w1 T ds (L.setIfInBounds i true) a' w') a w := by
 have hji : j ≠ i := by
  intro e
  subst e
  rw [hF] at hFj
  cases hFj
 have hno : L.getD j false = false := by
  cases hb : L.getD j false with
  | false => rfl
  | true =>
   have h1 : L.getD i false = true := h.facts j tj _ hFj hb
   have h2 : i < L.size := by
    rcases Nat.lt_or_ge i L.size with h | h
    ·exact h
    ·simp [h] at hL
   simp [h2] at hL h1
   rw [hL] at h1
   cases h1
 refine h.op ho hg hd hF hn ht hc hrun (bA_ (Below.refl _ _) _) hfr ⟨w.heap.size,h.fresh,h.keep.1,rfl,?_⟩
 rw [getD_set_ne false (Ne.symm hji),hno]
 exact heap_alloc_new w _
theorem cell_row3 {w : World} {b : Nat} {x y z k : Int} (h : w.heap[b]? = some (.cells #[.int .i64 x,.int .i64 y,.int .i64 z] 3 (0,0))) (h0 : 0 ≤ k) (h1 : k < 3) : w.cell? ⟨b,k.toNat,none⟩ = some (.int .i64 (rd [x,y,z] k)) := by
 rw [blk_cell h]
 have : k.toNat = 0 ∨ k.toNat = 1 ∨ k.toNat = 2 := by omega
 unfold rd
 rcases this with e | e | e <;> rw [e] <;> rfl
/-! ### what single operations do -/
theorem run_move {P : Program} {ρ : Operand → Value} {o : Oper} {x : Operand} {v : Value} (w : World) (h : o.op = .move x) (hx : ρ x = v) : (execOp ρ o).run P w = .ok (.value v) w := by
 unfold execOp;rw [h];subst hx;rfl
theorem run_assign {P : Program} {ρ : Operand → Value} {o : Oper} {x : Operand} {v : Value} (w : World) (h : o.op = .assign x) (hx : ρ x = v) : (execOp ρ o).run P w = .ok (.value v) w := by
 unfold execOp;rw [h];subst hx;rfl
theorem run_add {ρ : Operand → Value} {o : Oper} {x y : Operand} {a b : Int} (w : World) (h : o.op = .binOp .add 3 x y 3) (hx : ρ x = .int .i64 a) (hy : ρ y = .int .i64 b) (h0 : -9223372036854775808 ≤ a + b) (h1 : a + b ≤ 9223372036854775807) :
  (execOp ρ o).run Try.prog w = .ok (.value (.int .i64 (a + b))) w := by
 have e : IntKind.i64.wrap (a + b) = a + b := IntWalk.i64_in _ (by omega)
 have hu3 := Try.underlying3
 unfold execOp;rw [h];simp only [hx,hy];clear h hx hy
 go_simp
theorem run_sub {ρ : Operand → Value} {o : Oper} {x y : Operand} {a b : Int} (w : World) (h : o.op = .binOp .sub 3 x y 3) (hx : ρ x = .int .i64 a) (hy : ρ y = .int .i64 b) (h0 : -9223372036854775808 ≤ a - b) (h1 : a - b ≤ 9223372036854775807) :
  (execOp ρ o).run Try.prog w = .ok (.value (.int .i64 (a - b))) w := by
 have e : IntKind.i64.wrap (a - b) = a - b := IntWalk.i64_in _ (by omega)
 have hu3 := Try.underlying3
 unfold execOp;rw [h];simp only [hx,hy];clear h hx hy
 go_simp
theorem run_neg {ρ : Operand → Value} {o : Oper} {x : Operand} {a : Int} (w : World) (h : o.op = .unOp .neg 3 x) (hx : ρ x = .int .i64 a) (h0 : -9223372036854775808 ≤ -a) (h1 : -a ≤ 9223372036854775807) :
  (execOp ρ o).run Try.prog w = .ok (.value (.int .i64 (-a))) w := by
 have e : IntKind.i64.wrap (-a) = -a := IntWalk.i64_in _ (by omega)
 have hu3 := Try.underlying3
 unfold execOp;rw [h];simp only [hx];clear h hx
 go_simp
theorem run_row3 {ρ : Operand → Value} {o : Oper} {x y z : Operand} {a b c : Int} (w : World) (h : o.op = .buildSlice 22 3 #[(0,x),(1,y),(2,z)]) (hx : ρ x = .int .i64 a) (hy : ρ y = .int .i64 b) (hz : ρ z = .int .i64 c) :
  (execOp ρ o).run Try.prog w = .ok (.value (.slice (some ⟨w.heap.size,0,none⟩) 3 3)) (w.alloc (.cells #[.int .i64 a,.int .i64 b,.int .i64 c] 3)) := by
 have hu3 := Try.underlying22
 unfold execOp;rw [h];simp only [List.map_toArray,List.map_cons,List.map_nil,hx,hy,hz];clear h hx hy hz
 go_simp
theorem run_at {ρ : Operand → Value} {o : Oper} {x y : Operand} {b n : Nat} {k : Int} (w : World) (h : o.op = .indexAddr 22 x y) (hx : ρ x = .slice (some ⟨b,0,none⟩) n n) (hy : ρ y = .int .i64 k) (h0 : 0 ≤ k) (h1 : k < n) :
  (execOp ρ o).run Try.prog w = .ok (.value (.pointer (some ⟨b,k.toNat,none⟩))) w := by
 have hu3 := Try.underlying22
 unfold execOp;rw [h];simp only [hx,hy];clear h hx hy
 go_simp
theorem run_load {ρ : Operand → Value} {o : Oper} {x : Operand} {p : Addr} {v : Value} (w : World) (h : o.op = .load 3 x) (hx : ρ x = .pointer (some p)) (hc : w.cell? p = some v) :
  (execOp ρ o).run Try.prog w = .ok (.value v) w := by
 unfold execOp;rw [h];simp only [hx];clear h hx
 go_simp
theorem run_call {ρ : Operand → Value} {o : Oper} {c : Call} {f : Nat} {args : Array Value} (w : World) (h : o.op = .call c) (hc : c.callee = .value (.func f)) (ha : c.args.map ρ = args) (he : ∀ args w,(callFunc f args).run Try.prog w = .ok (.enter f args) w) (hρ : ρ (.func f) = .func (.func f) #[] #[]) :
  (execOp ρ o).run Try.prog w = .ok (.enter f args) w := by
 unfold execOp;rw [h];clear h
 simp only [resolve,hc,hρ,ha]
 simp [go_sem,invoke,he]
theorem run_len {ρ : Operand → Value} {o : Oper} {x : Operand} {A : Option Addr} {n c : Nat} (w : World) (h : o.op = .call { callee := .builtin .len,args := #[x],argTypes := #[25] }) (ht : o.type = 3) (hx : ρ x = .slice A n c) (hn : n ≤ 9223372036854775807) :
  (execOp ρ o).run Try.prog w = .ok (.value (.int .i64 n)) w := by
 unfold execOp;rw [h];clear h
 have hu := Try.underlying25
 simp [go_sem,resolve,invoke,builtin,hx,ht,Builtin.len_]
theorem run_min {ρ : Operand → Value} {o : Oper} {x y : Operand} {a b : Int} (w : World) (h : o.op = .call { callee := .builtin .min,args := #[x,y],argTypes := #[3,3] }) (ht : o.type = 3) (hx : ρ x = .int .i64 a) (hy : ρ y = .int .i64 b) :
  (execOp ρ o).run Try.prog w = .ok (.value (.int .i64 (mn a b))) w := by
 unfold execOp;rw [h];clear h
 simp [go_sem,resolve,invoke,builtin,hx,hy]
 rw [mn_eq]
 omega
theorem run_build2 {ρ : Operand → Value} {o : Oper} {x y : Operand} {a b : Int} (w : World) (h : o.op = .build 34 #[(0,x),(1,y)]) (hx : ρ x = .int .i64 a) (hy : ρ y = .int .i64 b) :
  (execOp ρ o).run Try.prog w = .ok (.value (.agg #[.int .i64 a,.int .i64 b])) w := by
 have hu := Try.underlying34
 unfold execOp;rw [h];simp only [List.map_toArray,List.map_cons,List.map_nil,hx,hy];clear h hx hy
 go_simp
theorem run_build5 {ρ : Operand → Value} {o : Oper} {x y z u v : Operand} {a b c d e f g : Int} (w : World) (h : o.op = .build 49 #[(0,x),(1,y),(2,z),(3,u),(4,v)]) (hx : ρ x = .agg #[.int .i64 a,.int .i64 b]) (hy : ρ y = .agg #[.int .i64 c,.int .i64 d]) (hz : ρ z = .int .i64 e) (hu : ρ u = .int .i64 f) (hv : ρ v = .int .i64 g) :
  (execOp ρ o).run Try.prog w = .ok (.value (.agg #[.int .i64 a,.int .i64 b,.int .i64 c,.int .i64 d,.int .i64 e,.int .i64 f,.int .i64 g])) w := by
 have hu1 := Try.underlying34
 have hu2 := Try.underlying49
 unfold execOp;rw [h];simp only [List.map_toArray,List.map_cons,List.map_nil,hx,hy,hz,hu,hv];clear h hx hy hz hu hv
 go_simp
theorem run_var2 {ρ : Operand → Value} {o : Oper} (w : World) (h : o.op = .alloc 34) : (execOp ρ o).run Try.prog w = .ok (.value (.pointer (some ⟨w.heap.size,0,none⟩))) (w.alloc (.cells #[.int .i64 0,.int .i64 0] 34)) := by
 have hu1 := Try.underlying34
 unfold execOp;rw [h];clear h
 go_simp
theorem run_var7 {ρ : Operand → Value} {o : Oper} (w : World) (h : o.op = .alloc 49) : (execOp ρ o).run Try.prog w = .ok (.value (.pointer (some ⟨w.heap.size,0,none⟩))) (w.alloc (.cells #[.int .i64 0,.int .i64 0,.int .i64 0,.int .i64 0,.int .i64 0,.int .i64 0,.int .i64 0] 49)) := by
 have hu1 := Try.underlying34
 have hu2 := Try.underlying49
 unfold execOp;rw [h];clear h
 go_simp
theorem stored2 {w : World} {b ty : Nat} {x0 x1 y0 y1 : Int} (hc : w.heap[b]? = some (.cells #[.int .i64 x0,.int .i64 x1] ty (0,0))) :
  ((w.setCell ⟨b,0,none⟩ (.int .i64 y0)).setCell ⟨b,1,none⟩ (.int .i64 y1)).heap[b]? = some (.cells #[.int .i64 y0,.int .i64 y1] ty (0,0)) :=
 blk_put (blk_put hc 0 _ rfl) 1 _ rfl
theorem run_store2 {ρ : Operand → Value} {o : Oper} {x y : Operand} {w : World} {b : Nat} {x0 x1 y0 y1 : Int} (h : o.op = .store 34 x y) (hx : ρ x = .pointer (some ⟨b,0,none⟩)) (hy : ρ y = .agg #[.int .i64 y0,.int .i64 y1]) (hc : w.heap[b]? = some (.cells #[.int .i64 x0,.int .i64 x1] 34 (0,0))) :
  ∃ w',(execOp ρ o).run Try.prog w = .ok .skip w' ∧ w'.heap.size = w.heap.size ∧ w'.heap[b]? = some (.cells #[.int .i64 y0,.int .i64 y1] 34 (0,0)) ∧ (∀ k,k ≠ b → w'.heap[k]? = w.heap[k]?) ∧ ∀ w0 : World,w0.heap.size ≤ b → Below w0.heap.size w0 w → Below w0.heap.size w0 w' := by
 refine ⟨(w.setCell ⟨b,0,none⟩ (.int .i64 y0)).setCell ⟨b,1,none⟩ (.int .i64 y1),?_,by simp [World.setCell],stored2 hc,fun k hk => (Below.heap_setCell _ ⟨b,_,none⟩ _ k hk).trans (Below.heap_setCell _ ⟨b,_,none⟩ _ k hk),fun w0 hB hb => bS_ (bS_ hb hB) hB⟩
 have hu1 := Try.underlying34
 have q0 : w.cell? ⟨b,0,none⟩ = some (.int .i64 x0) := (blk_cell hc 0).trans rfl
 have q1 : w.cell? ⟨b,1,none⟩ = some (.int .i64 x1) := (blk_cell hc 1).trans rfl
 have f0 := blk_frozen hc 0
 have f1 := blk_frozen hc 1
 unfold execOp;rw [h];simp only [hx,hy];clear h hx hy hc
 go_simp
set_option maxHeartbeats 2000000 in
theorem stored7 {w : World} {b ty : Nat} {x0 x1 x2 x3 x4 x5 x6 y0 y1 y2 y3 y4 y5 y6 : Int} (hc : w.heap[b]? = some (.cells #[.int .i64 x0,.int .i64 x1,.int .i64 x2,.int .i64 x3,.int .i64 x4,.int .i64 x5,.int .i64 x6] ty (0,0))) :
  (((((((w.setCell ⟨b,0,none⟩ (.int .i64 y0)).setCell ⟨b,1,none⟩ (.int .i64 y1)).setCell ⟨b,2,none⟩ (.int .i64 y2)).setCell ⟨b,3,none⟩ (.int .i64 y3)).setCell ⟨b,4,none⟩ (.int .i64 y4)).setCell ⟨b,5,none⟩ (.int .i64 y5)).setCell ⟨b,6,none⟩ (.int .i64 y6)).heap[b]? = some (.cells #[.int .i64 y0,.int .i64 y1,.int .i64 y2,.int .i64 y3,.int .i64 y4,.int .i64 y5,.int .i64 y6] ty (0,0)) := by
 have h1 : (w.setCell ⟨b,0,none⟩ (.int .i64 y0)).heap[b]? = some (.cells #[.int .i64 y0,.int .i64 x1,.int .i64 x2,.int .i64 x3,.int .i64 x4,.int .i64 x5,.int .i64 x6] ty (0,0)) := blk_put hc 0 _ rfl
 have h2 : ((w.setCell ⟨b,0,none⟩ (.int .i64 y0)).setCell ⟨b,1,none⟩ (.int .i64 y1)).heap[b]? = some (.cells #[.int .i64 y0,.int .i64 y1,.int .i64 x2,.int .i64 x3,.int .i64 x4,.int .i64 x5,.int .i64 x6] ty (0,0)) := blk_put h1 1 _ rfl
 have h3 : (((w.setCell ⟨b,0,none⟩ (.int .i64 y0)).setCell ⟨b,1,none⟩ (.int .i64 y1)).setCell ⟨b,2,none⟩ (.int .i64 y2)).heap[b]? = some (.cells #[.int .i64 y0,.int .i64 y1,.int .i64 y2,.int .i64 x3,.int .i64 x4,.int .i64 x5,.int .i64 x6] ty (0,0)) := blk_put h2 2 _ rfl
 have h4 : ((((w.setCell ⟨b,0,none⟩ (.int .i64 y0)).setCell ⟨b,1,none⟩ (.int .i64 y1)).setCell ⟨b,2,none⟩ (.int .i64 y2)).setCell ⟨b,3,none⟩ (.int .i64 y3)).heap[b]? = some (.cells #[.int .i64 y0,.int .i64 y1,.int .i64 y2,.int .i64 y3,.int .i64 x4,.int .i64 x5,.int .i64 x6] ty (0,0)) := blk_put h3 3 _ rfl
 have h5 : (((((w.setCell ⟨b,0,none⟩ (.int .i64 y0)).setCell ⟨b,1,none⟩ (.int .i64 y1)).setCell ⟨b,2,none⟩ (.int .i64 y2)).setCell ⟨b,3,none⟩ (.int .i64 y3)).setCell ⟨b,4,none⟩ (.int .i64 y4)).heap[b]? = some (.cells #[.int .i64 y0,.int .i64 y1,.int .i64 y2,.int .i64 y3,.int .i64 y4,.int .i64 x5,.int .i64 x6] ty (0,0)) := blk_put h4 4 _ rfl
 have h6 : ((((((w.setCell ⟨b,0,none⟩ (.int .i64 y0)).setCell ⟨b,1,none⟩ (.int .i64 y1)).setCell ⟨b,2,none⟩ (.int .i64 y2)).setCell ⟨b,3,none⟩ (.int .i64 y3)).setCell ⟨b,4,none⟩ (.int .i64 y4)).setCell ⟨b,5,none⟩ (.int .i64 y5)).heap[b]? = some (.cells #[.int .i64 y0,.int .i64 y1,.int .i64 y2,.int .i64 y3,.int .i64 y4,.int .i64 y5,.int .i64 x6] ty (0,0)) := blk_put h5 5 _ rfl
 have h7 : (((((((w.setCell ⟨b,0,none⟩ (.int .i64 y0)).setCell ⟨b,1,none⟩ (.int .i64 y1)).setCell ⟨b,2,none⟩ (.int .i64 y2)).setCell ⟨b,3,none⟩ (.int .i64 y3)).setCell ⟨b,4,none⟩ (.int .i64 y4)).setCell ⟨b,5,none⟩ (.int .i64 y5)).setCell ⟨b,6,none⟩ (.int .i64 y6)).heap[b]? = some (.cells #[.int .i64 y0,.int .i64 y1,.int .i64 y2,.int .i64 y3,.int .i64 y4,.int .i64 y5,.int .i64 y6] ty (0,0)) := blk_put h6 6 _ rfl
 exact h7
set_option maxHeartbeats 2000000 in
theorem run_store7 {ρ : Operand → Value} {o : Oper} {x y : Operand} {w : World} {b : Nat} {x0 x1 x2 x3 x4 x5 x6 y0 y1 y2 y3 y4 y5 y6 : Int} (h : o.op = .store 49 x y) (hx : ρ x = .pointer (some ⟨b,0,none⟩)) (hy : ρ y = .agg #[.int .i64 y0,.int .i64 y1,.int .i64 y2,.int .i64 y3,.int .i64 y4,.int .i64 y5,.int .i64 y6]) (hc : w.heap[b]? = some (.cells #[.int .i64 x0,.int .i64 x1,.int .i64 x2,.int .i64 x3,.int .i64 x4,.int .i64 x5,.int .i64 x6] 49 (0,0))) :
  ∃ w',(execOp ρ o).run Try.prog w = .ok .skip w' ∧ w'.heap.size = w.heap.size ∧ w'.heap[b]? = some (.cells #[.int .i64 y0,.int .i64 y1,.int .i64 y2,.int .i64 y3,.int .i64 y4,.int .i64 y5,.int .i64 y6] 49 (0,0)) ∧ (∀ k,k ≠ b → w'.heap[k]? = w.heap[k]?) ∧ ∀ w0 : World,w0.heap.size ≤ b → Below w0.heap.size w0 w → Below w0.heap.size w0 w' := by
 refine ⟨(((((((w.setCell ⟨b,0,none⟩ (.int .i64 y0)).setCell ⟨b,1,none⟩ (.int .i64 y1)).setCell ⟨b,2,none⟩ (.int .i64 y2)).setCell ⟨b,3,none⟩ (.int .i64 y3)).setCell ⟨b,4,none⟩ (.int .i64 y4)).setCell ⟨b,5,none⟩ (.int .i64 y5)).setCell ⟨b,6,none⟩ (.int .i64 y6)),?_,by simp [World.setCell],stored7 hc,fun k hk => ((Below.heap_setCell _ ⟨b,_,none⟩ _ k hk).trans ((Below.heap_setCell _ ⟨b,_,none⟩ _ k hk).trans ((Below.heap_setCell _ ⟨b,_,none⟩ _ k hk).trans ((Below.heap_setCell _ ⟨b,_,none⟩ _ k hk).trans ((Below.heap_setCell _ ⟨b,_,none⟩ _ k hk).trans ((Below.heap_setCell _ ⟨b,_,none⟩ _ k hk).trans (Below.heap_setCell _ ⟨b,_,none⟩ _ k hk))))))),fun w0 hB hb => (bS_ (bS_ (bS_ (bS_ (bS_ (bS_ (bS_ hb hB) hB) hB) hB) hB) hB) hB)⟩
 have hu1 := Try.underlying34
 have hu2 := Try.underlying49
 have q0 : w.cell? ⟨b,0,none⟩ = some (.int .i64 x0) := (blk_cell hc 0).trans rfl
 have f0 := blk_frozen hc 0
 have q1 : w.cell? ⟨b,1,none⟩ = some (.int .i64 x1) := (blk_cell hc 1).trans rfl
 have f1 := blk_frozen hc 1
 have q2 : w.cell? ⟨b,2,none⟩ = some (.int .i64 x2) := (blk_cell hc 2).trans rfl
 have f2 := blk_frozen hc 2
 have q3 : w.cell? ⟨b,3,none⟩ = some (.int .i64 x3) := (blk_cell hc 3).trans rfl
 have f3 := blk_frozen hc 3
 have q4 : w.cell? ⟨b,4,none⟩ = some (.int .i64 x4) := (blk_cell hc 4).trans rfl
 have f4 := blk_frozen hc 4
 have q5 : w.cell? ⟨b,5,none⟩ = some (.int .i64 x5) := (blk_cell hc 5).trans rfl
 have f5 := blk_frozen hc 5
 have q6 : w.cell? ⟨b,6,none⟩ = some (.int .i64 x6) := (blk_cell hc 6).trans rfl
 have f6 := blk_frozen hc 6
 unfold execOp;rw [h];simp only [hx,hy];clear h hx hy hc
 go_simp

/-! ### D_Upto: function 13 -/
def D_Upto.f (s0_0 : Int) (a1 : Int) : Option (Int × Int) := (D_next.f s0_0).bind fun bt101 => (if a1 < 1 then (some (0,bt101.2)) else (if (IntKind.u64.wrap (a1)) = 0 then (none) else (some (wrap64 (Int.tmod bt101.1 (IntKind.u64.wrap (a1))),bt101.2))))
set_option maxHeartbeats 8000000 in
set_option maxRecDepth 100000 in
theorem D_Upto.calls (g : Nat) (s0_0 : Int) (a1 : Int) (r1 : Int) (r2 : Int) (w0 w : World) (hI : IsS65 w0 w g s0_0) (hB : Below w0.heap.size w0 w) (h : D_Upto.f s0_0 a1 = some (r1,r2)) :
  Calls Try.prog 13 #[.pointer (some ⟨g,0,none⟩),.int .i64 a1] w fun e w' => e = .returned (.int .i64 r1) ∧ IsS65 w0 w' g r2 ∧ Below w0.heap.size w0 w' ∧ KeepBut w w' g none := by
 have HI0 := aM_ hI
 have HK := aM_ (KeepBut.refl w g none)
 have HL := aM_ hB.size
 clear hI
 have HW0 := aM_ hB.size
 have HB := aM_ hB
 clear hB
 have H : ((D_next.f s0_0).bind fun bt101 => (if a1 < 1 then (some (0,bt101.2)) else (if (IntKind.u64.wrap (a1)) = 0 then (none) else (some (wrap64 (Int.tmod bt101.1 (IntKind.u64.wrap (a1))),bt101.2))))) = some (r1,r2) := h
 clear h
 replace H := oB_ H
 obtain ⟨⟨t101,t102⟩,A30,H⟩ := H
 replace H : (if a1 < 1 then (some (0,t102)) else (if (IntKind.u64.wrap (a1)) = 0 then (none) else (some (wrap64 (Int.tmod t101 (IntKind.u64.wrap (a1))),t102)))) = some (r1,r2) := H
 have A3 := aM_ A30
 clear A30
 by_cases c4 : a1 < 1
 ·rw [if_pos c4] at H
  have c4b0 : decide (a1 < 1) = true := decide_eq_true c4
  clear c4
  simp only [Option.some.injEq,Prod.mk.injEq] at H
  obtain ⟨rfl,rfl⟩ := H
  go_enter Try.func13,Try.ntmps13
  go_wp2_with (first | ((with_reducible refine gate_callee (f := 38) rfl ?_);refine goesL_ (some 7) rfl rfl Try.func38 (by kernel_rfl) rfl #[.pointer (some ⟨g,0,none⟩)] rfl (by (try simp only [List.map_toArray,List.map_cons,List.map_nil]);first | done | rfl) ?_;(with_reducible refine (D_next.calls g s0_0 t101 t102 w0 _ ?side1 ?side2 A3.out).mono ?_);(case side1 => repeat (first | (with_reducible first | exact HI0.out | apply IsS65.alloc | apply IsS65.drewN | apply IsS65.drew | apply IsS65.set_0) | exact HI0.out));(case side2 => repeat (first | (with_reducible first | exact HB.out | apply bA_ | apply bN_ | apply bD_ | refine bS_ ?_ (IsS65.ge HI0.out)) | exact HB.out));rintro e w5 ⟨rfl,hi,hb,hk⟩;refine ⟨_,rfl,?_⟩;have n0_ := aM_ (KeepBut.trans (by repeat (first | (with_reducible first | exact HK.out | apply KeepBut.set_ | apply eN_ | apply eD_ | apply eA_) | exact HK.out)) hk (.inl rfl));have n1_ := aM_ (hb);have n2_ := aM_ (hi);clear HK;clear HB;clear HI0;have HK := n0_;have HB := n1_;have HI0 := n2_;clear n0_ n1_ n2_;(try clear hb);(try clear hb2);(try clear hk);(try clear hi)))
  go_ret
  exact ⟨by first | rfl | (simp [*] <;> rfl),by repeat (first | (with_reducible first | exact HI0.out | apply IsS65.alloc | apply IsS65.drewN | apply IsS65.drew | apply IsS65.set_0) | exact HI0.out),by repeat (first | (with_reducible first | exact HB.out | apply bA_ | apply bN_ | apply bD_ | refine bS_ ?_ (IsS65.ge HI0.out)) | exact HB.out),by repeat (first | (with_reducible first | exact HK.out | apply KeepBut.set_ | apply eN_ | apply eD_ | apply eA_) | exact HK.out)⟩
 ·rw [if_neg c4] at H
  have c4b0 : decide (a1 < 1) = false := decide_eq_false c4
  clear c4
  by_cases c6 : (IntKind.u64.wrap (a1)) = 0
  ·rw [if_pos c6] at H
   exact absurd H (by simp)
  ·rw [if_neg c6] at H
   have c6b0 : ((IntKind.u64.wrap (a1)) == 0) = false := beq_eq_false_iff_ne.mpr c6
   have c6b1 : ((IntKind.u64.wrap (a1)) != 0) = true := bne_iff_ne.mpr c6
   simp only [Option.some.injEq,Prod.mk.injEq] at H
   obtain ⟨rfl,rfl⟩ := H
   go_enter Try.func13,Try.ntmps13
   go_wp2_with (first | ((with_reducible refine gate_callee (f := 38) rfl ?_);refine goesL_ (some 7) rfl rfl Try.func38 (by kernel_rfl) rfl #[.pointer (some ⟨g,0,none⟩)] rfl (by (try simp only [List.map_toArray,List.map_cons,List.map_nil]);first | done | rfl) ?_;(with_reducible refine (D_next.calls g s0_0 t101 t102 w0 _ ?side1 ?side2 A3.out).mono ?_);(case side1 => repeat (first | (with_reducible first | exact HI0.out | apply IsS65.alloc | apply IsS65.drewN | apply IsS65.drew | apply IsS65.set_0) | exact HI0.out));(case side2 => repeat (first | (with_reducible first | exact HB.out | apply bA_ | apply bN_ | apply bD_ | refine bS_ ?_ (IsS65.ge HI0.out)) | exact HB.out));rintro e w7 ⟨rfl,hi,hb,hk⟩;refine ⟨_,rfl,?_⟩;have n0_ := aM_ (KeepBut.trans (by repeat (first | (with_reducible first | exact HK.out | apply KeepBut.set_ | apply eN_ | apply eD_ | apply eA_) | exact HK.out)) hk (.inl rfl));have n1_ := aM_ (hb);have n2_ := aM_ (hi);clear HK;clear HB;clear HI0;have HK := n0_;have HB := n1_;have HI0 := n2_;clear n0_ n1_ n2_;(try clear hb);(try clear hb2);(try clear hk);(try clear hi)))
   go_ret
   exact ⟨by first | rfl | (simp [*] <;> rfl),by repeat (first | (with_reducible first | exact HI0.out | apply IsS65.alloc | apply IsS65.drewN | apply IsS65.drew | apply IsS65.set_0) | exact HI0.out),by repeat (first | (with_reducible first | exact HB.out | apply bA_ | apply bN_ | apply bD_ | refine bS_ ?_ (IsS65.ge HI0.out)) | exact HB.out),by repeat (first | (with_reducible first | exact HK.out | apply KeepBut.set_ | apply eN_ | apply eD_ | apply eA_) | exact HK.out)⟩

end Go.Proofs.Ytdbpobadeibjaab.GE
