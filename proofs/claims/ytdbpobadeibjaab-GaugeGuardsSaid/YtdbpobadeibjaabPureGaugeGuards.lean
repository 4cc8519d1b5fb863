/- GaugeGuards,its plain part: what the printed functions compute answers as the statement says,for every input;no condition beside the statement's own. -/
import Derived.Test.YtdbpobadeibjaabGSx26
import Derived.Test.YtdbpobadeibjaabGSx20
import Derived.Test.YtdbpobadeibjaabGSx22
import Derived.Test.YtdbpobadeibjaabGSx16
import Derived.Test.YtdbpobadeibjaabGSx10
namespace Go.Proofs.Ytdbpobadeibjaab.GS
open Go.RowKit Go.Proofs.YtdbpobadeibjaabW.PrintWords Go.Proofs.YtdbpobadeibjaabW.PrintLast
def Ev {α : Type} (g : Nat → Option α) (r : α) : Prop := ∃ K,∀ k,K ≤ k → g k = some r
theorem Ev.rounds {α : Type} {g : Nat → Option α} {r : α} (h : Ev g r) : ∃ k,g k = some r := by
 obtain ⟨K,hK⟩ := h
 exact ⟨K,hK K (Nat.le_refl _)⟩
theorem Ev.bind {α β : Type} {g : Nat → Option α} {f : Nat → α → Option β} {a : α} {r : β} (h : Ev g a) (k : Ev (fun n => f n a) r) : Ev (fun n => (g n).bind (f n)) r := by
 obtain ⟨K,hK⟩ := h
 obtain ⟨J,hJ⟩ := k
 refine ⟨max K J,fun n hn => ?_⟩
 show (g n).bind (f n) = some r
 rw [hK n (by omega)]
 exact hJ n (by omega)
theorem Ev.step {α : Type} {g f : Nat → Option α} {r : α} (h : ∀ k,g (k + 1) = f k) (k : Ev f r) : Ev g r := by
 obtain ⟨K,hK⟩ := k
 refine ⟨K + 1,fun n hn => ?_⟩
 obtain ⟨m,rfl⟩ : ∃ m,n = m + 1 := ⟨n - 1,by omega⟩
 rw [h m]
 exact hK m (by omega)
theorem Ev.congr {α : Type} {g f : Nat → Option α} {r : α} (h : ∀ k,g k = f k) (k : Ev f r) : Ev g r := by
 obtain ⟨K,hK⟩ := k
 exact ⟨K,fun n hn => (h n).trans (hK n hn)⟩
theorem Ev.pos {α : Type} {c : Prop} [Decidable c] {f g : Nat → Option α} {r : α} (h : c) (k : Ev f r) : Ev (fun n => if c then f n else g n) r := Ev.congr (fun _ => if_pos h) k
theorem Ev.neg {α : Type} {c : Prop} [Decidable c] {f g : Nat → Option α} {r : α} (h : ¬ c) (k : Ev g r) : Ev (fun n => if c then f n else g n) r := Ev.congr (fun _ => if_neg h) k
theorem Ev.call {α β : Type} {x : Option α} {a : α} {f : Nat → α → Option β} {r : β} (h : x = some a) (k : Ev (fun n => f n a) r) : Ev (fun n => x.bind (f n)) r := Ev.congr (fun n => by rw [h];rfl) k
theorem Ev.done {α : Type} {x : Option α} {r : α} (h : x = some r) : Ev (fun _ => x) r := ⟨0,fun _ _ => h⟩
theorem MadeBench.ok {l : List S49} (h : MadeBench l) (h12 : l.length ≤ 12) : BenchOk l := by
 refine ⟨h12,fun x hx => ?_⟩
 obtain ⟨i,hi,rfl⟩ := List.getElem_of_mem hx
 have := h i hi
 unfold rd_T49 at this
 rw [Int.toNat_natCast,List.getD_eq_getElem?_getD,List.getElem?_eq_getElem hi,Option.getD_some] at this
 obtain ⟨a1,a2,a3,a4,a5,a6,a7,a8,a9,a10,a11,a12⟩ := this
 exact ⟨⟨a1,a2,a3,by omega,a5,by omega⟩,a7,by omega,by omega,by omega,a9,by omega⟩
theorem MadeBench.at {l : List S49} (h : MadeBench l) (m : Int) (h0 : 0 ≤ m) (h1 : m < l.length) : MeterIn m (rd_T49 l m) := by
 have := h m.toNat (by omega)
 rw [Int.toNat_of_nonneg h0] at this
 exact this
theorem rangeErr_ok {a b lo hi : Int} (h0 : lo ≤ a) (h1 : a ≤ b) (h2 : b ≤ hi) : rangeErr a b lo hi = 0 := by
 unfold rangeErr
 rw [if_neg (by omega),if_neg (by omega)]
theorem meterErr_ok {n : Int} {x : S49} (h : MeterOk n x) : meterErr n x = 0 := by
 obtain ⟨⟨a1,a2,a3,a4,a5,a6⟩,a7,a8,a9,a10,a11,a12⟩ := h
 have e : makingErr x.f0.f0 x.f0.f1 x.f1.f0 x.f1.f1 = 0 := by
  unfold makingErr
  rw [rangeErr_ok a1 a2 a3,rangeErr_ok a4 a5 a6]
  rfl
 unfold meterErr
 rw [e,if_neg (by decide),if_neg (by omega)]
theorem firstErr_ok {n : Int} : ∀ {l : List S49},(∀ x ∈ l,MeterOk n x) → firstErr n l = 0
 | [],_ => rfl
 | x :: l,h => by
  unfold firstErr
  rw [meterErr_ok (h x (by simp)),if_neg (by decide)]
  exact firstErr_ok fun y hy => h y (by simp [hy])
def Down_ (l : List S49) : Prop := ∀ m : Int,0 ≤ m → m < l.length → -1 ≤ (rd_T49 l m).f3 ∧ (rd_T49 l m).f3 < m
theorem MadeBench.down {l : List S49} (h : MadeBench l) : Down_ l := fun m h0 h1 => by
 obtain ⟨_,_,_,_,_,_,_,_,a9,a10,_,_⟩ := h.at m h0 h1
 exact ⟨a9,a10⟩
theorem chainGo_neg (l : List S49) (n : Nat) (m : Int) (h : m < 0) : chainGo l n m = [] := by
 cases n with
 | zero => rfl
 | succ n => rw [chainGo,if_pos h]
theorem chainGo_ends {l : List S49} (hd : Down_ l) : ∀ (n : Nat) (m : Int) (d : Int),0 ≤ m → m < l.length → m < n → (rd_T49 l ((chainGo l n m).getLastD d)).f3 = -1 := by
 intro n
 induction n with
 | zero => intro m d h0 _ h2;omega
 | succ n ih =>
  intro m d h0 h1 h2
  rw [chainGo,if_neg (by omega),List.getLastD_cons]
  obtain ⟨b0,b1⟩ := hd m h0 h1
  by_cases hb : (rd_T49 l m).f3 < 0
  ·rw [chainGo_neg l n _ hb]
   show (rd_T49 l m).f3 = -1
   omega
  ·exact ih _ m (by omega) (by omega) (by omega)
theorem looseFrom_ok {l : List S49} (h : ∀ i : Nat,i < l.length → endsP l i) : ∀ n i : Nat,i + n = l.length → looseFrom l n i = 0
 | 0,_,_ => rfl
 | n + 1,i,hi => by
  unfold looseFrom
  rw [if_pos (h i (by omega))]
  exact looseFrom_ok h n (i + 1) (by omega)
theorem checkP_ok {l : List S49} (h : BenchOk l) (hd : Down_ l) : checkP l = 0 := by
 unfold checkP
 rw [if_neg (by have := h.1;omega),firstErr_ok h.2,if_neg (by decide)]
 refine looseFrom_ok (fun i hi => ?_) _ 0 (by omega)
 unfold endsP chainL
 exact chainGo_ends hd _ _ _ (by omega) (by omega) (by omega)
theorem refChain_l {l : List S49} (hd : Down_ l) (h12 : l.length ≤ 12) : ∀ (d : Nat) (m : Int) (pre : List Int),m < l.length → m + 1 ≤ d → (pre.length : Int) + m + 1 ≤ l.length → -1 ≤ m →
  Ev (fun k => R_chain.l0 k l m pre) (pre ++ chainGo l d m,true) := by
 intro d
 induction d with
 | zero =>
  intro m pre h0 h1 h2 h3
  refine Ev.step (fun k => by rw [R_chain.l0]) ?_
  refine Ev.neg (by omega) (Ev.done ?_)
  rw [chainGo_neg l _ m (by omega),List.append_nil,decide_eq_true (by omega)]
 | succ d ih =>
  intro m pre h0 h1 h2 h3
  refine Ev.step (fun k => by rw [R_chain.l0]) ?_
  by_cases hm : m < 0
  ·refine Ev.neg (by omega) (Ev.done ?_)
   rw [chainGo_neg l _ m hm,List.append_nil,decide_eq_true hm]
  ·obtain ⟨b0,b1⟩ := hd m (by omega) h0
   refine Ev.pos (by omega) (Ev.pos (by omega) (Ev.pos (by omega) (Ev.pos (by omega) (Ev.pos h0 ?_))))
   have := ih (rd_T49 l m).f3 (pre ++ [m]) (by omega) (by omega) (by simp;omega) (by omega)
   rw [List.append_assoc] at this
   rw [chainGo,if_neg hm]
   exact this
theorem refChain_ev {l : List S49} (hd : Down_ l) (h12 : l.length ≤ 12) (m : Int) (m1 : m < l.length) (m0 : -1 ≤ m) : Ev (fun k => R_chain.f k l m) (chainL l m,true) := by
 have := refChain_l hd h12 l.length m [] m1 (by omega) (by simp;omega) m0
 rw [List.nil_append] at this
 exact this
theorem beyond_true {n lo hi : Int} (h : n < lo ∨ n > hi) : R_beyond.f n lo hi = some true := by
 unfold R_beyond.f
 by_cases c : n < lo
 ·rw [if_pos c]
 ·rw [if_neg c,decide_eq_true (by omega)]
theorem beyond_false {n lo hi : Int} (h : lo ≤ n ∧ n ≤ hi) : R_beyond.f n lo hi = some false := by
 unfold R_beyond.f
 rw [if_neg (by omega),decide_eq_false (by omega)]
def afterGo (l : List S49) : Nat → Int → Int
 | 0,m => m
 | k + 1,m => if m < 0 then m else afterGo l k (rd_T49 l m).f3
theorem afterGo_neg (l : List S49) (k : Nat) (m : Int) (h : m < 0) : afterGo l k m = m := by
 cases k with
 | zero => rfl
 | succ k => rw [afterGo,if_pos h]
theorem afterGo_mono (l : List S49) : ∀ (k : Nat) (m : Int),afterGo l k m < 0 → ∀ j,k ≤ j → afterGo l j m < 0 := by
 intro k
 induction k with
 | zero => intro m h j _;rw [afterGo_neg l j m h];exact h
 | succ k ih =>
  intro m h j hj
  obtain ⟨j,rfl⟩ : ∃ i,j = i + 1 := ⟨j - 1,by omega⟩
  rw [afterGo] at h ⊢
  by_cases hm : m < 0
  ·rw [if_pos hm];exact hm
  ·rw [if_neg hm] at h ⊢
   exact ih _ h j (by omega)
theorem bound_nodup : ∀ (n : Nat) (c : List Int),c.Nodup → (∀ x ∈ c,0 ≤ x ∧ x < n) → c.length ≤ n := by
 intro n
 induction n with
 | zero =>
  intro c _ h
  cases c with
  | nil => exact Nat.le_refl _
  | cons x c => have := h x (by simp);omega
 | succ n ih =>
  intro c hn h
  by_cases hm : (n : Int) ∈ c
  ·have h1 := ih (c.erase (n : Int)) (hn.erase _) (fun x hx => by
    rw [hn.mem_erase_iff] at hx
    have := h x hx.2
    have := hx.1
    omega)
   rw [List.length_erase_of_mem hm] at h1
   omega
  ·have := ih c hn (fun x hx => by
    have := h x hx
    have : x ≠ n := fun e => hm (e ▸ hx)
    omega)
   omega
theorem depth_list {l : List S49} (hb : ∀ m : Int,0 ≤ m → m < l.length → (rd_T49 l m).f3 < l.length) : ∀ (d : Nat) (m : Int),m < l.length → afterGo l d m < 0 → (∀ j,j < d → ¬ afterGo l j m < 0) →
  ∃ c : List Int,c.length = d ∧ c.Nodup ∧ ∀ x ∈ c,(0 ≤ x ∧ x < l.length) ∧ afterGo l d x < 0 := by
 intro d
 induction d with
 | zero => intro m _ _ _;exact ⟨[],rfl,List.nodup_nil,fun x hx => by cases hx⟩
 | succ d ih =>
  intro m hm h hj
  have m0 : ¬ m < 0 := hj 0 (by omega)
  have h' := h
  rw [afterGo,if_neg m0] at h
  obtain ⟨c,hc,hn,hx⟩ := ih (rd_T49 l m).f3 (hb m (by omega) hm) h (fun j hjd => by
   have := hj (j + 1) (by omega)
   rw [afterGo,if_neg m0] at this
   exact this)
  refine ⟨m :: c,by simp [hc],List.nodup_cons.2 ⟨fun hmc => hj d (by omega) (hx m hmc).2,hn⟩,fun x hxm => ?_⟩
  rcases List.mem_cons.1 hxm with rfl | hxc
  ·exact ⟨⟨by omega,hm⟩,h'⟩
  ·exact ⟨(hx x hxc).1,afterGo_mono l d x (hx x hxc).2 _ (by omega)⟩
theorem afterGo_enough {l : List S49} (hb : ∀ m : Int,0 ≤ m → m < l.length → (rd_T49 l m).f3 < l.length) (m : Int) (hm : m < l.length) : ∀ k : Nat,afterGo l k m < 0 → afterGo l l.length m < 0 := by
 intro k
 induction k using Nat.strongRecOn with
 | _ k ih =>
  intro h
  by_cases hex : ∃ j,j < k ∧ afterGo l j m < 0
  ·obtain ⟨j,hj,h'⟩ := hex
   exact ih j hj h'
  ·obtain ⟨c,hc,hn,hx⟩ := depth_list hb k m hm h (fun j hj h' => hex ⟨j,hj,h'⟩)
   have := bound_nodup l.length c hn (fun x hxc => (hx x hxc).1)
   exact afterGo_mono l k m h _ (by omega)
theorem last_after {l : List S49} : ∀ (n : Nat) (m d : Int),0 ≤ m → ((rd_T49 l ((chainGo l (n + 1) m).getLastD d)).f3 < 0 ↔ afterGo l (n + 1) m < 0) := by
 intro n
 induction n with
 | zero =>
  intro m d h0
  rw [chainGo,if_neg (by omega),afterGo,if_neg (by omega)]
  exact Iff.rfl
 | succ n ih =>
  intro m d h0
  rw [chainGo,if_neg (by omega),afterGo,if_neg (by omega),List.getLastD_cons]
  by_cases hb : (rd_T49 l m).f3 < 0
  ·rw [chainGo_neg l _ _ hb,afterGo_neg l _ _ hb]
   exact Iff.rfl
  ·exact ih _ _ (by omega)
theorem endsP_after {l : List S49} (hb : ∀ m : Int,0 ≤ m → m < l.length → -1 ≤ (rd_T49 l m).f3 ∧ (rd_T49 l m).f3 < l.length) (i : Int) (h0 : 0 ≤ i) (h1 : i < l.length) : endsP l i ↔ afterGo l (l.length + 1) i < 0 := by
 have e : endsP l i ↔ (rd_T49 l ((chainL l i).getLastD i)).f3 < 0 := by
  unfold endsP
  have hmem : 0 ≤ (chainL l i).getLastD i ∧ (chainL l i).getLastD i < l.length := by
   have hall : ∀ x ∈ i :: chainL l i,0 ≤ x ∧ x < (l.length : Int) := by
    intro x hx
    rcases List.mem_cons.1 hx with rfl | hx
    ·exact ⟨h0,h1⟩
    ·have go : ∀ (n : Nat) (m : Int),m < l.length → ∀ x ∈ chainGo l n m,0 ≤ x ∧ x < (l.length : Int) := by
      intro n
      induction n with
      | zero => intro m _ x hx;cases hx
      | succ n ih =>
       intro m hm x hx
       rw [chainGo] at hx
       split at hx
       ·cases hx
       ·rcases List.mem_cons.1 hx with rfl | hx
        ·exact ⟨by omega,hm⟩
        ·exact ih _ (hb m (by omega) hm).2 x hx
     exact go _ _ h1 x hx
   exact hall _ (getLastD_mem i (chainL l i))
  have := hb _ hmem.1 hmem.2
  omega
 rw [e]
 unfold chainL
 obtain ⟨n,hn⟩ : ∃ n,l.length = n + 1 := ⟨l.length - 1,by omega⟩
 have h2 := last_after (l := l) n i i h0
 rw [← hn] at h2
 rw [h2]
 exact ⟨fun h => afterGo_mono l _ _ h _ (by omega),afterGo_enough (fun m a b => (hb m a b).2) i h1 _⟩
theorem refChain_any {l : List S49} (hb : ∀ m : Int,0 ≤ m → m < l.length → -1 ≤ (rd_T49 l m).f3 ∧ (rd_T49 l m).f3 < l.length) (h20 : l.length ≤ 20) : ∀ (d : Nat) (m : Int) (pre : List Int),m < l.length → pre.length + d = l.length + 1 →
  ∃ c,Ev (fun k => R_chain.l0 k l m pre) (c,decide (afterGo l d m < 0)) := by
 intro d
 induction d with
 | zero =>
  intro m pre h0 h1
  by_cases hm : m < 0
  ·refine ⟨pre,Ev.step (fun k => by rw [R_chain.l0]) ?_⟩
   exact Ev.neg (by omega) (Ev.done (by rw [afterGo]))
  ·refine ⟨pre,Ev.step (fun k => by rw [R_chain.l0]) ?_⟩
   exact Ev.pos (by omega) (Ev.neg (by omega) (Ev.done (by rw [afterGo])))
 | succ d ih =>
  intro m pre h0 h1
  by_cases hm : m < 0
  ·refine ⟨pre,Ev.step (fun k => by rw [R_chain.l0]) ?_⟩
   exact Ev.neg (by omega) (Ev.done (by rw [afterGo,if_pos hm]))
  ·obtain ⟨b0,b1⟩ := hb m (by omega) h0
   obtain ⟨c,hc⟩ := ih (rd_T49 l m).f3 (pre ++ [m]) b1 (by simp;omega)
   refine ⟨c,Ev.step (fun k => by rw [R_chain.l0]) ?_⟩
   rw [afterGo,if_neg hm]
   exact Ev.pos (by omega) (Ev.pos (by omega) (Ev.pos (by omega) (Ev.pos (by omega) (Ev.pos h0 hc))))
theorem refRange_ev (a b lo hi : Int) : Ev (fun k => R_checkRange.f k a b lo hi) (rangeErr a b lo hi) := by
 unfold R_checkRange.f rangeErr
 by_cases h1 : lo ≤ a ∧ a ≤ hi
 ·refine Ev.call (beyond_false h1) (Ev.neg (by decide) ?_)
  by_cases h2 : lo ≤ b ∧ b ≤ hi
  ·refine Ev.call (beyond_false h2) ?_
   rw [if_neg (by omega)]
   refine Ev.step (fun k => by rw [R_checkRange.j0]) (Ev.neg (by decide) ?_)
   by_cases h3 : a > b
   ·exact Ev.pos h3 (Ev.done (by rw [if_pos h3]))
   ·exact Ev.neg h3 (Ev.done (by rw [if_neg h3]))
  ·refine Ev.call (beyond_true (by omega)) ?_
   rw [if_pos (by omega)]
   exact Ev.step (fun k => by rw [R_checkRange.j0]) (Ev.pos rfl (Ev.done rfl))
 ·refine Ev.call (beyond_true (by omega)) (Ev.pos rfl ?_)
  rw [if_pos (by omega)]
  exact Ev.step (fun k => by rw [R_checkRange.j0]) (Ev.pos rfl (Ev.done rfl))
theorem refMaking_ev (a b c d e f g : Int) : Ev (fun k => R_checkMaking.f k a b c d e f g) (makingErr a b c d) := by
 unfold R_checkMaking.f makingErr
 refine Ev.bind (refRange_ev a b 500000 2000000) ?_
 by_cases h : rangeErr a b 500000 2000000 = 0
 ·rw [if_neg (by omega)]
  exact Ev.pos h (Ev.bind (refRange_ev c d (-1000000) 1000000) (Ev.done rfl))
 ·rw [if_pos h]
  exact Ev.neg h (Ev.done rfl)
theorem firstErr_drop (n : Int) (l : List S49) (k : Nat) (h : k < l.length) : firstErr n (l.drop k) = if meterErr n (rd_T49 l k) ≠ 0 then meterErr n (rd_T49 l k) else firstErr n (l.drop (k + 1)) := by
 rw [drop_at l k h,firstErr]
theorem refCheck_ev (l : List S49) (h20 : l.length ≤ 20) : Ev (fun k => R_Check.f k l) (checkP l) := by
 unfold R_Check.f checkP
 by_cases h12 : 12 < l.length
 ·rw [if_pos h12]
  exact Ev.pos (by omega) (Ev.done rfl)
 rw [if_neg h12]
 refine Ev.neg (by omega) ?_
 have loose : (∀ x ∈ l,MeterOk l.length x) → ∀ (d i : Nat),i + d = l.length → Ev (fun k => R_Check.l1 k l i) (looseFrom l d i) := by
  intro hok d
  have hb : ∀ m : Int,0 ≤ m → m < l.length → -1 ≤ (rd_T49 l m).f3 ∧ (rd_T49 l m).f3 < l.length := fun m m0 m1 => by
   obtain ⟨_,_,_,_,_,a11,a12⟩ := BenchOk.at ⟨by omega,hok⟩ m m0 m1
   exact ⟨a11,a12⟩
  induction d with
  | zero =>
   intro i hi
   refine Ev.step (fun k => by rw [R_Check.l1]) ?_
   exact Ev.neg (by omega) (Ev.done rfl)
  | succ d ih =>
   intro i hi
   refine Ev.step (fun k => by rw [R_Check.l1]) (Ev.pos (by omega) ?_)
   obtain ⟨c,hc⟩ := refChain_any hb h20 (l.length + 1) i [] (by omega) (by simp)
   have hc' : Ev (fun k => R_chain.f k l i) (c,decide (afterGo l (l.length + 1) i < 0)) := hc
   refine Ev.bind hc' ?_
   have he := endsP_after hb i (by omega) (by omega)
   rw [looseFrom]
   by_cases h : endsP l i
   ·rw [if_pos h,decide_eq_true (he.1 h)]
    refine Ev.pos rfl ?_
    rw [wrap64_eq (by omega)]
    exact ih (i + 1) (by omega)
   ·rw [if_neg h,decide_eq_false (fun h' => h (he.2 h'))]
    exact Ev.neg (by simp) (Ev.done rfl)
 have go : ∀ (d i : Nat),i + d = l.length → (∀ j,j < i → meterErr l.length (rd_T49 l j) = 0) → Ev (fun k => R_Check.l0 k l i) (if firstErr l.length (l.drop i) ≠ 0 then firstErr l.length (l.drop i) else looseFrom l l.length 0) := by
  intro d
  induction d with
  | zero =>
   intro i hi hall
   refine Ev.step (fun k => by rw [R_Check.l0]) (Ev.neg (by omega) ?_)
   rw [List.drop_of_length_le (by omega)]
   rw [if_neg (by simp [firstErr])]
   have hok : ∀ x ∈ l,MeterOk l.length x := fun x hx => by
    obtain ⟨j,hj,rfl⟩ := List.getElem_of_mem hx
    have := meterErr_zero (hall j (by omega))
    unfold rd_T49 at this
    rw [Int.toNat_natCast,List.getD_eq_getElem?_getD,List.getElem?_eq_getElem hj] at this
    exact this
   exact loose hok l.length 0 (by omega)
  | succ d ih =>
   intro i hi hall
   refine Ev.step (fun k => by rw [R_Check.l0]) (Ev.pos (by omega) (Ev.pos (by omega) ?_))
   rw [firstErr_drop _ l i (by omega),wrap64_eq (n := (l.length : Int) - 1) (by omega),wrap64_eq (n := (i : Int) + 1) (by omega)]
   refine Ev.bind (refMaking_ev _ _ _ _ _ _ _) ?_
   obtain ⟨x,hx⟩ : ∃ x,x = rd_T49 l i := ⟨_,rfl⟩
   rw [← hx]
   have hnext : meterErr l.length x = 0 → Ev (fun k => R_Check.l0 k l ((i : Int) + 1)) (if firstErr l.length (l.drop (i + 1)) ≠ 0 then firstErr l.length (l.drop (i + 1)) else looseFrom l l.length 0) := fun h0 => ih (i + 1) (by omega) (fun j hj => by
    by_cases e : j = i
    ·subst e;rw [← hx];exact h0
    ·exact hall j (by omega))
   by_cases h1 : makingErr x.f0.f0 x.f0.f1 x.f1.f0 x.f1.f1 = 0
   ·refine Ev.pos h1 ?_
    have e : meterErr l.length x = if x.f2 < 1 ∨ x.f2 > 1000000 ∨ x.f4 < 0 ∨ x.f4 > 1000000000 ∨ x.f3 < -1 ∨ x.f3 > (l.length : Int) - 1 then 2 else 0 := by unfold meterErr;rw [if_neg (by omega)]
    by_cases h2 : 1 ≤ x.f2 ∧ x.f2 ≤ 1000000
    ·refine Ev.call (beyond_false h2) (Ev.neg (by decide) ?_)
     by_cases h3 : 0 ≤ x.f4 ∧ x.f4 ≤ 1000000000
     ·refine Ev.call (beyond_false h3) (Ev.neg (by decide) ?_)
      by_cases h4 : -1 ≤ x.f3 ∧ x.f3 ≤ (l.length : Int) - 1
      ·refine Ev.call (beyond_false h4) (Ev.neg (by decide) ?_)
       rw [if_neg (by omega)] at e
       have h5 : ¬ (if meterErr l.length x ≠ 0 then meterErr l.length x else firstErr l.length (l.drop (i + 1))) ≠ (if meterErr l.length x ≠ 0 then meterErr l.length x else firstErr l.length (l.drop (i + 1))) := by simp
       simp only [e,ne_eq,not_true_eq_false,if_false]
       exact hnext e
      ·rw [if_pos (by omega)] at e
       refine Ev.call (beyond_true (by omega)) (Ev.pos rfl (Ev.done ?_))
       simp [e]
     ·rw [if_pos (by omega)] at e
      refine Ev.call (beyond_true (by omega)) (Ev.pos rfl (Ev.done ?_))
      simp [e]
    ·rw [if_pos (by omega)] at e
     refine Ev.call (beyond_true (by omega)) (Ev.pos rfl (Ev.done ?_))
     simp [e]
   ·refine Ev.neg h1 (Ev.done ?_)
    have e : meterErr l.length x = makingErr x.f0.f0 x.f0.f1 x.f1.f0 x.f1.f1 := by unfold meterErr;rw [if_pos h1]
    rw [e]
    simp [h1]
 have := go l.length 0 (by omega) (fun j hj => by omega)
 rw [List.drop_zero] at this
 exact this
def hiK (l : List S49) (k x : Int) : Int := hiEnd (rd_T49 l k).f0.f0 (rd_T49 l k).f0.f1 (rd_T49 l k).f1.f1 x
def loK (l : List S49) (k x : Int) : Int := loEnd (rd_T49 l k).f0.f0 (rd_T49 l k).f0.f1 (rd_T49 l k).f1.f0 x
def SeenBy (l : List S49) : List Int → Int → Int → Prop
 | [],x,y => y = x
 | k :: c,x,y => ∃ z,SeenBy l c x z ∧ loK l k z ≤ y ∧ y ≤ hiK l k z
theorem seen_source {l : List S49} (hb : BenchOk l) : ∀ (c : List Int) (x y : Int) (s : Int × Int × Bool),(∀ k ∈ c,0 ≤ k ∧ k < (l.length : Int)) → SeenBy l c x y → s.1 ≤ y → y ≤ s.2.1 → s.2.2 = true →
  (srcFold l c s).1 ≤ x ∧ x ≤ (srcFold l c s).2.1 ∧ (srcFold l c s).2.2 = true := by
 intro c
 induction c with
 | nil => intro x y s _ h h1 h2 h3;cases h;exact ⟨h1,h2,h3⟩
 | cons k c ih =>
  intro x y s hc h h1 h2 h3
  obtain ⟨z,hz,z0,z1⟩ := h
  obtain ⟨k0,k1⟩ := hc k (by simp)
  obtain ⟨hm,_⟩ := hb.at k k0 k1
  unfold loK at z0
  unfold hiK at z1
  have a1 := (backLo_iff hm s.1 z).1 (by omega)
  have a2 : ¬ (backHi (rd_T49 l k).f0.f0 (rd_T49 l k).f0.f1 (rd_T49 l k).f1.f0 s.2.1 + 1 ≤ z) := fun h => by
   have := (backHi_iff hm s.2.1 z).2 h
   omega
  refine ih x z (srcStep l s k) (fun q hq => hc q (by simp [hq])) hz a1 ?_ ?_
  ·show z ≤ backHi (rd_T49 l k).f0.f0 (rd_T49 l k).f0.f1 (rd_T49 l k).f1.f0 s.2.1
   omega
  ·show (s.2.2 && decide (backLo _ _ _ s.1 ≤ backHi _ _ _ s.2.1)) = true
   rw [h3,decide_eq_true (by omega)]
   rfl
theorem refDown_eq {n d : Int} (hd : 0 < d) (h : -9223372036854775808 ≤ n ∧ n ≤ 9223372036854775807) : R_Down.f n d = some (n / d) := by
 have e := tdown (n := n) hd
 have b := tdiv_bound hd h
 unfold R_Down.f
 rw [if_neg (by omega)]
 by_cases c : Int.tmod n d < 0
 ·rw [if_pos c] at e ⊢
  rw [wrap64_eq (n := Int.tdiv n d) ⟨b.1,b.2.1⟩,wrap64_eq ⟨b.2.2 c,by omega⟩,e]
 ·rw [if_neg c] at e ⊢
  rw [wrap64_eq ⟨b.1,b.2.1⟩,e]
theorem refMade_eq {a0 a1 a2 a3 : Int} (a4 a5 a6 : Int) {x : Int} (h : meterOk a0 a1 a2 a3) (x0 : -4398046511104 ≤ x) (x1 : x ≤ 4398046511104) : R_Made.f a0 a1 a2 a3 a4 a5 a6 x = some (loEnd a0 a1 a2 x,hiEnd a0 a1 a3 x) := by
 obtain ⟨g0,g1,g2,o0,o1,o2⟩ := h
 have m0 := mul_within x0 x1 (show 0 ≤ a0 by omega) (show a0 ≤ 2000000 by omega) (by omega)
 have m1 := mul_within x0 x1 (show 0 ≤ a1 by omega) (show a1 ≤ 2000000 by omega) (by omega)
 unfold R_Made.f R_Up.f loEnd hiEnd
 by_cases hx : x < 0
 ·have hle : x * a1 ≤ x * a0 := Int.mul_le_mul_of_nonpos_left (show x ≤ 0 by omega) g1
  rw [if_pos hx,wrap64_eq (n := x * a1) (by omega),wrap64_eq (n := x * a0) (by omega),wrap64_eq (n := -(x * a0)) (by omega),refDown_eq (by omega) (by omega),refDown_eq (by omega) (by omega)]
  simp only [Option.bind_some]
  rw [wrap64_eq (n := -(-(x * a0) / 1000000)) (by omega),wrap64_eq (n := x * a1 / 1000000 + a2) (by omega),wrap64_eq (by omega),Int.min_eq_right hle,Int.max_eq_left hle]
 ·have hle : x * a0 ≤ x * a1 := Int.mul_le_mul_of_nonneg_left g1 (by omega)
  rw [if_neg hx,wrap64_eq (n := x * a0) (by omega),wrap64_eq (n := x * a1) (by omega),wrap64_eq (n := -(x * a1)) (by omega),refDown_eq (by omega) (by omega),refDown_eq (by omega) (by omega)]
  simp only [Option.bind_some]
  rw [wrap64_eq (n := -(-(x * a1) / 1000000)) (by omega),wrap64_eq (n := x * a0 / 1000000 + a2) (by omega),wrap64_eq (by omega),Int.min_eq_left hle,Int.max_eq_right hle]
theorem ends_bound {a0 a1 a2 a3 x B : Int} (h : meterOk a0 a1 a2 a3) (x0 : -B ≤ x) (x1 : x ≤ B) : -(2 * B + 1000001) ≤ loEnd a0 a1 a2 x ∧ loEnd a0 a1 a2 x ≤ hiEnd a0 a1 a3 x ∧ hiEnd a0 a1 a3 x ≤ 2 * B + 1000001 := by
 obtain ⟨g0,g1,g2,o0,o1,o2⟩ := h
 have m0 := mul_within x0 x1 (show 0 ≤ a0 by omega) (show a0 ≤ 2000000 by omega) (by omega)
 have m1 := mul_within x0 x1 (show 0 ≤ a1 by omega) (show a1 ≤ 2000000 by omega) (by omega)
 unfold loEnd hiEnd
 omega
def seenBd (B : Int) : Nat → Int
 | 0 => B
 | n + 1 => 2 * seenBd B n + 1000001
theorem seenBd_mono {B : Int} (h : 0 ≤ B) : ∀ n k : Nat,n ≤ k → 0 ≤ seenBd B n ∧ seenBd B n ≤ seenBd B k := by
 intro n k hk
 have pos : ∀ n,0 ≤ seenBd B n := by
  intro n
  induction n with
  | zero => exact h
  | succ n ih => unfold seenBd;omega
 obtain ⟨d,rfl⟩ := Nat.exists_eq_add_of_le hk
 clear hk
 refine ⟨pos n,?_⟩
 induction d with
 | zero => exact Int.le_refl _
 | succ d ih =>
  have := pos (n + d)
  show seenBd B n ≤ 2 * seenBd B (n + d) + 1000001
  omega
theorem one_some (s : Int) : ∃ b s',D_One.f s 2 = some (b,s') := by
 obtain ⟨v,s',e,_,_⟩ := upto_some s 2 (by omega) (by omega)
 unfold D_One.f
 rw [e]
 exact ⟨_,_,rfl⟩
theorem showing_l {l : List S49} (hb : BenchOk l) {m x : Int} (m0 : 0 ≤ m) (m1 : m < l.length) (hst : 1 ≤ (rd_T49 l m).f2 ∧ (rd_T49 l m).f2 ≤ 1000) (c : List Int) (hcl : c.length ≤ 12) (hc : ∀ k ∈ c,0 ≤ k ∧ k < (l.length : Int)) (st : Int) (st0 : 0 ≤ st) (st1 : st < 3) (B : Int) (B0 : 0 ≤ B) (hB : seenBd B c.length ≤ 1000000000000) :
  ∀ (j : Nat) (z s : Int),j ≤ c.length → SeenBy l (c.drop j) x z → -(seenBd B (c.length - j)) ≤ z → z ≤ seenBd B (c.length - j) →
  ∃ n s' y,Ev (fun k => K_Showing.l0 k l m z c st ((j : Int) - 1) s) (n,s') ∧ SeenBy l c x y ∧ -(seenBd B c.length) ≤ y ∧ y ≤ seenBd B c.length ∧ Int.tmod n (rd_T49 l m).f2 = 0 ∧ 2 * (n - y) ≤ (rd_T49 l m).f2 ∧ 2 * (y - n) ≤ (rd_T49 l m).f2 := by
 intro j
 induction j with
 | zero =>
  intro z s _ hz z0 z1
  rw [Nat.sub_zero] at z0 z1
  rw [List.drop_zero] at hz
  obtain ⟨d,hd⟩ : ∃ d,d = (rd_T49 l m).f2 := ⟨_,rfl⟩
  rw [← hd] at hst ⊢
  have dm := Int.mul_ediv_add_emod z d
  have e0 := Int.emod_nonneg z (show d ≠ 0 by omega)
  have e1 := Int.emod_lt_of_pos z (show 0 < d by omega)
  rw [Int.mul_comm] at dm
  obtain ⟨q,hq⟩ : ∃ q,q = z / d * d := ⟨_,rfl⟩
  have tm0 : Int.tmod q d = 0 := by rw [hq];exact Int.mul_tmod_left _ _
  have tm1 : Int.tmod (q + d) d = 0 := by
   rw [hq,show z / d * d + d = (z / d + 1) * d by rw [Int.add_mul,Int.one_mul]]
   exact Int.mul_tmod_left _ _
  have step : ∀ {n s'},Ev (fun k => if (2 * (z - q)) > d then some (q + d,s) else if 2 * (z - q) = d then (D_One.f s 2).bind fun bt => (if bt.1 = true then some (q + d,bt.2) else some (q,bt.2)) else some (q,s)) (n,s') →
    Ev (fun k => K_Showing.l0 k l m z c st (((0 : Nat) : Int) - 1) s) (n,s') := by
   intro n s' h
   refine Ev.step (fun k => by rw [K_Showing.l0]) ?_
   refine Ev.neg (by omega) (Ev.pos m0 (Ev.pos m1 ?_))
   rw [← hd]
   refine Ev.call (refDown_eq (by omega) (by omega)) ?_
   rw [← hq,wrap64_eq (n := q) (by omega),wrap64_eq (n := z - q) (by omega),wrap64_eq (n := 2 * (z - q)) (by omega),wrap64_eq (n := q + d) (by omega)]
   exact h
  by_cases h1 : 2 * (z - q) > d
  ·exact ⟨q + d,s,z,step (Ev.pos h1 (Ev.done rfl)),hz,z0,z1,tm1,by omega,by omega⟩
  ·by_cases h2 : 2 * (z - q) = d
   ·obtain ⟨b,s1,e⟩ := one_some s
    cases b with
    | true => exact ⟨q + d,s1,z,step (Ev.neg h1 (Ev.pos h2 (Ev.call e (Ev.pos rfl (Ev.done rfl))))),hz,z0,z1,tm1,by omega,by omega⟩
    | false => exact ⟨q,s1,z,step (Ev.neg h1 (Ev.pos h2 (Ev.call e (Ev.neg (by simp) (Ev.done rfl))))),hz,z0,z1,tm0,by omega,by omega⟩
   ·exact ⟨q,s,z,step (Ev.neg h1 (Ev.neg h2 (Ev.done rfl))),hz,z0,z1,tm0,by omega,by omega⟩
 | succ j ih =>
  intro z s hj hz z0 z1
  obtain ⟨k,hk⟩ : ∃ k,k = rd c j := ⟨_,rfl⟩
  have hkc : c.drop j = k :: c.drop (j + 1) := by
   rw [List.drop_eq_getElem_cons (by omega),hk]
   unfold rd
   rw [Int.toNat_natCast,List.getD_eq_getElem?_getD,List.getElem?_eq_getElem (by omega),Option.getD_some]
  have hmem : k ∈ c := List.mem_of_mem_drop (by rw [hkc];simp : k ∈ c.drop j)
  obtain ⟨k0,k1⟩ := hc k hmem
  obtain ⟨hm,_⟩ := hb.at k k0 k1
  have bm := seenBd_mono B0 (c.length - (j + 1)) c.length (by omega)
  have be := ends_bound hm z0 z1
  have hbd : seenBd B (c.length - j) = 2 * seenBd B (c.length - (j + 1)) + 1000001 := by
   rw [show c.length - j = (c.length - (j + 1)) + 1 by omega];rfl
  have bm2 := seenBd_mono B0 (c.length - j) c.length (by omega)
  obtain ⟨v,s1,ev,v0,v1⟩ := between_some s (loEnd (rd_T49 l k).f0.f0 (rd_T49 l k).f0.f1 (rd_T49 l k).f1.f0 z) (hiEnd (rd_T49 l k).f0.f0 (rd_T49 l k).f0.f1 (rd_T49 l k).f1.f1 z) be.2.1 (by omega) (by omega)
  obtain ⟨u,hu,u0,u1⟩ : ∃ u,rd [loEnd (rd_T49 l k).f0.f0 (rd_T49 l k).f0.f1 (rd_T49 l k).f1.f0 z,hiEnd (rd_T49 l k).f0.f0 (rd_T49 l k).f0.f1 (rd_T49 l k).f1.f1 z,v] st = u ∧ loEnd (rd_T49 l k).f0.f0 (rd_T49 l k).f0.f1 (rd_T49 l k).f1.f0 z ≤ u ∧ u ≤ hiEnd (rd_T49 l k).f0.f0 (rd_T49 l k).f0.f1 (rd_T49 l k).f1.f1 z := by
   refine ⟨_,rfl,?_⟩
   rcases rd3 (loEnd (rd_T49 l k).f0.f0 (rd_T49 l k).f0.f1 (rd_T49 l k).f1.f0 z) (hiEnd (rd_T49 l k).f0.f0 (rd_T49 l k).f0.f1 (rd_T49 l k).f1.f1 z) v st st0 st1 with h | h | h <;> omega
  obtain ⟨n,s',y,hE,hrest⟩ := ih u s1 (by omega) (by rw [hkc];exact ⟨z,hz,u0,u1⟩) (by omega) (by omega)
  refine ⟨n,s',y,?_,hrest⟩
  refine Ev.step (fun k => by rw [K_Showing.l0]) ?_
  rw [show (((j + 1 : Nat) : Int) - 1) = (j : Int) by omega,← hk]
  refine Ev.pos (by omega) (Ev.pos (by omega) (Ev.pos (by omega) (Ev.pos k0 (Ev.pos k1 ?_))))
  refine Ev.call (refMade_eq _ _ _ hm (by omega) (by omega)) ?_
  have ein : D_In.f s (loEnd (rd_T49 l k).f0.f0 (rd_T49 l k).f0.f1 (rd_T49 l k).f1.f0 z) (hiEnd (rd_T49 l k).f0.f0 (rd_T49 l k).f0.f1 (rd_T49 l k).f1.f1 z) = some (v,s1) := by
   unfold D_In.f
   rw [mx_eq,Int.max_eq_right be.2.1,ev]
   rfl
  refine Ev.call ein (Ev.call rfl ?_)
  refine Ev.pos st0 (Ev.pos (by simp;omega) ?_)
  rw [hu,wrap64_eq (n := (j : Int) - 1) (by omega)]
  exact hE
theorem refChainL_ev {l : List S49} (hb : BenchOk l) (hd : Down_ l) (m : Int) (m0 : 0 ≤ m) (m1 : m < l.length) : Ev (fun k => R_Chain.f k l m) (chainL l m) := by
 unfold R_Chain.f
 have h12 := hb.1
 have h := refCheck_ev l (by omega)
 rw [checkP_ok hb hd] at h
 refine Ev.bind h (Ev.pos rfl ?_)
 rw [wrap64_eq (by omega)]
 exact Ev.call (beyond_false ⟨m0,by omega⟩) (Ev.neg (by decide) (Ev.bind (refChain_ev hd h12 m m1 (by omega)) (Ev.done rfl)))
theorem chainL_mem {l : List S49} (hb : BenchOk l) {m : Int} (m1 : m < l.length) : ∀ k ∈ chainL l m,0 ≤ k ∧ k < (l.length : Int) := chainGo_mem hb _ _ m1
theorem showing_ev {l : List S49} (hM : MadeBench l) (h5 : l.length ≤ 5) (s m x : Int) (m0 : 0 ≤ m) (m1 : m < l.length) (B : Int) (B0 : 0 ≤ B) (B1 : B ≤ 1000000000) (x0 : -B ≤ x) (x1 : x ≤ B) :
  ∃ n s' y,Ev (fun k => K_Showing.f k s l m x) (n,s') ∧ SeenBy l (chainL l m) x y ∧ -(32 * B + 31000031) ≤ y ∧ y ≤ 32 * B + 31000031 ∧ Int.tmod n (rd_T49 l m).f2 = 0 ∧ 2 * (n - y) ≤ (rd_T49 l m).f2 ∧ 2 * (y - n) ≤ (rd_T49 l m).f2 := by
 have hb := hM.ok (by omega)
 obtain ⟨_,_,_,_,_,_,a7,a8,_⟩ := hM.at m m0 m1
 obtain ⟨st,s1,e,st0,st1⟩ := upto_some s 3 (by omega) (by omega)
 have hlen : (chainL l m).length ≤ 5 := Nat.le_trans (chainGo_length l l.length m) h5
 have hbd := seenBd_mono B0 (chainL l m).length 5 hlen
 have hb5 : seenBd B 5 = 32 * B + 31000031 := by simp only [seenBd];omega
 rw [hb5] at hbd
 obtain ⟨n,s',y,hE,hS,y0,y1,hr⟩ := showing_l hb m0 m1 ⟨a7,a8⟩ (chainL l m) (by omega) (chainL_mem hb m1) st st0 st1 B B0 (by omega) (chainL l m).length x s1 (Nat.le_refl _) (by rw [List.drop_length];rfl) (by rw [Nat.sub_self];exact x0) (by rw [Nat.sub_self];exact x1)
 refine ⟨n,s',y,?_,hS,by omega,by omega,hr⟩
 unfold K_Showing.f
 refine Ev.bind (refChainL_ev hb hM.down m m0 m1) (Ev.call e ?_)
 rw [wrap64_eq (by omega)]
 exact hE
theorem mod_any (a m : Int) (h0 : 1 ≤ m) (h1 : m ≤ 4000000000000) : ∃ t,K_Mod.f a m = some t ∧ 0 ≤ t ∧ t < m := by
 unfold K_Mod.f
 have u := Int.tmod_lt_of_pos a (show 0 < m by omega)
 have l := Int.tmod_lt_of_pos (-a) (show 0 < m by omega)
 rw [Int.neg_tmod] at l
 rw [if_neg (by omega),if_neg (by omega)]
 by_cases c : Int.tmod a m < 0
 ·rw [if_pos c,wrap64_eq (by omega)]
  exact ⟨_,rfl,by omega,by omega⟩
 ·rw [if_neg c]
  exact ⟨_,rfl,by omega,u⟩
theorem dice_some {l : List Int} (h : l.length ≤ maxLen) : K_NewDice.f l = some (diceOf l) := by
 unfold maxLen at h
 unfold K_NewDice.f
 rw [if_pos (by omega)]
theorem source_of_seen {l : List S49} (hb : BenchOk l) {m n x y : Int} (m1 : m < l.length) (hS : SeenBy l (chainL l m) x y) (d1 : 2 * (n - y) ≤ (rd_T49 l m).f2) (d2 : 2 * (y - n) ≤ (rd_T49 l m).f2) (x0 : -1000000000 ≤ x) (x1 : x ≤ 1000000000) :
  (sourceP l m n).2.2 = true ∧ (sourceP l m n).1 ≤ x ∧ x ≤ (sourceP l m n).2.1 := by
 obtain ⟨h1,h2,h3⟩ := seen_source hb (chainL l m) x y (srcStart l m n) (chainL_mem hb m1) hS (by show n - (rd_T49 l m).f2 / 2 ≤ y;omega) (by show y ≤ n + (rd_T49 l m).f2 / 2;omega) rfl
 unfold sourceP srcEnd
 generalize srcFold l (chainL l m) (srcStart l m n) = s at h1 h2 h3
 obtain ⟨a,b,c⟩ := s
 show (c && decide (max a (-1000000000) ≤ min b 1000000000)) = true ∧ max a (-1000000000) ≤ x ∧ x ≤ min b 1000000000
 have h3 : c = true := h3
 have h1 : a ≤ x := h1
 have h2 : x ≤ b := h2
 rw [h3,decide_eq_true (by omega)]
 exact ⟨rfl,by omega,by omega⟩
theorem checkP_valid {l : List S49} (h : checkP l = 0) : BenchOk l ∧ ∀ i : Nat,i < l.length → endsP l i := by
 unfold checkP at h
 by_cases h12 : 12 < l.length
 ·rw [if_pos h12] at h;omega
 rw [if_neg h12] at h
 by_cases hf : firstErr l.length l = 0
 ·rw [if_neg (by omega)] at h
  refine ⟨⟨by omega,firstErr_zero hf⟩,?_⟩
  have go : ∀ d i : Nat,i + d = l.length → looseFrom l d i = 0 → ∀ j,i ≤ j → j < l.length → endsP l j := by
   intro d
   induction d with
   | zero => intro i hi _ j h1 h2;omega
   | succ d ih =>
    intro i hi hl j h1 h2
    unfold looseFrom at hl
    by_cases he : endsP l i
    ·rw [if_pos he] at hl
     by_cases hij : j = i
     ·subst hij;exact he
     ·exact ih (i + 1) (by omega) hl j (by omega) h2
    ·rw [if_neg he] at hl;omega
  exact fun i hi => go l.length 0 (by omega) h i (by omega) hi
 ·rw [if_pos hf] at h;exact absurd h hf
def trueP (l : List S49) (m n : Int) : Int × Int × Int :=
 if checkP l ≠ 0 then (0,0,checkP l) else if m < 0 ∨ m > (l.length : Int) - 1 then (0,0,7) else if n < -1000000000 ∨ n > 1000000000 then (0,0,2) else
 if Int.tmod n (rd_T49 l m).f2 ≠ 0 then (0,0,3) else if (sourceP l m n).2.2 = true then ((sourceP l m n).1,(sourceP l m n).2.1,0) else (0,0,12)
theorem true_any (l : List S49) (h20 : l.length ≤ 20) (m n : Int) : gauge_True.f l m n = some (trueP l m n) := by
 unfold trueP
 by_cases hc : checkP l = 0
 ·obtain ⟨hb,he⟩ := checkP_valid hc
  rw [if_neg (by omega)]
  unfold gauge_True.f gauge_Check.f
  simp only [Option.bind_some]
  rw [if_pos hc,wrap64_eq (by omega)]
  by_cases hm : m < 0 ∨ m > (l.length : Int) - 1
  ·rw [if_pos hm,outside_true hm]
   rfl
  ·rw [if_neg hm,outside_false (by omega)]
   simp only [Option.bind_some]
   rw [if_neg (by decide)]
   by_cases hn : n < -1000000000 ∨ n > 1000000000
   ·rw [if_pos hn,outside_true hn]
    rfl
   ·rw [if_neg hn,outside_false (by omega)]
    simp only [Option.bind_some]
    obtain ⟨_,a7,a8,_⟩ := hb.at m (by omega) (by omega)
    rw [if_neg (by decide),if_pos (by omega),if_pos (by omega),if_neg (by omega)]
    by_cases hs : Int.tmod n (rd_T49 l m).f2 = 0
    ·rw [if_pos hs,if_neg (by omega)]
     unfold gauge_source.f
     rw [if_pos ⟨hb,by omega,by omega,by omega,by omega⟩]
     simp only [Option.bind_some]
     split <;> rfl
    ·rw [if_neg hs,if_pos hs]
 ·rw [if_pos hc]
  unfold gauge_True.f gauge_Check.f
  simp only [Option.bind_some]
  rw [if_neg hc]
theorem wp_region_alln {P : Program} {id : Nat} {ops : Array Oper} {Q : Exit → Act → World → Prop} {a : Act} {w : World} (n : Nat) (hm : P.follows .mixedOrders = true) (hn : ops.size = n)
  (hback : (List.range n).all (fun i => ((ops[i]?).map (fun o => o.after.all fun e => !(Region.binds .any e) || decide (e.on < i))).getD false) = true)
  (I : Array Bool → Act → World → Prop) (h0 : I (Array.replicate n false) a w.drew)
  (hstep : ∀ (i : Nat) (o : Oper),i < n → ops[i]? = some o → ∀ (L : Array Bool) (a : Act) (w : World),I L a w → L.size = n → L.getD i true = false →
   (∀ e ∈ o.after,Region.binds .any e = true → L.getD e.on false = true) → wpOp P ops Q i (fun a' w' => I (L.setIfInBounds i true) a' w') a w)
  (hend : ∀ (L : Array Bool) (a : Act) (w : World),I L a w → (∀ i,i < n → L.getD i false = true) → Q .normal a w) :
  (Code.region id ops true).wp P Q a w := by
 refine wp_region_any hm ?_
 have go : ∀ (fuel : Nat) (L : Array Bool) (a : Act) (w : World),L.size = n → L.count false ≤ fuel → I L a w → wpAny P .any ops Q fuel L a w := by
  have all : ∀ (L : Array Bool),L.size = n → Region.ready .any ops L = [] → ∀ i,i < n → L.getD i false = true := by
   intro L hL hr i
   induction i using Nat.strongRecOn with
   | _ i ih =>
    intro hi
    by_cases hc : L.getD i false = true
    ·exact hc
    ·exfalso
     have hb := List.all_eq_true.1 hback i (List.mem_range.2 hi)
     obtain ⟨o,ho⟩ : ∃ o,ops[i]? = some o := ⟨ops[i]'(by omega),Array.getElem?_eq_getElem (by omega)⟩
     rw [ho,Option.map_some,Option.getD_some,Array.all_eq_true_iff_forall_mem] at hb
     have : i ∈ Region.ready .any ops L := mem_ready.2 ⟨by
      have h1 : i < L.size := by omega
      simp [h1] at hc ⊢
      exact hc,o,ho,fun e he hbe => by
      have h3 := hb e he
      rw [hbe,Bool.not_true,Bool.false_or,decide_eq_true_eq] at h3
      exact ih e.on h3 (by omega)⟩
     rw [hr] at this
     cases this
  have next : ∀ (fuel : Nat) (L : Array Bool) (i : Nat),L.size = n → i < n → L.getD i true = false → L.count false ≤ fuel + 1 → (L.setIfInBounds i true).count false ≤ fuel := by
   intro fuel L i hL hi hf hc
   have h1 : i < L.size := by omega
   have hv : L[i] = false := by simpa [h1] using hf
   rw [Array.setIfInBounds,dif_pos h1,Array.count_set h1,hv]
   have : 0 < L.count false := Array.count_pos_iff.2 (hv ▸ Array.getElem_mem h1)
   simp
   omega
  intro fuel
  induction fuel with
  | zero =>
   intro L a w hL hc hI
   have hall : ∀ i,i < n → L.getD i false = true := by
    intro i hi'
    have h1 : i < L.size := by omega
    have := Array.count_eq_zero.1 (Nat.le_zero.1 hc)
    simp [h1]
    cases hv : L[i] with
    | true => rfl
    | false => exact absurd (hv ▸ Array.getElem_mem h1) this
   refine ⟨?_,hend L a w hI hall⟩
   rw [List.eq_nil_iff_forall_not_mem]
   intro i hr
   obtain ⟨h1,o,ho,_⟩ := mem_ready.1 hr
   have h2 : i < n := by rw [← hn];exact (Array.getElem?_eq_some_iff.1 ho).1
   have h3 := hall i h2
   have h4 : i < L.size := by omega
   simp [h4] at h1 h3
   rw [h1] at h3
   cases h3
  | succ fuel ih =>
   intro L a w hL hc hI
   refine ⟨fun hr => hend L a w hI (all L hL hr),fun i hr => ?_⟩
   obtain ⟨h1,o,ho,hall⟩ := mem_ready.1 hr
   have h2 : i < n := by rw [← hn];exact (Array.getElem?_eq_some_iff.1 ho).1
   exact wpOp_mono (fun a' w' hI' => ih _ a' w' (by simp [hL]) (next fuel L i hL h2 h1 hc) hI') (hstep i o h2 ho L a w hI hL h1 hall)
 rw [hn]
 exact go _ _ _ _ (by simp) (by simp) h0
theorem keep_cellb {w w' : World} {g b i : Nat} {cs : Array Value} {t : TypeId} {v : Value} (hk : KeepBut w w' g none) (hb : b ≠ g) (h : w.heap[b]? = some (.cells cs t (0,0))) (hv : cs[i]? = some v) : w'.cell? ⟨b,i,none⟩ = some v := by
 rw [blk_cell (keep_blk hk hb h) i];exact hv
def Vars (g : Nat) (bs : List (Nat × Int × Int)) (W : World) : Prop := ∀ x ∈ bs,x.1 ≠ g ∧ W.heap[x.1]? = some (.cells #[.int .i64 x.2.1,.int .i64 x.2.2] 34 (0,0))
theorem Vars.keep {g : Nat} {bs : List (Nat × Int × Int)} {W W' : World} (h : Vars g bs W) (hk : KeepBut W W' g none) : Vars g bs W' := fun x hx => ⟨(h x hx).1,keep_blk hk (h x hx).1 (h x hx).2⟩
theorem Vars.nil (g : Nat) (W : World) : Vars g [] W := fun x hx => by cases hx
theorem Vars.cons {g b : Nat} {p q : Int} {bs : List (Nat × Int × Int)} {W : World} (hb : b ≠ g) (hc : W.heap[b]? = some (.cells #[.int .i64 p,.int .i64 q] 34 (0,0))) (h : Vars g bs W) : Vars g ((b,p,q) :: bs) W := fun x hx => by
 rcases List.mem_cons.1 hx with rfl | hx
 ·exact ⟨hb,hc⟩
 ·exact h x hx
theorem Vars.lo {g : Nat} {bs : List (Nat × Int × Int)} {W : World} (h : Vars g bs W) (k : Nat) {b : Nat} {p q : Int} (hx : bs[k]? = some (b,p,q)) : ∀ W',KeepBut W W' g none → W'.cell? ⟨b,0,none⟩ = some (.int .i64 p) := fun _ hk => keep_cellb hk (h _ (List.mem_of_getElem? hx)).1 (h _ (List.mem_of_getElem? hx)).2 rfl
theorem Vars.hi {g : Nat} {bs : List (Nat × Int × Int)} {W : World} (h : Vars g bs W) (k : Nat) {b : Nat} {p q : Int} (hx : bs[k]? = some (b,p,q)) : ∀ W',KeepBut W W' g none → W'.cell? ⟨b,1,none⟩ = some (.int .i64 q) := fun _ hk => keep_cellb hk (h _ (List.mem_of_getElem? hx)).1 (h _ (List.mem_of_getElem? hx)).2 rfl
theorem Vars.new {g : Nat} {bs : List (Nat × Int × Int)} {W : World} (h : Vars g bs W) (hg : g < W.heap.size) (p q : Int) : Vars g ((W.heap.size,p,q) :: bs) (W.alloc (.cells #[.int .i64 p,.int .i64 q] 34)) :=
 Vars.cons (by omega) (blk_new W _) (h.keep (KeepBut.of_below (bA_ (Below.refl _ _) _) g none))
theorem climb_spec (s : Int → Bool) : ∀ (d : Nat) (a : Int),(∀ j,a ≤ j → j < climb s d a → s j = false) ∧ (climb s d a < a + d → s (climb s d a) = true) := by
 intro d
 induction d with
 | zero => intro a;exact ⟨fun j h0 h1 => by rw [climb] at h1;omega,fun h => by rw [climb] at h;omega⟩
 | succ d ih =>
  intro a
  rw [climb]
  by_cases h : s a = true
  ·rw [if_pos h];exact ⟨fun j h0 h1 => by omega,fun _ => h⟩
  ·rw [if_neg h]
   obtain ⟨p,q⟩ := ih (a + 1)
   refine ⟨fun j h0 h1 => ?_,fun h1 => q (by omega)⟩
   by_cases hj : j = a
   ·subst hj;simpa using h
   ·exact p j (by omega) h1
theorem sink_spec (s : Int → Bool) : ∀ (d : Nat) (b : Int),(∀ j,sink s d b < j → j ≤ b → s j = false) ∧ (b - d < sink s d b → s (sink s d b) = true) := by
 intro d
 induction d with
 | zero => intro b;exact ⟨fun j h0 h1 => by rw [sink] at h0;omega,fun h => by rw [sink] at h;omega⟩
 | succ d ih =>
  intro b
  rw [sink]
  by_cases h : s b = true
  ·rw [if_pos h];exact ⟨fun j h0 h1 => by omega,fun _ => h⟩
  ·rw [if_neg h]
   obtain ⟨p,q⟩ := ih (b - 1)
   refine ⟨fun j h0 h1 => ?_,fun h1 => q (by omega)⟩
   by_cases hj : j = b
   ·subst hj;simpa using h
   ·exact p j h0 (by omega)
structure Guarded (l : List S49) (m lo hi kn : Int) : Prop where
 a0 : accA0 l m lo ≤ accA l m lo hi
 a1 : accA l m lo hi ≤ kn
 b0 : kn ≤ accB l m lo hi
 b1 : accB l m lo hi ≤ accB0 l m hi
 sa : accSure l m (accA l m lo hi) = true
 sb : accSure l m (accB l m lo hi) = true
 ja : ∀ j,accA0 l m lo ≤ j → j < accA l m lo hi → accSure l m j = false
 jb : ∀ j,accB l m lo hi < j → j ≤ accB0 l m hi → accSure l m j = false
 ta : ∀ x,-accMost l m ≤ x → x ≤ accMost l m → accLo l m lo x = decide (accA0 l m lo ≤ x)
 tb : ∀ x,-accMost l m ≤ x → x ≤ accMost l m → accHi l m hi x = decide (accB0 l m hi + 1 ≤ x)
 ra : -accMost l m ≤ accA0 l m lo
 rb : accB0 l m hi ≤ accMost l m
theorem guarded {l : List S49} (hb : BenchOk l) {m : Int} (m0 : 0 ≤ m) (m1 : m < l.length) {lo hi kn : Int} (k0 : -accMost l m ≤ kn) (k1 : kn ≤ accMost l m) (h1 : accLo l m lo kn = true) (h2 : accHi l m hi kn = false) (h3 : accSure l m kn = true) : Guarded l m lo hi kn := by
 obtain ⟨s0,s1,M0,M1,hK⟩ := accStep hb m0 m1
 have hA := thr_bound (accLo l m lo) (M := accMost l m) (by omega)
 have hB := thr_bound (accHi l m hi) (M := accMost l m) (by omega)
 have tA := fun x x0 x1 => thr_iff (p := accLo l m lo) (M := accMost l m) (by omega) (fun i j _ hij _ h => accLo_mono hb m0 m1 lo i j hij h) x x0 x1
 have tB := fun x x0 x1 => thr_iff (p := accHi l m hi) (M := accMost l m) (by omega) (fun i j _ hij _ h => accHi_mono hb m0 m1 hi i j hij h) x x0 x1
 have eB : accB0 l m hi + 1 = thr (accHi l m hi) (accMost l m) := by unfold accB0;omega
 have tA' : ∀ x,-accMost l m ≤ x → x ≤ accMost l m → accLo l m lo x = decide (accA0 l m lo ≤ x) := tA
 have tB' : ∀ x,-accMost l m ≤ x → x ≤ accMost l m → accHi l m hi x = decide (accB0 l m hi + 1 ≤ x) := fun x x0 x1 => by rw [eB];exact tB x x0 x1
 have rA : -accMost l m ≤ accA0 l m lo := hA.1
 have hk1 : accA0 l m lo ≤ kn := of_decide_eq_true ((tA' kn k0 k1).symm.trans h1)
 have hk2 : ¬ accB0 l m hi + 1 ≤ kn := of_decide_eq_false ((tB' kn k0 k1).symm.trans h2)
 obtain ⟨p,q⟩ := climb_spec (accSure l m) (accB0 l m hi + 1 - accA0 l m lo).toNat (accA0 l m lo)
 have cb := climb_bound (accSure l m) (accB0 l m hi + 1 - accA0 l m lo).toNat (accA0 l m lo)
 have eA : climb (accSure l m) (accB0 l m hi + 1 - accA0 l m lo).toNat (accA0 l m lo) = accA l m lo hi := rfl
 rw [eA] at p q cb
 have ha : accA l m lo hi ≤ kn := by
  by_cases h : accA l m lo hi ≤ kn
  ·exact h
  ·have := p kn hk1 (by omega)
   rw [h3] at this
   cases this
 obtain ⟨p',q'⟩ := sink_spec (accSure l m) (accB0 l m hi + 1 - accA l m lo hi).toNat (accB0 l m hi)
 have sb := sink_bound (accSure l m) (accB0 l m hi + 1 - accA l m lo hi).toNat (accB0 l m hi)
 have eB' : sink (accSure l m) (accB0 l m hi + 1 - accA l m lo hi).toNat (accB0 l m hi) = accB l m lo hi := rfl
 rw [eB'] at p' q' sb
 have hbb : kn ≤ accB l m lo hi := by
  by_cases h : kn ≤ accB l m lo hi
  ·exact h
  ·have := p' kn (by omega) (by omega)
   rw [h3] at this
   cases this
 exact ⟨cb.1,ha,hbb,sb.1,q (by omega),q' (by omega),p,p',tA',tB',rA,by omega⟩
theorem true_k {l : List S49} (hck : checkP l = 0) {m : Int} (m0 : 0 ≤ m) (m1 : m < l.length) (k : Int) :
  trueP l m (k * stepK l m) = if k * stepK l m < -1000000000 ∨ k * stepK l m > 1000000000 then (0,0,2) else if accSure l m k = true then ((srcK l m k).1,(srcK l m k).2.1,0) else (0,0,12) := by
 have ht : Int.tmod (k * stepK l m) (rd_T49 l m).f2 = 0 := Int.mul_tmod_left _ _
 unfold trueP
 rw [if_neg (by omega),if_neg (by omega)]
 by_cases h : k * stepK l m < -1000000000 ∨ k * stepK l m > 1000000000
 ·rw [if_pos h,if_pos h]
 ·rw [if_neg h,if_neg h,if_neg (by omega)]
  rfl
theorem sure_ends {l : List S49} {m k : Int} (h : accSure l m k = true) : -1000000000 ≤ (srcK l m k).1 ∧ (srcK l m k).1 ≤ (srcK l m k).2.1 ∧ (srcK l m k).2.1 ≤ 1000000000 := by
 unfold accSure srcK sourceP srcEnd at h
 unfold srcK sourceP srcEnd
 simp only [Bool.and_eq_true,decide_eq_true_eq] at h ⊢
 omega
theorem most_of {l : List S49} (hb : BenchOk l) {m : Int} (m0 : 0 ≤ m) (m1 : m < l.length) {k : Int} (h0 : -1000000000 ≤ k * stepK l m) (h1 : k * stepK l m ≤ 1000000000) : -accMost l m ≤ k ∧ k ≤ accMost l m := by
 obtain ⟨s0,_⟩ := accStep hb m0 m1
 unfold accMost
 constructor
 ·have : -k ≤ 1000000000 / stepK l m := by rw [Int.le_ediv_iff_mul_le (by omega),Int.neg_mul];omega
  omega
 ·rw [Int.le_ediv_iff_mul_le (by omega)];omega
theorem guard_mid {l : List S49} (hck : checkP l = 0) {m : Int} (m0 : 0 ≤ m) (m1 : m < l.length) {lo hi kn : Int} (G : Guarded l m lo hi kn) {k : Int} (h0 : accA l m lo hi ≤ k) (h1 : k ≤ accB l m lo hi) :
  -1000000000 ≤ k * stepK l m ∧ k * stepK l m ≤ 1000000000 ∧ ((accSure l m k = true ∧ trueP l m (k * stepK l m) = ((srcK l m k).1,(srcK l m k).2.1,0) ∧ lo ≤ (srcK l m k).1 ∧ (srcK l m k).2.1 ≤ hi) ∨ trueP l m (k * stepK l m) = (0,0,12)) := by
 have hb := acc_ok hck
 obtain ⟨s0,s1,M0,M1,hK⟩ := accStep hb m0 m1
 have a0 := G.a0
 have b1 := G.b1
 have ra := G.ra
 have rb := G.rb
 obtain ⟨n0,n1⟩ := hK k (by omega) (by omega)
 refine ⟨n0,n1,?_⟩
 rw [true_k hck m0 m1,if_neg (by omega)]
 by_cases hs : accSure l m k = true
 ·rw [if_pos hs]
  have e1 := G.ta k (by omega) (by omega)
  have e2 := G.tb k (by omega) (by omega)
  rw [decide_eq_true (by omega)] at e1
  rw [decide_eq_false (by omega)] at e2
  unfold accLo at e1
  unfold accHi at e2
  have e1 := of_decide_eq_true e1
  have e2 := of_decide_eq_false e2
  exact .inl ⟨hs,rfl,e1.1,by omega⟩
 ·rw [if_neg hs];exact .inr rfl
def NotIn (lo hi : Int) (r : Int × Int × Int) : Prop := r.2.2 ≠ 0 ∨ ¬ lo ≤ r.1 ∨ ¬ r.2.1 ≤ hi
theorem guard_out {l : List S49} (hck : checkP l = 0) {m : Int} (m0 : 0 ≤ m) (m1 : m < l.length) {lo hi kn : Int} (G : Guarded l m lo hi kn) :
  NotIn lo hi (trueP l m ((accA l m lo hi - 1) * stepK l m)) ∧ NotIn lo hi (trueP l m ((accB l m lo hi + 1) * stepK l m)) := by
 have hb := acc_ok hck
 constructor
 ·rw [true_k hck m0 m1]
  by_cases h : (accA l m lo hi - 1) * stepK l m < -1000000000 ∨ (accA l m lo hi - 1) * stepK l m > 1000000000
  ·rw [if_pos h];exact .inl (by decide)
  ·rw [if_neg h]
   obtain ⟨k0,k1⟩ := most_of hb m0 m1 (k := accA l m lo hi - 1) (by omega) (by omega)
   by_cases hs : accSure l m (accA l m lo hi - 1) = true
   ·rw [if_pos hs]
    refine .inr (.inl fun hlo => ?_)
    have he := sure_ends hs
    have hlo : lo ≤ (srcK l m (accA l m lo hi - 1)).1 := hlo
    have e1 := G.ta _ k0 k1
    unfold accLo at e1
    rw [decide_eq_true ⟨hlo,by omega⟩] at e1
    have := G.ja _ (of_decide_eq_true e1.symm) (by omega)
    rw [hs] at this
    cases this
   ·rw [if_neg hs];exact .inl (by decide)
 ·rw [true_k hck m0 m1]
  by_cases h : (accB l m lo hi + 1) * stepK l m < -1000000000 ∨ (accB l m lo hi + 1) * stepK l m > 1000000000
  ·rw [if_pos h];exact .inl (by decide)
  ·rw [if_neg h]
   obtain ⟨k0,k1⟩ := most_of hb m0 m1 (k := accB l m lo hi + 1) (by omega) (by omega)
   by_cases hs : accSure l m (accB l m lo hi + 1) = true
   ·rw [if_pos hs]
    refine .inr (.inr fun hhi => ?_)
    have he := sure_ends hs
    have hhi : (srcK l m (accB l m lo hi + 1)).2.1 ≤ hi := hhi
    have e1 := G.tb _ k0 k1
    unfold accHi at e1
    rw [decide_eq_false (by omega)] at e1
    have e1 := of_decide_eq_false e1.symm
    have := G.jb (accB l m lo hi + 1) (by omega) (by omega)
    rw [hs] at this
    cases this
   ·rw [if_neg hs];exact .inl (by decide)
theorem run_field_34_0 {ρ : Operand → Value} {o : Oper} {x : Operand} {p : Addr} (w : World) (h : o.op = .fieldAddr 34 x 0) (hx : ρ x = .pointer (some p)) :
  (execOp ρ o).run Try.prog w = .ok (.value (.pointer (some p))) w := by
 have hu34 := Try.underlying34
 unfold execOp;rw [h];simp only [hx];clear h hx
 go_simp
theorem run_load_3 {ρ : Operand → Value} {o : Oper} {x : Operand} {p : Addr} {v : Value} (w : World) (h : o.op = .load 3 x) (hx : ρ x = .pointer (some p)) (hc : w.cell? p = some v) :
  (execOp ρ o).run Try.prog w = .ok (.value v) w := by
 have hu := Try.underlying3
 unfold execOp;rw [h];simp only [hx];clear h hx
 go_simp
theorem run_field_34_1 {ρ : Operand → Value} {o : Oper} {x : Operand} {p : Addr} (w : World) (h : o.op = .fieldAddr 34 x 1) (hx : ρ x = .pointer (some p)) :
  (execOp ρ o).run Try.prog w = .ok (.value (.pointer (some ⟨p.block,p.off + 1,none⟩))) w := by
 have hu34 := Try.underlying34
 unfold execOp;rw [h];simp only [hx];clear h hx
 go_simp
theorem run_mul {ρ : Operand → Value} {o : Oper} {x y : Operand} {a b : Int} (w : World) (h : o.op = .binOp .mul 3 x y 3) (hx : ρ x = .int .i64 a) (hy : ρ y = .int .i64 b) (h0 : -9223372036854775808 ≤ a * b) (h1 : a * b ≤ 9223372036854775807) :
  (execOp ρ o).run Try.prog w = .ok (.value (.int .i64 (a * b))) w := by
 have e : IntKind.i64.wrap (a * b) = a * b := IntWalk.i64_in _ (by omega)
 have hu3 := Try.underlying3
 unfold execOp;rw [h];simp only [hx,hy];clear h hx hy
 go_simp
theorem run_quo {ρ : Operand → Value} {o : Oper} {x y : Operand} {a b : Int} (w : World) (h : o.op = .binOp .quo 3 x y 3) (hx : ρ x = .int .i64 a) (hy : ρ y = .int .i64 b) (h0 : 0 ≤ a) (h1 : a ≤ 9223372036854775807) (hb : 1 ≤ b) :
  (execOp ρ o).run Try.prog w = .ok (.value (.int .i64 (a / b))) w := by
 have e1 : Int.tdiv a b = a / b := Int.tdiv_eq_ediv_of_nonneg h0
 have h2 := Int.ediv_nonneg h0 (show 0 ≤ b by omega)
 have h3 := Int.ediv_le_self b h0
 have e : IntKind.i64.wrap (a / b) = a / b := IntWalk.i64_in _ (by omega)
 have hb0 : ¬ b = 0 := by omega
 have hu3 := Try.underlying3
 unfold execOp;rw [h];simp only [hx,hy];clear h hx hy h2 h3
 go_simp
theorem run_row_22_int_int_int_int_int {ρ : Operand → Value} {o : Oper} {x0 x1 x2 x3 x4 : Operand} {a0 : Int} {a1 : Int} {a2 : Int} {a3 : Int} {a4 : Int} (w : World) (h : o.op = .buildSlice 22 5 #[(0,x0),(1,x1),(2,x2),(3,x3),(4,x4)]) (h0 : ρ x0 = .int .i64 a0) (h1 : ρ x1 = .int .i64 a1) (h2 : ρ x2 = .int .i64 a2) (h3 : ρ x3 = .int .i64 a3) (h4 : ρ x4 = .int .i64 a4) :
  (execOp ρ o).run Try.prog w = .ok (.value (.slice (some ⟨w.heap.size,0,none⟩) 5 5)) (w.alloc (.cells #[.int .i64 a0,.int .i64 a1,.int .i64 a2,.int .i64 a3,.int .i64 a4] 3)) := by
 have hu22 := Try.underlying22
 unfold execOp;rw [h];simp only [List.map_toArray,List.map_cons,List.map_nil,h0,h1,h2,h3,h4];clear h h0 h1 h2 h3 h4
 go_simp
theorem mod_below (a m r : Int) (w : World) (h : K_Mod.f a m = some r) : Calls Try.prog 11 #[.int .i64 a,.int .i64 m] w fun e w' => e = .returned (.int .i64 r) ∧ Below w.heap.size w w' := by
 refine (K_Mod.calls a m r w h).mono ?_
 rintro e w' ⟨rfl,⟨nd,rfl⟩⟩
 exact ⟨rfl,bN_ (Below.refl _ _) nd⟩
set_option maxHeartbeats 8000000 in
set_option maxRecDepth 100000 in
theorem Guards.region8 (b11 : Nat) (xa xb : Int) {ops : Array Oper} (hops : (Try.f5.body.bind (regionOf 8)) = some ops) {Q : Exit → Act → World → Prop} {ds : List Deferred} {id : Nat} (g : Nat) (s0 s1 s2 s3 : Int) (v0 : Int) (v1 : Int) (v2 : Int) {x0 x1 x2 x3 x4 x5 x6 x8 x9 x10 x12 x13 x14 x15 x16 x17 x18 x19 x20 x21 x22 x23 x24 x25 x26 x27 x28 x29 x30 x31 x32 x33 x34 x35 x36 x37 x38 x39 x40 x41 x42 x43 x44 x45 x46 x47 x48 x49 x50 x51 x52 x53 x54 x55 x56 x57 x58 x59 x60 x61 x62 x63 x64 x65 x66 x67 x68 x69 x70 x71 x72 x73 x74 x75 x76 x77 x78 x79 x80 x81 x82 x83 x84 x85 x86 x87 x88 x89 x90 x91 x92 x93 x94 x95 x96 x97 x98 x99 x100 x101 x102 x103 x104 x105 x106 x107 x108 x109 x110 x111 x112 x113 x114 x115 x116 x117 x118 x119 x120 x121 x122 x123 x124 x125 x126 x127 x128 x129 x130 x131 x132 x133 x134 x135 x136 x137 x138 x139 x140 x141 x142 x143 x144 x145 x146 x147 x148 x149 x150 x151 x152 x153 x154 x155 x156 x157 x158 x159 x160 x161 x162 x163 x164 x165 x166 x167 x168 x169 x170 x171 x172 x173 x174 x175 x176 x177 x178 x179 x180 x181 x182 x183 x184 x185 x186 x187 x188 x189 x190 x191 x192 x193 x194 x195 : Value} (w0 : World) {w : World} (hI : IsS65 w0 w g s0) (hb0 : Below w0.heap.size w0 w) (hx : -1000000000 ≤ xa ∧ xa ≤ 1000000000 ∧ -1000000000 ≤ xb ∧ xb ≤ 1000000000) (h0 : 0 ≤ v0 ∧ v0 < 3) (hm : 0 ≤ v1 * v2 ∧ v1 * v2 ≤ 9000) (q0 : ∀ W,KeepBut w W g none → W.cell? ⟨b11,0,none⟩ = some (.int .i64 xa)) (q1 : ∀ W,KeepBut w W g none → W.cell? ⟨b11,1,none⟩ = some (.int .i64 xb)) (e0 : D_Upto.f s0 3 = some (v0,s1)) (e1 : D_Upto.f s1 3 = some (v1,s2)) (e2 : D_Upto.f s2 3000 = some (v2,s3))
  (K : ∀ (u46 u47 u48 u49 u50 u51 u52 u53 u54 u55 u56 u57 u58 u59 : Value) (b13 : Nat) (w' : World),IsS65 w0 w' g s3 → Below w0.heap.size w0 w' → KeepBut w w' g none → b13 ≠ g → w.heap.size ≤ b13 → w'.heap[b13]? = some (.cells #[.int .i64 (xa - v0),.int .i64 (xb + (v1 * v2))] 34 (0,0)) → Q .normal { tmps := (x0 :: x1 :: x2 :: x3 :: x4 :: x5 :: x6 :: .pointer (some ⟨g,0,none⟩) :: x8 :: x9 :: x10 :: .pointer (some ⟨b11,0,none⟩) :: x12 :: .pointer (some ⟨b13,0,none⟩) :: x14 :: x15 :: x16 :: x17 :: x18 :: x19 :: x20 :: x21 :: x22 :: x23 :: x24 :: x25 :: x26 :: x27 :: x28 :: x29 :: x30 :: x31 :: x32 :: x33 :: x34 :: x35 :: x36 :: x37 :: x38 :: x39 :: x40 :: x41 :: x42 :: x43 :: x44 :: x45 :: u46 :: u47 :: u48 :: u49 :: u50 :: u51 :: u52 :: u53 :: u54 :: u55 :: u56 :: u57 :: u58 :: u59 :: x60 :: x61 :: x62 :: x63 :: x64 :: x65 :: x66 :: x67 :: x68 :: x69 :: x70 :: x71 :: x72 :: x73 :: x74 :: x75 :: x76 :: x77 :: x78 :: x79 :: x80 :: x81 :: x82 :: x83 :: x84 :: x85 :: x86 :: x87 :: x88 :: x89 :: x90 :: x91 :: x92 :: x93 :: x94 :: x95 :: x96 :: x97 :: x98 :: x99 :: x100 :: x101 :: x102 :: x103 :: x104 :: x105 :: x106 :: x107 :: x108 :: x109 :: x110 :: x111 :: x112 :: x113 :: x114 :: x115 :: x116 :: x117 :: x118 :: x119 :: x120 :: x121 :: x122 :: x123 :: x124 :: x125 :: x126 :: x127 :: x128 :: x129 :: x130 :: x131 :: x132 :: x133 :: x134 :: x135 :: x136 :: x137 :: x138 :: x139 :: x140 :: x141 :: x142 :: x143 :: x144 :: x145 :: x146 :: x147 :: x148 :: x149 :: x150 :: x151 :: x152 :: x153 :: x154 :: x155 :: x156 :: x157 :: x158 :: x159 :: x160 :: x161 :: x162 :: x163 :: x164 :: x165 :: x166 :: x167 :: x168 :: x169 :: x170 :: x171 :: x172 :: x173 :: x174 :: x175 :: x176 :: x177 :: x178 :: x179 :: x180 :: x181 :: x182 :: x183 :: x184 :: x185 :: x186 :: x187 :: x188 :: x189 :: x190 :: x191 :: x192 :: x193 :: x194 :: x195 :: []).toArray,defers := ds } w') :
  (Code.region id ops true).wp Try.prog Q { tmps := (x0 :: x1 :: x2 :: x3 :: x4 :: x5 :: x6 :: .pointer (some ⟨g,0,none⟩) :: x8 :: x9 :: x10 :: .pointer (some ⟨b11,0,none⟩) :: x12 :: x13 :: x14 :: x15 :: x16 :: x17 :: x18 :: x19 :: x20 :: x21 :: x22 :: x23 :: x24 :: x25 :: x26 :: x27 :: x28 :: x29 :: x30 :: x31 :: x32 :: x33 :: x34 :: x35 :: x36 :: x37 :: x38 :: x39 :: x40 :: x41 :: x42 :: x43 :: x44 :: x45 :: x46 :: x47 :: x48 :: x49 :: x50 :: x51 :: x52 :: x53 :: x54 :: x55 :: x56 :: x57 :: x58 :: x59 :: x60 :: x61 :: x62 :: x63 :: x64 :: x65 :: x66 :: x67 :: x68 :: x69 :: x70 :: x71 :: x72 :: x73 :: x74 :: x75 :: x76 :: x77 :: x78 :: x79 :: x80 :: x81 :: x82 :: x83 :: x84 :: x85 :: x86 :: x87 :: x88 :: x89 :: x90 :: x91 :: x92 :: x93 :: x94 :: x95 :: x96 :: x97 :: x98 :: x99 :: x100 :: x101 :: x102 :: x103 :: x104 :: x105 :: x106 :: x107 :: x108 :: x109 :: x110 :: x111 :: x112 :: x113 :: x114 :: x115 :: x116 :: x117 :: x118 :: x119 :: x120 :: x121 :: x122 :: x123 :: x124 :: x125 :: x126 :: x127 :: x128 :: x129 :: x130 :: x131 :: x132 :: x133 :: x134 :: x135 :: x136 :: x137 :: x138 :: x139 :: x140 :: x141 :: x142 :: x143 :: x144 :: x145 :: x146 :: x147 :: x148 :: x149 :: x150 :: x151 :: x152 :: x153 :: x154 :: x155 :: x156 :: x157 :: x158 :: x159 :: x160 :: x161 :: x162 :: x163 :: x164 :: x165 :: x166 :: x167 :: x168 :: x169 :: x170 :: x171 :: x172 :: x173 :: x174 :: x175 :: x176 :: x177 :: x178 :: x179 :: x180 :: x181 :: x182 :: x183 :: x184 :: x185 :: x186 :: x187 :: x188 :: x189 :: x190 :: x191 :: x192 :: x193 :: x194 :: x195 :: []).toArray,defers := ds } w := by
 obtain rfl := Option.some.inj (show some _ = some ops from hops)
 have hn : (([(46,.val (.pointer (some (⟨b11,0,none⟩)))),(47,.val (.int .i64 xa)),(48,.val (.pointer (some ⟨g,0,none⟩))),(49,.val (.int .i64 v0)),(50,.val (.int .i64 (xa - v0))),(51,.val (.pointer (some (⟨b11,1,none⟩)))),(52,.val (.int .i64 xb)),(53,.val (.pointer (some ⟨g,0,none⟩))),(54,.val (.int .i64 v1)),(55,.val (.pointer (some ⟨g,0,none⟩))),(56,.val (.int .i64 v2)),(57,.val (.int .i64 (v1 * v2))),(58,.val (.int .i64 (xb + (v1 * v2)))),(59,.val (.agg #[.int .i64 (xa - v0),.int .i64 (xb + (v1 * v2))])),(13,.var 34 #[.int .i64 0,.int .i64 0] 15 #[.int .i64 (xa - v0),.int .i64 (xb + (v1 * v2))]),(1015,.set 14)] : List (Nat × Left)).map (·.1)).Nodup := by simp only [List.map_cons,List.map_nil];decide
 have hcn : ([3,8,10] : List Nat).Nodup := by decide
 refine wp_region_alln 16 (by kernel_rfl) rfl (by kernel_rfl) (DiceAt g (fun k => ([s0,s1,s2,s3] : List Int).getD k 0) [3,8,10] [(46,.val (.pointer (some (⟨b11,0,none⟩)))),(47,.val (.int .i64 xa)),(48,.val (.pointer (some ⟨g,0,none⟩))),(49,.val (.int .i64 v0)),(50,.val (.int .i64 (xa - v0))),(51,.val (.pointer (some (⟨b11,1,none⟩)))),(52,.val (.int .i64 xb)),(53,.val (.pointer (some ⟨g,0,none⟩))),(54,.val (.int .i64 v1)),(55,.val (.pointer (some ⟨g,0,none⟩))),(56,.val (.int .i64 v2)),(57,.val (.int .i64 (v1 * v2))),(58,.val (.int .i64 (xb + (v1 * v2)))),(59,.val (.agg #[.int .i64 (xa - v0),.int .i64 (xb + (v1 * v2))])),(13,.var 34 #[.int .i64 0,.int .i64 0] 15 #[.int .i64 (xa - v0),.int .i64 (xb + (v1 * v2))]),(1015,.set 14)] w0 w ((x0 :: x1 :: x2 :: x3 :: x4 :: x5 :: x6 :: .pointer (some ⟨g,0,none⟩) :: x8 :: x9 :: x10 :: .pointer (some ⟨b11,0,none⟩) :: x12 :: x13 :: x14 :: x15 :: x16 :: x17 :: x18 :: x19 :: x20 :: x21 :: x22 :: x23 :: x24 :: x25 :: x26 :: x27 :: x28 :: x29 :: x30 :: x31 :: x32 :: x33 :: x34 :: x35 :: x36 :: x37 :: x38 :: x39 :: x40 :: x41 :: x42 :: x43 :: x44 :: x45 :: x46 :: x47 :: x48 :: x49 :: x50 :: x51 :: x52 :: x53 :: x54 :: x55 :: x56 :: x57 :: x58 :: x59 :: x60 :: x61 :: x62 :: x63 :: x64 :: x65 :: x66 :: x67 :: x68 :: x69 :: x70 :: x71 :: x72 :: x73 :: x74 :: x75 :: x76 :: x77 :: x78 :: x79 :: x80 :: x81 :: x82 :: x83 :: x84 :: x85 :: x86 :: x87 :: x88 :: x89 :: x90 :: x91 :: x92 :: x93 :: x94 :: x95 :: x96 :: x97 :: x98 :: x99 :: x100 :: x101 :: x102 :: x103 :: x104 :: x105 :: x106 :: x107 :: x108 :: x109 :: x110 :: x111 :: x112 :: x113 :: x114 :: x115 :: x116 :: x117 :: x118 :: x119 :: x120 :: x121 :: x122 :: x123 :: x124 :: x125 :: x126 :: x127 :: x128 :: x129 :: x130 :: x131 :: x132 :: x133 :: x134 :: x135 :: x136 :: x137 :: x138 :: x139 :: x140 :: x141 :: x142 :: x143 :: x144 :: x145 :: x146 :: x147 :: x148 :: x149 :: x150 :: x151 :: x152 :: x153 :: x154 :: x155 :: x156 :: x157 :: x158 :: x159 :: x160 :: x161 :: x162 :: x163 :: x164 :: x165 :: x166 :: x167 :: x168 :: x169 :: x170 :: x171 :: x172 :: x173 :: x174 :: x175 :: x176 :: x177 :: x178 :: x179 :: x180 :: x181 :: x182 :: x183 :: x184 :: x185 :: x186 :: x187 :: x188 :: x189 :: x190 :: x191 :: x192 :: x193 :: x194 :: x195 :: []).toArray) ds) (DiceAt.start (n := 16) rfl hI hb0) ?_ ?_
 ·intro i o hi ho L a w h hL hf hall
  have hcase : i = 0 ∨ i = 1 ∨ i = 2 ∨ i = 3 ∨ i = 4 ∨ i = 5 ∨ i = 6 ∨ i = 7 ∨ i = 8 ∨ i = 9 ∨ i = 10 ∨ i = 11 ∨ i = 12 ∨ i = 13 ∨ i = 14 ∨ i = 15 := by omega
  clear hi K
  rcases hcase with rfl | rfl | rfl | rfl | rfl | rfl | rfl | rfl | rfl | rfl | rfl | rfl | rfl | rfl | rfl | rfl
  ·obtain rfl := Option.some.inj (show some _ = some o from ho)
   have f11 : a.tmps.getD 11 undef = .pointer (some ⟨b11,0,none⟩) := h.rest 11 rfl
   exact h.op ho rfl rfl rfl hn (Nat.lt_of_lt_of_eq (by decide : 46 < 196) rfl) rfl (run_field_34_0 w rfl f11) (Below.refl _ _) rfl rfl
  ·obtain rfl := Option.some.inj (show some _ = some o from ho)
   have l0 := listed_of hall 0 rfl
   have f46 : a.tmps.getD 46 undef = .pointer (some (⟨b11,0,none⟩)) := h.facts 0 _ _ rfl l0
   exact h.op ho rfl rfl rfl hn (Nat.lt_of_lt_of_eq (by decide : 47 < 196) rfl) rfl (run_load_3 w rfl f46 (q0 _ h.keep)) (Below.refl _ _) rfl rfl
  ·obtain rfl := Option.some.inj (show some _ = some o from ho)
   have f7 : a.tmps.getD 7 undef = .pointer (some ⟨g,0,none⟩) := h.rest 7 rfl
   exact h.op ho rfl rfl rfl hn (Nat.lt_of_lt_of_eq (by decide : 48 < 196) rfl) rfl (run_move w rfl f7) (Below.refl _ _) rfl rfl
  ·obtain rfl := Option.some.inj (show some _ = some o from ho)
   have l2 := listed_of hall 2 rfl
   have f48 : a.tmps.getD 48 undef = .pointer (some ⟨g,0,none⟩) := h.facts 2 _ _ rfl l2
   exact h.call (f := 13) (args := #[.pointer (some ⟨g,0,none⟩),.int .i64 3]) ho rfl rfl rfl hn (Nat.lt_of_lt_of_eq (by decide : 49 < 196) rfl) (j := 0) rfl hcn hf rfl (fun _ h0 _ => absurd rfl h0) (by rw [hL];rfl) (run_call w rfl rfl (by simp only [List.map_toArray,List.map_cons,List.map_nil];rw [show a.eval (.tmp 48) = _ from f48];rfl) (enters_of Try.func13 (by kernel_rfl) rfl) rfl) (fun hI hB => D_Upto.calls g s0 3 v0 s1 w0 w hI hB e0)
  ·obtain rfl := Option.some.inj (show some _ = some o from ho)
   have l1 := listed_of hall 1 rfl
   have f47 : a.tmps.getD 47 undef = .int .i64 xa := h.facts 1 _ _ rfl l1
   have l3 := listed_of hall 3 rfl
   have f49 : a.tmps.getD 49 undef = .int .i64 v0 := h.facts 3 _ _ rfl l3
   exact h.op ho rfl rfl rfl hn (Nat.lt_of_lt_of_eq (by decide : 50 < 196) rfl) rfl (run_sub w rfl f47 f49 (by omega) (by omega)) (Below.refl _ _) rfl rfl
  ·obtain rfl := Option.some.inj (show some _ = some o from ho)
   have f11 : a.tmps.getD 11 undef = .pointer (some ⟨b11,0,none⟩) := h.rest 11 rfl
   exact h.op ho rfl rfl rfl hn (Nat.lt_of_lt_of_eq (by decide : 51 < 196) rfl) rfl (run_field_34_1 w rfl f11) (Below.refl _ _) rfl rfl
  ·obtain rfl := Option.some.inj (show some _ = some o from ho)
   have l5 := listed_of hall 5 rfl
   have f51 : a.tmps.getD 51 undef = .pointer (some (⟨b11,1,none⟩)) := h.facts 5 _ _ rfl l5
   exact h.op ho rfl rfl rfl hn (Nat.lt_of_lt_of_eq (by decide : 52 < 196) rfl) rfl (run_load_3 w rfl f51 (q1 _ h.keep)) (Below.refl _ _) rfl rfl
  ·obtain rfl := Option.some.inj (show some _ = some o from ho)
   have f7 : a.tmps.getD 7 undef = .pointer (some ⟨g,0,none⟩) := h.rest 7 rfl
   exact h.op ho rfl rfl rfl hn (Nat.lt_of_lt_of_eq (by decide : 53 < 196) rfl) rfl (run_move w rfl f7) (Below.refl _ _) rfl rfl
  ·obtain rfl := Option.some.inj (show some _ = some o from ho)
   have l7 := listed_of hall 7 rfl
   have f53 : a.tmps.getD 53 undef = .pointer (some ⟨g,0,none⟩) := h.facts 7 _ _ rfl l7
   exact h.call (f := 13) (args := #[.pointer (some ⟨g,0,none⟩),.int .i64 3]) ho rfl rfl rfl hn (Nat.lt_of_lt_of_eq (by decide : 54 < 196) rfl) (j := 1) rfl hcn hf rfl (fun i' _ e => by obtain rfl := Option.some.inj (show some _ = some i' from e);exact listed_of hall 3 rfl) (by rw [hL];rfl) (run_call w rfl rfl (by simp only [List.map_toArray,List.map_cons,List.map_nil];rw [show a.eval (.tmp 53) = _ from f53];rfl) (enters_of Try.func13 (by kernel_rfl) rfl) rfl) (fun hI hB => D_Upto.calls g s1 3 v1 s2 w0 w hI hB e1)
  ·obtain rfl := Option.some.inj (show some _ = some o from ho)
   have f7 : a.tmps.getD 7 undef = .pointer (some ⟨g,0,none⟩) := h.rest 7 rfl
   exact h.op ho rfl rfl rfl hn (Nat.lt_of_lt_of_eq (by decide : 55 < 196) rfl) rfl (run_move w rfl f7) (Below.refl _ _) rfl rfl
  ·obtain rfl := Option.some.inj (show some _ = some o from ho)
   have l9 := listed_of hall 9 rfl
   have f55 : a.tmps.getD 55 undef = .pointer (some ⟨g,0,none⟩) := h.facts 9 _ _ rfl l9
   exact h.call (f := 13) (args := #[.pointer (some ⟨g,0,none⟩),.int .i64 3000]) ho rfl rfl rfl hn (Nat.lt_of_lt_of_eq (by decide : 56 < 196) rfl) (j := 2) rfl hcn hf rfl (fun i' _ e => by obtain rfl := Option.some.inj (show some _ = some i' from e);exact listed_of hall 8 rfl) (by rw [hL];rfl) (run_call w rfl rfl (by simp only [List.map_toArray,List.map_cons,List.map_nil];rw [show a.eval (.tmp 55) = _ from f55];rfl) (enters_of Try.func13 (by kernel_rfl) rfl) rfl) (fun hI hB => D_Upto.calls g s2 3000 v2 s3 w0 w hI hB e2)
  ·obtain rfl := Option.some.inj (show some _ = some o from ho)
   have l8 := listed_of hall 8 rfl
   have f54 : a.tmps.getD 54 undef = .int .i64 v1 := h.facts 8 _ _ rfl l8
   have l10 := listed_of hall 10 rfl
   have f56 : a.tmps.getD 56 undef = .int .i64 v2 := h.facts 10 _ _ rfl l10
   exact h.op ho rfl rfl rfl hn (Nat.lt_of_lt_of_eq (by decide : 57 < 196) rfl) rfl (run_mul w rfl f54 f56 (by omega) (by omega)) (Below.refl _ _) rfl rfl
  ·obtain rfl := Option.some.inj (show some _ = some o from ho)
   have l6 := listed_of hall 6 rfl
   have f52 : a.tmps.getD 52 undef = .int .i64 xb := h.facts 6 _ _ rfl l6
   have l11 := listed_of hall 11 rfl
   have f57 : a.tmps.getD 57 undef = .int .i64 (v1 * v2) := h.facts 11 _ _ rfl l11
   exact h.op ho rfl rfl rfl hn (Nat.lt_of_lt_of_eq (by decide : 58 < 196) rfl) rfl (run_add w rfl f52 f57 (by omega) (by omega)) (Below.refl _ _) rfl rfl
  ·obtain rfl := Option.some.inj (show some _ = some o from ho)
   have l4 := listed_of hall 4 rfl
   have f50 : a.tmps.getD 50 undef = .int .i64 (xa - v0) := h.facts 4 _ _ rfl l4
   have l12 := listed_of hall 12 rfl
   have f58 : a.tmps.getD 58 undef = .int .i64 (xb + (v1 * v2)) := h.facts 12 _ _ rfl l12
   exact h.other (f := 24) (args := #[.int .i64 (xa - v0),.int .i64 (xb + (v1 * v2))]) ho rfl rfl rfl hn (Nat.lt_of_lt_of_eq (by decide : 59 < 196) rfl) rfl rfl (run_call w rfl rfl (by simp only [List.map_toArray,List.map_cons,List.map_nil];rw [show a.eval (.tmp 50) = _ from f50];rw [show a.eval (.tmp 58) = _ from f58];first | done | rfl) (enters_of Try.func24 (by kernel_rfl) rfl) rfl) (L_span.calls (xa - v0) (xb + (v1 * v2)) (xa - v0) (xb + (v1 * v2)) w rfl)
  ·obtain rfl := Option.some.inj (show some _ = some o from ho)
   exact h.var ho rfl rfl rfl rfl hn (Nat.lt_of_lt_of_eq (by decide : 13 < 196) rfl) rfl rfl hf (run_var2 w rfl)
  ·obtain rfl := Option.some.inj (show some _ = some o from ho)
   have l13 := listed_of hall 13 rfl
   have f59 : a.tmps.getD 59 undef = .agg #[.int .i64 (xa - v0),.int .i64 (xb + (v1 * v2))] := h.facts 13 _ _ rfl l13
   have l14 := listed_of hall 14 rfl
   exact h.store ho rfl rfl rfl rfl rfl hb0.size (by rw [hL];decide) rfl hf l14 (fun b p q => run_store2 rfl p f59 q)
 ·intro L a w' h hall
  obtain ⟨b13,b1_13,bn_13,b2_13,b3_13⟩ := h.facts 14 _ _ rfl (hall 14 (by omega))
  rw [if_pos (hall 15 (by omega))] at b3_13
  have hD : IsS65 w0 w' g s3 := h.done (by simp only [List.mem_cons,List.not_mem_nil,or_false];intro i hi;exact hall i (by omega))
  have e := h.frame (fun t => if t = 13 then .pointer (some ⟨b13,0,none⟩) else a.tmps.getD t undef) (by
   intro x hx _
   simp only [List.mem_cons,List.not_mem_nil,or_false] at hx
   rcases hx with rfl | rfl | rfl | rfl | rfl | rfl | rfl | rfl | rfl | rfl | rfl | rfl | rfl | rfl | rfl | rfl
   all_goals first | rfl | assumption)
  have k := K (a.tmps.getD 46 undef) (a.tmps.getD 47 undef) (a.tmps.getD 48 undef) (a.tmps.getD 49 undef) (a.tmps.getD 50 undef) (a.tmps.getD 51 undef) (a.tmps.getD 52 undef) (a.tmps.getD 53 undef) (a.tmps.getD 54 undef) (a.tmps.getD 55 undef) (a.tmps.getD 56 undef) (a.tmps.getD 57 undef) (a.tmps.getD 58 undef) (a.tmps.getD 59 undef) b13 w' hD h.below h.keep b1_13 bn_13 b3_13
  clear K
  simp only [List.foldl_cons,List.foldl_nil,sB_,sS_,sZ_,List.set_nil,Nat.reduceEqDiff,reduceIte] at e
  rw [e]
  exact k
set_option maxHeartbeats 8000000 in
set_option maxRecDepth 100000 in
theorem Guards.region13 (b14 : Nat) (xa xb st bt q : Int) {ops : Array Oper} (hops : (Try.f5.body.bind (regionOf 13)) = some ops) {Q : Exit → Act → World → Prop} {ds : List Deferred} {id : Nat} (g : Nat) (s0 : Int)  {x0 x1 x3 x4 x5 x6 x8 x9 x10 x11 x12 x13 x15 x17 x18 x19 x20 x21 x22 x23 x24 x25 x26 x27 x28 x29 x30 x31 x32 x33 x34 x35 x36 x37 x38 x39 x40 x41 x42 x43 x44 x45 x46 x47 x48 x49 x50 x51 x52 x53 x54 x55 x56 x57 x58 x59 x60 x61 x62 x63 x64 x65 x66 x67 x68 x69 x70 x71 x72 x73 x74 x75 x76 x77 x78 x79 x80 x81 x82 x83 x84 x85 x86 x87 x88 x89 x90 x91 x92 x93 x94 x95 x96 x97 x98 x99 x100 x101 x102 x103 x104 x105 x106 x107 x108 x109 x110 x111 x112 x113 x114 x115 x116 x117 x118 x119 x120 x121 x122 x123 x124 x125 x126 x127 x128 x129 x130 x131 x132 x133 x134 x135 x136 x137 x138 x139 x140 x141 x142 x143 x144 x145 x146 x147 x148 x149 x150 x151 x152 x153 x154 x155 x156 x157 x158 x159 x160 x161 x162 x163 x164 x165 x166 x167 x168 x169 x170 x171 x172 x173 x174 x175 x176 x177 x178 x179 x180 x181 x182 x183 x184 x185 x186 x187 x188 x189 x190 x191 x192 x193 x194 x195 : Value} (w0 : World) {w : World} (hI : IsS65 w0 w g s0) (hb0 : Below w0.heap.size w0 w) (hx : -1000000000 ≤ xa ∧ xa ≤ xb ∧ xb ≤ 1000000000) (hst : 1 ≤ st ∧ st ≤ 1000000) (hd : 0 ≤ (xb - xa) / st ∧ (xb - xa) / st ≤ 2000000000) (hm : 0 ≤ st * q ∧ st * q ≤ 2000000000) (q0 : ∀ W,KeepBut w W g none → W.cell? ⟨b14,0,none⟩ = some (.int .i64 xa)) (q1 : ∀ W,KeepBut w W g none → W.cell? ⟨b14,1,none⟩ = some (.int .i64 xb)) (hq : K_Mod.f bt ((xb - xa) / st + 1) = some q)
  (K : ∀ (u110 u111 u112 u113 u114 u115 u116 u117 u118 u119 u120 u121 u122 u123 u124 u125 u126 u127 u128 u129 u130 u131 u132 u133 u134 u135 u136 u137 : Value) (b17 : Nat) (w' : World),IsS65 w0 w' g s0 → Below w0.heap.size w0 w' → KeepBut w w' g none → b17 ≠ g → w'.heap[b17]? = some (.cells #[.int .i64 xa,.int .i64 xb,.int .i64 (xa + (st * q)),.int .i64 (xa - st),.int .i64 (xb + st)] 3 (0,0)) → Q .normal { tmps := (x0 :: x1 :: .int .i64 bt :: x3 :: x4 :: x5 :: x6 :: .pointer (some ⟨g,0,none⟩) :: x8 :: x9 :: x10 :: x11 :: x12 :: x13 :: .pointer (some ⟨b14,0,none⟩) :: x15 :: .int .i64 st :: .slice (some ⟨b17,0,none⟩) 5 5 :: x18 :: x19 :: x20 :: x21 :: x22 :: x23 :: x24 :: x25 :: x26 :: x27 :: x28 :: x29 :: x30 :: x31 :: x32 :: x33 :: x34 :: x35 :: x36 :: x37 :: x38 :: x39 :: x40 :: x41 :: x42 :: x43 :: x44 :: x45 :: x46 :: x47 :: x48 :: x49 :: x50 :: x51 :: x52 :: x53 :: x54 :: x55 :: x56 :: x57 :: x58 :: x59 :: x60 :: x61 :: x62 :: x63 :: x64 :: x65 :: x66 :: x67 :: x68 :: x69 :: x70 :: x71 :: x72 :: x73 :: x74 :: x75 :: x76 :: x77 :: x78 :: x79 :: x80 :: x81 :: x82 :: x83 :: x84 :: x85 :: x86 :: x87 :: x88 :: x89 :: x90 :: x91 :: x92 :: x93 :: x94 :: x95 :: x96 :: x97 :: x98 :: x99 :: x100 :: x101 :: x102 :: x103 :: x104 :: x105 :: x106 :: x107 :: x108 :: x109 :: u110 :: u111 :: u112 :: u113 :: u114 :: u115 :: u116 :: u117 :: u118 :: u119 :: u120 :: u121 :: u122 :: u123 :: u124 :: u125 :: u126 :: u127 :: u128 :: u129 :: u130 :: u131 :: u132 :: u133 :: u134 :: u135 :: u136 :: u137 :: x138 :: x139 :: x140 :: x141 :: x142 :: x143 :: x144 :: x145 :: x146 :: x147 :: x148 :: x149 :: x150 :: x151 :: x152 :: x153 :: x154 :: x155 :: x156 :: x157 :: x158 :: x159 :: x160 :: x161 :: x162 :: x163 :: x164 :: x165 :: x166 :: x167 :: x168 :: x169 :: x170 :: x171 :: x172 :: x173 :: x174 :: x175 :: x176 :: x177 :: x178 :: x179 :: x180 :: x181 :: x182 :: x183 :: x184 :: x185 :: x186 :: x187 :: x188 :: x189 :: x190 :: x191 :: x192 :: x193 :: x194 :: x195 :: []).toArray,defers := ds } w') :
  (Code.region id ops true).wp Try.prog Q { tmps := (x0 :: x1 :: .int .i64 bt :: x3 :: x4 :: x5 :: x6 :: .pointer (some ⟨g,0,none⟩) :: x8 :: x9 :: x10 :: x11 :: x12 :: x13 :: .pointer (some ⟨b14,0,none⟩) :: x15 :: .int .i64 st :: x17 :: x18 :: x19 :: x20 :: x21 :: x22 :: x23 :: x24 :: x25 :: x26 :: x27 :: x28 :: x29 :: x30 :: x31 :: x32 :: x33 :: x34 :: x35 :: x36 :: x37 :: x38 :: x39 :: x40 :: x41 :: x42 :: x43 :: x44 :: x45 :: x46 :: x47 :: x48 :: x49 :: x50 :: x51 :: x52 :: x53 :: x54 :: x55 :: x56 :: x57 :: x58 :: x59 :: x60 :: x61 :: x62 :: x63 :: x64 :: x65 :: x66 :: x67 :: x68 :: x69 :: x70 :: x71 :: x72 :: x73 :: x74 :: x75 :: x76 :: x77 :: x78 :: x79 :: x80 :: x81 :: x82 :: x83 :: x84 :: x85 :: x86 :: x87 :: x88 :: x89 :: x90 :: x91 :: x92 :: x93 :: x94 :: x95 :: x96 :: x97 :: x98 :: x99 :: x100 :: x101 :: x102 :: x103 :: x104 :: x105 :: x106 :: x107 :: x108 :: x109 :: x110 :: x111 :: x112 :: x113 :: x114 :: x115 :: x116 :: x117 :: x118 :: x119 :: x120 :: x121 :: x122 :: x123 :: x124 :: x125 :: x126 :: x127 :: x128 :: x129 :: x130 :: x131 :: x132 :: x133 :: x134 :: x135 :: x136 :: x137 :: x138 :: x139 :: x140 :: x141 :: x142 :: x143 :: x144 :: x145 :: x146 :: x147 :: x148 :: x149 :: x150 :: x151 :: x152 :: x153 :: x154 :: x155 :: x156 :: x157 :: x158 :: x159 :: x160 :: x161 :: x162 :: x163 :: x164 :: x165 :: x166 :: x167 :: x168 :: x169 :: x170 :: x171 :: x172 :: x173 :: x174 :: x175 :: x176 :: x177 :: x178 :: x179 :: x180 :: x181 :: x182 :: x183 :: x184 :: x185 :: x186 :: x187 :: x188 :: x189 :: x190 :: x191 :: x192 :: x193 :: x194 :: x195 :: []).toArray,defers := ds } w := by
 obtain rfl := Option.some.inj (show some _ = some ops from hops)
 have hn : (([(110,.val (.pointer (some (⟨b14,0,none⟩)))),(111,.val (.int .i64 xa)),(112,.val (.pointer (some (⟨b14,1,none⟩)))),(113,.val (.int .i64 xb)),(114,.val (.pointer (some (⟨b14,0,none⟩)))),(115,.val (.int .i64 xa)),(116,.val (.int .i64 st)),(117,.val (.int .i64 bt)),(118,.val (.pointer (some (⟨b14,1,none⟩)))),(119,.val (.int .i64 xb)),(120,.val (.pointer (some (⟨b14,0,none⟩)))),(121,.val (.int .i64 xa)),(122,.val (.int .i64 (xb - xa))),(123,.val (.int .i64 st)),(124,.val (.int .i64 ((xb - xa) / st))),(125,.val (.int .i64 (((xb - xa) / st) + 1))),(126,.val (.int .i64 q)),(127,.val (.int .i64 (st * q))),(128,.val (.int .i64 (xa + (st * q)))),(129,.val (.pointer (some (⟨b14,0,none⟩)))),(130,.val (.int .i64 xa)),(131,.val (.int .i64 st)),(132,.val (.int .i64 (xa - st))),(133,.val (.pointer (some (⟨b14,1,none⟩)))),(134,.val (.int .i64 xb)),(135,.val (.int .i64 st)),(136,.val (.int .i64 (xb + st))),(137,.rown 3 #[.int .i64 xa,.int .i64 xb,.int .i64 (xa + (st * q)),.int .i64 (xa - st),.int .i64 (xb + st)] 5),(17,.rown 3 #[.int .i64 xa,.int .i64 xb,.int .i64 (xa + (st * q)),.int .i64 (xa - st),.int .i64 (xb + st)] 5)] : List (Nat × Left)).map (·.1)).Nodup := by simp only [List.map_cons,List.map_nil];decide
 have hcn : ([] : List Nat).Nodup := by decide
 refine wp_region_alln 29 (by kernel_rfl) rfl (by kernel_rfl) (DiceAt g (fun k => ([s0] : List Int).getD k 0) [] [(110,.val (.pointer (some (⟨b14,0,none⟩)))),(111,.val (.int .i64 xa)),(112,.val (.pointer (some (⟨b14,1,none⟩)))),(113,.val (.int .i64 xb)),(114,.val (.pointer (some (⟨b14,0,none⟩)))),(115,.val (.int .i64 xa)),(116,.val (.int .i64 st)),(117,.val (.int .i64 bt)),(118,.val (.pointer (some (⟨b14,1,none⟩)))),(119,.val (.int .i64 xb)),(120,.val (.pointer (some (⟨b14,0,none⟩)))),(121,.val (.int .i64 xa)),(122,.val (.int .i64 (xb - xa))),(123,.val (.int .i64 st)),(124,.val (.int .i64 ((xb - xa) / st))),(125,.val (.int .i64 (((xb - xa) / st) + 1))),(126,.val (.int .i64 q)),(127,.val (.int .i64 (st * q))),(128,.val (.int .i64 (xa + (st * q)))),(129,.val (.pointer (some (⟨b14,0,none⟩)))),(130,.val (.int .i64 xa)),(131,.val (.int .i64 st)),(132,.val (.int .i64 (xa - st))),(133,.val (.pointer (some (⟨b14,1,none⟩)))),(134,.val (.int .i64 xb)),(135,.val (.int .i64 st)),(136,.val (.int .i64 (xb + st))),(137,.rown 3 #[.int .i64 xa,.int .i64 xb,.int .i64 (xa + (st * q)),.int .i64 (xa - st),.int .i64 (xb + st)] 5),(17,.rown 3 #[.int .i64 xa,.int .i64 xb,.int .i64 (xa + (st * q)),.int .i64 (xa - st),.int .i64 (xb + st)] 5)] w0 w ((x0 :: x1 :: .int .i64 bt :: x3 :: x4 :: x5 :: x6 :: .pointer (some ⟨g,0,none⟩) :: x8 :: x9 :: x10 :: x11 :: x12 :: x13 :: .pointer (some ⟨b14,0,none⟩) :: x15 :: .int .i64 st :: x17 :: x18 :: x19 :: x20 :: x21 :: x22 :: x23 :: x24 :: x25 :: x26 :: x27 :: x28 :: x29 :: x30 :: x31 :: x32 :: x33 :: x34 :: x35 :: x36 :: x37 :: x38 :: x39 :: x40 :: x41 :: x42 :: x43 :: x44 :: x45 :: x46 :: x47 :: x48 :: x49 :: x50 :: x51 :: x52 :: x53 :: x54 :: x55 :: x56 :: x57 :: x58 :: x59 :: x60 :: x61 :: x62 :: x63 :: x64 :: x65 :: x66 :: x67 :: x68 :: x69 :: x70 :: x71 :: x72 :: x73 :: x74 :: x75 :: x76 :: x77 :: x78 :: x79 :: x80 :: x81 :: x82 :: x83 :: x84 :: x85 :: x86 :: x87 :: x88 :: x89 :: x90 :: x91 :: x92 :: x93 :: x94 :: x95 :: x96 :: x97 :: x98 :: x99 :: x100 :: x101 :: x102 :: x103 :: x104 :: x105 :: x106 :: x107 :: x108 :: x109 :: x110 :: x111 :: x112 :: x113 :: x114 :: x115 :: x116 :: x117 :: x118 :: x119 :: x120 :: x121 :: x122 :: x123 :: x124 :: x125 :: x126 :: x127 :: x128 :: x129 :: x130 :: x131 :: x132 :: x133 :: x134 :: x135 :: x136 :: x137 :: x138 :: x139 :: x140 :: x141 :: x142 :: x143 :: x144 :: x145 :: x146 :: x147 :: x148 :: x149 :: x150 :: x151 :: x152 :: x153 :: x154 :: x155 :: x156 :: x157 :: x158 :: x159 :: x160 :: x161 :: x162 :: x163 :: x164 :: x165 :: x166 :: x167 :: x168 :: x169 :: x170 :: x171 :: x172 :: x173 :: x174 :: x175 :: x176 :: x177 :: x178 :: x179 :: x180 :: x181 :: x182 :: x183 :: x184 :: x185 :: x186 :: x187 :: x188 :: x189 :: x190 :: x191 :: x192 :: x193 :: x194 :: x195 :: []).toArray) ds) (DiceAt.start (n := 29) rfl hI hb0) ?_ ?_
 ·intro i o hi ho L a w h hL hf hall
  have hcase : i = 0 ∨ i = 1 ∨ i = 2 ∨ i = 3 ∨ i = 4 ∨ i = 5 ∨ i = 6 ∨ i = 7 ∨ i = 8 ∨ i = 9 ∨ i = 10 ∨ i = 11 ∨ i = 12 ∨ i = 13 ∨ i = 14 ∨ i = 15 ∨ i = 16 ∨ i = 17 ∨ i = 18 ∨ i = 19 ∨ i = 20 ∨ i = 21 ∨ i = 22 ∨ i = 23 ∨ i = 24 ∨ i = 25 ∨ i = 26 ∨ i = 27 ∨ i = 28 := by omega
  clear hi K
  rcases hcase with rfl | rfl | rfl | rfl | rfl | rfl | rfl | rfl | rfl | rfl | rfl | rfl | rfl | rfl | rfl | rfl | rfl | rfl | rfl | rfl | rfl | rfl | rfl | rfl | rfl | rfl | rfl | rfl | rfl
  ·obtain rfl := Option.some.inj (show some _ = some o from ho)
   have f14 : a.tmps.getD 14 undef = .pointer (some ⟨b14,0,none⟩) := h.rest 14 rfl
   exact h.op ho rfl rfl rfl hn (Nat.lt_of_lt_of_eq (by decide : 110 < 196) rfl) rfl (run_field_34_0 w rfl f14) (Below.refl _ _) rfl rfl
  ·obtain rfl := Option.some.inj (show some _ = some o from ho)
   have l0 := listed_of hall 0 rfl
   have f110 : a.tmps.getD 110 undef = .pointer (some (⟨b14,0,none⟩)) := h.facts 0 _ _ rfl l0
   exact h.op ho rfl rfl rfl hn (Nat.lt_of_lt_of_eq (by decide : 111 < 196) rfl) rfl (run_load_3 w rfl f110 (q0 _ h.keep)) (Below.refl _ _) rfl rfl
  ·obtain rfl := Option.some.inj (show some _ = some o from ho)
   have f14 : a.tmps.getD 14 undef = .pointer (some ⟨b14,0,none⟩) := h.rest 14 rfl
   exact h.op ho rfl rfl rfl hn (Nat.lt_of_lt_of_eq (by decide : 112 < 196) rfl) rfl (run_field_34_1 w rfl f14) (Below.refl _ _) rfl rfl
  ·obtain rfl := Option.some.inj (show some _ = some o from ho)
   have l2 := listed_of hall 2 rfl
   have f112 : a.tmps.getD 112 undef = .pointer (some (⟨b14,1,none⟩)) := h.facts 2 _ _ rfl l2
   exact h.op ho rfl rfl rfl hn (Nat.lt_of_lt_of_eq (by decide : 113 < 196) rfl) rfl (run_load_3 w rfl f112 (q1 _ h.keep)) (Below.refl _ _) rfl rfl
  ·obtain rfl := Option.some.inj (show some _ = some o from ho)
   have f14 : a.tmps.getD 14 undef = .pointer (some ⟨b14,0,none⟩) := h.rest 14 rfl
   exact h.op ho rfl rfl rfl hn (Nat.lt_of_lt_of_eq (by decide : 114 < 196) rfl) rfl (run_field_34_0 w rfl f14) (Below.refl _ _) rfl rfl
  ·obtain rfl := Option.some.inj (show some _ = some o from ho)
   have l4 := listed_of hall 4 rfl
   have f114 : a.tmps.getD 114 undef = .pointer (some (⟨b14,0,none⟩)) := h.facts 4 _ _ rfl l4
   exact h.op ho rfl rfl rfl hn (Nat.lt_of_lt_of_eq (by decide : 115 < 196) rfl) rfl (run_load_3 w rfl f114 (q0 _ h.keep)) (Below.refl _ _) rfl rfl
  ·obtain rfl := Option.some.inj (show some _ = some o from ho)
   have f16 : a.tmps.getD 16 undef = .int .i64 st := h.rest 16 rfl
   exact h.op ho rfl rfl rfl hn (Nat.lt_of_lt_of_eq (by decide : 116 < 196) rfl) rfl (run_move w rfl f16) (Below.refl _ _) rfl rfl
  ·obtain rfl := Option.some.inj (show some _ = some o from ho)
   have f2 : a.tmps.getD 2 undef = .int .i64 bt := h.rest 2 rfl
   exact h.op ho rfl rfl rfl hn (Nat.lt_of_lt_of_eq (by decide : 117 < 196) rfl) rfl (run_move w rfl f2) (Below.refl _ _) rfl rfl
  ·obtain rfl := Option.some.inj (show some _ = some o from ho)
   have f14 : a.tmps.getD 14 undef = .pointer (some ⟨b14,0,none⟩) := h.rest 14 rfl
   exact h.op ho rfl rfl rfl hn (Nat.lt_of_lt_of_eq (by decide : 118 < 196) rfl) rfl (run_field_34_1 w rfl f14) (Below.refl _ _) rfl rfl
  ·obtain rfl := Option.some.inj (show some _ = some o from ho)
   have l8 := listed_of hall 8 rfl
   have f118 : a.tmps.getD 118 undef = .pointer (some (⟨b14,1,none⟩)) := h.facts 8 _ _ rfl l8
   exact h.op ho rfl rfl rfl hn (Nat.lt_of_lt_of_eq (by decide : 119 < 196) rfl) rfl (run_load_3 w rfl f118 (q1 _ h.keep)) (Below.refl _ _) rfl rfl
  ·obtain rfl := Option.some.inj (show some _ = some o from ho)
   have f14 : a.tmps.getD 14 undef = .pointer (some ⟨b14,0,none⟩) := h.rest 14 rfl
   exact h.op ho rfl rfl rfl hn (Nat.lt_of_lt_of_eq (by decide : 120 < 196) rfl) rfl (run_field_34_0 w rfl f14) (Below.refl _ _) rfl rfl
  ·obtain rfl := Option.some.inj (show some _ = some o from ho)
   have l10 := listed_of hall 10 rfl
   have f120 : a.tmps.getD 120 undef = .pointer (some (⟨b14,0,none⟩)) := h.facts 10 _ _ rfl l10
   exact h.op ho rfl rfl rfl hn (Nat.lt_of_lt_of_eq (by decide : 121 < 196) rfl) rfl (run_load_3 w rfl f120 (q0 _ h.keep)) (Below.refl _ _) rfl rfl
  ·obtain rfl := Option.some.inj (show some _ = some o from ho)
   have l9 := listed_of hall 9 rfl
   have f119 : a.tmps.getD 119 undef = .int .i64 xb := h.facts 9 _ _ rfl l9
   have l11 := listed_of hall 11 rfl
   have f121 : a.tmps.getD 121 undef = .int .i64 xa := h.facts 11 _ _ rfl l11
   exact h.op ho rfl rfl rfl hn (Nat.lt_of_lt_of_eq (by decide : 122 < 196) rfl) rfl (run_sub w rfl f119 f121 (by omega) (by omega)) (Below.refl _ _) rfl rfl
  ·obtain rfl := Option.some.inj (show some _ = some o from ho)
   have f16 : a.tmps.getD 16 undef = .int .i64 st := h.rest 16 rfl
   exact h.op ho rfl rfl rfl hn (Nat.lt_of_lt_of_eq (by decide : 123 < 196) rfl) rfl (run_move w rfl f16) (Below.refl _ _) rfl rfl
  ·obtain rfl := Option.some.inj (show some _ = some o from ho)
   have l12 := listed_of hall 12 rfl
   have f122 : a.tmps.getD 122 undef = .int .i64 (xb - xa) := h.facts 12 _ _ rfl l12
   have l13 := listed_of hall 13 rfl
   have f123 : a.tmps.getD 123 undef = .int .i64 st := h.facts 13 _ _ rfl l13
   exact h.op ho rfl rfl rfl hn (Nat.lt_of_lt_of_eq (by decide : 124 < 196) rfl) rfl (run_quo w rfl f122 f123 (by omega) (by omega) (by omega)) (Below.refl _ _) rfl rfl
  ·obtain rfl := Option.some.inj (show some _ = some o from ho)
   have l14 := listed_of hall 14 rfl
   have f124 : a.tmps.getD 124 undef = .int .i64 ((xb - xa) / st) := h.facts 14 _ _ rfl l14
   exact h.op ho rfl rfl rfl hn (Nat.lt_of_lt_of_eq (by decide : 125 < 196) rfl) rfl (run_add w rfl f124 rfl (by omega) (by omega)) (Below.refl _ _) rfl rfl
  ·obtain rfl := Option.some.inj (show some _ = some o from ho)
   have l7 := listed_of hall 7 rfl
   have f117 : a.tmps.getD 117 undef = .int .i64 bt := h.facts 7 _ _ rfl l7
   have l15 := listed_of hall 15 rfl
   have f125 : a.tmps.getD 125 undef = .int .i64 (((xb - xa) / st) + 1) := h.facts 15 _ _ rfl l15
   exact h.other (f := 11) (args := #[.int .i64 bt,.int .i64 (((xb - xa) / st) + 1)]) ho rfl rfl rfl hn (Nat.lt_of_lt_of_eq (by decide : 126 < 196) rfl) rfl rfl (run_call w rfl rfl (by simp only [List.map_toArray,List.map_cons,List.map_nil];rw [show a.eval (.tmp 117) = _ from f117];rw [show a.eval (.tmp 125) = _ from f125];first | done | rfl) (enters_of Try.func11 (by kernel_rfl) rfl) rfl) (mod_below bt (((xb - xa) / st) + 1) q w hq)
  ·obtain rfl := Option.some.inj (show some _ = some o from ho)
   have l6 := listed_of hall 6 rfl
   have f116 : a.tmps.getD 116 undef = .int .i64 st := h.facts 6 _ _ rfl l6
   have l16 := listed_of hall 16 rfl
   have f126 : a.tmps.getD 126 undef = .int .i64 q := h.facts 16 _ _ rfl l16
   exact h.op ho rfl rfl rfl hn (Nat.lt_of_lt_of_eq (by decide : 127 < 196) rfl) rfl (run_mul w rfl f116 f126 (by omega) (by omega)) (Below.refl _ _) rfl rfl
  ·obtain rfl := Option.some.inj (show some _ = some o from ho)
   have l5 := listed_of hall 5 rfl
   have f115 : a.tmps.getD 115 undef = .int .i64 xa := h.facts 5 _ _ rfl l5
   have l17 := listed_of hall 17 rfl
   have f127 : a.tmps.getD 127 undef = .int .i64 (st * q) := h.facts 17 _ _ rfl l17
   exact h.op ho rfl rfl rfl hn (Nat.lt_of_lt_of_eq (by decide : 128 < 196) rfl) rfl (run_add w rfl f115 f127 (by omega) (by omega)) (Below.refl _ _) rfl rfl
  ·obtain rfl := Option.some.inj (show some _ = some o from ho)
   have f14 : a.tmps.getD 14 undef = .pointer (some ⟨b14,0,none⟩) := h.rest 14 rfl
   exact h.op ho rfl rfl rfl hn (Nat.lt_of_lt_of_eq (by decide : 129 < 196) rfl) rfl (run_field_34_0 w rfl f14) (Below.refl _ _) rfl rfl
  ·obtain rfl := Option.some.inj (show some _ = some o from ho)
   have l19 := listed_of hall 19 rfl
   have f129 : a.tmps.getD 129 undef = .pointer (some (⟨b14,0,none⟩)) := h.facts 19 _ _ rfl l19
   exact h.op ho rfl rfl rfl hn (Nat.lt_of_lt_of_eq (by decide : 130 < 196) rfl) rfl (run_load_3 w rfl f129 (q0 _ h.keep)) (Below.refl _ _) rfl rfl
  ·obtain rfl := Option.some.inj (show some _ = some o from ho)
   have f16 : a.tmps.getD 16 undef = .int .i64 st := h.rest 16 rfl
   exact h.op ho rfl rfl rfl hn (Nat.lt_of_lt_of_eq (by decide : 131 < 196) rfl) rfl (run_move w rfl f16) (Below.refl _ _) rfl rfl
  ·obtain rfl := Option.some.inj (show some _ = some o from ho)
   have l20 := listed_of hall 20 rfl
   have f130 : a.tmps.getD 130 undef = .int .i64 xa := h.facts 20 _ _ rfl l20
   have l21 := listed_of hall 21 rfl
   have f131 : a.tmps.getD 131 undef = .int .i64 st := h.facts 21 _ _ rfl l21
   exact h.op ho rfl rfl rfl hn (Nat.lt_of_lt_of_eq (by decide : 132 < 196) rfl) rfl (run_sub w rfl f130 f131 (by omega) (by omega)) (Below.refl _ _) rfl rfl
  ·obtain rfl := Option.some.inj (show some _ = some o from ho)
   have f14 : a.tmps.getD 14 undef = .pointer (some ⟨b14,0,none⟩) := h.rest 14 rfl
   exact h.op ho rfl rfl rfl hn (Nat.lt_of_lt_of_eq (by decide : 133 < 196) rfl) rfl (run_field_34_1 w rfl f14) (Below.refl _ _) rfl rfl
  ·obtain rfl := Option.some.inj (show some _ = some o from ho)
   have l23 := listed_of hall 23 rfl
   have f133 : a.tmps.getD 133 undef = .pointer (some (⟨b14,1,none⟩)) := h.facts 23 _ _ rfl l23
   exact h.op ho rfl rfl rfl hn (Nat.lt_of_lt_of_eq (by decide : 134 < 196) rfl) rfl (run_load_3 w rfl f133 (q1 _ h.keep)) (Below.refl _ _) rfl rfl
  ·obtain rfl := Option.some.inj (show some _ = some o from ho)
   have f16 : a.tmps.getD 16 undef = .int .i64 st := h.rest 16 rfl
   exact h.op ho rfl rfl rfl hn (Nat.lt_of_lt_of_eq (by decide : 135 < 196) rfl) rfl (run_move w rfl f16) (Below.refl _ _) rfl rfl
  ·obtain rfl := Option.some.inj (show some _ = some o from ho)
   have l24 := listed_of hall 24 rfl
   have f134 : a.tmps.getD 134 undef = .int .i64 xb := h.facts 24 _ _ rfl l24
   have l25 := listed_of hall 25 rfl
   have f135 : a.tmps.getD 135 undef = .int .i64 st := h.facts 25 _ _ rfl l25
   exact h.op ho rfl rfl rfl hn (Nat.lt_of_lt_of_eq (by decide : 136 < 196) rfl) rfl (run_add w rfl f134 f135 (by omega) (by omega)) (Below.refl _ _) rfl rfl
  ·obtain rfl := Option.some.inj (show some _ = some o from ho)
   have l1 := listed_of hall 1 rfl
   have f111 : a.tmps.getD 111 undef = .int .i64 xa := h.facts 1 _ _ rfl l1
   have l3 := listed_of hall 3 rfl
   have f113 : a.tmps.getD 113 undef = .int .i64 xb := h.facts 3 _ _ rfl l3
   have l18 := listed_of hall 18 rfl
   have f128 : a.tmps.getD 128 undef = .int .i64 (xa + (st * q)) := h.facts 18 _ _ rfl l18
   have l22 := listed_of hall 22 rfl
   have f132 : a.tmps.getD 132 undef = .int .i64 (xa - st) := h.facts 22 _ _ rfl l22
   have l26 := listed_of hall 26 rfl
   have f136 : a.tmps.getD 136 undef = .int .i64 (xb + st) := h.facts 26 _ _ rfl l26
   exact h.op ho rfl rfl rfl hn (Nat.lt_of_lt_of_eq (by decide : 137 < 196) rfl) rfl (run_row_22_int_int_int_int_int w rfl f111 f113 f128 f132 f136) (bA_ (Below.refl _ _) _) rfl ⟨w.heap.size,h.fresh,rfl,heap_alloc_new w _⟩
  ·obtain rfl := Option.some.inj (show some _ = some o from ho)
   have l27 := listed_of hall 27 rfl
   obtain ⟨b_27,b1_27,b2_27,b3_27⟩ := h.facts 27 _ _ rfl l27
   exact h.op ho rfl rfl rfl hn (Nat.lt_of_lt_of_eq (by decide : 17 < 196) rfl) rfl (run_assign w rfl b2_27) (Below.refl _ _) rfl ⟨b_27,b1_27,rfl,b3_27⟩
 ·intro L a w' h hall
  obtain ⟨b17,b1_17,b2_17,b3_17⟩ := h.facts 28 _ _ rfl (hall 28 (by omega))
  have hD : IsS65 w0 w' g s0 := h.done (by intro i hi;cases hi)
  have e := h.frame (fun t => if t = 17 then .slice (some ⟨b17,0,none⟩) 5 5 else a.tmps.getD t undef) (by
   intro x hx _
   simp only [List.mem_cons,List.not_mem_nil,or_false] at hx
   rcases hx with rfl | rfl | rfl | rfl | rfl | rfl | rfl | rfl | rfl | rfl | rfl | rfl | rfl | rfl | rfl | rfl | rfl | rfl | rfl | rfl | rfl | rfl | rfl | rfl | rfl | rfl | rfl | rfl | rfl
   all_goals first | rfl | assumption)
  have k := K (a.tmps.getD 110 undef) (a.tmps.getD 111 undef) (a.tmps.getD 112 undef) (a.tmps.getD 113 undef) (a.tmps.getD 114 undef) (a.tmps.getD 115 undef) (a.tmps.getD 116 undef) (a.tmps.getD 117 undef) (a.tmps.getD 118 undef) (a.tmps.getD 119 undef) (a.tmps.getD 120 undef) (a.tmps.getD 121 undef) (a.tmps.getD 122 undef) (a.tmps.getD 123 undef) (a.tmps.getD 124 undef) (a.tmps.getD 125 undef) (a.tmps.getD 126 undef) (a.tmps.getD 127 undef) (a.tmps.getD 128 undef) (a.tmps.getD 129 undef) (a.tmps.getD 130 undef) (a.tmps.getD 131 undef) (a.tmps.getD 132 undef) (a.tmps.getD 133 undef) (a.tmps.getD 134 undef) (a.tmps.getD 135 undef) (a.tmps.getD 136 undef) (a.tmps.getD 137 undef) b17 w' hD h.below h.keep b1_17 b3_17
  clear K
  simp only [List.foldl_cons,List.foldl_nil,sB_,sS_,sZ_,Nat.reduceEqDiff,reduceIte] at e
  rw [e]
  exact k
def L_GaugeGuards.f (l0 : List Int) (_a1 _a2 : Int) : Option Bool := if l0.length ≤ maxLen then some true else none
theorem GaugeGuards (l0 : List Int) (a1 a2 : Int) (h : l0.length ≤ maxLen) : L_GaugeGuards.f l0 a1 a2 = some true := if_pos h
def GuardAt (lo hi : Int) (i x0 x1 e : Int) : Prop := (i < 2 ∧ e = 0 ∧ lo ≤ x0 ∧ x1 ≤ hi) ∨ (i = 2 ∧ ((e = 0 ∧ lo ≤ x0 ∧ x1 ≤ hi) ∨ e = 12)) ∨ (2 < i ∧ (e ≠ 0 ∨ (e = 0 ∧ ¬ lo ≤ x0) ∨ (e = 0 ∧ lo ≤ x0 ∧ ¬ x1 ≤ hi)))
theorem notIn_cases {lo hi : Int} {r : Int × Int × Int} (h : NotIn lo hi r) : r.2.2 ≠ 0 ∨ (r.2.2 = 0 ∧ ¬ lo ≤ r.1) ∨ (r.2.2 = 0 ∧ lo ≤ r.1 ∧ ¬ r.2.1 ≤ hi) := by
 unfold NotIn at h
 by_cases h1 : r.2.2 = 0
 ·by_cases h2 : lo ≤ r.1
  ·rcases h with h | h | h
   ·exact absurd h1 h
   ·exact absurd h2 h
   ·exact .inr (.inr ⟨h1,h2,h⟩)
  ·exact .inr (.inl ⟨h1,h2⟩)
 ·exact .inl h1
set_option maxHeartbeats 8000000 in
set_option maxRecDepth 100000 in
theorem L_GaugeGuards.calls (A0 : Option Addr) (c0 : Nat) (l0 : List Int) (a1 a2 : Int) (r : Bool) (w : World) (hr0 : Kd.C (Kd.int .i64) w A0 l0.length l0) (hc0 : l0.length ≤ c0) (h : L_GaugeGuards.f l0 a1 a2 = some r) :
  Calls Try.prog 5 #[.slice A0 l0.length c0,.int .i64 a1,.int .i64 a2] w fun e w' => e = .returned (.bool r) ∧ Below w.heap.size w w' := by
 unfold L_GaugeGuards.f at h
 split at h
 case isFalse => cases h
 rename_i hl
 obtain rfl := Option.some.inj h
 clear h
 have AW : Aside0 (∀ W,Calls Try.prog 18 #[] W fun e w' => e = .returned (.bool true) ∧ Below W.heap.size W w') := ⟨fun W => L_awake.calls 3 true W L_awake.holds⟩
 have hu34 := Try.underlying34
 have hu35 := Try.underlying35
 have hu49 := Try.underlying49
 have HR0 := aM_ hr0
 clear hr0
 have HD := aM_ (dice_some hl)
 obtain ⟨l,s1,e1,hM,h1,h3⟩ := bench_some (diceOf l0) 3 (by omega) (by omega)
 obtain ⟨m,s2,e2,m0,m1⟩ := upto_some s1 (l.length : Int) (by omega) (by omega)
 obtain ⟨t,e3,t0,t1⟩ := mod_any a1 200001 (by omega) (by omega)
 obtain ⟨n,s4,y,hE,hS,y0,y1,ht,d1,d2⟩ := showing_ev hM (by omega) s2 m (t - 100000) m0 m1 100000 (by omega) (by omega) (by omega) (by omega)
 obtain ⟨kf,e4⟩ := hE.rounds
 have hb := hM.ok (by omega)
 have hck := checkP_ok hb hM.down
 obtain ⟨g1,g2,g3⟩ := source_of_seen hb m1 hS d1 d2 (by omega) (by omega)
 obtain ⟨st0,st1,M0,M1,hK⟩ := accStep hb m0 m1
 obtain ⟨_,_,_,_,_,_,a7,a8,_⟩ := hM.at m m0 m1
 obtain ⟨kn,hkn⟩ : ∃ kn,n = kn * stepK l m := by
  obtain ⟨c,hc⟩ := Int.dvd_of_tmod_eq_zero ht
  exact ⟨c,by rw [hc,Int.mul_comm];rfl⟩
 have hnr : -1000000000 ≤ n ∧ n ≤ 1000000000 := by omega
 obtain ⟨k0,k1⟩ := most_of hb m0 m1 (k := kn) (by omega) (by omega)
 have hsure : accSure l m kn = true := by unfold accSure srcK;rw [← hkn];exact g1
 have hT := true_k hck m0 m1 kn
 rw [← hkn,if_neg (by omega),if_pos hsure] at hT
 have hse := sure_ends hsure
 obtain ⟨ra,rb,hra⟩ : ∃ ra rb,ra = (srcK l m kn).1 ∧ rb = (srcK l m kn).2.1 := ⟨_,_,rfl,rfl⟩
 rw [← hra.1,← hra.2] at hT hse
 have eT := true_any l (by omega) m n
 rw [hT] at eT
 obtain ⟨u0,s5,e5,u00,u01⟩ := upto_some s4 3 (by omega) (by omega)
 obtain ⟨u1,s6,e6,u10,u11⟩ := upto_some s5 3 (by omega) (by omega)
 obtain ⟨u2,s7,e7,u20,u21⟩ := upto_some s6 3000 (by omega) (by omega)
 have hmul : 0 ≤ u1 * u2 ∧ u1 * u2 ≤ 9000 := ⟨Int.mul_nonneg u10 u20,by
  have h1 := Int.mul_le_mul_of_nonneg_left (show u2 ≤ 3000 by omega) u10
  have h2 := Int.mul_le_mul_of_nonneg_right (show u1 ≤ 3 by omega) (show (0 : Int) ≤ 3000 by omega)
  omega⟩
 obtain ⟨lo,hi,hlo,hhi⟩ : ∃ lo hi,lo = ra - u0 ∧ hi = rb + u1 * u2 := ⟨_,_,rfl,rfl⟩
 have G : Guarded l m lo hi kn := guarded hb m0 m1 k0 k1 (by unfold accLo;rw [← hra.1,← hra.2];exact decide_eq_true ⟨by omega,by omega⟩) (by unfold accHi;rw [← hra.1,← hra.2];exact decide_eq_false (by omega)) hsure
 have hGa := guard_mid hck m0 m1 G (Int.le_refl _) (by have := G.a1;have := G.b0;omega)
 have hGb := guard_mid hck m0 m1 G (k := accB l m lo hi) (by have := G.a1;have := G.b0;omega) (Int.le_refl _)
 have hacc : gauge_Accept.f l m lo hi = some (accA l m lo hi * stepK l m,accB l m lo hi * stepK l m,0) := by
  unfold gauge_Accept.f
  rw [if_pos (by omega),if_neg (by omega),if_neg (by omega),if_neg (by omega)]
  unfold acceptP
  rw [if_neg (by have := G.a1;have := G.b0;omega)]
 have hAn : accA l m lo hi * stepK l m ≤ n := by rw [hkn];exact Int.mul_le_mul_of_nonneg_right G.a1 (by omega)
 have hBn : n ≤ accB l m lo hi * stepK l m := by rw [hkn];exact Int.mul_le_mul_of_nonneg_right G.b0 (by omega)
 have hq0 : (accB l m lo hi * stepK l m - accA l m lo hi * stepK l m) / stepK l m = accB l m lo hi - accA l m lo hi := by rw [← Int.sub_mul];exact Int.mul_ediv_cancel _ (by omega)
 have hab : accA l m lo hi ≤ accB l m lo hi := by have := G.a1;have := G.b0;omega
 have hABd : accB l m lo hi - accA l m lo hi ≤ 2000000000 := by have := G.a0;have := G.b1;have := G.ra;have := G.rb;omega
 obtain ⟨q,e8,q0,q1⟩ := mod_any a2 (accB l m lo hi - accA l m lo hi + 1) (by omega) (by omega)
 have hGq := guard_mid hck m0 m1 G (k := accA l m lo hi + q) (by omega) (by omega)
 have hO := guard_out hck m0 m1 G
 obtain ⟨aL,haL⟩ : ∃ x,x = accA l m lo hi * stepK l m := ⟨_,rfl⟩
 obtain ⟨bL,hbL⟩ : ∃ x,x = accB l m lo hi * stepK l m := ⟨_,rfl⟩
 have hqm : 0 ≤ stepK l m * q ∧ stepK l m * q ≤ bL - aL := ⟨Int.mul_nonneg (by omega) q0,by
  rw [haL,hbL,← Int.sub_mul,Int.mul_comm (stepK l m) q]
  exact Int.mul_le_mul_of_nonneg_right (by omega) (by omega)⟩
 have ez0 : aL + stepK l m * q = (accA l m lo hi + q) * stepK l m := by rw [haL,Int.add_mul,Int.mul_comm (stepK l m) q]
 have ez1 : aL - stepK l m = (accA l m lo hi - 1) * stepK l m := by rw [haL,Int.sub_mul,Int.one_mul]
 have ez2 : bL + stepK l m = (accB l m lo hi + 1) * stepK l m := by rw [hbL,Int.add_mul,Int.one_mul]
 have hmA : Int.tmod aL (stepK l m) = 0 := by rw [haL];exact Int.mul_tmod_left _ _
 have hmB : Int.tmod bL (stepK l m) = 0 := by rw [hbL];exact Int.mul_tmod_left _ _
 have HG : Aside0 (∀ i : Int,0 ≤ i → i < 5 → ∃ x0 x1 e,gauge_True.f l m (rd [aL,bL,aL + stepK l m * q,aL - stepK l m,bL + stepK l m] i) = some (x0,x1,e) ∧ GuardAt lo hi i x0 x1 e) := ⟨fun i i0 i1 => by
  have hcase : i = 0 ∨ i = 1 ∨ i = 2 ∨ i = 3 ∨ i = 4 := by omega
  rcases hcase with rfl | rfl | rfl | rfl | rfl
  ·refine ⟨_,_,_,true_any l (by omega) m _,?_⟩
   show GuardAt lo hi 0 (trueP l m aL).1 (trueP l m aL).2.1 (trueP l m aL).2.2
   rw [haL]
   rcases hGa.2.2 with ⟨_,h,z1,z2⟩ | h
   ·rw [h];exact .inl ⟨by omega,rfl,z1,z2⟩
   ·have hh := true_k hck m0 m1 (accA l m lo hi)
    rw [if_neg (by omega),if_pos G.sa,h] at hh
    have h12 : (12 : Int) = 0 := congrArg (fun r : Int × Int × Int => r.2.2) hh
    omega
  ·refine ⟨_,_,_,true_any l (by omega) m _,?_⟩
   show GuardAt lo hi 1 (trueP l m bL).1 (trueP l m bL).2.1 (trueP l m bL).2.2
   rw [hbL]
   rcases hGb.2.2 with ⟨_,h,z1,z2⟩ | h
   ·rw [h];exact .inl ⟨by omega,rfl,z1,z2⟩
   ·have hh := true_k hck m0 m1 (accB l m lo hi)
    rw [if_neg (by omega),if_pos G.sb,h] at hh
    have h12 : (12 : Int) = 0 := congrArg (fun r : Int × Int × Int => r.2.2) hh
    omega
  ·refine ⟨_,_,_,true_any l (by omega) m _,?_⟩
   show GuardAt lo hi 2 (trueP l m (aL + stepK l m * q)).1 (trueP l m (aL + stepK l m * q)).2.1 (trueP l m (aL + stepK l m * q)).2.2
   rw [ez0]
   rcases hGq.2.2 with ⟨_,h,z1,z2⟩ | h
   ·rw [h];exact .inr (.inl ⟨rfl,.inl ⟨rfl,z1,z2⟩⟩)
   ·rw [h];exact .inr (.inl ⟨rfl,.inr rfl⟩)
  ·refine ⟨_,_,_,true_any l (by omega) m _,?_⟩
   show GuardAt lo hi 3 (trueP l m (aL - stepK l m)).1 (trueP l m (aL - stepK l m)).2.1 (trueP l m (aL - stepK l m)).2.2
   rw [ez1]
   exact .inr (.inr ⟨by omega,notIn_cases hO.1⟩)
  ·refine ⟨_,_,_,true_any l (by omega) m _,?_⟩
   show GuardAt lo hi 4 (trueP l m (bL + stepK l m)).1 (trueP l m (bL + stepK l m)).2.1 (trueP l m (bL + stepK l m)).2.2
   rw [ez2]
   exact .inr (.inr ⟨by omega,notIn_cases hO.2⟩)⟩
 rw [← haL,← hbL] at hacc hq0
 rw [← haL] at hAn hGa
 rw [← hbL] at hBn hGb
 have hrng : -1000000000 ≤ aL ∧ aL ≤ bL ∧ bL ≤ 1000000000 := by
  have h1 := hGa.1
  have h2 := hGb.2.1
  omega
 have E1 := aM_ e1
 have E2 := aM_ e2
 have E3 := aM_ e3
 have E4 := aM_ e4
 have E5 := aM_ e5
 have E6 := aM_ e6
 have E7 := aM_ e7
 have E8 := aM_ (show K_Mod.f a2 ((bL - aL) / stepK l m + 1) = some q by rw [hq0];exact e8)
 have ET := aM_ eT
 have EA := aM_ hacc
 have HIN := aM_ (show -1000000000 ≤ ra ∧ ra ≤ 1000000000 ∧ -1000000000 ≤ rb ∧ rb ≤ 1000000000 by omega)
 have HU := aM_ (And.intro u00 u01)
 have HMU := aM_ hmul
 have HRN := aM_ hrng
 have HST := aM_ (And.intro st0 st1)
 have HQD := aM_ (show 0 ≤ (bL - aL) / stepK l m ∧ (bL - aL) / stepK l m ≤ 2000000000 by rw [hq0];omega)
 have HQM := aM_ (show 0 ≤ stepK l m * q ∧ stepK l m * q ≤ 2000000000 by omega)
 have HTM := aM_ (And.intro hmA hmB)
 have HN := aM_ (And.intro hAn hBn)
 have HL := aM_ (And.intro hlo hhi)
 have HM1 := aM_ m1
 have HMZ := aM_ m0
 have hrd2 : (rd_T49 l m).f2 = stepK l m := rfl
 clear e1 e2 e3 e4 e5 e6 e7 e8 eT hacc u00 u01 u10 u11 u20 u21 hmul hl hE hM hT hS y0 y1 ht d1 d2 hb hck g1 g2 g3 st0 st1 M0 M1 hK a7 a8 hkn hnr k0 k1 hsure hse hra G hGa hGb hGq hO hAn hBn hq0 hab hABd q0 q1 haL hbL hqm ez0 ez1 ez2 hmA hmB hrng hlo hhi
 go_enter Try.func5,Try.ntmps5
 go_wp2_with (fail)
 (with_reducible refine (K_NewDice.calls _ _ l0 (diceOf l0) w _ (Below.refl _ _) HR0.out hc0 HD.out).mono ?_)
 rintro e w1 ⟨g,rfl,hi',hb,hb2⟩
 have HI1 := aM_ hi'
 have HB1 := aM_ hb
 clear hi' hb hb2 HD HR0
 go_wp2_with (fail)
 (with_reducible refine (K_BenchOf.calls g (diceOf l0) 3 l s1 w _ HI1.out HB1.out E1.out).mono ?_)
 rintro e w2 ⟨v8,rfl,ho,hi',hb,hk⟩
 obtain ⟨A1,cc,rfl⟩ := Kd.R_slice ho
 have HI2 := aM_ hi'
 have HB2 := aM_ hb
 have HO2 := aM_ ho
 clear hi' hb hk ho HI1 HB1 E1
 go_wp2_with (fail)
 (with_reducible refine (D_Upto.calls g s1 (l.length : Int) m s2 w _ HI2.out HB2.out E2.out).mono ?_)
 rintro e w3 ⟨rfl,hi',hb,hk⟩
 have HI3 := aM_ hi'
 have HB3 := aM_ hb
 have HC3 := aM_ (fun W h => Kd.C_foot_own (IsS65.apart HI2.out HO2.out (by decide)) (fun _ h_ => h_.2) W (KeepBut.trans hk h (.inl rfl)))
 have HCL := aM_ (Kd.R_reads' HO2.out).2.1
 clear hi' hb hk HI2 HB2 E2 HO2
 go_wp2_with (fail)
 (with_reducible refine (K_Mod.calls a1 200001 t _ E3.out).mono ?_)
 rintro e w4 ⟨rfl,⟨nd,rfl⟩⟩
 have hk4 : KeepBut w3 (w3.drewN nd) g none := eN_ (KeepBut.refl w3 g none) nd
 have HC4 := aM_ (fun W h => HC3.out W (hk4.trans h (.inl rfl)))
 have HI4 := aM_ (IsS65.drewN HI3.out nd)
 have HB4 := aM_ (bN_ HB3.out nd)
 obtain ⟨w4,h4'⟩ : ∃ W,W = w3.drewN nd := ⟨_,rfl⟩
 rw [← h4'] at HC4 HI4 HB4 ⊢
 clear h4' hk4 HI3 HB3 E3 HC3
 go_wp2_with (fail)
 (with_reducible refine (K_Showing.calls kf g s2 _ _ l m (t - 100000) n s4 w _ HI4.out HB4.out HC4.out HCL.out E4.out).mono ?_)
 rintro e w5 ⟨rfl,hi',hb,hk⟩
 have HI5 := aM_ hi'
 have HB5 := aM_ hb
 have HC5 := aM_ (fun W h => HC4.out W (hk.trans h (.inl rfl)))
 clear hi' hb hk HI4 HB4 HC4 E4
 go_wp2_with (fail)
 (with_reducible refine (gauge_True.calls _ _ l m n ra rb 0 _ (HC5.out _ (KeepBut.refl _ _ _)) HCL.out ET.out).mono ?_)
 rintro e w6 ⟨rfl,hb⟩
 have hk6 : KeepBut w5 w6 g none := KeepBut.of_below hb g none
 have HI6 := aM_ (IsS65.below HI5.out hb)
 have HB6 := aM_ (bT_ HB5.out hb)
 have HC6 := aM_ (fun W h => HC5.out W (hk6.trans h (.inl rfl)))
 clear hb hk6 HI5 HB5 HC5 ET
 go_wp2_with (fail)
 have b67 : Below w6.heap.size w6 (w6.alloc (.cells #[.int .i64 ra,.int .i64 rb] 34)) := bA_ (Below.refl _ _) _
 have HV7 := aM_ ((Vars.nil g w6).new HI6.out.lt ra rb)
 have HI7 := aM_ (IsS65.below HI6.out b67)
 have HB7 := aM_ (bT_ HB6.out b67)
 have HC7 := aM_ (fun W h => HC6.out W (KeepBut.trans (KeepBut.of_below b67 g none) h (.inl rfl)))
 clear b67 HI6 HB6 HC6
 obtain ⟨b11,h16⟩ : ∃ b,w6.heap.size = b := ⟨_,rfl⟩
 obtain ⟨w7,h7⟩ : ∃ W,w6.alloc (.cells #[.int .i64 ra,.int .i64 rb] 34) = W := ⟨_,rfl⟩
 rw [h7,h16] at HV7
 rw [h7] at HI7 HB7 HC7
 rw [h7,h16]
 clear h7 h16
 refine Guards.region8 b11 ra rb (by kernel_rfl) g s4 s5 s6 s7 u0 u1 u2 w HI7.out HB7.out HIN.out HU.out HMU.out (HV7.out.lo 0 rfl) (HV7.out.hi 0 rfl) E5.out E6.out E7.out ?_
 intro u46 u47 u48 u49 u50 u51 u52 u53 u54 u55 u56 u57 u58 u59 b13 w8 hi' hb hk n13 ge13 c13
 rw [← HL.out.1,← HL.out.2] at c13
 have HV8 := aM_ (Vars.cons n13 c13 (Vars.nil _ _))
 have HI8 := aM_ hi'
 have HB8 := aM_ hb
 have HC8 := aM_ (fun W h => HC7.out W (hk.trans h (.inl rfl)))
 have z0 := HV8.out.lo 0 rfl w8 (KeepBut.refl _ _ _)
 have z1 := HV8.out.hi 0 rfl w8 (KeepBut.refl _ _ _)
 clear hi' hb hk n13 ge13 c13 HI7 HB7 HV7 HC7 E5 E6 E7 HIN HU HMU HL
 go_wp2_with (fail)
 (with_reducible refine (gauge_Accept.calls _ _ l m lo hi aL bL 0 _ (HC8.out _ (KeepBut.refl _ _ _)) HCL.out EA.out).mono ?_)
 rintro e w9 ⟨rfl,hb⟩
 have b90 : Below w8.heap.size w8 (w9.alloc (.cells #[.int .i64 aL,.int .i64 bL] 34)) := bA_ hb _
 have hk9 : KeepBut w8 (w9.alloc (.cells #[.int .i64 aL,.int .i64 bL] 34)) g none := KeepBut.of_below b90 g none
 have HI9 := aM_ (IsS65.below HI8.out b90)
 have HB9 := aM_ (bT_ HB8.out b90)
 have HC9 := aM_ (fun W h => HC8.out W (hk9.trans h (.inl rfl)))
 have HV9 := aM_ ((HV8.out.keep (KeepBut.of_below hb g none)).new (Nat.lt_of_lt_of_le HI8.out.lt hb.size) aL bL)
 obtain ⟨ad,hA1,_,_,_,_,z4,_,_⟩ := at_T49 (HC8.out w9 (KeepBut.of_below hb g none)) m HMZ.out HM1.out
 rw [hrd2] at z4
 have z5 := World.block_lt_of_cell? w9 _ z4
 subst hA1
 have x1 := HN.out.1
 have x2 := HN.out.2
 have x3 := HTM.out.1
 have x4 := HTM.out.2
 have x5 := HRN.out
 have x6 := HST.out.1
 have x7 : m < (l.length : Int) := HM1.out
 clear b90 hk9 hb z0 z1 HI8 HB8 HC8 HV8 EA
 generalize hst : stepK l m = st at *
 clear hst hrd2
 go_wp2_with (fail)
 obtain ⟨b14,h14⟩ : ∃ b,w9.heap.size = b := ⟨_,rfl⟩
 obtain ⟨w10,h10⟩ : ∃ W,w9.alloc (.cells #[.int .i64 aL,.int .i64 bL] 34) = W := ⟨_,rfl⟩
 rw [h10,h14] at HV9
 rw [h10] at HI9 HB9 HC9
 rw [h10,h14]
 clear h10 h14 z4 z5 x1 x2 x3 x4
 refine Guards.region13 b14 aL bL st a2 q (by kernel_rfl) g s7 w HI9.out HB9.out HRN.out HST.out HQD.out HQM.out (HV9.out.lo 0 rfl) (HV9.out.hi 0 rfl) E8.out ?_
 intro u110 u111 u112 u113 u114 u115 u116 u117 u118 u119 u120 u121 u122 u123 u124 u125 u126 u127 u128 u129 u130 u131 u132 u133 u134 u135 u136 u137 b17 w11 hi' hb hk n17 c17
 have HI11 := aM_ hi'
 have HB11 := aM_ hb
 have HC11 := aM_ (fun W h => HC9.out W (hk.trans h (.inl rfl)))
 have HV11 := aM_ (HV9.out.keep hk)
 have N17 := aM_ n17
 have C17 := aM_ c17
 clear hi' hb hk n17 c17 HI9 HB9 HC9 HV9 E8 HQD HQM HRN HST HN HTM x5 x6
 go_wp2_with (fail)
 go_loopg [18] 5 (fun kx v18 wr => ∃ i : Int,v18 = .int .i64 i ∧ 0 ≤ i ∧ i ≤ 5 ∧ (5 - i).toNat ≤ kx ∧ Aside0 (IsS65 w wr g s7) ∧ Aside0 (Below w.heap.size w wr) ∧ Aside0 (KeepBut w11 wr g none))
 case atStart => exact ⟨0,rfl,by omega,by omega,by omega,HI11,HB11,⟨KeepBut.refl _ _ _⟩⟩
 case round =>
  clear HI11 HB11
  obtain ⟨i,rfl,i0,i1,hkx,HI,HB,HK⟩ := hrel
  by_cases hlt : i < 5
  ·obtain ⟨x0,x1,e,hT,hGA⟩ := HG.out i i0 hlt
   have T1 := aM_ hT
   have GA := aM_ hGA
   have z5 : wr.cell? ⟨b17,i.toNat,none⟩ = some (.int .i64 (rd [aL,bL,aL + st * q,aL - st,bL + st] i)) := by
    have hcase : i = 0 ∨ i = 1 ∨ i = 2 ∨ i = 3 ∨ i = 4 := by omega
    rcases hcase with rfl | rfl | rfl | rfl | rfl <;> exact keep_cellb HK.out N17.out C17.out rfl
   generalize rd [aL,bL,aL + st * q,aL - st,bL + st] i = nn at z5 T1
   clear hT hGA
   go_wp2_with (fail)
   (with_reducible refine (gauge_True.calls _ _ l m nn x0 x1 e _ (HC11.out _ HK.out) HCL.out T1.out).mono ?_)
   rintro e' w12 ⟨rfl,hb⟩
   have b12 : Below wr.heap.size wr (w12.alloc (.cells #[.int .i64 x0,.int .i64 x1] 34)) := bA_ hb _
   have hk12 : KeepBut wr w12 g none := KeepBut.of_below hb g none
   have HI12 := aM_ (IsS65.below HI.out b12)
   have HB12 := aM_ (bT_ HB.out b12)
   have HK12 := aM_ (HK.out.trans (KeepBut.of_below b12 g none) (.inl rfl))
   have z0 := HV11.out.lo 1 rfl w12 (HK.out.trans hk12 (.inl rfl))
   have z1 := HV11.out.hi 1 rfl w12 (HK.out.trans hk12 (.inl rfl))
   have hb13 := World.block_lt_of_cell? _ _ z0
   clear b12 hk12 hb z5 HI HB HK T1
   rcases GA.out with ⟨h1,rfl,h2,h3⟩ | ⟨rfl,h⟩ | ⟨h1,h⟩
   ·have g1 : ¬ 5 ≤ i := by omega
    have g2 : ¬ i = 2 := by omega
    have g4 : ¬ 2 < i := by omega
    clear GA
    go_wp2_with (fail)
    go_roundg (5 - (i + 1)).toNat
    case measure => omega
    case rel => exact ⟨i + 1,rfl,by omega,by omega,Nat.le_refl _,HI12,HB12,HK12⟩
   ·rcases h with ⟨rfl,h2,h3⟩ | rfl
    all_goals
     clear GA
     go_wp2_with (fail)
     go_roundg (5 - 3 : Int).toNat
     case measure => omega
     case rel => exact ⟨3,rfl,by omega,by omega,Nat.le_refl _,HI12,HB12,HK12⟩
   ·have g1 : ¬ 5 ≤ i := by omega
    have g2 : ¬ i = 2 := by omega
    have g3 : ¬ i < 2 := by omega
    rcases h with h2 | ⟨rfl,h2⟩ | ⟨rfl,h2,h3⟩
    all_goals
     clear GA
     go_wp2_with (fail)
     go_roundg (5 - (i + 1)).toNat
     case measure => omega
     case rel => exact ⟨i + 1,rfl,by omega,by omega,Nat.le_refl _,HI12,HB12,HK12⟩
  ·go_wp2_with (fail)
   (with_reducible refine (AW.out _).mono ?_)
   rintro e w8 ⟨rfl,hb⟩
   have HB8 := aM_ (bT_ HB.out hb)
   go_wp2
   go_ret
   exact ⟨rfl,HB8.out⟩
end Go.Proofs.Ytdbpobadeibjaab.GS
