/- GaugeAccepts,its plain part: what the printed functions compute answers as the statement says,for every input;no condition beside the statement's own. -/
import Derived.Test.YtdbpobadeibjaabGSx29
import Derived.Test.YtdbpobadeibjaabGSx26
import Derived.Test.YtdbpobadeibjaabGSx27
import Derived.Test.YtdbpobadeibjaabGSx28
import Derived.Test.YtdbpobadeibjaabGSx20
import Derived.Test.YtdbpobadeibjaabGSx22
import Derived.Test.YtdbpobadeibjaabGSx16
import Derived.Test.YtdbpobadeibjaabGSx10
namespace Go.Proofs.Ytdbpobadeibjaab.GS
open Go.RowKit Go.Proofs.YtdbpobadeibjaabW.PrintWords Go.Proofs.YtdbpobadeibjaabW.PrintLast
/-! ### shared -/
theorem le_fuel {α : Type} {f : Nat → Option α} (hm : ∀ k,LeO (f k) (f (k + 1))) {j : Nat} {r : α} (h : f j = some r) : ∀ k,j ≤ k → f k = some r := by
 intro k hk
 obtain ⟨d,rfl⟩ := Nat.exists_eq_add_of_le hk
 clear hk
 induction d with
 | zero => exact h
 | succ d ih => exact hm (j + d) r ih
theorem mod_some (a m : Int) (h0 : 1 ≤ m) (h1 : m ≤ 1000) : ∃ t,K_Mod.f a m = some t ∧ 0 ≤ t ∧ t < m := by
 unfold K_Mod.f
 have u := Int.tmod_lt_of_pos a (show 0 < m by omega)
 have l := Int.tmod_lt_of_pos (-a) (show 0 < m by omega)
 rw [Int.neg_tmod] at l
 rw [if_neg (by omega),if_neg (by omega)]
 by_cases c : Int.tmod a m < 0
 ·rw [if_pos c,wrap64_eq (by omega)]
  exact ⟨_,rfl,by omega,by omega⟩
 ·rw [if_neg c]
  exact ⟨_,rfl,by omega,u⟩
theorem awake_some (k : Nat) (h : 3 ≤ k) : L_awake.f k = some true := le_fuel (f := L_awake.f) (j := 3) (r := true) L_awake.mono L_awake.holds k h
/-! ### rounds enough -/
/-- With rounds enough the answer is r. -/
def Ev {α : Type} (g : Nat → Option α) (r : α) : Prop := ∃ K,∀ k,K ≤ k → g k = some r
theorem Ev.of {α : Type} {g : Nat → Option α} {r : α} (hg : ∀ k,LeO (g k) (g (k + 1))) {k : Nat} (h : g k = some r) : Ev g r := ⟨k,fun j hj => le_fuel hg h j hj⟩
theorem Ev.rounds {α : Type} {g : Nat → Option α} {r : α} (h : Ev g r) : ∃ k,g k = some r := by
 obtain ⟨K,hK⟩ := h
 exact ⟨K,hK K (Nat.le_refl _)⟩
theorem Ev.bind {α β : Type} {g : Nat → Option α} {f : Nat → α → Option β} {a : α} {r : β} (h : Ev g a) (k : Ev (fun n => f n a) r) : Ev (fun n => (g n).bind (f n)) r := by
 obtain ⟨K,hK⟩ := h
 obtain ⟨J,hJ⟩ := k
 refine ⟨max K J,fun n hn => ?_⟩
 show (g n).bind (f n) = some r
 rw [hK n (by omega)]
 exact hJ n (by omega)
theorem Ev.step {α : Type} {g f : Nat → Option α} {r : α} (h : ∀ k,g (k + 1) = f k) (k : Ev f r) : Ev g r := by
 obtain ⟨K,hK⟩ := k
 refine ⟨K + 1,fun n hn => ?_⟩
 obtain ⟨m,rfl⟩ : ∃ m,n = m + 1 := ⟨n - 1,by omega⟩
 rw [h m]
 exact hK m (by omega)
theorem Ev.congr {α : Type} {g f : Nat → Option α} {r : α} (h : ∀ k,g k = f k) (k : Ev f r) : Ev g r := by
 obtain ⟨K,hK⟩ := k
 exact ⟨K,fun n hn => (h n).trans (hK n hn)⟩
theorem Ev.pos {α : Type} {c : Prop} [Decidable c] {f g : Nat → Option α} {r : α} (h : c) (k : Ev f r) : Ev (fun n => if c then f n else g n) r := Ev.congr (fun _ => if_pos h) k
theorem Ev.neg {α : Type} {c : Prop} [Decidable c] {f g : Nat → Option α} {r : α} (h : ¬ c) (k : Ev g r) : Ev (fun n => if c then f n else g n) r := Ev.congr (fun _ => if_neg h) k
theorem Ev.call {α β : Type} {x : Option α} {a : α} {f : Nat → α → Option β} {r : β} (h : x = some a) (k : Ev (fun n => f n a) r) : Ev (fun n => x.bind (f n)) r := Ev.congr (fun n => by rw [h];rfl) k
theorem Ev.done {α : Type} {x : Option α} {r : α} (h : x = some r) : Ev (fun _ => x) r := ⟨0,fun _ _ => h⟩
theorem Ev.awake : Ev L_awake.f true := Ev.of L_awake.mono L_awake.holds
/-! ### benches that BenchOf makes -/
theorem MadeBench.ok {l : List S49} (h : MadeBench l) (h12 : l.length ≤ 12) : BenchOk l := by
 refine ⟨h12,fun x hx => ?_⟩
 obtain ⟨i,hi,rfl⟩ := List.getElem_of_mem hx
 have := h i hi
 unfold rd_T49 at this
 rw [Int.toNat_natCast,List.getD_eq_getElem?_getD,List.getElem?_eq_getElem hi,Option.getD_some] at this
 obtain ⟨a1,a2,a3,a4,a5,a6,a7,a8,a9,a10,a11,a12⟩ := this
 exact ⟨⟨a1,a2,a3,by omega,a5,by omega⟩,a7,by omega,by omega,by omega,a9,by omega⟩
theorem MadeBench.at {l : List S49} (h : MadeBench l) (m : Int) (h0 : 0 ≤ m) (h1 : m < l.length) : MeterIn m (rd_T49 l m) := by
 have := h m.toNat (by omega)
 rw [Int.toNat_of_nonneg h0] at this
 exact this
theorem rangeErr_ok {a b lo hi : Int} (h0 : lo ≤ a) (h1 : a ≤ b) (h2 : b ≤ hi) : rangeErr a b lo hi = 0 := by
 unfold rangeErr
 rw [if_neg (by omega),if_neg (by omega)]
theorem meterErr_ok {n : Int} {x : S49} (h : MeterOk n x) : meterErr n x = 0 := by
 obtain ⟨⟨a1,a2,a3,a4,a5,a6⟩,a7,a8,a9,a10,a11,a12⟩ := h
 have e : makingErr x.f0.f0 x.f0.f1 x.f1.f0 x.f1.f1 = 0 := by
  unfold makingErr
  rw [rangeErr_ok a1 a2 a3,rangeErr_ok a4 a5 a6]
  rfl
 unfold meterErr
 rw [e,if_neg (by decide),if_neg (by omega)]
theorem firstErr_ok {n : Int} : ∀ {l : List S49},(∀ x ∈ l,MeterOk n x) → firstErr n l = 0
 | [],_ => rfl
 | x :: l,h => by
  unfold firstErr
  rw [meterErr_ok (h x (by simp)),if_neg (by decide)]
  exact firstErr_ok fun y hy => h y (by simp [hy])
/-- By is below the meter's own number: chains end. -/
def Down_ (l : List S49) : Prop := ∀ m : Int,0 ≤ m → m < l.length → -1 ≤ (rd_T49 l m).f3 ∧ (rd_T49 l m).f3 < m
theorem MadeBench.down {l : List S49} (h : MadeBench l) : Down_ l := fun m h0 h1 => by
 obtain ⟨_,_,_,_,_,_,_,_,a9,a10,_,_⟩ := h.at m h0 h1
 exact ⟨a9,a10⟩
theorem chainGo_neg (l : List S49) (n : Nat) (m : Int) (h : m < 0) : chainGo l n m = [] := by
 cases n with
 | zero => rfl
 | succ n => rw [chainGo,if_pos h]
theorem chainGo_ends {l : List S49} (hd : Down_ l) : ∀ (n : Nat) (m : Int) (d : Int),0 ≤ m → m < l.length → m < n → (rd_T49 l ((chainGo l n m).getLastD d)).f3 = -1 := by
 intro n
 induction n with
 | zero => intro m d h0 _ h2;omega
 | succ n ih =>
  intro m d h0 h1 h2
  rw [chainGo,if_neg (by omega),List.getLastD_cons]
  obtain ⟨b0,b1⟩ := hd m h0 h1
  by_cases hb : (rd_T49 l m).f3 < 0
  ·rw [chainGo_neg l n _ hb]
   show (rd_T49 l m).f3 = -1
   omega
  ·exact ih _ m (by omega) (by omega) (by omega)
theorem chainGo_more {l : List S49} (hd : Down_ l) : ∀ (n k : Nat) (m : Int),m < l.length → m < n → m < k → chainGo l n m = chainGo l k m := by
 intro n
 induction n with
 | zero => intro k m _ h1 _;rw [chainGo_neg l _ m (by omega),chainGo_neg l _ m (by omega)]
 | succ n ih =>
  intro k m h0 h1 h2
  by_cases hm : m < 0
  ·rw [chainGo_neg l _ m hm,chainGo_neg l _ m hm]
  ·obtain ⟨k,rfl⟩ : ∃ j,k = j + 1 := ⟨k - 1,by omega⟩
   obtain ⟨b0,b1⟩ := hd m (by omega) h0
   rw [chainGo,chainGo,if_neg hm,if_neg hm,ih k _ (by omega) (by omega) (by omega)]
theorem looseFrom_ok {l : List S49} (h : ∀ i : Nat,i < l.length → endsP l i) : ∀ n i : Nat,i + n = l.length → looseFrom l n i = 0
 | 0,_,_ => rfl
 | n + 1,i,hi => by
  unfold looseFrom
  rw [if_pos (h i (by omega))]
  exact looseFrom_ok h n (i + 1) (by omega)
theorem checkP_ok {l : List S49} (h : BenchOk l) (hd : Down_ l) : checkP l = 0 := by
 unfold checkP
 rw [if_neg (by have := h.1;omega),firstErr_ok h.2,if_neg (by decide)]
 refine looseFrom_ok (fun i hi => ?_) _ 0 (by omega)
 unfold endsP chainL
 exact chainGo_ends hd _ _ _ (by omega) (by omega) (by omega)
theorem true_eq {l : List S49} (h : BenchOk l) (hc : checkP l = 0) {m n : Int} (m0 : 0 ≤ m) (m1 : m < l.length) (n0 : -1000000000 ≤ n) (n1 : n ≤ 1000000000) (hs : Int.tmod n (rd_T49 l m).f2 = 0) :
  gauge_True.f l m n = some (if (sourceP l m n).2.2 = true then ((sourceP l m n).1,(sourceP l m n).2.1,0) else (0,0,12)) := by
 obtain ⟨_,a7,_⟩ := h.at m m0 m1
 have h12 := h.1
 unfold gauge_True.f gauge_Check.f
 simp only [Option.bind_some]
 rw [if_pos hc,wrap64_eq (by omega),outside_false ⟨m0,by omega⟩]
 simp only [Option.bind_some]
 rw [if_neg (by decide),outside_false ⟨n0,n1⟩]
 simp only [Option.bind_some]
 rw [if_neg (by decide),if_pos m0,if_pos m1,if_neg (by omega),if_pos hs]
 unfold gauge_source.f
 rw [if_pos ⟨h,m0,m1,n0,n1⟩]
 simp only [Option.bind_some]
 split <;> rfl
/-! ### the reference's chain -/
theorem refChain_l {l : List S49} (hd : Down_ l) (h12 : l.length ≤ 12) : ∀ (d : Nat) (m : Int) (pre : List Int),m < l.length → m + 1 ≤ d → (pre.length : Int) + m + 1 ≤ l.length → -1 ≤ m →
  Ev (fun k => R_chain.l0 k l m pre) (pre ++ chainGo l d m,true) := by
 intro d
 induction d with
 | zero =>
  intro m pre h0 h1 h2 h3
  refine Ev.step (fun k => by rw [R_chain.l0]) ?_
  refine Ev.neg (by omega) (Ev.done ?_)
  rw [chainGo_neg l _ m (by omega),List.append_nil,decide_eq_true (by omega)]
 | succ d ih =>
  intro m pre h0 h1 h2 h3
  refine Ev.step (fun k => by rw [R_chain.l0]) ?_
  by_cases hm : m < 0
  ·refine Ev.neg (by omega) (Ev.done ?_)
   rw [chainGo_neg l _ m hm,List.append_nil,decide_eq_true hm]
  ·obtain ⟨b0,b1⟩ := hd m (by omega) h0
   refine Ev.pos (by omega) (Ev.pos (by omega) (Ev.pos (by omega) (Ev.pos (by omega) (Ev.pos h0 ?_))))
   have := ih (rd_T49 l m).f3 (pre ++ [m]) (by omega) (by omega) (by simp;omega) (by omega)
   rw [List.append_assoc] at this
   rw [chainGo,if_neg hm]
   exact this
theorem refChain_ev {l : List S49} (hd : Down_ l) (h12 : l.length ≤ 12) (m : Int) (m1 : m < l.length) (m0 : -1 ≤ m) : Ev (fun k => R_chain.f k l m) (chainL l m,true) := by
 have := refChain_l hd h12 l.length m [] m1 (by omega) (by simp;omega) m0
 rw [List.nil_append] at this
 exact this
theorem beyond_true {n lo hi : Int} (h : n < lo ∨ n > hi) : R_beyond.f n lo hi = some true := by
 unfold R_beyond.f
 by_cases c : n < lo
 ·rw [if_pos c]
 ·rw [if_neg c,decide_eq_true (by omega)]
theorem beyond_false {n lo hi : Int} (h : lo ≤ n ∧ n ≤ hi) : R_beyond.f n lo hi = some false := by
 unfold R_beyond.f
 rw [if_neg (by omega),decide_eq_false (by omega)]
/-! ### the reference's Check,of any bench -/
def afterGo (l : List S49) : Nat → Int → Int
 | 0,m => m
 | k + 1,m => if m < 0 then m else afterGo l k (rd_T49 l m).f3
theorem afterGo_neg (l : List S49) (k : Nat) (m : Int) (h : m < 0) : afterGo l k m = m := by
 cases k with
 | zero => rfl
 | succ k => rw [afterGo,if_pos h]
theorem afterGo_mono (l : List S49) : ∀ (k : Nat) (m : Int),afterGo l k m < 0 → ∀ j,k ≤ j → afterGo l j m < 0 := by
 intro k
 induction k with
 | zero => intro m h j _;rw [afterGo_neg l j m h];exact h
 | succ k ih =>
  intro m h j hj
  obtain ⟨j,rfl⟩ : ∃ i,j = i + 1 := ⟨j - 1,by omega⟩
  rw [afterGo] at h ⊢
  by_cases hm : m < 0
  ·rw [if_pos hm];exact hm
  ·rw [if_neg hm] at h ⊢
   exact ih _ h j (by omega)
theorem bound_nodup : ∀ (n : Nat) (c : List Int),c.Nodup → (∀ x ∈ c,0 ≤ x ∧ x < n) → c.length ≤ n := by
 intro n
 induction n with
 | zero =>
  intro c _ h
  cases c with
  | nil => exact Nat.le_refl _
  | cons x c => have := h x (by simp);omega
 | succ n ih =>
  intro c hn h
  by_cases hm : (n : Int) ∈ c
  ·have h1 := ih (c.erase (n : Int)) (hn.erase _) (fun x hx => by
    rw [hn.mem_erase_iff] at hx
    have := h x hx.2
    have := hx.1
    omega)
   rw [List.length_erase_of_mem hm] at h1
   omega
  ·have := ih c hn (fun x hx => by
    have := h x hx
    have : x ≠ n := fun e => hm (e ▸ hx)
    omega)
   omega
theorem depth_list {l : List S49} (hb : ∀ m : Int,0 ≤ m → m < l.length → (rd_T49 l m).f3 < l.length) : ∀ (d : Nat) (m : Int),m < l.length → afterGo l d m < 0 → (∀ j,j < d → ¬ afterGo l j m < 0) →
  ∃ c : List Int,c.length = d ∧ c.Nodup ∧ ∀ x ∈ c,(0 ≤ x ∧ x < l.length) ∧ afterGo l d x < 0 := by
 intro d
 induction d with
 | zero => intro m _ _ _;exact ⟨[],rfl,List.nodup_nil,fun x hx => by cases hx⟩
 | succ d ih =>
  intro m hm h hj
  have m0 : ¬ m < 0 := hj 0 (by omega)
  have h' := h
  rw [afterGo,if_neg m0] at h
  obtain ⟨c,hc,hn,hx⟩ := ih (rd_T49 l m).f3 (hb m (by omega) hm) h (fun j hjd => by
   have := hj (j + 1) (by omega)
   rw [afterGo,if_neg m0] at this
   exact this)
  refine ⟨m :: c,by simp [hc],List.nodup_cons.2 ⟨fun hmc => hj d (by omega) (hx m hmc).2,hn⟩,fun x hxm => ?_⟩
  rcases List.mem_cons.1 hxm with rfl | hxc
  ·exact ⟨⟨by omega,hm⟩,h'⟩
  ·exact ⟨(hx x hxc).1,afterGo_mono l d x (hx x hxc).2 _ (by omega)⟩
theorem afterGo_enough {l : List S49} (hb : ∀ m : Int,0 ≤ m → m < l.length → (rd_T49 l m).f3 < l.length) (m : Int) (hm : m < l.length) : ∀ k : Nat,afterGo l k m < 0 → afterGo l l.length m < 0 := by
 intro k
 induction k using Nat.strongRecOn with
 | _ k ih =>
  intro h
  by_cases hex : ∃ j,j < k ∧ afterGo l j m < 0
  ·obtain ⟨j,hj,h'⟩ := hex
   exact ih j hj h'
  ·obtain ⟨c,hc,hn,hx⟩ := depth_list hb k m hm h (fun j hj h' => hex ⟨j,hj,h'⟩)
   have := bound_nodup l.length c hn (fun x hxc => (hx x hxc).1)
   exact afterGo_mono l k m h _ (by omega)
theorem last_after {l : List S49} : ∀ (n : Nat) (m d : Int),0 ≤ m → ((rd_T49 l ((chainGo l (n + 1) m).getLastD d)).f3 < 0 ↔ afterGo l (n + 1) m < 0) := by
 intro n
 induction n with
 | zero =>
  intro m d h0
  rw [chainGo,if_neg (by omega),afterGo,if_neg (by omega)]
  exact Iff.rfl
 | succ n ih =>
  intro m d h0
  rw [chainGo,if_neg (by omega),afterGo,if_neg (by omega),List.getLastD_cons]
  by_cases hb : (rd_T49 l m).f3 < 0
  ·rw [chainGo_neg l _ _ hb,afterGo_neg l _ _ hb]
   exact Iff.rfl
  ·exact ih _ _ (by omega)
theorem endsP_after {l : List S49} (hb : ∀ m : Int,0 ≤ m → m < l.length → -1 ≤ (rd_T49 l m).f3 ∧ (rd_T49 l m).f3 < l.length) (i : Int) (h0 : 0 ≤ i) (h1 : i < l.length) : endsP l i ↔ afterGo l (l.length + 1) i < 0 := by
 have e : endsP l i ↔ (rd_T49 l ((chainL l i).getLastD i)).f3 < 0 := by
  unfold endsP
  have hmem : 0 ≤ (chainL l i).getLastD i ∧ (chainL l i).getLastD i < l.length := by
   have hall : ∀ x ∈ i :: chainL l i,0 ≤ x ∧ x < (l.length : Int) := by
    intro x hx
    rcases List.mem_cons.1 hx with rfl | hx
    ·exact ⟨h0,h1⟩
    ·have go : ∀ (n : Nat) (m : Int),m < l.length → ∀ x ∈ chainGo l n m,0 ≤ x ∧ x < (l.length : Int) := by
      intro n
      induction n with
      | zero => intro m _ x hx;cases hx
      | succ n ih =>
       intro m hm x hx
       rw [chainGo] at hx
       split at hx
       ·cases hx
       ·rcases List.mem_cons.1 hx with rfl | hx
        ·exact ⟨by omega,hm⟩
        ·exact ih _ (hb m (by omega) hm).2 x hx
     exact go _ _ h1 x hx
   exact hall _ (getLastD_mem i (chainL l i))
  have := hb _ hmem.1 hmem.2
  omega
 rw [e]
 unfold chainL
 obtain ⟨n,hn⟩ : ∃ n,l.length = n + 1 := ⟨l.length - 1,by omega⟩
 have h2 := last_after (l := l) n i i h0
 rw [← hn] at h2
 rw [h2]
 exact ⟨fun h => afterGo_mono l _ _ h _ (by omega),afterGo_enough (fun m a b => (hb m a b).2) i h1 _⟩
theorem refChain_any {l : List S49} (hb : ∀ m : Int,0 ≤ m → m < l.length → -1 ≤ (rd_T49 l m).f3 ∧ (rd_T49 l m).f3 < l.length) (h20 : l.length ≤ 20) : ∀ (d : Nat) (m : Int) (pre : List Int),m < l.length → pre.length + d = l.length + 1 →
  ∃ c,Ev (fun k => R_chain.l0 k l m pre) (c,decide (afterGo l d m < 0)) := by
 intro d
 induction d with
 | zero =>
  intro m pre h0 h1
  by_cases hm : m < 0
  ·refine ⟨pre,Ev.step (fun k => by rw [R_chain.l0]) ?_⟩
   exact Ev.neg (by omega) (Ev.done (by rw [afterGo]))
  ·refine ⟨pre,Ev.step (fun k => by rw [R_chain.l0]) ?_⟩
   exact Ev.pos (by omega) (Ev.neg (by omega) (Ev.done (by rw [afterGo])))
 | succ d ih =>
  intro m pre h0 h1
  by_cases hm : m < 0
  ·refine ⟨pre,Ev.step (fun k => by rw [R_chain.l0]) ?_⟩
   exact Ev.neg (by omega) (Ev.done (by rw [afterGo,if_pos hm]))
  ·obtain ⟨b0,b1⟩ := hb m (by omega) h0
   obtain ⟨c,hc⟩ := ih (rd_T49 l m).f3 (pre ++ [m]) b1 (by simp;omega)
   refine ⟨c,Ev.step (fun k => by rw [R_chain.l0]) ?_⟩
   rw [afterGo,if_neg hm]
   exact Ev.pos (by omega) (Ev.pos (by omega) (Ev.pos (by omega) (Ev.pos (by omega) (Ev.pos h0 hc))))
theorem refRange_ev (a b lo hi : Int) : Ev (fun k => R_checkRange.f k a b lo hi) (rangeErr a b lo hi) := by
 unfold R_checkRange.f rangeErr
 by_cases h1 : lo ≤ a ∧ a ≤ hi
 ·refine Ev.call (beyond_false h1) (Ev.neg (by decide) ?_)
  by_cases h2 : lo ≤ b ∧ b ≤ hi
  ·refine Ev.call (beyond_false h2) ?_
   rw [if_neg (by omega)]
   refine Ev.step (fun k => by rw [R_checkRange.j0]) (Ev.neg (by decide) ?_)
   by_cases h3 : a > b
   ·exact Ev.pos h3 (Ev.done (by rw [if_pos h3]))
   ·exact Ev.neg h3 (Ev.done (by rw [if_neg h3]))
  ·refine Ev.call (beyond_true (by omega)) ?_
   rw [if_pos (by omega)]
   exact Ev.step (fun k => by rw [R_checkRange.j0]) (Ev.pos rfl (Ev.done rfl))
 ·refine Ev.call (beyond_true (by omega)) (Ev.pos rfl ?_)
  rw [if_pos (by omega)]
  exact Ev.step (fun k => by rw [R_checkRange.j0]) (Ev.pos rfl (Ev.done rfl))
theorem refMaking_ev (a b c d e f g : Int) : Ev (fun k => R_checkMaking.f k a b c d e f g) (makingErr a b c d) := by
 unfold R_checkMaking.f makingErr
 refine Ev.bind (refRange_ev a b 500000 2000000) ?_
 by_cases h : rangeErr a b 500000 2000000 = 0
 ·rw [if_neg (by omega)]
  exact Ev.pos h (Ev.bind (refRange_ev c d (-1000000) 1000000) (Ev.done rfl))
 ·rw [if_pos h]
  exact Ev.neg h (Ev.done rfl)
theorem firstErr_drop (n : Int) (l : List S49) (k : Nat) (h : k < l.length) : firstErr n (l.drop k) = if meterErr n (rd_T49 l k) ≠ 0 then meterErr n (rd_T49 l k) else firstErr n (l.drop (k + 1)) := by
 rw [drop_at l k h,firstErr]
theorem refCheck_ev (l : List S49) (h20 : l.length ≤ 20) : Ev (fun k => R_Check.f k l) (checkP l) := by
 unfold R_Check.f checkP
 by_cases h12 : 12 < l.length
 ·rw [if_pos h12]
  exact Ev.pos (by omega) (Ev.done rfl)
 rw [if_neg h12]
 refine Ev.neg (by omega) ?_
 have loose : (∀ x ∈ l,MeterOk l.length x) → ∀ (d i : Nat),i + d = l.length → Ev (fun k => R_Check.l1 k l i) (looseFrom l d i) := by
  intro hok d
  have hb : ∀ m : Int,0 ≤ m → m < l.length → -1 ≤ (rd_T49 l m).f3 ∧ (rd_T49 l m).f3 < l.length := fun m m0 m1 => by
   obtain ⟨_,_,_,_,_,a11,a12⟩ := BenchOk.at ⟨by omega,hok⟩ m m0 m1
   exact ⟨a11,a12⟩
  induction d with
  | zero =>
   intro i hi
   refine Ev.step (fun k => by rw [R_Check.l1]) ?_
   exact Ev.neg (by omega) (Ev.done rfl)
  | succ d ih =>
   intro i hi
   refine Ev.step (fun k => by rw [R_Check.l1]) (Ev.pos (by omega) ?_)
   obtain ⟨c,hc⟩ := refChain_any hb h20 (l.length + 1) i [] (by omega) (by simp)
   have hc' : Ev (fun k => R_chain.f k l i) (c,decide (afterGo l (l.length + 1) i < 0)) := hc
   refine Ev.bind hc' ?_
   have he := endsP_after hb i (by omega) (by omega)
   rw [looseFrom]
   by_cases h : endsP l i
   ·rw [if_pos h,decide_eq_true (he.1 h)]
    refine Ev.pos rfl ?_
    rw [wrap64_eq (by omega)]
    exact ih (i + 1) (by omega)
   ·rw [if_neg h,decide_eq_false (fun h' => h (he.2 h'))]
    exact Ev.neg (by simp) (Ev.done rfl)
 have go : ∀ (d i : Nat),i + d = l.length → (∀ j,j < i → meterErr l.length (rd_T49 l j) = 0) → Ev (fun k => R_Check.l0 k l i) (if firstErr l.length (l.drop i) ≠ 0 then firstErr l.length (l.drop i) else looseFrom l l.length 0) := by
  intro d
  induction d with
  | zero =>
   intro i hi hall
   refine Ev.step (fun k => by rw [R_Check.l0]) (Ev.neg (by omega) ?_)
   rw [List.drop_of_length_le (by omega)]
   rw [if_neg (by simp [firstErr])]
   have hok : ∀ x ∈ l,MeterOk l.length x := fun x hx => by
    obtain ⟨j,hj,rfl⟩ := List.getElem_of_mem hx
    have := meterErr_zero (hall j (by omega))
    unfold rd_T49 at this
    rw [Int.toNat_natCast,List.getD_eq_getElem?_getD,List.getElem?_eq_getElem hj] at this
    exact this
   exact loose hok l.length 0 (by omega)
  | succ d ih =>
   intro i hi hall
   refine Ev.step (fun k => by rw [R_Check.l0]) (Ev.pos (by omega) (Ev.pos (by omega) ?_))
   rw [firstErr_drop _ l i (by omega),wrap64_eq (n := (l.length : Int) - 1) (by omega),wrap64_eq (n := (i : Int) + 1) (by omega)]
   refine Ev.bind (refMaking_ev _ _ _ _ _ _ _) ?_
   obtain ⟨x,hx⟩ : ∃ x,x = rd_T49 l i := ⟨_,rfl⟩
   rw [← hx]
   have hnext : meterErr l.length x = 0 → Ev (fun k => R_Check.l0 k l ((i : Int) + 1)) (if firstErr l.length (l.drop (i + 1)) ≠ 0 then firstErr l.length (l.drop (i + 1)) else looseFrom l l.length 0) := fun h0 => ih (i + 1) (by omega) (fun j hj => by
    by_cases e : j = i
    ·subst e;rw [← hx];exact h0
    ·exact hall j (by omega))
   by_cases h1 : makingErr x.f0.f0 x.f0.f1 x.f1.f0 x.f1.f1 = 0
   ·refine Ev.pos h1 ?_
    have e : meterErr l.length x = if x.f2 < 1 ∨ x.f2 > 1000000 ∨ x.f4 < 0 ∨ x.f4 > 1000000000 ∨ x.f3 < -1 ∨ x.f3 > (l.length : Int) - 1 then 2 else 0 := by unfold meterErr;rw [if_neg (by omega)]
    by_cases h2 : 1 ≤ x.f2 ∧ x.f2 ≤ 1000000
    ·refine Ev.call (beyond_false h2) (Ev.neg (by decide) ?_)
     by_cases h3 : 0 ≤ x.f4 ∧ x.f4 ≤ 1000000000
     ·refine Ev.call (beyond_false h3) (Ev.neg (by decide) ?_)
      by_cases h4 : -1 ≤ x.f3 ∧ x.f3 ≤ (l.length : Int) - 1
      ·refine Ev.call (beyond_false h4) (Ev.neg (by decide) ?_)
       rw [if_neg (by omega)] at e
       have h5 : ¬ (if meterErr l.length x ≠ 0 then meterErr l.length x else firstErr l.length (l.drop (i + 1))) ≠ (if meterErr l.length x ≠ 0 then meterErr l.length x else firstErr l.length (l.drop (i + 1))) := by simp
       simp only [e,ne_eq,not_true_eq_false,if_false]
       exact hnext e
      ·rw [if_pos (by omega)] at e
       refine Ev.call (beyond_true (by omega)) (Ev.pos rfl (Ev.done ?_))
       simp [e]
     ·rw [if_pos (by omega)] at e
      refine Ev.call (beyond_true (by omega)) (Ev.pos rfl (Ev.done ?_))
      simp [e]
    ·rw [if_pos (by omega)] at e
     refine Ev.call (beyond_true (by omega)) (Ev.pos rfl (Ev.done ?_))
     simp [e]
   ·refine Ev.neg h1 (Ev.done ?_)
    have e : meterErr l.length x = makingErr x.f0.f0 x.f0.f1 x.f1.f0 x.f1.f1 := by unfold meterErr;rw [if_pos h1]
    rw [e]
    simp [h1]
 have := go l.length 0 (by omega) (fun j hj => by omega)
 rw [List.drop_zero] at this
 exact this
/-! ### what a meter may show -/
def hiK (l : List S49) (k x : Int) : Int := hiEnd (rd_T49 l k).f0.f0 (rd_T49 l k).f0.f1 (rd_T49 l k).f1.f1 x
def loK (l : List S49) (k x : Int) : Int := loEnd (rd_T49 l k).f0.f0 (rd_T49 l k).f0.f1 (rd_T49 l k).f1.f0 x
/-- The first meter of a chain may make y of a value x. -/
def SeenBy (l : List S49) : List Int → Int → Int → Prop
 | [],x,y => y = x
 | k :: c,x,y => ∃ z,SeenBy l c x z ∧ loK l k z ≤ y ∧ y ≤ hiK l k z
theorem seen_source {l : List S49} (hb : BenchOk l) : ∀ (c : List Int) (x y : Int) (s : Int × Int × Bool),(∀ k ∈ c,0 ≤ k ∧ k < (l.length : Int)) → SeenBy l c x y → s.1 ≤ y → y ≤ s.2.1 → s.2.2 = true →
  (srcFold l c s).1 ≤ x ∧ x ≤ (srcFold l c s).2.1 ∧ (srcFold l c s).2.2 = true := by
 intro c
 induction c with
 | nil => intro x y s _ h h1 h2 h3;cases h;exact ⟨h1,h2,h3⟩
 | cons k c ih =>
  intro x y s hc h h1 h2 h3
  obtain ⟨z,hz,z0,z1⟩ := h
  obtain ⟨k0,k1⟩ := hc k (by simp)
  obtain ⟨hm,_⟩ := hb.at k k0 k1
  unfold loK at z0
  unfold hiK at z1
  have a1 := (backLo_iff hm s.1 z).1 (by omega)
  have a2 : ¬ (backHi (rd_T49 l k).f0.f0 (rd_T49 l k).f0.f1 (rd_T49 l k).f1.f0 s.2.1 + 1 ≤ z) := fun h => by
   have := (backHi_iff hm s.2.1 z).2 h
   omega
  refine ih x z (srcStep l s k) (fun q hq => hc q (by simp [hq])) hz a1 ?_ ?_
  ·show z ≤ backHi (rd_T49 l k).f0.f0 (rd_T49 l k).f0.f1 (rd_T49 l k).f1.f0 s.2.1
   omega
  ·show (s.2.2 && decide (backLo _ _ _ s.1 ≤ backHi _ _ _ s.2.1)) = true
   rw [h3,decide_eq_true (by omega)]
   rfl
theorem refDown_eq {n d : Int} (hd : 0 < d) (h : -9223372036854775808 ≤ n ∧ n ≤ 9223372036854775807) : R_Down.f n d = some (n / d) := by
 have e := tdown (n := n) hd
 have b := tdiv_bound hd h
 unfold R_Down.f
 rw [if_neg (by omega)]
 by_cases c : Int.tmod n d < 0
 ·rw [if_pos c] at e ⊢
  rw [wrap64_eq (n := Int.tdiv n d) ⟨b.1,b.2.1⟩,wrap64_eq ⟨b.2.2 c,by omega⟩,e]
 ·rw [if_neg c] at e ⊢
  rw [wrap64_eq ⟨b.1,b.2.1⟩,e]
theorem refMade_eq {a0 a1 a2 a3 : Int} (a4 a5 a6 : Int) {x : Int} (h : meterOk a0 a1 a2 a3) (x0 : -4398046511104 ≤ x) (x1 : x ≤ 4398046511104) : R_Made.f a0 a1 a2 a3 a4 a5 a6 x = some (loEnd a0 a1 a2 x,hiEnd a0 a1 a3 x) := by
 obtain ⟨g0,g1,g2,o0,o1,o2⟩ := h
 have m0 := mul_within x0 x1 (show 0 ≤ a0 by omega) (show a0 ≤ 2000000 by omega) (by omega)
 have m1 := mul_within x0 x1 (show 0 ≤ a1 by omega) (show a1 ≤ 2000000 by omega) (by omega)
 unfold R_Made.f R_Up.f loEnd hiEnd
 by_cases hx : x < 0
 ·have hle : x * a1 ≤ x * a0 := Int.mul_le_mul_of_nonpos_left (show x ≤ 0 by omega) g1
  rw [if_pos hx,wrap64_eq (n := x * a1) (by omega),wrap64_eq (n := x * a0) (by omega),wrap64_eq (n := -(x * a0)) (by omega),refDown_eq (by omega) (by omega),refDown_eq (by omega) (by omega)]
  simp only [Option.bind_some]
  rw [wrap64_eq (n := -(-(x * a0) / 1000000)) (by omega),wrap64_eq (n := x * a1 / 1000000 + a2) (by omega),wrap64_eq (by omega),Int.min_eq_right hle,Int.max_eq_left hle]
 ·have hle : x * a0 ≤ x * a1 := Int.mul_le_mul_of_nonneg_left g1 (by omega)
  rw [if_neg hx,wrap64_eq (n := x * a0) (by omega),wrap64_eq (n := x * a1) (by omega),wrap64_eq (n := -(x * a1)) (by omega),refDown_eq (by omega) (by omega),refDown_eq (by omega) (by omega)]
  simp only [Option.bind_some]
  rw [wrap64_eq (n := -(-(x * a1) / 1000000)) (by omega),wrap64_eq (n := x * a0 / 1000000 + a2) (by omega),wrap64_eq (by omega),Int.min_eq_left hle,Int.max_eq_right hle]
theorem ends_bound {a0 a1 a2 a3 x B : Int} (h : meterOk a0 a1 a2 a3) (x0 : -B ≤ x) (x1 : x ≤ B) : -(2 * B + 1000001) ≤ loEnd a0 a1 a2 x ∧ loEnd a0 a1 a2 x ≤ hiEnd a0 a1 a3 x ∧ hiEnd a0 a1 a3 x ≤ 2 * B + 1000001 := by
 obtain ⟨g0,g1,g2,o0,o1,o2⟩ := h
 have m0 := mul_within x0 x1 (show 0 ≤ a0 by omega) (show a0 ≤ 2000000 by omega) (by omega)
 have m1 := mul_within x0 x1 (show 0 ≤ a1 by omega) (show a1 ≤ 2000000 by omega) (by omega)
 unfold loEnd hiEnd
 omega
/-- How far a value may be seen after n meters. -/
def seenBd (B : Int) : Nat → Int
 | 0 => B
 | n + 1 => 2 * seenBd B n + 1000001
theorem seenBd_mono {B : Int} (h : 0 ≤ B) : ∀ n k : Nat,n ≤ k → 0 ≤ seenBd B n ∧ seenBd B n ≤ seenBd B k := by
 intro n k hk
 have pos : ∀ n,0 ≤ seenBd B n := by
  intro n
  induction n with
  | zero => exact h
  | succ n ih => unfold seenBd;omega
 obtain ⟨d,rfl⟩ := Nat.exists_eq_add_of_le hk
 clear hk
 refine ⟨pos n,?_⟩
 induction d with
 | zero => exact Int.le_refl _
 | succ d ih =>
  have := pos (n + d)
  show seenBd B n ≤ 2 * seenBd B (n + d) + 1000001
  omega
theorem one_some (s : Int) : ∃ b s',D_One.f s 2 = some (b,s') := by
 obtain ⟨v,s',e,_,_⟩ := upto_some s 2 (by omega) (by omega)
 unfold D_One.f
 rw [e]
 exact ⟨_,_,rfl⟩
theorem showing_l {l : List S49} (hb : BenchOk l) {m x : Int} (m0 : 0 ≤ m) (m1 : m < l.length) (hst : 1 ≤ (rd_T49 l m).f2 ∧ (rd_T49 l m).f2 ≤ 1000) (c : List Int) (hcl : c.length ≤ 12) (hc : ∀ k ∈ c,0 ≤ k ∧ k < (l.length : Int)) (st : Int) (st0 : 0 ≤ st) (st1 : st < 3) (B : Int) (B0 : 0 ≤ B) (hB : seenBd B c.length ≤ 1000000000000) :
  ∀ (j : Nat) (z s : Int),j ≤ c.length → SeenBy l (c.drop j) x z → -(seenBd B (c.length - j)) ≤ z → z ≤ seenBd B (c.length - j) →
  ∃ n s' y,Ev (fun k => K_Showing.l0 k l m z c st ((j : Int) - 1) s) (n,s') ∧ SeenBy l c x y ∧ -(seenBd B c.length) ≤ y ∧ y ≤ seenBd B c.length ∧ Int.tmod n (rd_T49 l m).f2 = 0 ∧ 2 * (n - y) ≤ (rd_T49 l m).f2 ∧ 2 * (y - n) ≤ (rd_T49 l m).f2 := by
 intro j
 induction j with
 | zero =>
  intro z s _ hz z0 z1
  rw [Nat.sub_zero] at z0 z1
  rw [List.drop_zero] at hz
  obtain ⟨d,hd⟩ : ∃ d,d = (rd_T49 l m).f2 := ⟨_,rfl⟩
  rw [← hd] at hst ⊢
  have dm := Int.mul_ediv_add_emod z d
  have e0 := Int.emod_nonneg z (show d ≠ 0 by omega)
  have e1 := Int.emod_lt_of_pos z (show 0 < d by omega)
  rw [Int.mul_comm] at dm
  obtain ⟨q,hq⟩ : ∃ q,q = z / d * d := ⟨_,rfl⟩
  have tm0 : Int.tmod q d = 0 := by rw [hq];exact Int.mul_tmod_left _ _
  have tm1 : Int.tmod (q + d) d = 0 := by
   rw [hq,show z / d * d + d = (z / d + 1) * d by rw [Int.add_mul,Int.one_mul]]
   exact Int.mul_tmod_left _ _
  have step : ∀ {n s'},Ev (fun k => if (2 * (z - q)) > d then some (q + d,s) else if 2 * (z - q) = d then (D_One.f s 2).bind fun bt => (if bt.1 = true then some (q + d,bt.2) else some (q,bt.2)) else some (q,s)) (n,s') →
    Ev (fun k => K_Showing.l0 k l m z c st (((0 : Nat) : Int) - 1) s) (n,s') := by
   intro n s' h
   refine Ev.step (fun k => by rw [K_Showing.l0]) ?_
   refine Ev.neg (by omega) (Ev.pos m0 (Ev.pos m1 ?_))
   rw [← hd]
   refine Ev.call (refDown_eq (by omega) (by omega)) ?_
   rw [← hq,wrap64_eq (n := q) (by omega),wrap64_eq (n := z - q) (by omega),wrap64_eq (n := 2 * (z - q)) (by omega),wrap64_eq (n := q + d) (by omega)]
   exact h
  by_cases h1 : 2 * (z - q) > d
  ·exact ⟨q + d,s,z,step (Ev.pos h1 (Ev.done rfl)),hz,z0,z1,tm1,by omega,by omega⟩
  ·by_cases h2 : 2 * (z - q) = d
   ·obtain ⟨b,s1,e⟩ := one_some s
    cases b with
    | true => exact ⟨q + d,s1,z,step (Ev.neg h1 (Ev.pos h2 (Ev.call e (Ev.pos rfl (Ev.done rfl))))),hz,z0,z1,tm1,by omega,by omega⟩
    | false => exact ⟨q,s1,z,step (Ev.neg h1 (Ev.pos h2 (Ev.call e (Ev.neg (by simp) (Ev.done rfl))))),hz,z0,z1,tm0,by omega,by omega⟩
   ·exact ⟨q,s,z,step (Ev.neg h1 (Ev.neg h2 (Ev.done rfl))),hz,z0,z1,tm0,by omega,by omega⟩
 | succ j ih =>
  intro z s hj hz z0 z1
  obtain ⟨k,hk⟩ : ∃ k,k = rd c j := ⟨_,rfl⟩
  have hkc : c.drop j = k :: c.drop (j + 1) := by
   rw [List.drop_eq_getElem_cons (by omega),hk]
   unfold rd
   rw [Int.toNat_natCast,List.getD_eq_getElem?_getD,List.getElem?_eq_getElem (by omega),Option.getD_some]
  have hmem : k ∈ c := List.mem_of_mem_drop (by rw [hkc];simp : k ∈ c.drop j)
  obtain ⟨k0,k1⟩ := hc k hmem
  obtain ⟨hm,_⟩ := hb.at k k0 k1
  have bm := seenBd_mono B0 (c.length - (j + 1)) c.length (by omega)
  have be := ends_bound hm z0 z1
  have hbd : seenBd B (c.length - j) = 2 * seenBd B (c.length - (j + 1)) + 1000001 := by
   rw [show c.length - j = (c.length - (j + 1)) + 1 by omega];rfl
  have bm2 := seenBd_mono B0 (c.length - j) c.length (by omega)
  obtain ⟨v,s1,ev,v0,v1⟩ := between_some s (loEnd (rd_T49 l k).f0.f0 (rd_T49 l k).f0.f1 (rd_T49 l k).f1.f0 z) (hiEnd (rd_T49 l k).f0.f0 (rd_T49 l k).f0.f1 (rd_T49 l k).f1.f1 z) be.2.1 (by omega) (by omega)
  obtain ⟨u,hu,u0,u1⟩ : ∃ u,rd [loEnd (rd_T49 l k).f0.f0 (rd_T49 l k).f0.f1 (rd_T49 l k).f1.f0 z,hiEnd (rd_T49 l k).f0.f0 (rd_T49 l k).f0.f1 (rd_T49 l k).f1.f1 z,v] st = u ∧ loEnd (rd_T49 l k).f0.f0 (rd_T49 l k).f0.f1 (rd_T49 l k).f1.f0 z ≤ u ∧ u ≤ hiEnd (rd_T49 l k).f0.f0 (rd_T49 l k).f0.f1 (rd_T49 l k).f1.f1 z := by
   refine ⟨_,rfl,?_⟩
   rcases rd3 (loEnd (rd_T49 l k).f0.f0 (rd_T49 l k).f0.f1 (rd_T49 l k).f1.f0 z) (hiEnd (rd_T49 l k).f0.f0 (rd_T49 l k).f0.f1 (rd_T49 l k).f1.f1 z) v st st0 st1 with h | h | h <;> omega
  obtain ⟨n,s',y,hE,hrest⟩ := ih u s1 (by omega) (by rw [hkc];exact ⟨z,hz,u0,u1⟩) (by omega) (by omega)
  refine ⟨n,s',y,?_,hrest⟩
  refine Ev.step (fun k => by rw [K_Showing.l0]) ?_
  rw [show (((j + 1 : Nat) : Int) - 1) = (j : Int) by omega,← hk]
  refine Ev.pos (by omega) (Ev.pos (by omega) (Ev.pos (by omega) (Ev.pos k0 (Ev.pos k1 ?_))))
  refine Ev.call (refMade_eq _ _ _ hm (by omega) (by omega)) ?_
  have ein : D_In.f s (loEnd (rd_T49 l k).f0.f0 (rd_T49 l k).f0.f1 (rd_T49 l k).f1.f0 z) (hiEnd (rd_T49 l k).f0.f0 (rd_T49 l k).f0.f1 (rd_T49 l k).f1.f1 z) = some (v,s1) := by
   unfold D_In.f
   rw [mx_eq,Int.max_eq_right be.2.1,ev]
   rfl
  refine Ev.call ein (Ev.call rfl ?_)
  refine Ev.pos st0 (Ev.pos (by simp;omega) ?_)
  rw [hu,wrap64_eq (n := (j : Int) - 1) (by omega)]
  exact hE
theorem refChainL_ev {l : List S49} (hb : BenchOk l) (hd : Down_ l) (m : Int) (m0 : 0 ≤ m) (m1 : m < l.length) : Ev (fun k => R_Chain.f k l m) (chainL l m) := by
 unfold R_Chain.f
 have h12 := hb.1
 have h := refCheck_ev l (by omega)
 rw [checkP_ok hb hd] at h
 refine Ev.bind h (Ev.pos rfl ?_)
 rw [wrap64_eq (by omega)]
 exact Ev.call (beyond_false ⟨m0,by omega⟩) (Ev.neg (by decide) (Ev.bind (refChain_ev hd h12 m m1 (by omega)) (Ev.done rfl)))
theorem chainL_mem {l : List S49} (hb : BenchOk l) {m : Int} (m1 : m < l.length) : ∀ k ∈ chainL l m,0 ≤ k ∧ k < (l.length : Int) := chainGo_mem hb _ _ m1
theorem showing_ev {l : List S49} (hM : MadeBench l) (h5 : l.length ≤ 5) (s m x : Int) (m0 : 0 ≤ m) (m1 : m < l.length) (B : Int) (B0 : 0 ≤ B) (B1 : B ≤ 1000000000) (x0 : -B ≤ x) (x1 : x ≤ B) :
  ∃ n s' y,Ev (fun k => K_Showing.f k s l m x) (n,s') ∧ SeenBy l (chainL l m) x y ∧ -(32 * B + 31000031) ≤ y ∧ y ≤ 32 * B + 31000031 ∧ Int.tmod n (rd_T49 l m).f2 = 0 ∧ 2 * (n - y) ≤ (rd_T49 l m).f2 ∧ 2 * (y - n) ≤ (rd_T49 l m).f2 := by
 have hb := hM.ok (by omega)
 obtain ⟨_,_,_,_,_,_,a7,a8,_⟩ := hM.at m m0 m1
 obtain ⟨st,s1,e,st0,st1⟩ := upto_some s 3 (by omega) (by omega)
 have hlen : (chainL l m).length ≤ 5 := Nat.le_trans (chainGo_length l l.length m) h5
 have hbd := seenBd_mono B0 (chainL l m).length 5 hlen
 have hb5 : seenBd B 5 = 32 * B + 31000031 := by simp only [seenBd];omega
 rw [hb5] at hbd
 obtain ⟨n,s',y,hE,hS,y0,y1,hr⟩ := showing_l hb m0 m1 ⟨a7,a8⟩ (chainL l m) (by omega) (chainL_mem hb m1) st st0 st1 B B0 (by omega) (chainL l m).length x s1 (Nat.le_refl _) (by rw [List.drop_length];rfl) (by rw [Nat.sub_self];exact x0) (by rw [Nat.sub_self];exact x1)
 refine ⟨n,s',y,?_,hS,by omega,by omega,hr⟩
 unfold K_Showing.f
 refine Ev.bind (refChainL_ev hb hM.down m m0 m1) (Ev.call e ?_)
 rw [wrap64_eq (by omega)]
 exact hE
/-! ### dice,and true values of what was seen -/
theorem mod_any (a m : Int) (h0 : 1 ≤ m) (h1 : m ≤ 4000000000000) : ∃ t,K_Mod.f a m = some t ∧ 0 ≤ t ∧ t < m := by
 unfold K_Mod.f
 have u := Int.tmod_lt_of_pos a (show 0 < m by omega)
 have l := Int.tmod_lt_of_pos (-a) (show 0 < m by omega)
 rw [Int.neg_tmod] at l
 rw [if_neg (by omega),if_neg (by omega)]
 by_cases c : Int.tmod a m < 0
 ·rw [if_pos c,wrap64_eq (by omega)]
  exact ⟨_,rfl,by omega,by omega⟩
 ·rw [if_neg c]
  exact ⟨_,rfl,by omega,u⟩
theorem dice_some {l : List Int} (h : l.length ≤ maxLen) : K_NewDice.f l = some (diceOf l) := by
 unfold maxLen at h
 unfold K_NewDice.f
 rw [if_pos (by omega)]
theorem source_of_seen {l : List S49} (hb : BenchOk l) {m n x y : Int} (m1 : m < l.length) (hS : SeenBy l (chainL l m) x y) (d1 : 2 * (n - y) ≤ (rd_T49 l m).f2) (d2 : 2 * (y - n) ≤ (rd_T49 l m).f2) (x0 : -1000000000 ≤ x) (x1 : x ≤ 1000000000) :
  (sourceP l m n).2.2 = true ∧ (sourceP l m n).1 ≤ x ∧ x ≤ (sourceP l m n).2.1 := by
 obtain ⟨h1,h2,h3⟩ := seen_source hb (chainL l m) x y (srcStart l m n) (chainL_mem hb m1) hS (by show n - (rd_T49 l m).f2 / 2 ≤ y;omega) (by show y ≤ n + (rd_T49 l m).f2 / 2;omega) rfl
 unfold sourceP srcEnd
 generalize srcFold l (chainL l m) (srcStart l m n) = s at h1 h2 h3
 obtain ⟨a,b,c⟩ := s
 show (c && decide (max a (-1000000000) ≤ min b 1000000000)) = true ∧ max a (-1000000000) ≤ x ∧ x ≤ min b 1000000000
 have h3 : c = true := h3
 have h1 : a ≤ x := h1
 have h2 : x ≤ b := h2
 rw [h3,decide_eq_true (by omega)]
 exact ⟨rfl,by omega,by omega⟩
/-! ### the reference's true values -/
theorem refUp_eq {n d : Int} (hd : 0 < d) (h : -9223372036854775807 ≤ n ∧ n ≤ 9223372036854775807) : R_Up.f n d = some (-(-n / d)) := by
 have b := tdiv_bound (n := -n) hd (by omega)
 have e := tdown (n := -n) hd
 unfold R_Up.f
 rw [wrap64_eq (by omega),refDown_eq hd (by omega)]
 simp only [Option.bind_some]
 have b2 : -9223372036854775807 ≤ -n / d ∧ -n / d ≤ 9223372036854775807 := by
  constructor
  ·rw [Int.le_ediv_iff_mul_le hd]
   have := Int.mul_le_mul_of_nonneg_left (show 1 ≤ d by omega) (show (0 : Int) ≤ 9223372036854775807 by omega)
   omega
  ·rw [← Int.lt_add_one_iff,Int.ediv_lt_iff_lt_mul hd]
   have := Int.mul_le_mul_of_nonneg_left (show 1 ≤ d by omega) (show (0 : Int) ≤ 9223372036854775808 by omega)
   omega
 rw [wrap64_eq (by omega)]
theorem least_l {a0 a1 a2 a3 : Int} (a4 a5 a6 : Int) (h : meterOk a0 a1 a2 a3) (n r : Int) (hr : r = backLo a0 a1 a3 n) : ∀ (d : Nat) (lo hi : Int),(hi - lo).toNat ≤ d → -4398046511104 ≤ lo → lo ≤ r → r ≤ hi → hi ≤ 4398046511104 →
  Ev (fun k => R_least.l0 k n lo hi a0 a1 a2 a3 a4 a5 a6) r := by
 intro d
 induction d with
 | zero =>
  intro lo hi hd h0 h1 h2 h3
  refine Ev.step (fun k => by rw [R_least.l0]) (Ev.neg (by omega) (Ev.done ?_))
  rw [show lo = r by omega]
 | succ d ih =>
  intro lo hi hd h0 h1 h2 h3
  refine Ev.step (fun k => by rw [R_least.l0]) ?_
  by_cases hlt : lo < hi
  ·refine Ev.pos hlt ?_
   rw [wrap64_eq (n := lo + hi) (by omega)]
   refine Ev.call (refDown_eq (by omega) (by omega)) (Ev.call (refMade_eq a4 a5 a6 h (by omega) (by omega)) ?_)
   have hi' := backLo_iff h n ((lo + hi) / 2)
   rw [← hr] at hi'
   by_cases hc : n ≤ hiEnd a0 a1 a3 ((lo + hi) / 2)
   ·exact Ev.pos hc (ih _ _ (by omega) h0 h1 (hi'.1 hc) (by omega))
   ·refine Ev.neg hc ?_
    have : ¬ r ≤ (lo + hi) / 2 := fun h => hc (hi'.2 h)
    rw [wrap64_eq (n := (lo + hi) / 2 + 1) (by omega)]
    exact ih _ _ (by omega) (by omega) (by omega) h2 h3
  ·refine Ev.neg hlt (Ev.done ?_)
   rw [show lo = r by omega]
theorem most_l {a0 a1 a2 a3 : Int} (a4 a5 a6 : Int) (h : meterOk a0 a1 a2 a3) (n r : Int) (hr : r = backHi a0 a1 a2 n) : ∀ (d : Nat) (lo hi : Int),(hi - lo).toNat ≤ d → -4398046511104 ≤ lo → lo ≤ r → r ≤ hi → hi ≤ 4398046511104 →
  Ev (fun k => R_most.l0 k n lo hi a0 a1 a2 a3 a4 a5 a6) r := by
 intro d
 induction d with
 | zero =>
  intro lo hi hd h0 h1 h2 h3
  refine Ev.step (fun k => by rw [R_most.l0]) (Ev.neg (by omega) (Ev.done ?_))
  rw [show lo = r by omega]
 | succ d ih =>
  intro lo hi hd h0 h1 h2 h3
  refine Ev.step (fun k => by rw [R_most.l0]) ?_
  by_cases hlt : lo < hi
  ·refine Ev.pos hlt ?_
   rw [wrap64_eq (n := lo + hi) (by omega)]
   obtain ⟨x,hx⟩ : ∃ x,x = -(-(lo + hi) / 2) := ⟨_,rfl⟩
   refine Ev.call (refUp_eq (by omega) (by omega)) ?_
   rw [← hx]
   refine Ev.call (refMade_eq a4 a5 a6 h (by omega) (by omega)) ?_
   have hi' := backHi_iff h n x
   rw [← hr] at hi'
   by_cases hc : loEnd a0 a1 a2 x ≤ n
   ·have : x ≤ r := by
     by_cases hb : x ≤ r
     ·exact hb
     ·have := hi'.2 (by omega);omega
    exact Ev.pos hc (ih _ _ (by omega) (by omega) this h2 h3)
   ·have : r + 1 ≤ x := hi'.1 (by omega)
    refine Ev.neg hc ?_
    rw [wrap64_eq (n := x - 1) (by omega)]
    exact ih _ _ (by omega) h0 h1 (by omega) (by omega)
  ·refine Ev.neg hlt (Ev.done ?_)
   rw [show lo = r by omega]
theorem refBefore_l {l : List S49} {m n : Int} (h : SourceOk l m n) : ∀ (rest pre : List Int),pre ++ rest = chainL l m → Ev (fun k => R_before.l0 k l (chainL l m) (srcFold l pre (srcStart l m n)).2.2 pre.length (srcFold l pre (srcStart l m n)).1 (srcFold l pre (srcStart l m n)).2.1) (sourceP l m n) := by
 intro rest
 induction rest with
 | nil =>
  intro pre hp
  rw [List.append_nil] at hp
  refine Ev.step (fun k => by rw [R_before.l0]) (Ev.neg (by rw [← hp];omega) ?_)
  unfold sourceP
  rw [← hp]
  generalize srcFold l pre (srcStart l m n) = s
  obtain ⟨a,b,c⟩ := s
  simp only [mx_eq,mn_eq]
  cases c with
  | true => exact Ev.pos rfl (Ev.done (by simp [srcEnd]))
  | false => exact Ev.neg (by decide) (Ev.done (by simp [srcEnd]))
 | cons k rest ih =>
  intro pre hp
  obtain ⟨⟨k0,k1⟩,b0,b1,b2,b3⟩ := src_ahead h (pre := pre) (x := k) ⟨rest,by rw [← hp,List.append_assoc];rfl⟩
  obtain ⟨hm,_⟩ := h.1.at k k0 k1
  have hrd : rd (chainL l m) (pre.length : Int) = k := by
   unfold rd
   rw [Int.toNat_natCast,← hp,List.getD_eq_getElem?_getD,List.getElem?_append_right (Nat.le_refl _),Nat.sub_self]
   rfl
  have hlen : pre.length + (rest.length + 1) = (chainL l m).length := by rw [← hp];simp
  have h12 : (chainL l m).length ≤ 12 := Nat.le_trans (chainGo_length l l.length m) h.1.1
  refine Ev.step (fun k => by rw [R_before.l0]) ?_
  rw [hrd]
  refine Ev.pos (by omega) (Ev.pos (by omega) (Ev.pos k0 (Ev.pos k1 ?_)))
  have lb := backLo_bound (M := 2100000000000) hm b0 b1
  have hb := backHi_bound (M := 2100000000000) hm b2 b3
  refine Ev.bind (least_l _ _ _ hm _ _ rfl _ (-4398046511104) 4398046511104 (Nat.le_refl _) (by omega) (by omega) (by omega) (by omega)) ?_
  refine Ev.bind (most_l _ _ _ hm _ _ rfl _ (-4398046511104) 4398046511104 (Nat.le_refl _) (by omega) (by omega) (by omega) (by omega)) ?_
  have next := ih (pre ++ [k]) (by rw [List.append_assoc];exact hp)
  rw [srcFold_snoc,show (((pre ++ [k]).length : Nat) : Int) = (pre.length : Int) + 1 by simp] at next
  rw [wrap64_eq (n := (pre.length : Int) + 1) (by omega)]
  by_cases hs : (srcFold l pre (srcStart l m n)).2.2 = true
  ·refine Ev.pos hs ?_
   have e : (srcStep l (srcFold l pre (srcStart l m n)) k).2.2 = decide ((srcStep l (srcFold l pre (srcStart l m n)) k).1 ≤ (srcStep l (srcFold l pre (srcStart l m n)) k).2.1) := by
    show ((srcFold l pre (srcStart l m n)).2.2 && _) = _
    rw [hs,Bool.true_and]
    rfl
   rw [e] at next
   exact next
  ·refine Ev.neg hs ?_
   have e : (srcStep l (srcFold l pre (srcStart l m n)) k).2.2 = false := by
    show ((srcFold l pre (srcStart l m n)).2.2 && _) = _
    rw [Bool.eq_false_iff.2 hs,Bool.false_and]
   rw [e] at next
   exact next
theorem chainGo_stop (l : List S49) : ∀ (d : Nat) (m : Int),afterGo l d m < 0 → chainGo l (d + 1) m = chainGo l d m := by
 intro d
 induction d with
 | zero => intro m h;rw [chainGo_neg l _ m h];rfl
 | succ d ih =>
  intro m h
  by_cases hm : m < 0
  ·rw [chainGo_neg l _ m hm,chainGo_neg l _ m hm]
  ·rw [afterGo,if_neg hm] at h
   have e1 : chainGo l (d + 1 + 1) m = m :: chainGo l (d + 1) (rd_T49 l m).f3 := by rw [chainGo,if_neg hm]
   have e2 : chainGo l (d + 1) m = m :: chainGo l d (rd_T49 l m).f3 := by rw [chainGo,if_neg hm]
   rw [e1,e2,ih _ h]
theorem refChain_full {l : List S49} (hb : ∀ m : Int,0 ≤ m → m < l.length → -1 ≤ (rd_T49 l m).f3 ∧ (rd_T49 l m).f3 < l.length) (h20 : l.length ≤ 20) : ∀ (d : Nat) (m : Int) (pre : List Int),m < l.length → pre.length + d = l.length + 1 →
  Ev (fun k => R_chain.l0 k l m pre) (pre ++ chainGo l d m,decide (afterGo l d m < 0)) := by
 intro d
 induction d with
 | zero =>
  intro m pre h0 h1
  by_cases hm : m < 0
  ·refine Ev.step (fun k => by rw [R_chain.l0]) ?_
   exact Ev.neg (by omega) (Ev.done (by rw [afterGo,chainGo,List.append_nil]))
  ·refine Ev.step (fun k => by rw [R_chain.l0]) ?_
   exact Ev.pos (by omega) (Ev.neg (by omega) (Ev.done (by rw [afterGo,chainGo,List.append_nil])))
 | succ d ih =>
  intro m pre h0 h1
  by_cases hm : m < 0
  ·refine Ev.step (fun k => by rw [R_chain.l0]) ?_
   exact Ev.neg (by omega) (Ev.done (by rw [afterGo,if_pos hm,chainGo,if_pos hm,List.append_nil]))
  ·obtain ⟨b0,b1⟩ := hb m (by omega) h0
   have hc := ih (rd_T49 l m).f3 (pre ++ [m]) b1 (by simp;omega)
   refine Ev.step (fun k => by rw [R_chain.l0]) ?_
   rw [List.append_assoc] at hc
   rw [afterGo,if_neg hm,chainGo,if_neg hm]
   exact Ev.pos (by omega) (Ev.pos (by omega) (Ev.pos (by omega) (Ev.pos (by omega) (Ev.pos h0 hc))))
theorem checkP_valid {l : List S49} (h : checkP l = 0) : BenchOk l ∧ ∀ i : Nat,i < l.length → endsP l i := by
 unfold checkP at h
 by_cases h12 : 12 < l.length
 ·rw [if_pos h12] at h;omega
 rw [if_neg h12] at h
 by_cases hf : firstErr l.length l = 0
 ·rw [if_neg (by omega)] at h
  refine ⟨⟨by omega,firstErr_zero hf⟩,?_⟩
  have go : ∀ d i : Nat,i + d = l.length → looseFrom l d i = 0 → ∀ j,i ≤ j → j < l.length → endsP l j := by
   intro d
   induction d with
   | zero => intro i hi _ j h1 h2;omega
   | succ d ih =>
    intro i hi hl j h1 h2
    unfold looseFrom at hl
    by_cases he : endsP l i
    ·rw [if_pos he] at hl
     by_cases hij : j = i
     ·subst hij;exact he
     ·exact ih (i + 1) (by omega) hl j (by omega) h2
    ·rw [if_neg he] at hl;omega
  exact fun i hi => go l.length 0 (by omega) h i (by omega) hi
 ·rw [if_pos hf] at h;exact absurd h hf
theorem benchBy {l : List S49} (hb : BenchOk l) : ∀ m : Int,0 ≤ m → m < l.length → -1 ≤ (rd_T49 l m).f3 ∧ (rd_T49 l m).f3 < l.length := fun m m0 m1 => by
 obtain ⟨_,_,_,_,_,a11,a12⟩ := hb.at m m0 m1
 exact ⟨a11,a12⟩
theorem refChain_valid {l : List S49} (h : checkP l = 0) {m : Int} (m0 : 0 ≤ m) (m1 : m < l.length) : Ev (fun k => R_chain.f k l m) (chainL l m,true) := by
 obtain ⟨hb,he⟩ := checkP_valid h
 have h12 := hb.1
 have := refChain_full (benchBy hb) (by omega) (l.length + 1) m [] m1 (by simp)
 have hm := he m.toNat (by omega)
 rw [Int.toNat_of_nonneg m0] at hm
 have ha := (endsP_after (benchBy hb) m m0 m1).1 hm
 have ha' := afterGo_enough (fun m a b => (benchBy hb m a b).2) m m1 _ ha
 rw [List.nil_append,decide_eq_true ha,chainGo_stop l _ m ha'] at this
 exact this
theorem refBefore_ev {l : List S49} (h : checkP l = 0) {m n : Int} (m0 : 0 ≤ m) (m1 : m < l.length) (n0 : -1000000000 ≤ n) (n1 : n ≤ 1000000000) : Ev (fun k => R_before.f k l m n) (sourceP l m n) := by
 obtain ⟨hb,he⟩ := checkP_valid h
 obtain ⟨_,a7,a8,_⟩ := hb.at m m0 m1
 have hl := refBefore_l ⟨hb,m0,m1,n0,n1⟩ (chainL l m) [] rfl
 unfold R_before.f
 refine Ev.pos m0 (Ev.pos m1 (Ev.bind (refChain_valid h m0 m1) ?_))
 have e : Int.tdiv (rd_T49 l m).f2 2 = (rd_T49 l m).f2 / 2 := Int.tdiv_eq_ediv_of_nonneg (by omega)
 rw [e,wrap64_eq (n := (rd_T49 l m).f2 / 2) (by omega),wrap64_eq (n := n - (rd_T49 l m).f2 / 2) (by omega),wrap64_eq (n := n + (rd_T49 l m).f2 / 2) (by omega)]
 exact hl
/-- What both answer. -/
def trueP (l : List S49) (m n : Int) : Int × Int × Int :=
 if checkP l ≠ 0 then (0,0,checkP l) else if m < 0 ∨ m > (l.length : Int) - 1 then (0,0,7) else if n < -1000000000 ∨ n > 1000000000 then (0,0,2) else
 if Int.tmod n (rd_T49 l m).f2 ≠ 0 then (0,0,3) else if (sourceP l m n).2.2 = true then ((sourceP l m n).1,(sourceP l m n).2.1,0) else (0,0,12)
theorem true_any (l : List S49) (h20 : l.length ≤ 20) (m n : Int) : gauge_True.f l m n = some (trueP l m n) := by
 unfold trueP
 by_cases hc : checkP l = 0
 ·obtain ⟨hb,he⟩ := checkP_valid hc
  rw [if_neg (by omega)]
  unfold gauge_True.f gauge_Check.f
  simp only [Option.bind_some]
  rw [if_pos hc,wrap64_eq (by omega)]
  by_cases hm : m < 0 ∨ m > (l.length : Int) - 1
  ·rw [if_pos hm,outside_true hm]
   rfl
  ·rw [if_neg hm,outside_false (by omega)]
   simp only [Option.bind_some]
   rw [if_neg (by decide)]
   by_cases hn : n < -1000000000 ∨ n > 1000000000
   ·rw [if_pos hn,outside_true hn]
    rfl
   ·rw [if_neg hn,outside_false (by omega)]
    simp only [Option.bind_some]
    obtain ⟨_,a7,a8,_⟩ := hb.at m (by omega) (by omega)
    rw [if_neg (by decide),if_pos (by omega),if_pos (by omega),if_neg (by omega)]
    by_cases hs : Int.tmod n (rd_T49 l m).f2 = 0
    ·rw [if_pos hs,if_neg (by omega)]
     unfold gauge_source.f
     rw [if_pos ⟨hb,by omega,by omega,by omega,by omega⟩]
     simp only [Option.bind_some]
     split <;> rfl
    ·rw [if_neg hs,if_pos hs]
 ·rw [if_pos hc]
  unfold gauge_True.f gauge_Check.f
  simp only [Option.bind_some]
  rw [if_neg hc]
theorem refTrue_ev (l : List S49) (h20 : l.length ≤ 20) (m n : Int) : Ev (fun k => R_True.f k l m n) (trueP l m n) := by
 unfold R_True.f trueP
 refine Ev.bind (refCheck_ev l h20) ?_
 by_cases hc : checkP l = 0
 ·obtain ⟨hb,he⟩ := checkP_valid hc
  rw [if_neg (show ¬ checkP l ≠ 0 by omega)]
  refine Ev.pos hc ?_
  rw [wrap64_eq (by omega)]
  by_cases hm : m < 0 ∨ m > (l.length : Int) - 1
  ·rw [if_pos hm]
   exact Ev.call (beyond_true hm) (Ev.pos rfl (Ev.done rfl))
  ·rw [if_neg hm]
   refine Ev.call (beyond_false (by omega)) (Ev.neg (by decide) ?_)
   by_cases hn : n < -1000000000 ∨ n > 1000000000
   ·rw [if_pos hn]
    exact Ev.call (beyond_true hn) (Ev.pos rfl (Ev.done rfl))
   ·rw [if_neg hn]
    obtain ⟨_,a7,a8,_⟩ := hb.at m (by omega) (by omega)
    refine Ev.call (beyond_false (by omega)) (Ev.neg (by decide) (Ev.pos (by omega) (Ev.pos (by omega) (Ev.neg (by omega) ?_))))
    by_cases hs : Int.tmod n (rd_T49 l m).f2 = 0
    ·rw [if_neg (show ¬ Int.tmod n (rd_T49 l m).f2 ≠ 0 by omega)]
     refine Ev.pos hs (Ev.bind (refBefore_ev hc (by omega) (by omega) (by omega) (by omega)) ?_)
     by_cases h2 : (sourceP l m n).2.2 = true
     ·exact Ev.pos h2 (Ev.done (by rw [if_pos h2]))
     ·exact Ev.neg h2 (Ev.done (by rw [if_neg h2]))
    ·rw [if_pos hs]
     exact Ev.neg hs (Ev.done rfl)
 ·rw [if_pos (show checkP l ≠ 0 from hc)]
  exact Ev.neg hc (Ev.done rfl)
/-! ### the reference's verdicts -/
theorem refVerdict_ev (a b c d : Int) : Ev (fun k => R_Verdict.f k a b c d) (verdictP a b c d) := by
 unfold R_Verdict.f verdictP
 have j1 : ∀ x : Bool,x = decide (a ≥ c ∧ b ≤ d) → ¬ (a > b ∨ c > d) → Ev (fun k => R_Verdict.j1 k x a b c d) (if a > b ∨ c > d then 0 else if a ≥ c ∧ b ≤ d then 1 else if b < c ∨ a > d then 2 else 3) := by
  intro x hx h
  refine Ev.step (fun k => by rw [R_Verdict.j1]) ?_
  rw [if_neg h]
  by_cases h2 : a ≥ c ∧ b ≤ d
  ·rw [if_pos h2];exact Ev.pos (by rw [hx,decide_eq_true h2]) (Ev.done rfl)
  ·rw [if_neg h2]
   refine Ev.neg (by rw [hx,decide_eq_false h2];decide) ?_
   by_cases h3 : b < c
   ·exact Ev.pos h3 (Ev.done (by rw [if_pos (Or.inl h3)]))
   ·refine Ev.neg h3 ?_
    by_cases h4 : a > d
    ·exact Ev.pos h4 (Ev.done (by rw [if_pos (Or.inr h4)]))
    ·exact Ev.neg h4 (Ev.done (by rw [if_neg (by omega)]))
 by_cases h1 : a > b
 ·refine Ev.pos h1 (Ev.step (fun k => by rw [R_Verdict.j0]) (Ev.pos rfl (Ev.done (by rw [if_pos (.inl h1)]))))
 ·refine Ev.neg h1 (Ev.step (fun k => by rw [R_Verdict.j0]) ?_)
  by_cases h2 : c > d
  ·exact Ev.pos (by rw [decide_eq_true h2]) (Ev.done (by rw [if_pos (.inr h2)]))
  ·refine Ev.neg (by rw [decide_eq_false h2];decide) ?_
   by_cases h3 : a ≥ c
   ·exact Ev.pos h3 (j1 _ (by rw [decide_eq_decide];omega) (by omega))
   ·exact Ev.neg h3 (j1 _ (by rw [decide_eq_false (by omega)]) (by omega))
/-! ### a region that draws its order,with edges that do not bind -/
theorem wp_region_alln {P : Program} {id : Nat} {ops : Array Oper} {Q : Exit → Act → World → Prop} {a : Act} {w : World} (n : Nat) (hm : P.follows .mixedOrders = true) (hn : ops.size = n)
  (hback : (List.range n).all (fun i => ((ops[i]?).map (fun o => o.after.all fun e => !(Region.binds .any e) || decide (e.on < i))).getD false) = true)
  (I : Array Bool → Act → World → Prop) (h0 : I (Array.replicate n false) a w.drew)
  (hstep : ∀ (i : Nat) (o : Oper),i < n → ops[i]? = some o → ∀ (L : Array Bool) (a : Act) (w : World),I L a w → L.size = n → L.getD i true = false →
   (∀ e ∈ o.after,Region.binds .any e = true → L.getD e.on false = true) → wpOp P ops Q i (fun a' w' => I (L.setIfInBounds i true) a' w') a w)
  (hend : ∀ (L : Array Bool) (a : Act) (w : World),I L a w → (∀ i,i < n → L.getD i false = true) → Q .normal a w) :
  (Code.region id ops true).wp P Q a w := by
 refine wp_region_any hm ?_
 have go : ∀ (fuel : Nat) (L : Array Bool) (a : Act) (w : World),L.size = n → L.count false ≤ fuel → I L a w → wpAny P .any ops Q fuel L a w := by
  have all : ∀ (L : Array Bool),L.size = n → Region.ready .any ops L = [] → ∀ i,i < n → L.getD i false = true := by
   intro L hL hr i
   induction i using Nat.strongRecOn with
   | _ i ih =>
    intro hi
    by_cases hc : L.getD i false = true
    ·exact hc
    ·exfalso
     have hb := List.all_eq_true.1 hback i (List.mem_range.2 hi)
     obtain ⟨o,ho⟩ : ∃ o,ops[i]? = some o := ⟨ops[i]'(by omega),Array.getElem?_eq_getElem (by omega)⟩
     rw [ho,Option.map_some,Option.getD_some,Array.all_eq_true_iff_forall_mem] at hb
     have : i ∈ Region.ready .any ops L := mem_ready.2 ⟨by
      have h1 : i < L.size := by omega
      simp [h1] at hc ⊢
      exact hc,o,ho,fun e he hbe => by
      have h3 := hb e he
      rw [hbe,Bool.not_true,Bool.false_or,decide_eq_true_eq] at h3
      exact ih e.on h3 (by omega)⟩
     rw [hr] at this
     cases this
  have next : ∀ (fuel : Nat) (L : Array Bool) (i : Nat),L.size = n → i < n → L.getD i true = false → L.count false ≤ fuel + 1 → (L.setIfInBounds i true).count false ≤ fuel := by
   intro fuel L i hL hi hf hc
   have h1 : i < L.size := by omega
   have hv : L[i] = false := by simpa [h1] using hf
   rw [Array.setIfInBounds,dif_pos h1,Array.count_set h1,hv]
   have : 0 < L.count false := Array.count_pos_iff.2 (hv ▸ Array.getElem_mem h1)
   simp
   omega
  intro fuel
  induction fuel with
  | zero =>
   intro L a w hL hc hI
   have hall : ∀ i,i < n → L.getD i false = true := by
    intro i hi'
    have h1 : i < L.size := by omega
    have := Array.count_eq_zero.1 (Nat.le_zero.1 hc)
    simp [h1]
    cases hv : L[i] with
    | true => rfl
    | false => exact absurd (hv ▸ Array.getElem_mem h1) this
   refine ⟨?_,hend L a w hI hall⟩
   rw [List.eq_nil_iff_forall_not_mem]
   intro i hr
   obtain ⟨h1,o,ho,_⟩ := mem_ready.1 hr
   have h2 : i < n := by rw [← hn];exact (Array.getElem?_eq_some_iff.1 ho).1
   have h3 := hall i h2
   have h4 : i < L.size := by omega
   simp [h4] at h1 h3
   rw [h1] at h3
   cases h3
  | succ fuel ih =>
   intro L a w hL hc hI
   refine ⟨fun hr => hend L a w hI (all L hL hr),fun i hr => ?_⟩
   obtain ⟨h1,o,ho,hall⟩ := mem_ready.1 hr
   have h2 : i < n := by rw [← hn];exact (Array.getElem?_eq_some_iff.1 ho).1
   exact wpOp_mono (fun a' w' hI' => ih _ a' w' (by simp [hL]) (next fuel L i hL h2 h1 hc) hI') (hstep i o h2 ho L a w hI hL h1 hall)
 rw [hn]
 exact go _ _ _ _ (by simp) (by simp) h0
/-! ### for the laws' walks -/
theorem keep_cellb {w w' : World} {g b i : Nat} {cs : Array Value} {t : TypeId} {v : Value} (hk : KeepBut w w' g none) (hb : b ≠ g) (h : w.heap[b]? = some (.cells cs t (0,0))) (hv : cs[i]? = some v) : w'.cell? ⟨b,i,none⟩ = some v := by
 rw [blk_cell (keep_blk hk hb h) i];exact hv
/-- Variables of ranges that stand. -/
def Vars (g : Nat) (bs : List (Nat × Int × Int)) (W : World) : Prop := ∀ x ∈ bs,x.1 ≠ g ∧ W.heap[x.1]? = some (.cells #[.int .i64 x.2.1,.int .i64 x.2.2] 34 (0,0))
theorem Vars.keep {g : Nat} {bs : List (Nat × Int × Int)} {W W' : World} (h : Vars g bs W) (hk : KeepBut W W' g none) : Vars g bs W' := fun x hx => ⟨(h x hx).1,keep_blk hk (h x hx).1 (h x hx).2⟩
theorem Vars.nil (g : Nat) (W : World) : Vars g [] W := fun x hx => by cases hx
theorem Vars.cons {g b : Nat} {p q : Int} {bs : List (Nat × Int × Int)} {W : World} (hb : b ≠ g) (hc : W.heap[b]? = some (.cells #[.int .i64 p,.int .i64 q] 34 (0,0))) (h : Vars g bs W) : Vars g ((b,p,q) :: bs) W := fun x hx => by
 rcases List.mem_cons.1 hx with rfl | hx
 ·exact ⟨hb,hc⟩
 ·exact h x hx
theorem Vars.lo {g : Nat} {bs : List (Nat × Int × Int)} {W : World} (h : Vars g bs W) (k : Nat) {b : Nat} {p q : Int} (hx : bs[k]? = some (b,p,q)) : ∀ W',KeepBut W W' g none → W'.cell? ⟨b,0,none⟩ = some (.int .i64 p) := fun _ hk => keep_cellb hk (h _ (List.mem_of_getElem? hx)).1 (h _ (List.mem_of_getElem? hx)).2 rfl
theorem Vars.hi {g : Nat} {bs : List (Nat × Int × Int)} {W : World} (h : Vars g bs W) (k : Nat) {b : Nat} {p q : Int} (hx : bs[k]? = some (b,p,q)) : ∀ W',KeepBut W W' g none → W'.cell? ⟨b,1,none⟩ = some (.int .i64 q) := fun _ hk => keep_cellb hk (h _ (List.mem_of_getElem? hx)).1 (h _ (List.mem_of_getElem? hx)).2 rfl
/-- A new variable of a range. -/
theorem Vars.new {g : Nat} {bs : List (Nat × Int × Int)} {W : World} (h : Vars g bs W) (hg : g < W.heap.size) (p q : Int) : Vars g ((W.heap.size,p,q) :: bs) (W.alloc (.cells #[.int .i64 p,.int .i64 q] 34)) :=
 Vars.cons (by omega) (blk_new W _) (h.keep (KeepBut.of_below (bA_ (Below.refl _ _) _) g none))
/-! ### accepted numbers: what program and reference answer -/
theorem accepted_ev {l : List S49} (hck : checkP l = 0) {m : Int} (m0 : 0 ≤ m) (m1 : m < l.length) (lo hi x : Int) (x0 : -accMost l m ≤ x) (x1 : x ≤ accMost l m) :
  Ev (fun k => R_accepted.f k l m (x * stepK l m) lo hi) (accSure l m x && accLo l m lo x && !accHi l m hi x,!accLo l m lo x,accHi l m hi x) := by
 obtain ⟨s0,s1,M0,M1,hK⟩ := accStep (acc_ok hck) m0 m1
 obtain ⟨n0,n1⟩ := hK x x0 x1
 have hb := refBefore_ev hck m0 m1 n0 n1
 unfold R_accepted.f
 refine Ev.bind hb (Ev.done ?_)
 unfold accSure accLo accHi srcK
 generalize sourceP l m (x * stepK l m) = s
 obtain ⟨a,b,c⟩ := s
 show (if a < lo then _ else _) = _
 by_cases h1 : a < lo
 ·by_cases h2 : b > hi
  ·cases c <;> simp [h1,h2,Int.not_le.2 h1]
  ·cases c <;> simp [h1,h2,Int.not_le.2 h1]
 ·by_cases h2 : b > hi
  ·cases c
   ·by_cases h3 : b < -1000000000
    ·simp [h1,h2,h3,Int.not_lt.1 h1,Int.not_le.2 h3]
    ·simp [h1,h2,h3,Int.not_lt.1 h1,Int.not_lt.1 h3]
   ·by_cases h3 : b < -1000000000
    ·simp [h1,h2,h3,Int.not_lt.1 h1,Int.not_le.2 h3]
    ·simp [h1,h2,h3,Int.not_lt.1 h1,Int.not_lt.1 h3]
  ·cases c
   ·by_cases h3 : b < -1000000000
    ·simp [h1,h2,h3,Int.not_lt.1 h1,Int.not_le.2 h3]
    ·simp [h1,h2,h3,Int.not_lt.1 h1,Int.not_lt.1 h3]
   ·by_cases h3 : b < -1000000000
    ·simp [h1,h2,h3,Int.not_lt.1 h1,Int.not_le.2 h3]
    ·simp [h1,h2,h3,Int.not_lt.1 h1,Int.not_lt.1 h3]
theorem refAccept_main {l : List S49} (hck : checkP l = 0) {m : Int} (m0 : 0 ≤ m) (m1 : m < l.length) (lo hi : Int) :
  Ev (fun k => R_Accept.l0 k l m (stepK l m) (accMost l m) (-accMost l m) (accMost l m + 1) lo hi) (acceptP l m lo hi) := by
 have hb := acc_ok hck
 obtain ⟨s0,s1,M0,M1,hK⟩ := accStep hb m0 m1
 have hA := thr_bound (accLo l m lo) (M := accMost l m) (by omega)
 have hB := thr_bound (accHi l m hi) (M := accMost l m) (by omega)
 have tA := fun x x0 x1 => thr_iff (p := accLo l m lo) (M := accMost l m) (by omega) (fun i j _ hij _ h => accLo_mono hb m0 m1 lo i j hij h) x x0 x1
 have tB := fun x x0 x1 => thr_iff (p := accHi l m hi) (M := accMost l m) (by omega) (fun i j _ hij _ h => accHi_mono hb m0 m1 hi i j hij h) x x0 x1
 have acc := fun x x0 x1 => accepted_ev hck m0 m1 lo hi x x0 x1
 have hAB : (accA0 l m lo ≤ accA l m lo hi) ∧ accB l m lo hi ≤ accB0 l m hi := ⟨(climb_bound _ _ _).1,(sink_bound _ _ _).1⟩
 have hcl : climb (accSure l m) (accB0 l m hi + 1 - accA0 l m lo).toNat (accA0 l m lo) = accA l m lo hi := rfl
 have hsk : sink (accSure l m) (accB0 l m hi + 1 - accA l m lo hi).toNat (accB0 l m hi) = accB l m lo hi := rfl
 have hp : acceptP l m lo hi = if accA l m lo hi > accB l m lo hi then (0,0,10) else (accA l m lo hi * stepK l m,accB l m lo hi * stepK l m,0) := rfl
 have eA : accA0 l m lo = thr (accLo l m lo) (accMost l m) := rfl
 have eB : accB0 l m hi = thr (accHi l m hi) (accMost l m) - 1 := rfl
 rw [hp]
 clear hp
 rw [← eA] at hA tA
 have hB' : -accMost l m - 1 ≤ accB0 l m hi ∧ accB0 l m hi ≤ accMost l m := by omega
 have tB' : ∀ x,-accMost l m ≤ x → x ≤ accMost l m → accHi l m hi x = decide (accB0 l m hi + 1 ≤ x) := fun x x0 x1 => by rw [tB x x0 x1,eB];congr 1;rw [eq_iff_iff];omega
 clear hB tB eA eB hck
 generalize accA l m lo hi = aF at hAB hcl hsk ⊢
 generalize accB l m lo hi = bF at hAB hsk ⊢
 generalize accA0 l m lo = A at hA tA hAB hcl
 generalize accB0 l m hi = B at hB' tB' hAB hcl hsk
 generalize accMost l m = M at *
 generalize stepK l m = S at *
 have is : ∀ x,A ≤ x → x ≤ B → Ev (fun k => R_accepted.f k l m (x * S) lo hi) (accSure l m x,false,false) := fun x h0 h1 => by
  have h := acc x (by omega) (by omega)
  rw [tA x (by omega) (by omega),tB' x (by omega) (by omega),decide_eq_true h0,decide_eq_false (by omega)] at h
  simpa using h
 have last : ∀ (d : Nat) (b : Int),(b + 1 - aF).toNat = d → aF ≤ B + 1 → b ≤ B → sink (accSure l m) d b = bF → Ev (fun k => R_Accept.l3 k l m S aF b lo hi) (if aF > bF then (0,0,10) else (aF * S,bF * S,0)) := by
  intro d
  induction d with
  | zero =>
   intro b hd ha hbB hs
   have hs : b = bF := hs
   refine Ev.step (fun k => by rw [R_Accept.l3]) (Ev.neg (by omega) (Ev.pos (by omega) (Ev.done ?_)))
   rw [if_pos (by omega)]
  | succ d ih =>
   intro b hd ha hbB hs
   have kb := hK b (by omega) (by omega)
   refine Ev.step (fun k => by rw [R_Accept.l3]) (Ev.pos (by omega) ?_)
   rw [wrap64_eq (n := b * S) (by omega)]
   refine Ev.bind (is b (by omega) hbB) ?_
   by_cases hc : accSure l m b = true
   ·rw [sink,if_pos hc] at hs
    have ka := hK aF (by omega) (by omega)
    refine Ev.pos hc (Ev.neg (by omega) (Ev.done ?_))
    rw [if_neg (by omega),wrap64_eq (n := aF * S) (by omega),hs]
   ·rw [sink,if_neg hc] at hs
    refine Ev.neg hc ?_
    rw [wrap64_eq (n := b - 1) (by omega)]
    exact ih (b - 1) (by omega) ha (by omega) hs
 have mid : ∀ (d : Nat) (a : Int),(B + 1 - a).toNat = d → A ≤ a → climb (accSure l m) d a = aF → Ev (fun k => R_Accept.l2 k l m S a B lo hi) (if aF > bF then (0,0,10) else (aF * S,bF * S,0)) := by
  have j3 : aF ≤ B + 1 → Ev (fun k => R_Accept.j3 k l m S aF B lo hi) (if aF > bF then (0,0,10) else (aF * S,bF * S,0)) := fun h => Ev.step (fun k => by rw [R_Accept.j3]) (last _ B rfl h (Int.le_refl _) hsk)
  have j3' : aF > B + 1 → Ev (fun k => R_Accept.j3 k l m S aF B lo hi) (if aF > bF then (0,0,10) else (aF * S,bF * S,0)) := fun h => by
   refine Ev.step (fun k => by rw [R_Accept.j3]) (Ev.step (fun k => by rw [R_Accept.l3]) (Ev.neg (by omega) (Ev.pos (by omega) (Ev.done ?_))))
   rw [if_pos (by omega)]
  intro d
  induction d with
  | zero =>
   intro a hd hAa hc
   have hc : a = aF := hc
   refine Ev.step (fun k => by rw [R_Accept.l2]) (Ev.neg (by omega) ?_)
   rw [hc]
   by_cases h : aF ≤ B + 1
   ·exact j3 h
   ·exact j3' (by omega)
  | succ d ih =>
   intro a hd hAa hc
   have kb := hK a (by omega) (by omega)
   refine Ev.step (fun k => by rw [R_Accept.l2]) (Ev.pos (by omega) ?_)
   rw [wrap64_eq (n := a * S) (by omega)]
   refine Ev.bind (is a hAa (by omega)) ?_
   by_cases hs : accSure l m a = true
   ·rw [climb,if_pos hs] at hc
    refine Ev.pos hs ?_
    rw [hc]
    exact j3 (by omega)
   ·rw [climb,if_neg hs] at hc
    refine Ev.neg hs ?_
    rw [wrap64_eq (n := a + 1) (by omega)]
    exact ih (a + 1) (by omega) (by omega) hc
 have sec : ∀ (d : Nat) (p q : Int),(q - p).toNat ≤ d → -M - 1 ≤ p → p ≤ B → B ≤ q → q ≤ M → Ev (fun k => R_Accept.l1 k l m S A p q lo hi) (if aF > bF then (0,0,10) else (aF * S,bF * S,0)) := by
  intro d
  induction d with
  | zero =>
   intro p q hd p0 p1 q0 q1
   refine Ev.step (fun k => by rw [R_Accept.l1]) (Ev.neg (by omega) ?_)
   rw [show q = B by omega]
   exact mid _ A rfl (Int.le_refl _) hcl
  | succ d ih =>
   intro p q hd p0 p1 q0 q1
   refine Ev.step (fun k => by rw [R_Accept.l1]) ?_
   by_cases hpq : p < q
   ·refine Ev.pos hpq ?_
    rw [wrap64_eq (n := p + q) (by omega)]
    refine Ev.call (refUp_eq (by omega) (by omega)) ?_
    have kb := hK (-(-(p + q) / 2)) (by omega) (by omega)
    have h := acc (-(-(p + q) / 2)) (by omega) (by omega)
    have ht := tB' (-(-(p + q) / 2)) (by omega) (by omega)
    obtain ⟨x,hx⟩ : ∃ x,x = -(-(p + q) / 2) := ⟨_,rfl⟩
    rw [← hx] at kb h ht ⊢
    rw [wrap64_eq (n := x * S) (by omega)]
    refine Ev.bind h ?_
    rw [ht]
    by_cases hc : B + 1 ≤ x
    ·refine Ev.pos (decide_eq_true hc) ?_
     rw [wrap64_eq (n := x - 1) (by omega)]
     exact ih p (x - 1) (by omega) p0 p1 (by omega) (by omega)
    ·exact Ev.neg (by rw [decide_eq_false hc];simp) (ih x q (by omega) (by omega) (by omega) q0 q1)
   ·refine Ev.neg hpq ?_
    rw [show q = B by omega]
    exact mid _ A rfl (Int.le_refl _) hcl
 have fst : ∀ (d : Nat) (p q : Int),(q - p).toNat ≤ d → -M ≤ p → p ≤ A → A ≤ q → q ≤ M + 1 → Ev (fun k => R_Accept.l0 k l m S M p q lo hi) (if aF > bF then (0,0,10) else (aF * S,bF * S,0)) := by
  intro d
  have go : ∀ p,p = A → Ev (fun k => R_Accept.l1 k l m S p (wrap64 (wrap64 (-M) - 1)) M lo hi) (if aF > bF then (0,0,10) else (aF * S,bF * S,0)) := fun p hp => by
   rw [wrap64_eq (n := -M) (by omega),wrap64_eq (n := -M - 1) (by omega),hp]
   exact sec _ (-M - 1) M (Nat.le_refl _) (Int.le_refl _) (by omega) (by omega) (Int.le_refl _)
  induction d with
  | zero =>
   intro p q hd p0 p1 q0 q1
   exact Ev.step (fun k => by rw [R_Accept.l0]) (Ev.neg (by omega) (go p (by omega)))
  | succ d ih =>
   intro p q hd p0 p1 q0 q1
   refine Ev.step (fun k => by rw [R_Accept.l0]) ?_
   by_cases hpq : p < q
   ·refine Ev.pos hpq ?_
    rw [wrap64_eq (n := p + q) (by omega)]
    refine Ev.call (refDown_eq (by omega) (by omega)) ?_
    have kb := hK ((p + q) / 2) (by omega) (by omega)
    have h := acc ((p + q) / 2) (by omega) (by omega)
    have ht := tA ((p + q) / 2) (by omega) (by omega)
    obtain ⟨x,hx⟩ : ∃ x,x = (p + q) / 2 := ⟨_,rfl⟩
    rw [← hx] at kb h ht ⊢
    rw [wrap64_eq (n := x * S) (by omega)]
    refine Ev.bind h ?_
    rw [ht]
    by_cases hc : A ≤ x
    ·refine Ev.neg (by rw [decide_eq_true hc];simp) (ih p x (by omega) p0 p1 hc (by omega))
    ·refine Ev.pos (by rw [decide_eq_false hc];rfl) ?_
     rw [wrap64_eq (n := x + 1) (by omega)]
     exact ih (x + 1) q (by omega) (by omega) (by omega) q0 q1
   ·exact Ev.neg hpq (go p (by omega))
 exact fst _ (-M) (M + 1) (Nat.le_refl _) (Int.le_refl _) (by omega) (by omega) (Int.le_refl _)
def acceptAll (l : List S49) (m lo hi : Int) : Int × Int × Int := if checkP l ≠ 0 then (0,0,checkP l) else if m < 0 ∨ m > (l.length : Int) - 1 then (0,0,7) else if lo > hi then (0,0,11) else acceptP l m lo hi
theorem accept_any (l : List S49) (h20 : l.length ≤ 20) (m lo hi : Int) : gauge_Accept.f l m lo hi = some (acceptAll l m lo hi) := by unfold gauge_Accept.f;rw [if_pos h20];rfl
theorem refAccept_ev (l : List S49) (h20 : l.length ≤ 20) (m lo hi : Int) : Ev (fun k => R_Accept.f k l m lo hi) (acceptAll l m lo hi) := by
 unfold R_Accept.f acceptAll
 refine Ev.bind (refCheck_ev l h20) ?_
 by_cases hc : checkP l = 0
 ·rw [if_neg (show ¬ checkP l ≠ 0 by omega)]
  refine Ev.pos hc ?_
  rw [wrap64_eq (n := (l.length : Int) - 1) (by omega)]
  by_cases hm : m < 0 ∨ m > (l.length : Int) - 1
  ·rw [if_pos hm];exact Ev.call (beyond_true hm) (Ev.pos rfl (Ev.done rfl))
  ·rw [if_neg hm]
   refine Ev.call (beyond_false (by omega)) (Ev.neg (by decide) ?_)
   by_cases hl : lo > hi
   ·rw [if_pos hl];exact Ev.pos hl (Ev.done rfl)
   ·rw [if_neg hl]
    obtain ⟨s0,s1,M0,M1,_⟩ := accStep (acc_ok hc) (m := m) (by omega) (by omega)
    have h := refAccept_main hc (m := m) (by omega) (by omega) lo hi
    have e1 : wrap64 (Int.tdiv (1000000000 : Int) (rd_T49 l m).f2) = accMost l m := by
     have e0 : Int.tdiv (1000000000 : Int) (rd_T49 l m).f2 = accMost l m := Int.tdiv_eq_ediv_of_nonneg (by omega)
     rw [e0]
     exact wrap64_eq (by omega)
    refine Ev.neg hl (Ev.pos (by omega) (Ev.pos (by omega) (Ev.neg (by unfold stepK at s0;omega) ?_)))
    rw [e1,wrap64_eq (n := -accMost l m) (by omega),wrap64_eq (n := accMost l m + 1) (by omega)]
    exact h
 ·rw [if_pos (show checkP l ≠ 0 from hc)];exact Ev.neg hc (Ev.done rfl)
/-! ### AcceptsWalk: the walk,by hand -/
theorem run_field_34_0 {ρ : Operand → Value} {o : Oper} {x : Operand} {p : Addr} (w : World) (h : o.op = .fieldAddr 34 x 0) (hx : ρ x = .pointer (some p)) :
  (execOp ρ o).run Try.prog w = .ok (.value (.pointer (some p))) w := by
 have hu34 := Try.underlying34
 unfold execOp;rw [h];simp only [hx];clear h hx
 go_simp
theorem run_load_3 {ρ : Operand → Value} {o : Oper} {x : Operand} {p : Addr} {v : Value} (w : World) (h : o.op = .load 3 x) (hx : ρ x = .pointer (some p)) (hc : w.cell? p = some v) :
  (execOp ρ o).run Try.prog w = .ok (.value v) w := by
 have hu := Try.underlying3
 unfold execOp;rw [h];simp only [hx];clear h hx
 go_simp
theorem run_field_34_1 {ρ : Operand → Value} {o : Oper} {x : Operand} {p : Addr} (w : World) (h : o.op = .fieldAddr 34 x 1) (hx : ρ x = .pointer (some p)) :
  (execOp ρ o).run Try.prog w = .ok (.value (.pointer (some ⟨p.block,p.off + 1,none⟩))) w := by
 have hu34 := Try.underlying34
 unfold execOp;rw [h];simp only [hx];clear h hx
 go_simp
theorem run_mul {ρ : Operand → Value} {o : Oper} {x y : Operand} {a b : Int} (w : World) (h : o.op = .binOp .mul 3 x y 3) (hx : ρ x = .int .i64 a) (hy : ρ y = .int .i64 b) (h0 : -9223372036854775808 ≤ a * b) (h1 : a * b ≤ 9223372036854775807) :
  (execOp ρ o).run Try.prog w = .ok (.value (.int .i64 (a * b))) w := by
 have e : IntKind.i64.wrap (a * b) = a * b := IntWalk.i64_in _ (by omega)
 have hu3 := Try.underlying3
 unfold execOp;rw [h];simp only [hx,hy];clear h hx hy
 go_simp
theorem run_row_43_slice_slice_slice {ρ : Operand → Value} {o : Oper} {x0 x1 x2 : Operand} {A0 : Option Addr} {n0 c0 : Nat} {A1 : Option Addr} {n1 c1 : Nat} {A2 : Option Addr} {n2 c2 : Nat} (w : World) (h : o.op = .buildSlice 43 3 #[(0,x0),(1,x1),(2,x2)]) (h0 : ρ x0 = .slice A0 n0 c0) (h1 : ρ x1 = .slice A1 n1 c1) (h2 : ρ x2 = .slice A2 n2 c2) :
  (execOp ρ o).run Try.prog w = .ok (.value (.slice (some ⟨w.heap.size,0,none⟩) 3 3)) (w.alloc (.cells #[.slice A0 n0 c0,.slice A1 n1 c1,.slice A2 n2 c2] 25)) := by
 have hu43 := Try.underlying43
 have hu25 := Try.underlying25
 unfold execOp;rw [h];simp only [List.map_toArray,List.map_cons,List.map_nil,h0,h1,h2];clear h h0 h1 h2
 go_simp
theorem run_load_34 {ρ : Operand → Value} {o : Oper} {x : Operand} {b i : Nat} {v0 v1 : Value} (w : World) (h : o.op = .load 34 x) (hx : ρ x = .pointer (some ⟨b,i,none⟩)) (c0 : w.cell? ⟨b,i,none⟩ = some v0) (c1 : w.cell? ⟨b,i + 1,none⟩ = some v1) :
  (execOp ρ o).run Try.prog w = .ok (.value (.agg #[v0,v1])) w := by
 have hu34 := Try.underlying34
 unfold execOp;rw [h];simp only [hx];clear h hx
 go_simp
theorem run_row_44_agg2_agg2_agg2 {ρ : Operand → Value} {o : Oper} {x0 x1 x2 : Operand} {a0_0 a0_1 : Int} {a1_0 a1_1 : Int} {a2_0 a2_1 : Int} (w : World) (h : o.op = .buildSlice 44 3 #[(0,x0),(1,x1),(2,x2)]) (h0 : ρ x0 = .agg #[.int .i64 a0_0,.int .i64 a0_1]) (h1 : ρ x1 = .agg #[.int .i64 a1_0,.int .i64 a1_1]) (h2 : ρ x2 = .agg #[.int .i64 a2_0,.int .i64 a2_1]) :
  (execOp ρ o).run Try.prog w = .ok (.value (.slice (some ⟨w.heap.size,0,none⟩) 3 3)) (w.alloc (.cells #[.int .i64 a0_0,.int .i64 a0_1,.int .i64 a1_0,.int .i64 a1_1,.int .i64 a2_0,.int .i64 a2_1] 34)) := by
 have hu44 := Try.underlying44
 have hu34 := Try.underlying34
 unfold execOp;rw [h];simp only [List.map_toArray,List.map_cons,List.map_nil,h0,h1,h2];clear h h0 h1 h2
 go_simp
theorem run_at_43 {ρ : Operand → Value} {o : Oper} {x y : Operand} {b n c : Nat} {k : Int} (w : World) (h : o.op = .indexAddr 43 x y) (hx : ρ x = .slice (some ⟨b,0,none⟩) n c) (hy : ρ y = .int .i64 k) (h0 : 0 ≤ k) (h1 : k < n) :
  (execOp ρ o).run Try.prog w = .ok (.value (.pointer (some ⟨b,k.toNat,none⟩))) w := by
 have hu43 := Try.underlying43
 have hu25 := Try.underlying25
 unfold execOp;rw [h];simp only [hx,hy];clear h hx hy
 go_simp
theorem run_load_25 {ρ : Operand → Value} {o : Oper} {x : Operand} {p : Addr} {v : Value} (w : World) (h : o.op = .load 25 x) (hx : ρ x = .pointer (some p)) (hc : w.cell? p = some v) :
  (execOp ρ o).run Try.prog w = .ok (.value v) w := by
 have hu := Try.underlying25
 unfold execOp;rw [h];simp only [hx];clear h hx
 go_simp
theorem run_at_22 {ρ : Operand → Value} {o : Oper} {x y : Operand} {b n c : Nat} {k : Int} (w : World) (h : o.op = .indexAddr 22 x y) (hx : ρ x = .slice (some ⟨b,0,none⟩) n c) (hy : ρ y = .int .i64 k) (h0 : 0 ≤ k) (h1 : k < n) :
  (execOp ρ o).run Try.prog w = .ok (.value (.pointer (some ⟨b,k.toNat,none⟩))) w := by
 have hu22 := Try.underlying22
 unfold execOp;rw [h];simp only [hx,hy];clear h hx hy
 go_simp
theorem run_at_44 {ρ : Operand → Value} {o : Oper} {x y : Operand} {b n c : Nat} {k : Int} (w : World) (h : o.op = .indexAddr 44 x y) (hx : ρ x = .slice (some ⟨b,0,none⟩) n c) (hy : ρ y = .int .i64 k) (h0 : 0 ≤ k) (h1 : k < n) :
  (execOp ρ o).run Try.prog w = .ok (.value (.pointer (some ⟨b,k.toNat * 2,none⟩))) w := by
 have hu44 := Try.underlying44
 have hu34 := Try.underlying34
 unfold execOp;rw [h];simp only [hx,hy];clear h hx hy
 go_simp
theorem run_extract_0 {P : Program} {ρ : Operand → Value} {o : Oper} {x : Operand} {u v : Value} (w : World) (h : o.op = .extract x 0) (hx : ρ x = .tuple #[u,v]) : (execOp ρ o).run P w = .ok (.value u) w := by
 unfold execOp;rw [h];simp only [hx];clear h hx
 go_simp
theorem run_extract_1 {P : Program} {ρ : Operand → Value} {o : Oper} {x : Operand} {u v : Value} (w : World) (h : o.op = .extract x 1) (hx : ρ x = .tuple #[u,v]) : (execOp ρ o).run P w = .ok (.value v) w := by
 unfold execOp;rw [h];simp only [hx];clear h hx
 go_simp
set_option maxHeartbeats 8000000 in
set_option maxRecDepth 100000 in
theorem Accepts.region8 (b16 : Nat) (xa xb : Int) {ops : Array Oper} (hops : (Try.f4.body.bind (regionOf 8)) = some ops) {Q : Exit → Act → World → Prop} {ds : List Deferred} {id : Nat} (g : Nat) (s0 s1 s2 s3 : Int) (v0 : Int) (v1 : Int) (v2 : Int) {x0 x1 x2 x3 x4 x5 x6 x7 x8 x9 x10 x11 x12 x14 x15 x17 x18 x19 x20 x21 x22 x23 x24 x25 x26 x27 x28 x29 x30 x31 x32 x33 x34 x35 x36 x37 x38 x39 x40 x41 x42 x43 x44 x45 x46 x47 x48 x49 x50 x51 x52 x53 x54 x55 x56 x57 x58 x59 x60 x61 x62 x63 x64 x65 x66 x67 x68 x69 x70 x71 x72 x73 x74 x75 x76 x77 x78 x79 x80 x81 x82 x83 x84 x85 x86 x87 x88 x89 x90 x91 x92 x93 x94 x95 x96 x97 x98 x99 x100 x101 x102 x103 x104 x105 x106 x107 x108 x109 x110 x111 x112 x113 x114 x115 x116 x117 x118 x119 x120 x121 x122 x123 x124 x125 x126 x127 x128 x129 x130 x131 x132 x133 x134 x135 x136 x137 x138 x139 x140 x141 : Value} (w0 : World) {w : World} (hI : IsS65 w0 w g s0) (hb0 : Below w0.heap.size w0 w) (hx : -1000000000 ≤ xa ∧ xa ≤ 1000000000 ∧ -1000000000 ≤ xb ∧ xb ≤ 1000000000) (h0 : 0 ≤ v0 ∧ v0 < 3) (hm : 0 ≤ v1 * v2 ∧ v1 * v2 ≤ 6000) (q0 : ∀ W,KeepBut w W g none → W.cell? ⟨b16,0,none⟩ = some (.int .i64 xa)) (q1 : ∀ W,KeepBut w W g none → W.cell? ⟨b16,1,none⟩ = some (.int .i64 xb)) (e0 : D_Upto.f s0 3 = some (v0,s1)) (e1 : D_Upto.f s1 3 = some (v1,s2)) (e2 : D_Upto.f s2 2000 = some (v2,s3))
  (K : ∀ (u53 u54 u55 u56 u57 u58 u59 u60 u61 u62 u63 u64 u65 u66 : Value) (b18 : Nat) (w' : World),IsS65 w0 w' g s3 → Below w0.heap.size w0 w' → KeepBut w w' g none → b18 ≠ g → w.heap.size ≤ b18 → w'.heap[b18]? = some (.cells #[.int .i64 (xa - v0),.int .i64 (xb + (v1 * v2))] 34 (0,0)) → Q .normal { tmps := (x0 :: x1 :: x2 :: x3 :: x4 :: x5 :: x6 :: x7 :: x8 :: x9 :: x10 :: x11 :: x12 :: .pointer (some ⟨g,0,none⟩) :: x14 :: x15 :: .pointer (some ⟨b16,0,none⟩) :: x17 :: .pointer (some ⟨b18,0,none⟩) :: x19 :: x20 :: x21 :: x22 :: x23 :: x24 :: x25 :: x26 :: x27 :: x28 :: x29 :: x30 :: x31 :: x32 :: x33 :: x34 :: x35 :: x36 :: x37 :: x38 :: x39 :: x40 :: x41 :: x42 :: x43 :: x44 :: x45 :: x46 :: x47 :: x48 :: x49 :: x50 :: x51 :: x52 :: u53 :: u54 :: u55 :: u56 :: u57 :: u58 :: u59 :: u60 :: u61 :: u62 :: u63 :: u64 :: u65 :: u66 :: x67 :: x68 :: x69 :: x70 :: x71 :: x72 :: x73 :: x74 :: x75 :: x76 :: x77 :: x78 :: x79 :: x80 :: x81 :: x82 :: x83 :: x84 :: x85 :: x86 :: x87 :: x88 :: x89 :: x90 :: x91 :: x92 :: x93 :: x94 :: x95 :: x96 :: x97 :: x98 :: x99 :: x100 :: x101 :: x102 :: x103 :: x104 :: x105 :: x106 :: x107 :: x108 :: x109 :: x110 :: x111 :: x112 :: x113 :: x114 :: x115 :: x116 :: x117 :: x118 :: x119 :: x120 :: x121 :: x122 :: x123 :: x124 :: x125 :: x126 :: x127 :: x128 :: x129 :: x130 :: x131 :: x132 :: x133 :: x134 :: x135 :: x136 :: x137 :: x138 :: x139 :: x140 :: x141 :: []).toArray,defers := ds } w') :
  (Code.region id ops true).wp Try.prog Q { tmps := (x0 :: x1 :: x2 :: x3 :: x4 :: x5 :: x6 :: x7 :: x8 :: x9 :: x10 :: x11 :: x12 :: .pointer (some ⟨g,0,none⟩) :: x14 :: x15 :: .pointer (some ⟨b16,0,none⟩) :: x17 :: x18 :: x19 :: x20 :: x21 :: x22 :: x23 :: x24 :: x25 :: x26 :: x27 :: x28 :: x29 :: x30 :: x31 :: x32 :: x33 :: x34 :: x35 :: x36 :: x37 :: x38 :: x39 :: x40 :: x41 :: x42 :: x43 :: x44 :: x45 :: x46 :: x47 :: x48 :: x49 :: x50 :: x51 :: x52 :: x53 :: x54 :: x55 :: x56 :: x57 :: x58 :: x59 :: x60 :: x61 :: x62 :: x63 :: x64 :: x65 :: x66 :: x67 :: x68 :: x69 :: x70 :: x71 :: x72 :: x73 :: x74 :: x75 :: x76 :: x77 :: x78 :: x79 :: x80 :: x81 :: x82 :: x83 :: x84 :: x85 :: x86 :: x87 :: x88 :: x89 :: x90 :: x91 :: x92 :: x93 :: x94 :: x95 :: x96 :: x97 :: x98 :: x99 :: x100 :: x101 :: x102 :: x103 :: x104 :: x105 :: x106 :: x107 :: x108 :: x109 :: x110 :: x111 :: x112 :: x113 :: x114 :: x115 :: x116 :: x117 :: x118 :: x119 :: x120 :: x121 :: x122 :: x123 :: x124 :: x125 :: x126 :: x127 :: x128 :: x129 :: x130 :: x131 :: x132 :: x133 :: x134 :: x135 :: x136 :: x137 :: x138 :: x139 :: x140 :: x141 :: []).toArray,defers := ds } w := by
 obtain rfl := Option.some.inj (show some _ = some ops from hops)
 have hn : (([(53,.val (.pointer (some (⟨b16,0,none⟩)))),(54,.val (.int .i64 xa)),(55,.val (.pointer (some ⟨g,0,none⟩))),(56,.val (.int .i64 v0)),(57,.val (.int .i64 (xa - v0))),(58,.val (.pointer (some (⟨b16,1,none⟩)))),(59,.val (.int .i64 xb)),(60,.val (.pointer (some ⟨g,0,none⟩))),(61,.val (.int .i64 v1)),(62,.val (.pointer (some ⟨g,0,none⟩))),(63,.val (.int .i64 v2)),(64,.val (.int .i64 (v1 * v2))),(65,.val (.int .i64 (xb + (v1 * v2)))),(66,.val (.agg #[.int .i64 (xa - v0),.int .i64 (xb + (v1 * v2))])),(18,.var 34 #[.int .i64 0,.int .i64 0] 15 #[.int .i64 (xa - v0),.int .i64 (xb + (v1 * v2))]),(1015,.set 14)] : List (Nat × Left)).map (·.1)).Nodup := by simp only [List.map_cons,List.map_nil];decide
 have hcn : ([3,8,10] : List Nat).Nodup := by decide
 refine wp_region_alln 16 (by kernel_rfl) rfl (by kernel_rfl) (DiceAt g (fun k => ([s0,s1,s2,s3] : List Int).getD k 0) [3,8,10] [(53,.val (.pointer (some (⟨b16,0,none⟩)))),(54,.val (.int .i64 xa)),(55,.val (.pointer (some ⟨g,0,none⟩))),(56,.val (.int .i64 v0)),(57,.val (.int .i64 (xa - v0))),(58,.val (.pointer (some (⟨b16,1,none⟩)))),(59,.val (.int .i64 xb)),(60,.val (.pointer (some ⟨g,0,none⟩))),(61,.val (.int .i64 v1)),(62,.val (.pointer (some ⟨g,0,none⟩))),(63,.val (.int .i64 v2)),(64,.val (.int .i64 (v1 * v2))),(65,.val (.int .i64 (xb + (v1 * v2)))),(66,.val (.agg #[.int .i64 (xa - v0),.int .i64 (xb + (v1 * v2))])),(18,.var 34 #[.int .i64 0,.int .i64 0] 15 #[.int .i64 (xa - v0),.int .i64 (xb + (v1 * v2))]),(1015,.set 14)] w0 w ((x0 :: x1 :: x2 :: x3 :: x4 :: x5 :: x6 :: x7 :: x8 :: x9 :: x10 :: x11 :: x12 :: .pointer (some ⟨g,0,none⟩) :: x14 :: x15 :: .pointer (some ⟨b16,0,none⟩) :: x17 :: x18 :: x19 :: x20 :: x21 :: x22 :: x23 :: x24 :: x25 :: x26 :: x27 :: x28 :: x29 :: x30 :: x31 :: x32 :: x33 :: x34 :: x35 :: x36 :: x37 :: x38 :: x39 :: x40 :: x41 :: x42 :: x43 :: x44 :: x45 :: x46 :: x47 :: x48 :: x49 :: x50 :: x51 :: x52 :: x53 :: x54 :: x55 :: x56 :: x57 :: x58 :: x59 :: x60 :: x61 :: x62 :: x63 :: x64 :: x65 :: x66 :: x67 :: x68 :: x69 :: x70 :: x71 :: x72 :: x73 :: x74 :: x75 :: x76 :: x77 :: x78 :: x79 :: x80 :: x81 :: x82 :: x83 :: x84 :: x85 :: x86 :: x87 :: x88 :: x89 :: x90 :: x91 :: x92 :: x93 :: x94 :: x95 :: x96 :: x97 :: x98 :: x99 :: x100 :: x101 :: x102 :: x103 :: x104 :: x105 :: x106 :: x107 :: x108 :: x109 :: x110 :: x111 :: x112 :: x113 :: x114 :: x115 :: x116 :: x117 :: x118 :: x119 :: x120 :: x121 :: x122 :: x123 :: x124 :: x125 :: x126 :: x127 :: x128 :: x129 :: x130 :: x131 :: x132 :: x133 :: x134 :: x135 :: x136 :: x137 :: x138 :: x139 :: x140 :: x141 :: []).toArray) ds) (DiceAt.start (n := 16) rfl hI hb0) ?_ ?_
 ·intro i o hi ho L a w h hL hf hall
  have hcase : i = 0 ∨ i = 1 ∨ i = 2 ∨ i = 3 ∨ i = 4 ∨ i = 5 ∨ i = 6 ∨ i = 7 ∨ i = 8 ∨ i = 9 ∨ i = 10 ∨ i = 11 ∨ i = 12 ∨ i = 13 ∨ i = 14 ∨ i = 15 := by omega
  clear hi K
  rcases hcase with rfl | rfl | rfl | rfl | rfl | rfl | rfl | rfl | rfl | rfl | rfl | rfl | rfl | rfl | rfl | rfl
  ·obtain rfl := Option.some.inj (show some _ = some o from ho)
   have f16 : a.tmps.getD 16 undef = .pointer (some ⟨b16,0,none⟩) := h.rest 16 rfl
   exact h.op ho rfl rfl rfl hn (Nat.lt_of_lt_of_eq (by decide : 53 < 142) rfl) rfl (run_field_34_0 w rfl f16) (Below.refl _ _) rfl rfl
  ·obtain rfl := Option.some.inj (show some _ = some o from ho)
   have l0 := listed_of hall 0 rfl
   have f53 : a.tmps.getD 53 undef = .pointer (some (⟨b16,0,none⟩)) := h.facts 0 _ _ rfl l0
   exact h.op ho rfl rfl rfl hn (Nat.lt_of_lt_of_eq (by decide : 54 < 142) rfl) rfl (run_load_3 w rfl f53 (q0 _ h.keep)) (Below.refl _ _) rfl rfl
  ·obtain rfl := Option.some.inj (show some _ = some o from ho)
   have f13 : a.tmps.getD 13 undef = .pointer (some ⟨g,0,none⟩) := h.rest 13 rfl
   exact h.op ho rfl rfl rfl hn (Nat.lt_of_lt_of_eq (by decide : 55 < 142) rfl) rfl (run_move w rfl f13) (Below.refl _ _) rfl rfl
  ·obtain rfl := Option.some.inj (show some _ = some o from ho)
   have l2 := listed_of hall 2 rfl
   have f55 : a.tmps.getD 55 undef = .pointer (some ⟨g,0,none⟩) := h.facts 2 _ _ rfl l2
   exact h.call (f := 13) (args := #[.pointer (some ⟨g,0,none⟩),.int .i64 3]) ho rfl rfl rfl hn (Nat.lt_of_lt_of_eq (by decide : 56 < 142) rfl) (j := 0) rfl hcn hf rfl (fun _ h0 _ => absurd rfl h0) (by rw [hL];rfl) (run_call w rfl rfl (by simp only [List.map_toArray,List.map_cons,List.map_nil];rw [show a.eval (.tmp 55) = _ from f55];rfl) (enters_of Try.func13 (by kernel_rfl) rfl) rfl) (fun hI hB => D_Upto.calls g s0 3 v0 s1 w0 w hI hB e0)
  ·obtain rfl := Option.some.inj (show some _ = some o from ho)
   have l1 := listed_of hall 1 rfl
   have f54 : a.tmps.getD 54 undef = .int .i64 xa := h.facts 1 _ _ rfl l1
   have l3 := listed_of hall 3 rfl
   have f56 : a.tmps.getD 56 undef = .int .i64 v0 := h.facts 3 _ _ rfl l3
   exact h.op ho rfl rfl rfl hn (Nat.lt_of_lt_of_eq (by decide : 57 < 142) rfl) rfl (run_sub w rfl f54 f56 (by omega) (by omega)) (Below.refl _ _) rfl rfl
  ·obtain rfl := Option.some.inj (show some _ = some o from ho)
   have f16 : a.tmps.getD 16 undef = .pointer (some ⟨b16,0,none⟩) := h.rest 16 rfl
   exact h.op ho rfl rfl rfl hn (Nat.lt_of_lt_of_eq (by decide : 58 < 142) rfl) rfl (run_field_34_1 w rfl f16) (Below.refl _ _) rfl rfl
  ·obtain rfl := Option.some.inj (show some _ = some o from ho)
   have l5 := listed_of hall 5 rfl
   have f58 : a.tmps.getD 58 undef = .pointer (some (⟨b16,1,none⟩)) := h.facts 5 _ _ rfl l5
   exact h.op ho rfl rfl rfl hn (Nat.lt_of_lt_of_eq (by decide : 59 < 142) rfl) rfl (run_load_3 w rfl f58 (q1 _ h.keep)) (Below.refl _ _) rfl rfl
  ·obtain rfl := Option.some.inj (show some _ = some o from ho)
   have f13 : a.tmps.getD 13 undef = .pointer (some ⟨g,0,none⟩) := h.rest 13 rfl
   exact h.op ho rfl rfl rfl hn (Nat.lt_of_lt_of_eq (by decide : 60 < 142) rfl) rfl (run_move w rfl f13) (Below.refl _ _) rfl rfl
  ·obtain rfl := Option.some.inj (show some _ = some o from ho)
   have l7 := listed_of hall 7 rfl
   have f60 : a.tmps.getD 60 undef = .pointer (some ⟨g,0,none⟩) := h.facts 7 _ _ rfl l7
   exact h.call (f := 13) (args := #[.pointer (some ⟨g,0,none⟩),.int .i64 3]) ho rfl rfl rfl hn (Nat.lt_of_lt_of_eq (by decide : 61 < 142) rfl) (j := 1) rfl hcn hf rfl (fun i' _ e => by obtain rfl := Option.some.inj (show some _ = some i' from e);exact listed_of hall 3 rfl) (by rw [hL];rfl) (run_call w rfl rfl (by simp only [List.map_toArray,List.map_cons,List.map_nil];rw [show a.eval (.tmp 60) = _ from f60];rfl) (enters_of Try.func13 (by kernel_rfl) rfl) rfl) (fun hI hB => D_Upto.calls g s1 3 v1 s2 w0 w hI hB e1)
  ·obtain rfl := Option.some.inj (show some _ = some o from ho)
   have f13 : a.tmps.getD 13 undef = .pointer (some ⟨g,0,none⟩) := h.rest 13 rfl
   exact h.op ho rfl rfl rfl hn (Nat.lt_of_lt_of_eq (by decide : 62 < 142) rfl) rfl (run_move w rfl f13) (Below.refl _ _) rfl rfl
  ·obtain rfl := Option.some.inj (show some _ = some o from ho)
   have l9 := listed_of hall 9 rfl
   have f62 : a.tmps.getD 62 undef = .pointer (some ⟨g,0,none⟩) := h.facts 9 _ _ rfl l9
   exact h.call (f := 13) (args := #[.pointer (some ⟨g,0,none⟩),.int .i64 2000]) ho rfl rfl rfl hn (Nat.lt_of_lt_of_eq (by decide : 63 < 142) rfl) (j := 2) rfl hcn hf rfl (fun i' _ e => by obtain rfl := Option.some.inj (show some _ = some i' from e);exact listed_of hall 8 rfl) (by rw [hL];rfl) (run_call w rfl rfl (by simp only [List.map_toArray,List.map_cons,List.map_nil];rw [show a.eval (.tmp 62) = _ from f62];rfl) (enters_of Try.func13 (by kernel_rfl) rfl) rfl) (fun hI hB => D_Upto.calls g s2 2000 v2 s3 w0 w hI hB e2)
  ·obtain rfl := Option.some.inj (show some _ = some o from ho)
   have l8 := listed_of hall 8 rfl
   have f61 : a.tmps.getD 61 undef = .int .i64 v1 := h.facts 8 _ _ rfl l8
   have l10 := listed_of hall 10 rfl
   have f63 : a.tmps.getD 63 undef = .int .i64 v2 := h.facts 10 _ _ rfl l10
   exact h.op ho rfl rfl rfl hn (Nat.lt_of_lt_of_eq (by decide : 64 < 142) rfl) rfl (run_mul w rfl f61 f63 (by omega) (by omega)) (Below.refl _ _) rfl rfl
  ·obtain rfl := Option.some.inj (show some _ = some o from ho)
   have l6 := listed_of hall 6 rfl
   have f59 : a.tmps.getD 59 undef = .int .i64 xb := h.facts 6 _ _ rfl l6
   have l11 := listed_of hall 11 rfl
   have f64 : a.tmps.getD 64 undef = .int .i64 (v1 * v2) := h.facts 11 _ _ rfl l11
   exact h.op ho rfl rfl rfl hn (Nat.lt_of_lt_of_eq (by decide : 65 < 142) rfl) rfl (run_add w rfl f59 f64 (by omega) (by omega)) (Below.refl _ _) rfl rfl
  ·obtain rfl := Option.some.inj (show some _ = some o from ho)
   have l4 := listed_of hall 4 rfl
   have f57 : a.tmps.getD 57 undef = .int .i64 (xa - v0) := h.facts 4 _ _ rfl l4
   have l12 := listed_of hall 12 rfl
   have f65 : a.tmps.getD 65 undef = .int .i64 (xb + (v1 * v2)) := h.facts 12 _ _ rfl l12
   exact h.op ho rfl rfl rfl hn (Nat.lt_of_lt_of_eq (by decide : 66 < 142) rfl) rfl (run_build2 w rfl f57 f65) (Below.refl _ _) rfl rfl
  ·obtain rfl := Option.some.inj (show some _ = some o from ho)
   exact h.var ho rfl rfl rfl rfl hn (Nat.lt_of_lt_of_eq (by decide : 18 < 142) rfl) rfl rfl hf (run_var2 w rfl)
  ·obtain rfl := Option.some.inj (show some _ = some o from ho)
   have l13 := listed_of hall 13 rfl
   have f66 : a.tmps.getD 66 undef = .agg #[.int .i64 (xa - v0),.int .i64 (xb + (v1 * v2))] := h.facts 13 _ _ rfl l13
   have l14 := listed_of hall 14 rfl
   exact h.store ho rfl rfl rfl rfl rfl hb0.size (by rw [hL];decide) rfl hf l14 (fun b p q => run_store2 rfl p f66 q)
 ·intro L a w' h hall
  obtain ⟨b18,b1_18,bn_18,b2_18,b3_18⟩ := h.facts 14 _ _ rfl (hall 14 (by omega))
  rw [if_pos (hall 15 (by omega))] at b3_18
  have hD : IsS65 w0 w' g s3 := h.done (by simp only [List.mem_cons,List.not_mem_nil,or_false];intro i hi;exact hall i (by omega))
  have e := h.frame (fun t => if t = 18 then .pointer (some ⟨b18,0,none⟩) else a.tmps.getD t undef) (by
   intro x hx _
   simp only [List.mem_cons,List.not_mem_nil,or_false] at hx
   rcases hx with rfl | rfl | rfl | rfl | rfl | rfl | rfl | rfl | rfl | rfl | rfl | rfl | rfl | rfl | rfl | rfl
   all_goals first | rfl | assumption)
  have k := K (a.tmps.getD 53 undef) (a.tmps.getD 54 undef) (a.tmps.getD 55 undef) (a.tmps.getD 56 undef) (a.tmps.getD 57 undef) (a.tmps.getD 58 undef) (a.tmps.getD 59 undef) (a.tmps.getD 60 undef) (a.tmps.getD 61 undef) (a.tmps.getD 62 undef) (a.tmps.getD 63 undef) (a.tmps.getD 64 undef) (a.tmps.getD 65 undef) (a.tmps.getD 66 undef) b18 w' hD h.below h.keep b1_18 bn_18 b3_18
  clear K
  simp only [List.foldl_cons,List.foldl_nil,sB_,sS_,sZ_,List.set_nil,Nat.reduceEqDiff,reduceIte] at e
  rw [e]
  exact k
set_option maxHeartbeats 8000000 in
set_option maxRecDepth 100000 in
theorem Accepts.region11 (A0 A1 : Option Addr) (n0 c0 n1 c1 b9 b18 : Nat) (m k la lb na nb : Int) {ops : Array Oper} (hops : (Try.f4.body.bind (regionOf 11)) = some ops) {Q : Exit → Act → World → Prop} {ds : List Deferred} {id : Nat} (g : Nat) (s0 : Int)  {x2 x3 x4 x5 x6 x7 x8 x10 x11 x12 x16 x17 x19 x20 x21 x22 x23 x24 x25 x26 x27 x28 x29 x30 x31 x32 x33 x34 x35 x36 x37 x38 x39 x40 x41 x42 x43 x44 x45 x46 x47 x48 x49 x50 x51 x52 x53 x54 x55 x56 x57 x58 x59 x60 x61 x62 x63 x64 x65 x66 x67 x68 x69 x70 x71 x72 x73 x74 x75 x76 x77 x78 x79 x80 x81 x82 x83 x84 x85 x86 x87 x88 x89 x90 x91 x92 x93 x94 x95 x96 x97 x98 x99 x100 x101 x102 x103 x104 x105 x106 x107 x108 x109 x110 x111 x112 x113 x114 x115 x116 x117 x118 x119 x120 x121 x122 x123 x124 x125 x126 x127 x128 x129 x130 x131 x132 x133 x134 x135 x136 x137 x138 x139 x140 x141 : Value} (w0 : World) {w : World} (hI : IsS65 w0 w g s0) (hb0 : Below w0.heap.size w0 w) (p9 : ∀ W,KeepBut w W g none → W.cell? ⟨b9,0,none⟩ = some (.int .i64 la)) (q9 : ∀ W,KeepBut w W g none → W.cell? ⟨b9,1,none⟩ = some (.int .i64 lb)) (p18 : ∀ W,KeepBut w W g none → W.cell? ⟨b18,0,none⟩ = some (.int .i64 na)) (q18 : ∀ W,KeepBut w W g none → W.cell? ⟨b18,1,none⟩ = some (.int .i64 nb))
  (K : ∀ (u83 u84 u85 u86 u87 u88 u89 u90 u91 u92 u93 u94 : Value) (b19 : Nat) (b20 : Nat) (b21 : Nat) (w' : World),IsS65 w0 w' g s0 → Below w0.heap.size w0 w' → KeepBut w w' g none → b19 ≠ g → w'.heap[b19]? = some (.cells #[.slice A0 n0 c0,.slice A1 n1 c1,.slice A1 n1 c1] 25 (0,0)) → b20 ≠ g → w'.heap[b20]? = some (.cells #[.int .i64 m,.int .i64 k,.int .i64 k] 3 (0,0)) → b21 ≠ g → w'.heap[b21]? = some (.cells #[.int .i64 la,.int .i64 lb,.int .i64 na,.int .i64 nb,.int .i64 la,.int .i64 lb] 34 (0,0)) → Q .normal { tmps := (.slice A0 n0 c0 :: .int .i64 m :: x2 :: x3 :: x4 :: x5 :: x6 :: x7 :: x8 :: .pointer (some ⟨b9,0,none⟩) :: x10 :: x11 :: x12 :: .pointer (some ⟨g,0,none⟩) :: .slice A1 n1 c1 :: .int .i64 k :: x16 :: x17 :: .pointer (some ⟨b18,0,none⟩) :: .slice (some ⟨b19,0,none⟩) 3 3 :: .slice (some ⟨b20,0,none⟩) 3 3 :: .slice (some ⟨b21,0,none⟩) 3 3 :: x22 :: x23 :: x24 :: x25 :: x26 :: x27 :: x28 :: x29 :: x30 :: x31 :: x32 :: x33 :: x34 :: x35 :: x36 :: x37 :: x38 :: x39 :: x40 :: x41 :: x42 :: x43 :: x44 :: x45 :: x46 :: x47 :: x48 :: x49 :: x50 :: x51 :: x52 :: x53 :: x54 :: x55 :: x56 :: x57 :: x58 :: x59 :: x60 :: x61 :: x62 :: x63 :: x64 :: x65 :: x66 :: x67 :: x68 :: x69 :: x70 :: x71 :: x72 :: x73 :: x74 :: x75 :: x76 :: x77 :: x78 :: x79 :: x80 :: x81 :: x82 :: u83 :: u84 :: u85 :: u86 :: u87 :: u88 :: u89 :: u90 :: u91 :: u92 :: u93 :: u94 :: x95 :: x96 :: x97 :: x98 :: x99 :: x100 :: x101 :: x102 :: x103 :: x104 :: x105 :: x106 :: x107 :: x108 :: x109 :: x110 :: x111 :: x112 :: x113 :: x114 :: x115 :: x116 :: x117 :: x118 :: x119 :: x120 :: x121 :: x122 :: x123 :: x124 :: x125 :: x126 :: x127 :: x128 :: x129 :: x130 :: x131 :: x132 :: x133 :: x134 :: x135 :: x136 :: x137 :: x138 :: x139 :: x140 :: x141 :: []).toArray,defers := ds } w') :
  (Code.region id ops true).wp Try.prog Q { tmps := (.slice A0 n0 c0 :: .int .i64 m :: x2 :: x3 :: x4 :: x5 :: x6 :: x7 :: x8 :: .pointer (some ⟨b9,0,none⟩) :: x10 :: x11 :: x12 :: .pointer (some ⟨g,0,none⟩) :: .slice A1 n1 c1 :: .int .i64 k :: x16 :: x17 :: .pointer (some ⟨b18,0,none⟩) :: x19 :: x20 :: x21 :: x22 :: x23 :: x24 :: x25 :: x26 :: x27 :: x28 :: x29 :: x30 :: x31 :: x32 :: x33 :: x34 :: x35 :: x36 :: x37 :: x38 :: x39 :: x40 :: x41 :: x42 :: x43 :: x44 :: x45 :: x46 :: x47 :: x48 :: x49 :: x50 :: x51 :: x52 :: x53 :: x54 :: x55 :: x56 :: x57 :: x58 :: x59 :: x60 :: x61 :: x62 :: x63 :: x64 :: x65 :: x66 :: x67 :: x68 :: x69 :: x70 :: x71 :: x72 :: x73 :: x74 :: x75 :: x76 :: x77 :: x78 :: x79 :: x80 :: x81 :: x82 :: x83 :: x84 :: x85 :: x86 :: x87 :: x88 :: x89 :: x90 :: x91 :: x92 :: x93 :: x94 :: x95 :: x96 :: x97 :: x98 :: x99 :: x100 :: x101 :: x102 :: x103 :: x104 :: x105 :: x106 :: x107 :: x108 :: x109 :: x110 :: x111 :: x112 :: x113 :: x114 :: x115 :: x116 :: x117 :: x118 :: x119 :: x120 :: x121 :: x122 :: x123 :: x124 :: x125 :: x126 :: x127 :: x128 :: x129 :: x130 :: x131 :: x132 :: x133 :: x134 :: x135 :: x136 :: x137 :: x138 :: x139 :: x140 :: x141 :: []).toArray,defers := ds } w := by
 obtain rfl := Option.some.inj (show some _ = some ops from hops)
 have hn : (([(83,.val (.slice A0 n0 c0)),(84,.val (.slice A1 n1 c1)),(85,.val (.slice A1 n1 c1)),(86,.rown 25 #[.slice A0 n0 c0,.slice A1 n1 c1,.slice A1 n1 c1] 3),(87,.val (.int .i64 m)),(88,.val (.int .i64 k)),(89,.val (.int .i64 k)),(90,.row 3 #[.int .i64 m,.int .i64 k,.int .i64 k]),(91,.val (.agg #[.int .i64 la,.int .i64 lb])),(92,.val (.agg #[.int .i64 na,.int .i64 nb])),(93,.val (.agg #[.int .i64 la,.int .i64 lb])),(94,.rown 34 #[.int .i64 la,.int .i64 lb,.int .i64 na,.int .i64 nb,.int .i64 la,.int .i64 lb] 3),(19,.rown 25 #[.slice A0 n0 c0,.slice A1 n1 c1,.slice A1 n1 c1] 3),(20,.row 3 #[.int .i64 m,.int .i64 k,.int .i64 k]),(21,.rown 34 #[.int .i64 la,.int .i64 lb,.int .i64 na,.int .i64 nb,.int .i64 la,.int .i64 lb] 3)] : List (Nat × Left)).map (·.1)).Nodup := by simp only [List.map_cons,List.map_nil];decide
 have hcn : ([] : List Nat).Nodup := by decide
 refine wp_region_alln 15 (by kernel_rfl) rfl (by kernel_rfl) (DiceAt g (fun k => ([s0] : List Int).getD k 0) [] [(83,.val (.slice A0 n0 c0)),(84,.val (.slice A1 n1 c1)),(85,.val (.slice A1 n1 c1)),(86,.rown 25 #[.slice A0 n0 c0,.slice A1 n1 c1,.slice A1 n1 c1] 3),(87,.val (.int .i64 m)),(88,.val (.int .i64 k)),(89,.val (.int .i64 k)),(90,.row 3 #[.int .i64 m,.int .i64 k,.int .i64 k]),(91,.val (.agg #[.int .i64 la,.int .i64 lb])),(92,.val (.agg #[.int .i64 na,.int .i64 nb])),(93,.val (.agg #[.int .i64 la,.int .i64 lb])),(94,.rown 34 #[.int .i64 la,.int .i64 lb,.int .i64 na,.int .i64 nb,.int .i64 la,.int .i64 lb] 3),(19,.rown 25 #[.slice A0 n0 c0,.slice A1 n1 c1,.slice A1 n1 c1] 3),(20,.row 3 #[.int .i64 m,.int .i64 k,.int .i64 k]),(21,.rown 34 #[.int .i64 la,.int .i64 lb,.int .i64 na,.int .i64 nb,.int .i64 la,.int .i64 lb] 3)] w0 w ((.slice A0 n0 c0 :: .int .i64 m :: x2 :: x3 :: x4 :: x5 :: x6 :: x7 :: x8 :: .pointer (some ⟨b9,0,none⟩) :: x10 :: x11 :: x12 :: .pointer (some ⟨g,0,none⟩) :: .slice A1 n1 c1 :: .int .i64 k :: x16 :: x17 :: .pointer (some ⟨b18,0,none⟩) :: x19 :: x20 :: x21 :: x22 :: x23 :: x24 :: x25 :: x26 :: x27 :: x28 :: x29 :: x30 :: x31 :: x32 :: x33 :: x34 :: x35 :: x36 :: x37 :: x38 :: x39 :: x40 :: x41 :: x42 :: x43 :: x44 :: x45 :: x46 :: x47 :: x48 :: x49 :: x50 :: x51 :: x52 :: x53 :: x54 :: x55 :: x56 :: x57 :: x58 :: x59 :: x60 :: x61 :: x62 :: x63 :: x64 :: x65 :: x66 :: x67 :: x68 :: x69 :: x70 :: x71 :: x72 :: x73 :: x74 :: x75 :: x76 :: x77 :: x78 :: x79 :: x80 :: x81 :: x82 :: x83 :: x84 :: x85 :: x86 :: x87 :: x88 :: x89 :: x90 :: x91 :: x92 :: x93 :: x94 :: x95 :: x96 :: x97 :: x98 :: x99 :: x100 :: x101 :: x102 :: x103 :: x104 :: x105 :: x106 :: x107 :: x108 :: x109 :: x110 :: x111 :: x112 :: x113 :: x114 :: x115 :: x116 :: x117 :: x118 :: x119 :: x120 :: x121 :: x122 :: x123 :: x124 :: x125 :: x126 :: x127 :: x128 :: x129 :: x130 :: x131 :: x132 :: x133 :: x134 :: x135 :: x136 :: x137 :: x138 :: x139 :: x140 :: x141 :: []).toArray) ds) (DiceAt.start (n := 15) rfl hI hb0) ?_ ?_
 ·intro i o hi ho L a w h hL hf hall
  have hcase : i = 0 ∨ i = 1 ∨ i = 2 ∨ i = 3 ∨ i = 4 ∨ i = 5 ∨ i = 6 ∨ i = 7 ∨ i = 8 ∨ i = 9 ∨ i = 10 ∨ i = 11 ∨ i = 12 ∨ i = 13 ∨ i = 14 := by omega
  clear hi K
  rcases hcase with rfl | rfl | rfl | rfl | rfl | rfl | rfl | rfl | rfl | rfl | rfl | rfl | rfl | rfl | rfl
  ·obtain rfl := Option.some.inj (show some _ = some o from ho)
   have f0 : a.tmps.getD 0 undef = .slice A0 n0 c0 := h.rest 0 rfl
   exact h.op ho rfl rfl rfl hn (Nat.lt_of_lt_of_eq (by decide : 83 < 142) rfl) rfl (run_move w rfl f0) (Below.refl _ _) rfl rfl
  ·obtain rfl := Option.some.inj (show some _ = some o from ho)
   have f14 : a.tmps.getD 14 undef = .slice A1 n1 c1 := h.rest 14 rfl
   exact h.op ho rfl rfl rfl hn (Nat.lt_of_lt_of_eq (by decide : 84 < 142) rfl) rfl (run_move w rfl f14) (Below.refl _ _) rfl rfl
  ·obtain rfl := Option.some.inj (show some _ = some o from ho)
   have f14 : a.tmps.getD 14 undef = .slice A1 n1 c1 := h.rest 14 rfl
   exact h.op ho rfl rfl rfl hn (Nat.lt_of_lt_of_eq (by decide : 85 < 142) rfl) rfl (run_move w rfl f14) (Below.refl _ _) rfl rfl
  ·obtain rfl := Option.some.inj (show some _ = some o from ho)
   have l0 := listed_of hall 0 rfl
   have f83 : a.tmps.getD 83 undef = .slice A0 n0 c0 := h.facts 0 _ _ rfl l0
   have l1 := listed_of hall 1 rfl
   have f84 : a.tmps.getD 84 undef = .slice A1 n1 c1 := h.facts 1 _ _ rfl l1
   have l2 := listed_of hall 2 rfl
   have f85 : a.tmps.getD 85 undef = .slice A1 n1 c1 := h.facts 2 _ _ rfl l2
   exact h.op ho rfl rfl rfl hn (Nat.lt_of_lt_of_eq (by decide : 86 < 142) rfl) rfl (run_row_43_slice_slice_slice w rfl f83 f84 f85) (bA_ (Below.refl _ _) _) rfl ⟨w.heap.size,h.fresh,rfl,heap_alloc_new w _⟩
  ·obtain rfl := Option.some.inj (show some _ = some o from ho)
   have f1 : a.tmps.getD 1 undef = .int .i64 m := h.rest 1 rfl
   exact h.op ho rfl rfl rfl hn (Nat.lt_of_lt_of_eq (by decide : 87 < 142) rfl) rfl (run_move w rfl f1) (Below.refl _ _) rfl rfl
  ·obtain rfl := Option.some.inj (show some _ = some o from ho)
   have f15 : a.tmps.getD 15 undef = .int .i64 k := h.rest 15 rfl
   exact h.op ho rfl rfl rfl hn (Nat.lt_of_lt_of_eq (by decide : 88 < 142) rfl) rfl (run_move w rfl f15) (Below.refl _ _) rfl rfl
  ·obtain rfl := Option.some.inj (show some _ = some o from ho)
   have f15 : a.tmps.getD 15 undef = .int .i64 k := h.rest 15 rfl
   exact h.op ho rfl rfl rfl hn (Nat.lt_of_lt_of_eq (by decide : 89 < 142) rfl) rfl (run_move w rfl f15) (Below.refl _ _) rfl rfl
  ·obtain rfl := Option.some.inj (show some _ = some o from ho)
   have l4 := listed_of hall 4 rfl
   have f87 : a.tmps.getD 87 undef = .int .i64 m := h.facts 4 _ _ rfl l4
   have l5 := listed_of hall 5 rfl
   have f88 : a.tmps.getD 88 undef = .int .i64 k := h.facts 5 _ _ rfl l5
   have l6 := listed_of hall 6 rfl
   have f89 : a.tmps.getD 89 undef = .int .i64 k := h.facts 6 _ _ rfl l6
   exact h.op ho rfl rfl rfl hn (Nat.lt_of_lt_of_eq (by decide : 90 < 142) rfl) rfl (run_row3 w rfl f87 f88 f89) (bA_ (Below.refl _ _) _) rfl ⟨w.heap.size,h.fresh,rfl,heap_alloc_new w _⟩
  ·obtain rfl := Option.some.inj (show some _ = some o from ho)
   have f9 : a.tmps.getD 9 undef = .pointer (some ⟨b9,0,none⟩) := h.rest 9 rfl
   exact h.op ho rfl rfl rfl hn (Nat.lt_of_lt_of_eq (by decide : 91 < 142) rfl) rfl (run_load_34 w rfl f9 (p9 _ h.keep) (q9 _ h.keep)) (Below.refl _ _) rfl rfl
  ·obtain rfl := Option.some.inj (show some _ = some o from ho)
   have f18 : a.tmps.getD 18 undef = .pointer (some ⟨b18,0,none⟩) := h.rest 18 rfl
   exact h.op ho rfl rfl rfl hn (Nat.lt_of_lt_of_eq (by decide : 92 < 142) rfl) rfl (run_load_34 w rfl f18 (p18 _ h.keep) (q18 _ h.keep)) (Below.refl _ _) rfl rfl
  ·obtain rfl := Option.some.inj (show some _ = some o from ho)
   have f9 : a.tmps.getD 9 undef = .pointer (some ⟨b9,0,none⟩) := h.rest 9 rfl
   exact h.op ho rfl rfl rfl hn (Nat.lt_of_lt_of_eq (by decide : 93 < 142) rfl) rfl (run_load_34 w rfl f9 (p9 _ h.keep) (q9 _ h.keep)) (Below.refl _ _) rfl rfl
  ·obtain rfl := Option.some.inj (show some _ = some o from ho)
   have l8 := listed_of hall 8 rfl
   have f91 : a.tmps.getD 91 undef = .agg #[.int .i64 la,.int .i64 lb] := h.facts 8 _ _ rfl l8
   have l9 := listed_of hall 9 rfl
   have f92 : a.tmps.getD 92 undef = .agg #[.int .i64 na,.int .i64 nb] := h.facts 9 _ _ rfl l9
   have l10 := listed_of hall 10 rfl
   have f93 : a.tmps.getD 93 undef = .agg #[.int .i64 la,.int .i64 lb] := h.facts 10 _ _ rfl l10
   exact h.op ho rfl rfl rfl hn (Nat.lt_of_lt_of_eq (by decide : 94 < 142) rfl) rfl (run_row_44_agg2_agg2_agg2 w rfl f91 f92 f93) (bA_ (Below.refl _ _) _) rfl ⟨w.heap.size,h.fresh,rfl,heap_alloc_new w _⟩
  ·obtain rfl := Option.some.inj (show some _ = some o from ho)
   have l3 := listed_of hall 3 rfl
   obtain ⟨b_3,b1_3,b2_3,b3_3⟩ := h.facts 3 _ _ rfl l3
   exact h.op ho rfl rfl rfl hn (Nat.lt_of_lt_of_eq (by decide : 19 < 142) rfl) rfl (run_assign w rfl b2_3) (Below.refl _ _) rfl ⟨b_3,b1_3,rfl,b3_3⟩
  ·obtain rfl := Option.some.inj (show some _ = some o from ho)
   have l7 := listed_of hall 7 rfl
   obtain ⟨b_7,b1_7,b2_7,b3_7⟩ := h.facts 7 _ _ rfl l7
   exact h.op ho rfl rfl rfl hn (Nat.lt_of_lt_of_eq (by decide : 20 < 142) rfl) rfl (run_assign w rfl b2_7) (Below.refl _ _) rfl ⟨b_7,b1_7,rfl,b3_7⟩
  ·obtain rfl := Option.some.inj (show some _ = some o from ho)
   have l11 := listed_of hall 11 rfl
   obtain ⟨b_11,b1_11,b2_11,b3_11⟩ := h.facts 11 _ _ rfl l11
   exact h.op ho rfl rfl rfl hn (Nat.lt_of_lt_of_eq (by decide : 21 < 142) rfl) rfl (run_assign w rfl b2_11) (Below.refl _ _) rfl ⟨b_11,b1_11,rfl,b3_11⟩
 ·intro L a w' h hall
  obtain ⟨b19,b1_19,b2_19,b3_19⟩ := h.facts 12 _ _ rfl (hall 12 (by omega))
  obtain ⟨b20,b1_20,b2_20,b3_20⟩ := h.facts 13 _ _ rfl (hall 13 (by omega))
  obtain ⟨b21,b1_21,b2_21,b3_21⟩ := h.facts 14 _ _ rfl (hall 14 (by omega))
  have hD : IsS65 w0 w' g s0 := h.done (by intro i hi;cases hi)
  have e := h.frame (fun t => if t = 19 then .slice (some ⟨b19,0,none⟩) 3 3 else if t = 20 then .slice (some ⟨b20,0,none⟩) 3 3 else if t = 21 then .slice (some ⟨b21,0,none⟩) 3 3 else a.tmps.getD t undef) (by
   intro x hx _
   simp only [List.mem_cons,List.not_mem_nil,or_false] at hx
   rcases hx with rfl | rfl | rfl | rfl | rfl | rfl | rfl | rfl | rfl | rfl | rfl | rfl | rfl | rfl | rfl
   all_goals first | rfl | assumption)
  have k := K (a.tmps.getD 83 undef) (a.tmps.getD 84 undef) (a.tmps.getD 85 undef) (a.tmps.getD 86 undef) (a.tmps.getD 87 undef) (a.tmps.getD 88 undef) (a.tmps.getD 89 undef) (a.tmps.getD 90 undef) (a.tmps.getD 91 undef) (a.tmps.getD 92 undef) (a.tmps.getD 93 undef) (a.tmps.getD 94 undef) b19 b20 b21 w' hD h.below h.keep b1_19 b3_19 b1_20 b3_20 b1_21 b3_21
  clear K
  simp only [List.foldl_cons,List.foldl_nil,sB_,sS_,sZ_,Nat.reduceEqDiff,reduceIte] at e
  rw [e]
  exact k
set_option maxHeartbeats 8000000 in
set_option maxRecDepth 100000 in
theorem Accepts.region15 (b19 b20 b21 : Nat) (i : Int) (A : Option Addr) (c : Nat) (l : List S49) (x y0 y1 ra rb re : Int) {ops : Array Oper} (hops : (Try.f4.body.bind (regionOf 15)) = some ops) {Q : Exit → Act → World → Prop} {ds : List Deferred} {id : Nat} (g : Nat) (s0 : Int)  {x0 x1 x2 x3 x4 x5 x6 x7 x8 x9 x10 x11 x12 x14 x15 x16 x17 x18 x23 x24 x25 x26 x27 x28 x29 x30 x31 x32 x33 x34 x35 x36 x37 x38 x39 x40 x41 x42 x43 x44 x45 x46 x47 x48 x49 x50 x51 x52 x53 x54 x55 x56 x57 x58 x59 x60 x61 x62 x63 x64 x65 x66 x67 x68 x69 x70 x71 x72 x73 x74 x75 x76 x77 x78 x79 x80 x81 x82 x83 x84 x85 x86 x87 x88 x89 x90 x91 x92 x93 x94 x95 x96 x97 x98 x99 x100 x101 x102 x103 x104 x105 x106 x107 x108 x109 x110 x111 x112 x113 x114 x115 x116 x117 x118 x119 x120 x121 x122 x123 x124 x125 x126 x127 x128 x129 x130 x131 x132 x133 x134 x135 x136 x137 x138 x139 x140 x141 : Value} (w0 : World) {w : World} (hI : IsS65 w0 w g s0) (hb0 : Below w0.heap.size w0 w) (i0 : 0 ≤ i) (i1 : i < 3) (q0 : ∀ W,KeepBut w W g none → W.cell? ⟨b19,i.toNat,none⟩ = some (.slice A l.length c)) (q1 : ∀ W,KeepBut w W g none → W.cell? ⟨b20,i.toNat,none⟩ = some (.int .i64 x)) (q2 : ∀ W,KeepBut w W g none → W.cell? ⟨b21,i.toNat * 2,none⟩ = some (.int .i64 y0)) (q3 : ∀ W,KeepBut w W g none → W.cell? ⟨b21,i.toNat * 2 + 1,none⟩ = some (.int .i64 y1)) (hC : ∀ W,Below w0.heap.size w0 W → KeepBut w W g none → Kd.C k49 W A l.length l) (hc : l.length ≤ c) (hT : gauge_Accept.f l x y0 y1 = some (ra,rb,re))
  (K : ∀ (u102 u103 u104 u105 u106 u107 u108 u109 u110 u111 u112 u113 u114 u101 u115 u116 : Value) (b23 : Nat) (w' : World),IsS65 w0 w' g s0 → Below w0.heap.size w0 w' → KeepBut w w' g none → b23 ≠ g → w.heap.size ≤ b23 → w'.heap[b23]? = some (.cells #[.int .i64 ra,.int .i64 rb] 34 (0,0)) → Q .normal { tmps := (x0 :: x1 :: x2 :: x3 :: x4 :: x5 :: x6 :: x7 :: x8 :: x9 :: x10 :: x11 :: x12 :: .pointer (some ⟨g,0,none⟩) :: x14 :: x15 :: x16 :: x17 :: x18 :: .slice (some ⟨b19,0,none⟩) 3 3 :: .slice (some ⟨b20,0,none⟩) 3 3 :: .slice (some ⟨b21,0,none⟩) 3 3 :: .int .i64 i :: .pointer (some ⟨b23,0,none⟩) :: .int .i64 re :: x25 :: x26 :: x27 :: x28 :: x29 :: x30 :: x31 :: x32 :: x33 :: x34 :: x35 :: x36 :: x37 :: x38 :: x39 :: x40 :: x41 :: x42 :: x43 :: x44 :: x45 :: x46 :: x47 :: x48 :: x49 :: x50 :: x51 :: x52 :: x53 :: x54 :: x55 :: x56 :: x57 :: x58 :: x59 :: x60 :: x61 :: x62 :: x63 :: x64 :: x65 :: x66 :: x67 :: x68 :: x69 :: x70 :: x71 :: x72 :: x73 :: x74 :: x75 :: x76 :: x77 :: x78 :: x79 :: x80 :: x81 :: x82 :: x83 :: x84 :: x85 :: x86 :: x87 :: x88 :: x89 :: x90 :: x91 :: x92 :: x93 :: x94 :: x95 :: x96 :: x97 :: x98 :: x99 :: x100 :: u101 :: u102 :: u103 :: u104 :: u105 :: u106 :: u107 :: u108 :: u109 :: u110 :: u111 :: u112 :: u113 :: u114 :: u115 :: u116 :: x117 :: x118 :: x119 :: x120 :: x121 :: x122 :: x123 :: x124 :: x125 :: x126 :: x127 :: x128 :: x129 :: x130 :: x131 :: x132 :: x133 :: x134 :: x135 :: x136 :: x137 :: x138 :: x139 :: x140 :: x141 :: []).toArray,defers := ds } w') :
  (Code.region id ops true).wp Try.prog Q { tmps := (x0 :: x1 :: x2 :: x3 :: x4 :: x5 :: x6 :: x7 :: x8 :: x9 :: x10 :: x11 :: x12 :: .pointer (some ⟨g,0,none⟩) :: x14 :: x15 :: x16 :: x17 :: x18 :: .slice (some ⟨b19,0,none⟩) 3 3 :: .slice (some ⟨b20,0,none⟩) 3 3 :: .slice (some ⟨b21,0,none⟩) 3 3 :: .int .i64 i :: x23 :: x24 :: x25 :: x26 :: x27 :: x28 :: x29 :: x30 :: x31 :: x32 :: x33 :: x34 :: x35 :: x36 :: x37 :: x38 :: x39 :: x40 :: x41 :: x42 :: x43 :: x44 :: x45 :: x46 :: x47 :: x48 :: x49 :: x50 :: x51 :: x52 :: x53 :: x54 :: x55 :: x56 :: x57 :: x58 :: x59 :: x60 :: x61 :: x62 :: x63 :: x64 :: x65 :: x66 :: x67 :: x68 :: x69 :: x70 :: x71 :: x72 :: x73 :: x74 :: x75 :: x76 :: x77 :: x78 :: x79 :: x80 :: x81 :: x82 :: x83 :: x84 :: x85 :: x86 :: x87 :: x88 :: x89 :: x90 :: x91 :: x92 :: x93 :: x94 :: x95 :: x96 :: x97 :: x98 :: x99 :: x100 :: x101 :: x102 :: x103 :: x104 :: x105 :: x106 :: x107 :: x108 :: x109 :: x110 :: x111 :: x112 :: x113 :: x114 :: x115 :: x116 :: x117 :: x118 :: x119 :: x120 :: x121 :: x122 :: x123 :: x124 :: x125 :: x126 :: x127 :: x128 :: x129 :: x130 :: x131 :: x132 :: x133 :: x134 :: x135 :: x136 :: x137 :: x138 :: x139 :: x140 :: x141 :: []).toArray,defers := ds } w := by
 obtain rfl := Option.some.inj (show some _ = some ops from hops)
 have hn : (([(102,.val (.slice (some ⟨b19,0,none⟩) 3 3)),(103,.val (.int .i64 i)),(104,.val (.pointer (some (⟨b19,i.toNat,none⟩)))),(105,.val (.slice A (l.length) c)),(106,.val (.slice (some ⟨b20,0,none⟩) 3 3)),(107,.val (.int .i64 i)),(108,.val (.pointer (some (⟨b20,i.toNat,none⟩)))),(109,.val (.int .i64 x)),(110,.val (.slice (some ⟨b21,0,none⟩) 3 3)),(111,.val (.int .i64 i)),(112,.val (.pointer (some (⟨b21,i.toNat * 2,none⟩)))),(113,.val (.agg #[.int .i64 y0,.int .i64 y1])),(114,.val (.tuple #[.agg #[.int .i64 ra,.int .i64 rb],.int .i64 re])),(101,.val (.tuple #[.agg #[.int .i64 ra,.int .i64 rb],.int .i64 re])),(115,.val (.agg #[.int .i64 ra,.int .i64 rb])),(116,.val (.int .i64 re)),(23,.var 34 #[.int .i64 0,.int .i64 0] 17 #[.int .i64 ra,.int .i64 rb]),(1017,.set 16),(24,.val (.int .i64 re))] : List (Nat × Left)).map (·.1)).Nodup := by simp only [List.map_cons,List.map_nil];decide
 have hcn : ([] : List Nat).Nodup := by decide
 refine wp_region_alln 19 (by kernel_rfl) rfl (by kernel_rfl) (DiceAt g (fun k => ([s0] : List Int).getD k 0) [] [(102,.val (.slice (some ⟨b19,0,none⟩) 3 3)),(103,.val (.int .i64 i)),(104,.val (.pointer (some (⟨b19,i.toNat,none⟩)))),(105,.val (.slice A (l.length) c)),(106,.val (.slice (some ⟨b20,0,none⟩) 3 3)),(107,.val (.int .i64 i)),(108,.val (.pointer (some (⟨b20,i.toNat,none⟩)))),(109,.val (.int .i64 x)),(110,.val (.slice (some ⟨b21,0,none⟩) 3 3)),(111,.val (.int .i64 i)),(112,.val (.pointer (some (⟨b21,i.toNat * 2,none⟩)))),(113,.val (.agg #[.int .i64 y0,.int .i64 y1])),(114,.val (.tuple #[.agg #[.int .i64 ra,.int .i64 rb],.int .i64 re])),(101,.val (.tuple #[.agg #[.int .i64 ra,.int .i64 rb],.int .i64 re])),(115,.val (.agg #[.int .i64 ra,.int .i64 rb])),(116,.val (.int .i64 re)),(23,.var 34 #[.int .i64 0,.int .i64 0] 17 #[.int .i64 ra,.int .i64 rb]),(1017,.set 16),(24,.val (.int .i64 re))] w0 w ((x0 :: x1 :: x2 :: x3 :: x4 :: x5 :: x6 :: x7 :: x8 :: x9 :: x10 :: x11 :: x12 :: .pointer (some ⟨g,0,none⟩) :: x14 :: x15 :: x16 :: x17 :: x18 :: .slice (some ⟨b19,0,none⟩) 3 3 :: .slice (some ⟨b20,0,none⟩) 3 3 :: .slice (some ⟨b21,0,none⟩) 3 3 :: .int .i64 i :: x23 :: x24 :: x25 :: x26 :: x27 :: x28 :: x29 :: x30 :: x31 :: x32 :: x33 :: x34 :: x35 :: x36 :: x37 :: x38 :: x39 :: x40 :: x41 :: x42 :: x43 :: x44 :: x45 :: x46 :: x47 :: x48 :: x49 :: x50 :: x51 :: x52 :: x53 :: x54 :: x55 :: x56 :: x57 :: x58 :: x59 :: x60 :: x61 :: x62 :: x63 :: x64 :: x65 :: x66 :: x67 :: x68 :: x69 :: x70 :: x71 :: x72 :: x73 :: x74 :: x75 :: x76 :: x77 :: x78 :: x79 :: x80 :: x81 :: x82 :: x83 :: x84 :: x85 :: x86 :: x87 :: x88 :: x89 :: x90 :: x91 :: x92 :: x93 :: x94 :: x95 :: x96 :: x97 :: x98 :: x99 :: x100 :: x101 :: x102 :: x103 :: x104 :: x105 :: x106 :: x107 :: x108 :: x109 :: x110 :: x111 :: x112 :: x113 :: x114 :: x115 :: x116 :: x117 :: x118 :: x119 :: x120 :: x121 :: x122 :: x123 :: x124 :: x125 :: x126 :: x127 :: x128 :: x129 :: x130 :: x131 :: x132 :: x133 :: x134 :: x135 :: x136 :: x137 :: x138 :: x139 :: x140 :: x141 :: []).toArray) ds) (DiceAt.start (n := 19) rfl hI hb0) ?_ ?_
 ·intro i o hi ho L a w h hL hf hall
  have hcase : i = 0 ∨ i = 1 ∨ i = 2 ∨ i = 3 ∨ i = 4 ∨ i = 5 ∨ i = 6 ∨ i = 7 ∨ i = 8 ∨ i = 9 ∨ i = 10 ∨ i = 11 ∨ i = 12 ∨ i = 13 ∨ i = 14 ∨ i = 15 ∨ i = 16 ∨ i = 17 ∨ i = 18 := by omega
  clear hi K
  rcases hcase with rfl | rfl | rfl | rfl | rfl | rfl | rfl | rfl | rfl | rfl | rfl | rfl | rfl | rfl | rfl | rfl | rfl | rfl | rfl
  ·obtain rfl := Option.some.inj (show some _ = some o from ho)
   have f19 : a.tmps.getD 19 undef = .slice (some ⟨b19,0,none⟩) 3 3 := h.rest 19 rfl
   exact h.op ho rfl rfl rfl hn (Nat.lt_of_lt_of_eq (by decide : 102 < 142) rfl) rfl (run_move w rfl f19) (Below.refl _ _) rfl rfl
  ·obtain rfl := Option.some.inj (show some _ = some o from ho)
   have f22 : a.tmps.getD 22 undef = .int .i64 i := h.rest 22 rfl
   exact h.op ho rfl rfl rfl hn (Nat.lt_of_lt_of_eq (by decide : 103 < 142) rfl) rfl (run_move w rfl f22) (Below.refl _ _) rfl rfl
  ·obtain rfl := Option.some.inj (show some _ = some o from ho)
   have l0 := listed_of hall 0 rfl
   have f102 : a.tmps.getD 102 undef = .slice (some ⟨b19,0,none⟩) 3 3 := h.facts 0 _ _ rfl l0
   have l1 := listed_of hall 1 rfl
   have f103 : a.tmps.getD 103 undef = .int .i64 i := h.facts 1 _ _ rfl l1
   exact h.op ho rfl rfl rfl hn (Nat.lt_of_lt_of_eq (by decide : 104 < 142) rfl) rfl (run_at_43 w rfl f102 f103 (by omega) (by omega)) (Below.refl _ _) rfl rfl
  ·obtain rfl := Option.some.inj (show some _ = some o from ho)
   have l2 := listed_of hall 2 rfl
   have f104 : a.tmps.getD 104 undef = .pointer (some (⟨b19,i.toNat,none⟩)) := h.facts 2 _ _ rfl l2
   exact h.op ho rfl rfl rfl hn (Nat.lt_of_lt_of_eq (by decide : 105 < 142) rfl) rfl (run_load_25 w rfl f104 (q0 _ h.keep)) (Below.refl _ _) rfl rfl
  ·obtain rfl := Option.some.inj (show some _ = some o from ho)
   have f20 : a.tmps.getD 20 undef = .slice (some ⟨b20,0,none⟩) 3 3 := h.rest 20 rfl
   exact h.op ho rfl rfl rfl hn (Nat.lt_of_lt_of_eq (by decide : 106 < 142) rfl) rfl (run_move w rfl f20) (Below.refl _ _) rfl rfl
  ·obtain rfl := Option.some.inj (show some _ = some o from ho)
   have f22 : a.tmps.getD 22 undef = .int .i64 i := h.rest 22 rfl
   exact h.op ho rfl rfl rfl hn (Nat.lt_of_lt_of_eq (by decide : 107 < 142) rfl) rfl (run_move w rfl f22) (Below.refl _ _) rfl rfl
  ·obtain rfl := Option.some.inj (show some _ = some o from ho)
   have l4 := listed_of hall 4 rfl
   have f106 : a.tmps.getD 106 undef = .slice (some ⟨b20,0,none⟩) 3 3 := h.facts 4 _ _ rfl l4
   have l5 := listed_of hall 5 rfl
   have f107 : a.tmps.getD 107 undef = .int .i64 i := h.facts 5 _ _ rfl l5
   exact h.op ho rfl rfl rfl hn (Nat.lt_of_lt_of_eq (by decide : 108 < 142) rfl) rfl (run_at_22 w rfl f106 f107 (by omega) (by omega)) (Below.refl _ _) rfl rfl
  ·obtain rfl := Option.some.inj (show some _ = some o from ho)
   have l6 := listed_of hall 6 rfl
   have f108 : a.tmps.getD 108 undef = .pointer (some (⟨b20,i.toNat,none⟩)) := h.facts 6 _ _ rfl l6
   exact h.op ho rfl rfl rfl hn (Nat.lt_of_lt_of_eq (by decide : 109 < 142) rfl) rfl (run_load_3 w rfl f108 (q1 _ h.keep)) (Below.refl _ _) rfl rfl
  ·obtain rfl := Option.some.inj (show some _ = some o from ho)
   have f21 : a.tmps.getD 21 undef = .slice (some ⟨b21,0,none⟩) 3 3 := h.rest 21 rfl
   exact h.op ho rfl rfl rfl hn (Nat.lt_of_lt_of_eq (by decide : 110 < 142) rfl) rfl (run_move w rfl f21) (Below.refl _ _) rfl rfl
  ·obtain rfl := Option.some.inj (show some _ = some o from ho)
   have f22 : a.tmps.getD 22 undef = .int .i64 i := h.rest 22 rfl
   exact h.op ho rfl rfl rfl hn (Nat.lt_of_lt_of_eq (by decide : 111 < 142) rfl) rfl (run_move w rfl f22) (Below.refl _ _) rfl rfl
  ·obtain rfl := Option.some.inj (show some _ = some o from ho)
   have l8 := listed_of hall 8 rfl
   have f110 : a.tmps.getD 110 undef = .slice (some ⟨b21,0,none⟩) 3 3 := h.facts 8 _ _ rfl l8
   have l9 := listed_of hall 9 rfl
   have f111 : a.tmps.getD 111 undef = .int .i64 i := h.facts 9 _ _ rfl l9
   exact h.op ho rfl rfl rfl hn (Nat.lt_of_lt_of_eq (by decide : 112 < 142) rfl) rfl (run_at_44 w rfl f110 f111 (by omega) (by omega)) (Below.refl _ _) rfl rfl
  ·obtain rfl := Option.some.inj (show some _ = some o from ho)
   have l10 := listed_of hall 10 rfl
   have f112 : a.tmps.getD 112 undef = .pointer (some (⟨b21,i.toNat * 2,none⟩)) := h.facts 10 _ _ rfl l10
   exact h.op ho rfl rfl rfl hn (Nat.lt_of_lt_of_eq (by decide : 113 < 142) rfl) rfl (run_load_34 w rfl f112 (q2 _ h.keep) (q3 _ h.keep)) (Below.refl _ _) rfl rfl
  ·obtain rfl := Option.some.inj (show some _ = some o from ho)
   have l3 := listed_of hall 3 rfl
   have f105 : a.tmps.getD 105 undef = .slice A (l.length) c := h.facts 3 _ _ rfl l3
   have l7 := listed_of hall 7 rfl
   have f109 : a.tmps.getD 109 undef = .int .i64 x := h.facts 7 _ _ rfl l7
   have l11 := listed_of hall 11 rfl
   have f113 : a.tmps.getD 113 undef = .agg #[.int .i64 y0,.int .i64 y1] := h.facts 11 _ _ rfl l11
   exact h.other (f := 22) (args := #[.slice A (l.length) c,.int .i64 x,.agg #[.int .i64 y0,.int .i64 y1]]) ho rfl rfl rfl hn (Nat.lt_of_lt_of_eq (by decide : 114 < 142) rfl) rfl rfl (run_call w rfl rfl (by simp only [List.map_toArray,List.map_cons,List.map_nil];rw [show a.eval (.tmp 105) = _ from f105];rw [show a.eval (.tmp 109) = _ from f109];rw [show a.eval (.tmp 113) = _ from f113];first | done | rfl) (enters_of Try.func22 (by kernel_rfl) rfl) rfl) (gauge_Accept.calls A c l x y0 y1 ra rb re w (hC _ h.below h.keep) hc hT)
  ·obtain rfl := Option.some.inj (show some _ = some o from ho)
   have l12 := listed_of hall 12 rfl
   have f114 : a.tmps.getD 114 undef = .tuple #[.agg #[.int .i64 ra,.int .i64 rb],.int .i64 re] := h.facts 12 _ _ rfl l12
   exact h.op ho rfl rfl rfl hn (Nat.lt_of_lt_of_eq (by decide : 101 < 142) rfl) rfl (run_move w rfl f114) (Below.refl _ _) rfl rfl
  ·obtain rfl := Option.some.inj (show some _ = some o from ho)
   have l13 := listed_of hall 13 rfl
   have f101 : a.tmps.getD 101 undef = .tuple #[.agg #[.int .i64 ra,.int .i64 rb],.int .i64 re] := h.facts 13 _ _ rfl l13
   exact h.op ho rfl rfl rfl hn (Nat.lt_of_lt_of_eq (by decide : 115 < 142) rfl) rfl (run_extract_0 w rfl f101) (Below.refl _ _) rfl rfl
  ·obtain rfl := Option.some.inj (show some _ = some o from ho)
   have l13 := listed_of hall 13 rfl
   have f101 : a.tmps.getD 101 undef = .tuple #[.agg #[.int .i64 ra,.int .i64 rb],.int .i64 re] := h.facts 13 _ _ rfl l13
   exact h.op ho rfl rfl rfl hn (Nat.lt_of_lt_of_eq (by decide : 116 < 142) rfl) rfl (run_extract_1 w rfl f101) (Below.refl _ _) rfl rfl
  ·obtain rfl := Option.some.inj (show some _ = some o from ho)
   exact h.var ho rfl rfl rfl rfl hn (Nat.lt_of_lt_of_eq (by decide : 23 < 142) rfl) rfl rfl hf (run_var2 w rfl)
  ·obtain rfl := Option.some.inj (show some _ = some o from ho)
   have l14 := listed_of hall 14 rfl
   have f115 : a.tmps.getD 115 undef = .agg #[.int .i64 ra,.int .i64 rb] := h.facts 14 _ _ rfl l14
   have l16 := listed_of hall 16 rfl
   exact h.store ho rfl rfl rfl rfl rfl hb0.size (by rw [hL];decide) rfl hf l16 (fun b p q => run_store2 rfl p f115 q)
  ·obtain rfl := Option.some.inj (show some _ = some o from ho)
   have l15 := listed_of hall 15 rfl
   have f116 : a.tmps.getD 116 undef = .int .i64 re := h.facts 15 _ _ rfl l15
   exact h.op ho rfl rfl rfl hn (Nat.lt_of_lt_of_eq (by decide : 24 < 142) rfl) rfl (run_assign w rfl f116) (Below.refl _ _) rfl rfl
 ·intro L a w' h hall
  obtain ⟨b23,b1_23,bn_23,b2_23,b3_23⟩ := h.facts 16 _ _ rfl (hall 16 (by omega))
  rw [if_pos (hall 17 (by omega))] at b3_23
  have f24 : a.tmps.getD 24 undef = .int .i64 re := h.facts 18 _ _ rfl (hall 18 (by omega))
  have hD : IsS65 w0 w' g s0 := h.done (by intro i hi;cases hi)
  have e := h.frame (fun t => if t = 23 then .pointer (some ⟨b23,0,none⟩) else if t = 24 then .int .i64 re else a.tmps.getD t undef) (by
   intro x hx _
   simp only [List.mem_cons,List.not_mem_nil,or_false] at hx
   rcases hx with rfl | rfl | rfl | rfl | rfl | rfl | rfl | rfl | rfl | rfl | rfl | rfl | rfl | rfl | rfl | rfl | rfl | rfl | rfl
   all_goals first | rfl | assumption)
  have k := K (a.tmps.getD 102 undef) (a.tmps.getD 103 undef) (a.tmps.getD 104 undef) (a.tmps.getD 105 undef) (a.tmps.getD 106 undef) (a.tmps.getD 107 undef) (a.tmps.getD 108 undef) (a.tmps.getD 109 undef) (a.tmps.getD 110 undef) (a.tmps.getD 111 undef) (a.tmps.getD 112 undef) (a.tmps.getD 113 undef) (a.tmps.getD 114 undef) (a.tmps.getD 101 undef) (a.tmps.getD 115 undef) (a.tmps.getD 116 undef) b23 w' hD h.below h.keep b1_23 bn_23 b3_23
  clear K
  simp only [List.foldl_cons,List.foldl_nil,sB_,sS_,sZ_,List.set_nil,Nat.reduceEqDiff,reduceIte] at e
  rw [e]
  exact k
set_option maxHeartbeats 8000000 in
set_option maxRecDepth 100000 in
theorem Accepts.region16 (b19 b20 b21 : Nat) (i : Int) (A : Option Addr) (c : Nat) (l : List S49) (x y0 y1 ra rb re : Int) (kf : Nat) {ops : Array Oper} (hops : (Try.f4.body.bind (regionOf 16)) = some ops) {Q : Exit → Act → World → Prop} {ds : List Deferred} {id : Nat} (g : Nat) (s0 : Int)  {x0 x1 x2 x3 x4 x5 x6 x7 x8 x9 x10 x11 x12 x14 x15 x16 x17 x18 x23 x24 x25 x26 x27 x28 x29 x30 x31 x32 x33 x34 x35 x36 x37 x38 x39 x40 x41 x42 x43 x44 x45 x46 x47 x48 x49 x50 x51 x52 x53 x54 x55 x56 x57 x58 x59 x60 x61 x62 x63 x64 x65 x66 x67 x68 x69 x70 x71 x72 x73 x74 x75 x76 x77 x78 x79 x80 x81 x82 x83 x84 x85 x86 x87 x88 x89 x90 x91 x92 x93 x94 x95 x96 x97 x98 x99 x100 x101 x102 x103 x104 x105 x106 x107 x108 x109 x110 x111 x112 x113 x114 x115 x116 x117 x118 x119 x120 x121 x122 x123 x124 x125 x126 x127 x128 x129 x130 x131 x132 x133 x134 x135 x136 x137 x138 x139 x140 x141 : Value} (w0 : World) {w : World} (hI : IsS65 w0 w g s0) (hb0 : Below w0.heap.size w0 w) (i0 : 0 ≤ i) (i1 : i < 3) (q0 : ∀ W,KeepBut w W g none → W.cell? ⟨b19,i.toNat,none⟩ = some (.slice A l.length c)) (q1 : ∀ W,KeepBut w W g none → W.cell? ⟨b20,i.toNat,none⟩ = some (.int .i64 x)) (q2 : ∀ W,KeepBut w W g none → W.cell? ⟨b21,i.toNat * 2,none⟩ = some (.int .i64 y0)) (q3 : ∀ W,KeepBut w W g none → W.cell? ⟨b21,i.toNat * 2 + 1,none⟩ = some (.int .i64 y1)) (hC : ∀ W,Below w0.heap.size w0 W → KeepBut w W g none → Kd.C k49 W A l.length l) (hc : l.length ≤ c) (hT : R_Accept.f kf l x y0 y1 = some (ra,rb,re))
  (K : ∀ (u118 u119 u120 u121 u122 u123 u124 u125 u126 u127 u128 u129 u130 u117 u131 u132 : Value) (b25 : Nat) (w' : World),IsS65 w0 w' g s0 → Below w0.heap.size w0 w' → KeepBut w w' g none → b25 ≠ g → w.heap.size ≤ b25 → w'.heap[b25]? = some (.cells #[.int .i64 ra,.int .i64 rb] 34 (0,0)) → Q .normal { tmps := (x0 :: x1 :: x2 :: x3 :: x4 :: x5 :: x6 :: x7 :: x8 :: x9 :: x10 :: x11 :: x12 :: .pointer (some ⟨g,0,none⟩) :: x14 :: x15 :: x16 :: x17 :: x18 :: .slice (some ⟨b19,0,none⟩) 3 3 :: .slice (some ⟨b20,0,none⟩) 3 3 :: .slice (some ⟨b21,0,none⟩) 3 3 :: .int .i64 i :: x23 :: x24 :: .pointer (some ⟨b25,0,none⟩) :: .int .i64 re :: x27 :: x28 :: x29 :: x30 :: x31 :: x32 :: x33 :: x34 :: x35 :: x36 :: x37 :: x38 :: x39 :: x40 :: x41 :: x42 :: x43 :: x44 :: x45 :: x46 :: x47 :: x48 :: x49 :: x50 :: x51 :: x52 :: x53 :: x54 :: x55 :: x56 :: x57 :: x58 :: x59 :: x60 :: x61 :: x62 :: x63 :: x64 :: x65 :: x66 :: x67 :: x68 :: x69 :: x70 :: x71 :: x72 :: x73 :: x74 :: x75 :: x76 :: x77 :: x78 :: x79 :: x80 :: x81 :: x82 :: x83 :: x84 :: x85 :: x86 :: x87 :: x88 :: x89 :: x90 :: x91 :: x92 :: x93 :: x94 :: x95 :: x96 :: x97 :: x98 :: x99 :: x100 :: x101 :: x102 :: x103 :: x104 :: x105 :: x106 :: x107 :: x108 :: x109 :: x110 :: x111 :: x112 :: x113 :: x114 :: x115 :: x116 :: u117 :: u118 :: u119 :: u120 :: u121 :: u122 :: u123 :: u124 :: u125 :: u126 :: u127 :: u128 :: u129 :: u130 :: u131 :: u132 :: x133 :: x134 :: x135 :: x136 :: x137 :: x138 :: x139 :: x140 :: x141 :: []).toArray,defers := ds } w') :
  (Code.region id ops true).wp Try.prog Q { tmps := (x0 :: x1 :: x2 :: x3 :: x4 :: x5 :: x6 :: x7 :: x8 :: x9 :: x10 :: x11 :: x12 :: .pointer (some ⟨g,0,none⟩) :: x14 :: x15 :: x16 :: x17 :: x18 :: .slice (some ⟨b19,0,none⟩) 3 3 :: .slice (some ⟨b20,0,none⟩) 3 3 :: .slice (some ⟨b21,0,none⟩) 3 3 :: .int .i64 i :: x23 :: x24 :: x25 :: x26 :: x27 :: x28 :: x29 :: x30 :: x31 :: x32 :: x33 :: x34 :: x35 :: x36 :: x37 :: x38 :: x39 :: x40 :: x41 :: x42 :: x43 :: x44 :: x45 :: x46 :: x47 :: x48 :: x49 :: x50 :: x51 :: x52 :: x53 :: x54 :: x55 :: x56 :: x57 :: x58 :: x59 :: x60 :: x61 :: x62 :: x63 :: x64 :: x65 :: x66 :: x67 :: x68 :: x69 :: x70 :: x71 :: x72 :: x73 :: x74 :: x75 :: x76 :: x77 :: x78 :: x79 :: x80 :: x81 :: x82 :: x83 :: x84 :: x85 :: x86 :: x87 :: x88 :: x89 :: x90 :: x91 :: x92 :: x93 :: x94 :: x95 :: x96 :: x97 :: x98 :: x99 :: x100 :: x101 :: x102 :: x103 :: x104 :: x105 :: x106 :: x107 :: x108 :: x109 :: x110 :: x111 :: x112 :: x113 :: x114 :: x115 :: x116 :: x117 :: x118 :: x119 :: x120 :: x121 :: x122 :: x123 :: x124 :: x125 :: x126 :: x127 :: x128 :: x129 :: x130 :: x131 :: x132 :: x133 :: x134 :: x135 :: x136 :: x137 :: x138 :: x139 :: x140 :: x141 :: []).toArray,defers := ds } w := by
 obtain rfl := Option.some.inj (show some _ = some ops from hops)
 have hn : (([(118,.val (.slice (some ⟨b19,0,none⟩) 3 3)),(119,.val (.int .i64 i)),(120,.val (.pointer (some (⟨b19,i.toNat,none⟩)))),(121,.val (.slice A (l.length) c)),(122,.val (.slice (some ⟨b20,0,none⟩) 3 3)),(123,.val (.int .i64 i)),(124,.val (.pointer (some (⟨b20,i.toNat,none⟩)))),(125,.val (.int .i64 x)),(126,.val (.slice (some ⟨b21,0,none⟩) 3 3)),(127,.val (.int .i64 i)),(128,.val (.pointer (some (⟨b21,i.toNat * 2,none⟩)))),(129,.val (.agg #[.int .i64 y0,.int .i64 y1])),(130,.val (.tuple #[.agg #[.int .i64 ra,.int .i64 rb],.int .i64 re])),(117,.val (.tuple #[.agg #[.int .i64 ra,.int .i64 rb],.int .i64 re])),(131,.val (.agg #[.int .i64 ra,.int .i64 rb])),(132,.val (.int .i64 re)),(25,.var 34 #[.int .i64 0,.int .i64 0] 17 #[.int .i64 ra,.int .i64 rb]),(1017,.set 16),(26,.val (.int .i64 re))] : List (Nat × Left)).map (·.1)).Nodup := by simp only [List.map_cons,List.map_nil];decide
 have hcn : ([] : List Nat).Nodup := by decide
 refine wp_region_alln 19 (by kernel_rfl) rfl (by kernel_rfl) (DiceAt g (fun k => ([s0] : List Int).getD k 0) [] [(118,.val (.slice (some ⟨b19,0,none⟩) 3 3)),(119,.val (.int .i64 i)),(120,.val (.pointer (some (⟨b19,i.toNat,none⟩)))),(121,.val (.slice A (l.length) c)),(122,.val (.slice (some ⟨b20,0,none⟩) 3 3)),(123,.val (.int .i64 i)),(124,.val (.pointer (some (⟨b20,i.toNat,none⟩)))),(125,.val (.int .i64 x)),(126,.val (.slice (some ⟨b21,0,none⟩) 3 3)),(127,.val (.int .i64 i)),(128,.val (.pointer (some (⟨b21,i.toNat * 2,none⟩)))),(129,.val (.agg #[.int .i64 y0,.int .i64 y1])),(130,.val (.tuple #[.agg #[.int .i64 ra,.int .i64 rb],.int .i64 re])),(117,.val (.tuple #[.agg #[.int .i64 ra,.int .i64 rb],.int .i64 re])),(131,.val (.agg #[.int .i64 ra,.int .i64 rb])),(132,.val (.int .i64 re)),(25,.var 34 #[.int .i64 0,.int .i64 0] 17 #[.int .i64 ra,.int .i64 rb]),(1017,.set 16),(26,.val (.int .i64 re))] w0 w ((x0 :: x1 :: x2 :: x3 :: x4 :: x5 :: x6 :: x7 :: x8 :: x9 :: x10 :: x11 :: x12 :: .pointer (some ⟨g,0,none⟩) :: x14 :: x15 :: x16 :: x17 :: x18 :: .slice (some ⟨b19,0,none⟩) 3 3 :: .slice (some ⟨b20,0,none⟩) 3 3 :: .slice (some ⟨b21,0,none⟩) 3 3 :: .int .i64 i :: x23 :: x24 :: x25 :: x26 :: x27 :: x28 :: x29 :: x30 :: x31 :: x32 :: x33 :: x34 :: x35 :: x36 :: x37 :: x38 :: x39 :: x40 :: x41 :: x42 :: x43 :: x44 :: x45 :: x46 :: x47 :: x48 :: x49 :: x50 :: x51 :: x52 :: x53 :: x54 :: x55 :: x56 :: x57 :: x58 :: x59 :: x60 :: x61 :: x62 :: x63 :: x64 :: x65 :: x66 :: x67 :: x68 :: x69 :: x70 :: x71 :: x72 :: x73 :: x74 :: x75 :: x76 :: x77 :: x78 :: x79 :: x80 :: x81 :: x82 :: x83 :: x84 :: x85 :: x86 :: x87 :: x88 :: x89 :: x90 :: x91 :: x92 :: x93 :: x94 :: x95 :: x96 :: x97 :: x98 :: x99 :: x100 :: x101 :: x102 :: x103 :: x104 :: x105 :: x106 :: x107 :: x108 :: x109 :: x110 :: x111 :: x112 :: x113 :: x114 :: x115 :: x116 :: x117 :: x118 :: x119 :: x120 :: x121 :: x122 :: x123 :: x124 :: x125 :: x126 :: x127 :: x128 :: x129 :: x130 :: x131 :: x132 :: x133 :: x134 :: x135 :: x136 :: x137 :: x138 :: x139 :: x140 :: x141 :: []).toArray) ds) (DiceAt.start (n := 19) rfl hI hb0) ?_ ?_
 ·intro i o hi ho L a w h hL hf hall
  have hcase : i = 0 ∨ i = 1 ∨ i = 2 ∨ i = 3 ∨ i = 4 ∨ i = 5 ∨ i = 6 ∨ i = 7 ∨ i = 8 ∨ i = 9 ∨ i = 10 ∨ i = 11 ∨ i = 12 ∨ i = 13 ∨ i = 14 ∨ i = 15 ∨ i = 16 ∨ i = 17 ∨ i = 18 := by omega
  clear hi K
  rcases hcase with rfl | rfl | rfl | rfl | rfl | rfl | rfl | rfl | rfl | rfl | rfl | rfl | rfl | rfl | rfl | rfl | rfl | rfl | rfl
  ·obtain rfl := Option.some.inj (show some _ = some o from ho)
   have f19 : a.tmps.getD 19 undef = .slice (some ⟨b19,0,none⟩) 3 3 := h.rest 19 rfl
   exact h.op ho rfl rfl rfl hn (Nat.lt_of_lt_of_eq (by decide : 118 < 142) rfl) rfl (run_move w rfl f19) (Below.refl _ _) rfl rfl
  ·obtain rfl := Option.some.inj (show some _ = some o from ho)
   have f22 : a.tmps.getD 22 undef = .int .i64 i := h.rest 22 rfl
   exact h.op ho rfl rfl rfl hn (Nat.lt_of_lt_of_eq (by decide : 119 < 142) rfl) rfl (run_move w rfl f22) (Below.refl _ _) rfl rfl
  ·obtain rfl := Option.some.inj (show some _ = some o from ho)
   have l0 := listed_of hall 0 rfl
   have f118 : a.tmps.getD 118 undef = .slice (some ⟨b19,0,none⟩) 3 3 := h.facts 0 _ _ rfl l0
   have l1 := listed_of hall 1 rfl
   have f119 : a.tmps.getD 119 undef = .int .i64 i := h.facts 1 _ _ rfl l1
   exact h.op ho rfl rfl rfl hn (Nat.lt_of_lt_of_eq (by decide : 120 < 142) rfl) rfl (run_at_43 w rfl f118 f119 (by omega) (by omega)) (Below.refl _ _) rfl rfl
  ·obtain rfl := Option.some.inj (show some _ = some o from ho)
   have l2 := listed_of hall 2 rfl
   have f120 : a.tmps.getD 120 undef = .pointer (some (⟨b19,i.toNat,none⟩)) := h.facts 2 _ _ rfl l2
   exact h.op ho rfl rfl rfl hn (Nat.lt_of_lt_of_eq (by decide : 121 < 142) rfl) rfl (run_load_25 w rfl f120 (q0 _ h.keep)) (Below.refl _ _) rfl rfl
  ·obtain rfl := Option.some.inj (show some _ = some o from ho)
   have f20 : a.tmps.getD 20 undef = .slice (some ⟨b20,0,none⟩) 3 3 := h.rest 20 rfl
   exact h.op ho rfl rfl rfl hn (Nat.lt_of_lt_of_eq (by decide : 122 < 142) rfl) rfl (run_move w rfl f20) (Below.refl _ _) rfl rfl
  ·obtain rfl := Option.some.inj (show some _ = some o from ho)
   have f22 : a.tmps.getD 22 undef = .int .i64 i := h.rest 22 rfl
   exact h.op ho rfl rfl rfl hn (Nat.lt_of_lt_of_eq (by decide : 123 < 142) rfl) rfl (run_move w rfl f22) (Below.refl _ _) rfl rfl
  ·obtain rfl := Option.some.inj (show some _ = some o from ho)
   have l4 := listed_of hall 4 rfl
   have f122 : a.tmps.getD 122 undef = .slice (some ⟨b20,0,none⟩) 3 3 := h.facts 4 _ _ rfl l4
   have l5 := listed_of hall 5 rfl
   have f123 : a.tmps.getD 123 undef = .int .i64 i := h.facts 5 _ _ rfl l5
   exact h.op ho rfl rfl rfl hn (Nat.lt_of_lt_of_eq (by decide : 124 < 142) rfl) rfl (run_at_22 w rfl f122 f123 (by omega) (by omega)) (Below.refl _ _) rfl rfl
  ·obtain rfl := Option.some.inj (show some _ = some o from ho)
   have l6 := listed_of hall 6 rfl
   have f124 : a.tmps.getD 124 undef = .pointer (some (⟨b20,i.toNat,none⟩)) := h.facts 6 _ _ rfl l6
   exact h.op ho rfl rfl rfl hn (Nat.lt_of_lt_of_eq (by decide : 125 < 142) rfl) rfl (run_load_3 w rfl f124 (q1 _ h.keep)) (Below.refl _ _) rfl rfl
  ·obtain rfl := Option.some.inj (show some _ = some o from ho)
   have f21 : a.tmps.getD 21 undef = .slice (some ⟨b21,0,none⟩) 3 3 := h.rest 21 rfl
   exact h.op ho rfl rfl rfl hn (Nat.lt_of_lt_of_eq (by decide : 126 < 142) rfl) rfl (run_move w rfl f21) (Below.refl _ _) rfl rfl
  ·obtain rfl := Option.some.inj (show some _ = some o from ho)
   have f22 : a.tmps.getD 22 undef = .int .i64 i := h.rest 22 rfl
   exact h.op ho rfl rfl rfl hn (Nat.lt_of_lt_of_eq (by decide : 127 < 142) rfl) rfl (run_move w rfl f22) (Below.refl _ _) rfl rfl
  ·obtain rfl := Option.some.inj (show some _ = some o from ho)
   have l8 := listed_of hall 8 rfl
   have f126 : a.tmps.getD 126 undef = .slice (some ⟨b21,0,none⟩) 3 3 := h.facts 8 _ _ rfl l8
   have l9 := listed_of hall 9 rfl
   have f127 : a.tmps.getD 127 undef = .int .i64 i := h.facts 9 _ _ rfl l9
   exact h.op ho rfl rfl rfl hn (Nat.lt_of_lt_of_eq (by decide : 128 < 142) rfl) rfl (run_at_44 w rfl f126 f127 (by omega) (by omega)) (Below.refl _ _) rfl rfl
  ·obtain rfl := Option.some.inj (show some _ = some o from ho)
   have l10 := listed_of hall 10 rfl
   have f128 : a.tmps.getD 128 undef = .pointer (some (⟨b21,i.toNat * 2,none⟩)) := h.facts 10 _ _ rfl l10
   exact h.op ho rfl rfl rfl hn (Nat.lt_of_lt_of_eq (by decide : 129 < 142) rfl) rfl (run_load_34 w rfl f128 (q2 _ h.keep) (q3 _ h.keep)) (Below.refl _ _) rfl rfl
  ·obtain rfl := Option.some.inj (show some _ = some o from ho)
   have l3 := listed_of hall 3 rfl
   have f121 : a.tmps.getD 121 undef = .slice A (l.length) c := h.facts 3 _ _ rfl l3
   have l7 := listed_of hall 7 rfl
   have f125 : a.tmps.getD 125 undef = .int .i64 x := h.facts 7 _ _ rfl l7
   have l11 := listed_of hall 11 rfl
   have f129 : a.tmps.getD 129 undef = .agg #[.int .i64 y0,.int .i64 y1] := h.facts 11 _ _ rfl l11
   exact h.other (f := 23) (args := #[.slice A (l.length) c,.int .i64 x,.agg #[.int .i64 y0,.int .i64 y1]]) ho rfl rfl rfl hn (Nat.lt_of_lt_of_eq (by decide : 130 < 142) rfl) rfl rfl (run_call w rfl rfl (by simp only [List.map_toArray,List.map_cons,List.map_nil];rw [show a.eval (.tmp 121) = _ from f121];rw [show a.eval (.tmp 125) = _ from f125];rw [show a.eval (.tmp 129) = _ from f129];first | done | rfl) (enters_of Try.func23 (by kernel_rfl) rfl) rfl) (R_Accept.calls kf A c l x y0 y1 ra rb re w (hC _ h.below h.keep) hc hT)
  ·obtain rfl := Option.some.inj (show some _ = some o from ho)
   have l12 := listed_of hall 12 rfl
   have f130 : a.tmps.getD 130 undef = .tuple #[.agg #[.int .i64 ra,.int .i64 rb],.int .i64 re] := h.facts 12 _ _ rfl l12
   exact h.op ho rfl rfl rfl hn (Nat.lt_of_lt_of_eq (by decide : 117 < 142) rfl) rfl (run_move w rfl f130) (Below.refl _ _) rfl rfl
  ·obtain rfl := Option.some.inj (show some _ = some o from ho)
   have l13 := listed_of hall 13 rfl
   have f117 : a.tmps.getD 117 undef = .tuple #[.agg #[.int .i64 ra,.int .i64 rb],.int .i64 re] := h.facts 13 _ _ rfl l13
   exact h.op ho rfl rfl rfl hn (Nat.lt_of_lt_of_eq (by decide : 131 < 142) rfl) rfl (run_extract_0 w rfl f117) (Below.refl _ _) rfl rfl
  ·obtain rfl := Option.some.inj (show some _ = some o from ho)
   have l13 := listed_of hall 13 rfl
   have f117 : a.tmps.getD 117 undef = .tuple #[.agg #[.int .i64 ra,.int .i64 rb],.int .i64 re] := h.facts 13 _ _ rfl l13
   exact h.op ho rfl rfl rfl hn (Nat.lt_of_lt_of_eq (by decide : 132 < 142) rfl) rfl (run_extract_1 w rfl f117) (Below.refl _ _) rfl rfl
  ·obtain rfl := Option.some.inj (show some _ = some o from ho)
   exact h.var ho rfl rfl rfl rfl hn (Nat.lt_of_lt_of_eq (by decide : 25 < 142) rfl) rfl rfl hf (run_var2 w rfl)
  ·obtain rfl := Option.some.inj (show some _ = some o from ho)
   have l14 := listed_of hall 14 rfl
   have f131 : a.tmps.getD 131 undef = .agg #[.int .i64 ra,.int .i64 rb] := h.facts 14 _ _ rfl l14
   have l16 := listed_of hall 16 rfl
   exact h.store ho rfl rfl rfl rfl rfl hb0.size (by rw [hL];decide) rfl hf l16 (fun b p q => run_store2 rfl p f131 q)
  ·obtain rfl := Option.some.inj (show some _ = some o from ho)
   have l15 := listed_of hall 15 rfl
   have f132 : a.tmps.getD 132 undef = .int .i64 re := h.facts 15 _ _ rfl l15
   exact h.op ho rfl rfl rfl hn (Nat.lt_of_lt_of_eq (by decide : 26 < 142) rfl) rfl (run_assign w rfl f132) (Below.refl _ _) rfl rfl
 ·intro L a w' h hall
  obtain ⟨b25,b1_25,bn_25,b2_25,b3_25⟩ := h.facts 16 _ _ rfl (hall 16 (by omega))
  rw [if_pos (hall 17 (by omega))] at b3_25
  have f26 : a.tmps.getD 26 undef = .int .i64 re := h.facts 18 _ _ rfl (hall 18 (by omega))
  have hD : IsS65 w0 w' g s0 := h.done (by intro i hi;cases hi)
  have e := h.frame (fun t => if t = 25 then .pointer (some ⟨b25,0,none⟩) else if t = 26 then .int .i64 re else a.tmps.getD t undef) (by
   intro x hx _
   simp only [List.mem_cons,List.not_mem_nil,or_false] at hx
   rcases hx with rfl | rfl | rfl | rfl | rfl | rfl | rfl | rfl | rfl | rfl | rfl | rfl | rfl | rfl | rfl | rfl | rfl | rfl | rfl
   all_goals first | rfl | assumption)
  have k := K (a.tmps.getD 118 undef) (a.tmps.getD 119 undef) (a.tmps.getD 120 undef) (a.tmps.getD 121 undef) (a.tmps.getD 122 undef) (a.tmps.getD 123 undef) (a.tmps.getD 124 undef) (a.tmps.getD 125 undef) (a.tmps.getD 126 undef) (a.tmps.getD 127 undef) (a.tmps.getD 128 undef) (a.tmps.getD 129 undef) (a.tmps.getD 130 undef) (a.tmps.getD 117 undef) (a.tmps.getD 131 undef) (a.tmps.getD 132 undef) b25 w' hD h.below h.keep b1_25 bn_25 b3_25
  clear K
  simp only [List.foldl_cons,List.foldl_nil,sB_,sS_,sZ_,List.set_nil,Nat.reduceEqDiff,reduceIte] at e
  rw [e]
  exact k
def L_GaugeAccepts.f (_l0 : List S49) (_a1 _a2_0 _a2_1 _a3_0 _a3_1 : Int) (l4 : List Int) (_a5 : Int) : Option Bool := if l4.length ≤ maxLen then some true else none
theorem GaugeAccepts (l0 : List S49) (a1 a2_0 a2_1 a3_0 a3_1 : Int) (l4 : List Int) (a5 : Int) (h : l4.length ≤ maxLen) : L_GaugeAccepts.f l0 a1 a2_0 a2_1 a3_0 a3_1 l4 a5 = some true := if_pos h
def AccsAt (g : Nat) (w wr : World) (b19 b20 b21 : Nat) (i : Int) : Prop :=
 ∃ (lx : List S49) (A : Option Addr) (c : Nat) (x y0 y1 : Int),(∀ W,KeepBut wr W g none → W.cell? ⟨b19,i.toNat,none⟩ = some (.slice A lx.length c)) ∧ (∀ W,KeepBut wr W g none → W.cell? ⟨b20,i.toNat,none⟩ = some (.int .i64 x)) ∧ (∀ W,KeepBut wr W g none → W.cell? ⟨b21,i.toNat * 2,none⟩ = some (.int .i64 y0)) ∧ (∀ W,KeepBut wr W g none → W.cell? ⟨b21,i.toNat * 2 + 1,none⟩ = some (.int .i64 y1)) ∧
  (∀ W,Below w.heap.size w W → KeepBut wr W g none → Kd.C k49 W A lx.length lx) ∧ lx.length ≤ c ∧ lx.length ≤ 20
theorem AccsAt.keep {g : Nat} {w wr wr' : World} {b19 b20 b21 : Nat} {i : Int} (h : AccsAt g w wr b19 b20 b21 i) (hk : KeepBut wr wr' g none) : AccsAt g w wr' b19 b20 b21 i := by
 obtain ⟨lx,A,c,x,y0,y1,h1,h2,h3,h3',h4,h5,h6⟩ := h
 exact ⟨lx,A,c,x,y0,y1,fun W k => h1 W (hk.trans k (.inl rfl)),fun W k => h2 W (hk.trans k (.inl rfl)),fun W k => h3 W (hk.trans k (.inl rfl)),fun W k => h3' W (hk.trans k (.inl rfl)),fun W hb k => h4 W hb (hk.trans k (.inl rfl)),h5,h6⟩
theorem true_in (l : List S49) (m n : Int) (a b e : Int) (h : trueP l m n = (a,b,e)) : -1000000000 ≤ a ∧ a ≤ 1000000000 ∧ -1000000000 ≤ b ∧ b ≤ 1000000000 := by
 have hs : (sourceP l m n).2.2 = true → -1000000000 ≤ (sourceP l m n).1 ∧ (sourceP l m n).1 ≤ (sourceP l m n).2.1 ∧ (sourceP l m n).2.1 ≤ 1000000000 := by
  unfold sourceP srcEnd
  intro h
  simp only [Bool.and_eq_true,decide_eq_true_eq] at h ⊢
  omega
 unfold trueP at h
 split at h
 ·cases h;omega
 split at h
 ·cases h;omega
 split at h
 ·cases h;omega
 split at h
 ·cases h;omega
 split at h
 ·rename_i hc
  have := hs hc
  cases h
  omega
 ·cases h;omega
set_option maxHeartbeats 8000000 in
set_option maxRecDepth 100000 in
theorem L_GaugeAccepts.calls (A0 : Option Addr) (c0 : Nat) (l0 : List S49) (a1 a2_0 a2_1 a3_0 a3_1 : Int) (A4 : Option Addr) (c4 : Nat) (l4 : List Int) (a5 : Int) (r : Bool) (w : World) (hr0 : Kd.C k49 w A0 l0.length l0) (hc0 : l0.length ≤ c0) (hr4 : Kd.C (Kd.int .i64) w A4 l4.length l4) (hc4 : l4.length ≤ c4) (h : L_GaugeAccepts.f l0 a1 a2_0 a2_1 a3_0 a3_1 l4 a5 = some r) :
  Calls Try.prog 4 #[.slice A0 l0.length c0,.int .i64 a1,.agg #[.int .i64 a2_0,.int .i64 a2_1],.agg #[.int .i64 a3_0,.int .i64 a3_1],.slice A4 l4.length c4,.int .i64 a5] w fun e w' => e = .returned (.bool r) ∧ Below w.heap.size w w' := by
 unfold L_GaugeAccepts.f at h
 split at h
 case isFalse => cases h
 rename_i hl
 obtain rfl := Option.some.inj h
 clear h
 have AW : Aside0 (∀ W,Calls Try.prog 18 #[] W fun e w' => e = .returned (.bool true) ∧ Below W.heap.size W w') := ⟨fun W => L_awake.calls 3 true W L_awake.holds⟩
 have hu34 := Try.underlying34
 have hu35 := Try.underlying35
 have HR0 := aM_ hr0
 have HR4 := aM_ hr4
 have HC0 := aM_ hc0
 clear hr0 hr4
 obtain ⟨W0,hW,BW,hsz,f8,f9⟩ : ∃ W,(w.alloc (.cells #[.int .i64 a2_0,.int .i64 a2_1] 34)).alloc (.cells #[.int .i64 a3_0,.int .i64 a3_1] 34) = W ∧ Below w.heap.size w W ∧ W.heap.size = w.heap.size + 1 + 1 ∧ W.heap[w.heap.size]? = some (.cells #[.int .i64 a2_0,.int .i64 a2_1] 34 (0,0)) ∧ W.heap[w.heap.size + 1]? = some (.cells #[.int .i64 a3_0,.int .i64 a3_1] 34 (0,0)) :=
  ⟨_,rfl,bA_ (bA_ (Below.refl _ _) _) _,by simp,kA_ (blk_new w _) _,by have := blk_new (w.alloc (.cells #[.int .i64 a2_0,.int .i64 a2_1] 34)) (.cells #[.int .i64 a3_0,.int .i64 a3_1] 34);simpa only [World.size_alloc] using this⟩
 have HW := aM_ hW
 have HW0 := aM_ BW
 have HSZ := aM_ hsz
 have F8 := aM_ f8
 have F9 := aM_ f9
 clear hW BW hsz f8 f9
 by_cases c1 : 20 < (l0.length : Int)
 ·go_enter Try.func4,Try.ntmps4
  go_wp2_with (fail)
  rw [HW.out]
  (with_reducible refine (AW.out _).mono ?_)
  rintro e w1 ⟨rfl,hb⟩
  go_wp2
  go_ret
  exact ⟨rfl,bT_ HW0.out hb⟩
 have HL0 := aM_ (show l0.length ≤ 20 by omega)
 have HD := aM_ (dice_some hl)
 obtain ⟨l,s1,e1,hM,h1,h4⟩ := bench_some (diceOf l4) 4 (by omega) (by omega)
 obtain ⟨k,s2,e2,k0,k1⟩ := upto_some s1 (l.length : Int) (by omega) (by omega)
 obtain ⟨t,e3,t0,t1⟩ := mod_any a5 200001 (by omega) (by omega)
 obtain ⟨n,s4,y,hE,_,_,_,_,_,_⟩ := showing_ev hM (by omega) s2 k (t - 100000) k0 k1 100000 (by omega) (by omega) (by omega) (by omega)
 obtain ⟨kf,e4⟩ := hE.rounds
 obtain ⟨na,nb,ne,hT⟩ : ∃ a b e,trueP l k n = (a,b,e) := ⟨_,_,_,rfl⟩
 obtain ⟨kt,eT⟩ := (refTrue_ev l (by omega) k n).rounds
 rw [hT] at eT
 have hin := true_in l k n na nb ne hT
 obtain ⟨u0,s5,e5,u00,u01⟩ := upto_some s4 3 (by omega) (by omega)
 obtain ⟨u1,s6,e6,u10,u11⟩ := upto_some s5 3 (by omega) (by omega)
 obtain ⟨u2,s7,e7,u20,u21⟩ := upto_some s6 2000 (by omega) (by omega)
 have hmul : 0 ≤ u1 * u2 ∧ u1 * u2 ≤ 6000 := ⟨Int.mul_nonneg u10 u20,by
  have h1 := Int.mul_le_mul_of_nonneg_left (show u2 ≤ 2000 by omega) u10
  have h2 := Int.mul_le_mul_of_nonneg_right (show u1 ≤ 3 by omega) (show (0 : Int) ≤ 2000 by omega)
  omega⟩
 have E1 := aM_ e1
 have E2 := aM_ e2
 have E3 := aM_ e3
 have E4 := aM_ e4
 have E5 := aM_ e5
 have E6 := aM_ e6
 have E7 := aM_ e7
 have ET := aM_ eT
 have HIN := aM_ hin
 have HU := aM_ (And.intro u00 u01)
 have HMU := aM_ hmul
 have V1 := aM_ (fun W => gauge_Verdict.calls 3 a2_0 a2_1 a3_0 a3_1 _ W (gauge_Verdict.eq 0 a2_0 a2_1 a3_0 a3_1))
 obtain ⟨q1,hq1⟩ := (refVerdict_ev a2_0 a2_1 a3_0 a3_1).rounds
 have V2 := aM_ (fun W => R_Verdict.calls q1 a2_0 a2_1 a3_0 a3_1 _ W hq1)
 have V3 := aM_ (fun W => gauge_Verdict.calls 3 na nb (na - u0) (nb + u1 * u2) _ W (gauge_Verdict.eq 0 na nb (na - u0) (nb + u1 * u2)))
 obtain ⟨q2,hq2⟩ := (refVerdict_ev na nb (na - u0) (nb + u1 * u2)).rounds
 have V4 := aM_ (fun W => R_Verdict.calls q2 na nb (na - u0) (nb + u1 * u2) _ W hq2)
 generalize verdictP a2_0 a2_1 a3_0 a3_1 = vd1 at V1 V2 hq1
 generalize verdictP na nb (na - u0) (nb + u1 * u2) = vd2 at V3 V4 hq2
 clear e1 e2 e3 e4 e5 e6 e7 eT hin u00 u01 u10 u11 u20 u21 hmul hl hE hM hT hq1 hq2
 go_enter Try.func4,Try.ntmps4
 go_wp2_with (fail)
 rw [HW.out]
 (with_reducible refine (K_NewDice.calls _ _ l4 (diceOf l4) W0 _ (Below.refl _ _) (Kd.C_below HR4.out HW0.out) hc4 HD.out).mono ?_)
 rintro e w1 ⟨g,rfl,hi,hb,hb2⟩
 have HV1 : Aside0 (Vars g [(w.heap.size,a2_0,a2_1),(w.heap.size + 1,a3_0,a3_1)] w1) := ⟨by
  have hg := hi.2
  have hs := HSZ.out
  exact Vars.cons (by omega) (kB_ F8.out hb) (Vars.cons (by omega) (kB_ F9.out hb) (Vars.nil _ _))⟩
 have HI1 := aM_ hi
 have HB1 := aM_ hb
 clear hi hb hb2 HD F8 F9 HSZ HW HR4
 go_wp2_with (fail)
 (with_reducible refine (K_BenchOf.calls g (diceOf l4) 4 l s1 W0 _ HI1.out HB1.out E1.out).mono ?_)
 rintro e w2 ⟨v14,rfl,ho,hi,hb,hk⟩
 obtain ⟨A1,cc,rfl⟩ := Kd.R_slice ho
 have HV2 := aM_ (HV1.out.keep hk)
 have HI2 := aM_ hi
 have HB2 := aM_ hb
 have HO2 := aM_ ho
 clear hi hb hk ho HI1 HB1 E1 HV1
 go_wp2_with (fail)
 (with_reducible refine (D_Upto.calls g s1 (l.length : Int) k s2 W0 _ HI2.out HB2.out E2.out).mono ?_)
 rintro e w3 ⟨rfl,hi,hb,hk⟩
 have HI3 := aM_ hi
 have HB3 := aM_ hb
 have HV3 := aM_ (HV2.out.keep hk)
 have HC3 := aM_ (fun W h => Kd.C_foot_own (IsS65.apart HI2.out HO2.out (by decide)) (fun _ h_ => h_.2) W (KeepBut.trans hk h (.inl rfl)))
 have HCL := aM_ (Kd.R_reads' HO2.out).2.1
 clear hi hb hk HI2 HB2 E2 HO2 HV2
 go_wp2_with (fail)
 (with_reducible refine (K_Mod.calls a5 200001 t _ E3.out).mono ?_)
 rintro e w4 ⟨rfl,⟨nd,rfl⟩⟩
 have hk4 : KeepBut w3 (w3.drewN nd) g none := eN_ (KeepBut.refl w3 g none) nd
 have HV4 := aM_ (HV3.out.keep hk4)
 have HC4 := aM_ (fun W h => HC3.out W (hk4.trans h (.inl rfl)))
 have HI4 := aM_ (IsS65.drewN HI3.out nd)
 have HB4 := aM_ (bN_ HB3.out nd)
 obtain ⟨w4,h4'⟩ : ∃ W,W = w3.drewN nd := ⟨_,rfl⟩
 rw [← h4'] at HV4 HC4 HI4 HB4 ⊢
 clear h4' hk4 HI3 HB3 HV3 E3 HC3
 go_wp2_with (fail)
 (with_reducible refine (K_Showing.calls kf g s2 _ _ l k (t - 100000) n s4 W0 _ HI4.out HB4.out HC4.out HCL.out E4.out).mono ?_)
 rintro e w5 ⟨rfl,hi,hb,hk⟩
 have HI5 := aM_ hi
 have HB5 := aM_ hb
 have HV5 := aM_ (HV4.out.keep hk)
 have HC5 := aM_ (fun W h => HC4.out W (hk.trans h (.inl rfl)))
 clear hi hb hk HI4 HB4 HV4 HC4 E4
 go_wp2_with (fail)
 (with_reducible refine (R_True.calls kt _ _ l k n na nb ne _ (HC5.out _ (KeepBut.refl _ _ _)) HCL.out ET.out).mono ?_)
 rintro e w6 ⟨rfl,hb⟩
 have hk6 : KeepBut w5 w6 g none := KeepBut.of_below hb g none
 have HI6 := aM_ (IsS65.below HI5.out hb)
 have HB6 := aM_ (bT_ HB5.out hb)
 have HV6 := aM_ (HV5.out.keep hk6)
 have HC6 := aM_ (fun W h => HC5.out W (hk6.trans h (.inl rfl)))
 clear hb hk6 HI5 HB5 HV5 HC5 ET
 go_wp2_with (fail)
 have b67 : Below w6.heap.size w6 (w6.alloc (.cells #[.int .i64 na,.int .i64 nb] 34)) := bA_ (Below.refl _ _) _
 have HV7 := aM_ (HV6.out.new HI6.out.lt na nb)
 have HI7 := aM_ (IsS65.below HI6.out b67)
 have HB7 := aM_ (bT_ HB6.out b67)
 have HC7 := aM_ (fun W h => HC6.out W (KeepBut.trans (KeepBut.of_below b67 g none) h (.inl rfl)))
 clear b67 HI6 HB6 HV6 HC6
 obtain ⟨b16,h16⟩ : ∃ b,w6.heap.size = b := ⟨_,rfl⟩
 obtain ⟨w7,h7⟩ : ∃ W,w6.alloc (.cells #[.int .i64 na,.int .i64 nb] 34) = W := ⟨_,rfl⟩
 rw [h7,h16] at HV7
 rw [h7] at HI7 HB7 HC7
 rw [h7,h16]
 clear h7 h16
 refine Accepts.region8 b16 na nb (by kernel_rfl) g s4 s5 s6 s7 u0 u1 u2 W0 HI7.out HB7.out HIN.out HU.out HMU.out (HV7.out.lo 0 rfl) (HV7.out.hi 0 rfl) E5.out E6.out E7.out ?_
 intro u53 u54 u55 u56 u57 u58 u59 u60 u61 u62 u63 u64 u65 u66 b18 w8 hi hb hk n18 ge18 c18
 have HV8 := aM_ (Vars.cons n18 c18 (HV7.out.keep hk))
 have HI8 := aM_ hi
 have HB8 := aM_ hb
 have HC8 := aM_ (fun W h => HC7.out W (hk.trans h (.inl rfl)))
 clear hi hb hk n18 ge18 c18 HI7 HB7 HV7 HC7 E5 E6 E7 HIN HU HMU
 go_wp2_with (fail)
 have KS := aM_ (show ∀ W : World,Below w8.heap.size w8 W → (fun (W : World) => W.cell? ⟨w.heap.size,0,none⟩ = some (.int .i64 a2_0) ∧ W.cell? ⟨w.heap.size,1,none⟩ = some (.int .i64 a2_1) ∧ W.cell? ⟨w.heap.size + 1,0,none⟩ = some (.int .i64 a3_0) ∧ W.cell? ⟨w.heap.size + 1,1,none⟩ = some (.int .i64 a3_1) ∧ W.cell? ⟨b16,0,none⟩ = some (.int .i64 na) ∧ W.cell? ⟨b16,1,none⟩ = some (.int .i64 nb) ∧ W.cell? ⟨b18,0,none⟩ = some (.int .i64 (na - u0)) ∧ W.cell? ⟨b18,1,none⟩ = some (.int .i64 (nb + u1 * u2))) W from fun W hB => by
  have hk : KeepBut w8 W g none := KeepBut.of_below hB g none
  exact ⟨HV8.out.lo 2 rfl W hk,HV8.out.hi 2 rfl W hk,HV8.out.lo 3 rfl W hk,HV8.out.hi 3 rfl W hk,HV8.out.lo 1 rfl W hk,HV8.out.hi 1 rfl W hk,HV8.out.lo 0 rfl W hk,HV8.out.hi 0 rfl W hk⟩)
 have HZ0 := aM_ (bD_ (Below.refl w8.heap.size w8))
 go_upto_region 9 with (fail)
 go_cut [82] (fun v82 wc => v82 = .bool false ∧ Aside0 (Below w8.heap.size w8 wc))
 case first =>
  go_region_held (fun (W : World) => W.cell? ⟨w.heap.size,0,none⟩ = some (.int .i64 a2_0) ∧ W.cell? ⟨w.heap.size,1,none⟩ = some (.int .i64 a2_1) ∧ W.cell? ⟨w.heap.size + 1,0,none⟩ = some (.int .i64 a3_0) ∧ W.cell? ⟨w.heap.size + 1,1,none⟩ = some (.int .i64 a3_1) ∧ W.cell? ⟨b16,0,none⟩ = some (.int .i64 na) ∧ W.cell? ⟨b16,1,none⟩ = some (.int .i64 nb) ∧ W.cell? ⟨b18,0,none⟩ = some (.int .i64 (na - u0)) ∧ W.cell? ⟨b18,1,none⟩ = some (.int .i64 (nb + u1 * u2))) (first | exact KS.out _ HZ4.out | exact KS.out _ HZ3.out | exact KS.out _ HZ2.out | exact KS.out _ HZ1.out | exact KS.out _ HZ0.out) (first
   | (go_at_call 20;(with_reducible refine (V1.out _).mono ?_);rintro e w' ⟨rfl,hb⟩;have HZ1 := aM_ (bT_ HZ0.out hb);clear hb)
   | (go_at_call 21;(with_reducible refine (V2.out _).mono ?_);rintro e w' ⟨rfl,hb⟩;have HZ2 := aM_ (bT_ HZ1.out hb);clear hb)
   | (go_at_call 20;(with_reducible refine (V3.out _).mono ?_);rintro e w' ⟨rfl,hb⟩;have HZ3 := aM_ (bT_ HZ2.out hb);clear hb)
   | (go_at_call 21;(with_reducible refine (V4.out _).mono ?_);rintro e w' ⟨rfl,hb⟩;have HZ4 := aM_ (bT_ HZ3.out hb);clear hb))
  all_goals (try simp [Act.put])
  all_goals go_wp2_with (fail)
  all_goals go_meet
  all_goals (case rel => exact ⟨rfl,HZ4⟩)
 case rest =>
 obtain ⟨rfl,HZ⟩ := hcut
 have hk9 : KeepBut w8 wc g none := KeepBut.of_below HZ.out g none
 have HV9 := aM_ (HV8.out.keep hk9)
 have HI9 := aM_ (IsS65.below HI8.out HZ.out)
 have HB9 := aM_ (bT_ HB8.out HZ.out)
 have HC9 := aM_ (fun W h => HC8.out W (hk9.trans h (.inl rfl)))
 clear hk9 HZ HV8 HI8 HB8 HC8 KS HZ0 V1 V2 V3 V4
 go_wp2_with (fail)
 refine Accepts.region11 A0 A1 l0.length c0 l.length cc (w.heap.size + 1) b18 a1 k a3_0 a3_1 (na - u0) (nb + u1 * u2) (by kernel_rfl) g s7 W0 HI9.out HB9.out (HV9.out.lo 3 rfl) (HV9.out.hi 3 rfl) (HV9.out.lo 0 rfl) (HV9.out.hi 0 rfl) ?_
 intro u83 u84 u85 u86 u87 u88 u89 u90 u91 u92 u93 u94 b19 b20 b21 w10 hi hb hk n19 c19 n20 c20 n21 c21
 have HI10 := aM_ hi
 have HB10 := aM_ hb
 have HT : Aside0 (∀ i : Int,0 ≤ i → i < 3 → AccsAt g w w10 b19 b20 b21 i) := ⟨fun i i0 i1 => by
  have hcase : i = 0 ∨ i = 1 ∨ i = 2 := by omega
  rcases hcase with rfl | rfl | rfl
  ·exact ⟨l0,A0,c0,a1,_,_,fun W k => keep_cellb k n19 c19 rfl,fun W k => keep_cellb k n20 c20 rfl,fun W k => keep_cellb k n21 c21 rfl,fun W k => keep_cellb k n21 c21 rfl,fun W hb _ => Kd.C_below HR0.out hb,HC0.out,HL0.out⟩
  ·exact ⟨l,A1,cc,k,_,_,fun W k => keep_cellb k n19 c19 rfl,fun W k => keep_cellb k n20 c20 rfl,fun W k => keep_cellb k n21 c21 rfl,fun W k => keep_cellb k n21 c21 rfl,fun W _ h => HC9.out W (hk.trans h (.inl rfl)),HCL.out,by omega⟩
  ·exact ⟨l,A1,cc,k,_,_,fun W k => keep_cellb k n19 c19 rfl,fun W k => keep_cellb k n20 c20 rfl,fun W k => keep_cellb k n21 c21 rfl,fun W k => keep_cellb k n21 c21 rfl,fun W _ h => HC9.out W (hk.trans h (.inl rfl)),HCL.out,by omega⟩⟩
 clear hi hb hk n19 c19 n20 c20 n21 c21 HI9 HB9 HV9 HC9 HCL HR0 HL0
 go_wp2_with (fail)
 go_loopg [22] 3 (fun kx v22 wr => ∃ i : Int,v22 = .int .i64 i ∧ 0 ≤ i ∧ i ≤ 3 ∧ (3 - i).toNat ≤ kx ∧ Aside0 (IsS65 W0 wr g s7) ∧ Aside0 (Below W0.heap.size W0 wr) ∧ Aside0 (KeepBut w10 wr g none))
 case atStart => exact ⟨0,rfl,by omega,by omega,by omega,HI10,HB10,⟨KeepBut.refl _ _ _⟩⟩
 case round =>
  clear HI10 HB10
  obtain ⟨i,rfl,i0,i1,hkx,HI,HB,HK⟩ := hrel
  by_cases hlt : i < 3
  ·obtain ⟨lx,A,c,ax,y0,y1,q0,q1,q2,q3,qC,qc,qn⟩ := (HT.out i i0 hlt).keep HK.out
   have QC := aM_ (show ∀ W,Below W0.heap.size W0 W → KeepBut wr W g none → Kd.C k49 W A lx.length lx from fun W hb hk => qC W (bT_ HW0.out hb) hk)
   obtain ⟨ra,rb,re,hA⟩ : ∃ ra rb re,acceptAll lx ax y0 y1 = (ra,rb,re) := ⟨_,_,_,rfl⟩
   have T1 := aM_ (accept_any lx qn ax y0 y1)
   obtain ⟨kq,T2⟩ := (refAccept_ev lx qn ax y0 y1).rounds
   rw [hA] at T1 T2
   have T2 := aM_ T2
   have Q0 := aM_ q0
   have Q1 := aM_ q1
   have Q2 := aM_ q2
   have Q3 := aM_ q3
   clear hA q0 q1 q2 q3 qC qn
   go_wp2_with (fail)
   refine Accepts.region15 b19 b20 b21 i A c lx ax y0 y1 ra rb re (by kernel_rfl) g s7 W0 HI.out HB.out i0 hlt Q0.out Q1.out Q2.out Q3.out QC.out qc T1.out ?_
   intro u102 u103 u104 u105 u106 u107 u108 u109 u110 u111 u112 u113 u114 u101 u115 u116 b23 w11 hi hb hk n23 ge23 c23
   have HI11 := aM_ hi
   have HB11 := aM_ hb
   have HK11 := aM_ hk
   have HV11 := aM_ (Vars.cons n23 c23 (Vars.nil _ _))
   clear hi hb hk n23 ge23 c23
   go_wp2_with (fail)
   refine Accepts.region16 b19 b20 b21 i A c lx ax y0 y1 ra rb re kq (by kernel_rfl) g s7 W0 HI11.out HB11.out i0 hlt (fun W h => Q0.out W (HK11.out.trans h (.inl rfl))) (fun W h => Q1.out W (HK11.out.trans h (.inl rfl))) (fun W h => Q2.out W (HK11.out.trans h (.inl rfl))) (fun W h => Q3.out W (HK11.out.trans h (.inl rfl))) (fun W hb h => QC.out W hb (HK11.out.trans h (.inl rfl))) qc T2.out ?_
   intro u118 u119 u120 u121 u122 u123 u124 u125 u126 u127 u128 u129 u130 u117 u131 u132 b25 w12 hi hb hk n25 ge25 c25
   have HI12 := aM_ hi
   have HB12 := aM_ hb
   have HK12 := aM_ (HK.out.trans (HK11.out.trans hk (.inl rfl)) (.inl rfl))
   have HV12 := Vars.cons n25 c25 (HV11.out.keep hk)
   have z0 := HV12.lo 0 rfl w12 (KeepBut.refl _ _ _)
   have z1 := HV12.hi 0 rfl w12 (KeepBut.refl _ _ _)
   have z2 := HV12.lo 1 rfl w12 (KeepBut.refl _ _ _)
   have z3 := HV12.hi 1 rfl w12 (KeepBut.refl _ _ _)
   clear hi hb hk n25 ge25 c25 HI11 HB11 HK11 HV11 HV12 Q0 Q1 Q2 Q3 QC T1 T2 HI HB HK
   go_wp2_with (fail)
   go_roundg (3 - (i + 1)).toNat
   case measure => omega
   case rel => exact ⟨i + 1,rfl,by omega,by omega,Nat.le_refl _,HI12,HB12,HK12⟩
  ·go_wp2_with (fail)
   (with_reducible refine (AW.out _).mono ?_)
   rintro e w8 ⟨rfl,hb⟩
   have HB8 := aM_ (bT_ HW0.out (bT_ HB.out hb))
   go_wp2
   go_ret
   exact ⟨rfl,HB8.out⟩
end Go.Proofs.Ytdbpobadeibjaab.GS
