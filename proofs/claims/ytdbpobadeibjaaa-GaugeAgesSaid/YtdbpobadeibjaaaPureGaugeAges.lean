/- GaugeAges,its plain part: what the printed functions compute answers as the statement says,for every input;no condition beside the statement's own. -/
import Derived.Test.YtdbpobadeibjaaaGEx32
import Derived.Test.YtdbpobadeibjaaaGEx21
import Derived.Test.YtdbpobadeibjaaaGEx13
import Derived.Test.YtdbpobadeibjaaaGEx8
import Derived.Test.YtdbpobadeibjaaaGEx35
import Derived.Test.YtdbpobadeibjaaaGEx37
import Derived.Test.YtdbpobadeibjaaaGEx38
namespace Go.Proofs.Ytdbpobadeibjaaa.GE
open Go.RowKit Go.Proofs.YtdbpobadeibjaaaW.PrintWords Go.Proofs.YtdbpobadeibjaaaW.PrintLast
/-! ### shared -/
theorem le_fuel {α : Type} {f : Nat → Option α} (hm : ∀ k,LeO (f k) (f (k + 1))) {j : Nat} {r : α} (h : f j = some r) : ∀ k,j ≤ k → f k = some r := by
 intro k hk
 obtain ⟨d,rfl⟩ := Nat.exists_eq_add_of_le hk
 clear hk
 induction d with
 | zero => exact h
 | succ d ih => exact hm (j + d) r ih
theorem mod_some (a m : Int) (h0 : 1 ≤ m) (h1 : m ≤ 1000) : ∃ t,K_Mod.f a m = some t ∧ 0 ≤ t ∧ t < m := by
 unfold K_Mod.f
 have u := Int.tmod_lt_of_pos a (show 0 < m by omega)
 have l := Int.tmod_lt_of_pos (-a) (show 0 < m by omega)
 rw [Int.neg_tmod] at l
 rw [if_neg (by omega),if_neg (by omega)]
 by_cases c : Int.tmod a m < 0
 ·rw [if_pos c,wrap64_eq (by omega)]
  exact ⟨_,rfl,by omega,by omega⟩
 ·rw [if_neg c]
  exact ⟨_,rfl,by omega,u⟩
theorem awake_some (k : Nat) (h : 3 ≤ k) : L_awake.f k = some true := le_fuel (f := L_awake.f) (j := 3) (r := true) L_awake.mono L_awake.holds k h
/-! ### rounds enough -/
/-- With rounds enough the answer is r. -/
def Ev {α : Type} (g : Nat → Option α) (r : α) : Prop := ∃ K,∀ k,K ≤ k → g k = some r
theorem Ev.of {α : Type} {g : Nat → Option α} {r : α} (hg : ∀ k,LeO (g k) (g (k + 1))) {k : Nat} (h : g k = some r) : Ev g r := ⟨k,fun j hj => le_fuel hg h j hj⟩
theorem Ev.rounds {α : Type} {g : Nat → Option α} {r : α} (h : Ev g r) : ∃ k,g k = some r := by
 obtain ⟨K,hK⟩ := h
 exact ⟨K,hK K (Nat.le_refl _)⟩
theorem Ev.bind {α β : Type} {g : Nat → Option α} {f : Nat → α → Option β} {a : α} {r : β} (h : Ev g a) (k : Ev (fun n => f n a) r) : Ev (fun n => (g n).bind (f n)) r := by
 obtain ⟨K,hK⟩ := h
 obtain ⟨J,hJ⟩ := k
 refine ⟨max K J,fun n hn => ?_⟩
 show (g n).bind (f n) = some r
 rw [hK n (by omega)]
 exact hJ n (by omega)
theorem Ev.step {α : Type} {g f : Nat → Option α} {r : α} (h : ∀ k,g (k + 1) = f k) (k : Ev f r) : Ev g r := by
 obtain ⟨K,hK⟩ := k
 refine ⟨K + 1,fun n hn => ?_⟩
 obtain ⟨m,rfl⟩ : ∃ m,n = m + 1 := ⟨n - 1,by omega⟩
 rw [h m]
 exact hK m (by omega)
theorem Ev.congr {α : Type} {g f : Nat → Option α} {r : α} (h : ∀ k,g k = f k) (k : Ev f r) : Ev g r := by
 obtain ⟨K,hK⟩ := k
 exact ⟨K,fun n hn => (h n).trans (hK n hn)⟩
theorem Ev.pos {α : Type} {c : Prop} [Decidable c] {f g : Nat → Option α} {r : α} (h : c) (k : Ev f r) : Ev (fun n => if c then f n else g n) r := Ev.congr (fun _ => if_pos h) k
theorem Ev.neg {α : Type} {c : Prop} [Decidable c] {f g : Nat → Option α} {r : α} (h : ¬ c) (k : Ev g r) : Ev (fun n => if c then f n else g n) r := Ev.congr (fun _ => if_neg h) k
theorem Ev.call {α β : Type} {x : Option α} {a : α} {f : Nat → α → Option β} {r : β} (h : x = some a) (k : Ev (fun n => f n a) r) : Ev (fun n => x.bind (f n)) r := Ev.congr (fun n => by rw [h];rfl) k
theorem Ev.done {α : Type} {x : Option α} {r : α} (h : x = some r) : Ev (fun _ => x) r := ⟨0,fun _ _ => h⟩
theorem Ev.awake : Ev L_awake.f true := Ev.of L_awake.mono L_awake.holds
/-! ### benches that BenchOf makes -/
theorem MadeBench.ok {l : List S36} (h : MadeBench l) (h12 : l.length ≤ 12) : BenchOk l := by
 refine ⟨h12,fun x hx => ?_⟩
 obtain ⟨i,hi,rfl⟩ := List.getElem_of_mem hx
 have := h i hi
 unfold rd_T36 at this
 rw [Int.toNat_natCast,List.getD_eq_getElem?_getD,List.getElem?_eq_getElem hi,Option.getD_some] at this
 obtain ⟨a1,a2,a3,a4,a5,a6,a7,a8,a9,a10,a11,a12⟩ := this
 exact ⟨⟨a1,a2,a3,by omega,a5,by omega⟩,a7,by omega,by omega,by omega,a9,by omega⟩
theorem MadeBench.at {l : List S36} (h : MadeBench l) (m : Int) (h0 : 0 ≤ m) (h1 : m < l.length) : MeterIn m (rd_T36 l m) := by
 have := h m.toNat (by omega)
 rw [Int.toNat_of_nonneg h0] at this
 exact this
theorem rangeErr_ok {a b lo hi : Int} (h0 : lo ≤ a) (h1 : a ≤ b) (h2 : b ≤ hi) : rangeErr a b lo hi = 0 := by
 unfold rangeErr
 rw [if_neg (by omega),if_neg (by omega)]
theorem meterErr_ok {n : Int} {x : S36} (h : MeterOk n x) : meterErr n x = 0 := by
 obtain ⟨⟨a1,a2,a3,a4,a5,a6⟩,a7,a8,a9,a10,a11,a12⟩ := h
 have e : makingErr x.f0.f0 x.f0.f1 x.f1.f0 x.f1.f1 = 0 := by
  unfold makingErr
  rw [rangeErr_ok a1 a2 a3,rangeErr_ok a4 a5 a6]
  rfl
 unfold meterErr
 rw [e,if_neg (by decide),if_neg (by omega)]
theorem firstErr_ok {n : Int} : ∀ {l : List S36},(∀ x ∈ l,MeterOk n x) → firstErr n l = 0
 | [],_ => rfl
 | x :: l,h => by
  unfold firstErr
  rw [meterErr_ok (h x (by simp)),if_neg (by decide)]
  exact firstErr_ok fun y hy => h y (by simp [hy])
/-- By is below the meter's own number: chains end. -/
def Down_ (l : List S36) : Prop := ∀ m : Int,0 ≤ m → m < l.length → -1 ≤ (rd_T36 l m).f3 ∧ (rd_T36 l m).f3 < m
theorem MadeBench.down {l : List S36} (h : MadeBench l) : Down_ l := fun m h0 h1 => by
 obtain ⟨_,_,_,_,_,_,_,_,a9,a10,_,_⟩ := h.at m h0 h1
 exact ⟨a9,a10⟩
theorem chainGo_neg (l : List S36) (n : Nat) (m : Int) (h : m < 0) : chainGo l n m = [] := by
 cases n with
 | zero => rfl
 | succ n => rw [chainGo,if_pos h]
theorem chainGo_ends {l : List S36} (hd : Down_ l) : ∀ (n : Nat) (m : Int) (d : Int),0 ≤ m → m < l.length → m < n → (rd_T36 l ((chainGo l n m).getLastD d)).f3 = -1 := by
 intro n
 induction n with
 | zero => intro m d h0 _ h2;omega
 | succ n ih =>
  intro m d h0 h1 h2
  rw [chainGo,if_neg (by omega),List.getLastD_cons]
  obtain ⟨b0,b1⟩ := hd m h0 h1
  by_cases hb : (rd_T36 l m).f3 < 0
  ·rw [chainGo_neg l n _ hb]
   show (rd_T36 l m).f3 = -1
   omega
  ·exact ih _ m (by omega) (by omega) (by omega)
theorem chainGo_more {l : List S36} (hd : Down_ l) : ∀ (n k : Nat) (m : Int),m < l.length → m < n → m < k → chainGo l n m = chainGo l k m := by
 intro n
 induction n with
 | zero => intro k m _ h1 _;rw [chainGo_neg l _ m (by omega),chainGo_neg l _ m (by omega)]
 | succ n ih =>
  intro k m h0 h1 h2
  by_cases hm : m < 0
  ·rw [chainGo_neg l _ m hm,chainGo_neg l _ m hm]
  ·obtain ⟨k,rfl⟩ : ∃ j,k = j + 1 := ⟨k - 1,by omega⟩
   obtain ⟨b0,b1⟩ := hd m (by omega) h0
   rw [chainGo,chainGo,if_neg hm,if_neg hm,ih k _ (by omega) (by omega) (by omega)]
theorem looseFrom_ok {l : List S36} (h : ∀ i : Nat,i < l.length → endsP l i) : ∀ n i : Nat,i + n = l.length → looseFrom l n i = 0
 | 0,_,_ => rfl
 | n + 1,i,hi => by
  unfold looseFrom
  rw [if_pos (h i (by omega))]
  exact looseFrom_ok h n (i + 1) (by omega)
theorem checkP_ok {l : List S36} (h : BenchOk l) (hd : Down_ l) : checkP l = 0 := by
 unfold checkP
 rw [if_neg (by have := h.1;omega),firstErr_ok h.2,if_neg (by decide)]
 refine looseFrom_ok (fun i hi => ?_) _ 0 (by omega)
 unfold endsP chainL
 exact chainGo_ends hd _ _ _ (by omega) (by omega) (by omega)
theorem true_eq {l : List S36} (h : BenchOk l) (hc : checkP l = 0) {m n : Int} (m0 : 0 ≤ m) (m1 : m < l.length) (n0 : -1000000000 ≤ n) (n1 : n ≤ 1000000000) (hs : Int.tmod n (rd_T36 l m).f2 = 0) :
  gauge_True.f l m n = some (if (sourceP l m n).2.2 = true then ((sourceP l m n).1,(sourceP l m n).2.1,0) else (0,0,12)) := by
 obtain ⟨_,a7,_⟩ := h.at m m0 m1
 have h12 := h.1
 unfold gauge_True.f gauge_Check.f
 simp only [Option.bind_some]
 rw [if_pos hc,wrap64_eq (by omega),outside_false ⟨m0,by omega⟩]
 simp only [Option.bind_some]
 rw [if_neg (by decide),outside_false ⟨n0,n1⟩]
 simp only [Option.bind_some]
 rw [if_neg (by decide),if_pos m0,if_pos m1,if_neg (by omega),if_pos hs]
 unfold gauge_source.f
 rw [if_pos ⟨h,m0,m1,n0,n1⟩]
 simp only [Option.bind_some]
 split <;> rfl
/-! ### the reference's chain -/
theorem refChain_l {l : List S36} (hd : Down_ l) (h12 : l.length ≤ 12) : ∀ (d : Nat) (m : Int) (pre : List Int),m < l.length → m + 1 ≤ d → (pre.length : Int) + m + 1 ≤ l.length → -1 ≤ m →
  Ev (fun k => R_chain.l0 k l m pre) (pre ++ chainGo l d m,true) := by
 intro d
 induction d with
 | zero =>
  intro m pre h0 h1 h2 h3
  refine Ev.step (fun k => by rw [R_chain.l0]) ?_
  refine Ev.neg (by omega) (Ev.done ?_)
  rw [chainGo_neg l _ m (by omega),List.append_nil,decide_eq_true (by omega)]
 | succ d ih =>
  intro m pre h0 h1 h2 h3
  refine Ev.step (fun k => by rw [R_chain.l0]) ?_
  by_cases hm : m < 0
  ·refine Ev.neg (by omega) (Ev.done ?_)
   rw [chainGo_neg l _ m hm,List.append_nil,decide_eq_true hm]
  ·obtain ⟨b0,b1⟩ := hd m (by omega) h0
   refine Ev.pos (by omega) (Ev.pos (by omega) (Ev.pos (by omega) (Ev.pos (by omega) (Ev.pos h0 ?_))))
   have := ih (rd_T36 l m).f3 (pre ++ [m]) (by omega) (by omega) (by simp;omega) (by omega)
   rw [List.append_assoc] at this
   rw [chainGo,if_neg hm]
   exact this
theorem refChain_ev {l : List S36} (hd : Down_ l) (h12 : l.length ≤ 12) (m : Int) (m1 : m < l.length) (m0 : -1 ≤ m) : Ev (fun k => R_chain.f k l m) (chainL l m,true) := by
 have := refChain_l hd h12 l.length m [] m1 (by omega) (by simp;omega) m0
 rw [List.nil_append] at this
 exact this
theorem beyond_true {n lo hi : Int} (h : n < lo ∨ n > hi) : R_beyond.f n lo hi = some true := by
 unfold R_beyond.f
 by_cases c : n < lo
 ·rw [if_pos c]
 ·rw [if_neg c,decide_eq_true (by omega)]
theorem beyond_false {n lo hi : Int} (h : lo ≤ n ∧ n ≤ hi) : R_beyond.f n lo hi = some false := by
 unfold R_beyond.f
 rw [if_neg (by omega),decide_eq_false (by omega)]
/-! ### the reference's Check,of any bench -/
def afterGo (l : List S36) : Nat → Int → Int
 | 0,m => m
 | k + 1,m => if m < 0 then m else afterGo l k (rd_T36 l m).f3
theorem afterGo_neg (l : List S36) (k : Nat) (m : Int) (h : m < 0) : afterGo l k m = m := by
 cases k with
 | zero => rfl
 | succ k => rw [afterGo,if_pos h]
theorem afterGo_mono (l : List S36) : ∀ (k : Nat) (m : Int),afterGo l k m < 0 → ∀ j,k ≤ j → afterGo l j m < 0 := by
 intro k
 induction k with
 | zero => intro m h j _;rw [afterGo_neg l j m h];exact h
 | succ k ih =>
  intro m h j hj
  obtain ⟨j,rfl⟩ : ∃ i,j = i + 1 := ⟨j - 1,by omega⟩
  rw [afterGo] at h ⊢
  by_cases hm : m < 0
  ·rw [if_pos hm];exact hm
  ·rw [if_neg hm] at h ⊢
   exact ih _ h j (by omega)
theorem bound_nodup : ∀ (n : Nat) (c : List Int),c.Nodup → (∀ x ∈ c,0 ≤ x ∧ x < n) → c.length ≤ n := by
 intro n
 induction n with
 | zero =>
  intro c _ h
  cases c with
  | nil => exact Nat.le_refl _
  | cons x c => have := h x (by simp);omega
 | succ n ih =>
  intro c hn h
  by_cases hm : (n : Int) ∈ c
  ·have h1 := ih (c.erase (n : Int)) (hn.erase _) (fun x hx => by
    rw [hn.mem_erase_iff] at hx
    have := h x hx.2
    have := hx.1
    omega)
   rw [List.length_erase_of_mem hm] at h1
   omega
  ·have := ih c hn (fun x hx => by
    have := h x hx
    have : x ≠ n := fun e => hm (e ▸ hx)
    omega)
   omega
theorem depth_list {l : List S36} (hb : ∀ m : Int,0 ≤ m → m < l.length → (rd_T36 l m).f3 < l.length) : ∀ (d : Nat) (m : Int),m < l.length → afterGo l d m < 0 → (∀ j,j < d → ¬ afterGo l j m < 0) →
  ∃ c : List Int,c.length = d ∧ c.Nodup ∧ ∀ x ∈ c,(0 ≤ x ∧ x < l.length) ∧ afterGo l d x < 0 := by
 intro d
 induction d with
 | zero => intro m _ _ _;exact ⟨[],rfl,List.nodup_nil,fun x hx => by cases hx⟩
 | succ d ih =>
  intro m hm h hj
  have m0 : ¬ m < 0 := hj 0 (by omega)
  have h' := h
  rw [afterGo,if_neg m0] at h
  obtain ⟨c,hc,hn,hx⟩ := ih (rd_T36 l m).f3 (hb m (by omega) hm) h (fun j hjd => by
   have := hj (j + 1) (by omega)
   rw [afterGo,if_neg m0] at this
   exact this)
  refine ⟨m :: c,by simp [hc],List.nodup_cons.2 ⟨fun hmc => hj d (by omega) (hx m hmc).2,hn⟩,fun x hxm => ?_⟩
  rcases List.mem_cons.1 hxm with rfl | hxc
  ·exact ⟨⟨by omega,hm⟩,h'⟩
  ·exact ⟨(hx x hxc).1,afterGo_mono l d x (hx x hxc).2 _ (by omega)⟩
theorem afterGo_enough {l : List S36} (hb : ∀ m : Int,0 ≤ m → m < l.length → (rd_T36 l m).f3 < l.length) (m : Int) (hm : m < l.length) : ∀ k : Nat,afterGo l k m < 0 → afterGo l l.length m < 0 := by
 intro k
 induction k using Nat.strongRecOn with
 | _ k ih =>
  intro h
  by_cases hex : ∃ j,j < k ∧ afterGo l j m < 0
  ·obtain ⟨j,hj,h'⟩ := hex
   exact ih j hj h'
  ·obtain ⟨c,hc,hn,hx⟩ := depth_list hb k m hm h (fun j hj h' => hex ⟨j,hj,h'⟩)
   have := bound_nodup l.length c hn (fun x hxc => (hx x hxc).1)
   exact afterGo_mono l k m h _ (by omega)
theorem last_after {l : List S36} : ∀ (n : Nat) (m d : Int),0 ≤ m → ((rd_T36 l ((chainGo l (n + 1) m).getLastD d)).f3 < 0 ↔ afterGo l (n + 1) m < 0) := by
 intro n
 induction n with
 | zero =>
  intro m d h0
  rw [chainGo,if_neg (by omega),afterGo,if_neg (by omega)]
  exact Iff.rfl
 | succ n ih =>
  intro m d h0
  rw [chainGo,if_neg (by omega),afterGo,if_neg (by omega),List.getLastD_cons]
  by_cases hb : (rd_T36 l m).f3 < 0
  ·rw [chainGo_neg l _ _ hb,afterGo_neg l _ _ hb]
   exact Iff.rfl
  ·exact ih _ _ (by omega)
theorem endsP_after {l : List S36} (hb : ∀ m : Int,0 ≤ m → m < l.length → -1 ≤ (rd_T36 l m).f3 ∧ (rd_T36 l m).f3 < l.length) (i : Int) (h0 : 0 ≤ i) (h1 : i < l.length) : endsP l i ↔ afterGo l (l.length + 1) i < 0 := by
 have e : endsP l i ↔ (rd_T36 l ((chainL l i).getLastD i)).f3 < 0 := by
  unfold endsP
  have hmem : 0 ≤ (chainL l i).getLastD i ∧ (chainL l i).getLastD i < l.length := by
   have hall : ∀ x ∈ i :: chainL l i,0 ≤ x ∧ x < (l.length : Int) := by
    intro x hx
    rcases List.mem_cons.1 hx with rfl | hx
    ·exact ⟨h0,h1⟩
    ·have go : ∀ (n : Nat) (m : Int),m < l.length → ∀ x ∈ chainGo l n m,0 ≤ x ∧ x < (l.length : Int) := by
      intro n
      induction n with
      | zero => intro m _ x hx;cases hx
      | succ n ih =>
       intro m hm x hx
       rw [chainGo] at hx
       split at hx
       ·cases hx
       ·rcases List.mem_cons.1 hx with rfl | hx
        ·exact ⟨by omega,hm⟩
        ·exact ih _ (hb m (by omega) hm).2 x hx
     exact go _ _ h1 x hx
   exact hall _ (getLastD_mem i (chainL l i))
  have := hb _ hmem.1 hmem.2
  omega
 rw [e]
 unfold chainL
 obtain ⟨n,hn⟩ : ∃ n,l.length = n + 1 := ⟨l.length - 1,by omega⟩
 have h2 := last_after (l := l) n i i h0
 rw [← hn] at h2
 rw [h2]
 exact ⟨fun h => afterGo_mono l _ _ h _ (by omega),afterGo_enough (fun m a b => (hb m a b).2) i h1 _⟩
theorem refChain_any {l : List S36} (hb : ∀ m : Int,0 ≤ m → m < l.length → -1 ≤ (rd_T36 l m).f3 ∧ (rd_T36 l m).f3 < l.length) (h20 : l.length ≤ 20) : ∀ (d : Nat) (m : Int) (pre : List Int),m < l.length → pre.length + d = l.length + 1 →
  ∃ c,Ev (fun k => R_chain.l0 k l m pre) (c,decide (afterGo l d m < 0)) := by
 intro d
 induction d with
 | zero =>
  intro m pre h0 h1
  by_cases hm : m < 0
  ·refine ⟨pre,Ev.step (fun k => by rw [R_chain.l0]) ?_⟩
   exact Ev.neg (by omega) (Ev.done (by rw [afterGo]))
  ·refine ⟨pre,Ev.step (fun k => by rw [R_chain.l0]) ?_⟩
   exact Ev.pos (by omega) (Ev.neg (by omega) (Ev.done (by rw [afterGo])))
 | succ d ih =>
  intro m pre h0 h1
  by_cases hm : m < 0
  ·refine ⟨pre,Ev.step (fun k => by rw [R_chain.l0]) ?_⟩
   exact Ev.neg (by omega) (Ev.done (by rw [afterGo,if_pos hm]))
  ·obtain ⟨b0,b1⟩ := hb m (by omega) h0
   obtain ⟨c,hc⟩ := ih (rd_T36 l m).f3 (pre ++ [m]) b1 (by simp;omega)
   refine ⟨c,Ev.step (fun k => by rw [R_chain.l0]) ?_⟩
   rw [afterGo,if_neg hm]
   exact Ev.pos (by omega) (Ev.pos (by omega) (Ev.pos (by omega) (Ev.pos (by omega) (Ev.pos h0 hc))))
theorem refRange_ev (a b lo hi : Int) : Ev (fun k => R_checkRange.f k a b lo hi) (rangeErr a b lo hi) := by
 unfold R_checkRange.f rangeErr
 by_cases h1 : lo ≤ a ∧ a ≤ hi
 ·refine Ev.call (beyond_false h1) (Ev.neg (by decide) ?_)
  by_cases h2 : lo ≤ b ∧ b ≤ hi
  ·refine Ev.call (beyond_false h2) ?_
   rw [if_neg (by omega)]
   refine Ev.step (fun k => by rw [R_checkRange.j0]) (Ev.neg (by decide) ?_)
   by_cases h3 : a > b
   ·exact Ev.pos h3 (Ev.done (by rw [if_pos h3]))
   ·exact Ev.neg h3 (Ev.done (by rw [if_neg h3]))
  ·refine Ev.call (beyond_true (by omega)) ?_
   rw [if_pos (by omega)]
   exact Ev.step (fun k => by rw [R_checkRange.j0]) (Ev.pos rfl (Ev.done rfl))
 ·refine Ev.call (beyond_true (by omega)) (Ev.pos rfl ?_)
  rw [if_pos (by omega)]
  exact Ev.step (fun k => by rw [R_checkRange.j0]) (Ev.pos rfl (Ev.done rfl))
theorem refMaking_ev (a b c d e f g : Int) : Ev (fun k => R_checkMaking.f k a b c d e f g) (makingErr a b c d) := by
 unfold R_checkMaking.f makingErr
 refine Ev.bind (refRange_ev a b 500000 2000000) ?_
 by_cases h : rangeErr a b 500000 2000000 = 0
 ·rw [if_neg (by omega)]
  exact Ev.pos h (Ev.bind (refRange_ev c d (-1000000) 1000000) (Ev.done rfl))
 ·rw [if_pos h]
  exact Ev.neg h (Ev.done rfl)
theorem firstErr_drop (n : Int) (l : List S36) (k : Nat) (h : k < l.length) : firstErr n (l.drop k) = if meterErr n (rd_T36 l k) ≠ 0 then meterErr n (rd_T36 l k) else firstErr n (l.drop (k + 1)) := by
 rw [drop_at l k h,firstErr]
theorem refCheck_ev (l : List S36) (h20 : l.length ≤ 20) : Ev (fun k => R_Check.f k l) (checkP l) := by
 unfold R_Check.f checkP
 by_cases h12 : 12 < l.length
 ·rw [if_pos h12]
  exact Ev.pos (by omega) (Ev.done rfl)
 rw [if_neg h12]
 refine Ev.neg (by omega) ?_
 have loose : (∀ x ∈ l,MeterOk l.length x) → ∀ (d i : Nat),i + d = l.length → Ev (fun k => R_Check.l1 k l i) (looseFrom l d i) := by
  intro hok d
  have hb : ∀ m : Int,0 ≤ m → m < l.length → -1 ≤ (rd_T36 l m).f3 ∧ (rd_T36 l m).f3 < l.length := fun m m0 m1 => by
   obtain ⟨_,_,_,_,_,a11,a12⟩ := BenchOk.at ⟨by omega,hok⟩ m m0 m1
   exact ⟨a11,a12⟩
  induction d with
  | zero =>
   intro i hi
   refine Ev.step (fun k => by rw [R_Check.l1]) ?_
   exact Ev.neg (by omega) (Ev.done rfl)
  | succ d ih =>
   intro i hi
   refine Ev.step (fun k => by rw [R_Check.l1]) (Ev.pos (by omega) ?_)
   obtain ⟨c,hc⟩ := refChain_any hb h20 (l.length + 1) i [] (by omega) (by simp)
   have hc' : Ev (fun k => R_chain.f k l i) (c,decide (afterGo l (l.length + 1) i < 0)) := hc
   refine Ev.bind hc' ?_
   have he := endsP_after hb i (by omega) (by omega)
   rw [looseFrom]
   by_cases h : endsP l i
   ·rw [if_pos h,decide_eq_true (he.1 h)]
    refine Ev.pos rfl ?_
    rw [wrap64_eq (by omega)]
    exact ih (i + 1) (by omega)
   ·rw [if_neg h,decide_eq_false (fun h' => h (he.2 h'))]
    exact Ev.neg (by simp) (Ev.done rfl)
 have go : ∀ (d i : Nat),i + d = l.length → (∀ j,j < i → meterErr l.length (rd_T36 l j) = 0) → Ev (fun k => R_Check.l0 k l i) (if firstErr l.length (l.drop i) ≠ 0 then firstErr l.length (l.drop i) else looseFrom l l.length 0) := by
  intro d
  induction d with
  | zero =>
   intro i hi hall
   refine Ev.step (fun k => by rw [R_Check.l0]) (Ev.neg (by omega) ?_)
   rw [List.drop_of_length_le (by omega)]
   rw [if_neg (by simp [firstErr])]
   have hok : ∀ x ∈ l,MeterOk l.length x := fun x hx => by
    obtain ⟨j,hj,rfl⟩ := List.getElem_of_mem hx
    have := meterErr_zero (hall j (by omega))
    unfold rd_T36 at this
    rw [Int.toNat_natCast,List.getD_eq_getElem?_getD,List.getElem?_eq_getElem hj] at this
    exact this
   exact loose hok l.length 0 (by omega)
  | succ d ih =>
   intro i hi hall
   refine Ev.step (fun k => by rw [R_Check.l0]) (Ev.pos (by omega) (Ev.pos (by omega) ?_))
   rw [firstErr_drop _ l i (by omega),wrap64_eq (n := (l.length : Int) - 1) (by omega),wrap64_eq (n := (i : Int) + 1) (by omega)]
   refine Ev.bind (refMaking_ev _ _ _ _ _ _ _) ?_
   obtain ⟨x,hx⟩ : ∃ x,x = rd_T36 l i := ⟨_,rfl⟩
   rw [← hx]
   have hnext : meterErr l.length x = 0 → Ev (fun k => R_Check.l0 k l ((i : Int) + 1)) (if firstErr l.length (l.drop (i + 1)) ≠ 0 then firstErr l.length (l.drop (i + 1)) else looseFrom l l.length 0) := fun h0 => ih (i + 1) (by omega) (fun j hj => by
    by_cases e : j = i
    ·subst e;rw [← hx];exact h0
    ·exact hall j (by omega))
   by_cases h1 : makingErr x.f0.f0 x.f0.f1 x.f1.f0 x.f1.f1 = 0
   ·refine Ev.pos h1 ?_
    have e : meterErr l.length x = if x.f2 < 1 ∨ x.f2 > 1000000 ∨ x.f4 < 0 ∨ x.f4 > 1000000000 ∨ x.f3 < -1 ∨ x.f3 > (l.length : Int) - 1 then 2 else 0 := by unfold meterErr;rw [if_neg (by omega)]
    by_cases h2 : 1 ≤ x.f2 ∧ x.f2 ≤ 1000000
    ·refine Ev.call (beyond_false h2) (Ev.neg (by decide) ?_)
     by_cases h3 : 0 ≤ x.f4 ∧ x.f4 ≤ 1000000000
     ·refine Ev.call (beyond_false h3) (Ev.neg (by decide) ?_)
      by_cases h4 : -1 ≤ x.f3 ∧ x.f3 ≤ (l.length : Int) - 1
      ·refine Ev.call (beyond_false h4) (Ev.neg (by decide) ?_)
       rw [if_neg (by omega)] at e
       have h5 : ¬ (if meterErr l.length x ≠ 0 then meterErr l.length x else firstErr l.length (l.drop (i + 1))) ≠ (if meterErr l.length x ≠ 0 then meterErr l.length x else firstErr l.length (l.drop (i + 1))) := by simp
       simp only [e,ne_eq,not_true_eq_false,if_false]
       exact hnext e
      ·rw [if_pos (by omega)] at e
       refine Ev.call (beyond_true (by omega)) (Ev.pos rfl (Ev.done ?_))
       simp [e]
     ·rw [if_pos (by omega)] at e
      refine Ev.call (beyond_true (by omega)) (Ev.pos rfl (Ev.done ?_))
      simp [e]
    ·rw [if_pos (by omega)] at e
     refine Ev.call (beyond_true (by omega)) (Ev.pos rfl (Ev.done ?_))
     simp [e]
   ·refine Ev.neg h1 (Ev.done ?_)
    have e : meterErr l.length x = makingErr x.f0.f0 x.f0.f1 x.f1.f0 x.f1.f1 := by unfold meterErr;rw [if_pos h1]
    rw [e]
    simp [h1]
 have := go l.length 0 (by omega) (fun j hj => by omega)
 rw [List.drop_zero] at this
 exact this
/-! ### what a meter may show -/
def hiK (l : List S36) (k x : Int) : Int := hiEnd (rd_T36 l k).f0.f0 (rd_T36 l k).f0.f1 (rd_T36 l k).f1.f1 x
def loK (l : List S36) (k x : Int) : Int := loEnd (rd_T36 l k).f0.f0 (rd_T36 l k).f0.f1 (rd_T36 l k).f1.f0 x
/-- The first meter of a chain may make y of a value x. -/
def SeenBy (l : List S36) : List Int → Int → Int → Prop
 | [],x,y => y = x
 | k :: c,x,y => ∃ z,SeenBy l c x z ∧ loK l k z ≤ y ∧ y ≤ hiK l k z
theorem seen_source {l : List S36} (hb : BenchOk l) : ∀ (c : List Int) (x y : Int) (s : Int × Int × Bool),(∀ k ∈ c,0 ≤ k ∧ k < (l.length : Int)) → SeenBy l c x y → s.1 ≤ y → y ≤ s.2.1 → s.2.2 = true →
  (srcFold l c s).1 ≤ x ∧ x ≤ (srcFold l c s).2.1 ∧ (srcFold l c s).2.2 = true := by
 intro c
 induction c with
 | nil => intro x y s _ h h1 h2 h3;cases h;exact ⟨h1,h2,h3⟩
 | cons k c ih =>
  intro x y s hc h h1 h2 h3
  obtain ⟨z,hz,z0,z1⟩ := h
  obtain ⟨k0,k1⟩ := hc k (by simp)
  obtain ⟨hm,_⟩ := hb.at k k0 k1
  unfold loK at z0
  unfold hiK at z1
  have a1 := (backLo_iff hm s.1 z).1 (by omega)
  have a2 : ¬ (backHi (rd_T36 l k).f0.f0 (rd_T36 l k).f0.f1 (rd_T36 l k).f1.f0 s.2.1 + 1 ≤ z) := fun h => by
   have := (backHi_iff hm s.2.1 z).2 h
   omega
  refine ih x z (srcStep l s k) (fun q hq => hc q (by simp [hq])) hz a1 ?_ ?_
  ·show z ≤ backHi (rd_T36 l k).f0.f0 (rd_T36 l k).f0.f1 (rd_T36 l k).f1.f0 s.2.1
   omega
  ·show (s.2.2 && decide (backLo _ _ _ s.1 ≤ backHi _ _ _ s.2.1)) = true
   rw [h3,decide_eq_true (by omega)]
   rfl
theorem refDown_eq {n d : Int} (hd : 0 < d) (h : -9223372036854775808 ≤ n ∧ n ≤ 9223372036854775807) : R_Down.f n d = some (n / d) := by
 have e := tdown (n := n) hd
 have b := tdiv_bound hd h
 unfold R_Down.f
 rw [if_neg (by omega)]
 by_cases c : Int.tmod n d < 0
 ·rw [if_pos c] at e ⊢
  rw [wrap64_eq (n := Int.tdiv n d) ⟨b.1,b.2.1⟩,wrap64_eq ⟨b.2.2 c,by omega⟩,e]
 ·rw [if_neg c] at e ⊢
  rw [wrap64_eq ⟨b.1,b.2.1⟩,e]
theorem refMade_eq {a0 a1 a2 a3 : Int} (a4 a5 a6 : Int) {x : Int} (h : meterOk a0 a1 a2 a3) (x0 : -4398046511104 ≤ x) (x1 : x ≤ 4398046511104) : R_Made.f a0 a1 a2 a3 a4 a5 a6 x = some (loEnd a0 a1 a2 x,hiEnd a0 a1 a3 x) := by
 obtain ⟨g0,g1,g2,o0,o1,o2⟩ := h
 have m0 := mul_within x0 x1 (show 0 ≤ a0 by omega) (show a0 ≤ 2000000 by omega) (by omega)
 have m1 := mul_within x0 x1 (show 0 ≤ a1 by omega) (show a1 ≤ 2000000 by omega) (by omega)
 unfold R_Made.f R_Up.f loEnd hiEnd
 by_cases hx : x < 0
 ·have hle : x * a1 ≤ x * a0 := Int.mul_le_mul_of_nonpos_left (show x ≤ 0 by omega) g1
  rw [if_pos hx,wrap64_eq (n := x * a1) (by omega),wrap64_eq (n := x * a0) (by omega),wrap64_eq (n := -(x * a0)) (by omega),refDown_eq (by omega) (by omega),refDown_eq (by omega) (by omega)]
  simp only [Option.bind_some]
  rw [wrap64_eq (n := -(-(x * a0) / 1000000)) (by omega),wrap64_eq (n := x * a1 / 1000000 + a2) (by omega),wrap64_eq (by omega),Int.min_eq_right hle,Int.max_eq_left hle]
 ·have hle : x * a0 ≤ x * a1 := Int.mul_le_mul_of_nonneg_left g1 (by omega)
  rw [if_neg hx,wrap64_eq (n := x * a0) (by omega),wrap64_eq (n := x * a1) (by omega),wrap64_eq (n := -(x * a1)) (by omega),refDown_eq (by omega) (by omega),refDown_eq (by omega) (by omega)]
  simp only [Option.bind_some]
  rw [wrap64_eq (n := -(-(x * a1) / 1000000)) (by omega),wrap64_eq (n := x * a0 / 1000000 + a2) (by omega),wrap64_eq (by omega),Int.min_eq_left hle,Int.max_eq_right hle]
theorem ends_bound {a0 a1 a2 a3 x B : Int} (h : meterOk a0 a1 a2 a3) (x0 : -B ≤ x) (x1 : x ≤ B) : -(2 * B + 1000001) ≤ loEnd a0 a1 a2 x ∧ loEnd a0 a1 a2 x ≤ hiEnd a0 a1 a3 x ∧ hiEnd a0 a1 a3 x ≤ 2 * B + 1000001 := by
 obtain ⟨g0,g1,g2,o0,o1,o2⟩ := h
 have m0 := mul_within x0 x1 (show 0 ≤ a0 by omega) (show a0 ≤ 2000000 by omega) (by omega)
 have m1 := mul_within x0 x1 (show 0 ≤ a1 by omega) (show a1 ≤ 2000000 by omega) (by omega)
 unfold loEnd hiEnd
 omega
/-- How far a value may be seen after n meters. -/
def seenBd (B : Int) : Nat → Int
 | 0 => B
 | n + 1 => 2 * seenBd B n + 1000001
theorem seenBd_mono {B : Int} (h : 0 ≤ B) : ∀ n k : Nat,n ≤ k → 0 ≤ seenBd B n ∧ seenBd B n ≤ seenBd B k := by
 intro n k hk
 have pos : ∀ n,0 ≤ seenBd B n := by
  intro n
  induction n with
  | zero => exact h
  | succ n ih => unfold seenBd;omega
 obtain ⟨d,rfl⟩ := Nat.exists_eq_add_of_le hk
 clear hk
 refine ⟨pos n,?_⟩
 induction d with
 | zero => exact Int.le_refl _
 | succ d ih =>
  have := pos (n + d)
  show seenBd B n ≤ 2 * seenBd B (n + d) + 1000001
  omega
theorem one_some (s : Int) : ∃ b s',D_One.f s 2 = some (b,s') := by
 obtain ⟨v,s',e,_,_⟩ := upto_some s 2 (by omega) (by omega)
 unfold D_One.f
 rw [e]
 exact ⟨_,_,rfl⟩
theorem showing_l {l : List S36} (hb : BenchOk l) {m x : Int} (m0 : 0 ≤ m) (m1 : m < l.length) (hst : 1 ≤ (rd_T36 l m).f2 ∧ (rd_T36 l m).f2 ≤ 1000) (c : List Int) (hcl : c.length ≤ 12) (hc : ∀ k ∈ c,0 ≤ k ∧ k < (l.length : Int)) (st : Int) (st0 : 0 ≤ st) (st1 : st < 3) (B : Int) (B0 : 0 ≤ B) (hB : seenBd B c.length ≤ 1000000000000) :
  ∀ (j : Nat) (z s : Int),j ≤ c.length → SeenBy l (c.drop j) x z → -(seenBd B (c.length - j)) ≤ z → z ≤ seenBd B (c.length - j) →
  ∃ n s' y,Ev (fun k => K_Showing.l0 k l m z c st ((j : Int) - 1) s) (n,s') ∧ SeenBy l c x y ∧ -(seenBd B c.length) ≤ y ∧ y ≤ seenBd B c.length ∧ Int.tmod n (rd_T36 l m).f2 = 0 ∧ 2 * (n - y) ≤ (rd_T36 l m).f2 ∧ 2 * (y - n) ≤ (rd_T36 l m).f2 := by
 intro j
 induction j with
 | zero =>
  intro z s _ hz z0 z1
  rw [Nat.sub_zero] at z0 z1
  rw [List.drop_zero] at hz
  obtain ⟨d,hd⟩ : ∃ d,d = (rd_T36 l m).f2 := ⟨_,rfl⟩
  rw [← hd] at hst ⊢
  have dm := Int.mul_ediv_add_emod z d
  have e0 := Int.emod_nonneg z (show d ≠ 0 by omega)
  have e1 := Int.emod_lt_of_pos z (show 0 < d by omega)
  rw [Int.mul_comm] at dm
  obtain ⟨q,hq⟩ : ∃ q,q = z / d * d := ⟨_,rfl⟩
  have tm0 : Int.tmod q d = 0 := by rw [hq];exact Int.mul_tmod_left _ _
  have tm1 : Int.tmod (q + d) d = 0 := by
   rw [hq,show z / d * d + d = (z / d + 1) * d by rw [Int.add_mul,Int.one_mul]]
   exact Int.mul_tmod_left _ _
  have step : ∀ {n s'},Ev (fun k => if (2 * (z - q)) > d then some (q + d,s) else if 2 * (z - q) = d then (D_One.f s 2).bind fun bt => (if bt.1 = true then some (q + d,bt.2) else some (q,bt.2)) else some (q,s)) (n,s') →
    Ev (fun k => K_Showing.l0 k l m z c st (((0 : Nat) : Int) - 1) s) (n,s') := by
   intro n s' h
   refine Ev.step (fun k => by rw [K_Showing.l0]) ?_
   refine Ev.neg (by omega) (Ev.pos m0 (Ev.pos m1 ?_))
   rw [← hd]
   refine Ev.call (refDown_eq (by omega) (by omega)) ?_
   rw [← hq,wrap64_eq (n := q) (by omega),wrap64_eq (n := z - q) (by omega),wrap64_eq (n := 2 * (z - q)) (by omega),wrap64_eq (n := q + d) (by omega)]
   exact h
  by_cases h1 : 2 * (z - q) > d
  ·exact ⟨q + d,s,z,step (Ev.pos h1 (Ev.done rfl)),hz,z0,z1,tm1,by omega,by omega⟩
  ·by_cases h2 : 2 * (z - q) = d
   ·obtain ⟨b,s1,e⟩ := one_some s
    cases b with
    | true => exact ⟨q + d,s1,z,step (Ev.neg h1 (Ev.pos h2 (Ev.call e (Ev.pos rfl (Ev.done rfl))))),hz,z0,z1,tm1,by omega,by omega⟩
    | false => exact ⟨q,s1,z,step (Ev.neg h1 (Ev.pos h2 (Ev.call e (Ev.neg (by simp) (Ev.done rfl))))),hz,z0,z1,tm0,by omega,by omega⟩
   ·exact ⟨q,s,z,step (Ev.neg h1 (Ev.neg h2 (Ev.done rfl))),hz,z0,z1,tm0,by omega,by omega⟩
 | succ j ih =>
  intro z s hj hz z0 z1
  obtain ⟨k,hk⟩ : ∃ k,k = rd c j := ⟨_,rfl⟩
  have hkc : c.drop j = k :: c.drop (j + 1) := by
   rw [List.drop_eq_getElem_cons (by omega),hk]
   unfold rd
   rw [Int.toNat_natCast,List.getD_eq_getElem?_getD,List.getElem?_eq_getElem (by omega),Option.getD_some]
  have hmem : k ∈ c := List.mem_of_mem_drop (by rw [hkc];simp : k ∈ c.drop j)
  obtain ⟨k0,k1⟩ := hc k hmem
  obtain ⟨hm,_⟩ := hb.at k k0 k1
  have bm := seenBd_mono B0 (c.length - (j + 1)) c.length (by omega)
  have be := ends_bound hm z0 z1
  have hbd : seenBd B (c.length - j) = 2 * seenBd B (c.length - (j + 1)) + 1000001 := by
   rw [show c.length - j = (c.length - (j + 1)) + 1 by omega];rfl
  have bm2 := seenBd_mono B0 (c.length - j) c.length (by omega)
  obtain ⟨v,s1,ev,v0,v1⟩ := between_some s (loEnd (rd_T36 l k).f0.f0 (rd_T36 l k).f0.f1 (rd_T36 l k).f1.f0 z) (hiEnd (rd_T36 l k).f0.f0 (rd_T36 l k).f0.f1 (rd_T36 l k).f1.f1 z) be.2.1 (by omega) (by omega)
  obtain ⟨u,hu,u0,u1⟩ : ∃ u,rd [loEnd (rd_T36 l k).f0.f0 (rd_T36 l k).f0.f1 (rd_T36 l k).f1.f0 z,hiEnd (rd_T36 l k).f0.f0 (rd_T36 l k).f0.f1 (rd_T36 l k).f1.f1 z,v] st = u ∧ loEnd (rd_T36 l k).f0.f0 (rd_T36 l k).f0.f1 (rd_T36 l k).f1.f0 z ≤ u ∧ u ≤ hiEnd (rd_T36 l k).f0.f0 (rd_T36 l k).f0.f1 (rd_T36 l k).f1.f1 z := by
   refine ⟨_,rfl,?_⟩
   rcases rd3 (loEnd (rd_T36 l k).f0.f0 (rd_T36 l k).f0.f1 (rd_T36 l k).f1.f0 z) (hiEnd (rd_T36 l k).f0.f0 (rd_T36 l k).f0.f1 (rd_T36 l k).f1.f1 z) v st st0 st1 with h | h | h <;> omega
  obtain ⟨n,s',y,hE,hrest⟩ := ih u s1 (by omega) (by rw [hkc];exact ⟨z,hz,u0,u1⟩) (by omega) (by omega)
  refine ⟨n,s',y,?_,hrest⟩
  refine Ev.step (fun k => by rw [K_Showing.l0]) ?_
  rw [show (((j + 1 : Nat) : Int) - 1) = (j : Int) by omega,← hk]
  refine Ev.pos (by omega) (Ev.pos (by omega) (Ev.pos (by omega) (Ev.pos k0 (Ev.pos k1 ?_))))
  refine Ev.call (refMade_eq _ _ _ hm (by omega) (by omega)) ?_
  have ein : D_In.f s (loEnd (rd_T36 l k).f0.f0 (rd_T36 l k).f0.f1 (rd_T36 l k).f1.f0 z) (hiEnd (rd_T36 l k).f0.f0 (rd_T36 l k).f0.f1 (rd_T36 l k).f1.f1 z) = some (v,s1) := by
   unfold D_In.f
   rw [mx_eq,Int.max_eq_right be.2.1,ev]
   rfl
  refine Ev.call ein (Ev.call rfl ?_)
  refine Ev.pos st0 (Ev.pos (by simp;omega) ?_)
  rw [hu,wrap64_eq (n := (j : Int) - 1) (by omega)]
  exact hE
theorem refChainL_ev {l : List S36} (hb : BenchOk l) (hd : Down_ l) (m : Int) (m0 : 0 ≤ m) (m1 : m < l.length) : Ev (fun k => R_Chain.f k l m) (chainL l m) := by
 unfold R_Chain.f
 have h12 := hb.1
 have h := refCheck_ev l (by omega)
 rw [checkP_ok hb hd] at h
 refine Ev.bind h (Ev.pos rfl ?_)
 rw [wrap64_eq (by omega)]
 exact Ev.call (beyond_false ⟨m0,by omega⟩) (Ev.neg (by decide) (Ev.bind (refChain_ev hd h12 m m1 (by omega)) (Ev.done rfl)))
theorem chainL_mem {l : List S36} (hb : BenchOk l) {m : Int} (m1 : m < l.length) : ∀ k ∈ chainL l m,0 ≤ k ∧ k < (l.length : Int) := chainGo_mem hb _ _ m1
theorem showing_ev {l : List S36} (hM : MadeBench l) (h5 : l.length ≤ 5) (s m x : Int) (m0 : 0 ≤ m) (m1 : m < l.length) (B : Int) (B0 : 0 ≤ B) (B1 : B ≤ 1000000000) (x0 : -B ≤ x) (x1 : x ≤ B) :
  ∃ n s' y,Ev (fun k => K_Showing.f k s l m x) (n,s') ∧ SeenBy l (chainL l m) x y ∧ -(32 * B + 31000031) ≤ y ∧ y ≤ 32 * B + 31000031 ∧ Int.tmod n (rd_T36 l m).f2 = 0 ∧ 2 * (n - y) ≤ (rd_T36 l m).f2 ∧ 2 * (y - n) ≤ (rd_T36 l m).f2 := by
 have hb := hM.ok (by omega)
 obtain ⟨_,_,_,_,_,_,a7,a8,_⟩ := hM.at m m0 m1
 obtain ⟨st,s1,e,st0,st1⟩ := upto_some s 3 (by omega) (by omega)
 have hlen : (chainL l m).length ≤ 5 := Nat.le_trans (chainGo_length l l.length m) h5
 have hbd := seenBd_mono B0 (chainL l m).length 5 hlen
 have hb5 : seenBd B 5 = 32 * B + 31000031 := by simp only [seenBd];omega
 rw [hb5] at hbd
 obtain ⟨n,s',y,hE,hS,y0,y1,hr⟩ := showing_l hb m0 m1 ⟨a7,a8⟩ (chainL l m) (by omega) (chainL_mem hb m1) st st0 st1 B B0 (by omega) (chainL l m).length x s1 (Nat.le_refl _) (by rw [List.drop_length];rfl) (by rw [Nat.sub_self];exact x0) (by rw [Nat.sub_self];exact x1)
 refine ⟨n,s',y,?_,hS,by omega,by omega,hr⟩
 unfold K_Showing.f
 refine Ev.bind (refChainL_ev hb hM.down m m0 m1) (Ev.call e ?_)
 rw [wrap64_eq (by omega)]
 exact hE
/-! ### dice,and true values of what was seen -/
theorem mod_any (a m : Int) (h0 : 1 ≤ m) (h1 : m ≤ 4000000000000) : ∃ t,K_Mod.f a m = some t ∧ 0 ≤ t ∧ t < m := by
 unfold K_Mod.f
 have u := Int.tmod_lt_of_pos a (show 0 < m by omega)
 have l := Int.tmod_lt_of_pos (-a) (show 0 < m by omega)
 rw [Int.neg_tmod] at l
 rw [if_neg (by omega),if_neg (by omega)]
 by_cases c : Int.tmod a m < 0
 ·rw [if_pos c,wrap64_eq (by omega)]
  exact ⟨_,rfl,by omega,by omega⟩
 ·rw [if_neg c]
  exact ⟨_,rfl,by omega,u⟩
theorem dice_some {l : List Int} (h : l.length ≤ maxLen) : K_NewDice.f l = some (diceOf l) := by
 unfold maxLen at h
 unfold K_NewDice.f
 rw [if_pos (by omega)]
theorem source_of_seen {l : List S36} (hb : BenchOk l) {m n x y : Int} (m1 : m < l.length) (hS : SeenBy l (chainL l m) x y) (d1 : 2 * (n - y) ≤ (rd_T36 l m).f2) (d2 : 2 * (y - n) ≤ (rd_T36 l m).f2) (x0 : -1000000000 ≤ x) (x1 : x ≤ 1000000000) :
  (sourceP l m n).2.2 = true ∧ (sourceP l m n).1 ≤ x ∧ x ≤ (sourceP l m n).2.1 := by
 obtain ⟨h1,h2,h3⟩ := seen_source hb (chainL l m) x y (srcStart l m n) (chainL_mem hb m1) hS (by show n - (rd_T36 l m).f2 / 2 ≤ y;omega) (by show y ≤ n + (rd_T36 l m).f2 / 2;omega) rfl
 unfold sourceP srcEnd
 generalize srcFold l (chainL l m) (srcStart l m n) = s at h1 h2 h3
 obtain ⟨a,b,c⟩ := s
 show (c && decide (max a (-1000000000) ≤ min b 1000000000)) = true ∧ max a (-1000000000) ≤ x ∧ x ≤ min b 1000000000
 have h3 : c = true := h3
 have h1 : a ≤ x := h1
 have h2 : x ≤ b := h2
 rw [h3,decide_eq_true (by omega)]
 exact ⟨rfl,by omega,by omega⟩
/-! ### the reference's true values -/
theorem refUp_eq {n d : Int} (hd : 0 < d) (h : -9223372036854775807 ≤ n ∧ n ≤ 9223372036854775807) : R_Up.f n d = some (-(-n / d)) := by
 have b := tdiv_bound (n := -n) hd (by omega)
 have e := tdown (n := -n) hd
 unfold R_Up.f
 rw [wrap64_eq (by omega),refDown_eq hd (by omega)]
 simp only [Option.bind_some]
 have b2 : -9223372036854775807 ≤ -n / d ∧ -n / d ≤ 9223372036854775807 := by
  constructor
  ·rw [Int.le_ediv_iff_mul_le hd]
   have := Int.mul_le_mul_of_nonneg_left (show 1 ≤ d by omega) (show (0 : Int) ≤ 9223372036854775807 by omega)
   omega
  ·rw [← Int.lt_add_one_iff,Int.ediv_lt_iff_lt_mul hd]
   have := Int.mul_le_mul_of_nonneg_left (show 1 ≤ d by omega) (show (0 : Int) ≤ 9223372036854775808 by omega)
   omega
 rw [wrap64_eq (by omega)]
theorem least_l {a0 a1 a2 a3 : Int} (a4 a5 a6 : Int) (h : meterOk a0 a1 a2 a3) (n r : Int) (hr : r = backLo a0 a1 a3 n) : ∀ (d : Nat) (lo hi : Int),(hi - lo).toNat ≤ d → -4398046511104 ≤ lo → lo ≤ r → r ≤ hi → hi ≤ 4398046511104 →
  Ev (fun k => R_least.l0 k n lo hi a0 a1 a2 a3 a4 a5 a6) r := by
 intro d
 induction d with
 | zero =>
  intro lo hi hd h0 h1 h2 h3
  refine Ev.step (fun k => by rw [R_least.l0]) (Ev.neg (by omega) (Ev.done ?_))
  rw [show lo = r by omega]
 | succ d ih =>
  intro lo hi hd h0 h1 h2 h3
  refine Ev.step (fun k => by rw [R_least.l0]) ?_
  by_cases hlt : lo < hi
  ·refine Ev.pos hlt ?_
   rw [wrap64_eq (n := lo + hi) (by omega)]
   refine Ev.call (refDown_eq (by omega) (by omega)) (Ev.call (refMade_eq a4 a5 a6 h (by omega) (by omega)) ?_)
   have hi' := backLo_iff h n ((lo + hi) / 2)
   rw [← hr] at hi'
   by_cases hc : n ≤ hiEnd a0 a1 a3 ((lo + hi) / 2)
   ·exact Ev.pos hc (ih _ _ (by omega) h0 h1 (hi'.1 hc) (by omega))
   ·refine Ev.neg hc ?_
    have : ¬ r ≤ (lo + hi) / 2 := fun h => hc (hi'.2 h)
    rw [wrap64_eq (n := (lo + hi) / 2 + 1) (by omega)]
    exact ih _ _ (by omega) (by omega) (by omega) h2 h3
  ·refine Ev.neg hlt (Ev.done ?_)
   rw [show lo = r by omega]
theorem most_l {a0 a1 a2 a3 : Int} (a4 a5 a6 : Int) (h : meterOk a0 a1 a2 a3) (n r : Int) (hr : r = backHi a0 a1 a2 n) : ∀ (d : Nat) (lo hi : Int),(hi - lo).toNat ≤ d → -4398046511104 ≤ lo → lo ≤ r → r ≤ hi → hi ≤ 4398046511104 →
  Ev (fun k => R_most.l0 k n lo hi a0 a1 a2 a3 a4 a5 a6) r := by
 intro d
 induction d with
 | zero =>
  intro lo hi hd h0 h1 h2 h3
  refine Ev.step (fun k => by rw [R_most.l0]) (Ev.neg (by omega) (Ev.done ?_))
  rw [show lo = r by omega]
 | succ d ih =>
  intro lo hi hd h0 h1 h2 h3
  refine Ev.step (fun k => by rw [R_most.l0]) ?_
  by_cases hlt : lo < hi
  ·refine Ev.pos hlt ?_
   rw [wrap64_eq (n := lo + hi) (by omega)]
   obtain ⟨x,hx⟩ : ∃ x,x = -(-(lo + hi) / 2) := ⟨_,rfl⟩
   refine Ev.call (refUp_eq (by omega) (by omega)) ?_
   rw [← hx]
   refine Ev.call (refMade_eq a4 a5 a6 h (by omega) (by omega)) ?_
   have hi' := backHi_iff h n x
   rw [← hr] at hi'
   by_cases hc : loEnd a0 a1 a2 x ≤ n
   ·have : x ≤ r := by
     by_cases hb : x ≤ r
     ·exact hb
     ·have := hi'.2 (by omega);omega
    exact Ev.pos hc (ih _ _ (by omega) (by omega) this h2 h3)
   ·have : r + 1 ≤ x := hi'.1 (by omega)
    refine Ev.neg hc ?_
    rw [wrap64_eq (n := x - 1) (by omega)]
    exact ih _ _ (by omega) h0 h1 (by omega) (by omega)
  ·refine Ev.neg hlt (Ev.done ?_)
   rw [show lo = r by omega]
theorem refBefore_l {l : List S36} {m n : Int} (h : SourceOk l m n) : ∀ (rest pre : List Int),pre ++ rest = chainL l m → Ev (fun k => R_before.l0 k l (chainL l m) (srcFold l pre (srcStart l m n)).2.2 pre.length (srcFold l pre (srcStart l m n)).1 (srcFold l pre (srcStart l m n)).2.1) (sourceP l m n) := by
 intro rest
 induction rest with
 | nil =>
  intro pre hp
  rw [List.append_nil] at hp
  refine Ev.step (fun k => by rw [R_before.l0]) (Ev.neg (by rw [← hp];omega) ?_)
  unfold sourceP
  rw [← hp]
  generalize srcFold l pre (srcStart l m n) = s
  obtain ⟨a,b,c⟩ := s
  simp only [mx_eq,mn_eq]
  cases c with
  | true => exact Ev.pos rfl (Ev.done (by simp [srcEnd]))
  | false => exact Ev.neg (by decide) (Ev.done (by simp [srcEnd]))
 | cons k rest ih =>
  intro pre hp
  obtain ⟨⟨k0,k1⟩,b0,b1,b2,b3⟩ := src_ahead h (pre := pre) (x := k) ⟨rest,by rw [← hp,List.append_assoc];rfl⟩
  obtain ⟨hm,_⟩ := h.1.at k k0 k1
  have hrd : rd (chainL l m) (pre.length : Int) = k := by
   unfold rd
   rw [Int.toNat_natCast,← hp,List.getD_eq_getElem?_getD,List.getElem?_append_right (Nat.le_refl _),Nat.sub_self]
   rfl
  have hlen : pre.length + (rest.length + 1) = (chainL l m).length := by rw [← hp];simp
  have h12 : (chainL l m).length ≤ 12 := Nat.le_trans (chainGo_length l l.length m) h.1.1
  refine Ev.step (fun k => by rw [R_before.l0]) ?_
  rw [hrd]
  refine Ev.pos (by omega) (Ev.pos (by omega) (Ev.pos k0 (Ev.pos k1 ?_)))
  have lb := backLo_bound (M := 2100000000000) hm b0 b1
  have hb := backHi_bound (M := 2100000000000) hm b2 b3
  refine Ev.bind (least_l _ _ _ hm _ _ rfl _ (-4398046511104) 4398046511104 (Nat.le_refl _) (by omega) (by omega) (by omega) (by omega)) ?_
  refine Ev.bind (most_l _ _ _ hm _ _ rfl _ (-4398046511104) 4398046511104 (Nat.le_refl _) (by omega) (by omega) (by omega) (by omega)) ?_
  have next := ih (pre ++ [k]) (by rw [List.append_assoc];exact hp)
  rw [srcFold_snoc,show (((pre ++ [k]).length : Nat) : Int) = (pre.length : Int) + 1 by simp] at next
  rw [wrap64_eq (n := (pre.length : Int) + 1) (by omega)]
  by_cases hs : (srcFold l pre (srcStart l m n)).2.2 = true
  ·refine Ev.pos hs ?_
   have e : (srcStep l (srcFold l pre (srcStart l m n)) k).2.2 = decide ((srcStep l (srcFold l pre (srcStart l m n)) k).1 ≤ (srcStep l (srcFold l pre (srcStart l m n)) k).2.1) := by
    show ((srcFold l pre (srcStart l m n)).2.2 && _) = _
    rw [hs,Bool.true_and]
    rfl
   rw [e] at next
   exact next
  ·refine Ev.neg hs ?_
   have e : (srcStep l (srcFold l pre (srcStart l m n)) k).2.2 = false := by
    show ((srcFold l pre (srcStart l m n)).2.2 && _) = _
    rw [Bool.eq_false_iff.2 hs,Bool.false_and]
   rw [e] at next
   exact next
theorem chainGo_stop (l : List S36) : ∀ (d : Nat) (m : Int),afterGo l d m < 0 → chainGo l (d + 1) m = chainGo l d m := by
 intro d
 induction d with
 | zero => intro m h;rw [chainGo_neg l _ m h];rfl
 | succ d ih =>
  intro m h
  by_cases hm : m < 0
  ·rw [chainGo_neg l _ m hm,chainGo_neg l _ m hm]
  ·rw [afterGo,if_neg hm] at h
   have e1 : chainGo l (d + 1 + 1) m = m :: chainGo l (d + 1) (rd_T36 l m).f3 := by rw [chainGo,if_neg hm]
   have e2 : chainGo l (d + 1) m = m :: chainGo l d (rd_T36 l m).f3 := by rw [chainGo,if_neg hm]
   rw [e1,e2,ih _ h]
theorem refChain_full {l : List S36} (hb : ∀ m : Int,0 ≤ m → m < l.length → -1 ≤ (rd_T36 l m).f3 ∧ (rd_T36 l m).f3 < l.length) (h20 : l.length ≤ 20) : ∀ (d : Nat) (m : Int) (pre : List Int),m < l.length → pre.length + d = l.length + 1 →
  Ev (fun k => R_chain.l0 k l m pre) (pre ++ chainGo l d m,decide (afterGo l d m < 0)) := by
 intro d
 induction d with
 | zero =>
  intro m pre h0 h1
  by_cases hm : m < 0
  ·refine Ev.step (fun k => by rw [R_chain.l0]) ?_
   exact Ev.neg (by omega) (Ev.done (by rw [afterGo,chainGo,List.append_nil]))
  ·refine Ev.step (fun k => by rw [R_chain.l0]) ?_
   exact Ev.pos (by omega) (Ev.neg (by omega) (Ev.done (by rw [afterGo,chainGo,List.append_nil])))
 | succ d ih =>
  intro m pre h0 h1
  by_cases hm : m < 0
  ·refine Ev.step (fun k => by rw [R_chain.l0]) ?_
   exact Ev.neg (by omega) (Ev.done (by rw [afterGo,if_pos hm,chainGo,if_pos hm,List.append_nil]))
  ·obtain ⟨b0,b1⟩ := hb m (by omega) h0
   have hc := ih (rd_T36 l m).f3 (pre ++ [m]) b1 (by simp;omega)
   refine Ev.step (fun k => by rw [R_chain.l0]) ?_
   rw [List.append_assoc] at hc
   rw [afterGo,if_neg hm,chainGo,if_neg hm]
   exact Ev.pos (by omega) (Ev.pos (by omega) (Ev.pos (by omega) (Ev.pos (by omega) (Ev.pos h0 hc))))
theorem checkP_valid {l : List S36} (h : checkP l = 0) : BenchOk l ∧ ∀ i : Nat,i < l.length → endsP l i := by
 unfold checkP at h
 by_cases h12 : 12 < l.length
 ·rw [if_pos h12] at h;omega
 rw [if_neg h12] at h
 by_cases hf : firstErr l.length l = 0
 ·rw [if_neg (by omega)] at h
  refine ⟨⟨by omega,firstErr_zero hf⟩,?_⟩
  have go : ∀ d i : Nat,i + d = l.length → looseFrom l d i = 0 → ∀ j,i ≤ j → j < l.length → endsP l j := by
   intro d
   induction d with
   | zero => intro i hi _ j h1 h2;omega
   | succ d ih =>
    intro i hi hl j h1 h2
    unfold looseFrom at hl
    by_cases he : endsP l i
    ·rw [if_pos he] at hl
     by_cases hij : j = i
     ·subst hij;exact he
     ·exact ih (i + 1) (by omega) hl j (by omega) h2
    ·rw [if_neg he] at hl;omega
  exact fun i hi => go l.length 0 (by omega) h i (by omega) hi
 ·rw [if_pos hf] at h;exact absurd h hf
theorem benchBy {l : List S36} (hb : BenchOk l) : ∀ m : Int,0 ≤ m → m < l.length → -1 ≤ (rd_T36 l m).f3 ∧ (rd_T36 l m).f3 < l.length := fun m m0 m1 => by
 obtain ⟨_,_,_,_,_,a11,a12⟩ := hb.at m m0 m1
 exact ⟨a11,a12⟩
theorem refChain_valid {l : List S36} (h : checkP l = 0) {m : Int} (m0 : 0 ≤ m) (m1 : m < l.length) : Ev (fun k => R_chain.f k l m) (chainL l m,true) := by
 obtain ⟨hb,he⟩ := checkP_valid h
 have h12 := hb.1
 have := refChain_full (benchBy hb) (by omega) (l.length + 1) m [] m1 (by simp)
 have hm := he m.toNat (by omega)
 rw [Int.toNat_of_nonneg m0] at hm
 have ha := (endsP_after (benchBy hb) m m0 m1).1 hm
 have ha' := afterGo_enough (fun m a b => (benchBy hb m a b).2) m m1 _ ha
 rw [List.nil_append,decide_eq_true ha,chainGo_stop l _ m ha'] at this
 exact this
theorem refBefore_ev {l : List S36} (h : checkP l = 0) {m n : Int} (m0 : 0 ≤ m) (m1 : m < l.length) (n0 : -1000000000 ≤ n) (n1 : n ≤ 1000000000) : Ev (fun k => R_before.f k l m n) (sourceP l m n) := by
 obtain ⟨hb,he⟩ := checkP_valid h
 obtain ⟨_,a7,a8,_⟩ := hb.at m m0 m1
 have hl := refBefore_l ⟨hb,m0,m1,n0,n1⟩ (chainL l m) [] rfl
 unfold R_before.f
 refine Ev.pos m0 (Ev.pos m1 (Ev.bind (refChain_valid h m0 m1) ?_))
 have e : Int.tdiv (rd_T36 l m).f2 2 = (rd_T36 l m).f2 / 2 := Int.tdiv_eq_ediv_of_nonneg (by omega)
 rw [e,wrap64_eq (n := (rd_T36 l m).f2 / 2) (by omega),wrap64_eq (n := n - (rd_T36 l m).f2 / 2) (by omega),wrap64_eq (n := n + (rd_T36 l m).f2 / 2) (by omega)]
 exact hl
/-- What both answer. -/
def trueP (l : List S36) (m n : Int) : Int × Int × Int :=
 if checkP l ≠ 0 then (0,0,checkP l) else if m < 0 ∨ m > (l.length : Int) - 1 then (0,0,7) else if n < -1000000000 ∨ n > 1000000000 then (0,0,2) else
 if Int.tmod n (rd_T36 l m).f2 ≠ 0 then (0,0,3) else if (sourceP l m n).2.2 = true then ((sourceP l m n).1,(sourceP l m n).2.1,0) else (0,0,12)
theorem true_any (l : List S36) (h20 : l.length ≤ 20) (m n : Int) : gauge_True.f l m n = some (trueP l m n) := by
 unfold trueP
 by_cases hc : checkP l = 0
 ·obtain ⟨hb,he⟩ := checkP_valid hc
  rw [if_neg (by omega)]
  unfold gauge_True.f gauge_Check.f
  simp only [Option.bind_some]
  rw [if_pos hc,wrap64_eq (by omega)]
  by_cases hm : m < 0 ∨ m > (l.length : Int) - 1
  ·rw [if_pos hm,outside_true hm]
   rfl
  ·rw [if_neg hm,outside_false (by omega)]
   simp only [Option.bind_some]
   rw [if_neg (by decide)]
   by_cases hn : n < -1000000000 ∨ n > 1000000000
   ·rw [if_pos hn,outside_true hn]
    rfl
   ·rw [if_neg hn,outside_false (by omega)]
    simp only [Option.bind_some]
    obtain ⟨_,a7,a8,_⟩ := hb.at m (by omega) (by omega)
    rw [if_neg (by decide),if_pos (by omega),if_pos (by omega),if_neg (by omega)]
    by_cases hs : Int.tmod n (rd_T36 l m).f2 = 0
    ·rw [if_pos hs,if_neg (by omega)]
     unfold gauge_source.f
     rw [if_pos ⟨hb,by omega,by omega,by omega,by omega⟩]
     simp only [Option.bind_some]
     split <;> rfl
    ·rw [if_neg hs,if_pos hs]
 ·rw [if_pos hc]
  unfold gauge_True.f gauge_Check.f
  simp only [Option.bind_some]
  rw [if_neg hc]
theorem refTrue_ev (l : List S36) (h20 : l.length ≤ 20) (m n : Int) : Ev (fun k => R_True.f k l m n) (trueP l m n) := by
 unfold R_True.f trueP
 refine Ev.bind (refCheck_ev l h20) ?_
 by_cases hc : checkP l = 0
 ·obtain ⟨hb,he⟩ := checkP_valid hc
  rw [if_neg (show ¬ checkP l ≠ 0 by omega)]
  refine Ev.pos hc ?_
  rw [wrap64_eq (by omega)]
  by_cases hm : m < 0 ∨ m > (l.length : Int) - 1
  ·rw [if_pos hm]
   exact Ev.call (beyond_true hm) (Ev.pos rfl (Ev.done rfl))
  ·rw [if_neg hm]
   refine Ev.call (beyond_false (by omega)) (Ev.neg (by decide) ?_)
   by_cases hn : n < -1000000000 ∨ n > 1000000000
   ·rw [if_pos hn]
    exact Ev.call (beyond_true hn) (Ev.pos rfl (Ev.done rfl))
   ·rw [if_neg hn]
    obtain ⟨_,a7,a8,_⟩ := hb.at m (by omega) (by omega)
    refine Ev.call (beyond_false (by omega)) (Ev.neg (by decide) (Ev.pos (by omega) (Ev.pos (by omega) (Ev.neg (by omega) ?_))))
    by_cases hs : Int.tmod n (rd_T36 l m).f2 = 0
    ·rw [if_neg (show ¬ Int.tmod n (rd_T36 l m).f2 ≠ 0 by omega)]
     refine Ev.pos hs (Ev.bind (refBefore_ev hc (by omega) (by omega) (by omega) (by omega)) ?_)
     by_cases h2 : (sourceP l m n).2.2 = true
     ·exact Ev.pos h2 (Ev.done (by rw [if_pos h2]))
     ·exact Ev.neg h2 (Ev.done (by rw [if_neg h2]))
    ·rw [if_pos hs]
     exact Ev.neg hs (Ev.done rfl)
 ·rw [if_pos (show checkP l ≠ 0 from hc)]
  exact Ev.neg hc (Ev.done rfl)
/-! ### a region that draws its order,with edges that do not bind -/
theorem wp_region_alln {P : Program} {id : Nat} {ops : Array Oper} {Q : Exit → Act → World → Prop} {a : Act} {w : World} (n : Nat) (hm : P.follows .mixedOrders = true) (hn : ops.size = n)
  (hback : (List.range n).all (fun i => ((ops[i]?).map (fun o => o.after.all fun e => !(Region.binds .any e) || decide (e.on < i))).getD false) = true)
  (I : Array Bool → Act → World → Prop) (h0 : I (Array.replicate n false) a w.drew)
  (hstep : ∀ (i : Nat) (o : Oper),i < n → ops[i]? = some o → ∀ (L : Array Bool) (a : Act) (w : World),I L a w → L.size = n → L.getD i true = false →
   (∀ e ∈ o.after,Region.binds .any e = true → L.getD e.on false = true) → wpOp P ops Q i (fun a' w' => I (L.setIfInBounds i true) a' w') a w)
  (hend : ∀ (L : Array Bool) (a : Act) (w : World),I L a w → (∀ i,i < n → L.getD i false = true) → Q .normal a w) :
  (Code.region id ops true).wp P Q a w := by
 refine wp_region_any hm ?_
 have go : ∀ (fuel : Nat) (L : Array Bool) (a : Act) (w : World),L.size = n → L.count false ≤ fuel → I L a w → wpAny P .any ops Q fuel L a w := by
  have all : ∀ (L : Array Bool),L.size = n → Region.ready .any ops L = [] → ∀ i,i < n → L.getD i false = true := by
   intro L hL hr i
   induction i using Nat.strongRecOn with
   | _ i ih =>
    intro hi
    by_cases hc : L.getD i false = true
    ·exact hc
    ·exfalso
     have hb := List.all_eq_true.1 hback i (List.mem_range.2 hi)
     obtain ⟨o,ho⟩ : ∃ o,ops[i]? = some o := ⟨ops[i]'(by omega),Array.getElem?_eq_getElem (by omega)⟩
     rw [ho,Option.map_some,Option.getD_some,Array.all_eq_true_iff_forall_mem] at hb
     have : i ∈ Region.ready .any ops L := mem_ready.2 ⟨by
      have h1 : i < L.size := by omega
      simp [h1] at hc ⊢
      exact hc,o,ho,fun e he hbe => by
      have h3 := hb e he
      rw [hbe,Bool.not_true,Bool.false_or,decide_eq_true_eq] at h3
      exact ih e.on h3 (by omega)⟩
     rw [hr] at this
     cases this
  have next : ∀ (fuel : Nat) (L : Array Bool) (i : Nat),L.size = n → i < n → L.getD i true = false → L.count false ≤ fuel + 1 → (L.setIfInBounds i true).count false ≤ fuel := by
   intro fuel L i hL hi hf hc
   have h1 : i < L.size := by omega
   have hv : L[i] = false := by simpa [h1] using hf
   rw [Array.setIfInBounds,dif_pos h1,Array.count_set h1,hv]
   have : 0 < L.count false := Array.count_pos_iff.2 (hv ▸ Array.getElem_mem h1)
   simp
   omega
  intro fuel
  induction fuel with
  | zero =>
   intro L a w hL hc hI
   have hall : ∀ i,i < n → L.getD i false = true := by
    intro i hi'
    have h1 : i < L.size := by omega
    have := Array.count_eq_zero.1 (Nat.le_zero.1 hc)
    simp [h1]
    cases hv : L[i] with
    | true => rfl
    | false => exact absurd (hv ▸ Array.getElem_mem h1) this
   refine ⟨?_,hend L a w hI hall⟩
   rw [List.eq_nil_iff_forall_not_mem]
   intro i hr
   obtain ⟨h1,o,ho,_⟩ := mem_ready.1 hr
   have h2 : i < n := by rw [← hn];exact (Array.getElem?_eq_some_iff.1 ho).1
   have h3 := hall i h2
   have h4 : i < L.size := by omega
   simp [h4] at h1 h3
   rw [h1] at h3
   cases h3
  | succ fuel ih =>
   intro L a w hL hc hI
   refine ⟨fun hr => hend L a w hI (all L hL hr),fun i hr => ?_⟩
   obtain ⟨h1,o,ho,hall⟩ := mem_ready.1 hr
   have h2 : i < n := by rw [← hn];exact (Array.getElem?_eq_some_iff.1 ho).1
   exact wpOp_mono (fun a' w' hI' => ih _ a' w' (by simp [hL]) (next fuel L i hL h2 h1 hc) hI') (hstep i o h2 ho L a w hI hL h1 hall)
 rw [hn]
 exact go _ _ _ _ (by simp) (by simp) h0
/-! ### ages: what program and reference answer -/
theorem refVerdict_ev (a b c d : Int) : Ev (fun k => R_Verdict.f k a b c d) (verdictP a b c d) := by
 unfold R_Verdict.f verdictP
 have j1 : ∀ x : Bool,x = decide (a ≥ c ∧ b ≤ d) → ¬ (a > b ∨ c > d) → Ev (fun k => R_Verdict.j1 k x a b c d) (if a > b ∨ c > d then 0 else if a ≥ c ∧ b ≤ d then 1 else if b < c ∨ a > d then 2 else 3) := by
  intro x hx h
  refine Ev.step (fun k => by rw [R_Verdict.j1]) ?_
  rw [if_neg h]
  by_cases h2 : a ≥ c ∧ b ≤ d
  ·rw [if_pos h2];exact Ev.pos (by rw [hx,decide_eq_true h2]) (Ev.done rfl)
  ·rw [if_neg h2]
   refine Ev.neg (by rw [hx,decide_eq_false h2];decide) ?_
   by_cases h3 : b < c
   ·exact Ev.pos h3 (Ev.done (by rw [if_pos (Or.inl h3)]))
   ·refine Ev.neg h3 ?_
    by_cases h4 : a > d
    ·exact Ev.pos h4 (Ev.done (by rw [if_pos (Or.inr h4)]))
    ·exact Ev.neg h4 (Ev.done (by rw [if_neg (by omega)]))
 by_cases h1 : a > b
 ·refine Ev.pos h1 (Ev.step (fun k => by rw [R_Verdict.j0]) (Ev.pos rfl (Ev.done (by rw [if_pos (.inl h1)]))))
 ·refine Ev.neg h1 (Ev.step (fun k => by rw [R_Verdict.j0]) ?_)
  by_cases h2 : c > d
  ·exact Ev.pos (by rw [decide_eq_true h2]) (Ev.done (by rw [if_pos (.inr h2)]))
  ·refine Ev.neg (by rw [decide_eq_false h2];decide) ?_
   by_cases h3 : a ≥ c
   ·exact Ev.pos h3 (j1 _ (by rw [decide_eq_decide];omega) (by omega))
   ·exact Ev.neg h3 (j1 _ (by rw [decide_eq_false (by omega)]) (by omega))
theorem refCheckAge_ev (a b c d : Int) : Ev (fun k => R_checkAge.f k a b c d) (driftErr a b c d) := by
 have hd : driftErr a b c d = if (-1000000000 ≤ a ∧ a ≤ 1000000000) ∧ (-1000000000 ≤ b ∧ b ≤ 1000000000) ∧ (-1000000 ≤ c ∧ c ≤ 1000000) ∧ (-1000000 ≤ d ∧ d ≤ 1000000) then (if a > b then 11 else if c > d then 11 else 0) else 2 := by
  by_cases hr : (-1000000000 ≤ a ∧ a ≤ 1000000000) ∧ (-1000000000 ≤ b ∧ b ≤ 1000000000) ∧ (-1000000 ≤ c ∧ c ≤ 1000000) ∧ (-1000000 ≤ d ∧ d ≤ 1000000)
  ·have e1 : rangeErr a b (-1000000000) 1000000000 = if a > b then 11 else 0 := by unfold rangeErr;rw [if_neg (by omega)]
   have e2 : rangeErr c d (-1000000) 1000000 = if c > d then 11 else 0 := by unfold rangeErr;rw [if_neg (by omega)]
   rw [if_pos hr]
   unfold driftErr
   rw [e1,e2]
   by_cases h1 : a > b
   ·by_cases h2 : c > d
    ·simp [h1,h2]
    ·simp [h1,h2];rfl
   ·by_cases h2 : c > d
    ·simp [h1,h2];rfl
    ·simp [h1,h2]
  ·rw [if_neg hr]
   have e : rangeErr a b (-1000000000) 1000000000 = 2 ∨ rangeErr c d (-1000000) 1000000 = 2 := by
    unfold rangeErr
    by_cases h1 : (-1000000000 ≤ a ∧ a ≤ 1000000000) ∧ (-1000000000 ≤ b ∧ b ≤ 1000000000)
    ·right;rw [if_pos (by omega)]
    ·left;rw [if_pos (by omega)]
   unfold driftErr
   rw [if_pos e]
 rw [hd]
 unfold R_checkAge.f
 have bad : ¬ ((-1000000000 ≤ a ∧ a ≤ 1000000000) ∧ (-1000000000 ≤ b ∧ b ≤ 1000000000) ∧ (-1000000 ≤ c ∧ c ≤ 1000000) ∧ (-1000000 ≤ d ∧ d ≤ 1000000)) → Ev (fun k => R_checkAge.j0 k true a b c d) (if (-1000000000 ≤ a ∧ a ≤ 1000000000) ∧ (-1000000000 ≤ b ∧ b ≤ 1000000000) ∧ (-1000000 ≤ c ∧ c ≤ 1000000) ∧ (-1000000 ≤ d ∧ d ≤ 1000000) then (if a > b then 11 else if c > d then 11 else 0) else 2) := fun h => by
  rw [if_neg h]
  exact Ev.step (fun k => by rw [R_checkAge.j0]) (Ev.pos rfl (Ev.done rfl))
 by_cases h1 : -1000000000 ≤ a ∧ a ≤ 1000000000
 ·refine Ev.call (beyond_false h1) (Ev.neg (by decide) ?_)
  by_cases h2 : -1000000000 ≤ b ∧ b ≤ 1000000000
  ·refine Ev.call (beyond_false h2) (Ev.neg (by decide) ?_)
   by_cases h3 : -1000000 ≤ c ∧ c ≤ 1000000
   ·refine Ev.call (beyond_false h3) (Ev.neg (by decide) ?_)
    by_cases h4 : -1000000 ≤ d ∧ d ≤ 1000000
    ·refine Ev.call (beyond_false h4) (Ev.step (fun k => by rw [R_checkAge.j0]) (Ev.neg (by decide) ?_))
     have e : (if (-1000000000 ≤ a ∧ a ≤ 1000000000) ∧ (-1000000000 ≤ b ∧ b ≤ 1000000000) ∧ (-1000000 ≤ c ∧ c ≤ 1000000) ∧ (-1000000 ≤ d ∧ d ≤ 1000000) then (if a > b then (11 : Int) else if c > d then 11 else 0) else 2) = (if a > b then (11 : Int) else if c > d then 11 else 0) := if_pos ⟨h1,h2,h3,h4⟩
     rw [e]
     by_cases h5 : a > b
     ·exact Ev.pos h5 (Ev.done (by rw [if_pos h5]))
     ·refine Ev.neg h5 ?_
      by_cases h6 : c > d
      ·exact Ev.pos h6 (Ev.done (by rw [if_neg h5,if_pos h6]))
      ·exact Ev.neg h6 (Ev.done (by rw [if_neg h5,if_neg h6]))
    ·exact Ev.call (beyond_true (by omega)) (bad (by omega))
   ·exact Ev.call (beyond_true (by omega)) (Ev.pos rfl (bad (by omega)))
  ·exact Ev.call (beyond_true (by omega)) (Ev.pos rfl (bad (by omega)))
 ·exact Ev.call (beyond_true (by omega)) (Ev.pos rfl (bad (by omega)))
theorem refAged_eq {r0 r1 d0 d1 n : Int} (a0 : -1000000000000 ≤ r0 ∧ r0 ≤ 1000000000000) (a1 : -1000000000000 ≤ r1 ∧ r1 ≤ 1000000000000) (b0 : -1000000 ≤ d0 ∧ d0 ≤ 1000000) (b1 : -1000000 ≤ d1 ∧ d1 ≤ 1000000) (n0 : 0 ≤ n) (n1 : n ≤ 1000000) :
  R_aged.f r0 r1 d0 d1 n = some (agedLo r0 d0 n,agedHi r1 d1 n) := by
 have p0 := aged_prod b0.1 b0.2 n0 n1
 have p1 := aged_prod b1.1 b1.2 n0 n1
 unfold R_aged.f agedLo agedHi
 rw [wrap64_eq (n := n * d0) (by omega),wrap64_eq (n := n * d1) (by omega),refDown_eq (by omega) (by omega),refUp_eq (by omega) (by omega)]
 simp only [Option.bind_some]
 rw [wrap64_eq (by omega),wrap64_eq (by omega)]
/-- What both answer of an aged range. -/
def agedP (r0 r1 d0 d1 n : Int) : Int × Int × Int := if driftErr r0 r1 d0 d1 ≠ 0 then (0,0,driftErr r0 r1 d0 d1) else if n < 0 ∨ n > 1000000 then (0,0,2) else (agedLo r0 d0 n,agedHi r1 d1 n,0)
theorem aged_any (r0 r1 d0 d1 n : Int) (k : Nat) : gauge_Aged.f (k + 1) r0 r1 d0 d1 n = some (agedP r0 r1 d0 d1 n) := by
 unfold gauge_Aged.f agedP
 rw [gauge_checkDrift.eq]
 simp only [Option.bind_some]
 by_cases h : driftErr r0 r1 d0 d1 = 0
 ·rw [if_pos h,if_neg (show ¬ driftErr r0 r1 d0 d1 ≠ 0 by omega)]
  by_cases hn : n < 0 ∨ n > 1000000
  ·rw [if_pos hn,outside_true hn];rfl
  ·rw [if_neg hn,outside_false (by omega)]
   have := driftErr_zero h
   simp only [Option.bind_some]
   rw [if_neg (by decide),gauge_aged.eq (by omega) (by omega) (by omega) (by omega) (by omega) (by omega)]
   rfl
 ·rw [if_neg h,if_pos h]
theorem refAged_ev (r0 r1 d0 d1 n : Int) : Ev (fun k => R_Aged.f k r0 r1 d0 d1 n) (agedP r0 r1 d0 d1 n) := by
 unfold R_Aged.f agedP
 refine Ev.bind (refCheckAge_ev r0 r1 d0 d1) ?_
 by_cases h : driftErr r0 r1 d0 d1 = 0
 ·rw [if_neg (show ¬ driftErr r0 r1 d0 d1 ≠ 0 by omega)]
  refine Ev.pos h ?_
  by_cases hn : n < 0 ∨ n > 1000000
  ·rw [if_pos hn];exact Ev.call (beyond_true hn) (Ev.pos rfl (Ev.done rfl))
  ·rw [if_neg hn]
   have := driftErr_zero h
   exact Ev.call (beyond_false (by omega)) (Ev.neg (by decide) (Ev.call (refAged_eq (by omega) (by omega) (by omega) (by omega) (by omega) (by omega)) (Ev.done rfl)))
 ·rw [if_pos h];exact Ev.neg h (Ev.done rfl)
/-- What both answer of how long a range keeps its limits. -/
def keepsAll (r0 r1 d0 d1 l0 l1 : Int) : Int × Int × Int := if keepsErr r0 r1 d0 d1 l0 l1 ≠ 0 then (0,0,keepsErr r0 r1 d0 d1 l0 l1) else (keepsP sureB r0 r1 d0 d1 l0 l1,keepsP mayB r0 r1 d0 d1 l0 l1,0)
theorem refKeeps_l (r0 r1 d0 d1 l0 l1 : Int) (a0 : -1000000000000 ≤ r0 ∧ r0 ≤ 1000000000000) (a1 : -1000000000000 ≤ r1 ∧ r1 ≤ 1000000000000) (b0 : -1000000 ≤ d0 ∧ d0 ≤ 1000000) (b1 : -1000000 ≤ d1 ∧ d1 ≤ 1000000) (LS LM : Nat)
  (hS : LS = leastTrue (overP sureB r0 r1 d0 d1 l0 l1) 1000001) (hM : LM = leastTrue (overP mayB r0 r1 d0 d1 l0 l1) 1000001) :
  ∀ (d n : Nat),n + d = 1000001 → n ≤ LM → Ev (fun k => R_Keeps.l0 k (decide (n ≤ LS)) true (n : Int) r0 r1 d0 d1 l0 l1 ((min n LS : Nat) - 1 : Int) ((n : Int) - 1)) ((LS : Int) - 1,(LM : Int) - 1,0) := by
 obtain ⟨s1,s2⟩ := leastTrue_spec (overP sureB r0 r1 d0 d1 l0 l1) 1000001
 obtain ⟨m1,m2⟩ := leastTrue_spec (overP mayB r0 r1 d0 d1 l0 l1) 1000001
 have s3 := leastTrue_le (overP sureB r0 r1 d0 d1 l0 l1) 1000001
 have m3 := leastTrue_le (overP mayB r0 r1 d0 d1 l0 l1) 1000001
 rw [← hS] at s1 s2 s3
 rw [← hM] at m1 m2 m3
 clear hS hM
 have fin : ∀ (x : Bool) (n lo hi : Int),Ev (fun k => R_Keeps.j1 k x n false r0 r1 d0 d1 l0 l1 lo hi) (lo,hi,0) := fun x n lo hi => Ev.step (fun k => by rw [R_Keeps.j1]) (Ev.neg (by decide) (Ev.done rfl))
 have stop : ∀ (x : Bool) (n lo hi : Int),Ev (fun k => R_Keeps.l0 k x false n r0 r1 d0 d1 l0 l1 lo hi) (lo,hi,0) := fun x n lo hi => by
  refine Ev.step (fun k => by rw [R_Keeps.l0]) ?_
  by_cases h : n ≤ 1000000
  ·exact Ev.pos h (fin ..)
  ·exact Ev.neg h (fin ..)
 intro d
 induction d with
 | zero =>
  intro n hn hle
  refine Ev.step (fun k => by rw [R_Keeps.l0]) (Ev.neg (by omega) ?_)
  have e1 : ((min n LS : Nat) - 1 : Int) = (LS : Int) - 1 := by omega
  have e2 : (n : Int) - 1 = (LM : Int) - 1 := by omega
  rw [e1,e2]
  exact fin ..
 | succ d ih =>
  intro n hn hle
  refine Ev.step (fun k => by rw [R_Keeps.l0]) (Ev.pos (by omega) ?_)
  refine Ev.step (fun k => by rw [R_Keeps.j1]) (Ev.pos rfl ?_)
  refine Ev.call (refAged_eq a0 a1 b0 b1 (by omega) (by omega)) (Ev.bind (refVerdict_ev _ _ _ _) ?_)
  have es : overP sureB r0 r1 d0 d1 l0 l1 n = !(verdictP (agedLo r0 d0 n) (agedHi r1 d1 n) l0 l1 == 1) := rfl
  have em : overP mayB r0 r1 d0 d1 l0 l1 n = !(verdictP (agedLo r0 d0 n) (agedHi r1 d1 n) l0 l1 != 2) := rfl
  generalize verdictP (agedLo r0 d0 n) (agedHi r1 d1 n) l0 l1 = v at es em ⊢
  have w : wrap64 ((n : Int) + 1) = ((n + 1 : Nat) : Int) := by rw [wrap64_eq (by omega)];omega
  have ls : v = 1 → n ≤ LS → n + 1 ≤ LS := fun hv h => by
   rcases Nat.lt_or_ge n LS with h' | h'
   ·exact h'
   ·have e : n = LS := by omega
    have := s2 (by omega)
    rw [← e,es,hv] at this
    exact absurd this (by decide)
  have ls2 : v ≠ 1 → LS ≤ n := fun hv => by
   rcases Nat.lt_or_ge n LS with h' | h'
   ·have := s1 n h'
    rw [es] at this
    simp [hv] at this
   ·exact h'
  have lm : v ≠ 2 → n + 1 ≤ LM := fun hv => by
   rcases Nat.lt_or_ge n LM with h' | h'
   ·exact h'
   ·have e : n = LM := by omega
    have := m2 (by omega)
    rw [← e,em] at this
    simp [hv] at this
  have lm2 : v = 2 → LM ≤ n := fun hv => by
   rcases Nat.lt_or_ge n LM with h' | h'
   ·have := m1 n h'
    rw [em,hv] at this
    exact absurd this (by decide)
   ·exact h'
  have go : ∀ (x : Bool),x = decide (n + 1 ≤ LS) → (x = true → v = 1) → Ev (fun k => R_Keeps.j2 k x (n : Int) v r0 r1 d0 d1 l0 l1 ((min n LS : Nat) - 1 : Int) ((n : Int) - 1)) ((LS : Int) - 1,(LM : Int) - 1,0) := by
   intro x hx hv
   refine Ev.step (fun k => by rw [R_Keeps.j2]) ?_
   cases x with
   | true =>
    have hv := hv rfl
    have hs := of_decide_eq_true hx.symm
    refine Ev.pos rfl (Ev.neg (by omega) ?_)
    have hi := ih (n + 1) (by omega) (lm (by omega))
    rw [decide_eq_true hs,show ((min (n + 1) LS : Nat) - 1 : Int) = n by omega,show (((n + 1 : Nat) : Int) - 1) = n by omega] at hi
    rw [w,hv]
    exact hi
   | false =>
    have hs : ¬ n + 1 ≤ LS := of_decide_eq_false hx.symm
    refine Ev.neg (by decide) ?_
    have e1 : ((min n LS : Nat) - 1 : Int) = (LS : Int) - 1 := by omega
    rw [e1]
    by_cases h2 : v = 2
    ·have := lm2 h2
     refine Ev.pos h2 ?_
     rw [h2]
     have e2 : (n : Int) - 1 = (LM : Int) - 1 := by omega
     rw [e2]
     exact stop ..
    ·refine Ev.neg h2 ?_
     have hi := ih (n + 1) (by omega) (lm h2)
     rw [decide_eq_false hs,show ((min (n + 1) LS : Nat) - 1 : Int) = (LS : Int) - 1 by omega,show (((n + 1 : Nat) : Int) - 1) = n by omega] at hi
     rw [w,show (v != 2) = true by simp [h2]]
     exact hi
  by_cases hs : n ≤ LS
  ·refine Ev.pos (decide_eq_true hs) (go _ ?_ (fun h => by simpa using h))
   by_cases hv : v = 1
   ·rw [hv,decide_eq_true (ls hv hs)];rfl
   ·have := ls2 hv
    rw [decide_eq_false (by omega)]
    simp [hv]
  ·refine Ev.neg (by rw [decide_eq_false hs];decide) (go _ ?_ (fun h => by cases h))
   rw [decide_eq_false (by omega)]
theorem refKeeps_ev (r0 r1 d0 d1 l0 l1 : Int) : Ev (fun k => R_Keeps.f k r0 r1 d0 d1 l0 l1) (keepsAll r0 r1 d0 d1 l0 l1) := by
 unfold R_Keeps.f keepsAll keepsErr
 refine Ev.bind (refCheckAge_ev r0 r1 d0 d1) ?_
 by_cases h : driftErr r0 r1 d0 d1 = 0
 ·rw [if_neg (show ¬ driftErr r0 r1 d0 d1 ≠ 0 by omega)]
  refine Ev.pos h (Ev.bind (refRange_ev l0 l1 _ _) ?_)
  by_cases h2 : rangeErr l0 l1 (-1000000000) 1000000000 = 0
  ·rw [if_neg (show ¬ rangeErr l0 l1 (-1000000000) 1000000000 ≠ 0 by omega)]
   refine Ev.pos h2 ?_
   have hd := driftErr_zero h
   obtain ⟨LS,hS⟩ : ∃ LS,LS = leastTrue (overP sureB r0 r1 d0 d1 l0 l1) 1000001 := ⟨_,rfl⟩
   obtain ⟨LM,hM⟩ : ∃ LM,LM = leastTrue (overP mayB r0 r1 d0 d1 l0 l1) 1000001 := ⟨_,rfl⟩
   have e1 : keepsP sureB r0 r1 d0 d1 l0 l1 = (LS : Int) - 1 := by unfold keepsP;rw [← hS]
   have e2 : keepsP mayB r0 r1 d0 d1 l0 l1 = (LM : Int) - 1 := by unfold keepsP;rw [← hM]
   have := refKeeps_l r0 r1 d0 d1 l0 l1 (by omega) (by omega) (by omega) (by omega) LS LM hS hM 1000001 0 (Nat.zero_add _) (Nat.zero_le _)
   rw [decide_eq_true (Nat.zero_le _),Nat.zero_min] at this
   rw [e1,e2]
   exact this
  ·rw [if_pos h2];exact Ev.neg h2 (Ev.done rfl)
 ·rw [if_pos h,if_pos h];exact Ev.neg h (Ev.done rfl)
/-! ### AgesWalk: the walk,by hand -/
theorem run_field_34_0 {ρ : Operand → Value} {o : Oper} {x : Operand} {p : Addr} (w : World) (h : o.op = .fieldAddr 34 x 0) (hx : ρ x = .pointer (some p)) :
  (execOp ρ o).run Try.prog w = .ok (.value (.pointer (some p))) w := by
 have hu34 := Try.underlying34
 unfold execOp;rw [h];simp only [hx];clear h hx
 go_simp
theorem run_load_3 {ρ : Operand → Value} {o : Oper} {x : Operand} {p : Addr} {v : Value} (w : World) (h : o.op = .load 3 x) (hx : ρ x = .pointer (some p)) (hc : w.cell? p = some v) :
  (execOp ρ o).run Try.prog w = .ok (.value v) w := by
 have hu := Try.underlying3
 unfold execOp;rw [h];simp only [hx];clear h hx
 go_simp
theorem run_field_34_1 {ρ : Operand → Value} {o : Oper} {x : Operand} {p : Addr} (w : World) (h : o.op = .fieldAddr 34 x 1) (hx : ρ x = .pointer (some p)) :
  (execOp ρ o).run Try.prog w = .ok (.value (.pointer (some ⟨p.block,p.off + 1,none⟩))) w := by
 have hu34 := Try.underlying34
 unfold execOp;rw [h];simp only [hx];clear h hx
 go_simp
theorem run_load_34 {ρ : Operand → Value} {o : Oper} {x : Operand} {b i : Nat} {v0 v1 : Value} (w : World) (h : o.op = .load 34 x) (hx : ρ x = .pointer (some ⟨b,i,none⟩)) (c0 : w.cell? ⟨b,i,none⟩ = some v0) (c1 : w.cell? ⟨b,i + 1,none⟩ = some v1) :
  (execOp ρ o).run Try.prog w = .ok (.value (.agg #[v0,v1])) w := by
 have hu34 := Try.underlying34
 unfold execOp;rw [h];simp only [hx];clear h hx
 go_simp
theorem run_row_56_agg2_agg2 {ρ : Operand → Value} {o : Oper} {x0 x1 : Operand} {a0_0 a0_1 : Int} {a1_0 a1_1 : Int} (w : World) (h : o.op = .buildSlice 56 2 #[(0,x0),(1,x1)]) (h0 : ρ x0 = .agg #[.int .i64 a0_0,.int .i64 a0_1]) (h1 : ρ x1 = .agg #[.int .i64 a1_0,.int .i64 a1_1]) :
  (execOp ρ o).run Try.prog w = .ok (.value (.slice (some ⟨w.heap.size,0,none⟩) 2 2)) (w.alloc (.cells #[.int .i64 a0_0,.int .i64 a0_1,.int .i64 a1_0,.int .i64 a1_1] 34)) := by
 have hu56 := Try.underlying56
 have hu34 := Try.underlying34
 unfold execOp;rw [h];simp only [List.map_toArray,List.map_cons,List.map_nil,h0,h1];clear h h0 h1
 go_simp
theorem run_row_23_int_int {ρ : Operand → Value} {o : Oper} {x0 x1 : Operand} {a0 : Int} {a1 : Int} (w : World) (h : o.op = .buildSlice 23 2 #[(0,x0),(1,x1)]) (h0 : ρ x0 = .int .i64 a0) (h1 : ρ x1 = .int .i64 a1) :
  (execOp ρ o).run Try.prog w = .ok (.value (.slice (some ⟨w.heap.size,0,none⟩) 2 2)) (w.alloc (.cells #[.int .i64 a0,.int .i64 a1] 3)) := by
 have hu23 := Try.underlying23
 unfold execOp;rw [h];simp only [List.map_toArray,List.map_cons,List.map_nil,h0,h1];clear h h0 h1
 go_simp
theorem run_at_56 {ρ : Operand → Value} {o : Oper} {x y : Operand} {b n c : Nat} {k : Int} (w : World) (h : o.op = .indexAddr 56 x y) (hx : ρ x = .slice (some ⟨b,0,none⟩) n c) (hy : ρ y = .int .i64 k) (h0 : 0 ≤ k) (h1 : k < n) :
  (execOp ρ o).run Try.prog w = .ok (.value (.pointer (some ⟨b,k.toNat * 2,none⟩))) w := by
 have hu56 := Try.underlying56
 have hu34 := Try.underlying34
 unfold execOp;rw [h];simp only [hx,hy];clear h hx hy
 go_simp
theorem run_at_23 {ρ : Operand → Value} {o : Oper} {x y : Operand} {b n c : Nat} {k : Int} (w : World) (h : o.op = .indexAddr 23 x y) (hx : ρ x = .slice (some ⟨b,0,none⟩) n c) (hy : ρ y = .int .i64 k) (h0 : 0 ≤ k) (h1 : k < n) :
  (execOp ρ o).run Try.prog w = .ok (.value (.pointer (some ⟨b,k.toNat,none⟩))) w := by
 have hu23 := Try.underlying23
 unfold execOp;rw [h];simp only [hx,hy];clear h hx hy
 go_simp
theorem run_extract_0 {P : Program} {ρ : Operand → Value} {o : Oper} {x : Operand} {u v : Value} (w : World) (h : o.op = .extract x 0) (hx : ρ x = .tuple #[u,v]) : (execOp ρ o).run P w = .ok (.value u) w := by
 unfold execOp;rw [h];simp only [hx];clear h hx
 go_simp
theorem run_extract_1 {P : Program} {ρ : Operand → Value} {o : Oper} {x : Operand} {u v : Value} (w : World) (h : o.op = .extract x 1) (hx : ρ x = .tuple #[u,v]) : (execOp ρ o).run P w = .ok (.value v) w := by
 unfold execOp;rw [h];simp only [hx];clear h hx
 go_simp
set_option maxHeartbeats 8000000 in
set_option maxRecDepth 100000 in
theorem Ages.region3 {ops : Array Oper} (hops : (Try.f10.body.bind (regionOf 3)) = some ops) {Q : Exit → Act → World → Prop} {ds : List Deferred} {id : Nat} (g : Nat) (s0 s1 s2 s3 : Int) (v0 : Int) (v1 : Int) (v2a v2b : Int) {x0 x1 x2 x3 x4 x5 x6 x7 x8 x9 x10 x12 x13 x14 x15 x16 x17 x18 x19 x20 x21 x22 x23 x24 x25 x26 x27 x28 x29 x30 x31 x32 x33 x34 x35 x36 x37 x38 x39 x40 x41 x42 x43 x44 x45 x46 x47 x48 x49 x50 x51 x52 x53 x54 x55 x56 x57 x58 x59 x60 x61 x62 x63 x64 x65 x66 x67 x68 x69 x70 x71 x72 x73 x74 x75 x76 x77 x78 x79 x80 x81 x82 x83 x84 x85 x86 x87 x88 x89 x90 x91 x92 x93 x94 x95 x96 x97 x98 x99 x100 x101 x102 x103 x104 x105 x106 x107 x108 x109 x110 x111 x112 x113 x114 x115 x116 x117 x118 x119 x120 x121 x122 x123 x124 x125 x126 x127 x128 x129 x130 x131 x132 x133 x134 x135 x136 x137 x138 x139 x140 x141 x142 x143 x144 x145 x146 x147 x148 x149 x150 x151 x152 x153 x154 x155 x156 x157 x158 x159 x160 : Value} (w0 : World) {w : World} (hI : IsS76 w0 w g s0) (hb0 : Below w0.heap.size w0 w) (h0 : 0 ≤ v0 ∧ v0 < 3) (h1 : 0 ≤ v1 ∧ v1 < 3) (hr : 0 ≤ rd [0,5,2000] v0 ∧ rd [0,5,2000] v0 ≤ 2000) (e0 : D_Upto.f s0 3 = some (v0,s1)) (e1 : D_Upto.f s1 3 = some (v1,s2)) (e2 : D_Range.f s2 (-(rd [0,5,2000] v0)) (rd [0,5,2000] v1) = some (v2a,v2b,s3))
  (K : ∀ (u33 u34 u35 u36 u37 u38 u39 u40 u41 u42 u43 u44 u45 : Value) (b13 : Nat) (w' : World),IsS76 w0 w' g s3 → Below w0.heap.size w0 w' → KeepBut w w' g none → b13 ≠ g → w.heap.size ≤ b13 → w'.heap[b13]? = some (.cells #[.int .i64 v2a,.int .i64 v2b] 34 (0,0)) → Q .normal { tmps := (x0 :: x1 :: x2 :: x3 :: x4 :: x5 :: x6 :: x7 :: x8 :: x9 :: x10 :: .pointer (some ⟨g,0,none⟩) :: x12 :: .pointer (some ⟨b13,0,none⟩) :: x14 :: x15 :: x16 :: x17 :: x18 :: x19 :: x20 :: x21 :: x22 :: x23 :: x24 :: x25 :: x26 :: x27 :: x28 :: x29 :: x30 :: x31 :: x32 :: u33 :: u34 :: u35 :: u36 :: u37 :: u38 :: u39 :: u40 :: u41 :: u42 :: u43 :: u44 :: u45 :: x46 :: x47 :: x48 :: x49 :: x50 :: x51 :: x52 :: x53 :: x54 :: x55 :: x56 :: x57 :: x58 :: x59 :: x60 :: x61 :: x62 :: x63 :: x64 :: x65 :: x66 :: x67 :: x68 :: x69 :: x70 :: x71 :: x72 :: x73 :: x74 :: x75 :: x76 :: x77 :: x78 :: x79 :: x80 :: x81 :: x82 :: x83 :: x84 :: x85 :: x86 :: x87 :: x88 :: x89 :: x90 :: x91 :: x92 :: x93 :: x94 :: x95 :: x96 :: x97 :: x98 :: x99 :: x100 :: x101 :: x102 :: x103 :: x104 :: x105 :: x106 :: x107 :: x108 :: x109 :: x110 :: x111 :: x112 :: x113 :: x114 :: x115 :: x116 :: x117 :: x118 :: x119 :: x120 :: x121 :: x122 :: x123 :: x124 :: x125 :: x126 :: x127 :: x128 :: x129 :: x130 :: x131 :: x132 :: x133 :: x134 :: x135 :: x136 :: x137 :: x138 :: x139 :: x140 :: x141 :: x142 :: x143 :: x144 :: x145 :: x146 :: x147 :: x148 :: x149 :: x150 :: x151 :: x152 :: x153 :: x154 :: x155 :: x156 :: x157 :: x158 :: x159 :: x160 :: []).toArray,defers := ds } w') :
  (Code.region id ops true).wp Try.prog Q { tmps := (x0 :: x1 :: x2 :: x3 :: x4 :: x5 :: x6 :: x7 :: x8 :: x9 :: x10 :: .pointer (some ⟨g,0,none⟩) :: x12 :: x13 :: x14 :: x15 :: x16 :: x17 :: x18 :: x19 :: x20 :: x21 :: x22 :: x23 :: x24 :: x25 :: x26 :: x27 :: x28 :: x29 :: x30 :: x31 :: x32 :: x33 :: x34 :: x35 :: x36 :: x37 :: x38 :: x39 :: x40 :: x41 :: x42 :: x43 :: x44 :: x45 :: x46 :: x47 :: x48 :: x49 :: x50 :: x51 :: x52 :: x53 :: x54 :: x55 :: x56 :: x57 :: x58 :: x59 :: x60 :: x61 :: x62 :: x63 :: x64 :: x65 :: x66 :: x67 :: x68 :: x69 :: x70 :: x71 :: x72 :: x73 :: x74 :: x75 :: x76 :: x77 :: x78 :: x79 :: x80 :: x81 :: x82 :: x83 :: x84 :: x85 :: x86 :: x87 :: x88 :: x89 :: x90 :: x91 :: x92 :: x93 :: x94 :: x95 :: x96 :: x97 :: x98 :: x99 :: x100 :: x101 :: x102 :: x103 :: x104 :: x105 :: x106 :: x107 :: x108 :: x109 :: x110 :: x111 :: x112 :: x113 :: x114 :: x115 :: x116 :: x117 :: x118 :: x119 :: x120 :: x121 :: x122 :: x123 :: x124 :: x125 :: x126 :: x127 :: x128 :: x129 :: x130 :: x131 :: x132 :: x133 :: x134 :: x135 :: x136 :: x137 :: x138 :: x139 :: x140 :: x141 :: x142 :: x143 :: x144 :: x145 :: x146 :: x147 :: x148 :: x149 :: x150 :: x151 :: x152 :: x153 :: x154 :: x155 :: x156 :: x157 :: x158 :: x159 :: x160 :: []).toArray,defers := ds } w := by
 obtain rfl := Option.some.inj (show some _ = some ops from hops)
 have hn : (([(33,.val (.pointer (some ⟨g,0,none⟩))),(34,.row 3 #[.int .i64 0,.int .i64 5,.int .i64 2000]),(35,.val (.pointer (some ⟨g,0,none⟩))),(36,.val (.int .i64 v0)),(37,.elem 3 #[.int .i64 0,.int .i64 5,.int .i64 2000] (v0).toNat),(38,.val (.int .i64 (rd [0,5,2000] v0))),(39,.val (.int .i64 (-(rd [0,5,2000] v0)))),(40,.row 3 #[.int .i64 0,.int .i64 5,.int .i64 2000]),(41,.val (.pointer (some ⟨g,0,none⟩))),(42,.val (.int .i64 v1)),(43,.elem 3 #[.int .i64 0,.int .i64 5,.int .i64 2000] (v1).toNat),(44,.val (.int .i64 (rd [0,5,2000] v1))),(45,.val (.agg #[.int .i64 v2a,.int .i64 v2b])),(13,.var 34 #[.int .i64 0,.int .i64 0] 14 #[.int .i64 v2a,.int .i64 v2b]),(1014,.set 13)] : List (Nat × Left)).map (·.1)).Nodup := by simp only [List.map_cons,List.map_nil];decide
 have hcn : ([3,9,12] : List Nat).Nodup := by decide
 refine wp_region_alln 15 (by kernel_rfl) rfl (by kernel_rfl) (DiceAt g (fun k => ([s0,s1,s2,s3] : List Int).getD k 0) [3,9,12] [(33,.val (.pointer (some ⟨g,0,none⟩))),(34,.row 3 #[.int .i64 0,.int .i64 5,.int .i64 2000]),(35,.val (.pointer (some ⟨g,0,none⟩))),(36,.val (.int .i64 v0)),(37,.elem 3 #[.int .i64 0,.int .i64 5,.int .i64 2000] (v0).toNat),(38,.val (.int .i64 (rd [0,5,2000] v0))),(39,.val (.int .i64 (-(rd [0,5,2000] v0)))),(40,.row 3 #[.int .i64 0,.int .i64 5,.int .i64 2000]),(41,.val (.pointer (some ⟨g,0,none⟩))),(42,.val (.int .i64 v1)),(43,.elem 3 #[.int .i64 0,.int .i64 5,.int .i64 2000] (v1).toNat),(44,.val (.int .i64 (rd [0,5,2000] v1))),(45,.val (.agg #[.int .i64 v2a,.int .i64 v2b])),(13,.var 34 #[.int .i64 0,.int .i64 0] 14 #[.int .i64 v2a,.int .i64 v2b]),(1014,.set 13)] w0 w ((x0 :: x1 :: x2 :: x3 :: x4 :: x5 :: x6 :: x7 :: x8 :: x9 :: x10 :: .pointer (some ⟨g,0,none⟩) :: x12 :: x13 :: x14 :: x15 :: x16 :: x17 :: x18 :: x19 :: x20 :: x21 :: x22 :: x23 :: x24 :: x25 :: x26 :: x27 :: x28 :: x29 :: x30 :: x31 :: x32 :: x33 :: x34 :: x35 :: x36 :: x37 :: x38 :: x39 :: x40 :: x41 :: x42 :: x43 :: x44 :: x45 :: x46 :: x47 :: x48 :: x49 :: x50 :: x51 :: x52 :: x53 :: x54 :: x55 :: x56 :: x57 :: x58 :: x59 :: x60 :: x61 :: x62 :: x63 :: x64 :: x65 :: x66 :: x67 :: x68 :: x69 :: x70 :: x71 :: x72 :: x73 :: x74 :: x75 :: x76 :: x77 :: x78 :: x79 :: x80 :: x81 :: x82 :: x83 :: x84 :: x85 :: x86 :: x87 :: x88 :: x89 :: x90 :: x91 :: x92 :: x93 :: x94 :: x95 :: x96 :: x97 :: x98 :: x99 :: x100 :: x101 :: x102 :: x103 :: x104 :: x105 :: x106 :: x107 :: x108 :: x109 :: x110 :: x111 :: x112 :: x113 :: x114 :: x115 :: x116 :: x117 :: x118 :: x119 :: x120 :: x121 :: x122 :: x123 :: x124 :: x125 :: x126 :: x127 :: x128 :: x129 :: x130 :: x131 :: x132 :: x133 :: x134 :: x135 :: x136 :: x137 :: x138 :: x139 :: x140 :: x141 :: x142 :: x143 :: x144 :: x145 :: x146 :: x147 :: x148 :: x149 :: x150 :: x151 :: x152 :: x153 :: x154 :: x155 :: x156 :: x157 :: x158 :: x159 :: x160 :: []).toArray) ds) (DiceAt.start (n := 15) rfl hI hb0) ?_ ?_
 ·intro i o hi ho L a w h hL hf hall
  have hcase : i = 0 ∨ i = 1 ∨ i = 2 ∨ i = 3 ∨ i = 4 ∨ i = 5 ∨ i = 6 ∨ i = 7 ∨ i = 8 ∨ i = 9 ∨ i = 10 ∨ i = 11 ∨ i = 12 ∨ i = 13 ∨ i = 14 := by omega
  clear hi K
  rcases hcase with rfl | rfl | rfl | rfl | rfl | rfl | rfl | rfl | rfl | rfl | rfl | rfl | rfl | rfl | rfl
  ·obtain rfl := Option.some.inj (show some _ = some o from ho)
   have f11 : a.tmps.getD 11 undef = .pointer (some ⟨g,0,none⟩) := h.rest 11 rfl
   exact h.op ho rfl rfl rfl hn (Nat.lt_of_lt_of_eq (by decide : 33 < 161) rfl) rfl (run_move w rfl f11) (Below.refl _ _) rfl rfl
  ·obtain rfl := Option.some.inj (show some _ = some o from ho)
   exact h.op ho rfl rfl rfl hn (Nat.lt_of_lt_of_eq (by decide : 34 < 161) rfl) rfl (run_row3 w rfl rfl rfl rfl) (bA_ (Below.refl _ _) _) rfl ⟨w.heap.size,h.fresh,rfl,heap_alloc_new w _⟩
  ·obtain rfl := Option.some.inj (show some _ = some o from ho)
   have f11 : a.tmps.getD 11 undef = .pointer (some ⟨g,0,none⟩) := h.rest 11 rfl
   exact h.op ho rfl rfl rfl hn (Nat.lt_of_lt_of_eq (by decide : 35 < 161) rfl) rfl (run_move w rfl f11) (Below.refl _ _) rfl rfl
  ·obtain rfl := Option.some.inj (show some _ = some o from ho)
   have l2 := listed_of hall 2 rfl
   have f35 : a.tmps.getD 35 undef = .pointer (some ⟨g,0,none⟩) := h.facts 2 _ _ rfl l2
   exact h.call (f := 16) (args := #[.pointer (some ⟨g,0,none⟩),.int .i64 3]) ho rfl rfl rfl hn (Nat.lt_of_lt_of_eq (by decide : 36 < 161) rfl) (j := 0) rfl hcn hf rfl (fun _ h0 _ => absurd rfl h0) (by rw [hL];rfl) (run_call w rfl rfl (by simp only [List.map_toArray,List.map_cons,List.map_nil];rw [show a.eval (.tmp 35) = _ from f35];rfl) (enters_of Try.func16 (by kernel_rfl) rfl) rfl) (fun hI hB => D_Upto.calls g s0 3 v0 s1 w0 w hI hB e0)
  ·obtain rfl := Option.some.inj (show some _ = some o from ho)
   have l1 := listed_of hall 1 rfl
   obtain ⟨b_1,b1_1,b2_1,b3_1⟩ := h.facts 1 _ _ rfl l1
   have l3 := listed_of hall 3 rfl
   have f36 : a.tmps.getD 36 undef = .int .i64 v0 := h.facts 3 _ _ rfl l3
   exact h.op ho rfl rfl rfl hn (Nat.lt_of_lt_of_eq (by decide : 37 < 161) rfl) rfl (run_at w rfl b2_1 f36 (by omega) (by simp;omega)) (Below.refl _ _) rfl ⟨b_1,b1_1,rfl,b3_1⟩
  ·obtain rfl := Option.some.inj (show some _ = some o from ho)
   have l4 := listed_of hall 4 rfl
   obtain ⟨b_4,b1_4,b2_4,b3_4⟩ := h.facts 4 _ _ rfl l4
   exact h.op ho rfl rfl rfl hn (Nat.lt_of_lt_of_eq (by decide : 38 < 161) rfl) rfl (run_load w rfl b2_4 (cell_row3 b3_4 (by omega) (by omega))) (Below.refl _ _) rfl rfl
  ·obtain rfl := Option.some.inj (show some _ = some o from ho)
   have l5 := listed_of hall 5 rfl
   have f38 : a.tmps.getD 38 undef = .int .i64 (rd [0,5,2000] v0) := h.facts 5 _ _ rfl l5
   exact h.op ho rfl rfl rfl hn (Nat.lt_of_lt_of_eq (by decide : 39 < 161) rfl) rfl (run_neg w rfl f38 (by omega) (by omega)) (Below.refl _ _) rfl rfl
  ·obtain rfl := Option.some.inj (show some _ = some o from ho)
   exact h.op ho rfl rfl rfl hn (Nat.lt_of_lt_of_eq (by decide : 40 < 161) rfl) rfl (run_row3 w rfl rfl rfl rfl) (bA_ (Below.refl _ _) _) rfl ⟨w.heap.size,h.fresh,rfl,heap_alloc_new w _⟩
  ·obtain rfl := Option.some.inj (show some _ = some o from ho)
   have f11 : a.tmps.getD 11 undef = .pointer (some ⟨g,0,none⟩) := h.rest 11 rfl
   exact h.op ho rfl rfl rfl hn (Nat.lt_of_lt_of_eq (by decide : 41 < 161) rfl) rfl (run_move w rfl f11) (Below.refl _ _) rfl rfl
  ·obtain rfl := Option.some.inj (show some _ = some o from ho)
   have l8 := listed_of hall 8 rfl
   have f41 : a.tmps.getD 41 undef = .pointer (some ⟨g,0,none⟩) := h.facts 8 _ _ rfl l8
   exact h.call (f := 16) (args := #[.pointer (some ⟨g,0,none⟩),.int .i64 3]) ho rfl rfl rfl hn (Nat.lt_of_lt_of_eq (by decide : 42 < 161) rfl) (j := 1) rfl hcn hf rfl (fun i' _ e => by obtain rfl := Option.some.inj (show some _ = some i' from e);exact listed_of hall 3 rfl) (by rw [hL];rfl) (run_call w rfl rfl (by simp only [List.map_toArray,List.map_cons,List.map_nil];rw [show a.eval (.tmp 41) = _ from f41];rfl) (enters_of Try.func16 (by kernel_rfl) rfl) rfl) (fun hI hB => D_Upto.calls g s1 3 v1 s2 w0 w hI hB e1)
  ·obtain rfl := Option.some.inj (show some _ = some o from ho)
   have l7 := listed_of hall 7 rfl
   obtain ⟨b_7,b1_7,b2_7,b3_7⟩ := h.facts 7 _ _ rfl l7
   have l9 := listed_of hall 9 rfl
   have f42 : a.tmps.getD 42 undef = .int .i64 v1 := h.facts 9 _ _ rfl l9
   exact h.op ho rfl rfl rfl hn (Nat.lt_of_lt_of_eq (by decide : 43 < 161) rfl) rfl (run_at w rfl b2_7 f42 (by omega) (by simp;omega)) (Below.refl _ _) rfl ⟨b_7,b1_7,rfl,b3_7⟩
  ·obtain rfl := Option.some.inj (show some _ = some o from ho)
   have l10 := listed_of hall 10 rfl
   obtain ⟨b_10,b1_10,b2_10,b3_10⟩ := h.facts 10 _ _ rfl l10
   exact h.op ho rfl rfl rfl hn (Nat.lt_of_lt_of_eq (by decide : 44 < 161) rfl) rfl (run_load w rfl b2_10 (cell_row3 b3_10 (by omega) (by omega))) (Below.refl _ _) rfl rfl
  ·obtain rfl := Option.some.inj (show some _ = some o from ho)
   have l0 := listed_of hall 0 rfl
   have f33 : a.tmps.getD 33 undef = .pointer (some ⟨g,0,none⟩) := h.facts 0 _ _ rfl l0
   have l6 := listed_of hall 6 rfl
   have f39 : a.tmps.getD 39 undef = .int .i64 (-(rd [0,5,2000] v0)) := h.facts 6 _ _ rfl l6
   have l11 := listed_of hall 11 rfl
   have f44 : a.tmps.getD 44 undef = .int .i64 (rd [0,5,2000] v1) := h.facts 11 _ _ rfl l11
   exact h.call (f := 25) (args := #[.pointer (some ⟨g,0,none⟩),.int .i64 (-(rd [0,5,2000] v0)),.int .i64 (rd [0,5,2000] v1)]) ho rfl rfl rfl hn (Nat.lt_of_lt_of_eq (by decide : 45 < 161) rfl) (j := 2) rfl hcn hf rfl (fun i' _ e => by obtain rfl := Option.some.inj (show some _ = some i' from e);exact listed_of hall 9 rfl) (by rw [hL];rfl) (run_call w rfl rfl (by simp only [List.map_toArray,List.map_cons,List.map_nil];rw [show a.eval (.tmp 33) = _ from f33];rw [show a.eval (.tmp 39) = _ from f39];rw [show a.eval (.tmp 44) = _ from f44];first | done | rfl) (enters_of Try.func25 (by kernel_rfl) rfl) rfl) (fun hI hB => D_Range.calls g s2 (-(rd [0,5,2000] v0)) (rd [0,5,2000] v1) v2a v2b s3 w0 w hI hB e2)
  ·obtain rfl := Option.some.inj (show some _ = some o from ho)
   exact h.var ho rfl rfl rfl rfl hn (Nat.lt_of_lt_of_eq (by decide : 13 < 161) rfl) rfl rfl hf (run_var2 w rfl)
  ·obtain rfl := Option.some.inj (show some _ = some o from ho)
   have l12 := listed_of hall 12 rfl
   have f45 : a.tmps.getD 45 undef = .agg #[.int .i64 v2a,.int .i64 v2b] := h.facts 12 _ _ rfl l12
   have l13 := listed_of hall 13 rfl
   exact h.store ho rfl rfl rfl rfl rfl hb0.size (by rw [hL];decide) rfl hf l13 (fun b p q => run_store2 rfl p f45 q)
 ·intro L a w' h hall
  obtain ⟨b13,b1_13,bn_13,b2_13,b3_13⟩ := h.facts 13 _ _ rfl (hall 13 (by omega))
  rw [if_pos (hall 14 (by omega))] at b3_13
  have hD : IsS76 w0 w' g s3 := h.done (by simp only [List.mem_cons,List.not_mem_nil,or_false];intro i hi;exact hall i (by omega))
  have e := h.frame (fun t => if t = 13 then .pointer (some ⟨b13,0,none⟩) else a.tmps.getD t undef) (by
   intro x hx _
   simp only [List.mem_cons,List.not_mem_nil,or_false] at hx
   rcases hx with rfl | rfl | rfl | rfl | rfl | rfl | rfl | rfl | rfl | rfl | rfl | rfl | rfl | rfl | rfl
   all_goals first | rfl | assumption)
  have k := K (a.tmps.getD 33 undef) (a.tmps.getD 34 undef) (a.tmps.getD 35 undef) (a.tmps.getD 36 undef) (a.tmps.getD 37 undef) (a.tmps.getD 38 undef) (a.tmps.getD 39 undef) (a.tmps.getD 40 undef) (a.tmps.getD 41 undef) (a.tmps.getD 42 undef) (a.tmps.getD 43 undef) (a.tmps.getD 44 undef) (a.tmps.getD 45 undef) b13 w' hD h.below h.keep b1_13 bn_13 b3_13
  clear K
  simp only [List.foldl_cons,List.foldl_nil,sB_,sS_,sZ_,List.set_nil,Nat.reduceEqDiff,reduceIte] at e
  rw [e]
  exact k
set_option maxHeartbeats 8000000 in
set_option maxRecDepth 100000 in
theorem Ages.region4 (b12 : Nat) (xa xb : Int) {ops : Array Oper} (hops : (Try.f10.body.bind (regionOf 4)) = some ops) {Q : Exit → Act → World → Prop} {ds : List Deferred} {id : Nat} (g : Nat) (s0 s1 s2 s3 : Int) (v0 : Int) (v1 : Int) (v2 : Int) {x0 x1 x2 x3 x4 x5 x6 x7 x8 x9 x10 x13 x14 x15 x16 x17 x18 x19 x20 x21 x22 x23 x24 x25 x26 x27 x28 x29 x30 x31 x32 x33 x34 x35 x36 x37 x38 x39 x40 x41 x42 x43 x44 x45 x46 x47 x48 x49 x50 x51 x52 x53 x54 x55 x56 x57 x58 x59 x60 x61 x62 x63 x64 x65 x66 x67 x68 x69 x70 x71 x72 x73 x74 x75 x76 x77 x78 x79 x80 x81 x82 x83 x84 x85 x86 x87 x88 x89 x90 x91 x92 x93 x94 x95 x96 x97 x98 x99 x100 x101 x102 x103 x104 x105 x106 x107 x108 x109 x110 x111 x112 x113 x114 x115 x116 x117 x118 x119 x120 x121 x122 x123 x124 x125 x126 x127 x128 x129 x130 x131 x132 x133 x134 x135 x136 x137 x138 x139 x140 x141 x142 x143 x144 x145 x146 x147 x148 x149 x150 x151 x152 x153 x154 x155 x156 x157 x158 x159 x160 : Value} (w0 : World) {w : World} (hI : IsS76 w0 w g s0) (hb0 : Below w0.heap.size w0 w) (hx : -1000 ≤ xa ∧ xa ≤ 1000 ∧ -1000 ≤ xb ∧ xb ≤ 1000) (h0 : 0 ≤ v0 ∧ v0 < 900) (h1 : 0 ≤ v1 ∧ v1 < 9) (h2 : 0 ≤ v2 ∧ v2 < 900) (q0 : ∀ W,KeepBut w W g none → W.cell? ⟨b12,0,none⟩ = some (.int .i64 xa)) (q1 : ∀ W,KeepBut w W g none → W.cell? ⟨b12,1,none⟩ = some (.int .i64 xb)) (e0 : D_Upto.f s0 900 = some (v0,s1)) (e1 : D_Upto.f s1 9 = some (v1,s2)) (e2 : D_Upto.f s2 900 = some (v2,s3))
  (K : ∀ (u46 u47 u48 u49 u50 u51 u52 u53 u54 u55 u56 u57 u58 u59 : Value) (b14 : Nat) (w' : World),IsS76 w0 w' g s3 → Below w0.heap.size w0 w' → KeepBut w w' g none → b14 ≠ g → w.heap.size ≤ b14 → w'.heap[b14]? = some (.cells #[.int .i64 ((xa - v0) + v1),.int .i64 (xb + v2)] 34 (0,0)) → Q .normal { tmps := (x0 :: x1 :: x2 :: x3 :: x4 :: x5 :: x6 :: x7 :: x8 :: x9 :: x10 :: .pointer (some ⟨g,0,none⟩) :: .pointer (some ⟨b12,0,none⟩) :: x13 :: .pointer (some ⟨b14,0,none⟩) :: x15 :: x16 :: x17 :: x18 :: x19 :: x20 :: x21 :: x22 :: x23 :: x24 :: x25 :: x26 :: x27 :: x28 :: x29 :: x30 :: x31 :: x32 :: x33 :: x34 :: x35 :: x36 :: x37 :: x38 :: x39 :: x40 :: x41 :: x42 :: x43 :: x44 :: x45 :: u46 :: u47 :: u48 :: u49 :: u50 :: u51 :: u52 :: u53 :: u54 :: u55 :: u56 :: u57 :: u58 :: u59 :: x60 :: x61 :: x62 :: x63 :: x64 :: x65 :: x66 :: x67 :: x68 :: x69 :: x70 :: x71 :: x72 :: x73 :: x74 :: x75 :: x76 :: x77 :: x78 :: x79 :: x80 :: x81 :: x82 :: x83 :: x84 :: x85 :: x86 :: x87 :: x88 :: x89 :: x90 :: x91 :: x92 :: x93 :: x94 :: x95 :: x96 :: x97 :: x98 :: x99 :: x100 :: x101 :: x102 :: x103 :: x104 :: x105 :: x106 :: x107 :: x108 :: x109 :: x110 :: x111 :: x112 :: x113 :: x114 :: x115 :: x116 :: x117 :: x118 :: x119 :: x120 :: x121 :: x122 :: x123 :: x124 :: x125 :: x126 :: x127 :: x128 :: x129 :: x130 :: x131 :: x132 :: x133 :: x134 :: x135 :: x136 :: x137 :: x138 :: x139 :: x140 :: x141 :: x142 :: x143 :: x144 :: x145 :: x146 :: x147 :: x148 :: x149 :: x150 :: x151 :: x152 :: x153 :: x154 :: x155 :: x156 :: x157 :: x158 :: x159 :: x160 :: []).toArray,defers := ds } w') :
  (Code.region id ops true).wp Try.prog Q { tmps := (x0 :: x1 :: x2 :: x3 :: x4 :: x5 :: x6 :: x7 :: x8 :: x9 :: x10 :: .pointer (some ⟨g,0,none⟩) :: .pointer (some ⟨b12,0,none⟩) :: x13 :: x14 :: x15 :: x16 :: x17 :: x18 :: x19 :: x20 :: x21 :: x22 :: x23 :: x24 :: x25 :: x26 :: x27 :: x28 :: x29 :: x30 :: x31 :: x32 :: x33 :: x34 :: x35 :: x36 :: x37 :: x38 :: x39 :: x40 :: x41 :: x42 :: x43 :: x44 :: x45 :: x46 :: x47 :: x48 :: x49 :: x50 :: x51 :: x52 :: x53 :: x54 :: x55 :: x56 :: x57 :: x58 :: x59 :: x60 :: x61 :: x62 :: x63 :: x64 :: x65 :: x66 :: x67 :: x68 :: x69 :: x70 :: x71 :: x72 :: x73 :: x74 :: x75 :: x76 :: x77 :: x78 :: x79 :: x80 :: x81 :: x82 :: x83 :: x84 :: x85 :: x86 :: x87 :: x88 :: x89 :: x90 :: x91 :: x92 :: x93 :: x94 :: x95 :: x96 :: x97 :: x98 :: x99 :: x100 :: x101 :: x102 :: x103 :: x104 :: x105 :: x106 :: x107 :: x108 :: x109 :: x110 :: x111 :: x112 :: x113 :: x114 :: x115 :: x116 :: x117 :: x118 :: x119 :: x120 :: x121 :: x122 :: x123 :: x124 :: x125 :: x126 :: x127 :: x128 :: x129 :: x130 :: x131 :: x132 :: x133 :: x134 :: x135 :: x136 :: x137 :: x138 :: x139 :: x140 :: x141 :: x142 :: x143 :: x144 :: x145 :: x146 :: x147 :: x148 :: x149 :: x150 :: x151 :: x152 :: x153 :: x154 :: x155 :: x156 :: x157 :: x158 :: x159 :: x160 :: []).toArray,defers := ds } w := by
 obtain rfl := Option.some.inj (show some _ = some ops from hops)
 have hn : (([(46,.val (.pointer (some (⟨b12,0,none⟩)))),(47,.val (.int .i64 xa)),(48,.val (.pointer (some ⟨g,0,none⟩))),(49,.val (.int .i64 v0)),(50,.val (.int .i64 (xa - v0))),(51,.val (.pointer (some ⟨g,0,none⟩))),(52,.val (.int .i64 v1)),(53,.val (.int .i64 ((xa - v0) + v1))),(54,.val (.pointer (some (⟨b12,1,none⟩)))),(55,.val (.int .i64 xb)),(56,.val (.pointer (some ⟨g,0,none⟩))),(57,.val (.int .i64 v2)),(58,.val (.int .i64 (xb + v2))),(59,.val (.agg #[.int .i64 ((xa - v0) + v1),.int .i64 (xb + v2)])),(14,.var 34 #[.int .i64 0,.int .i64 0] 15 #[.int .i64 ((xa - v0) + v1),.int .i64 (xb + v2)]),(1015,.set 14)] : List (Nat × Left)).map (·.1)).Nodup := by simp only [List.map_cons,List.map_nil];decide
 have hcn : ([3,6,11] : List Nat).Nodup := by decide
 refine wp_region_alln 16 (by kernel_rfl) rfl (by kernel_rfl) (DiceAt g (fun k => ([s0,s1,s2,s3] : List Int).getD k 0) [3,6,11] [(46,.val (.pointer (some (⟨b12,0,none⟩)))),(47,.val (.int .i64 xa)),(48,.val (.pointer (some ⟨g,0,none⟩))),(49,.val (.int .i64 v0)),(50,.val (.int .i64 (xa - v0))),(51,.val (.pointer (some ⟨g,0,none⟩))),(52,.val (.int .i64 v1)),(53,.val (.int .i64 ((xa - v0) + v1))),(54,.val (.pointer (some (⟨b12,1,none⟩)))),(55,.val (.int .i64 xb)),(56,.val (.pointer (some ⟨g,0,none⟩))),(57,.val (.int .i64 v2)),(58,.val (.int .i64 (xb + v2))),(59,.val (.agg #[.int .i64 ((xa - v0) + v1),.int .i64 (xb + v2)])),(14,.var 34 #[.int .i64 0,.int .i64 0] 15 #[.int .i64 ((xa - v0) + v1),.int .i64 (xb + v2)]),(1015,.set 14)] w0 w ((x0 :: x1 :: x2 :: x3 :: x4 :: x5 :: x6 :: x7 :: x8 :: x9 :: x10 :: .pointer (some ⟨g,0,none⟩) :: .pointer (some ⟨b12,0,none⟩) :: x13 :: x14 :: x15 :: x16 :: x17 :: x18 :: x19 :: x20 :: x21 :: x22 :: x23 :: x24 :: x25 :: x26 :: x27 :: x28 :: x29 :: x30 :: x31 :: x32 :: x33 :: x34 :: x35 :: x36 :: x37 :: x38 :: x39 :: x40 :: x41 :: x42 :: x43 :: x44 :: x45 :: x46 :: x47 :: x48 :: x49 :: x50 :: x51 :: x52 :: x53 :: x54 :: x55 :: x56 :: x57 :: x58 :: x59 :: x60 :: x61 :: x62 :: x63 :: x64 :: x65 :: x66 :: x67 :: x68 :: x69 :: x70 :: x71 :: x72 :: x73 :: x74 :: x75 :: x76 :: x77 :: x78 :: x79 :: x80 :: x81 :: x82 :: x83 :: x84 :: x85 :: x86 :: x87 :: x88 :: x89 :: x90 :: x91 :: x92 :: x93 :: x94 :: x95 :: x96 :: x97 :: x98 :: x99 :: x100 :: x101 :: x102 :: x103 :: x104 :: x105 :: x106 :: x107 :: x108 :: x109 :: x110 :: x111 :: x112 :: x113 :: x114 :: x115 :: x116 :: x117 :: x118 :: x119 :: x120 :: x121 :: x122 :: x123 :: x124 :: x125 :: x126 :: x127 :: x128 :: x129 :: x130 :: x131 :: x132 :: x133 :: x134 :: x135 :: x136 :: x137 :: x138 :: x139 :: x140 :: x141 :: x142 :: x143 :: x144 :: x145 :: x146 :: x147 :: x148 :: x149 :: x150 :: x151 :: x152 :: x153 :: x154 :: x155 :: x156 :: x157 :: x158 :: x159 :: x160 :: []).toArray) ds) (DiceAt.start (n := 16) rfl hI hb0) ?_ ?_
 ·intro i o hi ho L a w h hL hf hall
  have hcase : i = 0 ∨ i = 1 ∨ i = 2 ∨ i = 3 ∨ i = 4 ∨ i = 5 ∨ i = 6 ∨ i = 7 ∨ i = 8 ∨ i = 9 ∨ i = 10 ∨ i = 11 ∨ i = 12 ∨ i = 13 ∨ i = 14 ∨ i = 15 := by omega
  clear hi K
  rcases hcase with rfl | rfl | rfl | rfl | rfl | rfl | rfl | rfl | rfl | rfl | rfl | rfl | rfl | rfl | rfl | rfl
  ·obtain rfl := Option.some.inj (show some _ = some o from ho)
   have f12 : a.tmps.getD 12 undef = .pointer (some ⟨b12,0,none⟩) := h.rest 12 rfl
   exact h.op ho rfl rfl rfl hn (Nat.lt_of_lt_of_eq (by decide : 46 < 161) rfl) rfl (run_field_34_0 w rfl f12) (Below.refl _ _) rfl rfl
  ·obtain rfl := Option.some.inj (show some _ = some o from ho)
   have l0 := listed_of hall 0 rfl
   have f46 : a.tmps.getD 46 undef = .pointer (some (⟨b12,0,none⟩)) := h.facts 0 _ _ rfl l0
   exact h.op ho rfl rfl rfl hn (Nat.lt_of_lt_of_eq (by decide : 47 < 161) rfl) rfl (run_load_3 w rfl f46 (q0 _ h.keep)) (Below.refl _ _) rfl rfl
  ·obtain rfl := Option.some.inj (show some _ = some o from ho)
   have f11 : a.tmps.getD 11 undef = .pointer (some ⟨g,0,none⟩) := h.rest 11 rfl
   exact h.op ho rfl rfl rfl hn (Nat.lt_of_lt_of_eq (by decide : 48 < 161) rfl) rfl (run_move w rfl f11) (Below.refl _ _) rfl rfl
  ·obtain rfl := Option.some.inj (show some _ = some o from ho)
   have l2 := listed_of hall 2 rfl
   have f48 : a.tmps.getD 48 undef = .pointer (some ⟨g,0,none⟩) := h.facts 2 _ _ rfl l2
   exact h.call (f := 16) (args := #[.pointer (some ⟨g,0,none⟩),.int .i64 900]) ho rfl rfl rfl hn (Nat.lt_of_lt_of_eq (by decide : 49 < 161) rfl) (j := 0) rfl hcn hf rfl (fun _ h0 _ => absurd rfl h0) (by rw [hL];rfl) (run_call w rfl rfl (by simp only [List.map_toArray,List.map_cons,List.map_nil];rw [show a.eval (.tmp 48) = _ from f48];rfl) (enters_of Try.func16 (by kernel_rfl) rfl) rfl) (fun hI hB => D_Upto.calls g s0 900 v0 s1 w0 w hI hB e0)
  ·obtain rfl := Option.some.inj (show some _ = some o from ho)
   have l1 := listed_of hall 1 rfl
   have f47 : a.tmps.getD 47 undef = .int .i64 xa := h.facts 1 _ _ rfl l1
   have l3 := listed_of hall 3 rfl
   have f49 : a.tmps.getD 49 undef = .int .i64 v0 := h.facts 3 _ _ rfl l3
   exact h.op ho rfl rfl rfl hn (Nat.lt_of_lt_of_eq (by decide : 50 < 161) rfl) rfl (run_sub w rfl f47 f49 (by omega) (by omega)) (Below.refl _ _) rfl rfl
  ·obtain rfl := Option.some.inj (show some _ = some o from ho)
   have f11 : a.tmps.getD 11 undef = .pointer (some ⟨g,0,none⟩) := h.rest 11 rfl
   exact h.op ho rfl rfl rfl hn (Nat.lt_of_lt_of_eq (by decide : 51 < 161) rfl) rfl (run_move w rfl f11) (Below.refl _ _) rfl rfl
  ·obtain rfl := Option.some.inj (show some _ = some o from ho)
   have l5 := listed_of hall 5 rfl
   have f51 : a.tmps.getD 51 undef = .pointer (some ⟨g,0,none⟩) := h.facts 5 _ _ rfl l5
   exact h.call (f := 16) (args := #[.pointer (some ⟨g,0,none⟩),.int .i64 9]) ho rfl rfl rfl hn (Nat.lt_of_lt_of_eq (by decide : 52 < 161) rfl) (j := 1) rfl hcn hf rfl (fun i' _ e => by obtain rfl := Option.some.inj (show some _ = some i' from e);exact listed_of hall 3 rfl) (by rw [hL];rfl) (run_call w rfl rfl (by simp only [List.map_toArray,List.map_cons,List.map_nil];rw [show a.eval (.tmp 51) = _ from f51];rfl) (enters_of Try.func16 (by kernel_rfl) rfl) rfl) (fun hI hB => D_Upto.calls g s1 9 v1 s2 w0 w hI hB e1)
  ·obtain rfl := Option.some.inj (show some _ = some o from ho)
   have l4 := listed_of hall 4 rfl
   have f50 : a.tmps.getD 50 undef = .int .i64 (xa - v0) := h.facts 4 _ _ rfl l4
   have l6 := listed_of hall 6 rfl
   have f52 : a.tmps.getD 52 undef = .int .i64 v1 := h.facts 6 _ _ rfl l6
   exact h.op ho rfl rfl rfl hn (Nat.lt_of_lt_of_eq (by decide : 53 < 161) rfl) rfl (run_add w rfl f50 f52 (by omega) (by omega)) (Below.refl _ _) rfl rfl
  ·obtain rfl := Option.some.inj (show some _ = some o from ho)
   have f12 : a.tmps.getD 12 undef = .pointer (some ⟨b12,0,none⟩) := h.rest 12 rfl
   exact h.op ho rfl rfl rfl hn (Nat.lt_of_lt_of_eq (by decide : 54 < 161) rfl) rfl (run_field_34_1 w rfl f12) (Below.refl _ _) rfl rfl
  ·obtain rfl := Option.some.inj (show some _ = some o from ho)
   have l8 := listed_of hall 8 rfl
   have f54 : a.tmps.getD 54 undef = .pointer (some (⟨b12,1,none⟩)) := h.facts 8 _ _ rfl l8
   exact h.op ho rfl rfl rfl hn (Nat.lt_of_lt_of_eq (by decide : 55 < 161) rfl) rfl (run_load_3 w rfl f54 (q1 _ h.keep)) (Below.refl _ _) rfl rfl
  ·obtain rfl := Option.some.inj (show some _ = some o from ho)
   have f11 : a.tmps.getD 11 undef = .pointer (some ⟨g,0,none⟩) := h.rest 11 rfl
   exact h.op ho rfl rfl rfl hn (Nat.lt_of_lt_of_eq (by decide : 56 < 161) rfl) rfl (run_move w rfl f11) (Below.refl _ _) rfl rfl
  ·obtain rfl := Option.some.inj (show some _ = some o from ho)
   have l10 := listed_of hall 10 rfl
   have f56 : a.tmps.getD 56 undef = .pointer (some ⟨g,0,none⟩) := h.facts 10 _ _ rfl l10
   exact h.call (f := 16) (args := #[.pointer (some ⟨g,0,none⟩),.int .i64 900]) ho rfl rfl rfl hn (Nat.lt_of_lt_of_eq (by decide : 57 < 161) rfl) (j := 2) rfl hcn hf rfl (fun i' _ e => by obtain rfl := Option.some.inj (show some _ = some i' from e);exact listed_of hall 6 rfl) (by rw [hL];rfl) (run_call w rfl rfl (by simp only [List.map_toArray,List.map_cons,List.map_nil];rw [show a.eval (.tmp 56) = _ from f56];rfl) (enters_of Try.func16 (by kernel_rfl) rfl) rfl) (fun hI hB => D_Upto.calls g s2 900 v2 s3 w0 w hI hB e2)
  ·obtain rfl := Option.some.inj (show some _ = some o from ho)
   have l9 := listed_of hall 9 rfl
   have f55 : a.tmps.getD 55 undef = .int .i64 xb := h.facts 9 _ _ rfl l9
   have l11 := listed_of hall 11 rfl
   have f57 : a.tmps.getD 57 undef = .int .i64 v2 := h.facts 11 _ _ rfl l11
   exact h.op ho rfl rfl rfl hn (Nat.lt_of_lt_of_eq (by decide : 58 < 161) rfl) rfl (run_add w rfl f55 f57 (by omega) (by omega)) (Below.refl _ _) rfl rfl
  ·obtain rfl := Option.some.inj (show some _ = some o from ho)
   have l7 := listed_of hall 7 rfl
   have f53 : a.tmps.getD 53 undef = .int .i64 ((xa - v0) + v1) := h.facts 7 _ _ rfl l7
   have l12 := listed_of hall 12 rfl
   have f58 : a.tmps.getD 58 undef = .int .i64 (xb + v2) := h.facts 12 _ _ rfl l12
   exact h.op ho rfl rfl rfl hn (Nat.lt_of_lt_of_eq (by decide : 59 < 161) rfl) rfl (run_build2 w rfl f53 f58) (Below.refl _ _) rfl rfl
  ·obtain rfl := Option.some.inj (show some _ = some o from ho)
   exact h.var ho rfl rfl rfl rfl hn (Nat.lt_of_lt_of_eq (by decide : 14 < 161) rfl) rfl rfl hf (run_var2 w rfl)
  ·obtain rfl := Option.some.inj (show some _ = some o from ho)
   have l13 := listed_of hall 13 rfl
   have f59 : a.tmps.getD 59 undef = .agg #[.int .i64 ((xa - v0) + v1),.int .i64 (xb + v2)] := h.facts 13 _ _ rfl l13
   have l14 := listed_of hall 14 rfl
   exact h.store ho rfl rfl rfl rfl rfl hb0.size (by rw [hL];decide) rfl hf l14 (fun b p q => run_store2 rfl p f59 q)
 ·intro L a w' h hall
  obtain ⟨b14,b1_14,bn_14,b2_14,b3_14⟩ := h.facts 14 _ _ rfl (hall 14 (by omega))
  rw [if_pos (hall 15 (by omega))] at b3_14
  have hD : IsS76 w0 w' g s3 := h.done (by simp only [List.mem_cons,List.not_mem_nil,or_false];intro i hi;exact hall i (by omega))
  have e := h.frame (fun t => if t = 14 then .pointer (some ⟨b14,0,none⟩) else a.tmps.getD t undef) (by
   intro x hx _
   simp only [List.mem_cons,List.not_mem_nil,or_false] at hx
   rcases hx with rfl | rfl | rfl | rfl | rfl | rfl | rfl | rfl | rfl | rfl | rfl | rfl | rfl | rfl | rfl | rfl
   all_goals first | rfl | assumption)
  have k := K (a.tmps.getD 46 undef) (a.tmps.getD 47 undef) (a.tmps.getD 48 undef) (a.tmps.getD 49 undef) (a.tmps.getD 50 undef) (a.tmps.getD 51 undef) (a.tmps.getD 52 undef) (a.tmps.getD 53 undef) (a.tmps.getD 54 undef) (a.tmps.getD 55 undef) (a.tmps.getD 56 undef) (a.tmps.getD 57 undef) (a.tmps.getD 58 undef) (a.tmps.getD 59 undef) b14 w' hD h.below h.keep b1_14 bn_14 b3_14
  clear K
  simp only [List.foldl_cons,List.foldl_nil,sB_,sS_,sZ_,List.set_nil,Nat.reduceEqDiff,reduceIte] at e
  rw [e]
  exact k
set_option maxHeartbeats 8000000 in
set_option maxRecDepth 100000 in
theorem Ages.region6 (b5 b12 b6 b13 b7 b14 : Nat) (p5 q5 p12 q12 p6 q6 p13 q13 p7 q7 p14 q14 : Int) (tk n : Int) {ops : Array Oper} (hops : (Try.f10.body.bind (regionOf 6)) = some ops) {Q : Exit → Act → World → Prop} {ds : List Deferred} {id : Nat} (g : Nat) (s0 : Int)  {x0 x1 x2 x4 x8 x9 x10 x16 x17 x18 x19 x20 x21 x22 x23 x24 x25 x26 x27 x28 x29 x30 x31 x32 x33 x34 x35 x36 x37 x38 x39 x40 x41 x42 x43 x44 x45 x46 x47 x48 x49 x50 x51 x52 x53 x54 x55 x56 x57 x58 x59 x60 x61 x62 x63 x64 x65 x66 x67 x68 x69 x70 x71 x72 x73 x74 x75 x76 x77 x78 x79 x80 x81 x82 x83 x84 x85 x86 x87 x88 x89 x90 x91 x92 x93 x94 x95 x96 x97 x98 x99 x100 x101 x102 x103 x104 x105 x106 x107 x108 x109 x110 x111 x112 x113 x114 x115 x116 x117 x118 x119 x120 x121 x122 x123 x124 x125 x126 x127 x128 x129 x130 x131 x132 x133 x134 x135 x136 x137 x138 x139 x140 x141 x142 x143 x144 x145 x146 x147 x148 x149 x150 x151 x152 x153 x154 x155 x156 x157 x158 x159 x160 : Value} (w0 : World) {w : World} (hI : IsS76 w0 w g s0) (hb0 : Below w0.heap.size w0 w) (c5 : ∀ W,KeepBut w W g none → W.cell? ⟨b5,0,none⟩ = some (.int .i64 p5)) (d5 : ∀ W,KeepBut w W g none → W.cell? ⟨b5,1,none⟩ = some (.int .i64 q5)) (c12 : ∀ W,KeepBut w W g none → W.cell? ⟨b12,0,none⟩ = some (.int .i64 p12)) (d12 : ∀ W,KeepBut w W g none → W.cell? ⟨b12,1,none⟩ = some (.int .i64 q12)) (c6 : ∀ W,KeepBut w W g none → W.cell? ⟨b6,0,none⟩ = some (.int .i64 p6)) (d6 : ∀ W,KeepBut w W g none → W.cell? ⟨b6,1,none⟩ = some (.int .i64 q6)) (c13 : ∀ W,KeepBut w W g none → W.cell? ⟨b13,0,none⟩ = some (.int .i64 p13)) (d13 : ∀ W,KeepBut w W g none → W.cell? ⟨b13,1,none⟩ = some (.int .i64 q13)) (c7 : ∀ W,KeepBut w W g none → W.cell? ⟨b7,0,none⟩ = some (.int .i64 p7)) (d7 : ∀ W,KeepBut w W g none → W.cell? ⟨b7,1,none⟩ = some (.int .i64 q7)) (c14 : ∀ W,KeepBut w W g none → W.cell? ⟨b14,0,none⟩ = some (.int .i64 p14)) (d14 : ∀ W,KeepBut w W g none → W.cell? ⟨b14,1,none⟩ = some (.int .i64 q14))
  (K : ∀ (u62 u63 u64 u65 u66 u67 u68 u69 u70 u71 u72 u73 : Value) (b16 : Nat) (b17 : Nat) (b18 : Nat) (b19 : Nat) (w' : World),IsS76 w0 w' g s0 → Below w0.heap.size w0 w' → KeepBut w w' g none → b16 ≠ g → w'.heap[b16]? = some (.cells #[.int .i64 p5,.int .i64 q5,.int .i64 p12,.int .i64 q12] 34 (0,0)) → b17 ≠ g → w'.heap[b17]? = some (.cells #[.int .i64 p6,.int .i64 q6,.int .i64 p13,.int .i64 q13] 34 (0,0)) → b18 ≠ g → w'.heap[b18]? = some (.cells #[.int .i64 p7,.int .i64 q7,.int .i64 p14,.int .i64 q14] 34 (0,0)) → b19 ≠ g → w'.heap[b19]? = some (.cells #[.int .i64 tk,.int .i64 n] 3 (0,0)) → Q .normal { tmps := (x0 :: x1 :: x2 :: .int .i64 tk :: x4 :: .pointer (some ⟨b5,0,none⟩) :: .pointer (some ⟨b6,0,none⟩) :: .pointer (some ⟨b7,0,none⟩) :: x8 :: x9 :: x10 :: .pointer (some ⟨g,0,none⟩) :: .pointer (some ⟨b12,0,none⟩) :: .pointer (some ⟨b13,0,none⟩) :: .pointer (some ⟨b14,0,none⟩) :: .int .i64 n :: .slice (some ⟨b16,0,none⟩) 2 2 :: .slice (some ⟨b17,0,none⟩) 2 2 :: .slice (some ⟨b18,0,none⟩) 2 2 :: .slice (some ⟨b19,0,none⟩) 2 2 :: x20 :: x21 :: x22 :: x23 :: x24 :: x25 :: x26 :: x27 :: x28 :: x29 :: x30 :: x31 :: x32 :: x33 :: x34 :: x35 :: x36 :: x37 :: x38 :: x39 :: x40 :: x41 :: x42 :: x43 :: x44 :: x45 :: x46 :: x47 :: x48 :: x49 :: x50 :: x51 :: x52 :: x53 :: x54 :: x55 :: x56 :: x57 :: x58 :: x59 :: x60 :: x61 :: u62 :: u63 :: u64 :: u65 :: u66 :: u67 :: u68 :: u69 :: u70 :: u71 :: u72 :: u73 :: x74 :: x75 :: x76 :: x77 :: x78 :: x79 :: x80 :: x81 :: x82 :: x83 :: x84 :: x85 :: x86 :: x87 :: x88 :: x89 :: x90 :: x91 :: x92 :: x93 :: x94 :: x95 :: x96 :: x97 :: x98 :: x99 :: x100 :: x101 :: x102 :: x103 :: x104 :: x105 :: x106 :: x107 :: x108 :: x109 :: x110 :: x111 :: x112 :: x113 :: x114 :: x115 :: x116 :: x117 :: x118 :: x119 :: x120 :: x121 :: x122 :: x123 :: x124 :: x125 :: x126 :: x127 :: x128 :: x129 :: x130 :: x131 :: x132 :: x133 :: x134 :: x135 :: x136 :: x137 :: x138 :: x139 :: x140 :: x141 :: x142 :: x143 :: x144 :: x145 :: x146 :: x147 :: x148 :: x149 :: x150 :: x151 :: x152 :: x153 :: x154 :: x155 :: x156 :: x157 :: x158 :: x159 :: x160 :: []).toArray,defers := ds } w') :
  (Code.region id ops true).wp Try.prog Q { tmps := (x0 :: x1 :: x2 :: .int .i64 tk :: x4 :: .pointer (some ⟨b5,0,none⟩) :: .pointer (some ⟨b6,0,none⟩) :: .pointer (some ⟨b7,0,none⟩) :: x8 :: x9 :: x10 :: .pointer (some ⟨g,0,none⟩) :: .pointer (some ⟨b12,0,none⟩) :: .pointer (some ⟨b13,0,none⟩) :: .pointer (some ⟨b14,0,none⟩) :: .int .i64 n :: x16 :: x17 :: x18 :: x19 :: x20 :: x21 :: x22 :: x23 :: x24 :: x25 :: x26 :: x27 :: x28 :: x29 :: x30 :: x31 :: x32 :: x33 :: x34 :: x35 :: x36 :: x37 :: x38 :: x39 :: x40 :: x41 :: x42 :: x43 :: x44 :: x45 :: x46 :: x47 :: x48 :: x49 :: x50 :: x51 :: x52 :: x53 :: x54 :: x55 :: x56 :: x57 :: x58 :: x59 :: x60 :: x61 :: x62 :: x63 :: x64 :: x65 :: x66 :: x67 :: x68 :: x69 :: x70 :: x71 :: x72 :: x73 :: x74 :: x75 :: x76 :: x77 :: x78 :: x79 :: x80 :: x81 :: x82 :: x83 :: x84 :: x85 :: x86 :: x87 :: x88 :: x89 :: x90 :: x91 :: x92 :: x93 :: x94 :: x95 :: x96 :: x97 :: x98 :: x99 :: x100 :: x101 :: x102 :: x103 :: x104 :: x105 :: x106 :: x107 :: x108 :: x109 :: x110 :: x111 :: x112 :: x113 :: x114 :: x115 :: x116 :: x117 :: x118 :: x119 :: x120 :: x121 :: x122 :: x123 :: x124 :: x125 :: x126 :: x127 :: x128 :: x129 :: x130 :: x131 :: x132 :: x133 :: x134 :: x135 :: x136 :: x137 :: x138 :: x139 :: x140 :: x141 :: x142 :: x143 :: x144 :: x145 :: x146 :: x147 :: x148 :: x149 :: x150 :: x151 :: x152 :: x153 :: x154 :: x155 :: x156 :: x157 :: x158 :: x159 :: x160 :: []).toArray,defers := ds } w := by
 obtain rfl := Option.some.inj (show some _ = some ops from hops)
 have hn : (([(62,.val (.agg #[.int .i64 p5,.int .i64 q5])),(63,.val (.agg #[.int .i64 p12,.int .i64 q12])),(64,.rown 34 #[.int .i64 p5,.int .i64 q5,.int .i64 p12,.int .i64 q12] 2),(65,.val (.agg #[.int .i64 p6,.int .i64 q6])),(66,.val (.agg #[.int .i64 p13,.int .i64 q13])),(67,.rown 34 #[.int .i64 p6,.int .i64 q6,.int .i64 p13,.int .i64 q13] 2),(68,.val (.agg #[.int .i64 p7,.int .i64 q7])),(69,.val (.agg #[.int .i64 p14,.int .i64 q14])),(70,.rown 34 #[.int .i64 p7,.int .i64 q7,.int .i64 p14,.int .i64 q14] 2),(71,.val (.int .i64 tk)),(72,.val (.int .i64 n)),(73,.rown 3 #[.int .i64 tk,.int .i64 n] 2),(16,.rown 34 #[.int .i64 p5,.int .i64 q5,.int .i64 p12,.int .i64 q12] 2),(17,.rown 34 #[.int .i64 p6,.int .i64 q6,.int .i64 p13,.int .i64 q13] 2),(18,.rown 34 #[.int .i64 p7,.int .i64 q7,.int .i64 p14,.int .i64 q14] 2),(19,.rown 3 #[.int .i64 tk,.int .i64 n] 2)] : List (Nat × Left)).map (·.1)).Nodup := by simp only [List.map_cons,List.map_nil];decide
 have hcn : ([] : List Nat).Nodup := by decide
 refine wp_region_alln 16 (by kernel_rfl) rfl (by kernel_rfl) (DiceAt g (fun k => ([s0] : List Int).getD k 0) [] [(62,.val (.agg #[.int .i64 p5,.int .i64 q5])),(63,.val (.agg #[.int .i64 p12,.int .i64 q12])),(64,.rown 34 #[.int .i64 p5,.int .i64 q5,.int .i64 p12,.int .i64 q12] 2),(65,.val (.agg #[.int .i64 p6,.int .i64 q6])),(66,.val (.agg #[.int .i64 p13,.int .i64 q13])),(67,.rown 34 #[.int .i64 p6,.int .i64 q6,.int .i64 p13,.int .i64 q13] 2),(68,.val (.agg #[.int .i64 p7,.int .i64 q7])),(69,.val (.agg #[.int .i64 p14,.int .i64 q14])),(70,.rown 34 #[.int .i64 p7,.int .i64 q7,.int .i64 p14,.int .i64 q14] 2),(71,.val (.int .i64 tk)),(72,.val (.int .i64 n)),(73,.rown 3 #[.int .i64 tk,.int .i64 n] 2),(16,.rown 34 #[.int .i64 p5,.int .i64 q5,.int .i64 p12,.int .i64 q12] 2),(17,.rown 34 #[.int .i64 p6,.int .i64 q6,.int .i64 p13,.int .i64 q13] 2),(18,.rown 34 #[.int .i64 p7,.int .i64 q7,.int .i64 p14,.int .i64 q14] 2),(19,.rown 3 #[.int .i64 tk,.int .i64 n] 2)] w0 w ((x0 :: x1 :: x2 :: .int .i64 tk :: x4 :: .pointer (some ⟨b5,0,none⟩) :: .pointer (some ⟨b6,0,none⟩) :: .pointer (some ⟨b7,0,none⟩) :: x8 :: x9 :: x10 :: .pointer (some ⟨g,0,none⟩) :: .pointer (some ⟨b12,0,none⟩) :: .pointer (some ⟨b13,0,none⟩) :: .pointer (some ⟨b14,0,none⟩) :: .int .i64 n :: x16 :: x17 :: x18 :: x19 :: x20 :: x21 :: x22 :: x23 :: x24 :: x25 :: x26 :: x27 :: x28 :: x29 :: x30 :: x31 :: x32 :: x33 :: x34 :: x35 :: x36 :: x37 :: x38 :: x39 :: x40 :: x41 :: x42 :: x43 :: x44 :: x45 :: x46 :: x47 :: x48 :: x49 :: x50 :: x51 :: x52 :: x53 :: x54 :: x55 :: x56 :: x57 :: x58 :: x59 :: x60 :: x61 :: x62 :: x63 :: x64 :: x65 :: x66 :: x67 :: x68 :: x69 :: x70 :: x71 :: x72 :: x73 :: x74 :: x75 :: x76 :: x77 :: x78 :: x79 :: x80 :: x81 :: x82 :: x83 :: x84 :: x85 :: x86 :: x87 :: x88 :: x89 :: x90 :: x91 :: x92 :: x93 :: x94 :: x95 :: x96 :: x97 :: x98 :: x99 :: x100 :: x101 :: x102 :: x103 :: x104 :: x105 :: x106 :: x107 :: x108 :: x109 :: x110 :: x111 :: x112 :: x113 :: x114 :: x115 :: x116 :: x117 :: x118 :: x119 :: x120 :: x121 :: x122 :: x123 :: x124 :: x125 :: x126 :: x127 :: x128 :: x129 :: x130 :: x131 :: x132 :: x133 :: x134 :: x135 :: x136 :: x137 :: x138 :: x139 :: x140 :: x141 :: x142 :: x143 :: x144 :: x145 :: x146 :: x147 :: x148 :: x149 :: x150 :: x151 :: x152 :: x153 :: x154 :: x155 :: x156 :: x157 :: x158 :: x159 :: x160 :: []).toArray) ds) (DiceAt.start (n := 16) rfl hI hb0) ?_ ?_
 ·intro i o hi ho L a w h hL hf hall
  have hcase : i = 0 ∨ i = 1 ∨ i = 2 ∨ i = 3 ∨ i = 4 ∨ i = 5 ∨ i = 6 ∨ i = 7 ∨ i = 8 ∨ i = 9 ∨ i = 10 ∨ i = 11 ∨ i = 12 ∨ i = 13 ∨ i = 14 ∨ i = 15 := by omega
  clear hi K
  rcases hcase with rfl | rfl | rfl | rfl | rfl | rfl | rfl | rfl | rfl | rfl | rfl | rfl | rfl | rfl | rfl | rfl
  ·obtain rfl := Option.some.inj (show some _ = some o from ho)
   have f5 : a.tmps.getD 5 undef = .pointer (some ⟨b5,0,none⟩) := h.rest 5 rfl
   exact h.op ho rfl rfl rfl hn (Nat.lt_of_lt_of_eq (by decide : 62 < 161) rfl) rfl (run_load_34 w rfl f5 (c5 _ h.keep) (d5 _ h.keep)) (Below.refl _ _) rfl rfl
  ·obtain rfl := Option.some.inj (show some _ = some o from ho)
   have f12 : a.tmps.getD 12 undef = .pointer (some ⟨b12,0,none⟩) := h.rest 12 rfl
   exact h.op ho rfl rfl rfl hn (Nat.lt_of_lt_of_eq (by decide : 63 < 161) rfl) rfl (run_load_34 w rfl f12 (c12 _ h.keep) (d12 _ h.keep)) (Below.refl _ _) rfl rfl
  ·obtain rfl := Option.some.inj (show some _ = some o from ho)
   have l0 := listed_of hall 0 rfl
   have f62 : a.tmps.getD 62 undef = .agg #[.int .i64 p5,.int .i64 q5] := h.facts 0 _ _ rfl l0
   have l1 := listed_of hall 1 rfl
   have f63 : a.tmps.getD 63 undef = .agg #[.int .i64 p12,.int .i64 q12] := h.facts 1 _ _ rfl l1
   exact h.op ho rfl rfl rfl hn (Nat.lt_of_lt_of_eq (by decide : 64 < 161) rfl) rfl (run_row_56_agg2_agg2 w rfl f62 f63) (bA_ (Below.refl _ _) _) rfl ⟨w.heap.size,h.fresh,rfl,heap_alloc_new w _⟩
  ·obtain rfl := Option.some.inj (show some _ = some o from ho)
   have f6 : a.tmps.getD 6 undef = .pointer (some ⟨b6,0,none⟩) := h.rest 6 rfl
   exact h.op ho rfl rfl rfl hn (Nat.lt_of_lt_of_eq (by decide : 65 < 161) rfl) rfl (run_load_34 w rfl f6 (c6 _ h.keep) (d6 _ h.keep)) (Below.refl _ _) rfl rfl
  ·obtain rfl := Option.some.inj (show some _ = some o from ho)
   have f13 : a.tmps.getD 13 undef = .pointer (some ⟨b13,0,none⟩) := h.rest 13 rfl
   exact h.op ho rfl rfl rfl hn (Nat.lt_of_lt_of_eq (by decide : 66 < 161) rfl) rfl (run_load_34 w rfl f13 (c13 _ h.keep) (d13 _ h.keep)) (Below.refl _ _) rfl rfl
  ·obtain rfl := Option.some.inj (show some _ = some o from ho)
   have l3 := listed_of hall 3 rfl
   have f65 : a.tmps.getD 65 undef = .agg #[.int .i64 p6,.int .i64 q6] := h.facts 3 _ _ rfl l3
   have l4 := listed_of hall 4 rfl
   have f66 : a.tmps.getD 66 undef = .agg #[.int .i64 p13,.int .i64 q13] := h.facts 4 _ _ rfl l4
   exact h.op ho rfl rfl rfl hn (Nat.lt_of_lt_of_eq (by decide : 67 < 161) rfl) rfl (run_row_56_agg2_agg2 w rfl f65 f66) (bA_ (Below.refl _ _) _) rfl ⟨w.heap.size,h.fresh,rfl,heap_alloc_new w _⟩
  ·obtain rfl := Option.some.inj (show some _ = some o from ho)
   have f7 : a.tmps.getD 7 undef = .pointer (some ⟨b7,0,none⟩) := h.rest 7 rfl
   exact h.op ho rfl rfl rfl hn (Nat.lt_of_lt_of_eq (by decide : 68 < 161) rfl) rfl (run_load_34 w rfl f7 (c7 _ h.keep) (d7 _ h.keep)) (Below.refl _ _) rfl rfl
  ·obtain rfl := Option.some.inj (show some _ = some o from ho)
   have f14 : a.tmps.getD 14 undef = .pointer (some ⟨b14,0,none⟩) := h.rest 14 rfl
   exact h.op ho rfl rfl rfl hn (Nat.lt_of_lt_of_eq (by decide : 69 < 161) rfl) rfl (run_load_34 w rfl f14 (c14 _ h.keep) (d14 _ h.keep)) (Below.refl _ _) rfl rfl
  ·obtain rfl := Option.some.inj (show some _ = some o from ho)
   have l6 := listed_of hall 6 rfl
   have f68 : a.tmps.getD 68 undef = .agg #[.int .i64 p7,.int .i64 q7] := h.facts 6 _ _ rfl l6
   have l7 := listed_of hall 7 rfl
   have f69 : a.tmps.getD 69 undef = .agg #[.int .i64 p14,.int .i64 q14] := h.facts 7 _ _ rfl l7
   exact h.op ho rfl rfl rfl hn (Nat.lt_of_lt_of_eq (by decide : 70 < 161) rfl) rfl (run_row_56_agg2_agg2 w rfl f68 f69) (bA_ (Below.refl _ _) _) rfl ⟨w.heap.size,h.fresh,rfl,heap_alloc_new w _⟩
  ·obtain rfl := Option.some.inj (show some _ = some o from ho)
   have f3 : a.tmps.getD 3 undef = .int .i64 tk := h.rest 3 rfl
   exact h.op ho rfl rfl rfl hn (Nat.lt_of_lt_of_eq (by decide : 71 < 161) rfl) rfl (run_move w rfl f3) (Below.refl _ _) rfl rfl
  ·obtain rfl := Option.some.inj (show some _ = some o from ho)
   have f15 : a.tmps.getD 15 undef = .int .i64 n := h.rest 15 rfl
   exact h.op ho rfl rfl rfl hn (Nat.lt_of_lt_of_eq (by decide : 72 < 161) rfl) rfl (run_move w rfl f15) (Below.refl _ _) rfl rfl
  ·obtain rfl := Option.some.inj (show some _ = some o from ho)
   have l9 := listed_of hall 9 rfl
   have f71 : a.tmps.getD 71 undef = .int .i64 tk := h.facts 9 _ _ rfl l9
   have l10 := listed_of hall 10 rfl
   have f72 : a.tmps.getD 72 undef = .int .i64 n := h.facts 10 _ _ rfl l10
   exact h.op ho rfl rfl rfl hn (Nat.lt_of_lt_of_eq (by decide : 73 < 161) rfl) rfl (run_row_23_int_int w rfl f71 f72) (bA_ (Below.refl _ _) _) rfl ⟨w.heap.size,h.fresh,rfl,heap_alloc_new w _⟩
  ·obtain rfl := Option.some.inj (show some _ = some o from ho)
   have l2 := listed_of hall 2 rfl
   obtain ⟨b_2,b1_2,b2_2,b3_2⟩ := h.facts 2 _ _ rfl l2
   exact h.op ho rfl rfl rfl hn (Nat.lt_of_lt_of_eq (by decide : 16 < 161) rfl) rfl (run_assign w rfl b2_2) (Below.refl _ _) rfl ⟨b_2,b1_2,rfl,b3_2⟩
  ·obtain rfl := Option.some.inj (show some _ = some o from ho)
   have l5 := listed_of hall 5 rfl
   obtain ⟨b_5,b1_5,b2_5,b3_5⟩ := h.facts 5 _ _ rfl l5
   exact h.op ho rfl rfl rfl hn (Nat.lt_of_lt_of_eq (by decide : 17 < 161) rfl) rfl (run_assign w rfl b2_5) (Below.refl _ _) rfl ⟨b_5,b1_5,rfl,b3_5⟩
  ·obtain rfl := Option.some.inj (show some _ = some o from ho)
   have l8 := listed_of hall 8 rfl
   obtain ⟨b_8,b1_8,b2_8,b3_8⟩ := h.facts 8 _ _ rfl l8
   exact h.op ho rfl rfl rfl hn (Nat.lt_of_lt_of_eq (by decide : 18 < 161) rfl) rfl (run_assign w rfl b2_8) (Below.refl _ _) rfl ⟨b_8,b1_8,rfl,b3_8⟩
  ·obtain rfl := Option.some.inj (show some _ = some o from ho)
   have l11 := listed_of hall 11 rfl
   obtain ⟨b_11,b1_11,b2_11,b3_11⟩ := h.facts 11 _ _ rfl l11
   exact h.op ho rfl rfl rfl hn (Nat.lt_of_lt_of_eq (by decide : 19 < 161) rfl) rfl (run_assign w rfl b2_11) (Below.refl _ _) rfl ⟨b_11,b1_11,rfl,b3_11⟩
 ·intro L a w' h hall
  obtain ⟨b16,b1_16,b2_16,b3_16⟩ := h.facts 12 _ _ rfl (hall 12 (by omega))
  obtain ⟨b17,b1_17,b2_17,b3_17⟩ := h.facts 13 _ _ rfl (hall 13 (by omega))
  obtain ⟨b18,b1_18,b2_18,b3_18⟩ := h.facts 14 _ _ rfl (hall 14 (by omega))
  obtain ⟨b19,b1_19,b2_19,b3_19⟩ := h.facts 15 _ _ rfl (hall 15 (by omega))
  have hD : IsS76 w0 w' g s0 := h.done (by intro i hi;cases hi)
  have e := h.frame (fun t => if t = 16 then .slice (some ⟨b16,0,none⟩) 2 2 else if t = 17 then .slice (some ⟨b17,0,none⟩) 2 2 else if t = 18 then .slice (some ⟨b18,0,none⟩) 2 2 else if t = 19 then .slice (some ⟨b19,0,none⟩) 2 2 else a.tmps.getD t undef) (by
   intro x hx _
   simp only [List.mem_cons,List.not_mem_nil,or_false] at hx
   rcases hx with rfl | rfl | rfl | rfl | rfl | rfl | rfl | rfl | rfl | rfl | rfl | rfl | rfl | rfl | rfl | rfl
   all_goals first | rfl | assumption)
  have k := K (a.tmps.getD 62 undef) (a.tmps.getD 63 undef) (a.tmps.getD 64 undef) (a.tmps.getD 65 undef) (a.tmps.getD 66 undef) (a.tmps.getD 67 undef) (a.tmps.getD 68 undef) (a.tmps.getD 69 undef) (a.tmps.getD 70 undef) (a.tmps.getD 71 undef) (a.tmps.getD 72 undef) (a.tmps.getD 73 undef) b16 b17 b18 b19 w' hD h.below h.keep b1_16 b3_16 b1_17 b3_17 b1_18 b3_18 b1_19 b3_19
  clear K
  simp only [List.foldl_cons,List.foldl_nil,sB_,sS_,sZ_,Nat.reduceEqDiff,reduceIte] at e
  rw [e]
  exact k
set_option maxHeartbeats 8000000 in
set_option maxRecDepth 100000 in
theorem Ages.region10 (b16 b17 b18 b19 : Nat) (i r0 r1 d0 d1 n ra rb re : Int) (kf : Nat) {ops : Array Oper} (hops : (Try.f10.body.bind (regionOf 10)) = some ops) {Q : Exit → Act → World → Prop} {ds : List Deferred} {id : Nat} (g : Nat) (s0 : Int)  {x0 x1 x2 x3 x4 x5 x6 x7 x8 x9 x10 x12 x13 x14 x15 x21 x22 x23 x24 x25 x26 x27 x28 x29 x30 x31 x32 x33 x34 x35 x36 x37 x38 x39 x40 x41 x42 x43 x44 x45 x46 x47 x48 x49 x50 x51 x52 x53 x54 x55 x56 x57 x58 x59 x60 x61 x62 x63 x64 x65 x66 x67 x68 x69 x70 x71 x72 x73 x74 x75 x76 x77 x78 x79 x80 x81 x82 x83 x84 x85 x86 x87 x88 x89 x90 x91 x92 x93 x94 x95 x96 x97 x98 x99 x100 x101 x102 x103 x104 x105 x106 x107 x108 x109 x110 x111 x112 x113 x114 x115 x116 x117 x118 x119 x120 x121 x122 x123 x124 x125 x126 x127 x128 x129 x130 x131 x132 x133 x134 x135 x136 x137 x138 x139 x140 x141 x142 x143 x144 x145 x146 x147 x148 x149 x150 x151 x152 x153 x154 x155 x156 x157 x158 x159 x160 : Value} (w0 : World) {w : World} (hI : IsS76 w0 w g s0) (hb0 : Below w0.heap.size w0 w) (i0 : 0 ≤ i) (i1 : i < 2) (qr0 : ∀ W,KeepBut w W g none → W.cell? ⟨b16,i.toNat * 2,none⟩ = some (.int .i64 r0)) (qr1 : ∀ W,KeepBut w W g none → W.cell? ⟨b16,i.toNat * 2 + 1,none⟩ = some (.int .i64 r1)) (qd0 : ∀ W,KeepBut w W g none → W.cell? ⟨b17,i.toNat * 2,none⟩ = some (.int .i64 d0)) (qd1 : ∀ W,KeepBut w W g none → W.cell? ⟨b17,i.toNat * 2 + 1,none⟩ = some (.int .i64 d1)) (qn : ∀ W,KeepBut w W g none → W.cell? ⟨b19,i.toNat,none⟩ = some (.int .i64 n)) (hT : gauge_Aged.f kf r0 r1 d0 d1 n = some (ra,rb,re))
  (K : ∀ (u79 u80 u81 u82 u83 u84 u85 u86 u87 u88 u89 u90 u91 u78 u92 u93 : Value) (b21 : Nat) (w' : World),IsS76 w0 w' g s0 → Below w0.heap.size w0 w' → KeepBut w w' g none → b21 ≠ g → w.heap.size ≤ b21 → w'.heap[b21]? = some (.cells #[.int .i64 ra,.int .i64 rb] 34 (0,0)) → Q .normal { tmps := (x0 :: x1 :: x2 :: x3 :: x4 :: x5 :: x6 :: x7 :: x8 :: x9 :: x10 :: .pointer (some ⟨g,0,none⟩) :: x12 :: x13 :: x14 :: x15 :: .slice (some ⟨b16,0,none⟩) 2 2 :: .slice (some ⟨b17,0,none⟩) 2 2 :: .slice (some ⟨b18,0,none⟩) 2 2 :: .slice (some ⟨b19,0,none⟩) 2 2 :: .int .i64 i :: .pointer (some ⟨b21,0,none⟩) :: .int .i64 re :: x23 :: x24 :: x25 :: x26 :: x27 :: x28 :: x29 :: x30 :: x31 :: x32 :: x33 :: x34 :: x35 :: x36 :: x37 :: x38 :: x39 :: x40 :: x41 :: x42 :: x43 :: x44 :: x45 :: x46 :: x47 :: x48 :: x49 :: x50 :: x51 :: x52 :: x53 :: x54 :: x55 :: x56 :: x57 :: x58 :: x59 :: x60 :: x61 :: x62 :: x63 :: x64 :: x65 :: x66 :: x67 :: x68 :: x69 :: x70 :: x71 :: x72 :: x73 :: x74 :: x75 :: x76 :: x77 :: u78 :: u79 :: u80 :: u81 :: u82 :: u83 :: u84 :: u85 :: u86 :: u87 :: u88 :: u89 :: u90 :: u91 :: u92 :: u93 :: x94 :: x95 :: x96 :: x97 :: x98 :: x99 :: x100 :: x101 :: x102 :: x103 :: x104 :: x105 :: x106 :: x107 :: x108 :: x109 :: x110 :: x111 :: x112 :: x113 :: x114 :: x115 :: x116 :: x117 :: x118 :: x119 :: x120 :: x121 :: x122 :: x123 :: x124 :: x125 :: x126 :: x127 :: x128 :: x129 :: x130 :: x131 :: x132 :: x133 :: x134 :: x135 :: x136 :: x137 :: x138 :: x139 :: x140 :: x141 :: x142 :: x143 :: x144 :: x145 :: x146 :: x147 :: x148 :: x149 :: x150 :: x151 :: x152 :: x153 :: x154 :: x155 :: x156 :: x157 :: x158 :: x159 :: x160 :: []).toArray,defers := ds } w') :
  (Code.region id ops true).wp Try.prog Q { tmps := (x0 :: x1 :: x2 :: x3 :: x4 :: x5 :: x6 :: x7 :: x8 :: x9 :: x10 :: .pointer (some ⟨g,0,none⟩) :: x12 :: x13 :: x14 :: x15 :: .slice (some ⟨b16,0,none⟩) 2 2 :: .slice (some ⟨b17,0,none⟩) 2 2 :: .slice (some ⟨b18,0,none⟩) 2 2 :: .slice (some ⟨b19,0,none⟩) 2 2 :: .int .i64 i :: x21 :: x22 :: x23 :: x24 :: x25 :: x26 :: x27 :: x28 :: x29 :: x30 :: x31 :: x32 :: x33 :: x34 :: x35 :: x36 :: x37 :: x38 :: x39 :: x40 :: x41 :: x42 :: x43 :: x44 :: x45 :: x46 :: x47 :: x48 :: x49 :: x50 :: x51 :: x52 :: x53 :: x54 :: x55 :: x56 :: x57 :: x58 :: x59 :: x60 :: x61 :: x62 :: x63 :: x64 :: x65 :: x66 :: x67 :: x68 :: x69 :: x70 :: x71 :: x72 :: x73 :: x74 :: x75 :: x76 :: x77 :: x78 :: x79 :: x80 :: x81 :: x82 :: x83 :: x84 :: x85 :: x86 :: x87 :: x88 :: x89 :: x90 :: x91 :: x92 :: x93 :: x94 :: x95 :: x96 :: x97 :: x98 :: x99 :: x100 :: x101 :: x102 :: x103 :: x104 :: x105 :: x106 :: x107 :: x108 :: x109 :: x110 :: x111 :: x112 :: x113 :: x114 :: x115 :: x116 :: x117 :: x118 :: x119 :: x120 :: x121 :: x122 :: x123 :: x124 :: x125 :: x126 :: x127 :: x128 :: x129 :: x130 :: x131 :: x132 :: x133 :: x134 :: x135 :: x136 :: x137 :: x138 :: x139 :: x140 :: x141 :: x142 :: x143 :: x144 :: x145 :: x146 :: x147 :: x148 :: x149 :: x150 :: x151 :: x152 :: x153 :: x154 :: x155 :: x156 :: x157 :: x158 :: x159 :: x160 :: []).toArray,defers := ds } w := by
 obtain rfl := Option.some.inj (show some _ = some ops from hops)
 have hn : (([(79,.val (.slice (some ⟨b16,0,none⟩) 2 2)),(80,.val (.int .i64 i)),(81,.val (.pointer (some (⟨b16,i.toNat * 2,none⟩)))),(82,.val (.agg #[.int .i64 r0,.int .i64 r1])),(83,.val (.slice (some ⟨b17,0,none⟩) 2 2)),(84,.val (.int .i64 i)),(85,.val (.pointer (some (⟨b17,i.toNat * 2,none⟩)))),(86,.val (.agg #[.int .i64 d0,.int .i64 d1])),(87,.val (.slice (some ⟨b19,0,none⟩) 2 2)),(88,.val (.int .i64 i)),(89,.val (.pointer (some (⟨b19,i.toNat,none⟩)))),(90,.val (.int .i64 n)),(91,.val (.tuple #[.agg #[.int .i64 ra,.int .i64 rb],.int .i64 re])),(78,.val (.tuple #[.agg #[.int .i64 ra,.int .i64 rb],.int .i64 re])),(92,.val (.agg #[.int .i64 ra,.int .i64 rb])),(93,.val (.int .i64 re)),(21,.var 34 #[.int .i64 0,.int .i64 0] 17 #[.int .i64 ra,.int .i64 rb]),(1017,.set 16),(22,.val (.int .i64 re))] : List (Nat × Left)).map (·.1)).Nodup := by simp only [List.map_cons,List.map_nil];decide
 have hcn : ([] : List Nat).Nodup := by decide
 refine wp_region_alln 19 (by kernel_rfl) rfl (by kernel_rfl) (DiceAt g (fun k => ([s0] : List Int).getD k 0) [] [(79,.val (.slice (some ⟨b16,0,none⟩) 2 2)),(80,.val (.int .i64 i)),(81,.val (.pointer (some (⟨b16,i.toNat * 2,none⟩)))),(82,.val (.agg #[.int .i64 r0,.int .i64 r1])),(83,.val (.slice (some ⟨b17,0,none⟩) 2 2)),(84,.val (.int .i64 i)),(85,.val (.pointer (some (⟨b17,i.toNat * 2,none⟩)))),(86,.val (.agg #[.int .i64 d0,.int .i64 d1])),(87,.val (.slice (some ⟨b19,0,none⟩) 2 2)),(88,.val (.int .i64 i)),(89,.val (.pointer (some (⟨b19,i.toNat,none⟩)))),(90,.val (.int .i64 n)),(91,.val (.tuple #[.agg #[.int .i64 ra,.int .i64 rb],.int .i64 re])),(78,.val (.tuple #[.agg #[.int .i64 ra,.int .i64 rb],.int .i64 re])),(92,.val (.agg #[.int .i64 ra,.int .i64 rb])),(93,.val (.int .i64 re)),(21,.var 34 #[.int .i64 0,.int .i64 0] 17 #[.int .i64 ra,.int .i64 rb]),(1017,.set 16),(22,.val (.int .i64 re))] w0 w ((x0 :: x1 :: x2 :: x3 :: x4 :: x5 :: x6 :: x7 :: x8 :: x9 :: x10 :: .pointer (some ⟨g,0,none⟩) :: x12 :: x13 :: x14 :: x15 :: .slice (some ⟨b16,0,none⟩) 2 2 :: .slice (some ⟨b17,0,none⟩) 2 2 :: .slice (some ⟨b18,0,none⟩) 2 2 :: .slice (some ⟨b19,0,none⟩) 2 2 :: .int .i64 i :: x21 :: x22 :: x23 :: x24 :: x25 :: x26 :: x27 :: x28 :: x29 :: x30 :: x31 :: x32 :: x33 :: x34 :: x35 :: x36 :: x37 :: x38 :: x39 :: x40 :: x41 :: x42 :: x43 :: x44 :: x45 :: x46 :: x47 :: x48 :: x49 :: x50 :: x51 :: x52 :: x53 :: x54 :: x55 :: x56 :: x57 :: x58 :: x59 :: x60 :: x61 :: x62 :: x63 :: x64 :: x65 :: x66 :: x67 :: x68 :: x69 :: x70 :: x71 :: x72 :: x73 :: x74 :: x75 :: x76 :: x77 :: x78 :: x79 :: x80 :: x81 :: x82 :: x83 :: x84 :: x85 :: x86 :: x87 :: x88 :: x89 :: x90 :: x91 :: x92 :: x93 :: x94 :: x95 :: x96 :: x97 :: x98 :: x99 :: x100 :: x101 :: x102 :: x103 :: x104 :: x105 :: x106 :: x107 :: x108 :: x109 :: x110 :: x111 :: x112 :: x113 :: x114 :: x115 :: x116 :: x117 :: x118 :: x119 :: x120 :: x121 :: x122 :: x123 :: x124 :: x125 :: x126 :: x127 :: x128 :: x129 :: x130 :: x131 :: x132 :: x133 :: x134 :: x135 :: x136 :: x137 :: x138 :: x139 :: x140 :: x141 :: x142 :: x143 :: x144 :: x145 :: x146 :: x147 :: x148 :: x149 :: x150 :: x151 :: x152 :: x153 :: x154 :: x155 :: x156 :: x157 :: x158 :: x159 :: x160 :: []).toArray) ds) (DiceAt.start (n := 19) rfl hI hb0) ?_ ?_
 ·intro i o hi ho L a w h hL hf hall
  have hcase : i = 0 ∨ i = 1 ∨ i = 2 ∨ i = 3 ∨ i = 4 ∨ i = 5 ∨ i = 6 ∨ i = 7 ∨ i = 8 ∨ i = 9 ∨ i = 10 ∨ i = 11 ∨ i = 12 ∨ i = 13 ∨ i = 14 ∨ i = 15 ∨ i = 16 ∨ i = 17 ∨ i = 18 := by omega
  clear hi K
  rcases hcase with rfl | rfl | rfl | rfl | rfl | rfl | rfl | rfl | rfl | rfl | rfl | rfl | rfl | rfl | rfl | rfl | rfl | rfl | rfl
  ·obtain rfl := Option.some.inj (show some _ = some o from ho)
   have f16 : a.tmps.getD 16 undef = .slice (some ⟨b16,0,none⟩) 2 2 := h.rest 16 rfl
   exact h.op ho rfl rfl rfl hn (Nat.lt_of_lt_of_eq (by decide : 79 < 161) rfl) rfl (run_move w rfl f16) (Below.refl _ _) rfl rfl
  ·obtain rfl := Option.some.inj (show some _ = some o from ho)
   have f20 : a.tmps.getD 20 undef = .int .i64 i := h.rest 20 rfl
   exact h.op ho rfl rfl rfl hn (Nat.lt_of_lt_of_eq (by decide : 80 < 161) rfl) rfl (run_move w rfl f20) (Below.refl _ _) rfl rfl
  ·obtain rfl := Option.some.inj (show some _ = some o from ho)
   have l0 := listed_of hall 0 rfl
   have f79 : a.tmps.getD 79 undef = .slice (some ⟨b16,0,none⟩) 2 2 := h.facts 0 _ _ rfl l0
   have l1 := listed_of hall 1 rfl
   have f80 : a.tmps.getD 80 undef = .int .i64 i := h.facts 1 _ _ rfl l1
   exact h.op ho rfl rfl rfl hn (Nat.lt_of_lt_of_eq (by decide : 81 < 161) rfl) rfl (run_at_56 w rfl f79 f80 (by omega) (by omega)) (Below.refl _ _) rfl rfl
  ·obtain rfl := Option.some.inj (show some _ = some o from ho)
   have l2 := listed_of hall 2 rfl
   have f81 : a.tmps.getD 81 undef = .pointer (some (⟨b16,i.toNat * 2,none⟩)) := h.facts 2 _ _ rfl l2
   exact h.op ho rfl rfl rfl hn (Nat.lt_of_lt_of_eq (by decide : 82 < 161) rfl) rfl (run_load_34 w rfl f81 (qr0 _ h.keep) (qr1 _ h.keep)) (Below.refl _ _) rfl rfl
  ·obtain rfl := Option.some.inj (show some _ = some o from ho)
   have f17 : a.tmps.getD 17 undef = .slice (some ⟨b17,0,none⟩) 2 2 := h.rest 17 rfl
   exact h.op ho rfl rfl rfl hn (Nat.lt_of_lt_of_eq (by decide : 83 < 161) rfl) rfl (run_move w rfl f17) (Below.refl _ _) rfl rfl
  ·obtain rfl := Option.some.inj (show some _ = some o from ho)
   have f20 : a.tmps.getD 20 undef = .int .i64 i := h.rest 20 rfl
   exact h.op ho rfl rfl rfl hn (Nat.lt_of_lt_of_eq (by decide : 84 < 161) rfl) rfl (run_move w rfl f20) (Below.refl _ _) rfl rfl
  ·obtain rfl := Option.some.inj (show some _ = some o from ho)
   have l4 := listed_of hall 4 rfl
   have f83 : a.tmps.getD 83 undef = .slice (some ⟨b17,0,none⟩) 2 2 := h.facts 4 _ _ rfl l4
   have l5 := listed_of hall 5 rfl
   have f84 : a.tmps.getD 84 undef = .int .i64 i := h.facts 5 _ _ rfl l5
   exact h.op ho rfl rfl rfl hn (Nat.lt_of_lt_of_eq (by decide : 85 < 161) rfl) rfl (run_at_56 w rfl f83 f84 (by omega) (by omega)) (Below.refl _ _) rfl rfl
  ·obtain rfl := Option.some.inj (show some _ = some o from ho)
   have l6 := listed_of hall 6 rfl
   have f85 : a.tmps.getD 85 undef = .pointer (some (⟨b17,i.toNat * 2,none⟩)) := h.facts 6 _ _ rfl l6
   exact h.op ho rfl rfl rfl hn (Nat.lt_of_lt_of_eq (by decide : 86 < 161) rfl) rfl (run_load_34 w rfl f85 (qd0 _ h.keep) (qd1 _ h.keep)) (Below.refl _ _) rfl rfl
  ·obtain rfl := Option.some.inj (show some _ = some o from ho)
   have f19 : a.tmps.getD 19 undef = .slice (some ⟨b19,0,none⟩) 2 2 := h.rest 19 rfl
   exact h.op ho rfl rfl rfl hn (Nat.lt_of_lt_of_eq (by decide : 87 < 161) rfl) rfl (run_move w rfl f19) (Below.refl _ _) rfl rfl
  ·obtain rfl := Option.some.inj (show some _ = some o from ho)
   have f20 : a.tmps.getD 20 undef = .int .i64 i := h.rest 20 rfl
   exact h.op ho rfl rfl rfl hn (Nat.lt_of_lt_of_eq (by decide : 88 < 161) rfl) rfl (run_move w rfl f20) (Below.refl _ _) rfl rfl
  ·obtain rfl := Option.some.inj (show some _ = some o from ho)
   have l8 := listed_of hall 8 rfl
   have f87 : a.tmps.getD 87 undef = .slice (some ⟨b19,0,none⟩) 2 2 := h.facts 8 _ _ rfl l8
   have l9 := listed_of hall 9 rfl
   have f88 : a.tmps.getD 88 undef = .int .i64 i := h.facts 9 _ _ rfl l9
   exact h.op ho rfl rfl rfl hn (Nat.lt_of_lt_of_eq (by decide : 89 < 161) rfl) rfl (run_at_23 w rfl f87 f88 (by omega) (by omega)) (Below.refl _ _) rfl rfl
  ·obtain rfl := Option.some.inj (show some _ = some o from ho)
   have l10 := listed_of hall 10 rfl
   have f89 : a.tmps.getD 89 undef = .pointer (some (⟨b19,i.toNat,none⟩)) := h.facts 10 _ _ rfl l10
   exact h.op ho rfl rfl rfl hn (Nat.lt_of_lt_of_eq (by decide : 90 < 161) rfl) rfl (run_load_3 w rfl f89 (qn _ h.keep)) (Below.refl _ _) rfl rfl
  ·obtain rfl := Option.some.inj (show some _ = some o from ho)
   have l3 := listed_of hall 3 rfl
   have f82 : a.tmps.getD 82 undef = .agg #[.int .i64 r0,.int .i64 r1] := h.facts 3 _ _ rfl l3
   have l7 := listed_of hall 7 rfl
   have f86 : a.tmps.getD 86 undef = .agg #[.int .i64 d0,.int .i64 d1] := h.facts 7 _ _ rfl l7
   have l11 := listed_of hall 11 rfl
   have f90 : a.tmps.getD 90 undef = .int .i64 n := h.facts 11 _ _ rfl l11
   exact h.other (f := 32) (args := #[.agg #[.int .i64 r0,.int .i64 r1],.agg #[.int .i64 d0,.int .i64 d1],.int .i64 n]) ho rfl rfl rfl hn (Nat.lt_of_lt_of_eq (by decide : 91 < 161) rfl) rfl rfl (run_call w rfl rfl (by simp only [List.map_toArray,List.map_cons,List.map_nil];rw [show a.eval (.tmp 82) = _ from f82];rw [show a.eval (.tmp 86) = _ from f86];rw [show a.eval (.tmp 90) = _ from f90];first | done | rfl) (enters_of Try.func32 (by kernel_rfl) rfl) rfl) (gauge_Aged.calls kf r0 r1 d0 d1 n ra rb re w hT)
  ·obtain rfl := Option.some.inj (show some _ = some o from ho)
   have l12 := listed_of hall 12 rfl
   have f91 : a.tmps.getD 91 undef = .tuple #[.agg #[.int .i64 ra,.int .i64 rb],.int .i64 re] := h.facts 12 _ _ rfl l12
   exact h.op ho rfl rfl rfl hn (Nat.lt_of_lt_of_eq (by decide : 78 < 161) rfl) rfl (run_move w rfl f91) (Below.refl _ _) rfl rfl
  ·obtain rfl := Option.some.inj (show some _ = some o from ho)
   have l13 := listed_of hall 13 rfl
   have f78 : a.tmps.getD 78 undef = .tuple #[.agg #[.int .i64 ra,.int .i64 rb],.int .i64 re] := h.facts 13 _ _ rfl l13
   exact h.op ho rfl rfl rfl hn (Nat.lt_of_lt_of_eq (by decide : 92 < 161) rfl) rfl (run_extract_0 w rfl f78) (Below.refl _ _) rfl rfl
  ·obtain rfl := Option.some.inj (show some _ = some o from ho)
   have l13 := listed_of hall 13 rfl
   have f78 : a.tmps.getD 78 undef = .tuple #[.agg #[.int .i64 ra,.int .i64 rb],.int .i64 re] := h.facts 13 _ _ rfl l13
   exact h.op ho rfl rfl rfl hn (Nat.lt_of_lt_of_eq (by decide : 93 < 161) rfl) rfl (run_extract_1 w rfl f78) (Below.refl _ _) rfl rfl
  ·obtain rfl := Option.some.inj (show some _ = some o from ho)
   exact h.var ho rfl rfl rfl rfl hn (Nat.lt_of_lt_of_eq (by decide : 21 < 161) rfl) rfl rfl hf (run_var2 w rfl)
  ·obtain rfl := Option.some.inj (show some _ = some o from ho)
   have l14 := listed_of hall 14 rfl
   have f92 : a.tmps.getD 92 undef = .agg #[.int .i64 ra,.int .i64 rb] := h.facts 14 _ _ rfl l14
   have l16 := listed_of hall 16 rfl
   exact h.store ho rfl rfl rfl rfl rfl hb0.size (by rw [hL];decide) rfl hf l16 (fun b p q => run_store2 rfl p f92 q)
  ·obtain rfl := Option.some.inj (show some _ = some o from ho)
   have l15 := listed_of hall 15 rfl
   have f93 : a.tmps.getD 93 undef = .int .i64 re := h.facts 15 _ _ rfl l15
   exact h.op ho rfl rfl rfl hn (Nat.lt_of_lt_of_eq (by decide : 22 < 161) rfl) rfl (run_assign w rfl f93) (Below.refl _ _) rfl rfl
 ·intro L a w' h hall
  obtain ⟨b21,b1_21,bn_21,b2_21,b3_21⟩ := h.facts 16 _ _ rfl (hall 16 (by omega))
  rw [if_pos (hall 17 (by omega))] at b3_21
  have f22 : a.tmps.getD 22 undef = .int .i64 re := h.facts 18 _ _ rfl (hall 18 (by omega))
  have hD : IsS76 w0 w' g s0 := h.done (by intro i hi;cases hi)
  have e := h.frame (fun t => if t = 21 then .pointer (some ⟨b21,0,none⟩) else if t = 22 then .int .i64 re else a.tmps.getD t undef) (by
   intro x hx _
   simp only [List.mem_cons,List.not_mem_nil,or_false] at hx
   rcases hx with rfl | rfl | rfl | rfl | rfl | rfl | rfl | rfl | rfl | rfl | rfl | rfl | rfl | rfl | rfl | rfl | rfl | rfl | rfl
   all_goals first | rfl | assumption)
  have k := K (a.tmps.getD 79 undef) (a.tmps.getD 80 undef) (a.tmps.getD 81 undef) (a.tmps.getD 82 undef) (a.tmps.getD 83 undef) (a.tmps.getD 84 undef) (a.tmps.getD 85 undef) (a.tmps.getD 86 undef) (a.tmps.getD 87 undef) (a.tmps.getD 88 undef) (a.tmps.getD 89 undef) (a.tmps.getD 90 undef) (a.tmps.getD 91 undef) (a.tmps.getD 78 undef) (a.tmps.getD 92 undef) (a.tmps.getD 93 undef) b21 w' hD h.below h.keep b1_21 bn_21 b3_21
  clear K
  simp only [List.foldl_cons,List.foldl_nil,sB_,sS_,sZ_,List.set_nil,Nat.reduceEqDiff,reduceIte] at e
  rw [e]
  exact k
set_option maxHeartbeats 8000000 in
set_option maxRecDepth 100000 in
theorem Ages.region11 (b16 b17 b18 b19 : Nat) (i r0 r1 d0 d1 n ra rb re : Int) (kf : Nat) {ops : Array Oper} (hops : (Try.f10.body.bind (regionOf 11)) = some ops) {Q : Exit → Act → World → Prop} {ds : List Deferred} {id : Nat} (g : Nat) (s0 : Int)  {x0 x1 x2 x3 x4 x5 x6 x7 x8 x9 x10 x12 x13 x14 x15 x21 x22 x23 x24 x25 x26 x27 x28 x29 x30 x31 x32 x33 x34 x35 x36 x37 x38 x39 x40 x41 x42 x43 x44 x45 x46 x47 x48 x49 x50 x51 x52 x53 x54 x55 x56 x57 x58 x59 x60 x61 x62 x63 x64 x65 x66 x67 x68 x69 x70 x71 x72 x73 x74 x75 x76 x77 x78 x79 x80 x81 x82 x83 x84 x85 x86 x87 x88 x89 x90 x91 x92 x93 x94 x95 x96 x97 x98 x99 x100 x101 x102 x103 x104 x105 x106 x107 x108 x109 x110 x111 x112 x113 x114 x115 x116 x117 x118 x119 x120 x121 x122 x123 x124 x125 x126 x127 x128 x129 x130 x131 x132 x133 x134 x135 x136 x137 x138 x139 x140 x141 x142 x143 x144 x145 x146 x147 x148 x149 x150 x151 x152 x153 x154 x155 x156 x157 x158 x159 x160 : Value} (w0 : World) {w : World} (hI : IsS76 w0 w g s0) (hb0 : Below w0.heap.size w0 w) (i0 : 0 ≤ i) (i1 : i < 2) (qr0 : ∀ W,KeepBut w W g none → W.cell? ⟨b16,i.toNat * 2,none⟩ = some (.int .i64 r0)) (qr1 : ∀ W,KeepBut w W g none → W.cell? ⟨b16,i.toNat * 2 + 1,none⟩ = some (.int .i64 r1)) (qd0 : ∀ W,KeepBut w W g none → W.cell? ⟨b17,i.toNat * 2,none⟩ = some (.int .i64 d0)) (qd1 : ∀ W,KeepBut w W g none → W.cell? ⟨b17,i.toNat * 2 + 1,none⟩ = some (.int .i64 d1)) (qn : ∀ W,KeepBut w W g none → W.cell? ⟨b19,i.toNat,none⟩ = some (.int .i64 n)) (hT : R_Aged.f kf r0 r1 d0 d1 n = some (ra,rb,re))
  (K : ∀ (u95 u96 u97 u98 u99 u100 u101 u102 u103 u104 u105 u106 u107 u94 u108 u109 : Value) (b23 : Nat) (w' : World),IsS76 w0 w' g s0 → Below w0.heap.size w0 w' → KeepBut w w' g none → b23 ≠ g → w.heap.size ≤ b23 → w'.heap[b23]? = some (.cells #[.int .i64 ra,.int .i64 rb] 34 (0,0)) → Q .normal { tmps := (x0 :: x1 :: x2 :: x3 :: x4 :: x5 :: x6 :: x7 :: x8 :: x9 :: x10 :: .pointer (some ⟨g,0,none⟩) :: x12 :: x13 :: x14 :: x15 :: .slice (some ⟨b16,0,none⟩) 2 2 :: .slice (some ⟨b17,0,none⟩) 2 2 :: .slice (some ⟨b18,0,none⟩) 2 2 :: .slice (some ⟨b19,0,none⟩) 2 2 :: .int .i64 i :: x21 :: x22 :: .pointer (some ⟨b23,0,none⟩) :: .int .i64 re :: x25 :: x26 :: x27 :: x28 :: x29 :: x30 :: x31 :: x32 :: x33 :: x34 :: x35 :: x36 :: x37 :: x38 :: x39 :: x40 :: x41 :: x42 :: x43 :: x44 :: x45 :: x46 :: x47 :: x48 :: x49 :: x50 :: x51 :: x52 :: x53 :: x54 :: x55 :: x56 :: x57 :: x58 :: x59 :: x60 :: x61 :: x62 :: x63 :: x64 :: x65 :: x66 :: x67 :: x68 :: x69 :: x70 :: x71 :: x72 :: x73 :: x74 :: x75 :: x76 :: x77 :: x78 :: x79 :: x80 :: x81 :: x82 :: x83 :: x84 :: x85 :: x86 :: x87 :: x88 :: x89 :: x90 :: x91 :: x92 :: x93 :: u94 :: u95 :: u96 :: u97 :: u98 :: u99 :: u100 :: u101 :: u102 :: u103 :: u104 :: u105 :: u106 :: u107 :: u108 :: u109 :: x110 :: x111 :: x112 :: x113 :: x114 :: x115 :: x116 :: x117 :: x118 :: x119 :: x120 :: x121 :: x122 :: x123 :: x124 :: x125 :: x126 :: x127 :: x128 :: x129 :: x130 :: x131 :: x132 :: x133 :: x134 :: x135 :: x136 :: x137 :: x138 :: x139 :: x140 :: x141 :: x142 :: x143 :: x144 :: x145 :: x146 :: x147 :: x148 :: x149 :: x150 :: x151 :: x152 :: x153 :: x154 :: x155 :: x156 :: x157 :: x158 :: x159 :: x160 :: []).toArray,defers := ds } w') :
  (Code.region id ops true).wp Try.prog Q { tmps := (x0 :: x1 :: x2 :: x3 :: x4 :: x5 :: x6 :: x7 :: x8 :: x9 :: x10 :: .pointer (some ⟨g,0,none⟩) :: x12 :: x13 :: x14 :: x15 :: .slice (some ⟨b16,0,none⟩) 2 2 :: .slice (some ⟨b17,0,none⟩) 2 2 :: .slice (some ⟨b18,0,none⟩) 2 2 :: .slice (some ⟨b19,0,none⟩) 2 2 :: .int .i64 i :: x21 :: x22 :: x23 :: x24 :: x25 :: x26 :: x27 :: x28 :: x29 :: x30 :: x31 :: x32 :: x33 :: x34 :: x35 :: x36 :: x37 :: x38 :: x39 :: x40 :: x41 :: x42 :: x43 :: x44 :: x45 :: x46 :: x47 :: x48 :: x49 :: x50 :: x51 :: x52 :: x53 :: x54 :: x55 :: x56 :: x57 :: x58 :: x59 :: x60 :: x61 :: x62 :: x63 :: x64 :: x65 :: x66 :: x67 :: x68 :: x69 :: x70 :: x71 :: x72 :: x73 :: x74 :: x75 :: x76 :: x77 :: x78 :: x79 :: x80 :: x81 :: x82 :: x83 :: x84 :: x85 :: x86 :: x87 :: x88 :: x89 :: x90 :: x91 :: x92 :: x93 :: x94 :: x95 :: x96 :: x97 :: x98 :: x99 :: x100 :: x101 :: x102 :: x103 :: x104 :: x105 :: x106 :: x107 :: x108 :: x109 :: x110 :: x111 :: x112 :: x113 :: x114 :: x115 :: x116 :: x117 :: x118 :: x119 :: x120 :: x121 :: x122 :: x123 :: x124 :: x125 :: x126 :: x127 :: x128 :: x129 :: x130 :: x131 :: x132 :: x133 :: x134 :: x135 :: x136 :: x137 :: x138 :: x139 :: x140 :: x141 :: x142 :: x143 :: x144 :: x145 :: x146 :: x147 :: x148 :: x149 :: x150 :: x151 :: x152 :: x153 :: x154 :: x155 :: x156 :: x157 :: x158 :: x159 :: x160 :: []).toArray,defers := ds } w := by
 obtain rfl := Option.some.inj (show some _ = some ops from hops)
 have hn : (([(95,.val (.slice (some ⟨b16,0,none⟩) 2 2)),(96,.val (.int .i64 i)),(97,.val (.pointer (some (⟨b16,i.toNat * 2,none⟩)))),(98,.val (.agg #[.int .i64 r0,.int .i64 r1])),(99,.val (.slice (some ⟨b17,0,none⟩) 2 2)),(100,.val (.int .i64 i)),(101,.val (.pointer (some (⟨b17,i.toNat * 2,none⟩)))),(102,.val (.agg #[.int .i64 d0,.int .i64 d1])),(103,.val (.slice (some ⟨b19,0,none⟩) 2 2)),(104,.val (.int .i64 i)),(105,.val (.pointer (some (⟨b19,i.toNat,none⟩)))),(106,.val (.int .i64 n)),(107,.val (.tuple #[.agg #[.int .i64 ra,.int .i64 rb],.int .i64 re])),(94,.val (.tuple #[.agg #[.int .i64 ra,.int .i64 rb],.int .i64 re])),(108,.val (.agg #[.int .i64 ra,.int .i64 rb])),(109,.val (.int .i64 re)),(23,.var 34 #[.int .i64 0,.int .i64 0] 17 #[.int .i64 ra,.int .i64 rb]),(1017,.set 16),(24,.val (.int .i64 re))] : List (Nat × Left)).map (·.1)).Nodup := by simp only [List.map_cons,List.map_nil];decide
 have hcn : ([] : List Nat).Nodup := by decide
 refine wp_region_alln 19 (by kernel_rfl) rfl (by kernel_rfl) (DiceAt g (fun k => ([s0] : List Int).getD k 0) [] [(95,.val (.slice (some ⟨b16,0,none⟩) 2 2)),(96,.val (.int .i64 i)),(97,.val (.pointer (some (⟨b16,i.toNat * 2,none⟩)))),(98,.val (.agg #[.int .i64 r0,.int .i64 r1])),(99,.val (.slice (some ⟨b17,0,none⟩) 2 2)),(100,.val (.int .i64 i)),(101,.val (.pointer (some (⟨b17,i.toNat * 2,none⟩)))),(102,.val (.agg #[.int .i64 d0,.int .i64 d1])),(103,.val (.slice (some ⟨b19,0,none⟩) 2 2)),(104,.val (.int .i64 i)),(105,.val (.pointer (some (⟨b19,i.toNat,none⟩)))),(106,.val (.int .i64 n)),(107,.val (.tuple #[.agg #[.int .i64 ra,.int .i64 rb],.int .i64 re])),(94,.val (.tuple #[.agg #[.int .i64 ra,.int .i64 rb],.int .i64 re])),(108,.val (.agg #[.int .i64 ra,.int .i64 rb])),(109,.val (.int .i64 re)),(23,.var 34 #[.int .i64 0,.int .i64 0] 17 #[.int .i64 ra,.int .i64 rb]),(1017,.set 16),(24,.val (.int .i64 re))] w0 w ((x0 :: x1 :: x2 :: x3 :: x4 :: x5 :: x6 :: x7 :: x8 :: x9 :: x10 :: .pointer (some ⟨g,0,none⟩) :: x12 :: x13 :: x14 :: x15 :: .slice (some ⟨b16,0,none⟩) 2 2 :: .slice (some ⟨b17,0,none⟩) 2 2 :: .slice (some ⟨b18,0,none⟩) 2 2 :: .slice (some ⟨b19,0,none⟩) 2 2 :: .int .i64 i :: x21 :: x22 :: x23 :: x24 :: x25 :: x26 :: x27 :: x28 :: x29 :: x30 :: x31 :: x32 :: x33 :: x34 :: x35 :: x36 :: x37 :: x38 :: x39 :: x40 :: x41 :: x42 :: x43 :: x44 :: x45 :: x46 :: x47 :: x48 :: x49 :: x50 :: x51 :: x52 :: x53 :: x54 :: x55 :: x56 :: x57 :: x58 :: x59 :: x60 :: x61 :: x62 :: x63 :: x64 :: x65 :: x66 :: x67 :: x68 :: x69 :: x70 :: x71 :: x72 :: x73 :: x74 :: x75 :: x76 :: x77 :: x78 :: x79 :: x80 :: x81 :: x82 :: x83 :: x84 :: x85 :: x86 :: x87 :: x88 :: x89 :: x90 :: x91 :: x92 :: x93 :: x94 :: x95 :: x96 :: x97 :: x98 :: x99 :: x100 :: x101 :: x102 :: x103 :: x104 :: x105 :: x106 :: x107 :: x108 :: x109 :: x110 :: x111 :: x112 :: x113 :: x114 :: x115 :: x116 :: x117 :: x118 :: x119 :: x120 :: x121 :: x122 :: x123 :: x124 :: x125 :: x126 :: x127 :: x128 :: x129 :: x130 :: x131 :: x132 :: x133 :: x134 :: x135 :: x136 :: x137 :: x138 :: x139 :: x140 :: x141 :: x142 :: x143 :: x144 :: x145 :: x146 :: x147 :: x148 :: x149 :: x150 :: x151 :: x152 :: x153 :: x154 :: x155 :: x156 :: x157 :: x158 :: x159 :: x160 :: []).toArray) ds) (DiceAt.start (n := 19) rfl hI hb0) ?_ ?_
 ·intro i o hi ho L a w h hL hf hall
  have hcase : i = 0 ∨ i = 1 ∨ i = 2 ∨ i = 3 ∨ i = 4 ∨ i = 5 ∨ i = 6 ∨ i = 7 ∨ i = 8 ∨ i = 9 ∨ i = 10 ∨ i = 11 ∨ i = 12 ∨ i = 13 ∨ i = 14 ∨ i = 15 ∨ i = 16 ∨ i = 17 ∨ i = 18 := by omega
  clear hi K
  rcases hcase with rfl | rfl | rfl | rfl | rfl | rfl | rfl | rfl | rfl | rfl | rfl | rfl | rfl | rfl | rfl | rfl | rfl | rfl | rfl
  ·obtain rfl := Option.some.inj (show some _ = some o from ho)
   have f16 : a.tmps.getD 16 undef = .slice (some ⟨b16,0,none⟩) 2 2 := h.rest 16 rfl
   exact h.op ho rfl rfl rfl hn (Nat.lt_of_lt_of_eq (by decide : 95 < 161) rfl) rfl (run_move w rfl f16) (Below.refl _ _) rfl rfl
  ·obtain rfl := Option.some.inj (show some _ = some o from ho)
   have f20 : a.tmps.getD 20 undef = .int .i64 i := h.rest 20 rfl
   exact h.op ho rfl rfl rfl hn (Nat.lt_of_lt_of_eq (by decide : 96 < 161) rfl) rfl (run_move w rfl f20) (Below.refl _ _) rfl rfl
  ·obtain rfl := Option.some.inj (show some _ = some o from ho)
   have l0 := listed_of hall 0 rfl
   have f95 : a.tmps.getD 95 undef = .slice (some ⟨b16,0,none⟩) 2 2 := h.facts 0 _ _ rfl l0
   have l1 := listed_of hall 1 rfl
   have f96 : a.tmps.getD 96 undef = .int .i64 i := h.facts 1 _ _ rfl l1
   exact h.op ho rfl rfl rfl hn (Nat.lt_of_lt_of_eq (by decide : 97 < 161) rfl) rfl (run_at_56 w rfl f95 f96 (by omega) (by omega)) (Below.refl _ _) rfl rfl
  ·obtain rfl := Option.some.inj (show some _ = some o from ho)
   have l2 := listed_of hall 2 rfl
   have f97 : a.tmps.getD 97 undef = .pointer (some (⟨b16,i.toNat * 2,none⟩)) := h.facts 2 _ _ rfl l2
   exact h.op ho rfl rfl rfl hn (Nat.lt_of_lt_of_eq (by decide : 98 < 161) rfl) rfl (run_load_34 w rfl f97 (qr0 _ h.keep) (qr1 _ h.keep)) (Below.refl _ _) rfl rfl
  ·obtain rfl := Option.some.inj (show some _ = some o from ho)
   have f17 : a.tmps.getD 17 undef = .slice (some ⟨b17,0,none⟩) 2 2 := h.rest 17 rfl
   exact h.op ho rfl rfl rfl hn (Nat.lt_of_lt_of_eq (by decide : 99 < 161) rfl) rfl (run_move w rfl f17) (Below.refl _ _) rfl rfl
  ·obtain rfl := Option.some.inj (show some _ = some o from ho)
   have f20 : a.tmps.getD 20 undef = .int .i64 i := h.rest 20 rfl
   exact h.op ho rfl rfl rfl hn (Nat.lt_of_lt_of_eq (by decide : 100 < 161) rfl) rfl (run_move w rfl f20) (Below.refl _ _) rfl rfl
  ·obtain rfl := Option.some.inj (show some _ = some o from ho)
   have l4 := listed_of hall 4 rfl
   have f99 : a.tmps.getD 99 undef = .slice (some ⟨b17,0,none⟩) 2 2 := h.facts 4 _ _ rfl l4
   have l5 := listed_of hall 5 rfl
   have f100 : a.tmps.getD 100 undef = .int .i64 i := h.facts 5 _ _ rfl l5
   exact h.op ho rfl rfl rfl hn (Nat.lt_of_lt_of_eq (by decide : 101 < 161) rfl) rfl (run_at_56 w rfl f99 f100 (by omega) (by omega)) (Below.refl _ _) rfl rfl
  ·obtain rfl := Option.some.inj (show some _ = some o from ho)
   have l6 := listed_of hall 6 rfl
   have f101 : a.tmps.getD 101 undef = .pointer (some (⟨b17,i.toNat * 2,none⟩)) := h.facts 6 _ _ rfl l6
   exact h.op ho rfl rfl rfl hn (Nat.lt_of_lt_of_eq (by decide : 102 < 161) rfl) rfl (run_load_34 w rfl f101 (qd0 _ h.keep) (qd1 _ h.keep)) (Below.refl _ _) rfl rfl
  ·obtain rfl := Option.some.inj (show some _ = some o from ho)
   have f19 : a.tmps.getD 19 undef = .slice (some ⟨b19,0,none⟩) 2 2 := h.rest 19 rfl
   exact h.op ho rfl rfl rfl hn (Nat.lt_of_lt_of_eq (by decide : 103 < 161) rfl) rfl (run_move w rfl f19) (Below.refl _ _) rfl rfl
  ·obtain rfl := Option.some.inj (show some _ = some o from ho)
   have f20 : a.tmps.getD 20 undef = .int .i64 i := h.rest 20 rfl
   exact h.op ho rfl rfl rfl hn (Nat.lt_of_lt_of_eq (by decide : 104 < 161) rfl) rfl (run_move w rfl f20) (Below.refl _ _) rfl rfl
  ·obtain rfl := Option.some.inj (show some _ = some o from ho)
   have l8 := listed_of hall 8 rfl
   have f103 : a.tmps.getD 103 undef = .slice (some ⟨b19,0,none⟩) 2 2 := h.facts 8 _ _ rfl l8
   have l9 := listed_of hall 9 rfl
   have f104 : a.tmps.getD 104 undef = .int .i64 i := h.facts 9 _ _ rfl l9
   exact h.op ho rfl rfl rfl hn (Nat.lt_of_lt_of_eq (by decide : 105 < 161) rfl) rfl (run_at_23 w rfl f103 f104 (by omega) (by omega)) (Below.refl _ _) rfl rfl
  ·obtain rfl := Option.some.inj (show some _ = some o from ho)
   have l10 := listed_of hall 10 rfl
   have f105 : a.tmps.getD 105 undef = .pointer (some (⟨b19,i.toNat,none⟩)) := h.facts 10 _ _ rfl l10
   exact h.op ho rfl rfl rfl hn (Nat.lt_of_lt_of_eq (by decide : 106 < 161) rfl) rfl (run_load_3 w rfl f105 (qn _ h.keep)) (Below.refl _ _) rfl rfl
  ·obtain rfl := Option.some.inj (show some _ = some o from ho)
   have l3 := listed_of hall 3 rfl
   have f98 : a.tmps.getD 98 undef = .agg #[.int .i64 r0,.int .i64 r1] := h.facts 3 _ _ rfl l3
   have l7 := listed_of hall 7 rfl
   have f102 : a.tmps.getD 102 undef = .agg #[.int .i64 d0,.int .i64 d1] := h.facts 7 _ _ rfl l7
   have l11 := listed_of hall 11 rfl
   have f106 : a.tmps.getD 106 undef = .int .i64 n := h.facts 11 _ _ rfl l11
   exact h.other (f := 33) (args := #[.agg #[.int .i64 r0,.int .i64 r1],.agg #[.int .i64 d0,.int .i64 d1],.int .i64 n]) ho rfl rfl rfl hn (Nat.lt_of_lt_of_eq (by decide : 107 < 161) rfl) rfl rfl (run_call w rfl rfl (by simp only [List.map_toArray,List.map_cons,List.map_nil];rw [show a.eval (.tmp 98) = _ from f98];rw [show a.eval (.tmp 102) = _ from f102];rw [show a.eval (.tmp 106) = _ from f106];first | done | rfl) (enters_of Try.func33 (by kernel_rfl) rfl) rfl) (R_Aged.calls kf r0 r1 d0 d1 n ra rb re w hT)
  ·obtain rfl := Option.some.inj (show some _ = some o from ho)
   have l12 := listed_of hall 12 rfl
   have f107 : a.tmps.getD 107 undef = .tuple #[.agg #[.int .i64 ra,.int .i64 rb],.int .i64 re] := h.facts 12 _ _ rfl l12
   exact h.op ho rfl rfl rfl hn (Nat.lt_of_lt_of_eq (by decide : 94 < 161) rfl) rfl (run_move w rfl f107) (Below.refl _ _) rfl rfl
  ·obtain rfl := Option.some.inj (show some _ = some o from ho)
   have l13 := listed_of hall 13 rfl
   have f94 : a.tmps.getD 94 undef = .tuple #[.agg #[.int .i64 ra,.int .i64 rb],.int .i64 re] := h.facts 13 _ _ rfl l13
   exact h.op ho rfl rfl rfl hn (Nat.lt_of_lt_of_eq (by decide : 108 < 161) rfl) rfl (run_extract_0 w rfl f94) (Below.refl _ _) rfl rfl
  ·obtain rfl := Option.some.inj (show some _ = some o from ho)
   have l13 := listed_of hall 13 rfl
   have f94 : a.tmps.getD 94 undef = .tuple #[.agg #[.int .i64 ra,.int .i64 rb],.int .i64 re] := h.facts 13 _ _ rfl l13
   exact h.op ho rfl rfl rfl hn (Nat.lt_of_lt_of_eq (by decide : 109 < 161) rfl) rfl (run_extract_1 w rfl f94) (Below.refl _ _) rfl rfl
  ·obtain rfl := Option.some.inj (show some _ = some o from ho)
   exact h.var ho rfl rfl rfl rfl hn (Nat.lt_of_lt_of_eq (by decide : 23 < 161) rfl) rfl rfl hf (run_var2 w rfl)
  ·obtain rfl := Option.some.inj (show some _ = some o from ho)
   have l14 := listed_of hall 14 rfl
   have f108 : a.tmps.getD 108 undef = .agg #[.int .i64 ra,.int .i64 rb] := h.facts 14 _ _ rfl l14
   have l16 := listed_of hall 16 rfl
   exact h.store ho rfl rfl rfl rfl rfl hb0.size (by rw [hL];decide) rfl hf l16 (fun b p q => run_store2 rfl p f108 q)
  ·obtain rfl := Option.some.inj (show some _ = some o from ho)
   have l15 := listed_of hall 15 rfl
   have f109 : a.tmps.getD 109 undef = .int .i64 re := h.facts 15 _ _ rfl l15
   exact h.op ho rfl rfl rfl hn (Nat.lt_of_lt_of_eq (by decide : 24 < 161) rfl) rfl (run_assign w rfl f109) (Below.refl _ _) rfl rfl
 ·intro L a w' h hall
  obtain ⟨b23,b1_23,bn_23,b2_23,b3_23⟩ := h.facts 16 _ _ rfl (hall 16 (by omega))
  rw [if_pos (hall 17 (by omega))] at b3_23
  have f24 : a.tmps.getD 24 undef = .int .i64 re := h.facts 18 _ _ rfl (hall 18 (by omega))
  have hD : IsS76 w0 w' g s0 := h.done (by intro i hi;cases hi)
  have e := h.frame (fun t => if t = 23 then .pointer (some ⟨b23,0,none⟩) else if t = 24 then .int .i64 re else a.tmps.getD t undef) (by
   intro x hx _
   simp only [List.mem_cons,List.not_mem_nil,or_false] at hx
   rcases hx with rfl | rfl | rfl | rfl | rfl | rfl | rfl | rfl | rfl | rfl | rfl | rfl | rfl | rfl | rfl | rfl | rfl | rfl | rfl
   all_goals first | rfl | assumption)
  have k := K (a.tmps.getD 95 undef) (a.tmps.getD 96 undef) (a.tmps.getD 97 undef) (a.tmps.getD 98 undef) (a.tmps.getD 99 undef) (a.tmps.getD 100 undef) (a.tmps.getD 101 undef) (a.tmps.getD 102 undef) (a.tmps.getD 103 undef) (a.tmps.getD 104 undef) (a.tmps.getD 105 undef) (a.tmps.getD 106 undef) (a.tmps.getD 107 undef) (a.tmps.getD 94 undef) (a.tmps.getD 108 undef) (a.tmps.getD 109 undef) b23 w' hD h.below h.keep b1_23 bn_23 b3_23
  clear K
  simp only [List.foldl_cons,List.foldl_nil,sB_,sS_,sZ_,List.set_nil,Nat.reduceEqDiff,reduceIte] at e
  rw [e]
  exact k
set_option maxHeartbeats 8000000 in
set_option maxRecDepth 100000 in
theorem Ages.region12 (b16 b17 b18 b19 : Nat) (i r0 r1 d0 d1 l0 l1 ra rb re : Int) {ops : Array Oper} (hops : (Try.f10.body.bind (regionOf 12)) = some ops) {Q : Exit → Act → World → Prop} {ds : List Deferred} {id : Nat} (g : Nat) (s0 : Int)  {x0 x1 x2 x3 x4 x5 x6 x7 x8 x9 x10 x12 x13 x14 x15 x21 x22 x23 x24 x25 x26 x27 x28 x29 x30 x31 x32 x33 x34 x35 x36 x37 x38 x39 x40 x41 x42 x43 x44 x45 x46 x47 x48 x49 x50 x51 x52 x53 x54 x55 x56 x57 x58 x59 x60 x61 x62 x63 x64 x65 x66 x67 x68 x69 x70 x71 x72 x73 x74 x75 x76 x77 x78 x79 x80 x81 x82 x83 x84 x85 x86 x87 x88 x89 x90 x91 x92 x93 x94 x95 x96 x97 x98 x99 x100 x101 x102 x103 x104 x105 x106 x107 x108 x109 x110 x111 x112 x113 x114 x115 x116 x117 x118 x119 x120 x121 x122 x123 x124 x125 x126 x127 x128 x129 x130 x131 x132 x133 x134 x135 x136 x137 x138 x139 x140 x141 x142 x143 x144 x145 x146 x147 x148 x149 x150 x151 x152 x153 x154 x155 x156 x157 x158 x159 x160 : Value} (w0 : World) {w : World} (hI : IsS76 w0 w g s0) (hb0 : Below w0.heap.size w0 w) (i0 : 0 ≤ i) (i1 : i < 2) (qr0 : ∀ W,KeepBut w W g none → W.cell? ⟨b16,i.toNat * 2,none⟩ = some (.int .i64 r0)) (qr1 : ∀ W,KeepBut w W g none → W.cell? ⟨b16,i.toNat * 2 + 1,none⟩ = some (.int .i64 r1)) (qd0 : ∀ W,KeepBut w W g none → W.cell? ⟨b17,i.toNat * 2,none⟩ = some (.int .i64 d0)) (qd1 : ∀ W,KeepBut w W g none → W.cell? ⟨b17,i.toNat * 2 + 1,none⟩ = some (.int .i64 d1)) (ql0 : ∀ W,KeepBut w W g none → W.cell? ⟨b18,i.toNat * 2,none⟩ = some (.int .i64 l0)) (ql1 : ∀ W,KeepBut w W g none → W.cell? ⟨b18,i.toNat * 2 + 1,none⟩ = some (.int .i64 l1)) (hT : gauge_Keeps.f r0 r1 d0 d1 l0 l1 = some (ra,rb,re))
  (K : ∀ (u111 u112 u113 u114 u115 u116 u117 u118 u119 u120 u121 u122 u123 u110 u124 u125 : Value) (b25 : Nat) (w' : World),IsS76 w0 w' g s0 → Below w0.heap.size w0 w' → KeepBut w w' g none → b25 ≠ g → w.heap.size ≤ b25 → w'.heap[b25]? = some (.cells #[.int .i64 ra,.int .i64 rb] 34 (0,0)) → Q .normal { tmps := (x0 :: x1 :: x2 :: x3 :: x4 :: x5 :: x6 :: x7 :: x8 :: x9 :: x10 :: .pointer (some ⟨g,0,none⟩) :: x12 :: x13 :: x14 :: x15 :: .slice (some ⟨b16,0,none⟩) 2 2 :: .slice (some ⟨b17,0,none⟩) 2 2 :: .slice (some ⟨b18,0,none⟩) 2 2 :: .slice (some ⟨b19,0,none⟩) 2 2 :: .int .i64 i :: x21 :: x22 :: x23 :: x24 :: .pointer (some ⟨b25,0,none⟩) :: .int .i64 re :: x27 :: x28 :: x29 :: x30 :: x31 :: x32 :: x33 :: x34 :: x35 :: x36 :: x37 :: x38 :: x39 :: x40 :: x41 :: x42 :: x43 :: x44 :: x45 :: x46 :: x47 :: x48 :: x49 :: x50 :: x51 :: x52 :: x53 :: x54 :: x55 :: x56 :: x57 :: x58 :: x59 :: x60 :: x61 :: x62 :: x63 :: x64 :: x65 :: x66 :: x67 :: x68 :: x69 :: x70 :: x71 :: x72 :: x73 :: x74 :: x75 :: x76 :: x77 :: x78 :: x79 :: x80 :: x81 :: x82 :: x83 :: x84 :: x85 :: x86 :: x87 :: x88 :: x89 :: x90 :: x91 :: x92 :: x93 :: x94 :: x95 :: x96 :: x97 :: x98 :: x99 :: x100 :: x101 :: x102 :: x103 :: x104 :: x105 :: x106 :: x107 :: x108 :: x109 :: u110 :: u111 :: u112 :: u113 :: u114 :: u115 :: u116 :: u117 :: u118 :: u119 :: u120 :: u121 :: u122 :: u123 :: u124 :: u125 :: x126 :: x127 :: x128 :: x129 :: x130 :: x131 :: x132 :: x133 :: x134 :: x135 :: x136 :: x137 :: x138 :: x139 :: x140 :: x141 :: x142 :: x143 :: x144 :: x145 :: x146 :: x147 :: x148 :: x149 :: x150 :: x151 :: x152 :: x153 :: x154 :: x155 :: x156 :: x157 :: x158 :: x159 :: x160 :: []).toArray,defers := ds } w') :
  (Code.region id ops true).wp Try.prog Q { tmps := (x0 :: x1 :: x2 :: x3 :: x4 :: x5 :: x6 :: x7 :: x8 :: x9 :: x10 :: .pointer (some ⟨g,0,none⟩) :: x12 :: x13 :: x14 :: x15 :: .slice (some ⟨b16,0,none⟩) 2 2 :: .slice (some ⟨b17,0,none⟩) 2 2 :: .slice (some ⟨b18,0,none⟩) 2 2 :: .slice (some ⟨b19,0,none⟩) 2 2 :: .int .i64 i :: x21 :: x22 :: x23 :: x24 :: x25 :: x26 :: x27 :: x28 :: x29 :: x30 :: x31 :: x32 :: x33 :: x34 :: x35 :: x36 :: x37 :: x38 :: x39 :: x40 :: x41 :: x42 :: x43 :: x44 :: x45 :: x46 :: x47 :: x48 :: x49 :: x50 :: x51 :: x52 :: x53 :: x54 :: x55 :: x56 :: x57 :: x58 :: x59 :: x60 :: x61 :: x62 :: x63 :: x64 :: x65 :: x66 :: x67 :: x68 :: x69 :: x70 :: x71 :: x72 :: x73 :: x74 :: x75 :: x76 :: x77 :: x78 :: x79 :: x80 :: x81 :: x82 :: x83 :: x84 :: x85 :: x86 :: x87 :: x88 :: x89 :: x90 :: x91 :: x92 :: x93 :: x94 :: x95 :: x96 :: x97 :: x98 :: x99 :: x100 :: x101 :: x102 :: x103 :: x104 :: x105 :: x106 :: x107 :: x108 :: x109 :: x110 :: x111 :: x112 :: x113 :: x114 :: x115 :: x116 :: x117 :: x118 :: x119 :: x120 :: x121 :: x122 :: x123 :: x124 :: x125 :: x126 :: x127 :: x128 :: x129 :: x130 :: x131 :: x132 :: x133 :: x134 :: x135 :: x136 :: x137 :: x138 :: x139 :: x140 :: x141 :: x142 :: x143 :: x144 :: x145 :: x146 :: x147 :: x148 :: x149 :: x150 :: x151 :: x152 :: x153 :: x154 :: x155 :: x156 :: x157 :: x158 :: x159 :: x160 :: []).toArray,defers := ds } w := by
 obtain rfl := Option.some.inj (show some _ = some ops from hops)
 have hn : (([(111,.val (.slice (some ⟨b16,0,none⟩) 2 2)),(112,.val (.int .i64 i)),(113,.val (.pointer (some (⟨b16,i.toNat * 2,none⟩)))),(114,.val (.agg #[.int .i64 r0,.int .i64 r1])),(115,.val (.slice (some ⟨b17,0,none⟩) 2 2)),(116,.val (.int .i64 i)),(117,.val (.pointer (some (⟨b17,i.toNat * 2,none⟩)))),(118,.val (.agg #[.int .i64 d0,.int .i64 d1])),(119,.val (.slice (some ⟨b18,0,none⟩) 2 2)),(120,.val (.int .i64 i)),(121,.val (.pointer (some (⟨b18,i.toNat * 2,none⟩)))),(122,.val (.agg #[.int .i64 l0,.int .i64 l1])),(123,.val (.tuple #[.agg #[.int .i64 ra,.int .i64 rb],.int .i64 re])),(110,.val (.tuple #[.agg #[.int .i64 ra,.int .i64 rb],.int .i64 re])),(124,.val (.agg #[.int .i64 ra,.int .i64 rb])),(125,.val (.int .i64 re)),(25,.var 34 #[.int .i64 0,.int .i64 0] 17 #[.int .i64 ra,.int .i64 rb]),(1017,.set 16),(26,.val (.int .i64 re))] : List (Nat × Left)).map (·.1)).Nodup := by simp only [List.map_cons,List.map_nil];decide
 have hcn : ([] : List Nat).Nodup := by decide
 refine wp_region_alln 19 (by kernel_rfl) rfl (by kernel_rfl) (DiceAt g (fun k => ([s0] : List Int).getD k 0) [] [(111,.val (.slice (some ⟨b16,0,none⟩) 2 2)),(112,.val (.int .i64 i)),(113,.val (.pointer (some (⟨b16,i.toNat * 2,none⟩)))),(114,.val (.agg #[.int .i64 r0,.int .i64 r1])),(115,.val (.slice (some ⟨b17,0,none⟩) 2 2)),(116,.val (.int .i64 i)),(117,.val (.pointer (some (⟨b17,i.toNat * 2,none⟩)))),(118,.val (.agg #[.int .i64 d0,.int .i64 d1])),(119,.val (.slice (some ⟨b18,0,none⟩) 2 2)),(120,.val (.int .i64 i)),(121,.val (.pointer (some (⟨b18,i.toNat * 2,none⟩)))),(122,.val (.agg #[.int .i64 l0,.int .i64 l1])),(123,.val (.tuple #[.agg #[.int .i64 ra,.int .i64 rb],.int .i64 re])),(110,.val (.tuple #[.agg #[.int .i64 ra,.int .i64 rb],.int .i64 re])),(124,.val (.agg #[.int .i64 ra,.int .i64 rb])),(125,.val (.int .i64 re)),(25,.var 34 #[.int .i64 0,.int .i64 0] 17 #[.int .i64 ra,.int .i64 rb]),(1017,.set 16),(26,.val (.int .i64 re))] w0 w ((x0 :: x1 :: x2 :: x3 :: x4 :: x5 :: x6 :: x7 :: x8 :: x9 :: x10 :: .pointer (some ⟨g,0,none⟩) :: x12 :: x13 :: x14 :: x15 :: .slice (some ⟨b16,0,none⟩) 2 2 :: .slice (some ⟨b17,0,none⟩) 2 2 :: .slice (some ⟨b18,0,none⟩) 2 2 :: .slice (some ⟨b19,0,none⟩) 2 2 :: .int .i64 i :: x21 :: x22 :: x23 :: x24 :: x25 :: x26 :: x27 :: x28 :: x29 :: x30 :: x31 :: x32 :: x33 :: x34 :: x35 :: x36 :: x37 :: x38 :: x39 :: x40 :: x41 :: x42 :: x43 :: x44 :: x45 :: x46 :: x47 :: x48 :: x49 :: x50 :: x51 :: x52 :: x53 :: x54 :: x55 :: x56 :: x57 :: x58 :: x59 :: x60 :: x61 :: x62 :: x63 :: x64 :: x65 :: x66 :: x67 :: x68 :: x69 :: x70 :: x71 :: x72 :: x73 :: x74 :: x75 :: x76 :: x77 :: x78 :: x79 :: x80 :: x81 :: x82 :: x83 :: x84 :: x85 :: x86 :: x87 :: x88 :: x89 :: x90 :: x91 :: x92 :: x93 :: x94 :: x95 :: x96 :: x97 :: x98 :: x99 :: x100 :: x101 :: x102 :: x103 :: x104 :: x105 :: x106 :: x107 :: x108 :: x109 :: x110 :: x111 :: x112 :: x113 :: x114 :: x115 :: x116 :: x117 :: x118 :: x119 :: x120 :: x121 :: x122 :: x123 :: x124 :: x125 :: x126 :: x127 :: x128 :: x129 :: x130 :: x131 :: x132 :: x133 :: x134 :: x135 :: x136 :: x137 :: x138 :: x139 :: x140 :: x141 :: x142 :: x143 :: x144 :: x145 :: x146 :: x147 :: x148 :: x149 :: x150 :: x151 :: x152 :: x153 :: x154 :: x155 :: x156 :: x157 :: x158 :: x159 :: x160 :: []).toArray) ds) (DiceAt.start (n := 19) rfl hI hb0) ?_ ?_
 ·intro i o hi ho L a w h hL hf hall
  have hcase : i = 0 ∨ i = 1 ∨ i = 2 ∨ i = 3 ∨ i = 4 ∨ i = 5 ∨ i = 6 ∨ i = 7 ∨ i = 8 ∨ i = 9 ∨ i = 10 ∨ i = 11 ∨ i = 12 ∨ i = 13 ∨ i = 14 ∨ i = 15 ∨ i = 16 ∨ i = 17 ∨ i = 18 := by omega
  clear hi K
  rcases hcase with rfl | rfl | rfl | rfl | rfl | rfl | rfl | rfl | rfl | rfl | rfl | rfl | rfl | rfl | rfl | rfl | rfl | rfl | rfl
  ·obtain rfl := Option.some.inj (show some _ = some o from ho)
   have f16 : a.tmps.getD 16 undef = .slice (some ⟨b16,0,none⟩) 2 2 := h.rest 16 rfl
   exact h.op ho rfl rfl rfl hn (Nat.lt_of_lt_of_eq (by decide : 111 < 161) rfl) rfl (run_move w rfl f16) (Below.refl _ _) rfl rfl
  ·obtain rfl := Option.some.inj (show some _ = some o from ho)
   have f20 : a.tmps.getD 20 undef = .int .i64 i := h.rest 20 rfl
   exact h.op ho rfl rfl rfl hn (Nat.lt_of_lt_of_eq (by decide : 112 < 161) rfl) rfl (run_move w rfl f20) (Below.refl _ _) rfl rfl
  ·obtain rfl := Option.some.inj (show some _ = some o from ho)
   have l0 := listed_of hall 0 rfl
   have f111 : a.tmps.getD 111 undef = .slice (some ⟨b16,0,none⟩) 2 2 := h.facts 0 _ _ rfl l0
   have l1 := listed_of hall 1 rfl
   have f112 : a.tmps.getD 112 undef = .int .i64 i := h.facts 1 _ _ rfl l1
   exact h.op ho rfl rfl rfl hn (Nat.lt_of_lt_of_eq (by decide : 113 < 161) rfl) rfl (run_at_56 w rfl f111 f112 (by omega) (by omega)) (Below.refl _ _) rfl rfl
  ·obtain rfl := Option.some.inj (show some _ = some o from ho)
   have l2 := listed_of hall 2 rfl
   have f113 : a.tmps.getD 113 undef = .pointer (some (⟨b16,i.toNat * 2,none⟩)) := h.facts 2 _ _ rfl l2
   exact h.op ho rfl rfl rfl hn (Nat.lt_of_lt_of_eq (by decide : 114 < 161) rfl) rfl (run_load_34 w rfl f113 (qr0 _ h.keep) (qr1 _ h.keep)) (Below.refl _ _) rfl rfl
  ·obtain rfl := Option.some.inj (show some _ = some o from ho)
   have f17 : a.tmps.getD 17 undef = .slice (some ⟨b17,0,none⟩) 2 2 := h.rest 17 rfl
   exact h.op ho rfl rfl rfl hn (Nat.lt_of_lt_of_eq (by decide : 115 < 161) rfl) rfl (run_move w rfl f17) (Below.refl _ _) rfl rfl
  ·obtain rfl := Option.some.inj (show some _ = some o from ho)
   have f20 : a.tmps.getD 20 undef = .int .i64 i := h.rest 20 rfl
   exact h.op ho rfl rfl rfl hn (Nat.lt_of_lt_of_eq (by decide : 116 < 161) rfl) rfl (run_move w rfl f20) (Below.refl _ _) rfl rfl
  ·obtain rfl := Option.some.inj (show some _ = some o from ho)
   have l4 := listed_of hall 4 rfl
   have f115 : a.tmps.getD 115 undef = .slice (some ⟨b17,0,none⟩) 2 2 := h.facts 4 _ _ rfl l4
   have l5 := listed_of hall 5 rfl
   have f116 : a.tmps.getD 116 undef = .int .i64 i := h.facts 5 _ _ rfl l5
   exact h.op ho rfl rfl rfl hn (Nat.lt_of_lt_of_eq (by decide : 117 < 161) rfl) rfl (run_at_56 w rfl f115 f116 (by omega) (by omega)) (Below.refl _ _) rfl rfl
  ·obtain rfl := Option.some.inj (show some _ = some o from ho)
   have l6 := listed_of hall 6 rfl
   have f117 : a.tmps.getD 117 undef = .pointer (some (⟨b17,i.toNat * 2,none⟩)) := h.facts 6 _ _ rfl l6
   exact h.op ho rfl rfl rfl hn (Nat.lt_of_lt_of_eq (by decide : 118 < 161) rfl) rfl (run_load_34 w rfl f117 (qd0 _ h.keep) (qd1 _ h.keep)) (Below.refl _ _) rfl rfl
  ·obtain rfl := Option.some.inj (show some _ = some o from ho)
   have f18 : a.tmps.getD 18 undef = .slice (some ⟨b18,0,none⟩) 2 2 := h.rest 18 rfl
   exact h.op ho rfl rfl rfl hn (Nat.lt_of_lt_of_eq (by decide : 119 < 161) rfl) rfl (run_move w rfl f18) (Below.refl _ _) rfl rfl
  ·obtain rfl := Option.some.inj (show some _ = some o from ho)
   have f20 : a.tmps.getD 20 undef = .int .i64 i := h.rest 20 rfl
   exact h.op ho rfl rfl rfl hn (Nat.lt_of_lt_of_eq (by decide : 120 < 161) rfl) rfl (run_move w rfl f20) (Below.refl _ _) rfl rfl
  ·obtain rfl := Option.some.inj (show some _ = some o from ho)
   have l8 := listed_of hall 8 rfl
   have f119 : a.tmps.getD 119 undef = .slice (some ⟨b18,0,none⟩) 2 2 := h.facts 8 _ _ rfl l8
   have l9 := listed_of hall 9 rfl
   have f120 : a.tmps.getD 120 undef = .int .i64 i := h.facts 9 _ _ rfl l9
   exact h.op ho rfl rfl rfl hn (Nat.lt_of_lt_of_eq (by decide : 121 < 161) rfl) rfl (run_at_56 w rfl f119 f120 (by omega) (by omega)) (Below.refl _ _) rfl rfl
  ·obtain rfl := Option.some.inj (show some _ = some o from ho)
   have l10 := listed_of hall 10 rfl
   have f121 : a.tmps.getD 121 undef = .pointer (some (⟨b18,i.toNat * 2,none⟩)) := h.facts 10 _ _ rfl l10
   exact h.op ho rfl rfl rfl hn (Nat.lt_of_lt_of_eq (by decide : 122 < 161) rfl) rfl (run_load_34 w rfl f121 (ql0 _ h.keep) (ql1 _ h.keep)) (Below.refl _ _) rfl rfl
  ·obtain rfl := Option.some.inj (show some _ = some o from ho)
   have l3 := listed_of hall 3 rfl
   have f114 : a.tmps.getD 114 undef = .agg #[.int .i64 r0,.int .i64 r1] := h.facts 3 _ _ rfl l3
   have l7 := listed_of hall 7 rfl
   have f118 : a.tmps.getD 118 undef = .agg #[.int .i64 d0,.int .i64 d1] := h.facts 7 _ _ rfl l7
   have l11 := listed_of hall 11 rfl
   have f122 : a.tmps.getD 122 undef = .agg #[.int .i64 l0,.int .i64 l1] := h.facts 11 _ _ rfl l11
   exact h.other (f := 34) (args := #[.agg #[.int .i64 r0,.int .i64 r1],.agg #[.int .i64 d0,.int .i64 d1],.agg #[.int .i64 l0,.int .i64 l1]]) ho rfl rfl rfl hn (Nat.lt_of_lt_of_eq (by decide : 123 < 161) rfl) rfl rfl (run_call w rfl rfl (by simp only [List.map_toArray,List.map_cons,List.map_nil];rw [show a.eval (.tmp 114) = _ from f114];rw [show a.eval (.tmp 118) = _ from f118];rw [show a.eval (.tmp 122) = _ from f122];first | done | rfl) (enters_of Try.func34 (by kernel_rfl) rfl) rfl) (gauge_Keeps.calls r0 r1 d0 d1 l0 l1 ra rb re w hT)
  ·obtain rfl := Option.some.inj (show some _ = some o from ho)
   have l12 := listed_of hall 12 rfl
   have f123 : a.tmps.getD 123 undef = .tuple #[.agg #[.int .i64 ra,.int .i64 rb],.int .i64 re] := h.facts 12 _ _ rfl l12
   exact h.op ho rfl rfl rfl hn (Nat.lt_of_lt_of_eq (by decide : 110 < 161) rfl) rfl (run_move w rfl f123) (Below.refl _ _) rfl rfl
  ·obtain rfl := Option.some.inj (show some _ = some o from ho)
   have l13 := listed_of hall 13 rfl
   have f110 : a.tmps.getD 110 undef = .tuple #[.agg #[.int .i64 ra,.int .i64 rb],.int .i64 re] := h.facts 13 _ _ rfl l13
   exact h.op ho rfl rfl rfl hn (Nat.lt_of_lt_of_eq (by decide : 124 < 161) rfl) rfl (run_extract_0 w rfl f110) (Below.refl _ _) rfl rfl
  ·obtain rfl := Option.some.inj (show some _ = some o from ho)
   have l13 := listed_of hall 13 rfl
   have f110 : a.tmps.getD 110 undef = .tuple #[.agg #[.int .i64 ra,.int .i64 rb],.int .i64 re] := h.facts 13 _ _ rfl l13
   exact h.op ho rfl rfl rfl hn (Nat.lt_of_lt_of_eq (by decide : 125 < 161) rfl) rfl (run_extract_1 w rfl f110) (Below.refl _ _) rfl rfl
  ·obtain rfl := Option.some.inj (show some _ = some o from ho)
   exact h.var ho rfl rfl rfl rfl hn (Nat.lt_of_lt_of_eq (by decide : 25 < 161) rfl) rfl rfl hf (run_var2 w rfl)
  ·obtain rfl := Option.some.inj (show some _ = some o from ho)
   have l14 := listed_of hall 14 rfl
   have f124 : a.tmps.getD 124 undef = .agg #[.int .i64 ra,.int .i64 rb] := h.facts 14 _ _ rfl l14
   have l16 := listed_of hall 16 rfl
   exact h.store ho rfl rfl rfl rfl rfl hb0.size (by rw [hL];decide) rfl hf l16 (fun b p q => run_store2 rfl p f124 q)
  ·obtain rfl := Option.some.inj (show some _ = some o from ho)
   have l15 := listed_of hall 15 rfl
   have f125 : a.tmps.getD 125 undef = .int .i64 re := h.facts 15 _ _ rfl l15
   exact h.op ho rfl rfl rfl hn (Nat.lt_of_lt_of_eq (by decide : 26 < 161) rfl) rfl (run_assign w rfl f125) (Below.refl _ _) rfl rfl
 ·intro L a w' h hall
  obtain ⟨b25,b1_25,bn_25,b2_25,b3_25⟩ := h.facts 16 _ _ rfl (hall 16 (by omega))
  rw [if_pos (hall 17 (by omega))] at b3_25
  have f26 : a.tmps.getD 26 undef = .int .i64 re := h.facts 18 _ _ rfl (hall 18 (by omega))
  have hD : IsS76 w0 w' g s0 := h.done (by intro i hi;cases hi)
  have e := h.frame (fun t => if t = 25 then .pointer (some ⟨b25,0,none⟩) else if t = 26 then .int .i64 re else a.tmps.getD t undef) (by
   intro x hx _
   simp only [List.mem_cons,List.not_mem_nil,or_false] at hx
   rcases hx with rfl | rfl | rfl | rfl | rfl | rfl | rfl | rfl | rfl | rfl | rfl | rfl | rfl | rfl | rfl | rfl | rfl | rfl | rfl
   all_goals first | rfl | assumption)
  have k := K (a.tmps.getD 111 undef) (a.tmps.getD 112 undef) (a.tmps.getD 113 undef) (a.tmps.getD 114 undef) (a.tmps.getD 115 undef) (a.tmps.getD 116 undef) (a.tmps.getD 117 undef) (a.tmps.getD 118 undef) (a.tmps.getD 119 undef) (a.tmps.getD 120 undef) (a.tmps.getD 121 undef) (a.tmps.getD 122 undef) (a.tmps.getD 123 undef) (a.tmps.getD 110 undef) (a.tmps.getD 124 undef) (a.tmps.getD 125 undef) b25 w' hD h.below h.keep b1_25 bn_25 b3_25
  clear K
  simp only [List.foldl_cons,List.foldl_nil,sB_,sS_,sZ_,List.set_nil,Nat.reduceEqDiff,reduceIte] at e
  rw [e]
  exact k
set_option maxHeartbeats 8000000 in
set_option maxRecDepth 100000 in
theorem Ages.region13 (b16 b17 b18 b19 : Nat) (i r0 r1 d0 d1 l0 l1 ra rb re : Int) (kf : Nat) {ops : Array Oper} (hops : (Try.f10.body.bind (regionOf 13)) = some ops) {Q : Exit → Act → World → Prop} {ds : List Deferred} {id : Nat} (g : Nat) (s0 : Int)  {x0 x1 x2 x3 x4 x5 x6 x7 x8 x9 x10 x12 x13 x14 x15 x21 x22 x23 x24 x25 x26 x27 x28 x29 x30 x31 x32 x33 x34 x35 x36 x37 x38 x39 x40 x41 x42 x43 x44 x45 x46 x47 x48 x49 x50 x51 x52 x53 x54 x55 x56 x57 x58 x59 x60 x61 x62 x63 x64 x65 x66 x67 x68 x69 x70 x71 x72 x73 x74 x75 x76 x77 x78 x79 x80 x81 x82 x83 x84 x85 x86 x87 x88 x89 x90 x91 x92 x93 x94 x95 x96 x97 x98 x99 x100 x101 x102 x103 x104 x105 x106 x107 x108 x109 x110 x111 x112 x113 x114 x115 x116 x117 x118 x119 x120 x121 x122 x123 x124 x125 x126 x127 x128 x129 x130 x131 x132 x133 x134 x135 x136 x137 x138 x139 x140 x141 x142 x143 x144 x145 x146 x147 x148 x149 x150 x151 x152 x153 x154 x155 x156 x157 x158 x159 x160 : Value} (w0 : World) {w : World} (hI : IsS76 w0 w g s0) (hb0 : Below w0.heap.size w0 w) (i0 : 0 ≤ i) (i1 : i < 2) (qr0 : ∀ W,KeepBut w W g none → W.cell? ⟨b16,i.toNat * 2,none⟩ = some (.int .i64 r0)) (qr1 : ∀ W,KeepBut w W g none → W.cell? ⟨b16,i.toNat * 2 + 1,none⟩ = some (.int .i64 r1)) (qd0 : ∀ W,KeepBut w W g none → W.cell? ⟨b17,i.toNat * 2,none⟩ = some (.int .i64 d0)) (qd1 : ∀ W,KeepBut w W g none → W.cell? ⟨b17,i.toNat * 2 + 1,none⟩ = some (.int .i64 d1)) (ql0 : ∀ W,KeepBut w W g none → W.cell? ⟨b18,i.toNat * 2,none⟩ = some (.int .i64 l0)) (ql1 : ∀ W,KeepBut w W g none → W.cell? ⟨b18,i.toNat * 2 + 1,none⟩ = some (.int .i64 l1)) (hT : R_Keeps.f kf r0 r1 d0 d1 l0 l1 = some (ra,rb,re))
  (K : ∀ (u127 u128 u129 u130 u131 u132 u133 u134 u135 u136 u137 u138 u139 u126 u140 u141 : Value) (b27 : Nat) (w' : World),IsS76 w0 w' g s0 → Below w0.heap.size w0 w' → KeepBut w w' g none → b27 ≠ g → w.heap.size ≤ b27 → w'.heap[b27]? = some (.cells #[.int .i64 ra,.int .i64 rb] 34 (0,0)) → Q .normal { tmps := (x0 :: x1 :: x2 :: x3 :: x4 :: x5 :: x6 :: x7 :: x8 :: x9 :: x10 :: .pointer (some ⟨g,0,none⟩) :: x12 :: x13 :: x14 :: x15 :: .slice (some ⟨b16,0,none⟩) 2 2 :: .slice (some ⟨b17,0,none⟩) 2 2 :: .slice (some ⟨b18,0,none⟩) 2 2 :: .slice (some ⟨b19,0,none⟩) 2 2 :: .int .i64 i :: x21 :: x22 :: x23 :: x24 :: x25 :: x26 :: .pointer (some ⟨b27,0,none⟩) :: .int .i64 re :: x29 :: x30 :: x31 :: x32 :: x33 :: x34 :: x35 :: x36 :: x37 :: x38 :: x39 :: x40 :: x41 :: x42 :: x43 :: x44 :: x45 :: x46 :: x47 :: x48 :: x49 :: x50 :: x51 :: x52 :: x53 :: x54 :: x55 :: x56 :: x57 :: x58 :: x59 :: x60 :: x61 :: x62 :: x63 :: x64 :: x65 :: x66 :: x67 :: x68 :: x69 :: x70 :: x71 :: x72 :: x73 :: x74 :: x75 :: x76 :: x77 :: x78 :: x79 :: x80 :: x81 :: x82 :: x83 :: x84 :: x85 :: x86 :: x87 :: x88 :: x89 :: x90 :: x91 :: x92 :: x93 :: x94 :: x95 :: x96 :: x97 :: x98 :: x99 :: x100 :: x101 :: x102 :: x103 :: x104 :: x105 :: x106 :: x107 :: x108 :: x109 :: x110 :: x111 :: x112 :: x113 :: x114 :: x115 :: x116 :: x117 :: x118 :: x119 :: x120 :: x121 :: x122 :: x123 :: x124 :: x125 :: u126 :: u127 :: u128 :: u129 :: u130 :: u131 :: u132 :: u133 :: u134 :: u135 :: u136 :: u137 :: u138 :: u139 :: u140 :: u141 :: x142 :: x143 :: x144 :: x145 :: x146 :: x147 :: x148 :: x149 :: x150 :: x151 :: x152 :: x153 :: x154 :: x155 :: x156 :: x157 :: x158 :: x159 :: x160 :: []).toArray,defers := ds } w') :
  (Code.region id ops true).wp Try.prog Q { tmps := (x0 :: x1 :: x2 :: x3 :: x4 :: x5 :: x6 :: x7 :: x8 :: x9 :: x10 :: .pointer (some ⟨g,0,none⟩) :: x12 :: x13 :: x14 :: x15 :: .slice (some ⟨b16,0,none⟩) 2 2 :: .slice (some ⟨b17,0,none⟩) 2 2 :: .slice (some ⟨b18,0,none⟩) 2 2 :: .slice (some ⟨b19,0,none⟩) 2 2 :: .int .i64 i :: x21 :: x22 :: x23 :: x24 :: x25 :: x26 :: x27 :: x28 :: x29 :: x30 :: x31 :: x32 :: x33 :: x34 :: x35 :: x36 :: x37 :: x38 :: x39 :: x40 :: x41 :: x42 :: x43 :: x44 :: x45 :: x46 :: x47 :: x48 :: x49 :: x50 :: x51 :: x52 :: x53 :: x54 :: x55 :: x56 :: x57 :: x58 :: x59 :: x60 :: x61 :: x62 :: x63 :: x64 :: x65 :: x66 :: x67 :: x68 :: x69 :: x70 :: x71 :: x72 :: x73 :: x74 :: x75 :: x76 :: x77 :: x78 :: x79 :: x80 :: x81 :: x82 :: x83 :: x84 :: x85 :: x86 :: x87 :: x88 :: x89 :: x90 :: x91 :: x92 :: x93 :: x94 :: x95 :: x96 :: x97 :: x98 :: x99 :: x100 :: x101 :: x102 :: x103 :: x104 :: x105 :: x106 :: x107 :: x108 :: x109 :: x110 :: x111 :: x112 :: x113 :: x114 :: x115 :: x116 :: x117 :: x118 :: x119 :: x120 :: x121 :: x122 :: x123 :: x124 :: x125 :: x126 :: x127 :: x128 :: x129 :: x130 :: x131 :: x132 :: x133 :: x134 :: x135 :: x136 :: x137 :: x138 :: x139 :: x140 :: x141 :: x142 :: x143 :: x144 :: x145 :: x146 :: x147 :: x148 :: x149 :: x150 :: x151 :: x152 :: x153 :: x154 :: x155 :: x156 :: x157 :: x158 :: x159 :: x160 :: []).toArray,defers := ds } w := by
 obtain rfl := Option.some.inj (show some _ = some ops from hops)
 have hn : (([(127,.val (.slice (some ⟨b16,0,none⟩) 2 2)),(128,.val (.int .i64 i)),(129,.val (.pointer (some (⟨b16,i.toNat * 2,none⟩)))),(130,.val (.agg #[.int .i64 r0,.int .i64 r1])),(131,.val (.slice (some ⟨b17,0,none⟩) 2 2)),(132,.val (.int .i64 i)),(133,.val (.pointer (some (⟨b17,i.toNat * 2,none⟩)))),(134,.val (.agg #[.int .i64 d0,.int .i64 d1])),(135,.val (.slice (some ⟨b18,0,none⟩) 2 2)),(136,.val (.int .i64 i)),(137,.val (.pointer (some (⟨b18,i.toNat * 2,none⟩)))),(138,.val (.agg #[.int .i64 l0,.int .i64 l1])),(139,.val (.tuple #[.agg #[.int .i64 ra,.int .i64 rb],.int .i64 re])),(126,.val (.tuple #[.agg #[.int .i64 ra,.int .i64 rb],.int .i64 re])),(140,.val (.agg #[.int .i64 ra,.int .i64 rb])),(141,.val (.int .i64 re)),(27,.var 34 #[.int .i64 0,.int .i64 0] 17 #[.int .i64 ra,.int .i64 rb]),(1017,.set 16),(28,.val (.int .i64 re))] : List (Nat × Left)).map (·.1)).Nodup := by simp only [List.map_cons,List.map_nil];decide
 have hcn : ([] : List Nat).Nodup := by decide
 refine wp_region_alln 19 (by kernel_rfl) rfl (by kernel_rfl) (DiceAt g (fun k => ([s0] : List Int).getD k 0) [] [(127,.val (.slice (some ⟨b16,0,none⟩) 2 2)),(128,.val (.int .i64 i)),(129,.val (.pointer (some (⟨b16,i.toNat * 2,none⟩)))),(130,.val (.agg #[.int .i64 r0,.int .i64 r1])),(131,.val (.slice (some ⟨b17,0,none⟩) 2 2)),(132,.val (.int .i64 i)),(133,.val (.pointer (some (⟨b17,i.toNat * 2,none⟩)))),(134,.val (.agg #[.int .i64 d0,.int .i64 d1])),(135,.val (.slice (some ⟨b18,0,none⟩) 2 2)),(136,.val (.int .i64 i)),(137,.val (.pointer (some (⟨b18,i.toNat * 2,none⟩)))),(138,.val (.agg #[.int .i64 l0,.int .i64 l1])),(139,.val (.tuple #[.agg #[.int .i64 ra,.int .i64 rb],.int .i64 re])),(126,.val (.tuple #[.agg #[.int .i64 ra,.int .i64 rb],.int .i64 re])),(140,.val (.agg #[.int .i64 ra,.int .i64 rb])),(141,.val (.int .i64 re)),(27,.var 34 #[.int .i64 0,.int .i64 0] 17 #[.int .i64 ra,.int .i64 rb]),(1017,.set 16),(28,.val (.int .i64 re))] w0 w ((x0 :: x1 :: x2 :: x3 :: x4 :: x5 :: x6 :: x7 :: x8 :: x9 :: x10 :: .pointer (some ⟨g,0,none⟩) :: x12 :: x13 :: x14 :: x15 :: .slice (some ⟨b16,0,none⟩) 2 2 :: .slice (some ⟨b17,0,none⟩) 2 2 :: .slice (some ⟨b18,0,none⟩) 2 2 :: .slice (some ⟨b19,0,none⟩) 2 2 :: .int .i64 i :: x21 :: x22 :: x23 :: x24 :: x25 :: x26 :: x27 :: x28 :: x29 :: x30 :: x31 :: x32 :: x33 :: x34 :: x35 :: x36 :: x37 :: x38 :: x39 :: x40 :: x41 :: x42 :: x43 :: x44 :: x45 :: x46 :: x47 :: x48 :: x49 :: x50 :: x51 :: x52 :: x53 :: x54 :: x55 :: x56 :: x57 :: x58 :: x59 :: x60 :: x61 :: x62 :: x63 :: x64 :: x65 :: x66 :: x67 :: x68 :: x69 :: x70 :: x71 :: x72 :: x73 :: x74 :: x75 :: x76 :: x77 :: x78 :: x79 :: x80 :: x81 :: x82 :: x83 :: x84 :: x85 :: x86 :: x87 :: x88 :: x89 :: x90 :: x91 :: x92 :: x93 :: x94 :: x95 :: x96 :: x97 :: x98 :: x99 :: x100 :: x101 :: x102 :: x103 :: x104 :: x105 :: x106 :: x107 :: x108 :: x109 :: x110 :: x111 :: x112 :: x113 :: x114 :: x115 :: x116 :: x117 :: x118 :: x119 :: x120 :: x121 :: x122 :: x123 :: x124 :: x125 :: x126 :: x127 :: x128 :: x129 :: x130 :: x131 :: x132 :: x133 :: x134 :: x135 :: x136 :: x137 :: x138 :: x139 :: x140 :: x141 :: x142 :: x143 :: x144 :: x145 :: x146 :: x147 :: x148 :: x149 :: x150 :: x151 :: x152 :: x153 :: x154 :: x155 :: x156 :: x157 :: x158 :: x159 :: x160 :: []).toArray) ds) (DiceAt.start (n := 19) rfl hI hb0) ?_ ?_
 ·intro i o hi ho L a w h hL hf hall
  have hcase : i = 0 ∨ i = 1 ∨ i = 2 ∨ i = 3 ∨ i = 4 ∨ i = 5 ∨ i = 6 ∨ i = 7 ∨ i = 8 ∨ i = 9 ∨ i = 10 ∨ i = 11 ∨ i = 12 ∨ i = 13 ∨ i = 14 ∨ i = 15 ∨ i = 16 ∨ i = 17 ∨ i = 18 := by omega
  clear hi K
  rcases hcase with rfl | rfl | rfl | rfl | rfl | rfl | rfl | rfl | rfl | rfl | rfl | rfl | rfl | rfl | rfl | rfl | rfl | rfl | rfl
  ·obtain rfl := Option.some.inj (show some _ = some o from ho)
   have f16 : a.tmps.getD 16 undef = .slice (some ⟨b16,0,none⟩) 2 2 := h.rest 16 rfl
   exact h.op ho rfl rfl rfl hn (Nat.lt_of_lt_of_eq (by decide : 127 < 161) rfl) rfl (run_move w rfl f16) (Below.refl _ _) rfl rfl
  ·obtain rfl := Option.some.inj (show some _ = some o from ho)
   have f20 : a.tmps.getD 20 undef = .int .i64 i := h.rest 20 rfl
   exact h.op ho rfl rfl rfl hn (Nat.lt_of_lt_of_eq (by decide : 128 < 161) rfl) rfl (run_move w rfl f20) (Below.refl _ _) rfl rfl
  ·obtain rfl := Option.some.inj (show some _ = some o from ho)
   have l0 := listed_of hall 0 rfl
   have f127 : a.tmps.getD 127 undef = .slice (some ⟨b16,0,none⟩) 2 2 := h.facts 0 _ _ rfl l0
   have l1 := listed_of hall 1 rfl
   have f128 : a.tmps.getD 128 undef = .int .i64 i := h.facts 1 _ _ rfl l1
   exact h.op ho rfl rfl rfl hn (Nat.lt_of_lt_of_eq (by decide : 129 < 161) rfl) rfl (run_at_56 w rfl f127 f128 (by omega) (by omega)) (Below.refl _ _) rfl rfl
  ·obtain rfl := Option.some.inj (show some _ = some o from ho)
   have l2 := listed_of hall 2 rfl
   have f129 : a.tmps.getD 129 undef = .pointer (some (⟨b16,i.toNat * 2,none⟩)) := h.facts 2 _ _ rfl l2
   exact h.op ho rfl rfl rfl hn (Nat.lt_of_lt_of_eq (by decide : 130 < 161) rfl) rfl (run_load_34 w rfl f129 (qr0 _ h.keep) (qr1 _ h.keep)) (Below.refl _ _) rfl rfl
  ·obtain rfl := Option.some.inj (show some _ = some o from ho)
   have f17 : a.tmps.getD 17 undef = .slice (some ⟨b17,0,none⟩) 2 2 := h.rest 17 rfl
   exact h.op ho rfl rfl rfl hn (Nat.lt_of_lt_of_eq (by decide : 131 < 161) rfl) rfl (run_move w rfl f17) (Below.refl _ _) rfl rfl
  ·obtain rfl := Option.some.inj (show some _ = some o from ho)
   have f20 : a.tmps.getD 20 undef = .int .i64 i := h.rest 20 rfl
   exact h.op ho rfl rfl rfl hn (Nat.lt_of_lt_of_eq (by decide : 132 < 161) rfl) rfl (run_move w rfl f20) (Below.refl _ _) rfl rfl
  ·obtain rfl := Option.some.inj (show some _ = some o from ho)
   have l4 := listed_of hall 4 rfl
   have f131 : a.tmps.getD 131 undef = .slice (some ⟨b17,0,none⟩) 2 2 := h.facts 4 _ _ rfl l4
   have l5 := listed_of hall 5 rfl
   have f132 : a.tmps.getD 132 undef = .int .i64 i := h.facts 5 _ _ rfl l5
   exact h.op ho rfl rfl rfl hn (Nat.lt_of_lt_of_eq (by decide : 133 < 161) rfl) rfl (run_at_56 w rfl f131 f132 (by omega) (by omega)) (Below.refl _ _) rfl rfl
  ·obtain rfl := Option.some.inj (show some _ = some o from ho)
   have l6 := listed_of hall 6 rfl
   have f133 : a.tmps.getD 133 undef = .pointer (some (⟨b17,i.toNat * 2,none⟩)) := h.facts 6 _ _ rfl l6
   exact h.op ho rfl rfl rfl hn (Nat.lt_of_lt_of_eq (by decide : 134 < 161) rfl) rfl (run_load_34 w rfl f133 (qd0 _ h.keep) (qd1 _ h.keep)) (Below.refl _ _) rfl rfl
  ·obtain rfl := Option.some.inj (show some _ = some o from ho)
   have f18 : a.tmps.getD 18 undef = .slice (some ⟨b18,0,none⟩) 2 2 := h.rest 18 rfl
   exact h.op ho rfl rfl rfl hn (Nat.lt_of_lt_of_eq (by decide : 135 < 161) rfl) rfl (run_move w rfl f18) (Below.refl _ _) rfl rfl
  ·obtain rfl := Option.some.inj (show some _ = some o from ho)
   have f20 : a.tmps.getD 20 undef = .int .i64 i := h.rest 20 rfl
   exact h.op ho rfl rfl rfl hn (Nat.lt_of_lt_of_eq (by decide : 136 < 161) rfl) rfl (run_move w rfl f20) (Below.refl _ _) rfl rfl
  ·obtain rfl := Option.some.inj (show some _ = some o from ho)
   have l8 := listed_of hall 8 rfl
   have f135 : a.tmps.getD 135 undef = .slice (some ⟨b18,0,none⟩) 2 2 := h.facts 8 _ _ rfl l8
   have l9 := listed_of hall 9 rfl
   have f136 : a.tmps.getD 136 undef = .int .i64 i := h.facts 9 _ _ rfl l9
   exact h.op ho rfl rfl rfl hn (Nat.lt_of_lt_of_eq (by decide : 137 < 161) rfl) rfl (run_at_56 w rfl f135 f136 (by omega) (by omega)) (Below.refl _ _) rfl rfl
  ·obtain rfl := Option.some.inj (show some _ = some o from ho)
   have l10 := listed_of hall 10 rfl
   have f137 : a.tmps.getD 137 undef = .pointer (some (⟨b18,i.toNat * 2,none⟩)) := h.facts 10 _ _ rfl l10
   exact h.op ho rfl rfl rfl hn (Nat.lt_of_lt_of_eq (by decide : 138 < 161) rfl) rfl (run_load_34 w rfl f137 (ql0 _ h.keep) (ql1 _ h.keep)) (Below.refl _ _) rfl rfl
  ·obtain rfl := Option.some.inj (show some _ = some o from ho)
   have l3 := listed_of hall 3 rfl
   have f130 : a.tmps.getD 130 undef = .agg #[.int .i64 r0,.int .i64 r1] := h.facts 3 _ _ rfl l3
   have l7 := listed_of hall 7 rfl
   have f134 : a.tmps.getD 134 undef = .agg #[.int .i64 d0,.int .i64 d1] := h.facts 7 _ _ rfl l7
   have l11 := listed_of hall 11 rfl
   have f138 : a.tmps.getD 138 undef = .agg #[.int .i64 l0,.int .i64 l1] := h.facts 11 _ _ rfl l11
   exact h.other (f := 35) (args := #[.agg #[.int .i64 r0,.int .i64 r1],.agg #[.int .i64 d0,.int .i64 d1],.agg #[.int .i64 l0,.int .i64 l1]]) ho rfl rfl rfl hn (Nat.lt_of_lt_of_eq (by decide : 139 < 161) rfl) rfl rfl (run_call w rfl rfl (by simp only [List.map_toArray,List.map_cons,List.map_nil];rw [show a.eval (.tmp 130) = _ from f130];rw [show a.eval (.tmp 134) = _ from f134];rw [show a.eval (.tmp 138) = _ from f138];first | done | rfl) (enters_of Try.func35 (by kernel_rfl) rfl) rfl) (R_Keeps.calls kf r0 r1 d0 d1 l0 l1 ra rb re w hT)
  ·obtain rfl := Option.some.inj (show some _ = some o from ho)
   have l12 := listed_of hall 12 rfl
   have f139 : a.tmps.getD 139 undef = .tuple #[.agg #[.int .i64 ra,.int .i64 rb],.int .i64 re] := h.facts 12 _ _ rfl l12
   exact h.op ho rfl rfl rfl hn (Nat.lt_of_lt_of_eq (by decide : 126 < 161) rfl) rfl (run_move w rfl f139) (Below.refl _ _) rfl rfl
  ·obtain rfl := Option.some.inj (show some _ = some o from ho)
   have l13 := listed_of hall 13 rfl
   have f126 : a.tmps.getD 126 undef = .tuple #[.agg #[.int .i64 ra,.int .i64 rb],.int .i64 re] := h.facts 13 _ _ rfl l13
   exact h.op ho rfl rfl rfl hn (Nat.lt_of_lt_of_eq (by decide : 140 < 161) rfl) rfl (run_extract_0 w rfl f126) (Below.refl _ _) rfl rfl
  ·obtain rfl := Option.some.inj (show some _ = some o from ho)
   have l13 := listed_of hall 13 rfl
   have f126 : a.tmps.getD 126 undef = .tuple #[.agg #[.int .i64 ra,.int .i64 rb],.int .i64 re] := h.facts 13 _ _ rfl l13
   exact h.op ho rfl rfl rfl hn (Nat.lt_of_lt_of_eq (by decide : 141 < 161) rfl) rfl (run_extract_1 w rfl f126) (Below.refl _ _) rfl rfl
  ·obtain rfl := Option.some.inj (show some _ = some o from ho)
   exact h.var ho rfl rfl rfl rfl hn (Nat.lt_of_lt_of_eq (by decide : 27 < 161) rfl) rfl rfl hf (run_var2 w rfl)
  ·obtain rfl := Option.some.inj (show some _ = some o from ho)
   have l14 := listed_of hall 14 rfl
   have f140 : a.tmps.getD 140 undef = .agg #[.int .i64 ra,.int .i64 rb] := h.facts 14 _ _ rfl l14
   have l16 := listed_of hall 16 rfl
   exact h.store ho rfl rfl rfl rfl rfl hb0.size (by rw [hL];decide) rfl hf l16 (fun b p q => run_store2 rfl p f140 q)
  ·obtain rfl := Option.some.inj (show some _ = some o from ho)
   have l15 := listed_of hall 15 rfl
   have f141 : a.tmps.getD 141 undef = .int .i64 re := h.facts 15 _ _ rfl l15
   exact h.op ho rfl rfl rfl hn (Nat.lt_of_lt_of_eq (by decide : 28 < 161) rfl) rfl (run_assign w rfl f141) (Below.refl _ _) rfl rfl
 ·intro L a w' h hall
  obtain ⟨b27,b1_27,bn_27,b2_27,b3_27⟩ := h.facts 16 _ _ rfl (hall 16 (by omega))
  rw [if_pos (hall 17 (by omega))] at b3_27
  have f28 : a.tmps.getD 28 undef = .int .i64 re := h.facts 18 _ _ rfl (hall 18 (by omega))
  have hD : IsS76 w0 w' g s0 := h.done (by intro i hi;cases hi)
  have e := h.frame (fun t => if t = 27 then .pointer (some ⟨b27,0,none⟩) else if t = 28 then .int .i64 re else a.tmps.getD t undef) (by
   intro x hx _
   simp only [List.mem_cons,List.not_mem_nil,or_false] at hx
   rcases hx with rfl | rfl | rfl | rfl | rfl | rfl | rfl | rfl | rfl | rfl | rfl | rfl | rfl | rfl | rfl | rfl | rfl | rfl | rfl
   all_goals first | rfl | assumption)
  have k := K (a.tmps.getD 127 undef) (a.tmps.getD 128 undef) (a.tmps.getD 129 undef) (a.tmps.getD 130 undef) (a.tmps.getD 131 undef) (a.tmps.getD 132 undef) (a.tmps.getD 133 undef) (a.tmps.getD 134 undef) (a.tmps.getD 135 undef) (a.tmps.getD 136 undef) (a.tmps.getD 137 undef) (a.tmps.getD 138 undef) (a.tmps.getD 139 undef) (a.tmps.getD 126 undef) (a.tmps.getD 140 undef) (a.tmps.getD 141 undef) b27 w' hD h.below h.keep b1_27 bn_27 b3_27
  clear K
  simp only [List.foldl_cons,List.foldl_nil,sB_,sS_,sZ_,List.set_nil,Nat.reduceEqDiff,reduceIte] at e
  rw [e]
  exact k
def L_GaugeAges.f (_a0_0 _a0_1 _a1_0 _a1_1 _a2_0 _a2_1 _a3 : Int) (l4 : List Int) : Option Bool := if l4.length ≤ maxLen then some true else none
theorem GaugeAges (a0_0 a0_1 a1_0 a1_1 a2_0 a2_1 a3 : Int) (l4 : List Int) (h : l4.length ≤ maxLen) : L_GaugeAges.f a0_0 a0_1 a1_0 a1_1 a2_0 a2_1 a3 l4 = some true := if_pos h
theorem keep_cellb {w w' : World} {g b i : Nat} {cs : Array Value} {t : TypeId} {v : Value} (hk : KeepBut w w' g none) (hb : b ≠ g) (h : w.heap[b]? = some (.cells cs t (0,0))) (hv : cs[i]? = some v) : w'.cell? ⟨b,i,none⟩ = some v := by
 rw [blk_cell (keep_blk hk hb h) i];exact hv
theorem vars3_new (w : World) (o0 o1 o2 : Obj) : ∃ W,((w.alloc o0).alloc o1).alloc o2 = W ∧ Below w.heap.size w W ∧ W.heap.size = w.heap.size + 1 + 1 + 1 ∧ W.heap[w.heap.size]? = some o0 ∧ W.heap[w.heap.size + 1]? = some o1 ∧ W.heap[w.heap.size + 1 + 1]? = some o2 := by
 refine ⟨_,rfl,bA_ (bA_ (bA_ (Below.refl _ _) _) _) _,by simp,kA_ (kA_ (blk_new w _) _) _,?_,?_⟩
 ·have := kA_ (blk_new (w.alloc o0) o1) o2;simpa only [World.size_alloc] using this
 ·have := blk_new ((w.alloc o0).alloc o1) o2;simpa only [World.size_alloc] using this
/-- Variables of ranges that stand. -/
def Vars (g : Nat) (bs : List (Nat × Int × Int)) (W : World) : Prop := ∀ x ∈ bs,x.1 ≠ g ∧ W.heap[x.1]? = some (.cells #[.int .i64 x.2.1,.int .i64 x.2.2] 34 (0,0))
theorem Vars.keep {g : Nat} {bs : List (Nat × Int × Int)} {W W' : World} (h : Vars g bs W) (hk : KeepBut W W' g none) : Vars g bs W' := fun x hx => ⟨(h x hx).1,keep_blk hk (h x hx).1 (h x hx).2⟩
theorem Vars.cons {g b : Nat} {p q : Int} {bs : List (Nat × Int × Int)} {W : World} (hb : b ≠ g) (hc : W.heap[b]? = some (.cells #[.int .i64 p,.int .i64 q] 34 (0,0))) (h : Vars g bs W) : Vars g ((b,p,q) :: bs) W := fun x hx => by
 rcases List.mem_cons.1 hx with rfl | hx
 ·exact ⟨hb,hc⟩
 ·exact h x hx
theorem Vars.lo {g : Nat} {bs : List (Nat × Int × Int)} {W : World} (h : Vars g bs W) (k : Nat) {b : Nat} {p q : Int} (hx : bs[k]? = some (b,p,q)) : ∀ W',KeepBut W W' g none → W'.cell? ⟨b,0,none⟩ = some (.int .i64 p) := fun _ hk => keep_cellb hk (h _ (List.mem_of_getElem? hx)).1 (h _ (List.mem_of_getElem? hx)).2 rfl
theorem Vars.hi {g : Nat} {bs : List (Nat × Int × Int)} {W : World} (h : Vars g bs W) (k : Nat) {b : Nat} {p q : Int} (hx : bs[k]? = some (b,p,q)) : ∀ W',KeepBut W W' g none → W'.cell? ⟨b,1,none⟩ = some (.int .i64 q) := fun _ hk => keep_cellb hk (h _ (List.mem_of_getElem? hx)).1 (h _ (List.mem_of_getElem? hx)).2 rfl
def TwoAt (g : Nat) (wr : World) (b : Nat) (i p q : Int) : Prop := (∀ W,KeepBut wr W g none → W.cell? ⟨b,i.toNat * 2,none⟩ = some (.int .i64 p)) ∧ (∀ W,KeepBut wr W g none → W.cell? ⟨b,i.toNat * 2 + 1,none⟩ = some (.int .i64 q))
theorem TwoAt.keep {g : Nat} {wr wr' : World} {b : Nat} {i p q : Int} (h : TwoAt g wr b i p q) (hk : KeepBut wr wr' g none) : TwoAt g wr' b i p q := ⟨fun W k => h.1 W (hk.trans k (.inl rfl)),fun W k => h.2 W (hk.trans k (.inl rfl))⟩
def AgesAt (g : Nat) (wr : World) (b16 b17 b18 b19 : Nat) (i : Int) : Prop :=
 ∃ r0 r1 d0 d1 l0 l1 n : Int,TwoAt g wr b16 i r0 r1 ∧ TwoAt g wr b17 i d0 d1 ∧ TwoAt g wr b18 i l0 l1 ∧ (∀ W,KeepBut wr W g none → W.cell? ⟨b19,i.toNat,none⟩ = some (.int .i64 n))
theorem AgesAt.keep {g : Nat} {wr wr' : World} {b16 b17 b18 b19 : Nat} {i : Int} (h : AgesAt g wr b16 b17 b18 b19 i) (hk : KeepBut wr wr' g none) : AgesAt g wr' b16 b17 b18 b19 i := by
 obtain ⟨r0,r1,d0,d1,l0,l1,n,h1,h2,h3,h4⟩ := h
 exact ⟨r0,r1,d0,d1,l0,l1,n,h1.keep hk,h2.keep hk,h3.keep hk,fun W k => h4 W (hk.trans k (.inl rfl))⟩
set_option maxHeartbeats 8000000 in
set_option maxRecDepth 100000 in
theorem L_GaugeAges.calls (a0_0 a0_1 a1_0 a1_1 a2_0 a2_1 a3 : Int) (A4 : Option Addr) (c4 : Nat) (l4 : List Int) (r : Bool) (w : World) (hr4 : Kd.C (Kd.int .i64) w A4 l4.length l4) (hc4 : l4.length ≤ c4) (h : L_GaugeAges.f a0_0 a0_1 a1_0 a1_1 a2_0 a2_1 a3 l4 = some r) :
  Calls Try.prog 10 #[.agg #[.int .i64 a0_0,.int .i64 a0_1],.agg #[.int .i64 a1_0,.int .i64 a1_1],.agg #[.int .i64 a2_0,.int .i64 a2_1],.int .i64 a3,.slice A4 l4.length c4] w fun e w' => e = .returned (.bool r) ∧ Below w.heap.size w w' := by
 unfold L_GaugeAges.f at h
 split at h
 case isFalse => cases h
 rename_i hl
 obtain rfl := Option.some.inj h
 clear h
 have AW : Aside0 (∀ W,Calls Try.prog 13 #[] W fun e w' => e = .returned (.bool true) ∧ Below W.heap.size W w') := ⟨fun W => L_awake.calls 3 true W L_awake.holds⟩
 have hu34 := Try.underlying34
 have hu37 := Try.underlying37
 have HR4 := aM_ hr4
 have HD := aM_ (dice_some hl)
 obtain ⟨xa,xb,s1,e1,x0,x1,x2⟩ := range_some (diceOf l4) (-1000) 1000 (by omega) (by omega) (by omega)
 obtain ⟨v0,s2,e2,v00,v01⟩ := upto_some s1 3 (by omega) (by omega)
 obtain ⟨v1,s3,e3,v10,v11⟩ := upto_some s2 3 (by omega) (by omega)
 have hr0 : 0 ≤ rd [0,5,2000] v0 ∧ rd [0,5,2000] v0 ≤ 2000 := by rcases rd3 0 5 2000 v0 v00 v01 with h | h | h <;> omega
 have hr1 : 0 ≤ rd [0,5,2000] v1 ∧ rd [0,5,2000] v1 ≤ 2000 := by rcases rd3 0 5 2000 v1 v10 v11 with h | h | h <;> omega
 obtain ⟨ya,yb,s4,e4,_,_,_⟩ := range_some s3 (-(rd [0,5,2000] v0)) (rd [0,5,2000] v1) (by omega) (by omega) (by omega)
 obtain ⟨u0,s5,e5,u00,u01⟩ := upto_some s4 900 (by omega) (by omega)
 obtain ⟨u1,s6,e6,u10,u11⟩ := upto_some s5 9 (by omega) (by omega)
 obtain ⟨u2,s7,e7,u20,u21⟩ := upto_some s6 900 (by omega) (by omega)
 obtain ⟨n,e8,_,_⟩ := mod_any a3 1000001 (by omega) (by omega)
 have HX := aM_ (show -1000 ≤ xa ∧ xa ≤ 1000 ∧ -1000 ≤ xb ∧ xb ≤ 1000 by omega)
 have HV := aM_ (And.intro (And.intro v00 v01) (And.intro v10 v11))
 have HRD := aM_ hr0
 have HU := aM_ (And.intro (And.intro u00 u01) (And.intro (And.intro u10 u11) (And.intro u20 u21)))
 have E1 := aM_ e1
 have E2 := aM_ e2
 have E3 := aM_ e3
 have E4 := aM_ e4
 have E5 := aM_ e5
 have E6 := aM_ e6
 have E7 := aM_ e7
 have E8 := aM_ e8
 clear hr4 hl e1 e2 e3 e4 e5 e6 e7 e8 x0 x1 x2 v00 v01 v10 v11 hr0 hr1 u00 u01 u10 u11 u20 u21
 go_enter Try.func10,Try.ntmps10
 go_wp2_with (fail)
 obtain ⟨W0,hW,BW,hsz,f5,f6,f7⟩ := vars3_new w (.cells #[.int .i64 a0_0,.int .i64 a0_1] 34) (.cells #[.int .i64 a1_0,.int .i64 a1_1] 34) (.cells #[.int .i64 a2_0,.int .i64 a2_1] 34)
 rw [hW]
 have HW0 := aM_ BW
 have HSZ := aM_ hsz
 have F5 := aM_ f5
 have F6 := aM_ f6
 have F7 := aM_ f7
 clear hW BW hsz f5 f6 f7
 (with_reducible refine (K_NewDice.calls _ _ l4 (diceOf l4) W0 _ (Below.refl _ _) (Kd.C_below HR4.out HW0.out) hc4 HD.out).mono ?_)
 rintro e w1 ⟨g,rfl,hi,hb,hb2⟩
 have HV1 : Aside0 (Vars g [(w.heap.size,a0_0,a0_1),(w.heap.size + 1,a1_0,a1_1),(w.heap.size + 1 + 1,a2_0,a2_1)] w1) := ⟨by
  have hg := hi.2
  have hs := HSZ.out
  exact Vars.cons (by omega) (kB_ F5.out hb) (Vars.cons (by omega) (kB_ F6.out hb) (Vars.cons (by omega) (kB_ F7.out hb) (fun x hx => by cases hx)))⟩
 have HI1 := aM_ hi
 have HB1 := aM_ hb
 clear hi hb hb2 F5 F6 F7 HSZ HD HR4
 go_wp2_with (fail)
 (with_reducible refine (D_Range.calls g (diceOf l4) (-1000) 1000 xa xb s1 W0 _ HI1.out HB1.out E1.out).mono ?_)
 rintro e w2 ⟨rfl,hi,hb,hk⟩
 have HV2 := aM_ (HV1.out.keep hk)
 have HI2 := aM_ hi
 have HB2 := aM_ hb
 clear hi hb hk HI1 HB1 HV1 E1
 go_wp2_with (fail)
 obtain ⟨W3,hW3⟩ : ∃ W3,w2.alloc (.cells #[.int .i64 xa,.int .i64 xb] 34) = W3 := ⟨_,rfl⟩
 have b23 : Below w2.heap.size w2 W3 := by rw [← hW3];exact bA_ (Below.refl _ _) _
 have c12 : W3.heap[w2.heap.size]? = some (.cells #[.int .i64 xa,.int .i64 xb] 34 (0,0)) := by rw [← hW3];exact blk_new w2 _
 have HI3 := aM_ (IsS76.below HI2.out b23)
 have HB3 := aM_ (bT_ HB2.out b23)
 have HV3 := aM_ (Vars.cons (by have := HI2.out.lt;omega) c12 (HV2.out.keep (KeepBut.of_below b23 g none)))
 rw [hW3]
 obtain ⟨b12,h12⟩ : ∃ b,b = w2.heap.size := ⟨_,rfl⟩
 rw [← h12] at HV3 ⊢
 clear hW3 b23 c12 h12 HI2 HB2 HV2
 refine Ages.region3 (by kernel_rfl) g s1 s2 s3 s4 v0 v1 ya yb W0 HI3.out HB3.out HV.out.1 HV.out.2 HRD.out E2.out E3.out E4.out ?_
 intro u33 u34 u35 u36 u37 u38 u39 u40 u41 u42 u43 u44 u45 b13 w4 hi hb hk n13 ge13 c13
 have HV4 := aM_ (Vars.cons n13 c13 (HV3.out.keep hk))
 have HI4 := aM_ hi
 have HB4 := aM_ hb
 clear hi hb hk n13 ge13 c13 HI3 HB3 HV3 E2 E3 E4 HRD HV
 go_wp2_with (fail)
 refine Ages.region4 b12 xa xb (by kernel_rfl) g s4 s5 s6 s7 u0 u1 u2 W0 HI4.out HB4.out HX.out HU.out.1 HU.out.2.1 HU.out.2.2 (HV4.out.lo 1 rfl) (HV4.out.hi 1 rfl) E5.out E6.out E7.out ?_
 intro u46 u47 u48 u49 u50 u51 u52 u53 u54 u55 u56 u57 u58 u59 b14 w5 hi hb hk n14 ge14 c14
 have HV5 := aM_ (Vars.cons n14 c14 (HV4.out.keep hk))
 have HI5 := aM_ hi
 have HB5 := aM_ hb
 clear hi hb hk n14 ge14 c14 HI4 HB4 HV4 E5 E6 E7 HX HU
 go_wp2_with (fail)
 (with_reducible refine (K_Mod.calls a3 1000001 n _ E8.out).mono ?_)
 rintro e w6 ⟨rfl,⟨nd,rfl⟩⟩
 have HV6 := aM_ (HV5.out.keep (eN_ (KeepBut.refl w5 g none) nd))
 have HI6 := aM_ (IsS76.drewN HI5.out nd)
 have HB6 := aM_ (bN_ HB5.out nd)
 obtain ⟨w6,h6⟩ : ∃ W,W = w5.drewN nd := ⟨_,rfl⟩
 rw [← h6] at HV6 HI6 HB6 ⊢
 clear h6 HI5 HB5 HV5 E8
 go_wp2_with (fail)
 refine Ages.region6 w.heap.size b12 (w.heap.size + 1) b13 (w.heap.size + 1 + 1) b14 a0_0 a0_1 xa xb a1_0 a1_1 ya yb a2_0 a2_1 (xa - u0 + u1) (xb + u2) a3 n (by kernel_rfl) g s7 W0 HI6.out HB6.out (HV6.out.lo 3 rfl) (HV6.out.hi 3 rfl) (HV6.out.lo 2 rfl) (HV6.out.hi 2 rfl) (HV6.out.lo 4 rfl) (HV6.out.hi 4 rfl) (HV6.out.lo 1 rfl) (HV6.out.hi 1 rfl) (HV6.out.lo 5 rfl) (HV6.out.hi 5 rfl) (HV6.out.lo 0 rfl) (HV6.out.hi 0 rfl) ?_
 intro u62 u63 u64 u65 u66 u67 u68 u69 u70 u71 u72 u73 b16 b17 b18 b19 w7 hi hb hk n16 c16 n17 c17 n18 c18 n19 c19
 have HI7 := aM_ hi
 have HB7 := aM_ hb
 have HT : Aside0 (∀ i : Int,0 ≤ i → i < 2 → AgesAt g w7 b16 b17 b18 b19 i) := ⟨fun i i0 i1 => by
  have hcase : i = 0 ∨ i = 1 := by omega
  rcases hcase with rfl | rfl
  ·exact ⟨_,_,_,_,_,_,_,⟨fun W k => keep_cellb k n16 c16 rfl,fun W k => keep_cellb k n16 c16 rfl⟩,⟨fun W k => keep_cellb k n17 c17 rfl,fun W k => keep_cellb k n17 c17 rfl⟩,⟨fun W k => keep_cellb k n18 c18 rfl,fun W k => keep_cellb k n18 c18 rfl⟩,fun W k => keep_cellb k n19 c19 rfl⟩
  ·exact ⟨_,_,_,_,_,_,_,⟨fun W k => keep_cellb k n16 c16 rfl,fun W k => keep_cellb k n16 c16 rfl⟩,⟨fun W k => keep_cellb k n17 c17 rfl,fun W k => keep_cellb k n17 c17 rfl⟩,⟨fun W k => keep_cellb k n18 c18 rfl,fun W k => keep_cellb k n18 c18 rfl⟩,fun W k => keep_cellb k n19 c19 rfl⟩⟩
 clear hi hb hk n16 c16 n17 c17 n18 c18 n19 c19 HI6 HB6 HV6
 go_wp2_with (fail)
 go_loopw [20] (fun v20 wr => ∃ i : Int,v20 = .int .i64 i ∧ 0 ≤ i ∧ i ≤ 2 ∧ Aside0 (IsS76 W0 wr g s7) ∧ Aside0 (Below W0.heap.size W0 wr) ∧ Aside0 (KeepBut w7 wr g none)) (fun v20 _ => (2 - intOf v20).toNat)
 case atStart => exact ⟨0,rfl,by omega,by omega,HI7,HB7,⟨KeepBut.refl _ _ _⟩⟩
 case round =>
  clear HI7 HB7
  obtain ⟨i,rfl,i0,i1,HI,HB,HK⟩ := hrel
  by_cases hlt : i < 2
  ·obtain ⟨r0,r1,d0,d1,q0,q1,nn,QR,QD,QL,QN⟩ := (HT.out i i0 hlt).keep HK.out
   obtain ⟨ra,rb,re,hA⟩ : ∃ ra rb re,agedP r0 r1 d0 d1 nn = (ra,rb,re) := ⟨_,_,_,rfl⟩
   obtain ⟨ka,kb,ke,hE⟩ : ∃ ra rb re,keepsAll r0 r1 d0 d1 q0 q1 = (ra,rb,re) := ⟨_,_,_,rfl⟩
   have T1 := aM_ (aged_any r0 r1 d0 d1 nn 0)
   obtain ⟨kq,T2⟩ := (refAged_ev r0 r1 d0 d1 nn).rounds
   have T3 := aM_ (show gauge_Keeps.f r0 r1 d0 d1 q0 q1 = some (keepsAll r0 r1 d0 d1 q0 q1) from rfl)
   obtain ⟨kr,T4⟩ := (refKeeps_ev r0 r1 d0 d1 q0 q1).rounds
   rw [hA] at T1 T2
   rw [hE] at T3 T4
   have T2 := aM_ T2
   have T4 := aM_ T4
   have QR := aM_ QR
   have QD := aM_ QD
   have QL := aM_ QL
   have QN := aM_ QN
   clear hA hE
   go_wp2_with (fail)
   refine Ages.region10 b16 b17 b18 b19 i r0 r1 d0 d1 nn ra rb re (0 + 1) (by kernel_rfl) g s7 W0 HI.out HB.out i0 hlt QR.out.1 QR.out.2 QD.out.1 QD.out.2 QN.out T1.out ?_
   intro u79 u80 u81 u82 u83 u84 u85 u86 u87 u88 u89 u90 u91 u78 u92 u93 b21 w8 hi hb hk n21 ge21 c21
   have HV8 := aM_ (Vars.cons (bs := []) n21 c21 (fun x hx => by cases hx))
   have HI8 := aM_ hi
   have HB8 := aM_ hb
   have QR := aM_ (QR.out.keep hk)
   have QD := aM_ (QD.out.keep hk)
   have QL := aM_ (QL.out.keep hk)
   have QN := aM_ (fun W h => QN.out W (hk.trans h (.inl rfl)))
   have HK8 := aM_ (HK.out.trans hk (.inl rfl))
   clear hi hb hk n21 ge21 c21
   go_wp2_with (fail)
   refine Ages.region11 b16 b17 b18 b19 i r0 r1 d0 d1 nn ra rb re kq (by kernel_rfl) g s7 W0 HI8.out HB8.out i0 hlt QR.out.1 QR.out.2 QD.out.1 QD.out.2 QN.out T2.out ?_
   intro u95 u96 u97 u98 u99 u100 u101 u102 u103 u104 u105 u106 u107 u94 u108 u109 b23 w9 hi hb hk n23 ge23 c23
   have HV9 := aM_ (Vars.cons n23 c23 (HV8.out.keep hk))
   have HI9 := aM_ hi
   have HB9 := aM_ hb
   have QR := aM_ (QR.out.keep hk)
   have QD := aM_ (QD.out.keep hk)
   have QL := aM_ (QL.out.keep hk)
   have HK9 := aM_ (HK8.out.trans hk (.inl rfl))
   clear hi hb hk n23 ge23 c23
   go_wp2_with (fail)
   refine Ages.region12 b16 b17 b18 b19 i r0 r1 d0 d1 q0 q1 ka kb ke (by kernel_rfl) g s7 W0 HI9.out HB9.out i0 hlt QR.out.1 QR.out.2 QD.out.1 QD.out.2 QL.out.1 QL.out.2 T3.out ?_
   intro u111 u112 u113 u114 u115 u116 u117 u118 u119 u120 u121 u122 u123 u110 u124 u125 b25 w10 hi hb hk n25 ge25 c25
   have HV10 := aM_ (Vars.cons n25 c25 (HV9.out.keep hk))
   have HI10 := aM_ hi
   have HB10 := aM_ hb
   have QR := aM_ (QR.out.keep hk)
   have QD := aM_ (QD.out.keep hk)
   have QL := aM_ (QL.out.keep hk)
   have HK10 := aM_ (HK9.out.trans hk (.inl rfl))
   clear hi hb hk n25 ge25 c25
   go_wp2_with (fail)
   refine Ages.region13 b16 b17 b18 b19 i r0 r1 d0 d1 q0 q1 ka kb ke kr (by kernel_rfl) g s7 W0 HI10.out HB10.out i0 hlt QR.out.1 QR.out.2 QD.out.1 QD.out.2 QL.out.1 QL.out.2 T4.out ?_
   intro u127 u128 u129 u130 u131 u132 u133 u134 u135 u136 u137 u138 u139 u126 u140 u141 b27 w11 hi hb hk n27 ge27 c27
   have HV11 := Vars.cons n27 c27 (HV10.out.keep hk)
   have HI11 := aM_ hi
   have HB11 := aM_ hb
   have HK11 := aM_ (HK10.out.trans hk (.inl rfl))
   have z0 := HV11.lo 0 rfl w11 (KeepBut.refl _ _ _)
   have z1 := HV11.hi 0 rfl w11 (KeepBut.refl _ _ _)
   have z2 := HV11.lo 1 rfl w11 (KeepBut.refl _ _ _)
   have z3 := HV11.hi 1 rfl w11 (KeepBut.refl _ _ _)
   have z4 := HV11.lo 2 rfl w11 (KeepBut.refl _ _ _)
   have z5 := HV11.hi 2 rfl w11 (KeepBut.refl _ _ _)
   have z6 := HV11.lo 3 rfl w11 (KeepBut.refl _ _ _)
   have z7 := HV11.hi 3 rfl w11 (KeepBut.refl _ _ _)
   clear hi hb hk n27 ge27 c27 HV11 HV10 HV9 HV8 QR QD QL QN T1 T2 T3 T4 HI HB HK HI8 HI9 HI10 HB8 HB9 HB10 HK8 HK9 HK10
   go_wp2_with (fail)
   go_roundw
   case rel => exact ⟨i + 1,rfl,by omega,by omega,HI11,HB11,HK11⟩
   case measure => simp [intOf];omega
  ·go_wp2_with (fail)
   (with_reducible refine (AW.out _).mono ?_)
   rintro e w8 ⟨rfl,hb⟩
   have HB8 := aM_ (bT_ HW0.out (bT_ HB.out hb))
   go_wp2
   go_ret
   exact ⟨rfl,HB8.out⟩
end Go.Proofs.Ytdbpobadeibjaaa.GE
