/- GaugeLonger,its plain part: what the printed functions compute answers as the statement says,for every input;no condition beside the statement's own. -/
import Derived.Test.YtdbpobadeibjaabGEx25
import Derived.Test.YtdbpobadeibjaabGEx5
import Derived.Test.YtdbpobadeibjaabGEx7
import Derived.Test.YtdbpobadeibjaabGEx10
import Derived.Test.YtdbpobadeibjaabGEx13
import Derived.Test.YtdbpobadeibjaabGEx14
import Derived.Test.YtdbpobadeibjaabGEx15
import Derived.Test.YtdbpobadeibjaabGEx16
import Derived.Test.YtdbpobadeibjaabGEx19
import Derived.Test.YtdbpobadeibjaabGEx20
import Derived.Test.YtdbpobadeibjaabGEx22
import Derived.Test.YtdbpobadeibjaabGEx23
import Derived.Test.YtdbpobadeibjaabGEx24
namespace Go.Proofs.Ytdbpobadeibjaab.GE
open Go.RowKit Go.Proofs.YtdbpobadeibjaabW.PrintWords Go.Proofs.YtdbpobadeibjaabW.PrintLast
/-! ### shared -/
theorem le_fuel {α : Type} {f : Nat → Option α} (hm : ∀ k,LeO (f k) (f (k + 1))) {j : Nat} {r : α} (h : f j = some r) : ∀ k,j ≤ k → f k = some r := by
 intro k hk
 obtain ⟨d,rfl⟩ := Nat.exists_eq_add_of_le hk
 clear hk
 induction d with
 | zero => exact h
 | succ d ih => exact hm (j + d) r ih
theorem mod_some (a m : Int) (h0 : 1 ≤ m) (h1 : m ≤ 1000) : ∃ t,K_Mod.f a m = some t ∧ 0 ≤ t ∧ t < m := by
 unfold K_Mod.f
 have u := Int.tmod_lt_of_pos a (show 0 < m by omega)
 have l := Int.tmod_lt_of_pos (-a) (show 0 < m by omega)
 rw [Int.neg_tmod] at l
 rw [if_neg (by omega),if_neg (by omega)]
 by_cases c : Int.tmod a m < 0
 ·rw [if_pos c,wrap64_eq (by omega)]
  exact ⟨_,rfl,by omega,by omega⟩
 ·rw [if_neg c]
  exact ⟨_,rfl,by omega,u⟩
theorem awake_some (k : Nat) (h : 3 ≤ k) : L_awake.f k = some true := le_fuel (f := L_awake.f) (j := 3) (r := true) L_awake.mono L_awake.holds k h
/-! ### rounds enough -/
/-- With rounds enough the answer is r. -/
def Ev {α : Type} (g : Nat → Option α) (r : α) : Prop := ∃ K,∀ k,K ≤ k → g k = some r
theorem Ev.of {α : Type} {g : Nat → Option α} {r : α} (hg : ∀ k,LeO (g k) (g (k + 1))) {k : Nat} (h : g k = some r) : Ev g r := ⟨k,fun j hj => le_fuel hg h j hj⟩
theorem Ev.rounds {α : Type} {g : Nat → Option α} {r : α} (h : Ev g r) : ∃ k,g k = some r := by
 obtain ⟨K,hK⟩ := h
 exact ⟨K,hK K (Nat.le_refl _)⟩
theorem Ev.bind {α β : Type} {g : Nat → Option α} {f : Nat → α → Option β} {a : α} {r : β} (h : Ev g a) (k : Ev (fun n => f n a) r) : Ev (fun n => (g n).bind (f n)) r := by
 obtain ⟨K,hK⟩ := h
 obtain ⟨J,hJ⟩ := k
 refine ⟨max K J,fun n hn => ?_⟩
 show (g n).bind (f n) = some r
 rw [hK n (by omega)]
 exact hJ n (by omega)
theorem Ev.step {α : Type} {g f : Nat → Option α} {r : α} (h : ∀ k,g (k + 1) = f k) (k : Ev f r) : Ev g r := by
 obtain ⟨K,hK⟩ := k
 refine ⟨K + 1,fun n hn => ?_⟩
 obtain ⟨m,rfl⟩ : ∃ m,n = m + 1 := ⟨n - 1,by omega⟩
 rw [h m]
 exact hK m (by omega)
theorem Ev.congr {α : Type} {g f : Nat → Option α} {r : α} (h : ∀ k,g k = f k) (k : Ev f r) : Ev g r := by
 obtain ⟨K,hK⟩ := k
 exact ⟨K,fun n hn => (h n).trans (hK n hn)⟩
theorem Ev.pos {α : Type} {c : Prop} [Decidable c] {f g : Nat → Option α} {r : α} (h : c) (k : Ev f r) : Ev (fun n => if c then f n else g n) r := Ev.congr (fun _ => if_pos h) k
theorem Ev.neg {α : Type} {c : Prop} [Decidable c] {f g : Nat → Option α} {r : α} (h : ¬ c) (k : Ev g r) : Ev (fun n => if c then f n else g n) r := Ev.congr (fun _ => if_neg h) k
theorem Ev.call {α β : Type} {x : Option α} {a : α} {f : Nat → α → Option β} {r : β} (h : x = some a) (k : Ev (fun n => f n a) r) : Ev (fun n => x.bind (f n)) r := Ev.congr (fun n => by rw [h];rfl) k
theorem Ev.done {α : Type} {x : Option α} {r : α} (h : x = some r) : Ev (fun _ => x) r := ⟨0,fun _ _ => h⟩
theorem Ev.awake : Ev L_awake.f true := Ev.of L_awake.mono L_awake.holds
/-! ### benches that BenchOf makes -/
theorem MadeBench.ok {l : List S49} (h : MadeBench l) (h12 : l.length ≤ 12) : BenchOk l := by
 refine ⟨h12,fun x hx => ?_⟩
 obtain ⟨i,hi,rfl⟩ := List.getElem_of_mem hx
 have := h i hi
 unfold rd_T49 at this
 rw [Int.toNat_natCast,List.getD_eq_getElem?_getD,List.getElem?_eq_getElem hi,Option.getD_some] at this
 obtain ⟨a1,a2,a3,a4,a5,a6,a7,a8,a9,a10,a11,a12⟩ := this
 exact ⟨⟨a1,a2,a3,by omega,a5,by omega⟩,a7,by omega,by omega,by omega,a9,by omega⟩
theorem MadeBench.at {l : List S49} (h : MadeBench l) (m : Int) (h0 : 0 ≤ m) (h1 : m < l.length) : MeterIn m (rd_T49 l m) := by
 have := h m.toNat (by omega)
 rw [Int.toNat_of_nonneg h0] at this
 exact this
theorem rangeErr_ok {a b lo hi : Int} (h0 : lo ≤ a) (h1 : a ≤ b) (h2 : b ≤ hi) : rangeErr a b lo hi = 0 := by
 unfold rangeErr
 rw [if_neg (by omega),if_neg (by omega)]
theorem meterErr_ok {n : Int} {x : S49} (h : MeterOk n x) : meterErr n x = 0 := by
 obtain ⟨⟨a1,a2,a3,a4,a5,a6⟩,a7,a8,a9,a10,a11,a12⟩ := h
 have e : makingErr x.f0.f0 x.f0.f1 x.f1.f0 x.f1.f1 = 0 := by
  unfold makingErr
  rw [rangeErr_ok a1 a2 a3,rangeErr_ok a4 a5 a6]
  rfl
 unfold meterErr
 rw [e,if_neg (by decide),if_neg (by omega)]
theorem firstErr_ok {n : Int} : ∀ {l : List S49},(∀ x ∈ l,MeterOk n x) → firstErr n l = 0
 | [],_ => rfl
 | x :: l,h => by
  unfold firstErr
  rw [meterErr_ok (h x (by simp)),if_neg (by decide)]
  exact firstErr_ok fun y hy => h y (by simp [hy])
/-- By is below the meter's own number: chains end. -/
def Down_ (l : List S49) : Prop := ∀ m : Int,0 ≤ m → m < l.length → -1 ≤ (rd_T49 l m).f3 ∧ (rd_T49 l m).f3 < m
theorem MadeBench.down {l : List S49} (h : MadeBench l) : Down_ l := fun m h0 h1 => by
 obtain ⟨_,_,_,_,_,_,_,_,a9,a10,_,_⟩ := h.at m h0 h1
 exact ⟨a9,a10⟩
theorem chainGo_neg (l : List S49) (n : Nat) (m : Int) (h : m < 0) : chainGo l n m = [] := by
 cases n with
 | zero => rfl
 | succ n => rw [chainGo,if_pos h]
theorem chainGo_ends {l : List S49} (hd : Down_ l) : ∀ (n : Nat) (m : Int) (d : Int),0 ≤ m → m < l.length → m < n → (rd_T49 l ((chainGo l n m).getLastD d)).f3 = -1 := by
 intro n
 induction n with
 | zero => intro m d h0 _ h2;omega
 | succ n ih =>
  intro m d h0 h1 h2
  rw [chainGo,if_neg (by omega),List.getLastD_cons]
  obtain ⟨b0,b1⟩ := hd m h0 h1
  by_cases hb : (rd_T49 l m).f3 < 0
  ·rw [chainGo_neg l n _ hb]
   show (rd_T49 l m).f3 = -1
   omega
  ·exact ih _ m (by omega) (by omega) (by omega)
theorem chainGo_more {l : List S49} (hd : Down_ l) : ∀ (n k : Nat) (m : Int),m < l.length → m < n → m < k → chainGo l n m = chainGo l k m := by
 intro n
 induction n with
 | zero => intro k m _ h1 _;rw [chainGo_neg l _ m (by omega),chainGo_neg l _ m (by omega)]
 | succ n ih =>
  intro k m h0 h1 h2
  by_cases hm : m < 0
  ·rw [chainGo_neg l _ m hm,chainGo_neg l _ m hm]
  ·obtain ⟨k,rfl⟩ : ∃ j,k = j + 1 := ⟨k - 1,by omega⟩
   obtain ⟨b0,b1⟩ := hd m (by omega) h0
   rw [chainGo,chainGo,if_neg hm,if_neg hm,ih k _ (by omega) (by omega) (by omega)]
theorem looseFrom_ok {l : List S49} (h : ∀ i : Nat,i < l.length → endsP l i) : ∀ n i : Nat,i + n = l.length → looseFrom l n i = 0
 | 0,_,_ => rfl
 | n + 1,i,hi => by
  unfold looseFrom
  rw [if_pos (h i (by omega))]
  exact looseFrom_ok h n (i + 1) (by omega)
theorem checkP_ok {l : List S49} (h : BenchOk l) (hd : Down_ l) : checkP l = 0 := by
 unfold checkP
 rw [if_neg (by have := h.1;omega),firstErr_ok h.2,if_neg (by decide)]
 refine looseFrom_ok (fun i hi => ?_) _ 0 (by omega)
 unfold endsP chainL
 exact chainGo_ends hd _ _ _ (by omega) (by omega) (by omega)
theorem true_eq {l : List S49} (h : BenchOk l) (hc : checkP l = 0) {m n : Int} (m0 : 0 ≤ m) (m1 : m < l.length) (n0 : -1000000000 ≤ n) (n1 : n ≤ 1000000000) (hs : Int.tmod n (rd_T49 l m).f2 = 0) :
  gauge_True.f l m n = some (if (sourceP l m n).2.2 = true then ((sourceP l m n).1,(sourceP l m n).2.1,0) else (0,0,12)) := by
 obtain ⟨_,a7,_⟩ := h.at m m0 m1
 have h12 := h.1
 unfold gauge_True.f gauge_Check.f
 simp only [Option.bind_some]
 rw [if_pos hc,wrap64_eq (by omega),outside_false ⟨m0,by omega⟩]
 simp only [Option.bind_some]
 rw [if_neg (by decide),outside_false ⟨n0,n1⟩]
 simp only [Option.bind_some]
 rw [if_neg (by decide),if_pos m0,if_pos m1,if_neg (by omega),if_pos hs]
 unfold gauge_source.f
 rw [if_pos ⟨h,m0,m1,n0,n1⟩]
 simp only [Option.bind_some]
 split <;> rfl
/-! ### the reference's chain -/
theorem refChain_l {l : List S49} (hd : Down_ l) (h12 : l.length ≤ 12) : ∀ (d : Nat) (m : Int) (pre : List Int),m < l.length → m + 1 ≤ d → (pre.length : Int) + m + 1 ≤ l.length → -1 ≤ m →
  Ev (fun k => R_chain.l0 k l m pre) (pre ++ chainGo l d m,true) := by
 intro d
 induction d with
 | zero =>
  intro m pre h0 h1 h2 h3
  refine Ev.step (fun k => by rw [R_chain.l0]) ?_
  refine Ev.neg (by omega) (Ev.done ?_)
  rw [chainGo_neg l _ m (by omega),List.append_nil,decide_eq_true (by omega)]
 | succ d ih =>
  intro m pre h0 h1 h2 h3
  refine Ev.step (fun k => by rw [R_chain.l0]) ?_
  by_cases hm : m < 0
  ·refine Ev.neg (by omega) (Ev.done ?_)
   rw [chainGo_neg l _ m hm,List.append_nil,decide_eq_true hm]
  ·obtain ⟨b0,b1⟩ := hd m (by omega) h0
   refine Ev.pos (by omega) (Ev.pos (by omega) (Ev.pos (by omega) (Ev.pos (by omega) (Ev.pos h0 ?_))))
   have := ih (rd_T49 l m).f3 (pre ++ [m]) (by omega) (by omega) (by simp;omega) (by omega)
   rw [List.append_assoc] at this
   rw [chainGo,if_neg hm]
   exact this
theorem refChain_ev {l : List S49} (hd : Down_ l) (h12 : l.length ≤ 12) (m : Int) (m1 : m < l.length) (m0 : -1 ≤ m) : Ev (fun k => R_chain.f k l m) (chainL l m,true) := by
 have := refChain_l hd h12 l.length m [] m1 (by omega) (by simp;omega) m0
 rw [List.nil_append] at this
 exact this
theorem beyond_true {n lo hi : Int} (h : n < lo ∨ n > hi) : R_beyond.f n lo hi = some true := by
 unfold R_beyond.f
 by_cases c : n < lo
 ·rw [if_pos c]
 ·rw [if_neg c,decide_eq_true (by omega)]
theorem beyond_false {n lo hi : Int} (h : lo ≤ n ∧ n ≤ hi) : R_beyond.f n lo hi = some false := by
 unfold R_beyond.f
 rw [if_neg (by omega),decide_eq_false (by omega)]
/-! ### the reference's Check,of any bench -/
def afterGo (l : List S49) : Nat → Int → Int
 | 0,m => m
 | k + 1,m => if m < 0 then m else afterGo l k (rd_T49 l m).f3
theorem afterGo_neg (l : List S49) (k : Nat) (m : Int) (h : m < 0) : afterGo l k m = m := by
 cases k with
 | zero => rfl
 | succ k => rw [afterGo,if_pos h]
theorem afterGo_mono (l : List S49) : ∀ (k : Nat) (m : Int),afterGo l k m < 0 → ∀ j,k ≤ j → afterGo l j m < 0 := by
 intro k
 induction k with
 | zero => intro m h j _;rw [afterGo_neg l j m h];exact h
 | succ k ih =>
  intro m h j hj
  obtain ⟨j,rfl⟩ : ∃ i,j = i + 1 := ⟨j - 1,by omega⟩
  rw [afterGo] at h ⊢
  by_cases hm : m < 0
  ·rw [if_pos hm];exact hm
  ·rw [if_neg hm] at h ⊢
   exact ih _ h j (by omega)
theorem bound_nodup : ∀ (n : Nat) (c : List Int),c.Nodup → (∀ x ∈ c,0 ≤ x ∧ x < n) → c.length ≤ n := by
 intro n
 induction n with
 | zero =>
  intro c _ h
  cases c with
  | nil => exact Nat.le_refl _
  | cons x c => have := h x (by simp);omega
 | succ n ih =>
  intro c hn h
  by_cases hm : (n : Int) ∈ c
  ·have h1 := ih (c.erase (n : Int)) (hn.erase _) (fun x hx => by
    rw [hn.mem_erase_iff] at hx
    have := h x hx.2
    have := hx.1
    omega)
   rw [List.length_erase_of_mem hm] at h1
   omega
  ·have := ih c hn (fun x hx => by
    have := h x hx
    have : x ≠ n := fun e => hm (e ▸ hx)
    omega)
   omega
theorem depth_list {l : List S49} (hb : ∀ m : Int,0 ≤ m → m < l.length → (rd_T49 l m).f3 < l.length) : ∀ (d : Nat) (m : Int),m < l.length → afterGo l d m < 0 → (∀ j,j < d → ¬ afterGo l j m < 0) →
  ∃ c : List Int,c.length = d ∧ c.Nodup ∧ ∀ x ∈ c,(0 ≤ x ∧ x < l.length) ∧ afterGo l d x < 0 := by
 intro d
 induction d with
 | zero => intro m _ _ _;exact ⟨[],rfl,List.nodup_nil,fun x hx => by cases hx⟩
 | succ d ih =>
  intro m hm h hj
  have m0 : ¬ m < 0 := hj 0 (by omega)
  have h' := h
  rw [afterGo,if_neg m0] at h
  obtain ⟨c,hc,hn,hx⟩ := ih (rd_T49 l m).f3 (hb m (by omega) hm) h (fun j hjd => by
   have := hj (j + 1) (by omega)
   rw [afterGo,if_neg m0] at this
   exact this)
  refine ⟨m :: c,by simp [hc],List.nodup_cons.2 ⟨fun hmc => hj d (by omega) (hx m hmc).2,hn⟩,fun x hxm => ?_⟩
  rcases List.mem_cons.1 hxm with rfl | hxc
  ·exact ⟨⟨by omega,hm⟩,h'⟩
  ·exact ⟨(hx x hxc).1,afterGo_mono l d x (hx x hxc).2 _ (by omega)⟩
theorem afterGo_enough {l : List S49} (hb : ∀ m : Int,0 ≤ m → m < l.length → (rd_T49 l m).f3 < l.length) (m : Int) (hm : m < l.length) : ∀ k : Nat,afterGo l k m < 0 → afterGo l l.length m < 0 := by
 intro k
 induction k using Nat.strongRecOn with
 | _ k ih =>
  intro h
  by_cases hex : ∃ j,j < k ∧ afterGo l j m < 0
  ·obtain ⟨j,hj,h'⟩ := hex
   exact ih j hj h'
  ·obtain ⟨c,hc,hn,hx⟩ := depth_list hb k m hm h (fun j hj h' => hex ⟨j,hj,h'⟩)
   have := bound_nodup l.length c hn (fun x hxc => (hx x hxc).1)
   exact afterGo_mono l k m h _ (by omega)
theorem last_after {l : List S49} : ∀ (n : Nat) (m d : Int),0 ≤ m → ((rd_T49 l ((chainGo l (n + 1) m).getLastD d)).f3 < 0 ↔ afterGo l (n + 1) m < 0) := by
 intro n
 induction n with
 | zero =>
  intro m d h0
  rw [chainGo,if_neg (by omega),afterGo,if_neg (by omega)]
  exact Iff.rfl
 | succ n ih =>
  intro m d h0
  rw [chainGo,if_neg (by omega),afterGo,if_neg (by omega),List.getLastD_cons]
  by_cases hb : (rd_T49 l m).f3 < 0
  ·rw [chainGo_neg l _ _ hb,afterGo_neg l _ _ hb]
   exact Iff.rfl
  ·exact ih _ _ (by omega)
theorem endsP_after {l : List S49} (hb : ∀ m : Int,0 ≤ m → m < l.length → -1 ≤ (rd_T49 l m).f3 ∧ (rd_T49 l m).f3 < l.length) (i : Int) (h0 : 0 ≤ i) (h1 : i < l.length) : endsP l i ↔ afterGo l (l.length + 1) i < 0 := by
 have e : endsP l i ↔ (rd_T49 l ((chainL l i).getLastD i)).f3 < 0 := by
  unfold endsP
  have hmem : 0 ≤ (chainL l i).getLastD i ∧ (chainL l i).getLastD i < l.length := by
   have hall : ∀ x ∈ i :: chainL l i,0 ≤ x ∧ x < (l.length : Int) := by
    intro x hx
    rcases List.mem_cons.1 hx with rfl | hx
    ·exact ⟨h0,h1⟩
    ·have go : ∀ (n : Nat) (m : Int),m < l.length → ∀ x ∈ chainGo l n m,0 ≤ x ∧ x < (l.length : Int) := by
      intro n
      induction n with
      | zero => intro m _ x hx;cases hx
      | succ n ih =>
       intro m hm x hx
       rw [chainGo] at hx
       split at hx
       ·cases hx
       ·rcases List.mem_cons.1 hx with rfl | hx
        ·exact ⟨by omega,hm⟩
        ·exact ih _ (hb m (by omega) hm).2 x hx
     exact go _ _ h1 x hx
   exact hall _ (getLastD_mem i (chainL l i))
  have := hb _ hmem.1 hmem.2
  omega
 rw [e]
 unfold chainL
 obtain ⟨n,hn⟩ : ∃ n,l.length = n + 1 := ⟨l.length - 1,by omega⟩
 have h2 := last_after (l := l) n i i h0
 rw [← hn] at h2
 rw [h2]
 exact ⟨fun h => afterGo_mono l _ _ h _ (by omega),afterGo_enough (fun m a b => (hb m a b).2) i h1 _⟩
theorem refChain_any {l : List S49} (hb : ∀ m : Int,0 ≤ m → m < l.length → -1 ≤ (rd_T49 l m).f3 ∧ (rd_T49 l m).f3 < l.length) (h20 : l.length ≤ 20) : ∀ (d : Nat) (m : Int) (pre : List Int),m < l.length → pre.length + d = l.length + 1 →
  ∃ c,Ev (fun k => R_chain.l0 k l m pre) (c,decide (afterGo l d m < 0)) := by
 intro d
 induction d with
 | zero =>
  intro m pre h0 h1
  by_cases hm : m < 0
  ·refine ⟨pre,Ev.step (fun k => by rw [R_chain.l0]) ?_⟩
   exact Ev.neg (by omega) (Ev.done (by rw [afterGo]))
  ·refine ⟨pre,Ev.step (fun k => by rw [R_chain.l0]) ?_⟩
   exact Ev.pos (by omega) (Ev.neg (by omega) (Ev.done (by rw [afterGo])))
 | succ d ih =>
  intro m pre h0 h1
  by_cases hm : m < 0
  ·refine ⟨pre,Ev.step (fun k => by rw [R_chain.l0]) ?_⟩
   exact Ev.neg (by omega) (Ev.done (by rw [afterGo,if_pos hm]))
  ·obtain ⟨b0,b1⟩ := hb m (by omega) h0
   obtain ⟨c,hc⟩ := ih (rd_T49 l m).f3 (pre ++ [m]) b1 (by simp;omega)
   refine ⟨c,Ev.step (fun k => by rw [R_chain.l0]) ?_⟩
   rw [afterGo,if_neg hm]
   exact Ev.pos (by omega) (Ev.pos (by omega) (Ev.pos (by omega) (Ev.pos (by omega) (Ev.pos h0 hc))))
theorem refRange_ev (a b lo hi : Int) : Ev (fun k => R_checkRange.f k a b lo hi) (rangeErr a b lo hi) := by
 unfold R_checkRange.f rangeErr
 by_cases h1 : lo ≤ a ∧ a ≤ hi
 ·refine Ev.call (beyond_false h1) (Ev.neg (by decide) ?_)
  by_cases h2 : lo ≤ b ∧ b ≤ hi
  ·refine Ev.call (beyond_false h2) ?_
   rw [if_neg (by omega)]
   refine Ev.step (fun k => by rw [R_checkRange.j0]) (Ev.neg (by decide) ?_)
   by_cases h3 : a > b
   ·exact Ev.pos h3 (Ev.done (by rw [if_pos h3]))
   ·exact Ev.neg h3 (Ev.done (by rw [if_neg h3]))
  ·refine Ev.call (beyond_true (by omega)) ?_
   rw [if_pos (by omega)]
   exact Ev.step (fun k => by rw [R_checkRange.j0]) (Ev.pos rfl (Ev.done rfl))
 ·refine Ev.call (beyond_true (by omega)) (Ev.pos rfl ?_)
  rw [if_pos (by omega)]
  exact Ev.step (fun k => by rw [R_checkRange.j0]) (Ev.pos rfl (Ev.done rfl))
theorem refMaking_ev (a b c d e f g : Int) : Ev (fun k => R_checkMaking.f k a b c d e f g) (makingErr a b c d) := by
 unfold R_checkMaking.f makingErr
 refine Ev.bind (refRange_ev a b 500000 2000000) ?_
 by_cases h : rangeErr a b 500000 2000000 = 0
 ·rw [if_neg (by omega)]
  exact Ev.pos h (Ev.bind (refRange_ev c d (-1000000) 1000000) (Ev.done rfl))
 ·rw [if_pos h]
  exact Ev.neg h (Ev.done rfl)
theorem firstErr_drop (n : Int) (l : List S49) (k : Nat) (h : k < l.length) : firstErr n (l.drop k) = if meterErr n (rd_T49 l k) ≠ 0 then meterErr n (rd_T49 l k) else firstErr n (l.drop (k + 1)) := by
 rw [drop_at l k h,firstErr]
theorem refCheck_ev (l : List S49) (h20 : l.length ≤ 20) : Ev (fun k => R_Check.f k l) (checkP l) := by
 unfold R_Check.f checkP
 by_cases h12 : 12 < l.length
 ·rw [if_pos h12]
  exact Ev.pos (by omega) (Ev.done rfl)
 rw [if_neg h12]
 refine Ev.neg (by omega) ?_
 have loose : (∀ x ∈ l,MeterOk l.length x) → ∀ (d i : Nat),i + d = l.length → Ev (fun k => R_Check.l1 k l i) (looseFrom l d i) := by
  intro hok d
  have hb : ∀ m : Int,0 ≤ m → m < l.length → -1 ≤ (rd_T49 l m).f3 ∧ (rd_T49 l m).f3 < l.length := fun m m0 m1 => by
   obtain ⟨_,_,_,_,_,a11,a12⟩ := BenchOk.at ⟨by omega,hok⟩ m m0 m1
   exact ⟨a11,a12⟩
  induction d with
  | zero =>
   intro i hi
   refine Ev.step (fun k => by rw [R_Check.l1]) ?_
   exact Ev.neg (by omega) (Ev.done rfl)
  | succ d ih =>
   intro i hi
   refine Ev.step (fun k => by rw [R_Check.l1]) (Ev.pos (by omega) ?_)
   obtain ⟨c,hc⟩ := refChain_any hb h20 (l.length + 1) i [] (by omega) (by simp)
   have hc' : Ev (fun k => R_chain.f k l i) (c,decide (afterGo l (l.length + 1) i < 0)) := hc
   refine Ev.bind hc' ?_
   have he := endsP_after hb i (by omega) (by omega)
   rw [looseFrom]
   by_cases h : endsP l i
   ·rw [if_pos h,decide_eq_true (he.1 h)]
    refine Ev.pos rfl ?_
    rw [wrap64_eq (by omega)]
    exact ih (i + 1) (by omega)
   ·rw [if_neg h,decide_eq_false (fun h' => h (he.2 h'))]
    exact Ev.neg (by simp) (Ev.done rfl)
 have go : ∀ (d i : Nat),i + d = l.length → (∀ j,j < i → meterErr l.length (rd_T49 l j) = 0) → Ev (fun k => R_Check.l0 k l i) (if firstErr l.length (l.drop i) ≠ 0 then firstErr l.length (l.drop i) else looseFrom l l.length 0) := by
  intro d
  induction d with
  | zero =>
   intro i hi hall
   refine Ev.step (fun k => by rw [R_Check.l0]) (Ev.neg (by omega) ?_)
   rw [List.drop_of_length_le (by omega)]
   rw [if_neg (by simp [firstErr])]
   have hok : ∀ x ∈ l,MeterOk l.length x := fun x hx => by
    obtain ⟨j,hj,rfl⟩ := List.getElem_of_mem hx
    have := meterErr_zero (hall j (by omega))
    unfold rd_T49 at this
    rw [Int.toNat_natCast,List.getD_eq_getElem?_getD,List.getElem?_eq_getElem hj] at this
    exact this
   exact loose hok l.length 0 (by omega)
  | succ d ih =>
   intro i hi hall
   refine Ev.step (fun k => by rw [R_Check.l0]) (Ev.pos (by omega) (Ev.pos (by omega) ?_))
   rw [firstErr_drop _ l i (by omega),wrap64_eq (n := (l.length : Int) - 1) (by omega),wrap64_eq (n := (i : Int) + 1) (by omega)]
   refine Ev.bind (refMaking_ev _ _ _ _ _ _ _) ?_
   obtain ⟨x,hx⟩ : ∃ x,x = rd_T49 l i := ⟨_,rfl⟩
   rw [← hx]
   have hnext : meterErr l.length x = 0 → Ev (fun k => R_Check.l0 k l ((i : Int) + 1)) (if firstErr l.length (l.drop (i + 1)) ≠ 0 then firstErr l.length (l.drop (i + 1)) else looseFrom l l.length 0) := fun h0 => ih (i + 1) (by omega) (fun j hj => by
    by_cases e : j = i
    ·subst e;rw [← hx];exact h0
    ·exact hall j (by omega))
   by_cases h1 : makingErr x.f0.f0 x.f0.f1 x.f1.f0 x.f1.f1 = 0
   ·refine Ev.pos h1 ?_
    have e : meterErr l.length x = if x.f2 < 1 ∨ x.f2 > 1000000 ∨ x.f4 < 0 ∨ x.f4 > 1000000000 ∨ x.f3 < -1 ∨ x.f3 > (l.length : Int) - 1 then 2 else 0 := by unfold meterErr;rw [if_neg (by omega)]
    by_cases h2 : 1 ≤ x.f2 ∧ x.f2 ≤ 1000000
    ·refine Ev.call (beyond_false h2) (Ev.neg (by decide) ?_)
     by_cases h3 : 0 ≤ x.f4 ∧ x.f4 ≤ 1000000000
     ·refine Ev.call (beyond_false h3) (Ev.neg (by decide) ?_)
      by_cases h4 : -1 ≤ x.f3 ∧ x.f3 ≤ (l.length : Int) - 1
      ·refine Ev.call (beyond_false h4) (Ev.neg (by decide) ?_)
       rw [if_neg (by omega)] at e
       have h5 : ¬ (if meterErr l.length x ≠ 0 then meterErr l.length x else firstErr l.length (l.drop (i + 1))) ≠ (if meterErr l.length x ≠ 0 then meterErr l.length x else firstErr l.length (l.drop (i + 1))) := by simp
       simp only [e,ne_eq,not_true_eq_false,if_false]
       exact hnext e
      ·rw [if_pos (by omega)] at e
       refine Ev.call (beyond_true (by omega)) (Ev.pos rfl (Ev.done ?_))
       simp [e]
     ·rw [if_pos (by omega)] at e
      refine Ev.call (beyond_true (by omega)) (Ev.pos rfl (Ev.done ?_))
      simp [e]
    ·rw [if_pos (by omega)] at e
     refine Ev.call (beyond_true (by omega)) (Ev.pos rfl (Ev.done ?_))
     simp [e]
   ·refine Ev.neg h1 (Ev.done ?_)
    have e : meterErr l.length x = makingErr x.f0.f0 x.f0.f1 x.f1.f0 x.f1.f1 := by unfold meterErr;rw [if_pos h1]
    rw [e]
    simp [h1]
 have := go l.length 0 (by omega) (fun j hj => by omega)
 rw [List.drop_zero] at this
 exact this
/-! ### what a meter may show -/
def hiK (l : List S49) (k x : Int) : Int := hiEnd (rd_T49 l k).f0.f0 (rd_T49 l k).f0.f1 (rd_T49 l k).f1.f1 x
def loK (l : List S49) (k x : Int) : Int := loEnd (rd_T49 l k).f0.f0 (rd_T49 l k).f0.f1 (rd_T49 l k).f1.f0 x
/-- The first meter of a chain may make y of a value x. -/
def SeenBy (l : List S49) : List Int → Int → Int → Prop
 | [],x,y => y = x
 | k :: c,x,y => ∃ z,SeenBy l c x z ∧ loK l k z ≤ y ∧ y ≤ hiK l k z
theorem seen_source {l : List S49} (hb : BenchOk l) : ∀ (c : List Int) (x y : Int) (s : Int × Int × Bool),(∀ k ∈ c,0 ≤ k ∧ k < (l.length : Int)) → SeenBy l c x y → s.1 ≤ y → y ≤ s.2.1 → s.2.2 = true →
  (srcFold l c s).1 ≤ x ∧ x ≤ (srcFold l c s).2.1 ∧ (srcFold l c s).2.2 = true := by
 intro c
 induction c with
 | nil => intro x y s _ h h1 h2 h3;cases h;exact ⟨h1,h2,h3⟩
 | cons k c ih =>
  intro x y s hc h h1 h2 h3
  obtain ⟨z,hz,z0,z1⟩ := h
  obtain ⟨k0,k1⟩ := hc k (by simp)
  obtain ⟨hm,_⟩ := hb.at k k0 k1
  unfold loK at z0
  unfold hiK at z1
  have a1 := (backLo_iff hm s.1 z).1 (by omega)
  have a2 : ¬ (backHi (rd_T49 l k).f0.f0 (rd_T49 l k).f0.f1 (rd_T49 l k).f1.f0 s.2.1 + 1 ≤ z) := fun h => by
   have := (backHi_iff hm s.2.1 z).2 h
   omega
  refine ih x z (srcStep l s k) (fun q hq => hc q (by simp [hq])) hz a1 ?_ ?_
  ·show z ≤ backHi (rd_T49 l k).f0.f0 (rd_T49 l k).f0.f1 (rd_T49 l k).f1.f0 s.2.1
   omega
  ·show (s.2.2 && decide (backLo _ _ _ s.1 ≤ backHi _ _ _ s.2.1)) = true
   rw [h3,decide_eq_true (by omega)]
   rfl
theorem refDown_eq {n d : Int} (hd : 0 < d) (h : -9223372036854775808 ≤ n ∧ n ≤ 9223372036854775807) : R_Down.f n d = some (n / d) := by
 have e := tdown (n := n) hd
 have b := tdiv_bound hd h
 unfold R_Down.f
 rw [if_neg (by omega)]
 by_cases c : Int.tmod n d < 0
 ·rw [if_pos c] at e ⊢
  rw [wrap64_eq (n := Int.tdiv n d) ⟨b.1,b.2.1⟩,wrap64_eq ⟨b.2.2 c,by omega⟩,e]
 ·rw [if_neg c] at e ⊢
  rw [wrap64_eq ⟨b.1,b.2.1⟩,e]
theorem refMade_eq {a0 a1 a2 a3 : Int} (a4 a5 a6 : Int) {x : Int} (h : meterOk a0 a1 a2 a3) (x0 : -4398046511104 ≤ x) (x1 : x ≤ 4398046511104) : R_Made.f a0 a1 a2 a3 a4 a5 a6 x = some (loEnd a0 a1 a2 x,hiEnd a0 a1 a3 x) := by
 obtain ⟨g0,g1,g2,o0,o1,o2⟩ := h
 have m0 := mul_within x0 x1 (show 0 ≤ a0 by omega) (show a0 ≤ 2000000 by omega) (by omega)
 have m1 := mul_within x0 x1 (show 0 ≤ a1 by omega) (show a1 ≤ 2000000 by omega) (by omega)
 unfold R_Made.f R_Up.f loEnd hiEnd
 by_cases hx : x < 0
 ·have hle : x * a1 ≤ x * a0 := Int.mul_le_mul_of_nonpos_left (show x ≤ 0 by omega) g1
  rw [if_pos hx,wrap64_eq (n := x * a1) (by omega),wrap64_eq (n := x * a0) (by omega),wrap64_eq (n := -(x * a0)) (by omega),refDown_eq (by omega) (by omega),refDown_eq (by omega) (by omega)]
  simp only [Option.bind_some]
  rw [wrap64_eq (n := -(-(x * a0) / 1000000)) (by omega),wrap64_eq (n := x * a1 / 1000000 + a2) (by omega),wrap64_eq (by omega),Int.min_eq_right hle,Int.max_eq_left hle]
 ·have hle : x * a0 ≤ x * a1 := Int.mul_le_mul_of_nonneg_left g1 (by omega)
  rw [if_neg hx,wrap64_eq (n := x * a0) (by omega),wrap64_eq (n := x * a1) (by omega),wrap64_eq (n := -(x * a1)) (by omega),refDown_eq (by omega) (by omega),refDown_eq (by omega) (by omega)]
  simp only [Option.bind_some]
  rw [wrap64_eq (n := -(-(x * a1) / 1000000)) (by omega),wrap64_eq (n := x * a0 / 1000000 + a2) (by omega),wrap64_eq (by omega),Int.min_eq_left hle,Int.max_eq_right hle]
theorem ends_bound {a0 a1 a2 a3 x B : Int} (h : meterOk a0 a1 a2 a3) (x0 : -B ≤ x) (x1 : x ≤ B) : -(2 * B + 1000001) ≤ loEnd a0 a1 a2 x ∧ loEnd a0 a1 a2 x ≤ hiEnd a0 a1 a3 x ∧ hiEnd a0 a1 a3 x ≤ 2 * B + 1000001 := by
 obtain ⟨g0,g1,g2,o0,o1,o2⟩ := h
 have m0 := mul_within x0 x1 (show 0 ≤ a0 by omega) (show a0 ≤ 2000000 by omega) (by omega)
 have m1 := mul_within x0 x1 (show 0 ≤ a1 by omega) (show a1 ≤ 2000000 by omega) (by omega)
 unfold loEnd hiEnd
 omega
/-- How far a value may be seen after n meters. -/
def seenBd (B : Int) : Nat → Int
 | 0 => B
 | n + 1 => 2 * seenBd B n + 1000001
theorem seenBd_mono {B : Int} (h : 0 ≤ B) : ∀ n k : Nat,n ≤ k → 0 ≤ seenBd B n ∧ seenBd B n ≤ seenBd B k := by
 intro n k hk
 have pos : ∀ n,0 ≤ seenBd B n := by
  intro n
  induction n with
  | zero => exact h
  | succ n ih => unfold seenBd;omega
 obtain ⟨d,rfl⟩ := Nat.exists_eq_add_of_le hk
 clear hk
 refine ⟨pos n,?_⟩
 induction d with
 | zero => exact Int.le_refl _
 | succ d ih =>
  have := pos (n + d)
  show seenBd B n ≤ 2 * seenBd B (n + d) + 1000001
  omega
theorem one_some (s : Int) : ∃ b s',D_One.f s 2 = some (b,s') := by
 obtain ⟨v,s',e,_,_⟩ := upto_some s 2 (by omega) (by omega)
 unfold D_One.f
 rw [e]
 exact ⟨_,_,rfl⟩
theorem showing_l {l : List S49} (hb : BenchOk l) {m x : Int} (m0 : 0 ≤ m) (m1 : m < l.length) (hst : 1 ≤ (rd_T49 l m).f2 ∧ (rd_T49 l m).f2 ≤ 1000) (c : List Int) (hcl : c.length ≤ 12) (hc : ∀ k ∈ c,0 ≤ k ∧ k < (l.length : Int)) (st : Int) (st0 : 0 ≤ st) (st1 : st < 3) (B : Int) (B0 : 0 ≤ B) (hB : seenBd B c.length ≤ 1000000000000) :
  ∀ (j : Nat) (z s : Int),j ≤ c.length → SeenBy l (c.drop j) x z → -(seenBd B (c.length - j)) ≤ z → z ≤ seenBd B (c.length - j) →
  ∃ n s' y,Ev (fun k => K_Showing.l0 k l m z c st ((j : Int) - 1) s) (n,s') ∧ SeenBy l c x y ∧ -(seenBd B c.length) ≤ y ∧ y ≤ seenBd B c.length ∧ Int.tmod n (rd_T49 l m).f2 = 0 ∧ 2 * (n - y) ≤ (rd_T49 l m).f2 ∧ 2 * (y - n) ≤ (rd_T49 l m).f2 := by
 intro j
 induction j with
 | zero =>
  intro z s _ hz z0 z1
  rw [Nat.sub_zero] at z0 z1
  rw [List.drop_zero] at hz
  obtain ⟨d,hd⟩ : ∃ d,d = (rd_T49 l m).f2 := ⟨_,rfl⟩
  rw [← hd] at hst ⊢
  have dm := Int.mul_ediv_add_emod z d
  have e0 := Int.emod_nonneg z (show d ≠ 0 by omega)
  have e1 := Int.emod_lt_of_pos z (show 0 < d by omega)
  rw [Int.mul_comm] at dm
  obtain ⟨q,hq⟩ : ∃ q,q = z / d * d := ⟨_,rfl⟩
  have tm0 : Int.tmod q d = 0 := by rw [hq];exact Int.mul_tmod_left _ _
  have tm1 : Int.tmod (q + d) d = 0 := by
   rw [hq,show z / d * d + d = (z / d + 1) * d by rw [Int.add_mul,Int.one_mul]]
   exact Int.mul_tmod_left _ _
  have step : ∀ {n s'},Ev (fun k => if (2 * (z - q)) > d then some (q + d,s) else if 2 * (z - q) = d then (D_One.f s 2).bind fun bt => (if bt.1 = true then some (q + d,bt.2) else some (q,bt.2)) else some (q,s)) (n,s') →
    Ev (fun k => K_Showing.l0 k l m z c st (((0 : Nat) : Int) - 1) s) (n,s') := by
   intro n s' h
   refine Ev.step (fun k => by rw [K_Showing.l0]) ?_
   refine Ev.neg (by omega) (Ev.pos m0 (Ev.pos m1 ?_))
   rw [← hd]
   refine Ev.call (refDown_eq (by omega) (by omega)) ?_
   rw [← hq,wrap64_eq (n := q) (by omega),wrap64_eq (n := z - q) (by omega),wrap64_eq (n := 2 * (z - q)) (by omega),wrap64_eq (n := q + d) (by omega)]
   exact h
  by_cases h1 : 2 * (z - q) > d
  ·exact ⟨q + d,s,z,step (Ev.pos h1 (Ev.done rfl)),hz,z0,z1,tm1,by omega,by omega⟩
  ·by_cases h2 : 2 * (z - q) = d
   ·obtain ⟨b,s1,e⟩ := one_some s
    cases b with
    | true => exact ⟨q + d,s1,z,step (Ev.neg h1 (Ev.pos h2 (Ev.call e (Ev.pos rfl (Ev.done rfl))))),hz,z0,z1,tm1,by omega,by omega⟩
    | false => exact ⟨q,s1,z,step (Ev.neg h1 (Ev.pos h2 (Ev.call e (Ev.neg (by simp) (Ev.done rfl))))),hz,z0,z1,tm0,by omega,by omega⟩
   ·exact ⟨q,s,z,step (Ev.neg h1 (Ev.neg h2 (Ev.done rfl))),hz,z0,z1,tm0,by omega,by omega⟩
 | succ j ih =>
  intro z s hj hz z0 z1
  obtain ⟨k,hk⟩ : ∃ k,k = rd c j := ⟨_,rfl⟩
  have hkc : c.drop j = k :: c.drop (j + 1) := by
   rw [List.drop_eq_getElem_cons (by omega),hk]
   unfold rd
   rw [Int.toNat_natCast,List.getD_eq_getElem?_getD,List.getElem?_eq_getElem (by omega),Option.getD_some]
  have hmem : k ∈ c := List.mem_of_mem_drop (by rw [hkc];simp : k ∈ c.drop j)
  obtain ⟨k0,k1⟩ := hc k hmem
  obtain ⟨hm,_⟩ := hb.at k k0 k1
  have bm := seenBd_mono B0 (c.length - (j + 1)) c.length (by omega)
  have be := ends_bound hm z0 z1
  have hbd : seenBd B (c.length - j) = 2 * seenBd B (c.length - (j + 1)) + 1000001 := by
   rw [show c.length - j = (c.length - (j + 1)) + 1 by omega];rfl
  have bm2 := seenBd_mono B0 (c.length - j) c.length (by omega)
  obtain ⟨v,s1,ev,v0,v1⟩ := between_some s (loEnd (rd_T49 l k).f0.f0 (rd_T49 l k).f0.f1 (rd_T49 l k).f1.f0 z) (hiEnd (rd_T49 l k).f0.f0 (rd_T49 l k).f0.f1 (rd_T49 l k).f1.f1 z) be.2.1 (by omega) (by omega)
  obtain ⟨u,hu,u0,u1⟩ : ∃ u,rd [loEnd (rd_T49 l k).f0.f0 (rd_T49 l k).f0.f1 (rd_T49 l k).f1.f0 z,hiEnd (rd_T49 l k).f0.f0 (rd_T49 l k).f0.f1 (rd_T49 l k).f1.f1 z,v] st = u ∧ loEnd (rd_T49 l k).f0.f0 (rd_T49 l k).f0.f1 (rd_T49 l k).f1.f0 z ≤ u ∧ u ≤ hiEnd (rd_T49 l k).f0.f0 (rd_T49 l k).f0.f1 (rd_T49 l k).f1.f1 z := by
   refine ⟨_,rfl,?_⟩
   rcases rd3 (loEnd (rd_T49 l k).f0.f0 (rd_T49 l k).f0.f1 (rd_T49 l k).f1.f0 z) (hiEnd (rd_T49 l k).f0.f0 (rd_T49 l k).f0.f1 (rd_T49 l k).f1.f1 z) v st st0 st1 with h | h | h <;> omega
  obtain ⟨n,s',y,hE,hrest⟩ := ih u s1 (by omega) (by rw [hkc];exact ⟨z,hz,u0,u1⟩) (by omega) (by omega)
  refine ⟨n,s',y,?_,hrest⟩
  refine Ev.step (fun k => by rw [K_Showing.l0]) ?_
  rw [show (((j + 1 : Nat) : Int) - 1) = (j : Int) by omega,← hk]
  refine Ev.pos (by omega) (Ev.pos (by omega) (Ev.pos (by omega) (Ev.pos k0 (Ev.pos k1 ?_))))
  refine Ev.call (refMade_eq _ _ _ hm (by omega) (by omega)) ?_
  have ein : D_In.f s (loEnd (rd_T49 l k).f0.f0 (rd_T49 l k).f0.f1 (rd_T49 l k).f1.f0 z) (hiEnd (rd_T49 l k).f0.f0 (rd_T49 l k).f0.f1 (rd_T49 l k).f1.f1 z) = some (v,s1) := by
   unfold D_In.f
   rw [mx_eq,Int.max_eq_right be.2.1,ev]
   rfl
  refine Ev.call ein (Ev.call rfl ?_)
  refine Ev.pos st0 (Ev.pos (by simp;omega) ?_)
  rw [hu,wrap64_eq (n := (j : Int) - 1) (by omega)]
  exact hE
theorem refChainL_ev {l : List S49} (hb : BenchOk l) (hd : Down_ l) (m : Int) (m0 : 0 ≤ m) (m1 : m < l.length) : Ev (fun k => R_Chain.f k l m) (chainL l m) := by
 unfold R_Chain.f
 have h12 := hb.1
 have h := refCheck_ev l (by omega)
 rw [checkP_ok hb hd] at h
 refine Ev.bind h (Ev.pos rfl ?_)
 rw [wrap64_eq (by omega)]
 exact Ev.call (beyond_false ⟨m0,by omega⟩) (Ev.neg (by decide) (Ev.bind (refChain_ev hd h12 m m1 (by omega)) (Ev.done rfl)))
theorem chainL_mem {l : List S49} (hb : BenchOk l) {m : Int} (m1 : m < l.length) : ∀ k ∈ chainL l m,0 ≤ k ∧ k < (l.length : Int) := chainGo_mem hb _ _ m1
theorem showing_ev {l : List S49} (hM : MadeBench l) (h5 : l.length ≤ 5) (s m x : Int) (m0 : 0 ≤ m) (m1 : m < l.length) (B : Int) (B0 : 0 ≤ B) (B1 : B ≤ 1000000000) (x0 : -B ≤ x) (x1 : x ≤ B) :
  ∃ n s' y,Ev (fun k => K_Showing.f k s l m x) (n,s') ∧ SeenBy l (chainL l m) x y ∧ -(32 * B + 31000031) ≤ y ∧ y ≤ 32 * B + 31000031 ∧ Int.tmod n (rd_T49 l m).f2 = 0 ∧ 2 * (n - y) ≤ (rd_T49 l m).f2 ∧ 2 * (y - n) ≤ (rd_T49 l m).f2 := by
 have hb := hM.ok (by omega)
 obtain ⟨_,_,_,_,_,_,a7,a8,_⟩ := hM.at m m0 m1
 obtain ⟨st,s1,e,st0,st1⟩ := upto_some s 3 (by omega) (by omega)
 have hlen : (chainL l m).length ≤ 5 := Nat.le_trans (chainGo_length l l.length m) h5
 have hbd := seenBd_mono B0 (chainL l m).length 5 hlen
 have hb5 : seenBd B 5 = 32 * B + 31000031 := by simp only [seenBd];omega
 rw [hb5] at hbd
 obtain ⟨n,s',y,hE,hS,y0,y1,hr⟩ := showing_l hb m0 m1 ⟨a7,a8⟩ (chainL l m) (by omega) (chainL_mem hb m1) st st0 st1 B B0 (by omega) (chainL l m).length x s1 (Nat.le_refl _) (by rw [List.drop_length];rfl) (by rw [Nat.sub_self];exact x0) (by rw [Nat.sub_self];exact x1)
 refine ⟨n,s',y,?_,hS,by omega,by omega,hr⟩
 unfold K_Showing.f
 refine Ev.bind (refChainL_ev hb hM.down m m0 m1) (Ev.call e ?_)
 rw [wrap64_eq (by omega)]
 exact hE
/-! ### dice,and true values of what was seen -/
theorem mod_any (a m : Int) (h0 : 1 ≤ m) (h1 : m ≤ 4000000000000) : ∃ t,K_Mod.f a m = some t ∧ 0 ≤ t ∧ t < m := by
 unfold K_Mod.f
 have u := Int.tmod_lt_of_pos a (show 0 < m by omega)
 have l := Int.tmod_lt_of_pos (-a) (show 0 < m by omega)
 rw [Int.neg_tmod] at l
 rw [if_neg (by omega),if_neg (by omega)]
 by_cases c : Int.tmod a m < 0
 ·rw [if_pos c,wrap64_eq (by omega)]
  exact ⟨_,rfl,by omega,by omega⟩
 ·rw [if_neg c]
  exact ⟨_,rfl,by omega,u⟩
theorem dice_some {l : List Int} (h : l.length ≤ maxLen) : K_NewDice.f l = some (diceOf l) := by
 unfold maxLen at h
 unfold K_NewDice.f
 rw [if_pos (by omega)]
theorem source_of_seen {l : List S49} (hb : BenchOk l) {m n x y : Int} (m1 : m < l.length) (hS : SeenBy l (chainL l m) x y) (d1 : 2 * (n - y) ≤ (rd_T49 l m).f2) (d2 : 2 * (y - n) ≤ (rd_T49 l m).f2) (x0 : -1000000000 ≤ x) (x1 : x ≤ 1000000000) :
  (sourceP l m n).2.2 = true ∧ (sourceP l m n).1 ≤ x ∧ x ≤ (sourceP l m n).2.1 := by
 obtain ⟨h1,h2,h3⟩ := seen_source hb (chainL l m) x y (srcStart l m n) (chainL_mem hb m1) hS (by show n - (rd_T49 l m).f2 / 2 ≤ y;omega) (by show y ≤ n + (rd_T49 l m).f2 / 2;omega) rfl
 unfold sourceP srcEnd
 generalize srcFold l (chainL l m) (srcStart l m n) = s at h1 h2 h3
 obtain ⟨a,b,c⟩ := s
 show (c && decide (max a (-1000000000) ≤ min b 1000000000)) = true ∧ max a (-1000000000) ≤ x ∧ x ≤ min b 1000000000
 have h3 : c = true := h3
 have h1 : a ≤ x := h1
 have h2 : x ≤ b := h2
 rw [h3,decide_eq_true (by omega)]
 exact ⟨rfl,by omega,by omega⟩
/-! ### numbers that all show one value -/
def loS (l : List S49) (y : S32) : Int := (sourceP l y.f0 y.f1).1
def hiS (l : List S49) (y : S32) : Int := (sourceP l y.f0 y.f1).2.1
/-- A number that says something,with v in it. -/
def Says (l : List S49) (v : Int) (y : S32) : Prop := gauge_True.f l y.f0 y.f1 = some (loS l y,hiS l y,0) ∧ loS l y ≤ v ∧ v ≤ hiS l y
def maxL (l : List S49) (xs : List S32) (a : Int) : Int := xs.foldl (fun a y => max a (loS l y)) a
def minL (l : List S49) (xs : List S32) (b : Int) : Int := xs.foldl (fun b y => min b (hiS l y)) b
theorem maxL_cons (l : List S49) (y : S32) : ∀ (xs : List S32) (a : Int),maxL l (y :: xs) a = max (maxL l xs a) (loS l y) := by
 intro xs
 induction xs with
 | nil => intro a;rfl
 | cons x xs ih =>
  intro a
  have h1 := ih (max a (loS l x))
  show maxL l xs (max (max a (loS l y)) (loS l x)) = max (maxL l xs (max a (loS l x))) (loS l y)
  rw [← h1]
  show maxL l xs (max (max a (loS l y)) (loS l x)) = maxL l xs (max (max a (loS l x)) (loS l y))
  congr 1
  omega
theorem minL_cons (l : List S49) (y : S32) : ∀ (xs : List S32) (b : Int),minL l (y :: xs) b = min (minL l xs b) (hiS l y) := by
 intro xs
 induction xs with
 | nil => intro b;rfl
 | cons x xs ih =>
  intro b
  have h1 := ih (min b (hiS l x))
  show minL l xs (min (min b (hiS l y)) (hiS l x)) = min (minL l xs (min b (hiS l x))) (hiS l y)
  rw [← h1]
  show minL l xs (min (min b (hiS l y)) (hiS l x)) = minL l xs (min (min b (hiS l x)) (hiS l y))
  congr 1
  omega
theorem maxL_snoc (l : List S49) (y : S32) (xs : List S32) (a : Int) : maxL l (xs ++ [y]) a = max (maxL l xs a) (loS l y) := by unfold maxL;rw [List.foldl_append];rfl
theorem minL_snoc (l : List S49) (y : S32) (xs : List S32) (b : Int) : minL l (xs ++ [y]) b = min (minL l xs b) (hiS l y) := by unfold minL;rw [List.foldl_append];rfl
theorem maxL_says {l : List S49} {v : Int} : ∀ (xs : List S32) (a : Int),(∀ y ∈ xs,Says l v y) → a ≤ v → a ≤ maxL l xs a ∧ maxL l xs a ≤ v ∧ ∀ y ∈ xs,loS l y ≤ maxL l xs a := by
 intro xs
 induction xs with
 | nil => intro a _ h;exact ⟨Int.le_refl _,h,fun y hy => by cases hy⟩
 | cons x xs ih =>
  intro a h ha
  obtain ⟨h1,h2,h3⟩ := ih a (fun y hy => h y (by simp [hy])) ha
  obtain ⟨_,hx,_⟩ := h x (by simp)
  rw [maxL_cons]
  refine ⟨by omega,by omega,fun y hy => ?_⟩
  rcases List.mem_cons.1 hy with rfl | hy
  ·omega
  ·have := h3 y hy;omega
theorem minL_says {l : List S49} {v : Int} : ∀ (xs : List S32) (b : Int),(∀ y ∈ xs,Says l v y) → v ≤ b → minL l xs b ≤ b ∧ v ≤ minL l xs b ∧ ∀ y ∈ xs,minL l xs b ≤ hiS l y := by
 intro xs
 induction xs with
 | nil => intro b _ h;exact ⟨Int.le_refl _,h,fun y hy => by cases hy⟩
 | cons x xs ih =>
  intro b h hb
  obtain ⟨h1,h2,h3⟩ := ih b (fun y hy => h y (by simp [hy])) hb
  obtain ⟨_,_,hx⟩ := h x (by simp)
  rw [minL_cons]
  refine ⟨by omega,by omega,fun y hy => ?_⟩
  rcases List.mem_cons.1 hy with rfl | hy
  ·omega
  ·have := h3 y hy;omega
theorem rd_drop32 (xs : List S32) (i : Nat) (h : i < xs.length) : xs.drop i = rd_T32 xs i :: xs.drop (i + 1) := by
 rw [List.drop_eq_getElem_cons h]
 unfold rd_T32
 rw [Int.toNat_natCast,List.getD_eq_getElem?_getD,List.getElem?_eq_getElem h,Option.getD_some]
theorem rd_mem32 (xs : List S32) (i : Nat) (h : i < xs.length) : rd_T32 xs i ∈ xs := by
 unfold rd_T32
 rw [Int.toNat_natCast,List.getD_eq_getElem?_getD,List.getElem?_eq_getElem h,Option.getD_some]
 exact List.getElem_mem h
theorem together_says {l : List S49} (hc : checkP l = 0) {v : Int} (v0 : -1000000000 ≤ v) (v1 : v ≤ 1000000000) (xs : List S32) (h0 : 1 ≤ xs.length) (h10 : xs.length ≤ 10) (h : ∀ y ∈ xs,Says l v y) :
  Ev (fun k => gauge_Together.f k l xs) (maxL l xs (-1000000000),minL l xs 1000000000,0) := by
 have go : ∀ (d i : Nat) (a b : Int),i + d = xs.length → a ≤ v → v ≤ b → Ev (fun k => gauge_Together.l0 k l xs (xs.length : Int) i a b) (maxL l (xs.drop i) a,minL l (xs.drop i) b,0) := by
  intro d
  induction d with
  | zero =>
   intro i a b hi ha hb
   rw [List.drop_of_length_le (by omega)]
   show Ev (fun k => gauge_Together.l0 k l xs (xs.length : Int) i a b) (a,b,0)
   exact Ev.step (fun k => by rw [gauge_Together.l0]) (Ev.neg (by omega) (Ev.neg (by omega) (Ev.done rfl)))
  | succ d ih =>
   intro i a b hi ha hb
   obtain ⟨e,l1,l2⟩ := h _ (rd_mem32 xs i (by omega))
   rw [rd_drop32 xs i (by omega)]
   refine Ev.step (fun k => by rw [gauge_Together.l0]) (Ev.pos (by omega) (Ev.pos (by omega) (Ev.pos (by omega) (Ev.call e (Ev.pos rfl ?_)))))
   rw [mx_eq,mn_eq,wrap64_eq (by omega)]
   exact ih (i + 1) (max a (loS l (rd_T32 xs i))) (min b (hiS l (rd_T32 xs i))) (by omega) (by omega) (by omega)
 unfold gauge_Together.f
 have := go xs.length 0 (-1000000000) 1000000000 (by omega) v0 v1
 rw [List.drop_zero] at this
 exact Ev.call rfl (Ev.pos hc (Ev.neg (by omega) (Ev.neg (by omega) this)))
end Go.Proofs.Ytdbpobadeibjaab.GE
namespace Go.Proofs.Ytdbpobadeibjaab.Pure
open Go.RowKit Go.Proofs.Ytdbpobadeibjaab.GE Go.Proofs.YtdbpobadeibjaabW.PrintWords Go.Proofs.YtdbpobadeibjaabW.PrintLast
/-! ### GaugeLonger -/
theorem verdict_g (a b c d : Int) : Ev (fun k => gauge_Verdict.f k a b c d) (verdictP a b c d) := ⟨3,fun k hk => by
 obtain ⟨m,rfl⟩ : ∃ m,k = m + 3 := ⟨k - 3,by omega⟩
 exact gauge_Verdict.eq m a b c d⟩
theorem verdict_in {a b c d : Int} (h1 : a ≤ b) (h2 : c ≤ d) : verdictP a b c d = 1 ∨ verdictP a b c d = 2 ∨ verdictP a b c d = 3 := by
 unfold verdictP
 rw [if_neg (by omega)]
 split
 ·exact .inl rfl
 ·split
  ·exact .inr (.inl rfl)
  ·exact .inr (.inr rfl)
/-- A test's answer that is no error. -/
def Fine (x : Int) : Prop := x = 1 ∨ x = 2 ∨ x = 3
theorem test_says {l : List S49} (hM : MadeBench l) (h12 : l.length ≤ 12) (hc : checkP l = 0) {v : Int} (v0 : -1000000000 ≤ v) (v1 : v ≤ 1000000000) (lo hi : Int) (hlo : lo ≤ hi) (xs : List S32) (h10 : xs.length ≤ 10) (h : ∀ y ∈ xs,Says l v y ∧ 0 ≤ y.f0 ∧ y.f0 < l.length) :
  ∃ t,Ev (fun k => gauge_test.f k l 0 lo hi xs) (t,0) ∧ Fine t := by
 have last : ∃ t,Ev (fun k => if (xs.length : Int) = 0 then (some (3,0)) else ((gauge_Together.f k l xs).bind fun bt => (if bt.2.2 = 0 then ((gauge_Verdict.f k bt.1 bt.2.1 lo hi).bind fun t => (some (t,0))) else (some (0,bt.2.2))))) (t,0) ∧ Fine t := by
  by_cases h0 : xs.length = 0
  ·exact ⟨3,Ev.pos (by omega) (Ev.done rfl),.inr (.inr rfl)⟩
  ·have hs := fun y hy => (h y hy).1
   have r := together_says hc v0 v1 xs (by omega) h10 hs
   obtain ⟨m1,m2,_⟩ := maxL_says xs (-1000000000) hs v0
   obtain ⟨k1,k2,_⟩ := minL_says xs 1000000000 hs v1
   exact ⟨_,Ev.neg (by omega) (Ev.bind r (Ev.pos rfl (Ev.bind (verdict_g _ _ _ _) (Ev.done rfl)))),verdict_in (Int.le_trans m2 k2) hlo⟩
 obtain ⟨t,ht,hf⟩ := last
 refine ⟨t,?_,hf⟩
 have go : ∀ (d i : Nat),i + d = xs.length → Ev (fun k => gauge_test.l0 k l 0 xs xs (xs.length : Int) i lo hi) (t,0) := by
  intro d
  induction d with
  | zero =>
   intro i hi
   exact Ev.step (fun k => by rw [gauge_test.l0]) (Ev.neg (by omega) ht)
  | succ d ih =>
   intro i hi
   obtain ⟨_,y0,y1⟩ := h _ (rd_mem32 xs i (by omega))
   have hd := hM.at _ y0 y1
   refine Ev.step (fun k => by rw [gauge_test.l0]) (Ev.pos (by omega) (Ev.pos (by omega) (Ev.pos (by omega) ?_)))
   rw [wrap64_eq (n := (l.length : Int) - 1) (by omega),wrap64_eq (n := (i : Int) + 1) (by omega)]
   refine Ev.call (outside_false (by omega)) (Ev.neg (by decide) (Ev.pos y0 (Ev.pos y1 (Ev.neg ?_ (ih (i + 1) (by omega))))))
   obtain ⟨_,_,_,_,_,_,_,_,_,_,b0,_⟩ := hd
   omega
 unfold gauge_test.f
 exact Ev.neg (by omega) (Ev.neg (by omega) (go xs.length 0 (by omega)))
/-! the worst of tests without errors -/
def worstV (t : Nat → Int) : Nat → Nat → Int → Int → Int × Int
 | 0,_,v,p => (v,p)
 | d + 1,i,v,p => if (t i = 2 ∧ v ≠ 2) ∨ (t i = 3 ∧ v = 1) then worstV t d (i + 1) (t i) i else worstV t d (i + 1) v p
theorem worst_fine {T : Nat → Nat → Option (Int × Int)} {t : Nat → Int} : ∀ (d i : Nat) (v p : Int),(∀ j,i ≤ j → j < i + d → Ev (fun k => T k j) (t j,0)) → Ev (fun k => worstGo (T k) d i v p) ((worstV t d i v p).1,(worstV t d i v p).2,0) := by
 intro d
 induction d with
 | zero => intro i v p _;exact Ev.done rfl
 | succ d ih =>
  intro i v p h
  rw [worstV]
  have hn := fun v p => ih (i + 1) v p (fun j h1 h2 => h j (by omega) (by omega))
  refine Ev.congr (fun k => by rw [worstGo]) (Ev.bind (h i (by omega) (by omega)) (Ev.pos rfl ?_))
  by_cases hc : (t i = 2 ∧ v ≠ 2) ∨ (t i = 3 ∧ v = 1)
  ·rw [if_pos hc];exact Ev.pos hc (hn _ _)
  ·rw [if_neg hc];exact Ev.neg hc (hn _ _)
theorem worst_snoc (t : Nat → Int) : ∀ (d i : Nat) (v p : Int),worstV t (d + 1) i v p = if (t (i + d) = 2 ∧ (worstV t d i v p).1 ≠ 2) ∨ (t (i + d) = 3 ∧ (worstV t d i v p).1 = 1) then (t (i + d),((i + d : Nat) : Int)) else worstV t d i v p := by
 intro d
 induction d with
 | zero => intro i v p;simp only [worstV,Nat.add_zero];first | done | rfl | (split <;> rfl)
 | succ d ih =>
  intro i v p
  rw [worstV]
  by_cases hc : (t i = 2 ∧ v ≠ 2) ∨ (t i = 3 ∧ v = 1)
  ·rw [if_pos hc,ih,show worstV t (d + 1) i v p = worstV t d (i + 1) (t i) i by rw [worstV,if_pos hc],show i + 1 + d = i + (d + 1) by omega]
  ·rw [if_neg hc,ih,show worstV t (d + 1) i v p = worstV t d (i + 1) v p by rw [worstV,if_neg hc],show i + 1 + d = i + (d + 1) by omega]
/-- What holds of the worst of n tests. -/
def WorstOk (n : Nat) (r : Int × Int) : Prop := (r.1 = 1 ∧ r.2 = -1) ∨ ((r.1 = 2 ∨ r.1 = 3) ∧ 0 ≤ r.2 ∧ r.2 < n)
theorem worst_ok (t : Nat → Int) : ∀ n : Nat,WorstOk n (worstV t n 0 1 (-1)) := by
 intro n
 induction n with
 | zero => exact .inl ⟨rfl,rfl⟩
 | succ n ih =>
  rw [worst_snoc,Nat.zero_add]
  unfold WorstOk at ih ⊢
  split
  ·rename_i h
   refine .inr ⟨by omega,?_,?_⟩
   ·show (0 : Int) ≤ (n : Int);omega
   ·show (n : Int) < ((n + 1 : Nat) : Int);omega
  ·omega
theorem sheet_fine {l : List S49} (hc : checkP l = 0) (rs : List S34) (ts : List (List S32)) (hl : ts.length = rs.length) (h20 : rs.length ≤ 20) (t : Nat → Int) (h : ∀ i,i < rs.length → Ev (fun k => sheetT k l 0 rs ts i) (t i,0)) :
  Ev (fun k => gauge_Sheet.f k l 0 rs ts) ((worstV t rs.length 0 1 (-1)).1,(worstV t rs.length 0 1 (-1)).2,0) := by
 unfold gauge_Sheet.f
 exact Ev.neg (by omega) (Ev.neg (by omega) (Ev.neg (by omega) (Ev.neg (by omega) (worst_fine rs.length 0 1 (-1) (fun j _ h2 => h j (by omega))))))
theorem take_rd34 (rs : List S34) (n i : Nat) (h : i < n) : rd_T34 (rs.take n) (i : Int) = rd_T34 rs (i : Int) := by
 unfold rd_T34
 rw [Int.toNat_natCast,List.getD_eq_getElem?_getD,List.getD_eq_getElem?_getD,List.getElem?_take_of_lt h]
theorem take_rd8 (ts : List (List S32)) (n i : Nat) (h : i < n) : rd_L8 (ts.take n) (i : Int) = rd_L8 ts (i : Int) := by
 unfold rd_L8
 rw [Int.toNat_natCast,List.getD_eq_getElem?_getD,List.getD_eq_getElem?_getD,List.getElem?_take_of_lt h]
theorem GaugeLonger : L_GaugeLonger.Pure := by
 intro l0 hl _ _
 refine Ev.rounds ?_
 unfold L_GaugeLonger.f
 refine Ev.call (dice_some hl) ?_
 obtain ⟨l,s1,e1,hM,h1,h3⟩ := bench_some (diceOf l0) 3 (by omega) (by omega)
 refine Ev.call e1 ?_
 obtain ⟨n,s2,e3,n0,n1⟩ := between_some s1 1 5 (by omega) (by omega) (by omega)
 refine Ev.call e3 ?_
 have hb := hM.ok (by omega)
 have hck := checkP_ok hb hM.down
 have hw : L_widers.f l0 = some true := if_pos (show l0.length ≤ 9223372036854775807 by unfold maxLen at hl;omega)
 have loop : ∀ (d : Nat) (rs : List S34) (ts : List (List S32)) (s : Int),rs.length + d ≤ 10 → 1 ≤ rs.length + d → ts.length = rs.length →
   (∀ i : Nat,i < rs.length → ∃ t,Ev (fun k => sheetT k l 0 rs ts i) (t,0) ∧ Fine t) → Ev (fun k => L_GaugeLonger.l0 k l0 l rs ts (d : Int) s) true := by
  intro d
  induction d with
  | zero =>
   intro rs ts s h10 h1' hlen ht
   obtain ⟨t,htt⟩ : ∃ t : Nat → Int,∀ i,i < rs.length → Ev (fun k => sheetT k l 0 rs ts i) (t i,0) ∧ Fine (t i) := by
    have : ∀ i : Nat,∃ t,i < rs.length → Ev (fun k => sheetT k l 0 rs ts i) (t,0) ∧ Fine t := fun i => by
     by_cases h : i < rs.length
     ·obtain ⟨t,h⟩ := ht i h
      exact ⟨t,fun _ => h⟩
     ·exact ⟨0,fun h' => absurd h' h⟩
    obtain ⟨t,h⟩ := Classical.axiomOfChoice this
    exact ⟨t,h⟩
   obtain ⟨m,hm⟩ : ∃ m,rs.length = m + 1 := ⟨rs.length - 1,by omega⟩
   have sl := sheet_fine hck rs ts hlen (by omega) t (fun i hi => (htt i hi).1)
   have ss := sheet_fine hck (rs.take m) (ts.take m) (by simp [hlen]) (by simp;omega) t (fun i hi => by
    have hi' : i < m := by simp at hi;omega
    unfold sheetT
    rw [take_rd34 rs m i hi',take_rd8 ts m i hi']
    exact (htt i (by omega)).1)
   rw [show (rs.take m).length = m by simp;omega] at ss
   rw [hm] at sl
   have o1 := worst_ok t m
   have o2 := worst_ok t (m + 1)
   have sn := worst_snoc t m 0 1 (-1)
   rw [Nat.zero_add] at sn
   have ft := (htt m (by omega)).2
   generalize worstV t m 0 1 (-1) = p at ss o1 sn
   generalize worstV t (m + 1) 0 1 (-1) = q at sl o2 sn
   obtain ⟨v,a⟩ := p
   obtain ⟨u,b⟩ := q
   unfold WorstOk at o1 o2
   unfold Fine at ft
   simp only at o1 o2 sn ss sl
   have w : wrap64 ((ts.length : Int) - 1) = (m : Int) := by rw [wrap64_eq (by omega)];omega
   refine Ev.step (fun k => by rw [L_GaugeLonger.l0]) (Ev.neg (by omega) ?_)
   rw [w]
   refine Ev.pos (by omega) (Ev.pos (by omega) (Ev.pos (by omega) ?_))
   rw [Int.toNat_natCast]
   refine Ev.bind ss (Ev.bind sl (Ev.pos rfl (Ev.pos rfl ?_)))
   have e1 : ((v == 1) != (a == (-1))) = false := by
    rcases o1 with ⟨rfl,rfl⟩ | ⟨hv,h0,_⟩
    ·rfl
    ·rw [show (v == 1) = false from beq_eq_false_iff_ne.mpr (by omega),show (a == (-1)) = false from beq_eq_false_iff_ne.mpr (by omega)];rfl
   have e2 : ((u == 1) != (b == (-1))) = false := by
    rcases o2 with ⟨rfl,rfl⟩ | ⟨hv,h0,_⟩
    ·rfl
    ·rw [show (u == 1) = false from beq_eq_false_iff_ne.mpr (by omega),show (b == (-1)) = false from beq_eq_false_iff_ne.mpr (by omega)];rfl
   have a1 : ¬ a ≥ (m : Int) := by omega
   have b1 : ¬ b > (m : Int) := by omega
   have last : ∀ x : Bool,x = false → Ev (fun k => L_GaugeLonger.j2 k l0 v a u b x) true := by
    intro x hx
    refine Ev.step (fun k => by rw [L_GaugeLonger.j2]) (Ev.neg (by rw [hx];decide) ?_)
    have fin : Ev (fun k => (L_widers.f l0).bind fun t => (if t = true then ((L_awake.f k).bind fun t => (some t)) else (some false))) true := Ev.call hw (Ev.pos rfl (Ev.bind Ev.awake (Ev.done rfl)))
    by_cases hv : v = 1
    ·exact Ev.pos hv (Ev.neg (by omega) fin)
    ·refine Ev.neg hv ?_
     have hsn := sn
     have hu : u ≠ 1 := by
      split at sn
      ·injection sn with s1 s2;omega
      ·injection sn with s1 s2;omega
     refine Ev.neg hu ?_
     by_cases hv2 : v = 2
     ·have hq : ¬ ((t m = 2 ∧ v ≠ 2) ∨ (t m = 3 ∧ v = 1)) := by omega
      rw [if_neg hq] at hsn
      injection hsn with s1 s2
      exact Ev.pos hv2 (Ev.pos (by omega) (Ev.pos (by omega) fin))
     ·exact Ev.neg hv2 fin
   exact Ev.neg (by rw [e1];decide) (Ev.neg (by rw [e2];decide) (Ev.neg a1 (last _ (decide_eq_false b1))))
  | succ d ih =>
   intro rs ts s h10 h1' hlen ht
   obtain ⟨x,s3,e4,x0,x1⟩ := between_some s (-2000) 2000 (by omega) (by omega) (by omega)
   obtain ⟨p,s4,e5,p0,p1⟩ := upto_some s3 300 (by omega) (by omega)
   obtain ⟨q,s5,e6,q0,q1⟩ := upto_some s4 300 (by omega) (by omega)
   obtain ⟨c,s6,e7,c0,c1⟩ := upto_some s5 3 (by omega) (by omega)
   refine Ev.step (fun k => by rw [L_GaugeLonger.l0]) (Ev.pos (by omega) (Ev.call e4 (Ev.call e5 (Ev.call e6 ?_))))
   rw [wrap64_eq (n := x - p) (by omega),wrap64_eq (n := x + q) (by omega)]
   refine Ev.call rfl (Ev.pos (by omega) (Ev.call e7 ?_))
   have inner : ∀ (j : Nat) (xs : List S32) (s : Int),xs.length + j ≤ 10 → (∀ y ∈ xs,Says l x y ∧ 0 ≤ y.f0 ∧ y.f0 < l.length) → Ev (fun k => L_GaugeLonger.l1 k l0 l (rs ++ [⟨x - p,x + q⟩]) ts ((d + 1 : Nat) : Int) x xs (j : Int) s) true := by
    intro j
    induction j with
    | zero =>
     intro xs s hx hs
     refine Ev.step (fun k => by rw [L_GaugeLonger.l1]) (Ev.neg (by omega) (Ev.pos (by omega) ?_))
     rw [show wrap64 (((d + 1 : Nat) : Int) - 1) = (d : Int) by rw [wrap64_eq (by omega)];omega]
     refine ih _ _ s (by simp;omega) (by simp;omega) (by simp [hlen]) (fun i hi => ?_)
     by_cases hi' : i < rs.length
     ·obtain ⟨t,h1,h2⟩ := ht i hi'
      refine ⟨t,?_,h2⟩
      unfold sheetT at h1 ⊢
      rw [show rd_T34 (rs ++ [⟨x - p,x + q⟩]) (i : Int) = rd_T34 rs (i : Int) by unfold rd_T34;rw [Int.toNat_natCast,List.getD_eq_getElem?_getD,List.getD_eq_getElem?_getD,List.getElem?_append_left hi'],
       show rd_L8 (ts ++ [xs]) (i : Int) = rd_L8 ts (i : Int) by unfold rd_L8;rw [Int.toNat_natCast,List.getD_eq_getElem?_getD,List.getD_eq_getElem?_getD,List.getElem?_append_left (by omega)]]
      exact h1
     ·have hi2 : i = rs.length := by simp at hi;omega
      subst hi2
      obtain ⟨t,h1,h2⟩ := test_says hM (by omega) hck (v := x) (by omega) (by omega) (x - p) (x + q) (by omega) xs (by omega) hs
      refine ⟨t,?_,h2⟩
      unfold sheetT
      rw [show rd_T34 (rs ++ [⟨x - p,x + q⟩]) (rs.length : Int) = ⟨x - p,x + q⟩ by unfold rd_T34;rw [Int.toNat_natCast,List.getD_eq_getElem?_getD];simp,
       show rd_L8 (ts ++ [xs]) (rs.length : Int) = xs by unfold rd_L8;rw [Int.toNat_natCast,List.getD_eq_getElem?_getD,← hlen];simp]
      exact h1
    | succ j ihj =>
     intro xs s hx hs
     obtain ⟨m,s7,e8,m0,m1⟩ := upto_some s (l.length : Int) (by omega) (by omega)
     obtain ⟨n,s8,y,hE,hS,y0,y1,htm,d1,d2⟩ := showing_ev hM (by omega) s7 m x m0 m1 100000 (by omega) (by omega) (by omega) (by omega)
     obtain ⟨_,_,_,_,_,_,a7,a8,_⟩ := hM.at m m0 m1
     obtain ⟨g1,g2,g3⟩ := source_of_seen hb m1 hS d1 d2 (by omega) (by omega)
     have hs' : Says l x ⟨m,n⟩ := ⟨by
      have h := true_eq hb hck m0 m1 (show -1000000000 ≤ n by omega) (by omega) htm
      rw [if_pos g1] at h
      exact h,g2,g3⟩
     refine Ev.step (fun k => by rw [L_GaugeLonger.l1]) (Ev.pos (by omega) (Ev.call e8 (Ev.bind hE (Ev.pos (show xs.length < 8796093022208 by omega) ?_))))
     rw [show wrap64 (((j + 1 : Nat) : Int) - 1) = (j : Int) by rw [wrap64_eq (by omega)];omega]
     refine ihj _ s8 (by simp;omega) (fun z hz => ?_)
     rcases List.mem_append.1 hz with hz | hz
     ·exact hs z hz
     ·rw [List.mem_singleton.1 hz];exact ⟨hs',m0,m1⟩
   have := inner c.toNat [] s6 (by simp;omega) (fun y hy => by cases hy)
   rw [Int.toNat_of_nonneg c0] at this
   exact this
 have := loop n.toNat [] [] s2 (by simp;omega) (by simp;omega) rfl (fun i hi => by simp at hi)
 rw [Int.toNat_of_nonneg (by omega)] at this
 exact this
end Go.Proofs.Ytdbpobadeibjaab.Pure
