/- GaugeSheets,its plain part: what the printed functions compute answers as the statement says,for every input;no condition beside the statement's own. -/
import Derived.Test.YtdbpobadeibjaabGSx34
namespace Go.Proofs.Ytdbpobadeibjaab.GS
open Go.RowKit Go.Proofs.YtdbpobadeibjaabW.PrintWords Go.Proofs.YtdbpobadeibjaabW.PrintLast
theorem zv1 {α : Type} {f : Nat → Option α} (hm : ∀ k,LeO (f k) (f (k + 1))) {j : Nat} {r : α} (h : f j = some r) : ∀ k,j ≤ k → f k = some r := by
 intro k hk
 obtain ⟨d,rfl⟩ := Nat.exists_eq_add_of_le hk
 clear hk
 induction d with
 | zero => exact h
 | succ d ih => exact hm (j + d) r ih
def Ev {α : Type} (g : Nat → Option α) (r : α) : Prop := ∃ K,∀ k,K ≤ k → g k = some r
theorem Ev.of {α : Type} {g : Nat → Option α} {r : α} (hg : ∀ k,LeO (g k) (g (k + 1))) {k : Nat} (h : g k = some r) : Ev g r := ⟨k,fun j hj => zv1 hg h j hj⟩
theorem Ev.rounds {α : Type} {g : Nat → Option α} {r : α} (h : Ev g r) : ∃ k,g k = some r := by
 obtain ⟨K,hK⟩ := h
 exact ⟨K,hK K (Nat.le_refl _)⟩
theorem Ev.bind {α β : Type} {g : Nat → Option α} {f : Nat → α → Option β} {a : α} {r : β} (h : Ev g a) (k : Ev (fun n => f n a) r) : Ev (fun n => (g n).bind (f n)) r := by
 obtain ⟨K,hK⟩ := h
 obtain ⟨J,hJ⟩ := k
 refine ⟨max K J,fun n hn => ?_⟩
 show (g n).bind (f n) = some r
 rw [hK n (by omega)]
 exact hJ n (by omega)
theorem Ev.step {α : Type} {g f : Nat → Option α} {r : α} (h : ∀ k,g (k + 1) = f k) (k : Ev f r) : Ev g r := by
 obtain ⟨K,hK⟩ := k
 refine ⟨K + 1,fun n hn => ?_⟩
 obtain ⟨m,rfl⟩ : ∃ m,n = m + 1 := ⟨n - 1,by omega⟩
 rw [h m]
 exact hK m (by omega)
theorem Ev.congr {α : Type} {g f : Nat → Option α} {r : α} (h : ∀ k,g k = f k) (k : Ev f r) : Ev g r := by
 obtain ⟨K,hK⟩ := k
 exact ⟨K,fun n hn => (h n).trans (hK n hn)⟩
theorem Ev.pos {α : Type} {c : Prop} [Decidable c] {f g : Nat → Option α} {r : α} (h : c) (k : Ev f r) : Ev (fun n => if c then f n else g n) r := Ev.congr (fun _ => if_pos h) k
theorem Ev.neg {α : Type} {c : Prop} [Decidable c] {f g : Nat → Option α} {r : α} (h : ¬ c) (k : Ev g r) : Ev (fun n => if c then f n else g n) r := Ev.congr (fun _ => if_neg h) k
theorem Ev.call {α β : Type} {x : Option α} {a : α} {f : Nat → α → Option β} {r : β} (h : x = some a) (k : Ev (fun n => f n a) r) : Ev (fun n => x.bind (f n)) r := Ev.congr (fun n => by rw [h];rfl) k
theorem Ev.done {α : Type} {x : Option α} {r : α} (h : x = some r) : Ev (fun _ => x) r := ⟨0,fun _ _ => h⟩
theorem Ev.awake : Ev L_awake.f true := Ev.of L_awake.mono L_awake.holds
theorem MadeBench.ok {l : List S49} (h : MadeBench l) (h12 : l.length ≤ 12) : BenchOk l := by
 refine ⟨h12,fun x hx => ?_⟩
 obtain ⟨i,hi,rfl⟩ := List.getElem_of_mem hx
 have := h i hi
 unfold rd_T49 at this
 rw [Int.toNat_natCast,List.getD_eq_getElem?_getD,List.getElem?_eq_getElem hi,Option.getD_some] at this
 obtain ⟨a1,a2,a3,a4,a5,a6,a7,a8,a9,a10,a11,a12⟩ := this
 exact ⟨⟨a1,a2,a3,by omega,a5,by omega⟩,a7,by omega,by omega,by omega,a9,by omega⟩
theorem MadeBench.at {l : List S49} (h : MadeBench l) (m : Int) (h0 : 0 ≤ m) (h1 : m < l.length) : MeterIn m (rd_T49 l m) := by
 have := h m.toNat (by omega)
 rw [Int.toNat_of_nonneg h0] at this
 exact this
theorem zv {a b lo hi : Int} (h0 : lo ≤ a) (h1 : a ≤ b) (h2 : b ≤ hi) : rangeErr a b lo hi = 0 := by
 unfold rangeErr
 rw [if_neg (by omega),if_neg (by omega)]
theorem zQ {n : Int} {x : S49} (h : MeterOk n x) : meterErr n x = 0 := by
 obtain ⟨⟨a1,a2,a3,a4,a5,a6⟩,a7,a8,a9,a10,a11,a12⟩ := h
 have e : makingErr x.f0.f0 x.f0.f1 x.f1.f0 x.f1.f1 = 0 := by
  unfold makingErr
  rw [zv a1 a2 a3,zv a4 a5 a6]
  rfl
 unfold meterErr
 rw [e,if_neg (by decide),if_neg (by omega)]
theorem zw {n : Int} : ∀ {l : List S49},(∀ x ∈ l,MeterOk n x) → firstErr n l = 0
 | [],_ => rfl
 | x :: l,h => by
  unfold firstErr
  rw [zQ (h x (by simp)),if_neg (by decide)]
  exact zw fun y hy => h y (by simp [hy])
def ze1 (l : List S49) : Prop := ∀ m : Int,0 ≤ m → m < l.length → -1 ≤ (rd_T49 l m).f3 ∧ (rd_T49 l m).f3 < m
theorem MadeBench.down {l : List S49} (h : MadeBench l) : ze1 l := fun m h0 h1 => by
 obtain ⟨_,_,_,_,_,_,_,_,a9,a10,_,_⟩ := h.at m h0 h1
 exact ⟨a9,a10⟩
theorem zd (l : List S49) (n : Nat) (m : Int) (h : m < 0) : chainGo l n m = [] := by
 cases n with
 | zero => rfl
 | succ n => rw [chainGo,if_pos h]
theorem zL {l : List S49} (hd : ze1 l) : ∀ (n : Nat) (m : Int) (d : Int),0 ≤ m → m < l.length → m < n → (rd_T49 l ((chainGo l n m).getLastD d)).f3 = -1 := by
 intro n
 induction n with
 | zero => intro m d h0 _ h2;omega
 | succ n ih =>
  intro m d h0 h1 h2
  rw [chainGo,if_neg (by omega),List.getLastD_cons]
  obtain ⟨b0,b1⟩ := hd m h0 h1
  by_cases hb : (rd_T49 l m).f3 < 0
  ·rw [zd l n _ hb]
   show (rd_T49 l m).f3 = -1
   omega
  ·exact ih _ m (by omega) (by omega) (by omega)
theorem zs {l : List S49} (h : ∀ i : Nat,i < l.length → endsP l i) : ∀ n i : Nat,i + n = l.length → looseFrom l n i = 0
 | 0,_,_ => rfl
 | n + 1,i,hi => by
  unfold looseFrom
  rw [if_pos (h i (by omega))]
  exact zs h n (i + 1) (by omega)
theorem zl1 {l : List S49} (h : BenchOk l) (hd : ze1 l) : checkP l = 0 := by
 unfold checkP
 rw [if_neg (by have := h.1;omega),zw h.2,if_neg (by decide)]
 refine zs (fun i hi => ?_) _ 0 (by omega)
 unfold endsP chainL
 exact zL hd _ _ _ (by omega) (by omega) (by omega)
theorem zZ {l : List S49} (hd : ze1 l) (h12 : l.length ≤ 12) : ∀ (d : Nat) (m : Int) (pre : List Int),m < l.length → m + 1 ≤ d → (pre.length : Int) + m + 1 ≤ l.length → -1 ≤ m →
  Ev (fun k => R_chain.l0 k l m pre) (pre ++ chainGo l d m,true) := by
 intro d
 induction d with
 | zero =>
  intro m pre h0 h1 h2 h3
  refine Ev.step (fun k => by rw [R_chain.l0]) ?_
  refine Ev.neg (by omega) (Ev.done ?_)
  rw [zd l _ m (by omega),List.append_nil,decide_eq_true (by omega)]
 | succ d ih =>
  intro m pre h0 h1 h2 h3
  refine Ev.step (fun k => by rw [R_chain.l0]) ?_
  by_cases hm : m < 0
  ·refine Ev.neg (by omega) (Ev.done ?_)
   rw [zd l _ m hm,List.append_nil,decide_eq_true hm]
  ·obtain ⟨b0,b1⟩ := hd m (by omega) h0
   refine Ev.pos (by omega) (Ev.pos (by omega) (Ev.pos (by omega) (Ev.pos (by omega) (Ev.pos h0 ?_))))
   have := ih (rd_T49 l m).f3 (pre ++ [m]) (by omega) (by omega) (by simp;omega) (by omega)
   rw [List.append_assoc] at this
   rw [chainGo,if_neg hm]
   exact this
theorem zO {l : List S49} (hd : ze1 l) (h12 : l.length ≤ 12) (m : Int) (m1 : m < l.length) (m0 : -1 ≤ m) : Ev (fun k => R_chain.f k l m) (chainL l m,true) := by
 have := zZ hd h12 l.length m [] m1 (by omega) (by simp;omega) m0
 rw [List.nil_append] at this
 exact this
theorem zc {n lo hi : Int} (h : n < lo ∨ n > hi) : R_beyond.f n lo hi = some true := by
 unfold R_beyond.f
 by_cases c : n < lo
 ·rw [if_pos c]
 ·rw [if_neg c,decide_eq_true (by omega)]
theorem zb {n lo hi : Int} (h : lo ≤ n ∧ n ≤ hi) : R_beyond.f n lo hi = some false := by
 unfold R_beyond.f
 rw [if_neg (by omega),decide_eq_false (by omega)]
def za (l : List S49) : Nat → Int → Int
 | 0,m => m
 | k + 1,m => if m < 0 then m else za l k (rd_T49 l m).f3
theorem zy (l : List S49) (k : Nat) (m : Int) (h : m < 0) : za l k m = m := by
 cases k with
 | zero => rfl
 | succ k => rw [za,if_pos h]
theorem zn (l : List S49) : ∀ (k : Nat) (m : Int),za l k m < 0 → ∀ j,k ≤ j → za l j m < 0 := by
 intro k
 induction k with
 | zero => intro m h j _;rw [zy l j m h];exact h
 | succ k ih =>
  intro m h j hj
  obtain ⟨j,rfl⟩ : ∃ i,j = i + 1 := ⟨j - 1,by omega⟩
  rw [za] at h ⊢
  by_cases hm : m < 0
  ·rw [if_pos hm];exact hm
  ·rw [if_neg hm] at h ⊢
   exact ih _ h j (by omega)
theorem zR : ∀ (n : Nat) (c : List Int),c.Nodup → (∀ x ∈ c,0 ≤ x ∧ x < n) → c.length ≤ n := by
 intro n
 induction n with
 | zero =>
  intro c _ h
  cases c with
  | nil => exact Nat.le_refl _
  | cons x c => have := h x (by simp);omega
 | succ n ih =>
  intro c hn h
  by_cases hm : (n : Int) ∈ c
  ·have h1 := ih (c.erase (n : Int)) (hn.erase _) (fun x hx => by
    rw [hn.mem_erase_iff] at hx
    have := h x hx.2
    have := hx.1
    omega)
   rw [List.length_erase_of_mem hm] at h1
   omega
  ·have := ih c hn (fun x hx => by
    have := h x hx
    have : x ≠ n := fun e => hm (e ▸ hx)
    omega)
   omega
theorem zc1 {l : List S49} (hb : ∀ m : Int,0 ≤ m → m < l.length → (rd_T49 l m).f3 < l.length) : ∀ (d : Nat) (m : Int),m < l.length → za l d m < 0 → (∀ j,j < d → ¬ za l j m < 0) →
  ∃ c : List Int,c.length = d ∧ c.Nodup ∧ ∀ x ∈ c,(0 ≤ x ∧ x < l.length) ∧ za l d x < 0 := by
 intro d
 induction d with
 | zero => intro m _ _ _;exact ⟨[],rfl,List.nodup_nil,fun x hx => by cases hx⟩
 | succ d ih =>
  intro m hm h hj
  have m0 : ¬ m < 0 := hj 0 (by omega)
  have h' := h
  rw [za,if_neg m0] at h
  obtain ⟨c,hc,hn,hx⟩ := ih (rd_T49 l m).f3 (hb m (by omega) hm) h (fun j hjd => by
   have := hj (j + 1) (by omega)
   rw [za,if_neg m0] at this
   exact this)
  refine ⟨m :: c,by simp [hc],List.nodup_cons.2 ⟨fun hmc => hj d (by omega) (hx m hmc).2,hn⟩,fun x hxm => ?_⟩
  rcases List.mem_cons.1 hxm with rfl | hxc
  ·exact ⟨⟨by omega,hm⟩,h'⟩
  ·exact ⟨(hx x hxc).1,zn l d x (hx x hxc).2 _ (by omega)⟩
theorem zo {l : List S49} (hb : ∀ m : Int,0 ≤ m → m < l.length → (rd_T49 l m).f3 < l.length) (m : Int) (hm : m < l.length) : ∀ k : Nat,za l k m < 0 → za l l.length m < 0 := by
 intro k
 induction k using Nat.strongRecOn with
 | _ k ih =>
  intro h
  by_cases hex : ∃ j,j < k ∧ za l j m < 0
  ·obtain ⟨j,hj,h'⟩ := hex
   exact ih j hj h'
  ·obtain ⟨c,hc,hn,hx⟩ := zc1 hb k m hm h (fun j hj h' => hex ⟨j,hj,h'⟩)
   have := zR l.length c hn (fun x hxc => (hx x hxc).1)
   exact zn l k m h _ (by omega)
theorem za1 {l : List S49} : ∀ (n : Nat) (m d : Int),0 ≤ m → ((rd_T49 l ((chainGo l (n + 1) m).getLastD d)).f3 < 0 ↔ za l (n + 1) m < 0) := by
 intro n
 induction n with
 | zero =>
  intro m d h0
  rw [chainGo,if_neg (by omega),za,if_neg (by omega)]
  exact Iff.rfl
 | succ n ih =>
  intro m d h0
  rw [chainGo,if_neg (by omega),za,if_neg (by omega),List.getLastD_cons]
  by_cases hb : (rd_T49 l m).f3 < 0
  ·rw [zd l _ _ hb,zy l _ _ hb]
   exact Iff.rfl
  ·exact ih _ _ (by omega)
theorem zx {l : List S49} (hb : ∀ m : Int,0 ≤ m → m < l.length → -1 ≤ (rd_T49 l m).f3 ∧ (rd_T49 l m).f3 < l.length) (i : Int) (h0 : 0 ≤ i) (h1 : i < l.length) : endsP l i ↔ za l (l.length + 1) i < 0 := by
 have e : endsP l i ↔ (rd_T49 l ((chainL l i).getLastD i)).f3 < 0 := by
  unfold endsP
  have hmem : 0 ≤ (chainL l i).getLastD i ∧ (chainL l i).getLastD i < l.length := by
   have hall : ∀ x ∈ i :: chainL l i,0 ≤ x ∧ x < (l.length : Int) := by
    intro x hx
    rcases List.mem_cons.1 hx with rfl | hx
    ·exact ⟨h0,h1⟩
    ·have go : ∀ (n : Nat) (m : Int),m < l.length → ∀ x ∈ chainGo l n m,0 ≤ x ∧ x < (l.length : Int) := by
      intro n
      induction n with
      | zero => intro m _ x hx;cases hx
      | succ n ih =>
       intro m hm x hx
       rw [chainGo] at hx
       split at hx
       ·cases hx
       ·rcases List.mem_cons.1 hx with rfl | hx
        ·exact ⟨by omega,hm⟩
        ·exact ih _ (hb m (by omega) hm).2 x hx
     exact go _ _ h1 x hx
   exact hall _ (getLastD_mem i (chainL l i))
  have := hb _ hmem.1 hmem.2
  omega
 rw [e]
 unfold chainL
 obtain ⟨n,hn⟩ : ∃ n,l.length = n + 1 := ⟨l.length - 1,by omega⟩
 have h2 := za1 (l := l) n i i h0
 rw [← hn] at h2
 rw [h2]
 exact ⟨fun h => zn l _ _ h _ (by omega),zo (fun m a b => (hb m a b).2) i h1 _⟩
theorem zG {l : List S49} (hb : ∀ m : Int,0 ≤ m → m < l.length → -1 ≤ (rd_T49 l m).f3 ∧ (rd_T49 l m).f3 < l.length) (h20 : l.length ≤ 20) : ∀ (d : Nat) (m : Int) (pre : List Int),m < l.length → pre.length + d = l.length + 1 →
  ∃ c,Ev (fun k => R_chain.l0 k l m pre) (c,decide (za l d m < 0)) := by
 intro d
 induction d with
 | zero =>
  intro m pre h0 h1
  by_cases hm : m < 0
  ·refine ⟨pre,Ev.step (fun k => by rw [R_chain.l0]) ?_⟩
   exact Ev.neg (by omega) (Ev.done (by rw [za]))
  ·refine ⟨pre,Ev.step (fun k => by rw [R_chain.l0]) ?_⟩
   exact Ev.pos (by omega) (Ev.neg (by omega) (Ev.done (by rw [za])))
 | succ d ih =>
  intro m pre h0 h1
  by_cases hm : m < 0
  ·refine ⟨pre,Ev.step (fun k => by rw [R_chain.l0]) ?_⟩
   exact Ev.neg (by omega) (Ev.done (by rw [za,if_pos hm]))
  ·obtain ⟨b0,b1⟩ := hb m (by omega) h0
   obtain ⟨c,hc⟩ := ih (rd_T49 l m).f3 (pre ++ [m]) b1 (by simp;omega)
   refine ⟨c,Ev.step (fun k => by rw [R_chain.l0]) ?_⟩
   rw [za,if_neg hm]
   exact Ev.pos (by omega) (Ev.pos (by omega) (Ev.pos (by omega) (Ev.pos (by omega) (Ev.pos h0 hc))))
theorem zu (a b lo hi : Int) : Ev (fun k => R_checkRange.f k a b lo hi) (rangeErr a b lo hi) := by
 unfold R_checkRange.f rangeErr
 by_cases h1 : lo ≤ a ∧ a ≤ hi
 ·refine Ev.call (zb h1) (Ev.neg (by decide) ?_)
  by_cases h2 : lo ≤ b ∧ b ≤ hi
  ·refine Ev.call (zb h2) ?_
   rw [if_neg (by omega)]
   refine Ev.step (fun k => by rw [R_checkRange.j0]) (Ev.neg (by decide) ?_)
   by_cases h3 : a > b
   ·exact Ev.pos h3 (Ev.done (by rw [if_pos h3]))
   ·exact Ev.neg h3 (Ev.done (by rw [if_neg h3]))
  ·refine Ev.call (zc (by omega)) ?_
   rw [if_pos (by omega)]
   exact Ev.step (fun k => by rw [R_checkRange.j0]) (Ev.pos rfl (Ev.done rfl))
 ·refine Ev.call (zc (by omega)) (Ev.pos rfl ?_)
  rw [if_pos (by omega)]
  exact Ev.step (fun k => by rw [R_checkRange.j0]) (Ev.pos rfl (Ev.done rfl))
theorem zF (a b c d e f g : Int) : Ev (fun k => R_checkMaking.f k a b c d e f g) (makingErr a b c d) := by
 unfold R_checkMaking.f makingErr
 refine Ev.bind (zu a b 500000 2000000) ?_
 by_cases h : rangeErr a b 500000 2000000 = 0
 ·rw [if_neg (by omega)]
  exact Ev.pos h (Ev.bind (zu c d (-1000000) 1000000) (Ev.done rfl))
 ·rw [if_pos h]
  exact Ev.neg h (Ev.done rfl)
theorem zE (n : Int) (l : List S49) (k : Nat) (h : k < l.length) : firstErr n (l.drop k) = if meterErr n (rd_T49 l k) ≠ 0 then meterErr n (rd_T49 l k) else firstErr n (l.drop (k + 1)) := by
 rw [drop_at l k h,firstErr]
theorem zg (l : List S49) (h20 : l.length ≤ 20) : Ev (fun k => R_Check.f k l) (checkP l) := by
 unfold R_Check.f checkP
 by_cases h12 : 12 < l.length
 ·rw [if_pos h12]
  exact Ev.pos (by omega) (Ev.done rfl)
 rw [if_neg h12]
 refine Ev.neg (by omega) ?_
 have loose : (∀ x ∈ l,MeterOk l.length x) → ∀ (d i : Nat),i + d = l.length → Ev (fun k => R_Check.l1 k l i) (looseFrom l d i) := by
  intro hok d
  have hb : ∀ m : Int,0 ≤ m → m < l.length → -1 ≤ (rd_T49 l m).f3 ∧ (rd_T49 l m).f3 < l.length := fun m m0 m1 => by
   obtain ⟨_,_,_,_,_,a11,a12⟩ := BenchOk.at ⟨by omega,hok⟩ m m0 m1
   exact ⟨a11,a12⟩
  induction d with
  | zero =>
   intro i hi
   refine Ev.step (fun k => by rw [R_Check.l1]) ?_
   exact Ev.neg (by omega) (Ev.done rfl)
  | succ d ih =>
   intro i hi
   refine Ev.step (fun k => by rw [R_Check.l1]) (Ev.pos (by omega) ?_)
   obtain ⟨c,hc⟩ := zG hb h20 (l.length + 1) i [] (by omega) (by simp)
   have hc' : Ev (fun k => R_chain.f k l i) (c,decide (za l (l.length + 1) i < 0)) := hc
   refine Ev.bind hc' ?_
   have he := zx hb i (by omega) (by omega)
   rw [looseFrom]
   by_cases h : endsP l i
   ·rw [if_pos h,decide_eq_true (he.1 h)]
    refine Ev.pos rfl ?_
    rw [wrap64_eq (by omega)]
    exact ih (i + 1) (by omega)
   ·rw [if_neg h,decide_eq_false (fun h' => h (he.2 h'))]
    exact Ev.neg (by simp) (Ev.done rfl)
 have go : ∀ (d i : Nat),i + d = l.length → (∀ j,j < i → meterErr l.length (rd_T49 l j) = 0) → Ev (fun k => R_Check.l0 k l i) (if firstErr l.length (l.drop i) ≠ 0 then firstErr l.length (l.drop i) else looseFrom l l.length 0) := by
  intro d
  induction d with
  | zero =>
   intro i hi hall
   refine Ev.step (fun k => by rw [R_Check.l0]) (Ev.neg (by omega) ?_)
   rw [List.drop_of_length_le (by omega)]
   rw [if_neg (by simp [firstErr])]
   have hok : ∀ x ∈ l,MeterOk l.length x := fun x hx => by
    obtain ⟨j,hj,rfl⟩ := List.getElem_of_mem hx
    have := meterErr_zero (hall j (by omega))
    unfold rd_T49 at this
    rw [Int.toNat_natCast,List.getD_eq_getElem?_getD,List.getElem?_eq_getElem hj] at this
    exact this
   exact loose hok l.length 0 (by omega)
  | succ d ih =>
   intro i hi hall
   refine Ev.step (fun k => by rw [R_Check.l0]) (Ev.pos (by omega) (Ev.pos (by omega) ?_))
   rw [zE _ l i (by omega),wrap64_eq (n := (l.length : Int) - 1) (by omega),wrap64_eq (n := (i : Int) + 1) (by omega)]
   refine Ev.bind (zF _ _ _ _ _ _ _) ?_
   obtain ⟨x,hx⟩ : ∃ x,x = rd_T49 l i := ⟨_,rfl⟩
   rw [← hx]
   have hnext : meterErr l.length x = 0 → Ev (fun k => R_Check.l0 k l ((i : Int) + 1)) (if firstErr l.length (l.drop (i + 1)) ≠ 0 then firstErr l.length (l.drop (i + 1)) else looseFrom l l.length 0) := fun h0 => ih (i + 1) (by omega) (fun j hj => by
    by_cases e : j = i
    ·subst e;rw [← hx];exact h0
    ·exact hall j (by omega))
   by_cases h1 : makingErr x.f0.f0 x.f0.f1 x.f1.f0 x.f1.f1 = 0
   ·refine Ev.pos h1 ?_
    have e : meterErr l.length x = if x.f2 < 1 ∨ x.f2 > 1000000 ∨ x.f4 < 0 ∨ x.f4 > 1000000000 ∨ x.f3 < -1 ∨ x.f3 > (l.length : Int) - 1 then 2 else 0 := by unfold meterErr;rw [if_neg (by omega)]
    by_cases h2 : 1 ≤ x.f2 ∧ x.f2 ≤ 1000000
    ·refine Ev.call (zb h2) (Ev.neg (by decide) ?_)
     by_cases h3 : 0 ≤ x.f4 ∧ x.f4 ≤ 1000000000
     ·refine Ev.call (zb h3) (Ev.neg (by decide) ?_)
      by_cases h4 : -1 ≤ x.f3 ∧ x.f3 ≤ (l.length : Int) - 1
      ·refine Ev.call (zb h4) (Ev.neg (by decide) ?_)
       rw [if_neg (by omega)] at e
       have h5 : ¬ (if meterErr l.length x ≠ 0 then meterErr l.length x else firstErr l.length (l.drop (i + 1))) ≠ (if meterErr l.length x ≠ 0 then meterErr l.length x else firstErr l.length (l.drop (i + 1))) := by simp
       simp only [e,ne_eq,not_true_eq_false,if_false]
       exact hnext e
      ·rw [if_pos (by omega)] at e
       refine Ev.call (zc (by omega)) (Ev.pos rfl (Ev.done ?_))
       simp [e]
     ·rw [if_pos (by omega)] at e
      refine Ev.call (zc (by omega)) (Ev.pos rfl (Ev.done ?_))
      simp [e]
    ·rw [if_pos (by omega)] at e
     refine Ev.call (zc (by omega)) (Ev.pos rfl (Ev.done ?_))
     simp [e]
   ·refine Ev.neg h1 (Ev.done ?_)
    have e : meterErr l.length x = makingErr x.f0.f0 x.f0.f1 x.f1.f0 x.f1.f1 := by unfold meterErr;rw [if_pos h1]
    rw [e]
    simp [h1]
 have := go l.length 0 (by omega) (fun j hj => by omega)
 rw [List.drop_zero] at this
 exact this
def hiK (l : List S49) (k x : Int) : Int := hiEnd (rd_T49 l k).f0.f0 (rd_T49 l k).f0.f1 (rd_T49 l k).f1.f1 x
def loK (l : List S49) (k x : Int) : Int := loEnd (rd_T49 l k).f0.f0 (rd_T49 l k).f0.f1 (rd_T49 l k).f1.f0 x
def zV (l : List S49) : List Int → Int → Int → Prop
 | [],x,y => y = x
 | k :: c,x,y => ∃ z,zV l c x z ∧ loK l k z ≤ y ∧ y ≤ hiK l k z
theorem zf {n d : Int} (hd : 0 < d) (h : -9223372036854775808 ≤ n ∧ n ≤ 9223372036854775807) : R_Down.f n d = some (n / d) := by
 have e := tdown (n := n) hd
 have b := tdiv_bound hd h
 unfold R_Down.f
 rw [if_neg (by omega)]
 by_cases c : Int.tmod n d < 0
 ·rw [if_pos c] at e ⊢
  rw [wrap64_eq (n := Int.tdiv n d) ⟨b.1,b.2.1⟩,wrap64_eq ⟨b.2.2 c,by omega⟩,e]
 ·rw [if_neg c] at e ⊢
  rw [wrap64_eq ⟨b.1,b.2.1⟩,e]
theorem zr {a0 a1 a2 a3 : Int} (a4 a5 a6 : Int) {x : Int} (h : meterOk a0 a1 a2 a3) (x0 : -4398046511104 ≤ x) (x1 : x ≤ 4398046511104) : R_Made.f a0 a1 a2 a3 a4 a5 a6 x = some (loEnd a0 a1 a2 x,hiEnd a0 a1 a3 x) := by
 obtain ⟨g0,g1,g2,o0,o1,o2⟩ := h
 have m0 := mul_within x0 x1 (show 0 ≤ a0 by omega) (show a0 ≤ 2000000 by omega) (by omega)
 have m1 := mul_within x0 x1 (show 0 ≤ a1 by omega) (show a1 ≤ 2000000 by omega) (by omega)
 unfold R_Made.f R_Up.f loEnd hiEnd
 by_cases hx : x < 0
 ·have hle : x * a1 ≤ x * a0 := Int.mul_le_mul_of_nonpos_left (show x ≤ 0 by omega) g1
  rw [if_pos hx,wrap64_eq (n := x * a1) (by omega),wrap64_eq (n := x * a0) (by omega),wrap64_eq (n := -(x * a0)) (by omega),zf (by omega) (by omega),zf (by omega) (by omega)]
  simp only [Option.bind_some]
  rw [wrap64_eq (n := -(-(x * a0) / 1000000)) (by omega),wrap64_eq (n := x * a1 / 1000000 + a2) (by omega),wrap64_eq (by omega),Int.min_eq_right hle,Int.max_eq_left hle]
 ·have hle : x * a0 ≤ x * a1 := Int.mul_le_mul_of_nonneg_left g1 (by omega)
  rw [if_neg hx,wrap64_eq (n := x * a0) (by omega),wrap64_eq (n := x * a1) (by omega),wrap64_eq (n := -(x * a1)) (by omega),zf (by omega) (by omega),zf (by omega) (by omega)]
  simp only [Option.bind_some]
  rw [wrap64_eq (n := -(-(x * a1) / 1000000)) (by omega),wrap64_eq (n := x * a0 / 1000000 + a2) (by omega),wrap64_eq (by omega),Int.min_eq_left hle,Int.max_eq_right hle]
theorem zb1 {a0 a1 a2 a3 x B : Int} (h : meterOk a0 a1 a2 a3) (x0 : -B ≤ x) (x1 : x ≤ B) : -(2 * B + 1000001) ≤ loEnd a0 a1 a2 x ∧ loEnd a0 a1 a2 x ≤ hiEnd a0 a1 a3 x ∧ hiEnd a0 a1 a3 x ≤ 2 * B + 1000001 := by
 obtain ⟨g0,g1,g2,o0,o1,o2⟩ := h
 have m0 := mul_within x0 x1 (show 0 ≤ a0 by omega) (show a0 ≤ 2000000 by omega) (by omega)
 have m1 := mul_within x0 x1 (show 0 ≤ a1 by omega) (show a1 ≤ 2000000 by omega) (by omega)
 unfold loEnd hiEnd
 omega
def zh (B : Int) : Nat → Int
 | 0 => B
 | n + 1 => 2 * zh B n + 1000001
theorem zp {B : Int} (h : 0 ≤ B) : ∀ n k : Nat,n ≤ k → 0 ≤ zh B n ∧ zh B n ≤ zh B k := by
 intro n k hk
 have pos : ∀ n,0 ≤ zh B n := by
  intro n
  induction n with
  | zero => exact h
  | succ n ih => unfold zh;omega
 obtain ⟨d,rfl⟩ := Nat.exists_eq_add_of_le hk
 clear hk
 refine ⟨pos n,?_⟩
 induction d with
 | zero => exact Int.le_refl _
 | succ d ih =>
  have := pos (n + d)
  show zh B n ≤ 2 * zh B (n + d) + 1000001
  omega
theorem zs1 (s : Int) : ∃ b s',D_One.f s 2 = some (b,s') := by
 obtain ⟨v,s',e,_,_⟩ := upto_some s 2 (by omega) (by omega)
 unfold D_One.f
 rw [e]
 exact ⟨_,_,rfl⟩
theorem zh1 {l : List S49} (hb : BenchOk l) {m x : Int} (m0 : 0 ≤ m) (m1 : m < l.length) (hst : 1 ≤ (rd_T49 l m).f2 ∧ (rd_T49 l m).f2 ≤ 1000) (c : List Int) (hcl : c.length ≤ 12) (hc : ∀ k ∈ c,0 ≤ k ∧ k < (l.length : Int)) (st : Int) (st0 : 0 ≤ st) (st1 : st < 3) (B : Int) (B0 : 0 ≤ B) (hB : zh B c.length ≤ 1000000000000) :
  ∀ (j : Nat) (z s : Int),j ≤ c.length → zV l (c.drop j) x z → -(zh B (c.length - j)) ≤ z → z ≤ zh B (c.length - j) →
  ∃ n s' y,Ev (fun k => K_Showing.l0 k l m z c st ((j : Int) - 1) s) (n,s') ∧ zV l c x y ∧ -(zh B c.length) ≤ y ∧ y ≤ zh B c.length ∧ Int.tmod n (rd_T49 l m).f2 = 0 ∧ 2 * (n - y) ≤ (rd_T49 l m).f2 ∧ 2 * (y - n) ≤ (rd_T49 l m).f2 := by
 intro j
 induction j with
 | zero =>
  intro z s _ hz z0 z1
  rw [Nat.sub_zero] at z0 z1
  rw [List.drop_zero] at hz
  obtain ⟨d,hd⟩ : ∃ d,d = (rd_T49 l m).f2 := ⟨_,rfl⟩
  rw [← hd] at hst ⊢
  have dm := Int.mul_ediv_add_emod z d
  have e0 := Int.emod_nonneg z (show d ≠ 0 by omega)
  have e1 := Int.emod_lt_of_pos z (show 0 < d by omega)
  rw [Int.mul_comm] at dm
  obtain ⟨q,hq⟩ : ∃ q,q = z / d * d := ⟨_,rfl⟩
  have tm0 : Int.tmod q d = 0 := by rw [hq];exact Int.mul_tmod_left _ _
  have tm1 : Int.tmod (q + d) d = 0 := by
   rw [hq,show z / d * d + d = (z / d + 1) * d by rw [Int.add_mul,Int.one_mul]]
   exact Int.mul_tmod_left _ _
  have step : ∀ {n s'},Ev (fun k => if (2 * (z - q)) > d then some (q + d,s) else if 2 * (z - q) = d then (D_One.f s 2).bind fun bt => (if bt.1 = true then some (q + d,bt.2) else some (q,bt.2)) else some (q,s)) (n,s') →
    Ev (fun k => K_Showing.l0 k l m z c st (((0 : Nat) : Int) - 1) s) (n,s') := by
   intro n s' h
   refine Ev.step (fun k => by rw [K_Showing.l0]) ?_
   refine Ev.neg (by omega) (Ev.pos m0 (Ev.pos m1 ?_))
   rw [← hd]
   refine Ev.call (zf (by omega) (by omega)) ?_
   rw [← hq,wrap64_eq (n := q) (by omega),wrap64_eq (n := z - q) (by omega),wrap64_eq (n := 2 * (z - q)) (by omega),wrap64_eq (n := q + d) (by omega)]
   exact h
  by_cases h1 : 2 * (z - q) > d
  ·exact ⟨q + d,s,z,step (Ev.pos h1 (Ev.done rfl)),hz,z0,z1,tm1,by omega,by omega⟩
  ·by_cases h2 : 2 * (z - q) = d
   ·obtain ⟨b,s1,e⟩ := zs1 s
    cases b with
    | true => exact ⟨q + d,s1,z,step (Ev.neg h1 (Ev.pos h2 (Ev.call e (Ev.pos rfl (Ev.done rfl))))),hz,z0,z1,tm1,by omega,by omega⟩
    | false => exact ⟨q,s1,z,step (Ev.neg h1 (Ev.pos h2 (Ev.call e (Ev.neg (by simp) (Ev.done rfl))))),hz,z0,z1,tm0,by omega,by omega⟩
   ·exact ⟨q,s,z,step (Ev.neg h1 (Ev.neg h2 (Ev.done rfl))),hz,z0,z1,tm0,by omega,by omega⟩
 | succ j ih =>
  intro z s hj hz z0 z1
  obtain ⟨k,hk⟩ : ∃ k,k = rd c j := ⟨_,rfl⟩
  have hkc : c.drop j = k :: c.drop (j + 1) := by
   rw [List.drop_eq_getElem_cons (by omega),hk]
   unfold rd
   rw [Int.toNat_natCast,List.getD_eq_getElem?_getD,List.getElem?_eq_getElem (by omega),Option.getD_some]
  have hmem : k ∈ c := List.mem_of_mem_drop (by rw [hkc];simp : k ∈ c.drop j)
  obtain ⟨k0,k1⟩ := hc k hmem
  obtain ⟨hm,_⟩ := hb.at k k0 k1
  have bm := zp B0 (c.length - (j + 1)) c.length (by omega)
  have be := zb1 hm z0 z1
  have hbd : zh B (c.length - j) = 2 * zh B (c.length - (j + 1)) + 1000001 := by
   rw [show c.length - j = (c.length - (j + 1)) + 1 by omega];rfl
  have bm2 := zp B0 (c.length - j) c.length (by omega)
  obtain ⟨v,s1,ev,v0,v1⟩ := between_some s (loEnd (rd_T49 l k).f0.f0 (rd_T49 l k).f0.f1 (rd_T49 l k).f1.f0 z) (hiEnd (rd_T49 l k).f0.f0 (rd_T49 l k).f0.f1 (rd_T49 l k).f1.f1 z) be.2.1 (by omega) (by omega)
  obtain ⟨u,hu,u0,u1⟩ : ∃ u,rd [loEnd (rd_T49 l k).f0.f0 (rd_T49 l k).f0.f1 (rd_T49 l k).f1.f0 z,hiEnd (rd_T49 l k).f0.f0 (rd_T49 l k).f0.f1 (rd_T49 l k).f1.f1 z,v] st = u ∧ loEnd (rd_T49 l k).f0.f0 (rd_T49 l k).f0.f1 (rd_T49 l k).f1.f0 z ≤ u ∧ u ≤ hiEnd (rd_T49 l k).f0.f0 (rd_T49 l k).f0.f1 (rd_T49 l k).f1.f1 z := by
   refine ⟨_,rfl,?_⟩
   rcases rd3 (loEnd (rd_T49 l k).f0.f0 (rd_T49 l k).f0.f1 (rd_T49 l k).f1.f0 z) (hiEnd (rd_T49 l k).f0.f0 (rd_T49 l k).f0.f1 (rd_T49 l k).f1.f1 z) v st st0 st1 with h | h | h <;> omega
  obtain ⟨n,s',y,hE,hrest⟩ := ih u s1 (by omega) (by rw [hkc];exact ⟨z,hz,u0,u1⟩) (by omega) (by omega)
  refine ⟨n,s',y,?_,hrest⟩
  refine Ev.step (fun k => by rw [K_Showing.l0]) ?_
  rw [show (((j + 1 : Nat) : Int) - 1) = (j : Int) by omega,← hk]
  refine Ev.pos (by omega) (Ev.pos (by omega) (Ev.pos (by omega) (Ev.pos k0 (Ev.pos k1 ?_))))
  refine Ev.call (zr _ _ _ hm (by omega) (by omega)) ?_
  have ein : D_In.f s (loEnd (rd_T49 l k).f0.f0 (rd_T49 l k).f0.f1 (rd_T49 l k).f1.f0 z) (hiEnd (rd_T49 l k).f0.f0 (rd_T49 l k).f0.f1 (rd_T49 l k).f1.f1 z) = some (v,s1) := by
   unfold D_In.f
   rw [mx_eq,Int.max_eq_right be.2.1,ev]
   rfl
  refine Ev.call ein (Ev.call rfl ?_)
  refine Ev.pos st0 (Ev.pos (by simp;omega) ?_)
  rw [hu,wrap64_eq (n := (j : Int) - 1) (by omega)]
  exact hE
theorem zH {l : List S49} (hb : BenchOk l) (hd : ze1 l) (m : Int) (m0 : 0 ≤ m) (m1 : m < l.length) : Ev (fun k => R_Chain.f k l m) (chainL l m) := by
 unfold R_Chain.f
 have h12 := hb.1
 have h := zg l (by omega)
 rw [zl1 hb hd] at h
 refine Ev.bind h (Ev.pos rfl ?_)
 rw [wrap64_eq (by omega)]
 exact Ev.call (zb ⟨m0,by omega⟩) (Ev.neg (by decide) (Ev.bind (zO hd h12 m m1 (by omega)) (Ev.done rfl)))
theorem zd1 {l : List S49} (hb : BenchOk l) {m : Int} (m1 : m < l.length) : ∀ k ∈ chainL l m,0 ≤ k ∧ k < (l.length : Int) := chainGo_mem hb _ _ m1
theorem zA {l : List S49} (hM : MadeBench l) (h5 : l.length ≤ 5) (s m x : Int) (m0 : 0 ≤ m) (m1 : m < l.length) (B : Int) (B0 : 0 ≤ B) (B1 : B ≤ 1000000000) (x0 : -B ≤ x) (x1 : x ≤ B) :
  ∃ n s' y,Ev (fun k => K_Showing.f k s l m x) (n,s') ∧ zV l (chainL l m) x y ∧ -(32 * B + 31000031) ≤ y ∧ y ≤ 32 * B + 31000031 ∧ Int.tmod n (rd_T49 l m).f2 = 0 ∧ 2 * (n - y) ≤ (rd_T49 l m).f2 ∧ 2 * (y - n) ≤ (rd_T49 l m).f2 := by
 have hb := hM.ok (by omega)
 obtain ⟨_,_,_,_,_,_,a7,a8,_⟩ := hM.at m m0 m1
 obtain ⟨st,s1,e,st0,st1⟩ := upto_some s 3 (by omega) (by omega)
 have hlen : (chainL l m).length ≤ 5 := Nat.le_trans (chainGo_length l l.length m) h5
 have hbd := zp B0 (chainL l m).length 5 hlen
 have hb5 : zh B 5 = 32 * B + 31000031 := by simp only [zh];omega
 rw [hb5] at hbd
 obtain ⟨n,s',y,hE,hS,y0,y1,hr⟩ := zh1 hb m0 m1 ⟨a7,a8⟩ (chainL l m) (by omega) (zd1 hb m1) st st0 st1 B B0 (by omega) (chainL l m).length x s1 (Nat.le_refl _) (by rw [List.drop_length];rfl) (by rw [Nat.sub_self];exact x0) (by rw [Nat.sub_self];exact x1)
 refine ⟨n,s',y,?_,hS,by omega,by omega,hr⟩
 unfold K_Showing.f
 refine Ev.bind (zH hb hM.down m m0 m1) (Ev.call e ?_)
 rw [wrap64_eq (by omega)]
 exact hE
theorem zt1 (a m : Int) (h0 : 1 ≤ m) (h1 : m ≤ 4000000000000) : ∃ t,K_Mod.f a m = some t ∧ 0 ≤ t ∧ t < m := by
 unfold K_Mod.f
 have u := Int.tmod_lt_of_pos a (show 0 < m by omega)
 have l := Int.tmod_lt_of_pos (-a) (show 0 < m by omega)
 rw [Int.neg_tmod] at l
 rw [if_neg (by omega),if_neg (by omega)]
 by_cases c : Int.tmod a m < 0
 ·rw [if_pos c,wrap64_eq (by omega)]
  exact ⟨_,rfl,by omega,by omega⟩
 ·rw [if_neg c]
  exact ⟨_,rfl,by omega,u⟩
theorem zk1 {l : List Int} (h : l.length ≤ maxLen) : K_NewDice.f l = some (diceOf l) := by
 unfold maxLen at h
 unfold K_NewDice.f
 rw [if_pos (by omega)]
theorem zq1 {n d : Int} (hd : 0 < d) (h : -9223372036854775807 ≤ n ∧ n ≤ 9223372036854775807) : R_Up.f n d = some (-(-n / d)) := by
 have b := tdiv_bound (n := -n) hd (by omega)
 have e := tdown (n := -n) hd
 unfold R_Up.f
 rw [wrap64_eq (by omega),zf hd (by omega)]
 simp only [Option.bind_some]
 have b2 : -9223372036854775807 ≤ -n / d ∧ -n / d ≤ 9223372036854775807 := by
  constructor
  ·rw [Int.le_ediv_iff_mul_le hd]
   have := Int.mul_le_mul_of_nonneg_left (show 1 ≤ d by omega) (show (0 : Int) ≤ 9223372036854775807 by omega)
   omega
  ·rw [← Int.lt_add_one_iff,Int.ediv_lt_iff_lt_mul hd]
   have := Int.mul_le_mul_of_nonneg_left (show 1 ≤ d by omega) (show (0 : Int) ≤ 9223372036854775808 by omega)
   omega
 rw [wrap64_eq (by omega)]
theorem zu1 {a0 a1 a2 a3 : Int} (a4 a5 a6 : Int) (h : meterOk a0 a1 a2 a3) (n r : Int) (hr : r = backLo a0 a1 a3 n) : ∀ (d : Nat) (lo hi : Int),(hi - lo).toNat ≤ d → -4398046511104 ≤ lo → lo ≤ r → r ≤ hi → hi ≤ 4398046511104 →
  Ev (fun k => R_least.l0 k n lo hi a0 a1 a2 a3 a4 a5 a6) r := by
 intro d
 induction d with
 | zero =>
  intro lo hi hd h0 h1 h2 h3
  refine Ev.step (fun k => by rw [R_least.l0]) (Ev.neg (by omega) (Ev.done ?_))
  rw [show lo = r by omega]
 | succ d ih =>
  intro lo hi hd h0 h1 h2 h3
  refine Ev.step (fun k => by rw [R_least.l0]) ?_
  by_cases hlt : lo < hi
  ·refine Ev.pos hlt ?_
   rw [wrap64_eq (n := lo + hi) (by omega)]
   refine Ev.call (zf (by omega) (by omega)) (Ev.call (zr a4 a5 a6 h (by omega) (by omega)) ?_)
   have hi' := backLo_iff h n ((lo + hi) / 2)
   rw [← hr] at hi'
   by_cases hc : n ≤ hiEnd a0 a1 a3 ((lo + hi) / 2)
   ·exact Ev.pos hc (ih _ _ (by omega) h0 h1 (hi'.1 hc) (by omega))
   ·refine Ev.neg hc ?_
    have : ¬ r ≤ (lo + hi) / 2 := fun h => hc (hi'.2 h)
    rw [wrap64_eq (n := (lo + hi) / 2 + 1) (by omega)]
    exact ih _ _ (by omega) (by omega) (by omega) h2 h3
  ·refine Ev.neg hlt (Ev.done ?_)
   rw [show lo = r by omega]
theorem zx1 {a0 a1 a2 a3 : Int} (a4 a5 a6 : Int) (h : meterOk a0 a1 a2 a3) (n r : Int) (hr : r = backHi a0 a1 a2 n) : ∀ (d : Nat) (lo hi : Int),(hi - lo).toNat ≤ d → -4398046511104 ≤ lo → lo ≤ r → r ≤ hi → hi ≤ 4398046511104 →
  Ev (fun k => R_most.l0 k n lo hi a0 a1 a2 a3 a4 a5 a6) r := by
 intro d
 induction d with
 | zero =>
  intro lo hi hd h0 h1 h2 h3
  refine Ev.step (fun k => by rw [R_most.l0]) (Ev.neg (by omega) (Ev.done ?_))
  rw [show lo = r by omega]
 | succ d ih =>
  intro lo hi hd h0 h1 h2 h3
  refine Ev.step (fun k => by rw [R_most.l0]) ?_
  by_cases hlt : lo < hi
  ·refine Ev.pos hlt ?_
   rw [wrap64_eq (n := lo + hi) (by omega)]
   obtain ⟨x,hx⟩ : ∃ x,x = -(-(lo + hi) / 2) := ⟨_,rfl⟩
   refine Ev.call (zq1 (by omega) (by omega)) ?_
   rw [← hx]
   refine Ev.call (zr a4 a5 a6 h (by omega) (by omega)) ?_
   have hi' := backHi_iff h n x
   rw [← hr] at hi'
   by_cases hc : loEnd a0 a1 a2 x ≤ n
   ·have : x ≤ r := by
     by_cases hb : x ≤ r
     ·exact hb
     ·have := hi'.2 (by omega);omega
    exact Ev.pos hc (ih _ _ (by omega) (by omega) this h2 h3)
   ·have : r + 1 ≤ x := hi'.1 (by omega)
    refine Ev.neg hc ?_
    rw [wrap64_eq (n := x - 1) (by omega)]
    exact ih _ _ (by omega) h0 h1 (by omega) (by omega)
  ·refine Ev.neg hlt (Ev.done ?_)
   rw [show lo = r by omega]
theorem zP {l : List S49} {m n : Int} (h : SourceOk l m n) : ∀ (rest pre : List Int),pre ++ rest = chainL l m → Ev (fun k => R_before.l0 k l (chainL l m) (srcFold l pre (srcStart l m n)).2.2 pre.length (srcFold l pre (srcStart l m n)).1 (srcFold l pre (srcStart l m n)).2.1) (sourceP l m n) := by
 intro rest
 induction rest with
 | nil =>
  intro pre hp
  rw [List.append_nil] at hp
  refine Ev.step (fun k => by rw [R_before.l0]) (Ev.neg (by rw [← hp];omega) ?_)
  unfold sourceP
  rw [← hp]
  generalize srcFold l pre (srcStart l m n) = s
  obtain ⟨a,b,c⟩ := s
  simp only [mx_eq,mn_eq]
  cases c with
  | true => exact Ev.pos rfl (Ev.done (by simp [srcEnd]))
  | false => exact Ev.neg (by decide) (Ev.done (by simp [srcEnd]))
 | cons k rest ih =>
  intro pre hp
  obtain ⟨⟨k0,k1⟩,b0,b1,b2,b3⟩ := src_ahead h (pre := pre) (x := k) ⟨rest,by rw [← hp,List.append_assoc];rfl⟩
  obtain ⟨hm,_⟩ := h.1.at k k0 k1
  have hrd : rd (chainL l m) (pre.length : Int) = k := by
   unfold rd
   rw [Int.toNat_natCast,← hp,List.getD_eq_getElem?_getD,List.getElem?_append_right (Nat.le_refl _),Nat.sub_self]
   rfl
  have hlen : pre.length + (rest.length + 1) = (chainL l m).length := by rw [← hp];simp
  have h12 : (chainL l m).length ≤ 12 := Nat.le_trans (chainGo_length l l.length m) h.1.1
  refine Ev.step (fun k => by rw [R_before.l0]) ?_
  rw [hrd]
  refine Ev.pos (by omega) (Ev.pos (by omega) (Ev.pos k0 (Ev.pos k1 ?_)))
  have lb := backLo_bound (M := 2100000000000) hm b0 b1
  have hb := backHi_bound (M := 2100000000000) hm b2 b3
  refine Ev.bind (zu1 _ _ _ hm _ _ rfl _ (-4398046511104) 4398046511104 (Nat.le_refl _) (by omega) (by omega) (by omega) (by omega)) ?_
  refine Ev.bind (zx1 _ _ _ hm _ _ rfl _ (-4398046511104) 4398046511104 (Nat.le_refl _) (by omega) (by omega) (by omega) (by omega)) ?_
  have next := ih (pre ++ [k]) (by rw [List.append_assoc];exact hp)
  rw [srcFold_snoc,show (((pre ++ [k]).length : Nat) : Int) = (pre.length : Int) + 1 by simp] at next
  rw [wrap64_eq (n := (pre.length : Int) + 1) (by omega)]
  by_cases hs : (srcFold l pre (srcStart l m n)).2.2 = true
  ·refine Ev.pos hs ?_
   have e : (srcStep l (srcFold l pre (srcStart l m n)) k).2.2 = decide ((srcStep l (srcFold l pre (srcStart l m n)) k).1 ≤ (srcStep l (srcFold l pre (srcStart l m n)) k).2.1) := by
    show ((srcFold l pre (srcStart l m n)).2.2 && _) = _
    rw [hs,Bool.true_and]
    rfl
   rw [e] at next
   exact next
  ·refine Ev.neg hs ?_
   have e : (srcStep l (srcFold l pre (srcStart l m n)) k).2.2 = false := by
    show ((srcFold l pre (srcStart l m n)).2.2 && _) = _
    rw [Bool.eq_false_iff.2 hs,Bool.false_and]
   rw [e] at next
   exact next
theorem zK (l : List S49) : ∀ (d : Nat) (m : Int),za l d m < 0 → chainGo l (d + 1) m = chainGo l d m := by
 intro d
 induction d with
 | zero => intro m h;rw [zd l _ m h];rfl
 | succ d ih =>
  intro m h
  by_cases hm : m < 0
  ·rw [zd l _ m hm,zd l _ m hm]
  ·rw [za,if_neg hm] at h
   have e1 : chainGo l (d + 1 + 1) m = m :: chainGo l (d + 1) (rd_T49 l m).f3 := by rw [chainGo,if_neg hm]
   have e2 : chainGo l (d + 1) m = m :: chainGo l d (rd_T49 l m).f3 := by rw [chainGo,if_neg hm]
   rw [e1,e2,ih _ h]
theorem zD {l : List S49} (hb : ∀ m : Int,0 ≤ m → m < l.length → -1 ≤ (rd_T49 l m).f3 ∧ (rd_T49 l m).f3 < l.length) (h20 : l.length ≤ 20) : ∀ (d : Nat) (m : Int) (pre : List Int),m < l.length → pre.length + d = l.length + 1 →
  Ev (fun k => R_chain.l0 k l m pre) (pre ++ chainGo l d m,decide (za l d m < 0)) := by
 intro d
 induction d with
 | zero =>
  intro m pre h0 h1
  by_cases hm : m < 0
  ·refine Ev.step (fun k => by rw [R_chain.l0]) ?_
   exact Ev.neg (by omega) (Ev.done (by rw [za,chainGo,List.append_nil]))
  ·refine Ev.step (fun k => by rw [R_chain.l0]) ?_
   exact Ev.pos (by omega) (Ev.neg (by omega) (Ev.done (by rw [za,chainGo,List.append_nil])))
 | succ d ih =>
  intro m pre h0 h1
  by_cases hm : m < 0
  ·refine Ev.step (fun k => by rw [R_chain.l0]) ?_
   exact Ev.neg (by omega) (Ev.done (by rw [za,if_pos hm,chainGo,if_pos hm,List.append_nil]))
  ·obtain ⟨b0,b1⟩ := hb m (by omega) h0
   have hc := ih (rd_T49 l m).f3 (pre ++ [m]) b1 (by simp;omega)
   refine Ev.step (fun k => by rw [R_chain.l0]) ?_
   rw [List.append_assoc] at hc
   rw [za,if_neg hm,chainGo,if_neg hm]
   exact Ev.pos (by omega) (Ev.pos (by omega) (Ev.pos (by omega) (Ev.pos (by omega) (Ev.pos h0 hc))))
theorem zk {l : List S49} (h : checkP l = 0) : BenchOk l ∧ ∀ i : Nat,i < l.length → endsP l i := by
 unfold checkP at h
 by_cases h12 : 12 < l.length
 ·rw [if_pos h12] at h;omega
 rw [if_neg h12] at h
 by_cases hf : firstErr l.length l = 0
 ·rw [if_neg (by omega)] at h
  refine ⟨⟨by omega,firstErr_zero hf⟩,?_⟩
  have go : ∀ d i : Nat,i + d = l.length → looseFrom l d i = 0 → ∀ j,i ≤ j → j < l.length → endsP l j := by
   intro d
   induction d with
   | zero => intro i hi _ j h1 h2;omega
   | succ d ih =>
    intro i hi hl j h1 h2
    unfold looseFrom at hl
    by_cases he : endsP l i
    ·rw [if_pos he] at hl
     by_cases hij : j = i
     ·subst hij;exact he
     ·exact ih (i + 1) (by omega) hl j (by omega) h2
    ·rw [if_neg he] at hl;omega
  exact fun i hi => go l.length 0 (by omega) h i (by omega) hi
 ·rw [if_pos hf] at h;exact absurd h hf
theorem zS {l : List S49} (hb : BenchOk l) : ∀ m : Int,0 ≤ m → m < l.length → -1 ≤ (rd_T49 l m).f3 ∧ (rd_T49 l m).f3 < l.length := fun m m0 m1 => by
 obtain ⟨_,_,_,_,_,a11,a12⟩ := hb.at m m0 m1
 exact ⟨a11,a12⟩
theorem zz {l : List S49} (h : checkP l = 0) {m : Int} (m0 : 0 ≤ m) (m1 : m < l.length) : Ev (fun k => R_chain.f k l m) (chainL l m,true) := by
 obtain ⟨hb,he⟩ := zk h
 have h12 := hb.1
 have := zD (zS hb) (by omega) (l.length + 1) m [] m1 (by simp)
 have hm := he m.toNat (by omega)
 rw [Int.toNat_of_nonneg m0] at hm
 have ha := (zx (zS hb) m m0 m1).1 hm
 have ha' := zo (fun m a b => (zS hb m a b).2) m m1 _ ha
 rw [List.nil_append,decide_eq_true ha,zK l _ m ha'] at this
 exact this
theorem zI {l : List S49} (h : checkP l = 0) {m n : Int} (m0 : 0 ≤ m) (m1 : m < l.length) (n0 : -1000000000 ≤ n) (n1 : n ≤ 1000000000) : Ev (fun k => R_before.f k l m n) (sourceP l m n) := by
 obtain ⟨hb,he⟩ := zk h
 obtain ⟨_,a7,a8,_⟩ := hb.at m m0 m1
 have hl := zP ⟨hb,m0,m1,n0,n1⟩ (chainL l m) [] rfl
 unfold R_before.f
 refine Ev.pos m0 (Ev.pos m1 (Ev.bind (zz h m0 m1) ?_))
 have e : Int.tdiv (rd_T49 l m).f2 2 = (rd_T49 l m).f2 / 2 := Int.tdiv_eq_ediv_of_nonneg (by omega)
 rw [e,wrap64_eq (n := (rd_T49 l m).f2 / 2) (by omega),wrap64_eq (n := n - (rd_T49 l m).f2 / 2) (by omega),wrap64_eq (n := n + (rd_T49 l m).f2 / 2) (by omega)]
 exact hl
def zt (l : List S49) (m n : Int) : Int × Int × Int :=
 if checkP l ≠ 0 then (0,0,checkP l) else if m < 0 ∨ m > (l.length : Int) - 1 then (0,0,7) else if n < -1000000000 ∨ n > 1000000000 then (0,0,2) else
 if Int.tmod n (rd_T49 l m).f2 ≠ 0 then (0,0,3) else if (sourceP l m n).2.2 = true then ((sourceP l m n).1,(sourceP l m n).2.1,0) else (0,0,12)
theorem zT (l : List S49) (h20 : l.length ≤ 20) (m n : Int) : gauge_True.f l m n = some (zt l m n) := by
 unfold zt
 by_cases hc : checkP l = 0
 ·obtain ⟨hb,he⟩ := zk hc
  rw [if_neg (by omega)]
  unfold gauge_True.f gauge_Check.f
  simp only [Option.bind_some]
  rw [if_pos hc,wrap64_eq (by omega)]
  by_cases hm : m < 0 ∨ m > (l.length : Int) - 1
  ·rw [if_pos hm,outside_true hm]
   rfl
  ·rw [if_neg hm,outside_false (by omega)]
   simp only [Option.bind_some]
   rw [if_neg (by decide)]
   by_cases hn : n < -1000000000 ∨ n > 1000000000
   ·rw [if_pos hn,outside_true hn]
    rfl
   ·rw [if_neg hn,outside_false (by omega)]
    simp only [Option.bind_some]
    obtain ⟨_,a7,a8,_⟩ := hb.at m (by omega) (by omega)
    rw [if_neg (by decide),if_pos (by omega),if_pos (by omega),if_neg (by omega)]
    by_cases hs : Int.tmod n (rd_T49 l m).f2 = 0
    ·rw [if_pos hs,if_neg (by omega)]
     unfold gauge_source.f
     rw [if_pos ⟨hb,by omega,by omega,by omega,by omega⟩]
     simp only [Option.bind_some]
     split <;> rfl
    ·rw [if_neg hs,if_pos hs]
 ·rw [if_pos hc]
  unfold gauge_True.f gauge_Check.f
  simp only [Option.bind_some]
  rw [if_neg hc]
theorem zB (l : List S49) (h20 : l.length ≤ 20) (m n : Int) : Ev (fun k => R_True.f k l m n) (zt l m n) := by
 unfold R_True.f zt
 refine Ev.bind (zg l h20) ?_
 by_cases hc : checkP l = 0
 ·obtain ⟨hb,he⟩ := zk hc
  rw [if_neg (show ¬ checkP l ≠ 0 by omega)]
  refine Ev.pos hc ?_
  rw [wrap64_eq (by omega)]
  by_cases hm : m < 0 ∨ m > (l.length : Int) - 1
  ·rw [if_pos hm]
   exact Ev.call (zc hm) (Ev.pos rfl (Ev.done rfl))
  ·rw [if_neg hm]
   refine Ev.call (zb (by omega)) (Ev.neg (by decide) ?_)
   by_cases hn : n < -1000000000 ∨ n > 1000000000
   ·rw [if_pos hn]
    exact Ev.call (zc hn) (Ev.pos rfl (Ev.done rfl))
   ·rw [if_neg hn]
    obtain ⟨_,a7,a8,_⟩ := hb.at m (by omega) (by omega)
    refine Ev.call (zb (by omega)) (Ev.neg (by decide) (Ev.pos (by omega) (Ev.pos (by omega) (Ev.neg (by omega) ?_))))
    by_cases hs : Int.tmod n (rd_T49 l m).f2 = 0
    ·rw [if_neg (show ¬ Int.tmod n (rd_T49 l m).f2 ≠ 0 by omega)]
     refine Ev.pos hs (Ev.bind (zI hc (by omega) (by omega) (by omega) (by omega)) ?_)
     by_cases h2 : (sourceP l m n).2.2 = true
     ·exact Ev.pos h2 (Ev.done (by rw [if_pos h2]))
     ·exact Ev.neg h2 (Ev.done (by rw [if_neg h2]))
    ·rw [if_pos hs]
     exact Ev.neg hs (Ev.done rfl)
 ·rw [if_pos (show checkP l ≠ 0 from hc)]
  exact Ev.neg hc (Ev.done rfl)
def zi (l : List S49) : List S32 → Int → Int → Int × Int × Int
 | [],a,b => if a > b then (0,0,12) else (a,b,0)
 | x :: xs,a,b => if (zt l x.f0 x.f1).2.2 = 0 then zi l xs (mx a (zt l x.f0 x.f1).1) (mn b (zt l x.f0 x.f1).2.1) else (0,0,(zt l x.f0 x.f1).2.2)
def ze (l : List S49) (xs : List S32) : Int × Int × Int := if checkP l ≠ 0 then (0,0,checkP l) else if xs.length = 0 then (0,0,6) else if 10 < xs.length then (0,0,8) else zi l xs (-1000000000) 1000000000
theorem zJ (xs : List S32) (i : Nat) (h : i < xs.length) : xs.drop i = rd_T32 xs i :: xs.drop (i + 1) := by
 rw [List.drop_eq_getElem_cons h]
 unfold rd_T32
 rw [Int.toNat_natCast,List.getD_eq_getElem?_getD,List.getElem?_eq_getElem h,Option.getD_some]
theorem zX (l : List S49) (h20 : l.length ≤ 20) (xs : List S32) (h10 : xs.length ≤ 10) : ∀ (d i : Nat) (a b : Int),i + d = xs.length →
  Ev (fun k => gauge_Together.l0 k l xs (xs.length : Int) i a b) (zi l (xs.drop i) a b) ∧ Ev (fun k => R_Together.l0 k l xs i a b) (zi l (xs.drop i) a b) := by
 intro d
 induction d with
 | zero =>
  intro i a b hi
  rw [List.drop_of_length_le (by omega),zi]
  by_cases h : a > b
  ·rw [if_pos h]
   exact ⟨Ev.step (fun k => by rw [gauge_Together.l0]) (Ev.neg (by omega) (Ev.pos h (Ev.done rfl))),Ev.step (fun k => by rw [R_Together.l0]) (Ev.neg (by omega) (Ev.pos h (Ev.done rfl)))⟩
  ·rw [if_neg h]
   exact ⟨Ev.step (fun k => by rw [gauge_Together.l0]) (Ev.neg (by omega) (Ev.neg h (Ev.done rfl))),Ev.step (fun k => by rw [R_Together.l0]) (Ev.neg (by omega) (Ev.neg h (Ev.done rfl)))⟩
 | succ d ih =>
  intro i a b hi
  rw [zJ xs i (by omega),zi]
  have w : wrap64 ((i : Int) + 1) = ((i + 1 : Nat) : Int) := by rw [wrap64_eq (by omega)];rfl
  by_cases h : (zt l (rd_T32 xs i).f0 (rd_T32 xs i).f1).2.2 = 0
  ·rw [if_pos h]
   obtain ⟨h1,h2⟩ := ih (i + 1) (mx a (zt l (rd_T32 xs i).f0 (rd_T32 xs i).f1).1) (mn b (zt l (rd_T32 xs i).f0 (rd_T32 xs i).f1).2.1) (by omega)
   refine ⟨Ev.step (fun k => by rw [gauge_Together.l0]) (Ev.pos (by omega) (Ev.pos (by omega) (Ev.pos (by omega) (Ev.call (zT l h20 _ _) (Ev.pos h ?_))))),Ev.step (fun k => by rw [R_Together.l0]) (Ev.pos (by omega) (Ev.pos (by omega) (Ev.bind (zB l h20 _ _) (Ev.pos h ?_))))⟩
   ·rw [w];exact h1
   ·rw [w];exact h2
  ·rw [if_neg h]
   exact ⟨Ev.step (fun k => by rw [gauge_Together.l0]) (Ev.pos (by omega) (Ev.pos (by omega) (Ev.pos (by omega) (Ev.call (zT l h20 _ _) (Ev.neg h (Ev.done rfl)))))),Ev.step (fun k => by rw [R_Together.l0]) (Ev.pos (by omega) (Ev.pos (by omega) (Ev.bind (zB l h20 _ _) (Ev.neg h (Ev.done rfl)))))⟩
theorem zM (l : List S49) (h20 : l.length ≤ 20) (xs : List S32) (hx : xs.length ≤ 1000000) : Ev (fun k => gauge_Together.f k l xs) (ze l xs) ∧ Ev (fun k => R_Together.f k l xs) (ze l xs) := by
 unfold ze gauge_Together.f R_Together.f
 by_cases hc : checkP l = 0
 ·rw [if_neg (show ¬ checkP l ≠ 0 by omega)]
  have start : ∀ {r},Ev (fun k => if (xs.length : Int) = 0 then some (0,0,6) else if (xs.length : Int) > 10 then some (0,0,8) else gauge_Together.l0 k l xs (xs.length : Int) 0 (-1000000000) 1000000000) r → Ev (fun k => if (xs.length : Int) = 0 then some (0,0,6) else if (xs.length : Int) > 10 then some (0,0,8) else R_Together.l0 k l xs 0 (-1000000000) 1000000000) r →
    Ev (fun k => (gauge_Check.f l).bind fun t => if t = 0 then (if (xs.length : Int) = 0 then some (0,0,6) else if (xs.length : Int) > 10 then some (0,0,8) else gauge_Together.l0 k l xs (xs.length : Int) 0 (-1000000000) 1000000000) else some (0,0,t)) r ∧
    Ev (fun k => (R_Check.f k l).bind fun t => if t = 0 then (if (xs.length : Int) = 0 then some (0,0,6) else if (xs.length : Int) > 10 then some (0,0,8) else R_Together.l0 k l xs 0 (-1000000000) 1000000000) else some (0,0,t)) r :=
   fun h1 h2 => ⟨Ev.call rfl (Ev.pos hc h1),Ev.bind (zg l h20) (Ev.pos hc h2)⟩
  refine start ?_ ?_
  all_goals
   by_cases h0 : xs.length = 0
   ·rw [if_pos h0];exact Ev.pos (by omega) (Ev.done rfl)
   ·rw [if_neg h0]
    refine Ev.neg (by omega) ?_
    by_cases h10 : 10 < xs.length
    ·rw [if_pos h10];exact Ev.pos (by omega) (Ev.done rfl)
    ·rw [if_neg h10]
     refine Ev.neg (by omega) ?_
     have h := zX l h20 xs (by omega) xs.length 0 (-1000000000) 1000000000 (by omega)
     rw [List.drop_zero] at h
     first | exact h.1 | exact h.2
 ·rw [if_pos (show checkP l ≠ 0 from hc)]
  exact ⟨Ev.call rfl (Ev.neg hc (Ev.done rfl)),Ev.bind (zg l h20) (Ev.neg hc (Ev.done rfl))⟩
theorem zp1 {l : List S49} (hM : MadeBench l) (h1 : 1 ≤ l.length) (h5 : l.length ≤ 5) (s v : Int) (v0 : -100000000 ≤ v) (v1 : v ≤ 100000000) (most : Int) (m0 : 0 ≤ most) (m1 : most ≤ 100) :
  ∃ xs s',Ev (fun k => L_shown.f k s l v most) (xs,s') ∧ (xs.length : Int) ≤ most := by
 have go : ∀ (d : Nat) (pre : List S32) (s : Int),pre.length + d ≤ 100 → ∃ xs s',Ev (fun k => L_shown.l0 k l v pre (d : Int) s) (xs,s') ∧ xs.length = pre.length + d := by
  intro d
  induction d with
  | zero =>
   intro pre s _
   exact ⟨pre,s,Ev.step (fun k => by rw [L_shown.l0]) (Ev.neg (by omega) (Ev.done rfl)),rfl⟩
  | succ d ih =>
   intro pre s hd
   obtain ⟨m,s1,e1,m0,m1⟩ := upto_some s (l.length : Int) (by omega) (by omega)
   obtain ⟨b,s2,e2⟩ : ∃ b s',D_One.f s1 9 = some (b,s') := by
    obtain ⟨v,s',e,_,_⟩ := upto_some s1 9 (by omega) (by omega)
    unfold D_One.f
    rw [e]
    exact ⟨_,_,rfl⟩
   have w : wrap64 (((d + 1 : Nat) : Int) - 1) = (d : Int) := by rw [wrap64_eq (by omega)];omega
   cases b with
   | true =>
    obtain ⟨u,s3,e3,u0,u1⟩ := between_some s2 (-50) 50 (by omega) (by omega) (by omega)
    obtain ⟨n,s4,y,hE,_⟩ := zA hM h5 s3 m (v + u) m0 m1 100000050 (by omega) (by omega) (by omega) (by omega)
    obtain ⟨xs,s',hX,hl⟩ := ih (pre ++ [⟨m,n⟩]) s4 (by simp;omega)
    refine ⟨xs,s',Ev.step (fun k => by rw [L_shown.l0]) (Ev.pos (by omega) (Ev.call e1 (Ev.call e2 (Ev.pos rfl (Ev.call e3 ?_))))),by rw [hl];simp;omega⟩
    rw [wrap64_eq (n := v + u) (by omega)]
    refine Ev.bind hE (Ev.pos (by omega) ?_)
    rw [w]
    exact hX
   | false =>
    obtain ⟨n,s4,y,hE,_⟩ := zA hM h5 s2 m v m0 m1 100000050 (by omega) (by omega) (by omega) (by omega)
    obtain ⟨xs,s',hX,hl⟩ := ih (pre ++ [⟨m,n⟩]) s4 (by simp;omega)
    refine ⟨xs,s',Ev.step (fun k => by rw [L_shown.l0]) (Ev.pos (by omega) (Ev.call e1 (Ev.call e2 ?_))),by rw [hl];simp;omega⟩
    refine Ev.neg Bool.false_ne_true (Ev.bind hE (Ev.pos (by omega) ?_))
    rw [w]
    exact hX
 obtain ⟨t,s1,e,t0,t1⟩ := upto_some s (most + 1) (by omega) (by omega)
 obtain ⟨xs,s',hX,hl⟩ := go t.toNat [] s1 (by simp;omega)
 refine ⟨xs,s',?_,by rw [hl];simp;omega⟩
 unfold L_shown.f
 rw [wrap64_eq (by omega)]
 rw [Int.toNat_of_nonneg t0] at hX
 exact Ev.call e hX
theorem zC (a b c d : Int) : Ev (fun k => R_Verdict.f k a b c d) (verdictP a b c d) := by
 unfold R_Verdict.f verdictP
 have j1 : ∀ x : Bool,x = decide (a ≥ c ∧ b ≤ d) → ¬ (a > b ∨ c > d) → Ev (fun k => R_Verdict.j1 k x a b c d) (if a > b ∨ c > d then 0 else if a ≥ c ∧ b ≤ d then 1 else if b < c ∨ a > d then 2 else 3) := by
  intro x hx h
  refine Ev.step (fun k => by rw [R_Verdict.j1]) ?_
  rw [if_neg h]
  by_cases h2 : a ≥ c ∧ b ≤ d
  ·rw [if_pos h2];exact Ev.pos (by rw [hx,decide_eq_true h2]) (Ev.done rfl)
  ·rw [if_neg h2]
   refine Ev.neg (by rw [hx,decide_eq_false h2];decide) ?_
   by_cases h3 : b < c
   ·exact Ev.pos h3 (Ev.done (by rw [if_pos (Or.inl h3)]))
   ·refine Ev.neg h3 ?_
    by_cases h4 : a > d
    ·exact Ev.pos h4 (Ev.done (by rw [if_pos (Or.inr h4)]))
    ·exact Ev.neg h4 (Ev.done (by rw [if_neg (by omega)]))
 by_cases h1 : a > b
 ·refine Ev.pos h1 (Ev.step (fun k => by rw [R_Verdict.j0]) (Ev.pos rfl (Ev.done (by rw [if_pos (.inl h1)]))))
 ·refine Ev.neg h1 (Ev.step (fun k => by rw [R_Verdict.j0]) ?_)
  by_cases h2 : c > d
  ·exact Ev.pos (by rw [decide_eq_true h2]) (Ev.done (by rw [if_pos (.inr h2)]))
  ·refine Ev.neg (by rw [decide_eq_false h2];decide) ?_
   by_cases h3 : a ≥ c
   ·exact Ev.pos h3 (j1 _ (by rw [decide_eq_decide];omega) (by omega))
   ·exact Ev.neg h3 (j1 _ (by rw [decide_eq_false (by omega)]) (by omega))
theorem zW (a b c d : Int) : Ev (fun k => gauge_Verdict.f k a b c d) (verdictP a b c d) := ⟨3,fun k hk => by
 obtain ⟨m,rfl⟩ : ∃ m,k = m + 3 := ⟨k - 3,by omega⟩
 exact gauge_Verdict.eq m a b c d⟩
def zm (l : List S49) (tick : Int) : List S32 → Int
 | [] => 0
 | x :: xs => if x.f0 < 0 ∨ x.f0 > (l.length : Int) - 1 then 7 else if (rd_T49 l x.f0).f4 < tick then 10 else zm l tick xs
def zq (l : List S49) (lo hi : Int) (xs : List S32) : Int × Int := if xs.length = 0 then (3,0) else if (ze l xs).2.2 = 0 then (verdictP (ze l xs).1 (ze l xs).2.1 lo hi,0) else (0,(ze l xs).2.2)
def zo1 (l : List S49) (tick lo hi : Int) (xs : List S32) : Int × Int := if lo > hi then (0,11) else if 10 < xs.length then (0,8) else if zm l tick xs ≠ 0 then (0,zm l tick xs) else zq l lo hi xs
theorem zw1 (l : List S49) (h20 : l.length ≤ 20) (tick lo hi : Int) (xs : List S32) (h10 : xs.length ≤ 10) : ∀ (d i : Nat),i + d = xs.length →
  Ev (fun k => gauge_test.l0 k l tick xs xs (xs.length : Int) i lo hi) (if zm l tick (xs.drop i) ≠ 0 then (0,zm l tick (xs.drop i)) else zq l lo hi xs) ∧
  Ev (fun k => R_test.l0 k l tick xs i lo hi) (if zm l tick (xs.drop i) ≠ 0 then (0,zm l tick (xs.drop i)) else zq l lo hi xs) := by
 intro d
 induction d with
 | zero =>
  intro i hid
  rw [List.drop_of_length_le (by omega)]
  have e : (if zm l tick [] ≠ 0 then (0,zm l tick []) else zq l lo hi xs) = zq l lo hi xs := if_neg (by simp [zm])
  rw [e]
  unfold zq
  obtain ⟨p1,p2⟩ := zM l h20 xs (by omega)
  constructor
  ·refine Ev.step (fun k => by rw [gauge_test.l0]) (Ev.neg (by omega) ?_)
   by_cases h0 : xs.length = 0
   ·rw [if_pos h0];exact Ev.pos (by omega) (Ev.done rfl)
   ·rw [if_neg h0]
    refine Ev.neg (by omega) (Ev.bind p1 ?_)
    by_cases h1 : (ze l xs).2.2 = 0
    ·rw [if_pos h1];exact Ev.pos h1 (Ev.bind (zW _ _ _ _) (Ev.done rfl))
    ·rw [if_neg h1];exact Ev.neg h1 (Ev.done rfl)
  ·refine Ev.step (fun k => by rw [R_test.l0]) (Ev.neg (by omega) ?_)
   by_cases h0 : xs.length = 0
   ·rw [if_pos h0];exact Ev.pos (by omega) (Ev.done rfl)
   ·rw [if_neg h0]
    refine Ev.neg (by omega) (Ev.bind p2 ?_)
    by_cases h1 : (ze l xs).2.2 = 0
    ·rw [if_pos h1];exact Ev.pos h1 (Ev.bind (zC _ _ _ _) (Ev.done rfl))
    ·rw [if_neg h1];exact Ev.neg h1 (Ev.done rfl)
 | succ d ih =>
  intro i hid
  rw [zJ xs i (by omega)]
  obtain ⟨ih1,ih2⟩ := ih (i + 1) (by omega)
  have w : wrap64 ((i : Int) + 1) = ((i + 1 : Nat) : Int) := by rw [wrap64_eq (by omega)];omega
  have wl : wrap64 ((l.length : Int) - 1) = (l.length : Int) - 1 := wrap64_eq (by omega)
  generalize hx : rd_T32 xs (i : Int) = x at *
  rw [zm]
  by_cases h1 : x.f0 < 0 ∨ x.f0 > (l.length : Int) - 1
  ·rw [if_pos h1,if_pos (by decide)]
   constructor
   ·refine Ev.step (fun k => by rw [gauge_test.l0]) (Ev.pos (by omega) (Ev.pos (by omega) (Ev.pos (by omega) ?_)))
    rw [hx,wl]
    exact Ev.call (outside_true h1) (Ev.pos rfl (Ev.done rfl))
   ·refine Ev.step (fun k => by rw [R_test.l0]) (Ev.pos (by omega) (Ev.pos (by omega) ?_))
    rw [hx,wl]
    exact Ev.call (zc h1) (Ev.pos rfl (Ev.done rfl))
  ·rw [if_neg h1]
   by_cases h2 : (rd_T49 l x.f0).f4 < tick
   ·rw [if_pos h2,if_pos (by decide)]
    constructor
    ·refine Ev.step (fun k => by rw [gauge_test.l0]) (Ev.pos (by omega) (Ev.pos (by omega) (Ev.pos (by omega) ?_)))
     rw [hx,wl]
     exact Ev.call (outside_false (by omega)) (Ev.neg (by decide) (Ev.pos (by omega) (Ev.pos (by omega) (Ev.pos h2 (Ev.done rfl)))))
    ·refine Ev.step (fun k => by rw [R_test.l0]) (Ev.pos (by omega) (Ev.pos (by omega) ?_))
     rw [hx,wl]
     exact Ev.call (zb (by omega)) (Ev.neg (by decide) (Ev.pos (by omega) (Ev.pos (by omega) (Ev.pos h2 (Ev.done rfl)))))
   ·rw [if_neg h2]
    constructor
    ·refine Ev.step (fun k => by rw [gauge_test.l0]) (Ev.pos (by omega) (Ev.pos (by omega) (Ev.pos (by omega) ?_)))
     rw [hx,wl,w]
     exact Ev.call (outside_false (by omega)) (Ev.neg (by decide) (Ev.pos (by omega) (Ev.pos (by omega) (Ev.neg h2 ih1))))
    ·refine Ev.step (fun k => by rw [R_test.l0]) (Ev.pos (by omega) (Ev.pos (by omega) ?_))
     rw [hx,wl,w]
     exact Ev.call (zb (by omega)) (Ev.neg (by decide) (Ev.pos (by omega) (Ev.pos (by omega) (Ev.neg h2 ih2))))
theorem zf1 (l : List S49) (h20 : l.length ≤ 20) (tick lo hi : Int) (xs : List S32) : Ev (fun k => gauge_test.f k l tick lo hi xs) (zo1 l tick lo hi xs) ∧ Ev (fun k => R_test.f k l tick lo hi xs) (zo1 l tick lo hi xs) := by
 unfold gauge_test.f R_test.f zo1
 by_cases h1 : lo > hi
 ·rw [if_pos h1];exact ⟨Ev.pos h1 (Ev.done rfl),Ev.pos h1 (Ev.done rfl)⟩
 ·rw [if_neg h1]
  by_cases h2 : 10 < xs.length
  ·rw [if_pos h2];exact ⟨Ev.neg h1 (Ev.pos (by omega) (Ev.done rfl)),Ev.neg h1 (Ev.pos (by omega) (Ev.done rfl))⟩
  ·rw [if_neg h2]
   obtain ⟨p,q⟩ := zw1 l h20 tick lo hi xs (by omega) xs.length 0 (by omega)
   rw [List.drop_zero] at p q
   exact ⟨Ev.neg h1 (Ev.neg (by omega) p),Ev.neg h1 (Ev.neg (by omega) q)⟩
def zl (t : Nat → Int × Int) : Nat → Nat → Int → Int → Int × Int × Int
 | 0,_,v,p => (v,p,0)
 | d + 1,i,v,p => if (t i).2 = 0 then (if ((t i).1 = 2 ∧ v ≠ 2) ∨ ((t i).1 = 3 ∧ v = 1) then zl t d (i + 1) (t i).1 i else zl t d (i + 1) v p) else (0,0,(t i).2)
theorem zn1 {T : Nat → Nat → Option (Int × Int)} {t : Nat → Int × Int} (h : ∀ i,Ev (fun k => T k i) (t i)) : ∀ (d i : Nat) (v p : Int),Ev (fun k => worstGo (T k) d i v p) (zl t d i v p) := by
 intro d
 induction d with
 | zero => intro i v p;exact Ev.done rfl
 | succ d ih =>
  intro i v p
  rw [zl]
  refine Ev.congr (fun k => by rw [worstGo]) (Ev.bind (h i) ?_)
  by_cases h0 : (t i).2 = 0
  ·rw [if_pos h0]
   refine Ev.pos h0 ?_
   by_cases hc : ((t i).1 = 2 ∧ v ≠ 2) ∨ ((t i).1 = 3 ∧ v = 1)
   ·rw [if_pos hc];exact Ev.pos hc (ih _ _ _)
   ·rw [if_neg hc];exact Ev.neg hc (ih _ _ _)
  ·rw [if_neg h0];exact Ev.neg h0 (Ev.done rfl)
def zm1 (vs : List Int) : Int × Int := if (2 : Int) ∈ vs then (2,(vs.idxOf 2 : Int)) else if (3 : Int) ∈ vs then (3,(vs.idxOf 3 : Int)) else (1,-1)
theorem zg1 (vs : List Int) (x : Int) : zm1 (vs ++ [x]) = if (x = 2 ∧ (zm1 vs).1 ≠ 2) ∨ (x = 3 ∧ (zm1 vs).1 = 1) then (x,(vs.length : Int)) else zm1 vs := by
 unfold zm1
 by_cases h2 : (2 : Int) ∈ vs
 ·have h2' : (2 : Int) ∈ vs ++ [x] := by simp [h2]
  simp only [if_pos h2,if_pos h2']
  rw [if_neg (by simp),List.idxOf_append,if_pos h2]
 ·by_cases x2 : x = 2
  ·subst x2
   have h2' : (2 : Int) ∈ vs ++ [2] := by simp
   simp only [if_neg h2,if_pos h2']
   rw [List.idxOf_append,if_neg h2]
   by_cases h3 : (3 : Int) ∈ vs
   ·simp [h3]
   ·simp [h3]
  ·have h2' : ¬ (2 : Int) ∈ vs ++ [x] := by simp [h2];omega
   simp only [if_neg h2,if_neg h2']
   by_cases h3 : (3 : Int) ∈ vs
   ·have h3' : (3 : Int) ∈ vs ++ [x] := by simp [h3]
    simp only [if_pos h3,if_pos h3']
    rw [if_neg (by simp;omega),List.idxOf_append,if_pos h3]
   ·by_cases x3 : x = 3
    ·subst x3
     have h3' : (3 : Int) ∈ vs ++ [3] := by simp
     simp only [if_neg h3,if_pos h3']
     rw [List.idxOf_append,if_neg h3]
     simp
    ·have h3' : ¬ (3 : Int) ∈ vs ++ [x] := by simp [h3];omega
     simp only [if_neg h3,if_neg h3']
     rw [if_neg (by omega)]
theorem zr1 (xs : List Int) (i : Nat) (h : i < xs.length) : xs.drop i = rd xs i :: xs.drop (i + 1) := by
 rw [List.drop_eq_getElem_cons h]
 unfold rd
 rw [Int.toNat_natCast,List.getD_eq_getElem?_getD,List.getElem?_eq_getElem h,Option.getD_some]
theorem zj1 (vs : List Int) (hv : vs.length ≤ 1000000) (c : Int) (c0 : 0 ≤ c) (c1 : c < 2) (R : Int × Int) (hR : Ev (fun k => R_worst.l0 k vs [2,3] (c + 1)) R) : ∀ (d j : Nat),j + d = vs.length →
  Ev (fun k => R_worst.l1 k vs [2,3] c (j : Int)) (if rd [2,3] c ∈ vs.drop j then (rd [2,3] c,((j + (vs.drop j).idxOf (rd [2,3] c) : Nat) : Int)) else R) := by
 intro d
 induction d with
 | zero =>
  intro j hj
  rw [List.drop_of_length_le (by omega),if_neg (by simp)]
  refine Ev.step (fun k => by rw [R_worst.l1]) (Ev.neg (by omega) ?_)
  rw [wrap64_eq (by omega)]
  exact hR
 | succ d ih =>
  intro j hj
  rw [zr1 vs j (by omega)]
  have hi := ih (j + 1) (by omega)
  refine Ev.step (fun k => by rw [R_worst.l1]) (Ev.pos (by omega) (Ev.pos (by omega) (Ev.pos c0 (Ev.pos (by simp;omega) ?_))))
  by_cases he : rd vs (j : Int) = rd [2,3] c
  ·refine Ev.pos he (Ev.done ?_)
   rw [if_pos (by simp [he]),he,List.idxOf_cons_self]
   rfl
  ·refine Ev.neg he ?_
   rw [wrap64_eq (by omega)]
   have em : (rd [2,3] c ∈ rd vs (j : Int) :: vs.drop (j + 1)) ↔ rd [2,3] c ∈ vs.drop (j + 1) := by
    rw [List.mem_cons]
    exact ⟨fun h => h.resolve_left (fun h => he h.symm),Or.inr⟩
   by_cases hm : rd [2,3] c ∈ vs.drop (j + 1)
   ·rw [if_pos hm] at hi
    rw [if_pos (em.2 hm),show (rd vs (j : Int) :: vs.drop (j + 1)).idxOf (rd [2,3] c) = (vs.drop (j + 1)).idxOf (rd [2,3] c) + 1 by rw [List.idxOf_cons,show (rd vs (j : Int) == rd [2,3] c) = false from beq_eq_false_iff_ne.mpr he];rfl]
    rw [show j + ((vs.drop (j + 1)).idxOf (rd [2,3] c) + 1) = j + 1 + (vs.drop (j + 1)).idxOf (rd [2,3] c) by omega]
    exact hi
   ·rw [if_neg hm] at hi
    rw [if_neg (fun h => hm (em.1 h))]
    exact hi
theorem zN (vs : List Int) (hv : vs.length ≤ 1000000) : Ev (fun k => R_worst.f k vs) (zm1 vs) := by
 have r0 : Ev (fun k => R_worst.l0 k vs [2,3] (1 + 1)) ((1 : Int),(-1 : Int)) := Ev.step (fun k => by rw [R_worst.l0]) (Ev.neg (by simp) (Ev.done rfl))
 have s1 := zj1 vs hv 1 (by omega) (by omega) _ r0 vs.length 0 (by omega)
 have r1 : Ev (fun k => R_worst.l0 k vs [2,3] (0 + 1)) (if (3 : Int) ∈ vs then (3,(vs.idxOf 3 : Int)) else (1,-1)) := by
  refine Ev.step (fun k => by rw [R_worst.l0]) (Ev.pos (by simp) ?_)
  rw [List.drop_zero,Nat.zero_add] at s1
  exact s1
 have s0 := zj1 vs hv 0 (by omega) (by omega) _ r1 vs.length 0 (by omega)
 rw [List.drop_zero,Nat.zero_add] at s0
 unfold R_worst.f
 refine Ev.step (fun k => by rw [R_worst.l0]) (Ev.pos (by simp) ?_)
 exact s0
def zj (l : List S49) (tick : Int) (l2 : List S34) (l3 : List (List S32)) (i : Nat) : Int × Int := zo1 l tick (rd_T34 l2 i).f0 (rd_T34 l2 i).f1 (rd_L8 l3 i)
def zi1 (l : List S49) (tick : Int) (l2 : List S34) (l3 : List (List S32)) : Int × Int × Int :=
 if checkP l ≠ 0 then (0,0,checkP l) else if tick < 0 ∨ tick > 1000000000 then (0,0,2) else if l2.length > 20 then (0,0,8) else if l3.length ≠ l2.length then (0,0,3) else zl (zj l tick l2 l3) l2.length 0 1 (-1)
theorem zY (l : List S49) (h20 : l.length ≤ 20) (tick : Int) (l2 : List S34) (l3 : List (List S32)) (hl : l3.length = l2.length) (h2 : l2.length ≤ 20) : ∀ (d i : Nat) (vs : List Int),i + d = l2.length → vs.length = i →
  Ev (fun k => R_Sheet.l0 k l tick l2 l3 vs i) (zl (zj l tick l2 l3) d i (zm1 vs).1 (zm1 vs).2) := by
 intro d
 induction d with
 | zero =>
  intro i vs hi hv
  exact Ev.step (fun k => by rw [R_Sheet.l0]) (Ev.neg (by omega) (Ev.bind (zN vs (by omega)) (Ev.done rfl)))
 | succ d ih =>
  intro i vs hi hv
  have ht : Ev (fun k => R_test.f k l tick (rd_T34 l2 (i : Int)).f0 (rd_T34 l2 (i : Int)).f1 (rd_L8 l3 (i : Int))) (zj l tick l2 l3 i) := (zf1 l h20 tick _ _ _).2
  refine Ev.step (fun k => by rw [R_Sheet.l0]) (Ev.pos (by omega) (Ev.pos (by omega) (Ev.pos (by omega) (Ev.bind ht ?_))))
  rw [zl]
  have next := ih (i + 1) (vs ++ [(zj l tick l2 l3 i).1]) (by omega) (by simp [hv])
  rw [zg1] at next
  by_cases h0 : (zj l tick l2 l3 i).2 = 0
  ·rw [if_pos h0]
   refine Ev.pos h0 (Ev.pos (by omega) ?_)
   rw [wrap64_eq (by omega),show ((i : Int) + 1) = ((i + 1 : Nat) : Int) by omega]
   by_cases hc : ((zj l tick l2 l3 i).1 = 2 ∧ (zm1 vs).1 ≠ 2) ∨ ((zj l tick l2 l3 i).1 = 3 ∧ (zm1 vs).1 = 1)
   ·rw [if_pos hc] at next ⊢
    rw [hv] at next
    exact next
   ·rw [if_neg hc] at next ⊢
    exact next
  ·rw [if_neg h0]
   exact Ev.neg h0 (Ev.done rfl)
theorem zU (l : List S49) (h20 : l.length ≤ 20) (tick : Int) (l2 : List S34) (l3 : List (List S32)) : Ev (fun k => gauge_Sheet.f k l tick l2 l3) (zi1 l tick l2 l3) ∧ Ev (fun k => R_Sheet.f k l tick l2 l3) (zi1 l tick l2 l3) := by
 unfold gauge_Sheet.f R_Sheet.f zi1
 by_cases hc : checkP l ≠ 0
 ·rw [if_pos hc];exact ⟨Ev.pos hc (Ev.done rfl),Ev.bind (zg l h20) (Ev.neg hc (Ev.done rfl))⟩
 ·rw [if_neg hc]
  have hc0 : checkP l = 0 := by omega
  suffices h : Ev (fun k => (if tick < 0 ∨ tick > 1000000000 then some (0,0,2) else if l2.length > 20 then some (0,0,8) else if l3.length ≠ l2.length then some (0,0,3) else worstGo (sheetT k l tick l2 l3) l2.length 0 1 (-1) : Option (Int × Int × Int))) (if tick < 0 ∨ tick > 1000000000 then (0,0,2) else if l2.length > 20 then (0,0,8) else if l3.length ≠ l2.length then (0,0,3) else zl (zj l tick l2 l3) l2.length 0 1 (-1)) ∧
    Ev (fun k => (R_beyond.f tick 0 1000000000).bind fun t => if t = true then some (0,0,2) else if (l2.length : Int) > 20 then some (0,0,8) else if (l3.length : Int) = (l2.length : Int) then R_Sheet.l0 k l tick l2 l3 [] 0 else some (0,0,3)) (if tick < 0 ∨ tick > 1000000000 then (0,0,2) else if l2.length > 20 then (0,0,8) else if l3.length ≠ l2.length then (0,0,3) else zl (zj l tick l2 l3) l2.length 0 1 (-1)) from
   ⟨Ev.neg hc h.1,Ev.bind (zg l h20) (Ev.pos hc0 h.2)⟩
  by_cases h1 : tick < 0 ∨ tick > 1000000000
  ·rw [if_pos h1];exact ⟨Ev.pos h1 (Ev.done rfl),Ev.call (zc h1) (Ev.pos rfl (Ev.done rfl))⟩
  ·rw [if_neg h1]
   suffices h : Ev (fun k => (if l2.length > 20 then some (0,0,8) else if l3.length ≠ l2.length then some (0,0,3) else worstGo (sheetT k l tick l2 l3) l2.length 0 1 (-1) : Option (Int × Int × Int))) (if l2.length > 20 then (0,0,8) else if l3.length ≠ l2.length then (0,0,3) else zl (zj l tick l2 l3) l2.length 0 1 (-1)) ∧
     Ev (fun k => if (l2.length : Int) > 20 then some (0,0,8) else if (l3.length : Int) = (l2.length : Int) then R_Sheet.l0 k l tick l2 l3 [] 0 else some (0,0,3)) (if l2.length > 20 then (0,0,8) else if l3.length ≠ l2.length then (0,0,3) else zl (zj l tick l2 l3) l2.length 0 1 (-1)) from
    ⟨Ev.neg h1 h.1,Ev.call (zb (by omega)) (Ev.neg (by decide) h.2)⟩
   by_cases h2 : l2.length > 20
   ·rw [if_pos h2];exact ⟨Ev.pos h2 (Ev.done rfl),Ev.pos (by omega) (Ev.done rfl)⟩
   ·rw [if_neg h2]
    by_cases h3 : l3.length ≠ l2.length
    ·rw [if_pos h3];exact ⟨Ev.neg h2 (Ev.pos h3 (Ev.done rfl)),Ev.neg (by omega) (Ev.neg (by omega) (Ev.done rfl))⟩
    ·rw [if_neg h3]
     have q := zY l h20 tick l2 l3 (by omega) (by omega) l2.length 0 [] (by omega) rfl
     exact ⟨Ev.neg h2 (Ev.neg h3 (zn1 (fun i => (zf1 l h20 tick _ _ _).1) _ _ _ _)),Ev.neg (by omega) (Ev.pos (by omega) q)⟩
theorem GaugeSheets (l0 : List S49) (a1 : Int) (l2 : List S34) (l3 : List (List S32)) (l4 : List Int) (hl : l4.length ≤ maxLen) : ∃ k,L_GaugeSheets.f k l0 a1 l2 l3 l4 = some true := by
 refine Ev.rounds ?_
 have out : Ev (fun k => L_GaugeSheets.j0 k l0 a1 l2 l3 l4 true) true := Ev.step (fun k => by rw [L_GaugeSheets.j0]) (Ev.pos rfl (Ev.bind Ev.awake (Ev.done rfl)))
 unfold L_GaugeSheets.f
 by_cases h20 : (l0.length : Int) > 20
 ·exact Ev.pos h20 out
 refine Ev.neg h20 ?_
 by_cases h30 : (l2.length : Int) > 30
 ·exact Ev.pos h30 out
 refine Ev.neg h30 ?_
 by_cases h30' : (l3.length : Int) > 30
 ·rw [decide_eq_true h30'];exact out
 rw [decide_eq_false h30']
 refine Ev.step (fun k => by rw [L_GaugeSheets.j0]) (Ev.neg (by decide) ?_)
 obtain ⟨l,s1,e1,hM,h1,h4⟩ := bench_some (diceOf l4) 4 (by omega) (by omega)
 obtain ⟨n,s2,e2,n0,n1⟩ := upto_some s1 7 (by omega) (by omega)
 obtain ⟨t,e3,t0,t1⟩ := zt1 a1 300 (by omega) (by omega)
 have fin : ∀ (rs : List S34) (ts : List (List S32)),Ev (fun k => L_GaugeSheets.j3 k l rs ts (900 + t) false) true := fun rs ts => by
  obtain ⟨p,q⟩ := zU l (by omega) (900 + t) rs ts
  exact Ev.step (fun k => by rw [L_GaugeSheets.j3]) (Ev.neg (by decide) (Ev.bind p (Ev.bind q (Ev.pos rfl (Ev.pos rfl (Ev.pos rfl (Ev.bind Ev.awake (Ev.done rfl))))))))
 have loop : ∀ (d : Nat) (rs : List S34) (ts : List (List S32)) (s : Int),rs.length + d ≤ 10 → ts.length = rs.length → Ev (fun k => L_GaugeSheets.l1 k l0 a1 l2 l3 l rs ts (d : Int) s) true := by
  intro d
  induction d with
  | zero =>
   intro rs ts s _ _
   obtain ⟨p,q⟩ := zU l0 (by omega) a1 l2 l3
   refine Ev.step (fun k => by rw [L_GaugeSheets.l1]) (Ev.neg (by omega) (Ev.call e3 (Ev.bind p (Ev.bind q (Ev.pos rfl (Ev.pos rfl ?_))))))
   rw [wrap64_eq (by omega),bne_self_eq_false]
   exact fin rs ts
  | succ d ih =>
   intro rs ts s h10 hlen
   obtain ⟨x,s3,e4,x0,x1⟩ := between_some s (-5000) 5000 (by omega) (by omega) (by omega)
   obtain ⟨a,b,s4,e5,_,_,_⟩ := range_some s3 (x - 200) (x + 200) (by omega) (by omega) (by omega)
   obtain ⟨xs,s5,hX,_⟩ := zp1 hM h1 (by omega) s4 x (by omega) (by omega) 3 (by omega) (by omega)
   refine Ev.step (fun k => by rw [L_GaugeSheets.l1]) (Ev.pos (by omega) (Ev.call e4 ?_))
   rw [wrap64_eq (n := x - 200) (by omega),wrap64_eq (n := x + 200) (by omega)]
   refine Ev.call e5 (Ev.pos (by omega) (Ev.bind hX (Ev.pos (by omega) ?_)))
   rw [show wrap64 (((d + 1 : Nat) : Int) - 1) = (d : Int) by rw [wrap64_eq (by omega)];omega]
   exact ih (rs ++ [⟨a,b⟩]) (ts ++ [xs]) s5 (by simp;omega) (by simp [hlen])
 have long : ∀ (d i : Nat),i + d = l3.length → Ev (fun k => L_GaugeSheets.l0 k l0 a1 l2 l3 l4 (i : Int)) true := by
  intro d
  induction d with
  | zero =>
   intro i hi
   refine Ev.step (fun k => by rw [L_GaugeSheets.l0]) (Ev.neg (by omega) (Ev.call (zk1 hl) (Ev.call e1 (Ev.call e2 ?_))))
   have := loop n.toNat [] [] s2 (by simp;omega) rfl
   rw [Int.toNat_of_nonneg n0] at this
   exact this
  | succ d ih =>
   intro i hi
   refine Ev.step (fun k => by rw [L_GaugeSheets.l0]) (Ev.pos (by omega) (Ev.pos (by omega) ?_))
   by_cases hb : ((rd_L8 l3 (i : Int)).length : Int) > 20
   ·exact Ev.pos hb (Ev.bind Ev.awake (Ev.done rfl))
   ·refine Ev.neg hb ?_
    rw [wrap64_eq (by omega)]
    exact ih (i + 1) (by omega)
 exact long l3.length 0 (by omega)
end Go.Proofs.Ytdbpobadeibjaab.GS
