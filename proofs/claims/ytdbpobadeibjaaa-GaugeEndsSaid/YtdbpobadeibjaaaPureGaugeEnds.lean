/- GaugeEnds, its plain part: what the printed functions compute answers as the statement says, for every input; no condition beside the statement's own. -/
import Derived.Test.YtdbpobadeibjaaaGDx25
import Derived.Test.YtdbpobadeibjaaaGDx13
import Derived.Test.YtdbpobadeibjaaaGDx16
import Derived.Test.YtdbpobadeibjaaaGDx18
import Derived.Test.YtdbpobadeibjaaaGDx19
import Derived.Test.YtdbpobadeibjaaaGDx21
namespace Go.Proofs.Ytdbpobadeibjaaa.GD
open Go.RowKit Go.Proofs.YtdbpobadeibjaaaW.PrintWords Go.Proofs.YtdbpobadeibjaaaW.PrintLast
/-! ### shared -/
theorem le_fuel {α : Type} {f : Nat → Option α} (hm : ∀ k, LeO (f k) (f (k + 1))) {j : Nat} {r : α} (h : f j = some r) : ∀ k, j ≤ k → f k = some r := by
  intro k hk
  obtain ⟨d, rfl⟩ := Nat.exists_eq_add_of_le hk
  clear hk
  induction d with
  | zero => exact h
  | succ d ih => exact hm (j + d) r ih
theorem mod_some (a m : Int) (h0 : 1 ≤ m) (h1 : m ≤ 1000) : ∃ t, thermionkit_Mod.f a m = some t ∧ 0 ≤ t ∧ t < m := by
  unfold thermionkit_Mod.f
  have u := Int.tmod_lt_of_pos a (show 0 < m by omega)
  have l := Int.tmod_lt_of_pos (-a) (show 0 < m by omega)
  rw [Int.neg_tmod] at l
  rw [if_neg (by omega), if_neg (by omega)]
  by_cases c : Int.tmod a m < 0
  · rw [if_pos c, wrap64_eq (by omega)]
    exact ⟨_, rfl, by omega, by omega⟩
  · rw [if_neg c]
    exact ⟨_, rfl, by omega, u⟩
theorem awake_some (k : Nat) (h : 3 ≤ k) : thermionlaw07_awake.f k = some true := le_fuel (f := thermionlaw07_awake.f) (j := 3) (r := true) thermionlaw07_awake.mono thermionlaw07_awake.holds k h
/-! ### rounds enough -/
/-- With rounds enough the answer is r. -/
def Ev {α : Type} (g : Nat → Option α) (r : α) : Prop := ∃ K, ∀ k, K ≤ k → g k = some r
theorem Ev.of {α : Type} {g : Nat → Option α} {r : α} (hg : ∀ k, LeO (g k) (g (k + 1))) {k : Nat} (h : g k = some r) : Ev g r := ⟨k, fun j hj => le_fuel hg h j hj⟩
theorem Ev.rounds {α : Type} {g : Nat → Option α} {r : α} (h : Ev g r) : ∃ k, g k = some r := by
  obtain ⟨K, hK⟩ := h
  exact ⟨K, hK K (Nat.le_refl _)⟩
theorem Ev.bind {α β : Type} {g : Nat → Option α} {f : Nat → α → Option β} {a : α} {r : β} (h : Ev g a) (k : Ev (fun n => f n a) r) : Ev (fun n => (g n).bind (f n)) r := by
  obtain ⟨K, hK⟩ := h
  obtain ⟨J, hJ⟩ := k
  refine ⟨max K J, fun n hn => ?_⟩
  show (g n).bind (f n) = some r
  rw [hK n (by omega)]
  exact hJ n (by omega)
theorem Ev.step {α : Type} {g f : Nat → Option α} {r : α} (h : ∀ k, g (k + 1) = f k) (k : Ev f r) : Ev g r := by
  obtain ⟨K, hK⟩ := k
  refine ⟨K + 1, fun n hn => ?_⟩
  obtain ⟨m, rfl⟩ : ∃ m, n = m + 1 := ⟨n - 1, by omega⟩
  rw [h m]
  exact hK m (by omega)
theorem Ev.congr {α : Type} {g f : Nat → Option α} {r : α} (h : ∀ k, g k = f k) (k : Ev f r) : Ev g r := by
  obtain ⟨K, hK⟩ := k
  exact ⟨K, fun n hn => (h n).trans (hK n hn)⟩
theorem Ev.pos {α : Type} {c : Prop} [Decidable c] {f g : Nat → Option α} {r : α} (h : c) (k : Ev f r) : Ev (fun n => if c then f n else g n) r := Ev.congr (fun _ => if_pos h) k
theorem Ev.neg {α : Type} {c : Prop} [Decidable c] {f g : Nat → Option α} {r : α} (h : ¬ c) (k : Ev g r) : Ev (fun n => if c then f n else g n) r := Ev.congr (fun _ => if_neg h) k
theorem Ev.call {α β : Type} {x : Option α} {a : α} {f : Nat → α → Option β} {r : β} (h : x = some a) (k : Ev (fun n => f n a) r) : Ev (fun n => x.bind (f n)) r := Ev.congr (fun n => by rw [h]; rfl) k
theorem Ev.done {α : Type} {x : Option α} {r : α} (h : x = some r) : Ev (fun _ => x) r := ⟨0, fun _ _ => h⟩
theorem Ev.awake : Ev thermionlaw07_awake.f true := Ev.of thermionlaw07_awake.mono thermionlaw07_awake.holds
/-! ### benches that BenchOf makes -/
theorem MadeBench.ok {l : List S36} (h : MadeBench l) (h12 : l.length ≤ 12) : BenchOk l := by
  refine ⟨h12, fun x hx => ?_⟩
  obtain ⟨i, hi, rfl⟩ := List.getElem_of_mem hx
  have := h i hi
  unfold rd_T36 at this
  rw [Int.toNat_natCast, List.getD_eq_getElem?_getD, List.getElem?_eq_getElem hi, Option.getD_some] at this
  obtain ⟨a1, a2, a3, a4, a5, a6, a7, a8, a9, a10, a11, a12⟩ := this
  exact ⟨⟨a1, a2, a3, by omega, a5, by omega⟩, a7, by omega, by omega, by omega, a9, by omega⟩
theorem MadeBench.at {l : List S36} (h : MadeBench l) (m : Int) (h0 : 0 ≤ m) (h1 : m < l.length) : MeterIn m (rd_T36 l m) := by
  have := h m.toNat (by omega)
  rw [Int.toNat_of_nonneg h0] at this
  exact this
theorem rangeErr_ok {a b lo hi : Int} (h0 : lo ≤ a) (h1 : a ≤ b) (h2 : b ≤ hi) : rangeErr a b lo hi = 0 := by
  unfold rangeErr
  rw [if_neg (by omega), if_neg (by omega)]
theorem meterErr_ok {n : Int} {x : S36} (h : MeterOk n x) : meterErr n x = 0 := by
  obtain ⟨⟨a1, a2, a3, a4, a5, a6⟩, a7, a8, a9, a10, a11, a12⟩ := h
  have e : makingErr x.f0.f0 x.f0.f1 x.f1.f0 x.f1.f1 = 0 := by
    unfold makingErr
    rw [rangeErr_ok a1 a2 a3, rangeErr_ok a4 a5 a6]
    rfl
  unfold meterErr
  rw [e, if_neg (by decide), if_neg (by omega)]
theorem firstErr_ok {n : Int} : ∀ {l : List S36}, (∀ x ∈ l, MeterOk n x) → firstErr n l = 0
  | [], _ => rfl
  | x :: l, h => by
    unfold firstErr
    rw [meterErr_ok (h x (by simp)), if_neg (by decide)]
    exact firstErr_ok fun y hy => h y (by simp [hy])
/-- By is below the meter's own number: chains end. -/
def Down_ (l : List S36) : Prop := ∀ m : Int, 0 ≤ m → m < l.length → -1 ≤ (rd_T36 l m).f3 ∧ (rd_T36 l m).f3 < m
theorem MadeBench.down {l : List S36} (h : MadeBench l) : Down_ l := fun m h0 h1 => by
  obtain ⟨_, _, _, _, _, _, _, _, a9, a10, _, _⟩ := h.at m h0 h1
  exact ⟨a9, a10⟩
theorem chainGo_neg (l : List S36) (n : Nat) (m : Int) (h : m < 0) : chainGo l n m = [] := by
  cases n with
  | zero => rfl
  | succ n => rw [chainGo, if_pos h]
theorem chainGo_ends {l : List S36} (hd : Down_ l) : ∀ (n : Nat) (m : Int) (d : Int), 0 ≤ m → m < l.length → m < n → (rd_T36 l ((chainGo l n m).getLastD d)).f3 = -1 := by
  intro n
  induction n with
  | zero => intro m d h0 _ h2; omega
  | succ n ih =>
    intro m d h0 h1 h2
    rw [chainGo, if_neg (by omega), List.getLastD_cons]
    obtain ⟨b0, b1⟩ := hd m h0 h1
    by_cases hb : (rd_T36 l m).f3 < 0
    · rw [chainGo_neg l n _ hb]
      show (rd_T36 l m).f3 = -1
      omega
    · exact ih _ m (by omega) (by omega) (by omega)
theorem chainGo_more {l : List S36} (hd : Down_ l) : ∀ (n k : Nat) (m : Int), m < l.length → m < n → m < k → chainGo l n m = chainGo l k m := by
  intro n
  induction n with
  | zero => intro k m _ h1 _; rw [chainGo_neg l _ m (by omega), chainGo_neg l _ m (by omega)]
  | succ n ih =>
    intro k m h0 h1 h2
    by_cases hm : m < 0
    · rw [chainGo_neg l _ m hm, chainGo_neg l _ m hm]
    · obtain ⟨k, rfl⟩ : ∃ j, k = j + 1 := ⟨k - 1, by omega⟩
      obtain ⟨b0, b1⟩ := hd m (by omega) h0
      rw [chainGo, chainGo, if_neg hm, if_neg hm, ih k _ (by omega) (by omega) (by omega)]
theorem looseFrom_ok {l : List S36} (h : ∀ i : Nat, i < l.length → endsP l i) : ∀ n i : Nat, i + n = l.length → looseFrom l n i = 0
  | 0, _, _ => rfl
  | n + 1, i, hi => by
    unfold looseFrom
    rw [if_pos (h i (by omega))]
    exact looseFrom_ok h n (i + 1) (by omega)
theorem checkP_ok {l : List S36} (h : BenchOk l) (hd : Down_ l) : checkP l = 0 := by
  unfold checkP
  rw [if_neg (by have := h.1; omega), firstErr_ok h.2, if_neg (by decide)]
  refine looseFrom_ok (fun i hi => ?_) _ 0 (by omega)
  unfold endsP chainL
  exact chainGo_ends hd _ _ _ (by omega) (by omega) (by omega)
theorem true_eq {l : List S36} (h : BenchOk l) (hc : checkP l = 0) {m n : Int} (m0 : 0 ≤ m) (m1 : m < l.length) (n0 : -1000000000 ≤ n) (n1 : n ≤ 1000000000) (hs : Int.tmod n (rd_T36 l m).f2 = 0) :
    gauge_True.f l m n = some (if (sourceP l m n).2.2 = true then ((sourceP l m n).1, (sourceP l m n).2.1, 0) else (0, 0, 12)) := by
  obtain ⟨_, a7, _⟩ := h.at m m0 m1
  have h12 := h.1
  unfold gauge_True.f gauge_Check.f
  simp only [Option.bind_some]
  rw [if_pos hc, wrap64_eq (by omega), outside_false ⟨m0, by omega⟩]
  simp only [Option.bind_some]
  rw [if_neg (by decide), outside_false ⟨n0, n1⟩]
  simp only [Option.bind_some]
  rw [if_neg (by decide), if_pos m0, if_pos m1, if_neg (by omega), if_pos hs]
  unfold gauge_source.f
  rw [if_pos ⟨h, m0, m1, n0, n1⟩]
  simp only [Option.bind_some]
  split <;> rfl
/-! ### the reference's chain -/
theorem refChain_l {l : List S36} (hd : Down_ l) (h12 : l.length ≤ 12) : ∀ (d : Nat) (m : Int) (pre : List Int), m < l.length → m + 1 ≤ d → (pre.length : Int) + m + 1 ≤ l.length → -1 ≤ m →
    Ev (fun k => thermionref07_chain.l0 k l m pre) (pre ++ chainGo l d m, true) := by
  intro d
  induction d with
  | zero =>
    intro m pre h0 h1 h2 h3
    refine Ev.step (fun k => by rw [thermionref07_chain.l0]) ?_
    refine Ev.neg (by omega) (Ev.done ?_)
    rw [chainGo_neg l _ m (by omega), List.append_nil, decide_eq_true (by omega)]
  | succ d ih =>
    intro m pre h0 h1 h2 h3
    refine Ev.step (fun k => by rw [thermionref07_chain.l0]) ?_
    by_cases hm : m < 0
    · refine Ev.neg (by omega) (Ev.done ?_)
      rw [chainGo_neg l _ m hm, List.append_nil, decide_eq_true hm]
    · obtain ⟨b0, b1⟩ := hd m (by omega) h0
      refine Ev.pos (by omega) (Ev.pos (by omega) (Ev.pos (by omega) (Ev.pos (by omega) (Ev.pos h0 ?_))))
      have := ih (rd_T36 l m).f3 (pre ++ [m]) (by omega) (by omega) (by simp; omega) (by omega)
      rw [List.append_assoc] at this
      rw [chainGo, if_neg hm]
      exact this
theorem refChain_ev {l : List S36} (hd : Down_ l) (h12 : l.length ≤ 12) (m : Int) (m1 : m < l.length) (m0 : -1 ≤ m) : Ev (fun k => thermionref07_chain.f k l m) (chainL l m, true) := by
  have := refChain_l hd h12 l.length m [] m1 (by omega) (by simp; omega) m0
  rw [List.nil_append] at this
  exact this
theorem beyond_true {n lo hi : Int} (h : n < lo ∨ n > hi) : thermionref07_beyond.f n lo hi = some true := by
  unfold thermionref07_beyond.f
  by_cases c : n < lo
  · rw [if_pos c]
  · rw [if_neg c, decide_eq_true (by omega)]
theorem beyond_false {n lo hi : Int} (h : lo ≤ n ∧ n ≤ hi) : thermionref07_beyond.f n lo hi = some false := by
  unfold thermionref07_beyond.f
  rw [if_neg (by omega), decide_eq_false (by omega)]
/-! ### the reference's Check, of any bench -/
def afterGo (l : List S36) : Nat → Int → Int
  | 0, m => m
  | k + 1, m => if m < 0 then m else afterGo l k (rd_T36 l m).f3
theorem afterGo_neg (l : List S36) (k : Nat) (m : Int) (h : m < 0) : afterGo l k m = m := by
  cases k with
  | zero => rfl
  | succ k => rw [afterGo, if_pos h]
theorem afterGo_mono (l : List S36) : ∀ (k : Nat) (m : Int), afterGo l k m < 0 → ∀ j, k ≤ j → afterGo l j m < 0 := by
  intro k
  induction k with
  | zero => intro m h j _; rw [afterGo_neg l j m h]; exact h
  | succ k ih =>
    intro m h j hj
    obtain ⟨j, rfl⟩ : ∃ i, j = i + 1 := ⟨j - 1, by omega⟩
    rw [afterGo] at h ⊢
    by_cases hm : m < 0
    · rw [if_pos hm]; exact hm
    · rw [if_neg hm] at h ⊢
      exact ih _ h j (by omega)
theorem bound_nodup : ∀ (n : Nat) (c : List Int), c.Nodup → (∀ x ∈ c, 0 ≤ x ∧ x < n) → c.length ≤ n := by
  intro n
  induction n with
  | zero =>
    intro c _ h
    cases c with
    | nil => exact Nat.le_refl _
    | cons x c => have := h x (by simp); omega
  | succ n ih =>
    intro c hn h
    by_cases hm : (n : Int) ∈ c
    · have h1 := ih (c.erase (n : Int)) (hn.erase _) (fun x hx => by
        rw [hn.mem_erase_iff] at hx
        have := h x hx.2
        have := hx.1
        omega)
      rw [List.length_erase_of_mem hm] at h1
      omega
    · have := ih c hn (fun x hx => by
        have := h x hx
        have : x ≠ n := fun e => hm (e ▸ hx)
        omega)
      omega
theorem depth_list {l : List S36} (hb : ∀ m : Int, 0 ≤ m → m < l.length → (rd_T36 l m).f3 < l.length) : ∀ (d : Nat) (m : Int), m < l.length → afterGo l d m < 0 → (∀ j, j < d → ¬ afterGo l j m < 0) →
    ∃ c : List Int, c.length = d ∧ c.Nodup ∧ ∀ x ∈ c, (0 ≤ x ∧ x < l.length) ∧ afterGo l d x < 0 := by
  intro d
  induction d with
  | zero => intro m _ _ _; exact ⟨[], rfl, List.nodup_nil, fun x hx => by cases hx⟩
  | succ d ih =>
    intro m hm h hj
    have m0 : ¬ m < 0 := hj 0 (by omega)
    have h' := h
    rw [afterGo, if_neg m0] at h
    obtain ⟨c, hc, hn, hx⟩ := ih (rd_T36 l m).f3 (hb m (by omega) hm) h (fun j hjd => by
      have := hj (j + 1) (by omega)
      rw [afterGo, if_neg m0] at this
      exact this)
    refine ⟨m :: c, by simp [hc], List.nodup_cons.2 ⟨fun hmc => hj d (by omega) (hx m hmc).2, hn⟩, fun x hxm => ?_⟩
    rcases List.mem_cons.1 hxm with rfl | hxc
    · exact ⟨⟨by omega, hm⟩, h'⟩
    · exact ⟨(hx x hxc).1, afterGo_mono l d x (hx x hxc).2 _ (by omega)⟩
theorem afterGo_enough {l : List S36} (hb : ∀ m : Int, 0 ≤ m → m < l.length → (rd_T36 l m).f3 < l.length) (m : Int) (hm : m < l.length) : ∀ k : Nat, afterGo l k m < 0 → afterGo l l.length m < 0 := by
  intro k
  induction k using Nat.strongRecOn with
  | _ k ih =>
    intro h
    by_cases hex : ∃ j, j < k ∧ afterGo l j m < 0
    · obtain ⟨j, hj, h'⟩ := hex
      exact ih j hj h'
    · obtain ⟨c, hc, hn, hx⟩ := depth_list hb k m hm h (fun j hj h' => hex ⟨j, hj, h'⟩)
      have := bound_nodup l.length c hn (fun x hxc => (hx x hxc).1)
      exact afterGo_mono l k m h _ (by omega)
theorem last_after {l : List S36} : ∀ (n : Nat) (m d : Int), 0 ≤ m → ((rd_T36 l ((chainGo l (n + 1) m).getLastD d)).f3 < 0 ↔ afterGo l (n + 1) m < 0) := by
  intro n
  induction n with
  | zero =>
    intro m d h0
    rw [chainGo, if_neg (by omega), afterGo, if_neg (by omega)]
    exact Iff.rfl
  | succ n ih =>
    intro m d h0
    rw [chainGo, if_neg (by omega), afterGo, if_neg (by omega), List.getLastD_cons]
    by_cases hb : (rd_T36 l m).f3 < 0
    · rw [chainGo_neg l _ _ hb, afterGo_neg l _ _ hb]
      exact Iff.rfl
    · exact ih _ _ (by omega)
theorem endsP_after {l : List S36} (hb : ∀ m : Int, 0 ≤ m → m < l.length → -1 ≤ (rd_T36 l m).f3 ∧ (rd_T36 l m).f3 < l.length) (i : Int) (h0 : 0 ≤ i) (h1 : i < l.length) : endsP l i ↔ afterGo l (l.length + 1) i < 0 := by
  have e : endsP l i ↔ (rd_T36 l ((chainL l i).getLastD i)).f3 < 0 := by
    unfold endsP
    have hmem : 0 ≤ (chainL l i).getLastD i ∧ (chainL l i).getLastD i < l.length := by
      have hall : ∀ x ∈ i :: chainL l i, 0 ≤ x ∧ x < (l.length : Int) := by
        intro x hx
        rcases List.mem_cons.1 hx with rfl | hx
        · exact ⟨h0, h1⟩
        · have go : ∀ (n : Nat) (m : Int), m < l.length → ∀ x ∈ chainGo l n m, 0 ≤ x ∧ x < (l.length : Int) := by
            intro n
            induction n with
            | zero => intro m _ x hx; cases hx
            | succ n ih =>
              intro m hm x hx
              rw [chainGo] at hx
              split at hx
              · cases hx
              · rcases List.mem_cons.1 hx with rfl | hx
                · exact ⟨by omega, hm⟩
                · exact ih _ (hb m (by omega) hm).2 x hx
          exact go _ _ h1 x hx
      exact hall _ (getLastD_mem i (chainL l i))
    have := hb _ hmem.1 hmem.2
    omega
  rw [e]
  unfold chainL
  obtain ⟨n, hn⟩ : ∃ n, l.length = n + 1 := ⟨l.length - 1, by omega⟩
  have h2 := last_after (l := l) n i i h0
  rw [← hn] at h2
  rw [h2]
  exact ⟨fun h => afterGo_mono l _ _ h _ (by omega), afterGo_enough (fun m a b => (hb m a b).2) i h1 _⟩
theorem refChain_any {l : List S36} (hb : ∀ m : Int, 0 ≤ m → m < l.length → -1 ≤ (rd_T36 l m).f3 ∧ (rd_T36 l m).f3 < l.length) (h20 : l.length ≤ 20) : ∀ (d : Nat) (m : Int) (pre : List Int), m < l.length → pre.length + d = l.length + 1 →
    ∃ c, Ev (fun k => thermionref07_chain.l0 k l m pre) (c, decide (afterGo l d m < 0)) := by
  intro d
  induction d with
  | zero =>
    intro m pre h0 h1
    by_cases hm : m < 0
    · refine ⟨pre, Ev.step (fun k => by rw [thermionref07_chain.l0]) ?_⟩
      exact Ev.neg (by omega) (Ev.done (by rw [afterGo]))
    · refine ⟨pre, Ev.step (fun k => by rw [thermionref07_chain.l0]) ?_⟩
      exact Ev.pos (by omega) (Ev.neg (by omega) (Ev.done (by rw [afterGo])))
  | succ d ih =>
    intro m pre h0 h1
    by_cases hm : m < 0
    · refine ⟨pre, Ev.step (fun k => by rw [thermionref07_chain.l0]) ?_⟩
      exact Ev.neg (by omega) (Ev.done (by rw [afterGo, if_pos hm]))
    · obtain ⟨b0, b1⟩ := hb m (by omega) h0
      obtain ⟨c, hc⟩ := ih (rd_T36 l m).f3 (pre ++ [m]) b1 (by simp; omega)
      refine ⟨c, Ev.step (fun k => by rw [thermionref07_chain.l0]) ?_⟩
      rw [afterGo, if_neg hm]
      exact Ev.pos (by omega) (Ev.pos (by omega) (Ev.pos (by omega) (Ev.pos (by omega) (Ev.pos h0 hc))))
theorem refRange_ev (a b lo hi : Int) : Ev (fun k => thermionref07_checkRange.f k a b lo hi) (rangeErr a b lo hi) := by
  unfold thermionref07_checkRange.f rangeErr
  by_cases h1 : lo ≤ a ∧ a ≤ hi
  · refine Ev.call (beyond_false h1) (Ev.neg (by decide) ?_)
    by_cases h2 : lo ≤ b ∧ b ≤ hi
    · refine Ev.call (beyond_false h2) ?_
      rw [if_neg (by omega)]
      refine Ev.step (fun k => by rw [thermionref07_checkRange.j0]) (Ev.neg (by decide) ?_)
      by_cases h3 : a > b
      · exact Ev.pos h3 (Ev.done (by rw [if_pos h3]))
      · exact Ev.neg h3 (Ev.done (by rw [if_neg h3]))
    · refine Ev.call (beyond_true (by omega)) ?_
      rw [if_pos (by omega)]
      exact Ev.step (fun k => by rw [thermionref07_checkRange.j0]) (Ev.pos rfl (Ev.done rfl))
  · refine Ev.call (beyond_true (by omega)) (Ev.pos rfl ?_)
    rw [if_pos (by omega)]
    exact Ev.step (fun k => by rw [thermionref07_checkRange.j0]) (Ev.pos rfl (Ev.done rfl))
theorem refMaking_ev (a b c d e f g : Int) : Ev (fun k => thermionref07_checkMaking.f k a b c d e f g) (makingErr a b c d) := by
  unfold thermionref07_checkMaking.f makingErr
  refine Ev.bind (refRange_ev a b 500000 2000000) ?_
  by_cases h : rangeErr a b 500000 2000000 = 0
  · rw [if_neg (by omega)]
    exact Ev.pos h (Ev.bind (refRange_ev c d (-1000000) 1000000) (Ev.done rfl))
  · rw [if_pos h]
    exact Ev.neg h (Ev.done rfl)
theorem firstErr_drop (n : Int) (l : List S36) (k : Nat) (h : k < l.length) : firstErr n (l.drop k) = if meterErr n (rd_T36 l k) ≠ 0 then meterErr n (rd_T36 l k) else firstErr n (l.drop (k + 1)) := by
  rw [drop_at l k h, firstErr]
theorem refCheck_ev (l : List S36) (h20 : l.length ≤ 20) : Ev (fun k => thermionref07_Check.f k l) (checkP l) := by
  unfold thermionref07_Check.f checkP
  by_cases h12 : 12 < l.length
  · rw [if_pos h12]
    exact Ev.pos (by omega) (Ev.done rfl)
  rw [if_neg h12]
  refine Ev.neg (by omega) ?_
  have loose : (∀ x ∈ l, MeterOk l.length x) → ∀ (d i : Nat), i + d = l.length → Ev (fun k => thermionref07_Check.l1 k l i) (looseFrom l d i) := by
    intro hok d
    have hb : ∀ m : Int, 0 ≤ m → m < l.length → -1 ≤ (rd_T36 l m).f3 ∧ (rd_T36 l m).f3 < l.length := fun m m0 m1 => by
      obtain ⟨_, _, _, _, _, a11, a12⟩ := BenchOk.at ⟨by omega, hok⟩ m m0 m1
      exact ⟨a11, a12⟩
    induction d with
    | zero =>
      intro i hi
      refine Ev.step (fun k => by rw [thermionref07_Check.l1]) ?_
      exact Ev.neg (by omega) (Ev.done rfl)
    | succ d ih =>
      intro i hi
      refine Ev.step (fun k => by rw [thermionref07_Check.l1]) (Ev.pos (by omega) ?_)
      obtain ⟨c, hc⟩ := refChain_any hb h20 (l.length + 1) i [] (by omega) (by simp)
      have hc' : Ev (fun k => thermionref07_chain.f k l i) (c, decide (afterGo l (l.length + 1) i < 0)) := hc
      refine Ev.bind hc' ?_
      have he := endsP_after hb i (by omega) (by omega)
      rw [looseFrom]
      by_cases h : endsP l i
      · rw [if_pos h, decide_eq_true (he.1 h)]
        refine Ev.pos rfl ?_
        rw [wrap64_eq (by omega)]
        exact ih (i + 1) (by omega)
      · rw [if_neg h, decide_eq_false (fun h' => h (he.2 h'))]
        exact Ev.neg (by simp) (Ev.done rfl)
  have go : ∀ (d i : Nat), i + d = l.length → (∀ j, j < i → meterErr l.length (rd_T36 l j) = 0) → Ev (fun k => thermionref07_Check.l0 k l i) (if firstErr l.length (l.drop i) ≠ 0 then firstErr l.length (l.drop i) else looseFrom l l.length 0) := by
    intro d
    induction d with
    | zero =>
      intro i hi hall
      refine Ev.step (fun k => by rw [thermionref07_Check.l0]) (Ev.neg (by omega) ?_)
      rw [List.drop_of_length_le (by omega)]
      rw [if_neg (by simp [firstErr])]
      have hok : ∀ x ∈ l, MeterOk l.length x := fun x hx => by
        obtain ⟨j, hj, rfl⟩ := List.getElem_of_mem hx
        have := meterErr_zero (hall j (by omega))
        unfold rd_T36 at this
        rw [Int.toNat_natCast, List.getD_eq_getElem?_getD, List.getElem?_eq_getElem hj] at this
        exact this
      exact loose hok l.length 0 (by omega)
    | succ d ih =>
      intro i hi hall
      refine Ev.step (fun k => by rw [thermionref07_Check.l0]) (Ev.pos (by omega) (Ev.pos (by omega) ?_))
      rw [firstErr_drop _ l i (by omega), wrap64_eq (n := (l.length : Int) - 1) (by omega), wrap64_eq (n := (i : Int) + 1) (by omega)]
      refine Ev.bind (refMaking_ev _ _ _ _ _ _ _) ?_
      obtain ⟨x, hx⟩ : ∃ x, x = rd_T36 l i := ⟨_, rfl⟩
      rw [← hx]
      have hnext : meterErr l.length x = 0 → Ev (fun k => thermionref07_Check.l0 k l ((i : Int) + 1)) (if firstErr l.length (l.drop (i + 1)) ≠ 0 then firstErr l.length (l.drop (i + 1)) else looseFrom l l.length 0) := fun h0 => ih (i + 1) (by omega) (fun j hj => by
        by_cases e : j = i
        · subst e; rw [← hx]; exact h0
        · exact hall j (by omega))
      by_cases h1 : makingErr x.f0.f0 x.f0.f1 x.f1.f0 x.f1.f1 = 0
      · refine Ev.pos h1 ?_
        have e : meterErr l.length x = if x.f2 < 1 ∨ x.f2 > 1000000 ∨ x.f4 < 0 ∨ x.f4 > 1000000000 ∨ x.f3 < -1 ∨ x.f3 > (l.length : Int) - 1 then 2 else 0 := by unfold meterErr; rw [if_neg (by omega)]
        by_cases h2 : 1 ≤ x.f2 ∧ x.f2 ≤ 1000000
        · refine Ev.call (beyond_false h2) (Ev.neg (by decide) ?_)
          by_cases h3 : 0 ≤ x.f4 ∧ x.f4 ≤ 1000000000
          · refine Ev.call (beyond_false h3) (Ev.neg (by decide) ?_)
            by_cases h4 : -1 ≤ x.f3 ∧ x.f3 ≤ (l.length : Int) - 1
            · refine Ev.call (beyond_false h4) (Ev.neg (by decide) ?_)
              rw [if_neg (by omega)] at e
              have h5 : ¬ (if meterErr l.length x ≠ 0 then meterErr l.length x else firstErr l.length (l.drop (i + 1))) ≠ (if meterErr l.length x ≠ 0 then meterErr l.length x else firstErr l.length (l.drop (i + 1))) := by simp
              simp only [e, ne_eq, not_true_eq_false, if_false]
              exact hnext e
            · rw [if_pos (by omega)] at e
              refine Ev.call (beyond_true (by omega)) (Ev.pos rfl (Ev.done ?_))
              simp [e]
          · rw [if_pos (by omega)] at e
            refine Ev.call (beyond_true (by omega)) (Ev.pos rfl (Ev.done ?_))
            simp [e]
        · rw [if_pos (by omega)] at e
          refine Ev.call (beyond_true (by omega)) (Ev.pos rfl (Ev.done ?_))
          simp [e]
      · refine Ev.neg h1 (Ev.done ?_)
        have e : meterErr l.length x = makingErr x.f0.f0 x.f0.f1 x.f1.f0 x.f1.f1 := by unfold meterErr; rw [if_pos h1]
        rw [e]
        simp [h1]
  have := go l.length 0 (by omega) (fun j hj => by omega)
  rw [List.drop_zero] at this
  exact this
/-! ### what a meter may show -/
def hiK (l : List S36) (k x : Int) : Int := hiEnd (rd_T36 l k).f0.f0 (rd_T36 l k).f0.f1 (rd_T36 l k).f1.f1 x
def loK (l : List S36) (k x : Int) : Int := loEnd (rd_T36 l k).f0.f0 (rd_T36 l k).f0.f1 (rd_T36 l k).f1.f0 x
/-- The first meter of a chain may make y of a value x. -/
def SeenBy (l : List S36) : List Int → Int → Int → Prop
  | [], x, y => y = x
  | k :: c, x, y => ∃ z, SeenBy l c x z ∧ loK l k z ≤ y ∧ y ≤ hiK l k z
theorem seen_source {l : List S36} (hb : BenchOk l) : ∀ (c : List Int) (x y : Int) (s : Int × Int × Bool), (∀ k ∈ c, 0 ≤ k ∧ k < (l.length : Int)) → SeenBy l c x y → s.1 ≤ y → y ≤ s.2.1 → s.2.2 = true →
    (srcFold l c s).1 ≤ x ∧ x ≤ (srcFold l c s).2.1 ∧ (srcFold l c s).2.2 = true := by
  intro c
  induction c with
  | nil => intro x y s _ h h1 h2 h3; cases h; exact ⟨h1, h2, h3⟩
  | cons k c ih =>
    intro x y s hc h h1 h2 h3
    obtain ⟨z, hz, z0, z1⟩ := h
    obtain ⟨k0, k1⟩ := hc k (by simp)
    obtain ⟨hm, _⟩ := hb.at k k0 k1
    unfold loK at z0
    unfold hiK at z1
    have a1 := (backLo_iff hm s.1 z).1 (by omega)
    have a2 : ¬ (backHi (rd_T36 l k).f0.f0 (rd_T36 l k).f0.f1 (rd_T36 l k).f1.f0 s.2.1 + 1 ≤ z) := fun h => by
      have := (backHi_iff hm s.2.1 z).2 h
      omega
    refine ih x z (srcStep l s k) (fun q hq => hc q (by simp [hq])) hz a1 ?_ ?_
    · show z ≤ backHi (rd_T36 l k).f0.f0 (rd_T36 l k).f0.f1 (rd_T36 l k).f1.f0 s.2.1
      omega
    · show (s.2.2 && decide (backLo _ _ _ s.1 ≤ backHi _ _ _ s.2.1)) = true
      rw [h3, decide_eq_true (by omega)]
      rfl
theorem refDown_eq {n d : Int} (hd : 0 < d) (h : -9223372036854775808 ≤ n ∧ n ≤ 9223372036854775807) : thermionref07_Down.f n d = some (n / d) := by
  have e := tdown (n := n) hd
  have b := tdiv_bound hd h
  unfold thermionref07_Down.f
  rw [if_neg (by omega)]
  by_cases c : Int.tmod n d < 0
  · rw [if_pos c] at e ⊢
    rw [wrap64_eq (n := Int.tdiv n d) ⟨b.1, b.2.1⟩, wrap64_eq ⟨b.2.2 c, by omega⟩, e]
  · rw [if_neg c] at e ⊢
    rw [wrap64_eq ⟨b.1, b.2.1⟩, e]
theorem refMade_eq {a0 a1 a2 a3 : Int} (a4 a5 a6 : Int) {x : Int} (h : meterOk a0 a1 a2 a3) (x0 : -4398046511104 ≤ x) (x1 : x ≤ 4398046511104) : thermionref07_Made.f a0 a1 a2 a3 a4 a5 a6 x = some (loEnd a0 a1 a2 x, hiEnd a0 a1 a3 x) := by
  obtain ⟨g0, g1, g2, o0, o1, o2⟩ := h
  have m0 := mul_within x0 x1 (show 0 ≤ a0 by omega) (show a0 ≤ 2000000 by omega) (by omega)
  have m1 := mul_within x0 x1 (show 0 ≤ a1 by omega) (show a1 ≤ 2000000 by omega) (by omega)
  unfold thermionref07_Made.f thermionref07_Up.f loEnd hiEnd
  by_cases hx : x < 0
  · have hle : x * a1 ≤ x * a0 := Int.mul_le_mul_of_nonpos_left (show x ≤ 0 by omega) g1
    rw [if_pos hx, wrap64_eq (n := x * a1) (by omega), wrap64_eq (n := x * a0) (by omega), wrap64_eq (n := -(x * a0)) (by omega), refDown_eq (by omega) (by omega), refDown_eq (by omega) (by omega)]
    simp only [Option.bind_some]
    rw [wrap64_eq (n := -(-(x * a0) / 1000000)) (by omega), wrap64_eq (n := x * a1 / 1000000 + a2) (by omega), wrap64_eq (by omega), Int.min_eq_right hle, Int.max_eq_left hle]
  · have hle : x * a0 ≤ x * a1 := Int.mul_le_mul_of_nonneg_left g1 (by omega)
    rw [if_neg hx, wrap64_eq (n := x * a0) (by omega), wrap64_eq (n := x * a1) (by omega), wrap64_eq (n := -(x * a1)) (by omega), refDown_eq (by omega) (by omega), refDown_eq (by omega) (by omega)]
    simp only [Option.bind_some]
    rw [wrap64_eq (n := -(-(x * a1) / 1000000)) (by omega), wrap64_eq (n := x * a0 / 1000000 + a2) (by omega), wrap64_eq (by omega), Int.min_eq_left hle, Int.max_eq_right hle]
theorem ends_bound {a0 a1 a2 a3 x B : Int} (h : meterOk a0 a1 a2 a3) (x0 : -B ≤ x) (x1 : x ≤ B) : -(2 * B + 1000001) ≤ loEnd a0 a1 a2 x ∧ loEnd a0 a1 a2 x ≤ hiEnd a0 a1 a3 x ∧ hiEnd a0 a1 a3 x ≤ 2 * B + 1000001 := by
  obtain ⟨g0, g1, g2, o0, o1, o2⟩ := h
  have m0 := mul_within x0 x1 (show 0 ≤ a0 by omega) (show a0 ≤ 2000000 by omega) (by omega)
  have m1 := mul_within x0 x1 (show 0 ≤ a1 by omega) (show a1 ≤ 2000000 by omega) (by omega)
  unfold loEnd hiEnd
  omega
/-- How far a value may be seen after n meters. -/
def seenBd (B : Int) : Nat → Int
  | 0 => B
  | n + 1 => 2 * seenBd B n + 1000001
theorem seenBd_mono {B : Int} (h : 0 ≤ B) : ∀ n k : Nat, n ≤ k → 0 ≤ seenBd B n ∧ seenBd B n ≤ seenBd B k := by
  intro n k hk
  have pos : ∀ n, 0 ≤ seenBd B n := by
    intro n
    induction n with
    | zero => exact h
    | succ n ih => unfold seenBd; omega
  obtain ⟨d, rfl⟩ := Nat.exists_eq_add_of_le hk
  clear hk
  refine ⟨pos n, ?_⟩
  induction d with
  | zero => exact Int.le_refl _
  | succ d ih =>
    have := pos (n + d)
    show seenBd B n ≤ 2 * seenBd B (n + d) + 1000001
    omega
theorem one_some (s : Int) : ∃ b s', thermionkit_Dice_One.f s 2 = some (b, s') := by
  obtain ⟨v, s', e, _, _⟩ := upto_some s 2 (by omega) (by omega)
  unfold thermionkit_Dice_One.f
  rw [e]
  exact ⟨_, _, rfl⟩
theorem showing_l {l : List S36} (hb : BenchOk l) {m x : Int} (m0 : 0 ≤ m) (m1 : m < l.length) (hst : 1 ≤ (rd_T36 l m).f2 ∧ (rd_T36 l m).f2 ≤ 1000) (c : List Int) (hcl : c.length ≤ 12) (hc : ∀ k ∈ c, 0 ≤ k ∧ k < (l.length : Int)) (st : Int) (st0 : 0 ≤ st) (st1 : st < 3) (B : Int) (B0 : 0 ≤ B) (hB : seenBd B c.length ≤ 1000000000000) :
    ∀ (j : Nat) (z s : Int), j ≤ c.length → SeenBy l (c.drop j) x z → -(seenBd B (c.length - j)) ≤ z → z ≤ seenBd B (c.length - j) →
    ∃ n s' y, Ev (fun k => thermionkit_Showing.l0 k l m z c st ((j : Int) - 1) s) (n, s') ∧ SeenBy l c x y ∧ -(seenBd B c.length) ≤ y ∧ y ≤ seenBd B c.length ∧ Int.tmod n (rd_T36 l m).f2 = 0 ∧ 2 * (n - y) ≤ (rd_T36 l m).f2 ∧ 2 * (y - n) ≤ (rd_T36 l m).f2 := by
  intro j
  induction j with
  | zero =>
    intro z s _ hz z0 z1
    rw [Nat.sub_zero] at z0 z1
    rw [List.drop_zero] at hz
    obtain ⟨d, hd⟩ : ∃ d, d = (rd_T36 l m).f2 := ⟨_, rfl⟩
    rw [← hd] at hst ⊢
    have dm := Int.mul_ediv_add_emod z d
    have e0 := Int.emod_nonneg z (show d ≠ 0 by omega)
    have e1 := Int.emod_lt_of_pos z (show 0 < d by omega)
    rw [Int.mul_comm] at dm
    obtain ⟨q, hq⟩ : ∃ q, q = z / d * d := ⟨_, rfl⟩
    have tm0 : Int.tmod q d = 0 := by rw [hq]; exact Int.mul_tmod_left _ _
    have tm1 : Int.tmod (q + d) d = 0 := by
      rw [hq, show z / d * d + d = (z / d + 1) * d by rw [Int.add_mul, Int.one_mul]]
      exact Int.mul_tmod_left _ _
    have step : ∀ {n s'}, Ev (fun k => if (2 * (z - q)) > d then some (q + d, s) else if 2 * (z - q) = d then (thermionkit_Dice_One.f s 2).bind fun bt => (if bt.1 = true then some (q + d, bt.2) else some (q, bt.2)) else some (q, s)) (n, s') →
        Ev (fun k => thermionkit_Showing.l0 k l m z c st (((0 : Nat) : Int) - 1) s) (n, s') := by
      intro n s' h
      refine Ev.step (fun k => by rw [thermionkit_Showing.l0]) ?_
      refine Ev.neg (by omega) (Ev.pos m0 (Ev.pos m1 ?_))
      rw [← hd]
      refine Ev.call (refDown_eq (by omega) (by omega)) ?_
      rw [← hq, wrap64_eq (n := q) (by omega), wrap64_eq (n := z - q) (by omega), wrap64_eq (n := 2 * (z - q)) (by omega), wrap64_eq (n := q + d) (by omega)]
      exact h
    by_cases h1 : 2 * (z - q) > d
    · exact ⟨q + d, s, z, step (Ev.pos h1 (Ev.done rfl)), hz, z0, z1, tm1, by omega, by omega⟩
    · by_cases h2 : 2 * (z - q) = d
      · obtain ⟨b, s1, e⟩ := one_some s
        cases b with
        | true => exact ⟨q + d, s1, z, step (Ev.neg h1 (Ev.pos h2 (Ev.call e (Ev.pos rfl (Ev.done rfl))))), hz, z0, z1, tm1, by omega, by omega⟩
        | false => exact ⟨q, s1, z, step (Ev.neg h1 (Ev.pos h2 (Ev.call e (Ev.neg (by simp) (Ev.done rfl))))), hz, z0, z1, tm0, by omega, by omega⟩
      · exact ⟨q, s, z, step (Ev.neg h1 (Ev.neg h2 (Ev.done rfl))), hz, z0, z1, tm0, by omega, by omega⟩
  | succ j ih =>
    intro z s hj hz z0 z1
    obtain ⟨k, hk⟩ : ∃ k, k = rd c j := ⟨_, rfl⟩
    have hkc : c.drop j = k :: c.drop (j + 1) := by
      rw [List.drop_eq_getElem_cons (by omega), hk]
      unfold rd
      rw [Int.toNat_natCast, List.getD_eq_getElem?_getD, List.getElem?_eq_getElem (by omega), Option.getD_some]
    have hmem : k ∈ c := List.mem_of_mem_drop (by rw [hkc]; simp : k ∈ c.drop j)
    obtain ⟨k0, k1⟩ := hc k hmem
    obtain ⟨hm, _⟩ := hb.at k k0 k1
    have bm := seenBd_mono B0 (c.length - (j + 1)) c.length (by omega)
    have be := ends_bound hm z0 z1
    have hbd : seenBd B (c.length - j) = 2 * seenBd B (c.length - (j + 1)) + 1000001 := by
      rw [show c.length - j = (c.length - (j + 1)) + 1 by omega]; rfl
    have bm2 := seenBd_mono B0 (c.length - j) c.length (by omega)
    obtain ⟨v, s1, ev, v0, v1⟩ := between_some s (loEnd (rd_T36 l k).f0.f0 (rd_T36 l k).f0.f1 (rd_T36 l k).f1.f0 z) (hiEnd (rd_T36 l k).f0.f0 (rd_T36 l k).f0.f1 (rd_T36 l k).f1.f1 z) be.2.1 (by omega) (by omega)
    obtain ⟨u, hu, u0, u1⟩ : ∃ u, rd [loEnd (rd_T36 l k).f0.f0 (rd_T36 l k).f0.f1 (rd_T36 l k).f1.f0 z, hiEnd (rd_T36 l k).f0.f0 (rd_T36 l k).f0.f1 (rd_T36 l k).f1.f1 z, v] st = u ∧ loEnd (rd_T36 l k).f0.f0 (rd_T36 l k).f0.f1 (rd_T36 l k).f1.f0 z ≤ u ∧ u ≤ hiEnd (rd_T36 l k).f0.f0 (rd_T36 l k).f0.f1 (rd_T36 l k).f1.f1 z := by
      refine ⟨_, rfl, ?_⟩
      rcases rd3 (loEnd (rd_T36 l k).f0.f0 (rd_T36 l k).f0.f1 (rd_T36 l k).f1.f0 z) (hiEnd (rd_T36 l k).f0.f0 (rd_T36 l k).f0.f1 (rd_T36 l k).f1.f1 z) v st st0 st1 with h | h | h <;> omega
    obtain ⟨n, s', y, hE, hrest⟩ := ih u s1 (by omega) (by rw [hkc]; exact ⟨z, hz, u0, u1⟩) (by omega) (by omega)
    refine ⟨n, s', y, ?_, hrest⟩
    refine Ev.step (fun k => by rw [thermionkit_Showing.l0]) ?_
    rw [show (((j + 1 : Nat) : Int) - 1) = (j : Int) by omega, ← hk]
    refine Ev.pos (by omega) (Ev.pos (by omega) (Ev.pos (by omega) (Ev.pos k0 (Ev.pos k1 ?_))))
    refine Ev.call (refMade_eq _ _ _ hm (by omega) (by omega)) ?_
    have ein : thermionkit_Dice_In.f s (loEnd (rd_T36 l k).f0.f0 (rd_T36 l k).f0.f1 (rd_T36 l k).f1.f0 z) (hiEnd (rd_T36 l k).f0.f0 (rd_T36 l k).f0.f1 (rd_T36 l k).f1.f1 z) = some (v, s1) := by
      unfold thermionkit_Dice_In.f
      rw [mx_eq, Int.max_eq_right be.2.1, ev]
      rfl
    refine Ev.call ein (Ev.call rfl ?_)
    refine Ev.pos st0 (Ev.pos (by simp; omega) ?_)
    rw [hu, wrap64_eq (n := (j : Int) - 1) (by omega)]
    exact hE
theorem refChainL_ev {l : List S36} (hb : BenchOk l) (hd : Down_ l) (m : Int) (m0 : 0 ≤ m) (m1 : m < l.length) : Ev (fun k => thermionref07_Chain.f k l m) (chainL l m) := by
  unfold thermionref07_Chain.f
  have h12 := hb.1
  have h := refCheck_ev l (by omega)
  rw [checkP_ok hb hd] at h
  refine Ev.bind h (Ev.pos rfl ?_)
  rw [wrap64_eq (by omega)]
  exact Ev.call (beyond_false ⟨m0, by omega⟩) (Ev.neg (by decide) (Ev.bind (refChain_ev hd h12 m m1 (by omega)) (Ev.done rfl)))
theorem chainL_mem {l : List S36} (hb : BenchOk l) {m : Int} (m1 : m < l.length) : ∀ k ∈ chainL l m, 0 ≤ k ∧ k < (l.length : Int) := chainGo_mem hb _ _ m1
theorem showing_ev {l : List S36} (hM : MadeBench l) (h5 : l.length ≤ 5) (s m x : Int) (m0 : 0 ≤ m) (m1 : m < l.length) (B : Int) (B0 : 0 ≤ B) (B1 : B ≤ 1000000000) (x0 : -B ≤ x) (x1 : x ≤ B) :
    ∃ n s' y, Ev (fun k => thermionkit_Showing.f k s l m x) (n, s') ∧ SeenBy l (chainL l m) x y ∧ -(32 * B + 31000031) ≤ y ∧ y ≤ 32 * B + 31000031 ∧ Int.tmod n (rd_T36 l m).f2 = 0 ∧ 2 * (n - y) ≤ (rd_T36 l m).f2 ∧ 2 * (y - n) ≤ (rd_T36 l m).f2 := by
  have hb := hM.ok (by omega)
  obtain ⟨_, _, _, _, _, _, a7, a8, _⟩ := hM.at m m0 m1
  obtain ⟨st, s1, e, st0, st1⟩ := upto_some s 3 (by omega) (by omega)
  have hlen : (chainL l m).length ≤ 5 := Nat.le_trans (chainGo_length l l.length m) h5
  have hbd := seenBd_mono B0 (chainL l m).length 5 hlen
  have hb5 : seenBd B 5 = 32 * B + 31000031 := by simp only [seenBd]; omega
  rw [hb5] at hbd
  obtain ⟨n, s', y, hE, hS, y0, y1, hr⟩ := showing_l hb m0 m1 ⟨a7, a8⟩ (chainL l m) (by omega) (chainL_mem hb m1) st st0 st1 B B0 (by omega) (chainL l m).length x s1 (Nat.le_refl _) (by rw [List.drop_length]; rfl) (by rw [Nat.sub_self]; exact x0) (by rw [Nat.sub_self]; exact x1)
  refine ⟨n, s', y, ?_, hS, by omega, by omega, hr⟩
  unfold thermionkit_Showing.f
  refine Ev.bind (refChainL_ev hb hM.down m m0 m1) (Ev.call e ?_)
  rw [wrap64_eq (by omega)]
  exact hE
/-! ### dice, and true values of what was seen -/
theorem mod_any (a m : Int) (h0 : 1 ≤ m) (h1 : m ≤ 4000000000000) : ∃ t, thermionkit_Mod.f a m = some t ∧ 0 ≤ t ∧ t < m := by
  unfold thermionkit_Mod.f
  have u := Int.tmod_lt_of_pos a (show 0 < m by omega)
  have l := Int.tmod_lt_of_pos (-a) (show 0 < m by omega)
  rw [Int.neg_tmod] at l
  rw [if_neg (by omega), if_neg (by omega)]
  by_cases c : Int.tmod a m < 0
  · rw [if_pos c, wrap64_eq (by omega)]
    exact ⟨_, rfl, by omega, by omega⟩
  · rw [if_neg c]
    exact ⟨_, rfl, by omega, u⟩
theorem dice_some {l : List Int} (h : l.length ≤ maxLen) : thermionkit_NewDice.f l = some (diceOf l) := by
  unfold maxLen at h
  unfold thermionkit_NewDice.f
  rw [if_pos (by omega)]
theorem source_of_seen {l : List S36} (hb : BenchOk l) {m n x y : Int} (m1 : m < l.length) (hS : SeenBy l (chainL l m) x y) (d1 : 2 * (n - y) ≤ (rd_T36 l m).f2) (d2 : 2 * (y - n) ≤ (rd_T36 l m).f2) (x0 : -1000000000 ≤ x) (x1 : x ≤ 1000000000) :
    (sourceP l m n).2.2 = true ∧ (sourceP l m n).1 ≤ x ∧ x ≤ (sourceP l m n).2.1 := by
  obtain ⟨h1, h2, h3⟩ := seen_source hb (chainL l m) x y (srcStart l m n) (chainL_mem hb m1) hS (by show n - (rd_T36 l m).f2 / 2 ≤ y; omega) (by show y ≤ n + (rd_T36 l m).f2 / 2; omega) rfl
  unfold sourceP srcEnd
  generalize srcFold l (chainL l m) (srcStart l m n) = s at h1 h2 h3
  obtain ⟨a, b, c⟩ := s
  show (c && decide (max a (-1000000000) ≤ min b 1000000000)) = true ∧ max a (-1000000000) ≤ x ∧ x ≤ min b 1000000000
  have h3 : c = true := h3
  have h1 : a ≤ x := h1
  have h2 : x ≤ b := h2
  rw [h3, decide_eq_true (by omega)]
  exact ⟨rfl, by omega, by omega⟩
end Go.Proofs.Ytdbpobadeibjaaa.GD
namespace Go.Proofs.Ytdbpobadeibjaaa.Pure
open Go.RowKit Go.Proofs.Ytdbpobadeibjaaa.GD Go.Proofs.YtdbpobadeibjaaaW.PrintWords Go.Proofs.YtdbpobadeibjaaaW.PrintLast
/-! ### GaugeEnds -/
def seenLo (l : List S36) : List Int → Int → Int
  | [], x => x
  | k :: c, x => loK l k (seenLo l c x)
def seenHi (l : List S36) : List Int → Int → Int
  | [], x => x
  | k :: c, x => hiK l k (seenHi l c x)
theorem seen_iff {l : List S36} (hb : BenchOk l) : ∀ (c : List Int) (x : Int) (s : Int × Int × Bool), (∀ k ∈ c, 0 ≤ k ∧ k < (l.length : Int)) →
    (s.1 ≤ seenHi l c x ↔ (srcFold l c s).1 ≤ x) ∧ (seenLo l c x ≤ s.2.1 ↔ x ≤ (srcFold l c s).2.1) := by
  intro c
  induction c with
  | nil => intro x s _; exact ⟨Iff.rfl, Iff.rfl⟩
  | cons k c ih =>
    intro x s hc
    obtain ⟨k0, k1⟩ := hc k (by simp)
    obtain ⟨hm, _⟩ := hb.at k k0 k1
    obtain ⟨i1, i2⟩ := ih x (srcStep l s k) (fun q hq => hc q (by simp [hq]))
    have j1 := backLo_iff hm s.1 (seenHi l c x)
    have j2 := backHi_iff hm s.2.1 (seenLo l c x)
    refine ⟨j1.trans i1, Iff.trans ?_ i2⟩
    show loEnd _ _ _ (seenLo l c x) ≤ s.2.1 ↔ seenLo l c x ≤ backHi _ _ _ s.2.1
    omega
theorem seen_bounds {l : List S36} (hb : BenchOk l) {x B : Int} (x0 : -B ≤ x) (x1 : x ≤ B) : ∀ c : List Int, (∀ k ∈ c, 0 ≤ k ∧ k < (l.length : Int)) →
    -(seenBd B c.length) ≤ seenLo l c x ∧ seenLo l c x ≤ seenHi l c x ∧ seenHi l c x ≤ seenBd B c.length := by
  intro c
  induction c with
  | nil => intro _; exact ⟨x0, Int.le_refl _, x1⟩
  | cons k c ih =>
    intro hc
    obtain ⟨k0, k1⟩ := hc k (by simp)
    obtain ⟨hm, _⟩ := hb.at k k0 k1
    obtain ⟨b1, b2, b3⟩ := ih (fun q hq => hc q (by simp [hq]))
    have e1 := ends_bound hm b1 (show seenLo l c x ≤ seenBd B c.length by omega)
    have e2 := ends_bound hm (show -(seenBd B c.length) ≤ seenHi l c x by omega) b3
    have mono : hiEnd (rd_T36 l k).f0.f0 (rd_T36 l k).f0.f1 (rd_T36 l k).f1.f1 (seenLo l c x) ≤ hiEnd (rd_T36 l k).f0.f0 (rd_T36 l k).f0.f1 (rd_T36 l k).f1.f1 (seenHi l c x) := by
      have a := (backLo_iff hm (hiEnd (rd_T36 l k).f0.f0 (rd_T36 l k).f0.f1 (rd_T36 l k).f1.f1 (seenLo l c x)) (seenLo l c x)).1 (Int.le_refl _)
      exact (backLo_iff hm _ (seenHi l c x)).2 (by omega)
    refine ⟨?_, ?_, ?_⟩
    · show -(2 * seenBd B c.length + 1000001) ≤ loEnd _ _ _ (seenLo l c x)
      exact e1.1
    · show loEnd _ _ _ (seenLo l c x) ≤ hiEnd _ _ _ (seenHi l c x)
      have := e1.2.1
      omega
    · show hiEnd _ _ _ (seenHi l c x) ≤ 2 * seenBd B c.length + 1000001
      exact e2.2.2
theorem seen_l {l : List S36} (hb : BenchOk l) (c : List Int) (hcl : c.length ≤ 12) (hc : ∀ k ∈ c, 0 ≤ k ∧ k < (l.length : Int)) {x B : Int} (x0 : -B ≤ x) (x1 : x ≤ B) (B0 : 0 ≤ B) (hB : seenBd B c.length ≤ 1000000000000) :
    ∀ j : Nat, j ≤ c.length → Ev (fun k => thermionlaw07_seen.l0 k l c ((j : Int) - 1) (seenLo l (c.drop j) x) (seenHi l (c.drop j) x)) (seenLo l c x, seenHi l c x) := by
  intro j
  induction j with
  | zero =>
    intro _
    refine Ev.step (fun k => by rw [thermionlaw07_seen.l0]) (Ev.neg (by omega) (Ev.done ?_))
    rw [List.drop_zero]
  | succ j ih =>
    intro hj
    obtain ⟨k, hk⟩ : ∃ k, k = rd c j := ⟨_, rfl⟩
    have hkc : c.drop j = k :: c.drop (j + 1) := by
      rw [List.drop_eq_getElem_cons (by omega), hk]
      unfold rd
      rw [Int.toNat_natCast, List.getD_eq_getElem?_getD, List.getElem?_eq_getElem (by omega), Option.getD_some]
    have hmem : k ∈ c := List.mem_of_mem_drop (by rw [hkc]; simp : k ∈ c.drop j)
    obtain ⟨k0, k1⟩ := hc k hmem
    obtain ⟨hm, _⟩ := hb.at k k0 k1
    have sb := seen_bounds hb x0 x1 (c.drop (j + 1)) (fun q hq => hc q (List.mem_of_mem_drop hq))
    have bm := seenBd_mono B0 (c.drop (j + 1)).length c.length (by rw [List.length_drop]; omega)
    refine Ev.step (fun k => by rw [thermionlaw07_seen.l0]) ?_
    rw [show (((j + 1 : Nat) : Int) - 1) = (j : Int) by omega, ← hk]
    refine Ev.pos (by omega) (Ev.pos (by omega) (Ev.pos (by omega) (Ev.pos k0 (Ev.pos k1 ?_))))
    refine Ev.call (refMade_eq _ _ _ hm (by omega) (by omega)) (Ev.call (refMade_eq _ _ _ hm (by omega) (by omega)) (Ev.call rfl ?_))
    have := ih (by omega)
    rw [hkc] at this
    rw [wrap64_eq (n := (j : Int) - 1) (by omega)]
    exact this
theorem shows_ev {l : List S36} (hM : MadeBench l) (h5 : l.length ≤ 5) {m x n B : Int} (m0 : 0 ≤ m) (m1 : m < l.length) (x0 : -B ≤ x) (x1 : x ≤ B) (B0 : 0 ≤ B) (B1 : B ≤ 1000000000) (n0 : -1000000000 ≤ n) (n1 : n ≤ 1000000000) :
    Ev (fun k => thermionlaw07_shows.f k l m x n) (decide ((srcFold l (chainL l m) (srcStart l m n)).1 ≤ x ∧ x ≤ (srcFold l (chainL l m) (srcStart l m n)).2.1)) := by
  have hb := hM.ok (by omega)
  have hc := chainL_mem hb m1
  obtain ⟨_, _, _, _, _, _, a7, a8, _⟩ := hM.at m m0 m1
  have hlen : (chainL l m).length ≤ 5 := Nat.le_trans (chainGo_length l l.length m) h5
  have hbd := seenBd_mono B0 (chainL l m).length 5 hlen
  have hb5 : seenBd B 5 = 32 * B + 31000031 := by simp only [seenBd]; omega
  rw [hb5] at hbd
  have sb := seen_bounds hb x0 x1 (chainL l m) hc
  obtain ⟨i1, i2⟩ := seen_iff hb (chainL l m) x (srcStart l m n) hc
  have hs := seen_l hb (chainL l m) (by omega) hc x0 x1 B0 (by omega) (chainL l m).length (Nat.le_refl _)
  rw [List.drop_length] at hs
  have hf : Ev (fun k => thermionlaw07_seen.f k l m x) (seenLo l (chainL l m) x, seenHi l (chainL l m) x) := by
    unfold thermionlaw07_seen.f
    refine Ev.bind (refChainL_ev hb hM.down m m0 m1) (Ev.call rfl ?_)
    rw [wrap64_eq (by omega)]
    exact hs
  unfold thermionlaw07_shows.f
  refine Ev.bind hf (Ev.pos m0 (Ev.pos m1 (Ev.done (congrArg some ?_))))
  have i1 : n - (rd_T36 l m).f2 / 2 ≤ seenHi l (chainL l m) x ↔ _ := i1
  have i2 : seenLo l (chainL l m) x ≤ n + (rd_T36 l m).f2 / 2 ↔ _ := i2
  generalize seenLo l (chainL l m) x = a at sb i2 ⊢
  generalize seenHi l (chainL l m) x = b at sb i1 ⊢
  generalize (rd_T36 l m).f2 = d at a7 a8 i1 i2 ⊢
  have key : ∀ A C : Int, (n - d / 2 ≤ b ↔ A ≤ x) → (a ≤ n + d / 2 ↔ x ≤ C) → decide (wrap64 (2 * mx (wrap64 (n - mn (mx n a) b)) (wrap64 (mn (mx n a) b - n))) ≤ d) = decide (A ≤ x ∧ x ≤ C) := by
    intro A C j1 j2
    rw [decide_eq_decide, mx_eq n a, mn_eq]
    obtain ⟨q, hq⟩ : ∃ q, q = min (max n a) b := ⟨_, rfl⟩
    rw [← hq, mx_eq, wrap64_eq (n := n - q) (by omega), wrap64_eq (n := q - n) (by omega), wrap64_eq (by omega)]
    omega
  exact key _ _ i1 i2
theorem srcFold_two {l : List S36} (hb : BenchOk l) {B : Int} : ∀ (c : List Int) (s : Int × Int × Bool), (∀ k ∈ c, 0 ≤ k ∧ k < (l.length : Int)) → c.length ≤ 2 → 0 ≤ B → -B ≤ s.1 → s.1 ≤ B → -B ≤ s.2.1 → s.2.1 ≤ B →
    (-(4 * B + 6000009) ≤ (srcFold l c s).1 ∧ (srcFold l c s).1 ≤ 4 * B + 6000009) ∧ -(4 * B + 6000009) ≤ (srcFold l c s).2.1 ∧ (srcFold l c s).2.1 ≤ 4 * B + 6000009 := by
  intro c s hc hl hB h1 h2 h3 h4
  match c, hl with
  | [], _ => exact ⟨⟨by show _ ≤ s.1; omega, by show s.1 ≤ _; omega⟩, by show _ ≤ s.2.1; omega, by show s.2.1 ≤ _; omega⟩
  | [k], _ =>
    obtain ⟨k0, k1⟩ := hc k (by simp)
    obtain ⟨hm, _⟩ := hb.at k k0 k1
    have a := backLo_bound hm h1 h2
    have b := backHi_bound hm h3 h4
    exact ⟨⟨by show _ ≤ backLo _ _ _ _; omega, by show backLo _ _ _ _ ≤ _; omega⟩, by show _ ≤ backHi _ _ _ _; omega, by show backHi _ _ _ _ ≤ _; omega⟩
  | [k, j], _ =>
    obtain ⟨k0, k1⟩ := hc k (by simp)
    obtain ⟨hm, _⟩ := hb.at k k0 k1
    obtain ⟨j0, j1⟩ := hc j (by simp)
    obtain ⟨hj, _⟩ := hb.at j j0 j1
    have a := backLo_bound hm h1 h2
    have b := backHi_bound hm h3 h4
    have a' := backLo_bound hj a.1 a.2
    have b' := backHi_bound hj b.1 b.2
    exact ⟨⟨by show _ ≤ backLo _ _ _ (backLo _ _ _ _); omega, by show backLo _ _ _ (backLo _ _ _ _) ≤ _; omega⟩, by show _ ≤ backHi _ _ _ (backHi _ _ _ _); omega, by show backHi _ _ _ (backHi _ _ _ _) ≤ _; omega⟩
theorem GaugeEnds : thermionlaw07_GaugeEnds.Pure := by
  intro l0 a1 a2 hl _ _ _ _
  refine Ev.rounds ?_
  unfold thermionlaw07_GaugeEnds.f
  refine Ev.call (dice_some hl) ?_
  obtain ⟨l, s1, e1, hM, h1, h2⟩ := bench_some (diceOf l0) 2 (by omega) (by omega)
  refine Ev.call e1 ?_
  obtain ⟨m, s2, e2, m0, m1⟩ := upto_some s1 (l.length : Int) (by omega) (by omega)
  refine Ev.call e2 ?_
  obtain ⟨t, e3, t0, t1⟩ := mod_any a1 200001 (by omega) (by omega)
  refine Ev.call e3 ?_
  rw [wrap64_eq (by omega)]
  have hb := hM.ok (by omega)
  have hck := checkP_ok hb hM.down
  obtain ⟨n', s3, y, hE, hS, y0, y1, ht', d1, d2⟩ := showing_ev hM (by omega) s2 m (t - 100000) m0 m1 100000 (by omega) (by omega) (by omega) (by omega)
  obtain ⟨_, _, _, _, _, _, a7, a8, _⟩ := hM.at m m0 m1
  refine Ev.bind hE (Ev.pos m0 (Ev.pos m1 ?_))
  obtain ⟨u, s4, e4, u0, u1⟩ := between_some s3 (-2) 2 (by omega) (by omega) (by omega)
  refine Ev.call e4 ?_
  have p := mul_within u0 u1 (show 0 ≤ (rd_T36 l m).f2 by omega) a8 (by omega)
  rw [Int.mul_comm u] at p
  have ht : Int.tmod (n' + (rd_T36 l m).f2 * u) (rd_T36 l m).f2 = 0 := Int.tmod_eq_zero_of_dvd (Int.dvd_add (Int.dvd_of_tmod_eq_zero ht') (Int.dvd_mul_right _ _))
  rw [wrap64_eq (n := (rd_T36 l m).f2 * u) (by omega), wrap64_eq (n := n' + (rd_T36 l m).f2 * u) (by omega)]
  obtain ⟨n, hn⟩ : ∃ n, n = n' + (rd_T36 l m).f2 * u := ⟨_, rfl⟩
  rw [← hn] at ht ⊢
  have n0 : -100000000 ≤ n := by omega
  have n1 : n ≤ 100000000 := by omega
  clear hn p
  refine Ev.call (true_eq hb hck m0 m1 (by omega) (by omega) ht) ?_
  by_cases hs : (sourceP l m n).2.2 = true
  · rw [if_pos hs]
    have fb := srcFold_two hb (B := 100000500) (chainL l m) (srcStart l m n) (chainL_mem hb m1) (Nat.le_trans (chainGo_length l l.length m) (by omega)) (by omega)
      (by show _ ≤ n - (rd_T36 l m).f2 / 2; omega) (by show n - (rd_T36 l m).f2 / 2 ≤ _; omega) (by show _ ≤ n + (rd_T36 l m).f2 / 2; omega) (by show n + (rd_T36 l m).f2 / 2 ≤ _; omega)
    have sh := fun (x : Int) (x0 : -1000000000 ≤ x) (x1 : x ≤ 1000000000) => shows_ev hM (by omega) (n := n) m0 m1 x0 x1 (by omega) (by omega) (by omega) (by omega)
    have es : sourceP l m n = srcEnd (srcFold l (chainL l m) (srcStart l m n)) := rfl
    rw [es] at hs ⊢
    generalize srcFold l (chainL l m) (srcStart l m n) = s at hs sh fb ⊢
    obtain ⟨a, b, c⟩ := s
    have sh : ∀ x : Int, -1000000000 ≤ x → x ≤ 1000000000 → Ev (fun k => thermionlaw07_shows.f k l m x n) (decide (a ≤ x ∧ x ≤ b)) := sh
    have hs : (c && decide (max a (-1000000000) ≤ min b 1000000000)) = true := hs
    have fb : (-(4 * 100000500 + 6000009) ≤ a ∧ a ≤ 4 * 100000500 + 6000009) ∧ -(4 * 100000500 + 6000009) ≤ b ∧ b ≤ 4 * 100000500 + 6000009 := fb
    rw [Bool.and_eq_true, decide_eq_true_eq] at hs
    have ea : max a (-1000000000) = a := by omega
    have eb : min b 1000000000 = b := by omega
    rw [ea, eb] at hs
    refine Ev.pos rfl ?_
    show Ev (fun k => if max a (-1000000000) > min b 1000000000 then thermionlaw07_GaugeEnds.j0 k a2 l m n true (max a (-1000000000)) (min b 1000000000) else if max a (-1000000000) < -500000000 then thermionlaw07_GaugeEnds.j0 k a2 l m n true (max a (-1000000000)) (min b 1000000000) else thermionlaw07_GaugeEnds.j0 k a2 l m n (decide (min b 1000000000 > 500000000)) (max a (-1000000000)) (min b 1000000000)) true
    rw [ea, eb]
    refine Ev.neg (by omega) (Ev.neg (by omega) ?_)
    rw [decide_eq_false (by omega)]
    refine Ev.step (fun k => by rw [thermionlaw07_GaugeEnds.j0]) (Ev.neg (by decide) ?_)
    obtain ⟨v, e5, v0, v1⟩ := mod_any a2 (b - a + 1) (by omega) (by omega)
    rw [wrap64_eq (n := b - a) (by omega), wrap64_eq (n := b - a + 1) (by omega)]
    refine Ev.call e5 ?_
    rw [wrap64_eq (n := a + v) (by omega), wrap64_eq (n := a - 1) (by omega), wrap64_eq (n := b + 1) (by omega)]
    have t1 := sh a (by omega) (by omega)
    have t2 := sh b (by omega) (by omega)
    have t3 := sh (a + v) (by omega) (by omega)
    have t4 := sh (a - 1) (by omega) (by omega)
    have t5 := sh (b + 1) (by omega) (by omega)
    rw [decide_eq_true (by omega)] at t1 t2 t3
    rw [decide_eq_false (by omega)] at t4 t5
    refine Ev.bind t1 (Ev.pos rfl (Ev.bind t2 (Ev.pos rfl (Ev.bind t3 (Ev.pos rfl (Ev.bind t4 (Ev.neg (by decide) (Ev.bind t5 (Ev.neg (by decide) (Ev.bind Ev.awake (Ev.done rfl)))))))))))
  · rw [if_neg hs]
    exact Ev.neg (by decide) (Ev.pos rfl (Ev.bind Ev.awake (Ev.done rfl)))
end Go.Proofs.Ytdbpobadeibjaaa.Pure
