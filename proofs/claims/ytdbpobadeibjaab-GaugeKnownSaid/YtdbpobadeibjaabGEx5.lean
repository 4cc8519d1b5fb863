-- written for this claim by a program of this session (wip/gp), over the kit's own printer; Lean checks it
import Derived.Test.YtdbpobadeibjaabGEx0
import Derived.Test.YtdbpobadeibjaabGEx3
import Derived.Test.YtdbpobadeibjaabGEx4
import Derived.Test.YtdbpobadeibjaabGEx12
namespace Go.Proofs.Ytdbpobadeibjaab.GE
open Go.RowKit Go.Proofs.YtdbpobadeibjaabW.PrintWords Go.Proofs.YtdbpobadeibjaabW.PrintLast Go.Proofs.YtdbpobadeibjaabW.PrintMore
attribute [local go_sem] max2_int min2_int max_two min_two max_three min_three max_four min_four
set_option linter.unusedVariables false
set_option linter.unusedSimpArgs false

--HAND
/-! ### thermionkit.BenchOf,by hand: function 10 -/
set_option maxHeartbeats 8000000 in
set_option maxRecDepth 100000 in
theorem BenchOf.region6 (A : Option Addr) (n c : Nat) (y : Int) {ops : Array Oper} (hops : (Try.f10.body.bind (regionOf 6)) = some ops) {Q : Exit → Act → World → Prop} {ds : List Deferred} {id : Nat} (g : Nat) (s0 s1 s2 s3 s4 s5 s6 s7 s8 s9 s10 : Int) (v0 : Int) (v1 : Int) (v2 : Int) (v3 : Int) (v4a v4b : Int) (v5 : Int) (v6 : Int) (v7 : Int) (v8 : Int) (v9 : Int) {x1 x2 x3 x4 x6 x8 x9 x10 x11 x12 x13 x14 x15 x16 x17 x18 x19 x20 x21 x22 x23 x24 x25 x26 x27 x28 x29 x30 x31 x32 x33 x34 x35 x36 x37 x38 x39 x40 x41 x42 x43 x44 x45 x46 x47 x48 x49 x50 x51 x52 x53 x54 x55 x56 x57 x58 x59 x60 x61 x62 x63 x64 x65 x66 x67 x68 x69 : Value} (w0 : World) {w : World} (hI : IsS65 w0 w g s0) (hb0 : Below w0.heap.size w0 w) (hn0 : n ≤ 1000) (h2 : 0 ≤ v2 ∧ v2 < 3) (h3 : 0 ≤ v3 ∧ v3 < 3) (h7 : 0 ≤ v7 ∧ v7 < 3) (hy : 0 ≤ y + rd [0,v0,v1] v2 ∧ y + rd [0,v0,v1] v2 ≤ 1000000000) (h4 : 0 ≤ rd [0,9,1000] v3 ∧ rd [0,9,1000] v3 ≤ 1000) (h9 : 0 ≤ v9 ∧ v9 ≤ 1000) (e0 : D_Upto.f s0 20000 = some (v0,s1)) (e1 : D_Upto.f s1 300000 = some (v1,s2)) (e2 : D_Upto.f s2 3 = some (v2,s3)) (e3 : D_Upto.f s3 3 = some (v3,s4)) (e4 : D_Range.f s4 (-(rd [0,9,1000] v3)) 9 = some (v4a,v4b,s5)) (e5 : D_Between.f s5 1 12 = some (v5,s6)) (e6 : D_Between.f s6 1 1000 = some (v6,s7)) (e7 : D_Upto.f s7 3 = some (v7,s8)) (e8 : D_Between.f s8 (-1) ((n : Int) - 1) = some (v8,s9)) (e9 : D_Upto.f s9 1000 = some (v9,s10))
  (K : ∀ (u25 u26 u27 u28 u29 u30 u31 u32 u33 u34 u35 u36 u37 u38 u39 u40 u41 u42 u43 u44 u45 u46 u47 u48 u49 u50 u51 u52 u53 u54 u55 u56 u57 u58 u59 u60 u61 u62 u63 u64 : Value) (b8 : Nat) (w' : World),IsS65 w0 w' g s10 → Below w0.heap.size w0 w' → KeepBut w w' g none → b8 ≠ g → w.heap.size ≤ b8 → w'.heap[b8]? = some (.cells #[.int .i64 y,.int .i64 (mn 2000000 (y + (rd [0,v0,v1] v2))),.int .i64 v4a,.int .i64 v4b,.int .i64 (rd [1,v5,v6] v7),.int .i64 v8,.int .i64 (1000 + v9)] 49 (0,0)) → Q .normal { tmps := (.pointer (some ⟨g,0,none⟩) :: x1 :: x2 :: x3 :: x4 :: .slice A n c :: x6 :: .int .i64 y :: .pointer (some ⟨b8,0,none⟩) :: x9 :: x10 :: x11 :: x12 :: x13 :: x14 :: x15 :: x16 :: x17 :: x18 :: x19 :: x20 :: x21 :: x22 :: x23 :: x24 :: u25 :: u26 :: u27 :: u28 :: u29 :: u30 :: u31 :: u32 :: u33 :: u34 :: u35 :: u36 :: u37 :: u38 :: u39 :: u40 :: u41 :: u42 :: u43 :: u44 :: u45 :: u46 :: u47 :: u48 :: u49 :: u50 :: u51 :: u52 :: u53 :: u54 :: u55 :: u56 :: u57 :: u58 :: u59 :: u60 :: u61 :: u62 :: u63 :: u64 :: x65 :: x66 :: x67 :: x68 :: x69 :: []).toArray,defers := ds } w') :
  (Code.region id ops true).wp Try.prog Q { tmps := (.pointer (some ⟨g,0,none⟩) :: x1 :: x2 :: x3 :: x4 :: .slice A n c :: x6 :: .int .i64 y :: x8 :: x9 :: x10 :: x11 :: x12 :: x13 :: x14 :: x15 :: x16 :: x17 :: x18 :: x19 :: x20 :: x21 :: x22 :: x23 :: x24 :: x25 :: x26 :: x27 :: x28 :: x29 :: x30 :: x31 :: x32 :: x33 :: x34 :: x35 :: x36 :: x37 :: x38 :: x39 :: x40 :: x41 :: x42 :: x43 :: x44 :: x45 :: x46 :: x47 :: x48 :: x49 :: x50 :: x51 :: x52 :: x53 :: x54 :: x55 :: x56 :: x57 :: x58 :: x59 :: x60 :: x61 :: x62 :: x63 :: x64 :: x65 :: x66 :: x67 :: x68 :: x69 :: []).toArray,defers := ds } w := by
 obtain rfl := Option.some.inj (show some _ = some ops from hops)
 have hn : (([(25,.val (.int .i64 y)),(26,.val (.int .i64 y)),(27,.val (.pointer (some ⟨g,0,none⟩))),(28,.val (.int .i64 v0)),(29,.val (.pointer (some ⟨g,0,none⟩))),(30,.val (.int .i64 v1)),(31,.row 3 #[.int .i64 0,.int .i64 v0,.int .i64 v1]),(32,.val (.pointer (some ⟨g,0,none⟩))),(33,.val (.int .i64 v2)),(34,.elem 3 #[.int .i64 0,.int .i64 v0,.int .i64 v1] (v2).toNat),(35,.val (.int .i64 (rd [0,v0,v1] v2))),(36,.val (.int .i64 (y + (rd [0,v0,v1] v2)))),(37,.val (.int .i64 (mn 2000000 (y + (rd [0,v0,v1] v2))))),(38,.val (.agg #[.int .i64 y,.int .i64 (mn 2000000 (y + (rd [0,v0,v1] v2)))])),(39,.val (.pointer (some ⟨g,0,none⟩))),(40,.row 3 #[.int .i64 0,.int .i64 9,.int .i64 1000]),(41,.val (.pointer (some ⟨g,0,none⟩))),(42,.val (.int .i64 v3)),(43,.elem 3 #[.int .i64 0,.int .i64 9,.int .i64 1000] (v3).toNat),(44,.val (.int .i64 (rd [0,9,1000] v3))),(45,.val (.int .i64 (-(rd [0,9,1000] v3)))),(46,.val (.agg #[.int .i64 v4a,.int .i64 v4b])),(47,.val (.pointer (some ⟨g,0,none⟩))),(48,.val (.int .i64 v5)),(49,.val (.pointer (some ⟨g,0,none⟩))),(50,.val (.int .i64 v6)),(51,.row 3 #[.int .i64 1,.int .i64 v5,.int .i64 v6]),(52,.val (.pointer (some ⟨g,0,none⟩))),(53,.val (.int .i64 v7)),(54,.elem 3 #[.int .i64 1,.int .i64 v5,.int .i64 v6] (v7).toNat),(55,.val (.int .i64 (rd [1,v5,v6] v7))),(56,.val (.pointer (some ⟨g,0,none⟩))),(57,.val (.slice A n c)),(58,.val (.int .i64 (n : Int))),(59,.val (.int .i64 ((n : Int) - 1))),(60,.val (.int .i64 v8)),(61,.val (.pointer (some ⟨g,0,none⟩))),(62,.val (.int .i64 v9)),(63,.val (.int .i64 (1000 + v9))),(64,.val (.agg #[.int .i64 y,.int .i64 (mn 2000000 (y + (rd [0,v0,v1] v2))),.int .i64 v4a,.int .i64 v4b,.int .i64 (rd [1,v5,v6] v7),.int .i64 v8,.int .i64 (1000 + v9)])),(8,.var 49 #[.int .i64 0,.int .i64 0,.int .i64 0,.int .i64 0,.int .i64 0,.int .i64 0,.int .i64 0] 41 #[.int .i64 y,.int .i64 (mn 2000000 (y + (rd [0,v0,v1] v2))),.int .i64 v4a,.int .i64 v4b,.int .i64 (rd [1,v5,v6] v7),.int .i64 v8,.int .i64 (1000 + v9)]),(1041,.set 40)] : List (Nat × Left)).map (·.1)).Nodup := by simp only [List.map_cons,List.map_nil];decide
 have hcn : ([3,5,8,17,21,23,25,28,35,37] : List Nat).Nodup := by decide
 refine wp_region_all 42 (by kernel_rfl) rfl (by kernel_rfl) (DiceAt g (fun k => ([s0,s1,s2,s3,s4,s5,s6,s7,s8,s9,s10] : List Int).getD k 0) [3,5,8,17,21,23,25,28,35,37] [(25,.val (.int .i64 y)),(26,.val (.int .i64 y)),(27,.val (.pointer (some ⟨g,0,none⟩))),(28,.val (.int .i64 v0)),(29,.val (.pointer (some ⟨g,0,none⟩))),(30,.val (.int .i64 v1)),(31,.row 3 #[.int .i64 0,.int .i64 v0,.int .i64 v1]),(32,.val (.pointer (some ⟨g,0,none⟩))),(33,.val (.int .i64 v2)),(34,.elem 3 #[.int .i64 0,.int .i64 v0,.int .i64 v1] (v2).toNat),(35,.val (.int .i64 (rd [0,v0,v1] v2))),(36,.val (.int .i64 (y + (rd [0,v0,v1] v2)))),(37,.val (.int .i64 (mn 2000000 (y + (rd [0,v0,v1] v2))))),(38,.val (.agg #[.int .i64 y,.int .i64 (mn 2000000 (y + (rd [0,v0,v1] v2)))])),(39,.val (.pointer (some ⟨g,0,none⟩))),(40,.row 3 #[.int .i64 0,.int .i64 9,.int .i64 1000]),(41,.val (.pointer (some ⟨g,0,none⟩))),(42,.val (.int .i64 v3)),(43,.elem 3 #[.int .i64 0,.int .i64 9,.int .i64 1000] (v3).toNat),(44,.val (.int .i64 (rd [0,9,1000] v3))),(45,.val (.int .i64 (-(rd [0,9,1000] v3)))),(46,.val (.agg #[.int .i64 v4a,.int .i64 v4b])),(47,.val (.pointer (some ⟨g,0,none⟩))),(48,.val (.int .i64 v5)),(49,.val (.pointer (some ⟨g,0,none⟩))),(50,.val (.int .i64 v6)),(51,.row 3 #[.int .i64 1,.int .i64 v5,.int .i64 v6]),(52,.val (.pointer (some ⟨g,0,none⟩))),(53,.val (.int .i64 v7)),(54,.elem 3 #[.int .i64 1,.int .i64 v5,.int .i64 v6] (v7).toNat),(55,.val (.int .i64 (rd [1,v5,v6] v7))),(56,.val (.pointer (some ⟨g,0,none⟩))),(57,.val (.slice A n c)),(58,.val (.int .i64 (n : Int))),(59,.val (.int .i64 ((n : Int) - 1))),(60,.val (.int .i64 v8)),(61,.val (.pointer (some ⟨g,0,none⟩))),(62,.val (.int .i64 v9)),(63,.val (.int .i64 (1000 + v9))),(64,.val (.agg #[.int .i64 y,.int .i64 (mn 2000000 (y + (rd [0,v0,v1] v2))),.int .i64 v4a,.int .i64 v4b,.int .i64 (rd [1,v5,v6] v7),.int .i64 v8,.int .i64 (1000 + v9)])),(8,.var 49 #[.int .i64 0,.int .i64 0,.int .i64 0,.int .i64 0,.int .i64 0,.int .i64 0,.int .i64 0] 41 #[.int .i64 y,.int .i64 (mn 2000000 (y + (rd [0,v0,v1] v2))),.int .i64 v4a,.int .i64 v4b,.int .i64 (rd [1,v5,v6] v7),.int .i64 v8,.int .i64 (1000 + v9)]),(1041,.set 40)] w0 w ((.pointer (some ⟨g,0,none⟩) :: x1 :: x2 :: x3 :: x4 :: .slice A n c :: x6 :: .int .i64 y :: x8 :: x9 :: x10 :: x11 :: x12 :: x13 :: x14 :: x15 :: x16 :: x17 :: x18 :: x19 :: x20 :: x21 :: x22 :: x23 :: x24 :: x25 :: x26 :: x27 :: x28 :: x29 :: x30 :: x31 :: x32 :: x33 :: x34 :: x35 :: x36 :: x37 :: x38 :: x39 :: x40 :: x41 :: x42 :: x43 :: x44 :: x45 :: x46 :: x47 :: x48 :: x49 :: x50 :: x51 :: x52 :: x53 :: x54 :: x55 :: x56 :: x57 :: x58 :: x59 :: x60 :: x61 :: x62 :: x63 :: x64 :: x65 :: x66 :: x67 :: x68 :: x69 :: []).toArray) ds) (DiceAt.start (n := 42) rfl hI hb0) ?_ ?_
 ·intro i o hi ho L a w h hL hf hall
  have hcase : i = 0 ∨ i = 1 ∨ i = 2 ∨ i = 3 ∨ i = 4 ∨ i = 5 ∨ i = 6 ∨ i = 7 ∨ i = 8 ∨ i = 9 ∨ i = 10 ∨ i = 11 ∨ i = 12 ∨ i = 13 ∨ i = 14 ∨ i = 15 ∨ i = 16 ∨ i = 17 ∨ i = 18 ∨ i = 19 ∨ i = 20 ∨ i = 21 ∨ i = 22 ∨ i = 23 ∨ i = 24 ∨ i = 25 ∨ i = 26 ∨ i = 27 ∨ i = 28 ∨ i = 29 ∨ i = 30 ∨ i = 31 ∨ i = 32 ∨ i = 33 ∨ i = 34 ∨ i = 35 ∨ i = 36 ∨ i = 37 ∨ i = 38 ∨ i = 39 ∨ i = 40 ∨ i = 41 := by omega
  clear hi K
  rcases hcase with rfl | rfl | rfl | rfl | rfl | rfl | rfl | rfl | rfl | rfl | rfl | rfl | rfl | rfl | rfl | rfl | rfl | rfl | rfl | rfl | rfl | rfl | rfl | rfl | rfl | rfl | rfl | rfl | rfl | rfl | rfl | rfl | rfl | rfl | rfl | rfl | rfl | rfl | rfl | rfl | rfl | rfl
  ·obtain rfl := Option.some.inj (show some _ = some o from ho)
   have f7 : a.tmps.getD 7 undef = .int .i64 y := h.rest 7 rfl
   exact h.op ho rfl rfl rfl hn (Nat.lt_of_lt_of_eq (by decide : 25 < 70) rfl) rfl (run_move w rfl f7) (Below.refl _ _) rfl rfl
  ·obtain rfl := Option.some.inj (show some _ = some o from ho)
   have f7 : a.tmps.getD 7 undef = .int .i64 y := h.rest 7 rfl
   exact h.op ho rfl rfl rfl hn (Nat.lt_of_lt_of_eq (by decide : 26 < 70) rfl) rfl (run_move w rfl f7) (Below.refl _ _) rfl rfl
  ·obtain rfl := Option.some.inj (show some _ = some o from ho)
   have f0 : a.tmps.getD 0 undef = .pointer (some ⟨g,0,none⟩) := h.rest 0 rfl
   exact h.op ho rfl rfl rfl hn (Nat.lt_of_lt_of_eq (by decide : 27 < 70) rfl) rfl (run_move w rfl f0) (Below.refl _ _) rfl rfl
  ·obtain rfl := Option.some.inj (show some _ = some o from ho)
   have l2 := listed_of hall 2 rfl
   have f27 : a.tmps.getD 27 undef = .pointer (some ⟨g,0,none⟩) := h.facts 2 _ _ rfl l2
   exact h.call (f := 13) (args := #[.pointer (some ⟨g,0,none⟩),.int .i64 20000]) ho rfl rfl rfl hn (Nat.lt_of_lt_of_eq (by decide : 28 < 70) rfl) (j := 0) rfl hcn hf rfl (fun _ h0 _ => absurd rfl h0) (by rw [hL];rfl) (run_call w rfl rfl (by simp only [List.map_toArray,List.map_cons,List.map_nil];rw [show a.eval (.tmp 27) = _ from f27];rfl) (enters_of Try.func13 (by kernel_rfl) rfl) rfl) (fun hI hB => D_Upto.calls g s0 20000 v0 s1 w0 w hI hB e0)
  ·obtain rfl := Option.some.inj (show some _ = some o from ho)
   have f0 : a.tmps.getD 0 undef = .pointer (some ⟨g,0,none⟩) := h.rest 0 rfl
   exact h.op ho rfl rfl rfl hn (Nat.lt_of_lt_of_eq (by decide : 29 < 70) rfl) rfl (run_move w rfl f0) (Below.refl _ _) rfl rfl
  ·obtain rfl := Option.some.inj (show some _ = some o from ho)
   have l4 := listed_of hall 4 rfl
   have f29 : a.tmps.getD 29 undef = .pointer (some ⟨g,0,none⟩) := h.facts 4 _ _ rfl l4
   exact h.call (f := 13) (args := #[.pointer (some ⟨g,0,none⟩),.int .i64 300000]) ho rfl rfl rfl hn (Nat.lt_of_lt_of_eq (by decide : 30 < 70) rfl) (j := 1) rfl hcn hf rfl (fun i' _ e => by obtain rfl := Option.some.inj (show some _ = some i' from e);exact listed_of hall 3 rfl) (by rw [hL];rfl) (run_call w rfl rfl (by simp only [List.map_toArray,List.map_cons,List.map_nil];rw [show a.eval (.tmp 29) = _ from f29];rfl) (enters_of Try.func13 (by kernel_rfl) rfl) rfl) (fun hI hB => D_Upto.calls g s1 300000 v1 s2 w0 w hI hB e1)
  ·obtain rfl := Option.some.inj (show some _ = some o from ho)
   have l3 := listed_of hall 3 rfl
   have f28 : a.tmps.getD 28 undef = .int .i64 v0 := h.facts 3 _ _ rfl l3
   have l5 := listed_of hall 5 rfl
   have f30 : a.tmps.getD 30 undef = .int .i64 v1 := h.facts 5 _ _ rfl l5
   exact h.op ho rfl rfl rfl hn (Nat.lt_of_lt_of_eq (by decide : 31 < 70) rfl) rfl (run_row3 w rfl rfl f28 f30) (bA_ (Below.refl _ _) _) rfl ⟨w.heap.size,h.fresh,rfl,heap_alloc_new w _⟩
  ·obtain rfl := Option.some.inj (show some _ = some o from ho)
   have f0 : a.tmps.getD 0 undef = .pointer (some ⟨g,0,none⟩) := h.rest 0 rfl
   exact h.op ho rfl rfl rfl hn (Nat.lt_of_lt_of_eq (by decide : 32 < 70) rfl) rfl (run_move w rfl f0) (Below.refl _ _) rfl rfl
  ·obtain rfl := Option.some.inj (show some _ = some o from ho)
   have l7 := listed_of hall 7 rfl
   have f32 : a.tmps.getD 32 undef = .pointer (some ⟨g,0,none⟩) := h.facts 7 _ _ rfl l7
   exact h.call (f := 13) (args := #[.pointer (some ⟨g,0,none⟩),.int .i64 3]) ho rfl rfl rfl hn (Nat.lt_of_lt_of_eq (by decide : 33 < 70) rfl) (j := 2) rfl hcn hf rfl (fun i' _ e => by obtain rfl := Option.some.inj (show some _ = some i' from e);exact listed_of hall 5 rfl) (by rw [hL];rfl) (run_call w rfl rfl (by simp only [List.map_toArray,List.map_cons,List.map_nil];rw [show a.eval (.tmp 32) = _ from f32];rfl) (enters_of Try.func13 (by kernel_rfl) rfl) rfl) (fun hI hB => D_Upto.calls g s2 3 v2 s3 w0 w hI hB e2)
  ·obtain rfl := Option.some.inj (show some _ = some o from ho)
   have l6 := listed_of hall 6 rfl
   obtain ⟨b_6,b1_6,b2_6,b3_6⟩ := h.facts 6 _ _ rfl l6
   have l8 := listed_of hall 8 rfl
   have f33 : a.tmps.getD 33 undef = .int .i64 v2 := h.facts 8 _ _ rfl l8
   exact h.op ho rfl rfl rfl hn (Nat.lt_of_lt_of_eq (by decide : 34 < 70) rfl) rfl (run_at w rfl b2_6 f33 (by omega) (by simp;omega)) (Below.refl _ _) rfl ⟨b_6,b1_6,rfl,b3_6⟩
  ·obtain rfl := Option.some.inj (show some _ = some o from ho)
   have l9 := listed_of hall 9 rfl
   obtain ⟨b_9,b1_9,b2_9,b3_9⟩ := h.facts 9 _ _ rfl l9
   exact h.op ho rfl rfl rfl hn (Nat.lt_of_lt_of_eq (by decide : 35 < 70) rfl) rfl (run_load w rfl b2_9 (cell_row3 b3_9 (by omega) (by omega))) (Below.refl _ _) rfl rfl
  ·obtain rfl := Option.some.inj (show some _ = some o from ho)
   have l1 := listed_of hall 1 rfl
   have f26 : a.tmps.getD 26 undef = .int .i64 y := h.facts 1 _ _ rfl l1
   have l10 := listed_of hall 10 rfl
   have f35 : a.tmps.getD 35 undef = .int .i64 (rd [0,v0,v1] v2) := h.facts 10 _ _ rfl l10
   exact h.op ho rfl rfl rfl hn (Nat.lt_of_lt_of_eq (by decide : 36 < 70) rfl) rfl (run_add w rfl f26 f35 (by omega) (by omega)) (Below.refl _ _) rfl rfl
  ·obtain rfl := Option.some.inj (show some _ = some o from ho)
   have l11 := listed_of hall 11 rfl
   have f36 : a.tmps.getD 36 undef = .int .i64 (y + (rd [0,v0,v1] v2)) := h.facts 11 _ _ rfl l11
   exact h.op ho rfl rfl rfl hn (Nat.lt_of_lt_of_eq (by decide : 37 < 70) rfl) rfl (run_min w rfl rfl rfl f36) (Below.refl _ _) rfl rfl
  ·obtain rfl := Option.some.inj (show some _ = some o from ho)
   have l0 := listed_of hall 0 rfl
   have f25 : a.tmps.getD 25 undef = .int .i64 y := h.facts 0 _ _ rfl l0
   have l12 := listed_of hall 12 rfl
   have f37 : a.tmps.getD 37 undef = .int .i64 (mn 2000000 (y + (rd [0,v0,v1] v2))) := h.facts 12 _ _ rfl l12
   exact h.op ho rfl rfl rfl hn (Nat.lt_of_lt_of_eq (by decide : 38 < 70) rfl) rfl (run_build2 w rfl f25 f37) (Below.refl _ _) rfl rfl
  ·obtain rfl := Option.some.inj (show some _ = some o from ho)
   have f0 : a.tmps.getD 0 undef = .pointer (some ⟨g,0,none⟩) := h.rest 0 rfl
   exact h.op ho rfl rfl rfl hn (Nat.lt_of_lt_of_eq (by decide : 39 < 70) rfl) rfl (run_move w rfl f0) (Below.refl _ _) rfl rfl
  ·obtain rfl := Option.some.inj (show some _ = some o from ho)
   exact h.op ho rfl rfl rfl hn (Nat.lt_of_lt_of_eq (by decide : 40 < 70) rfl) rfl (run_row3 w rfl rfl rfl rfl) (bA_ (Below.refl _ _) _) rfl ⟨w.heap.size,h.fresh,rfl,heap_alloc_new w _⟩
  ·obtain rfl := Option.some.inj (show some _ = some o from ho)
   have f0 : a.tmps.getD 0 undef = .pointer (some ⟨g,0,none⟩) := h.rest 0 rfl
   exact h.op ho rfl rfl rfl hn (Nat.lt_of_lt_of_eq (by decide : 41 < 70) rfl) rfl (run_move w rfl f0) (Below.refl _ _) rfl rfl
  ·obtain rfl := Option.some.inj (show some _ = some o from ho)
   have l16 := listed_of hall 16 rfl
   have f41 : a.tmps.getD 41 undef = .pointer (some ⟨g,0,none⟩) := h.facts 16 _ _ rfl l16
   exact h.call (f := 13) (args := #[.pointer (some ⟨g,0,none⟩),.int .i64 3]) ho rfl rfl rfl hn (Nat.lt_of_lt_of_eq (by decide : 42 < 70) rfl) (j := 3) rfl hcn hf rfl (fun i' _ e => by obtain rfl := Option.some.inj (show some _ = some i' from e);exact listed_of hall 8 rfl) (by rw [hL];rfl) (run_call w rfl rfl (by simp only [List.map_toArray,List.map_cons,List.map_nil];rw [show a.eval (.tmp 41) = _ from f41];rfl) (enters_of Try.func13 (by kernel_rfl) rfl) rfl) (fun hI hB => D_Upto.calls g s3 3 v3 s4 w0 w hI hB e3)
  ·obtain rfl := Option.some.inj (show some _ = some o from ho)
   have l15 := listed_of hall 15 rfl
   obtain ⟨b_15,b1_15,b2_15,b3_15⟩ := h.facts 15 _ _ rfl l15
   have l17 := listed_of hall 17 rfl
   have f42 : a.tmps.getD 42 undef = .int .i64 v3 := h.facts 17 _ _ rfl l17
   exact h.op ho rfl rfl rfl hn (Nat.lt_of_lt_of_eq (by decide : 43 < 70) rfl) rfl (run_at w rfl b2_15 f42 (by omega) (by simp;omega)) (Below.refl _ _) rfl ⟨b_15,b1_15,rfl,b3_15⟩
  ·obtain rfl := Option.some.inj (show some _ = some o from ho)
   have l18 := listed_of hall 18 rfl
   obtain ⟨b_18,b1_18,b2_18,b3_18⟩ := h.facts 18 _ _ rfl l18
   exact h.op ho rfl rfl rfl hn (Nat.lt_of_lt_of_eq (by decide : 44 < 70) rfl) rfl (run_load w rfl b2_18 (cell_row3 b3_18 (by omega) (by omega))) (Below.refl _ _) rfl rfl
  ·obtain rfl := Option.some.inj (show some _ = some o from ho)
   have l19 := listed_of hall 19 rfl
   have f44 : a.tmps.getD 44 undef = .int .i64 (rd [0,9,1000] v3) := h.facts 19 _ _ rfl l19
   exact h.op ho rfl rfl rfl hn (Nat.lt_of_lt_of_eq (by decide : 45 < 70) rfl) rfl (run_neg w rfl f44 (by omega) (by omega)) (Below.refl _ _) rfl rfl
  ·obtain rfl := Option.some.inj (show some _ = some o from ho)
   have l14 := listed_of hall 14 rfl
   have f39 : a.tmps.getD 39 undef = .pointer (some ⟨g,0,none⟩) := h.facts 14 _ _ rfl l14
   have l20 := listed_of hall 20 rfl
   have f45 : a.tmps.getD 45 undef = .int .i64 (-(rd [0,9,1000] v3)) := h.facts 20 _ _ rfl l20
   exact h.call (f := 25) (args := #[.pointer (some ⟨g,0,none⟩),.int .i64 (-(rd [0,9,1000] v3)),.int .i64 9]) ho rfl rfl rfl hn (Nat.lt_of_lt_of_eq (by decide : 46 < 70) rfl) (j := 4) rfl hcn hf rfl (fun i' _ e => by obtain rfl := Option.some.inj (show some _ = some i' from e);exact listed_of hall 17 rfl) (by rw [hL];rfl) (run_call w rfl rfl (by simp only [List.map_toArray,List.map_cons,List.map_nil];rw [show a.eval (.tmp 39) = _ from f39];rw [show a.eval (.tmp 45) = _ from f45];rfl) (enters_of Try.func25 (by kernel_rfl) rfl) rfl) (fun hI hB => D_Range.calls g s4 (-(rd [0,9,1000] v3)) 9 v4a v4b s5 w0 w hI hB e4)
  ·obtain rfl := Option.some.inj (show some _ = some o from ho)
   have f0 : a.tmps.getD 0 undef = .pointer (some ⟨g,0,none⟩) := h.rest 0 rfl
   exact h.op ho rfl rfl rfl hn (Nat.lt_of_lt_of_eq (by decide : 47 < 70) rfl) rfl (run_move w rfl f0) (Below.refl _ _) rfl rfl
  ·obtain rfl := Option.some.inj (show some _ = some o from ho)
   have l22 := listed_of hall 22 rfl
   have f47 : a.tmps.getD 47 undef = .pointer (some ⟨g,0,none⟩) := h.facts 22 _ _ rfl l22
   exact h.call (f := 12) (args := #[.pointer (some ⟨g,0,none⟩),.int .i64 1,.int .i64 12]) ho rfl rfl rfl hn (Nat.lt_of_lt_of_eq (by decide : 48 < 70) rfl) (j := 5) rfl hcn hf rfl (fun i' _ e => by obtain rfl := Option.some.inj (show some _ = some i' from e);exact listed_of hall 21 rfl) (by rw [hL];rfl) (run_call w rfl rfl (by simp only [List.map_toArray,List.map_cons,List.map_nil];rw [show a.eval (.tmp 47) = _ from f47];rfl) (enters_of Try.func12 (by kernel_rfl) rfl) rfl) (fun hI hB => D_Between.calls g s5 1 12 v5 s6 w0 w hI hB e5)
  ·obtain rfl := Option.some.inj (show some _ = some o from ho)
   have f0 : a.tmps.getD 0 undef = .pointer (some ⟨g,0,none⟩) := h.rest 0 rfl
   exact h.op ho rfl rfl rfl hn (Nat.lt_of_lt_of_eq (by decide : 49 < 70) rfl) rfl (run_move w rfl f0) (Below.refl _ _) rfl rfl
  ·obtain rfl := Option.some.inj (show some _ = some o from ho)
   have l24 := listed_of hall 24 rfl
   have f49 : a.tmps.getD 49 undef = .pointer (some ⟨g,0,none⟩) := h.facts 24 _ _ rfl l24
   exact h.call (f := 12) (args := #[.pointer (some ⟨g,0,none⟩),.int .i64 1,.int .i64 1000]) ho rfl rfl rfl hn (Nat.lt_of_lt_of_eq (by decide : 50 < 70) rfl) (j := 6) rfl hcn hf rfl (fun i' _ e => by obtain rfl := Option.some.inj (show some _ = some i' from e);exact listed_of hall 23 rfl) (by rw [hL];rfl) (run_call w rfl rfl (by simp only [List.map_toArray,List.map_cons,List.map_nil];rw [show a.eval (.tmp 49) = _ from f49];rfl) (enters_of Try.func12 (by kernel_rfl) rfl) rfl) (fun hI hB => D_Between.calls g s6 1 1000 v6 s7 w0 w hI hB e6)
  ·obtain rfl := Option.some.inj (show some _ = some o from ho)
   have l23 := listed_of hall 23 rfl
   have f48 : a.tmps.getD 48 undef = .int .i64 v5 := h.facts 23 _ _ rfl l23
   have l25 := listed_of hall 25 rfl
   have f50 : a.tmps.getD 50 undef = .int .i64 v6 := h.facts 25 _ _ rfl l25
   exact h.op ho rfl rfl rfl hn (Nat.lt_of_lt_of_eq (by decide : 51 < 70) rfl) rfl (run_row3 w rfl rfl f48 f50) (bA_ (Below.refl _ _) _) rfl ⟨w.heap.size,h.fresh,rfl,heap_alloc_new w _⟩
  ·obtain rfl := Option.some.inj (show some _ = some o from ho)
   have f0 : a.tmps.getD 0 undef = .pointer (some ⟨g,0,none⟩) := h.rest 0 rfl
   exact h.op ho rfl rfl rfl hn (Nat.lt_of_lt_of_eq (by decide : 52 < 70) rfl) rfl (run_move w rfl f0) (Below.refl _ _) rfl rfl
  ·obtain rfl := Option.some.inj (show some _ = some o from ho)
   have l27 := listed_of hall 27 rfl
   have f52 : a.tmps.getD 52 undef = .pointer (some ⟨g,0,none⟩) := h.facts 27 _ _ rfl l27
   exact h.call (f := 13) (args := #[.pointer (some ⟨g,0,none⟩),.int .i64 3]) ho rfl rfl rfl hn (Nat.lt_of_lt_of_eq (by decide : 53 < 70) rfl) (j := 7) rfl hcn hf rfl (fun i' _ e => by obtain rfl := Option.some.inj (show some _ = some i' from e);exact listed_of hall 25 rfl) (by rw [hL];rfl) (run_call w rfl rfl (by simp only [List.map_toArray,List.map_cons,List.map_nil];rw [show a.eval (.tmp 52) = _ from f52];rfl) (enters_of Try.func13 (by kernel_rfl) rfl) rfl) (fun hI hB => D_Upto.calls g s7 3 v7 s8 w0 w hI hB e7)
  ·obtain rfl := Option.some.inj (show some _ = some o from ho)
   have l26 := listed_of hall 26 rfl
   obtain ⟨b_26,b1_26,b2_26,b3_26⟩ := h.facts 26 _ _ rfl l26
   have l28 := listed_of hall 28 rfl
   have f53 : a.tmps.getD 53 undef = .int .i64 v7 := h.facts 28 _ _ rfl l28
   exact h.op ho rfl rfl rfl hn (Nat.lt_of_lt_of_eq (by decide : 54 < 70) rfl) rfl (run_at w rfl b2_26 f53 (by omega) (by simp;omega)) (Below.refl _ _) rfl ⟨b_26,b1_26,rfl,b3_26⟩
  ·obtain rfl := Option.some.inj (show some _ = some o from ho)
   have l29 := listed_of hall 29 rfl
   obtain ⟨b_29,b1_29,b2_29,b3_29⟩ := h.facts 29 _ _ rfl l29
   exact h.op ho rfl rfl rfl hn (Nat.lt_of_lt_of_eq (by decide : 55 < 70) rfl) rfl (run_load w rfl b2_29 (cell_row3 b3_29 (by omega) (by omega))) (Below.refl _ _) rfl rfl
  ·obtain rfl := Option.some.inj (show some _ = some o from ho)
   have f0 : a.tmps.getD 0 undef = .pointer (some ⟨g,0,none⟩) := h.rest 0 rfl
   exact h.op ho rfl rfl rfl hn (Nat.lt_of_lt_of_eq (by decide : 56 < 70) rfl) rfl (run_move w rfl f0) (Below.refl _ _) rfl rfl
  ·obtain rfl := Option.some.inj (show some _ = some o from ho)
   have f5 : a.tmps.getD 5 undef = .slice A n c := h.rest 5 rfl
   exact h.op ho rfl rfl rfl hn (Nat.lt_of_lt_of_eq (by decide : 57 < 70) rfl) rfl (run_move w rfl f5) (Below.refl _ _) rfl rfl
  ·obtain rfl := Option.some.inj (show some _ = some o from ho)
   have l32 := listed_of hall 32 rfl
   have f57 : a.tmps.getD 57 undef = .slice A n c := h.facts 32 _ _ rfl l32
   exact h.op ho rfl rfl rfl hn (Nat.lt_of_lt_of_eq (by decide : 58 < 70) rfl) rfl (run_len w rfl rfl f57 (by omega)) (Below.refl _ _) rfl rfl
  ·obtain rfl := Option.some.inj (show some _ = some o from ho)
   have l33 := listed_of hall 33 rfl
   have f58 : a.tmps.getD 58 undef = .int .i64 (n : Int) := h.facts 33 _ _ rfl l33
   exact h.op ho rfl rfl rfl hn (Nat.lt_of_lt_of_eq (by decide : 59 < 70) rfl) rfl (run_sub w rfl f58 rfl (by omega) (by omega)) (Below.refl _ _) rfl rfl
  ·obtain rfl := Option.some.inj (show some _ = some o from ho)
   have l31 := listed_of hall 31 rfl
   have f56 : a.tmps.getD 56 undef = .pointer (some ⟨g,0,none⟩) := h.facts 31 _ _ rfl l31
   have l34 := listed_of hall 34 rfl
   have f59 : a.tmps.getD 59 undef = .int .i64 ((n : Int) - 1) := h.facts 34 _ _ rfl l34
   exact h.call (f := 12) (args := #[.pointer (some ⟨g,0,none⟩),.int .i64 (-1),.int .i64 ((n : Int) - 1)]) ho rfl rfl rfl hn (Nat.lt_of_lt_of_eq (by decide : 60 < 70) rfl) (j := 8) rfl hcn hf rfl (fun i' _ e => by obtain rfl := Option.some.inj (show some _ = some i' from e);exact listed_of hall 28 rfl) (by rw [hL];rfl) (run_call w rfl rfl (by simp only [List.map_toArray,List.map_cons,List.map_nil];rw [show a.eval (.tmp 56) = _ from f56];rw [show a.eval (.tmp 59) = _ from f59];rfl) (enters_of Try.func12 (by kernel_rfl) rfl) rfl) (fun hI hB => D_Between.calls g s8 (-1) ((n : Int) - 1) v8 s9 w0 w hI hB e8)
  ·obtain rfl := Option.some.inj (show some _ = some o from ho)
   have f0 : a.tmps.getD 0 undef = .pointer (some ⟨g,0,none⟩) := h.rest 0 rfl
   exact h.op ho rfl rfl rfl hn (Nat.lt_of_lt_of_eq (by decide : 61 < 70) rfl) rfl (run_move w rfl f0) (Below.refl _ _) rfl rfl
  ·obtain rfl := Option.some.inj (show some _ = some o from ho)
   have l36 := listed_of hall 36 rfl
   have f61 : a.tmps.getD 61 undef = .pointer (some ⟨g,0,none⟩) := h.facts 36 _ _ rfl l36
   exact h.call (f := 13) (args := #[.pointer (some ⟨g,0,none⟩),.int .i64 1000]) ho rfl rfl rfl hn (Nat.lt_of_lt_of_eq (by decide : 62 < 70) rfl) (j := 9) rfl hcn hf rfl (fun i' _ e => by obtain rfl := Option.some.inj (show some _ = some i' from e);exact listed_of hall 35 rfl) (by rw [hL];rfl) (run_call w rfl rfl (by simp only [List.map_toArray,List.map_cons,List.map_nil];rw [show a.eval (.tmp 61) = _ from f61];rfl) (enters_of Try.func13 (by kernel_rfl) rfl) rfl) (fun hI hB => D_Upto.calls g s9 1000 v9 s10 w0 w hI hB e9)
  ·obtain rfl := Option.some.inj (show some _ = some o from ho)
   have l37 := listed_of hall 37 rfl
   have f62 : a.tmps.getD 62 undef = .int .i64 v9 := h.facts 37 _ _ rfl l37
   exact h.op ho rfl rfl rfl hn (Nat.lt_of_lt_of_eq (by decide : 63 < 70) rfl) rfl (run_add w rfl rfl f62 (by omega) (by omega)) (Below.refl _ _) rfl rfl
  ·obtain rfl := Option.some.inj (show some _ = some o from ho)
   have l13 := listed_of hall 13 rfl
   have f38 : a.tmps.getD 38 undef = .agg #[.int .i64 y,.int .i64 (mn 2000000 (y + (rd [0,v0,v1] v2)))] := h.facts 13 _ _ rfl l13
   have l21 := listed_of hall 21 rfl
   have f46 : a.tmps.getD 46 undef = .agg #[.int .i64 v4a,.int .i64 v4b] := h.facts 21 _ _ rfl l21
   have l30 := listed_of hall 30 rfl
   have f55 : a.tmps.getD 55 undef = .int .i64 (rd [1,v5,v6] v7) := h.facts 30 _ _ rfl l30
   have l35 := listed_of hall 35 rfl
   have f60 : a.tmps.getD 60 undef = .int .i64 v8 := h.facts 35 _ _ rfl l35
   have l38 := listed_of hall 38 rfl
   have f63 : a.tmps.getD 63 undef = .int .i64 (1000 + v9) := h.facts 38 _ _ rfl l38
   exact h.op ho rfl rfl rfl hn (Nat.lt_of_lt_of_eq (by decide : 64 < 70) rfl) rfl (run_build5 w rfl f38 f46 f55 f60 f63) (Below.refl _ _) rfl rfl
  ·obtain rfl := Option.some.inj (show some _ = some o from ho)
   exact h.var ho rfl rfl rfl rfl hn (Nat.lt_of_lt_of_eq (by decide : 8 < 70) rfl) rfl rfl hf (run_var7 w rfl)
  ·obtain rfl := Option.some.inj (show some _ = some o from ho)
   have l39 := listed_of hall 39 rfl
   have f64 : a.tmps.getD 64 undef = .agg #[.int .i64 y,.int .i64 (mn 2000000 (y + (rd [0,v0,v1] v2))),.int .i64 v4a,.int .i64 v4b,.int .i64 (rd [1,v5,v6] v7),.int .i64 v8,.int .i64 (1000 + v9)] := h.facts 39 _ _ rfl l39
   have l40 := listed_of hall 40 rfl
   exact h.store ho rfl rfl rfl rfl rfl hb0.size (by rw [hL];decide) rfl hf l40 (fun b p q => run_store7 rfl p f64 q)
 ·intro L a w' h hall
  obtain ⟨b8,b1_8,bn_8,b2_8,b3_8⟩ := h.facts 40 _ _ rfl (hall 40 (by omega))
  rw [if_pos (hall 41 (by omega))] at b3_8
  have hD : IsS65 w0 w' g s10 := h.done (by simp only [List.mem_cons,List.not_mem_nil,or_false];intro i hi;exact hall i (by omega))
  have e := h.frame (fun t => if t = 8 then .pointer (some ⟨b8,0,none⟩) else a.tmps.getD t undef) (by
   intro x hx _
   simp only [List.mem_cons,List.not_mem_nil,or_false] at hx
   rcases hx with rfl | rfl | rfl | rfl | rfl | rfl | rfl | rfl | rfl | rfl | rfl | rfl | rfl | rfl | rfl | rfl | rfl | rfl | rfl | rfl | rfl | rfl | rfl | rfl | rfl | rfl | rfl | rfl | rfl | rfl | rfl | rfl | rfl | rfl | rfl | rfl | rfl | rfl | rfl | rfl | rfl | rfl
   all_goals first | rfl | assumption)
  have k := K (a.tmps.getD 25 undef) (a.tmps.getD 26 undef) (a.tmps.getD 27 undef) (a.tmps.getD 28 undef) (a.tmps.getD 29 undef) (a.tmps.getD 30 undef) (a.tmps.getD 31 undef) (a.tmps.getD 32 undef) (a.tmps.getD 33 undef) (a.tmps.getD 34 undef) (a.tmps.getD 35 undef) (a.tmps.getD 36 undef) (a.tmps.getD 37 undef) (a.tmps.getD 38 undef) (a.tmps.getD 39 undef) (a.tmps.getD 40 undef) (a.tmps.getD 41 undef) (a.tmps.getD 42 undef) (a.tmps.getD 43 undef) (a.tmps.getD 44 undef) (a.tmps.getD 45 undef) (a.tmps.getD 46 undef) (a.tmps.getD 47 undef) (a.tmps.getD 48 undef) (a.tmps.getD 49 undef) (a.tmps.getD 50 undef) (a.tmps.getD 51 undef) (a.tmps.getD 52 undef) (a.tmps.getD 53 undef) (a.tmps.getD 54 undef) (a.tmps.getD 55 undef) (a.tmps.getD 56 undef) (a.tmps.getD 57 undef) (a.tmps.getD 58 undef) (a.tmps.getD 59 undef) (a.tmps.getD 60 undef) (a.tmps.getD 61 undef) (a.tmps.getD 62 undef) (a.tmps.getD 63 undef) (a.tmps.getD 64 undef) b8 w' hD h.below h.keep b1_8 bn_8 b3_8
  clear K
  simp only [List.foldl_cons,List.foldl_nil,sB_,sS_,sZ_,List.set_nil,Nat.reduceEqDiff,reduceIte] at e
  rw [e]
  exact k
/-! #### the walk -/
theorem xor_pos (a b : Int) : 0 ≤ Go.bits .xor .u64 a b := by
 show 0 ≤ IntKind.u64.wrap _
 rw [IntKind.wrap_u64]
 omega
theorem upto_some (s n : Int) (h0 : 1 ≤ n) (h1 : n ≤ 9223372036854775807) : ∃ v s',D_Upto.f s n = some (v,s') ∧ 0 ≤ v ∧ v < n := by
 obtain ⟨x,hx,hp⟩ : ∃ x,D_next.f s = some (x,IntKind.u64.wrap (s + 11400714819323198485)) ∧ 0 ≤ x := by
  unfold D_next.f
  generalize IntKind.u64.wrap (s + 11400714819323198485) = z
  exact ⟨_,rfl,xor_pos _ _⟩
 have e : IntKind.u64.wrap n = n := by rw [IntKind.wrap_u64];omega
 have m0 := Int.tmod_nonneg n hp
 have m1 := Int.tmod_lt_of_pos x (show 0 < n by omega)
 unfold D_Upto.f
 rw [hx]
 simp only [Option.bind_some]
 rw [if_neg (by omega),e,if_neg (by omega),wrap64_eq (by omega)]
 exact ⟨_,_,rfl,m0,m1⟩
theorem between_some (s lo hi : Int) (h : lo ≤ hi) (h0 : -4000000000000 ≤ lo) (h1 : hi ≤ 4000000000000) : ∃ v s',D_Between.f s lo hi = some (v,s') ∧ lo ≤ v ∧ v ≤ hi := by
 obtain ⟨v,s',e,v0,v1⟩ := upto_some s (hi - lo + 1) (by omega) (by omega)
 unfold D_Between.f
 rw [wrap64_eq (n := hi - lo) (by omega),wrap64_eq (n := hi - lo + 1) (by omega),e,Option.bind_some,wrap64_eq (by omega)]
 exact ⟨_,_,rfl,by omega,by omega⟩
theorem range_some (s lo hi : Int) (h : lo ≤ hi) (h0 : -4000000000000 ≤ lo) (h1 : hi ≤ 4000000000000) : ∃ a b s',D_Range.f s lo hi = some (a,b,s') ∧ lo ≤ a ∧ a ≤ b ∧ b ≤ hi := by
 obtain ⟨v,s1,e,v0,v1⟩ := between_some s lo hi h h0 h1
 obtain ⟨u,s2,e',u0,u1⟩ := between_some s1 lo hi h h0 h1
 unfold D_Range.f
 rw [e,Option.bind_some]
 show ∃ a b s',((D_Between.f s1 lo hi).bind fun bt => some (mn v bt.1,mx v bt.1,bt.2)) = some (a,b,s') ∧ _
 rw [e',Option.bind_some,mn_eq,mx_eq]
 exact ⟨_,_,_,rfl,by omega,by omega,by omega⟩
theorem rd3 (x y z k : Int) (h0 : 0 ≤ k) (h1 : k < 3) : (k = 0 ∧ rd [x,y,z] k = x) ∨ (k = 1 ∧ rd [x,y,z] k = y) ∨ (k = 2 ∧ rd [x,y,z] k = z) := by
 have : k = 0 ∨ k = 1 ∨ k = 2 := by omega
 rcases this with rfl | rfl | rfl <;> simp [rd]
def MeterIn (i : Int) (x : S49) : Prop := 500000 ≤ x.f0.f0 ∧ x.f0.f0 ≤ x.f0.f1 ∧ x.f0.f1 ≤ 2000000 ∧ -1000 ≤ x.f1.f0 ∧ x.f1.f0 ≤ x.f1.f1 ∧ x.f1.f1 ≤ 9 ∧ 1 ≤ x.f2 ∧ x.f2 ≤ 1000 ∧ -1 ≤ x.f3 ∧ x.f3 < i ∧ 1000 ≤ x.f4 ∧ x.f4 ≤ 1999
def MadeBench (l : List S49) : Prop := ∀ i : Nat,i < l.length → MeterIn i (rd_T49 l i)
theorem MadeBench.snoc {l : List S49} {x : S49} (h : MadeBench l) (hx : MeterIn l.length x) : MadeBench (l ++ [x]) := by
 intro i hi
 unfold rd_T49
 rw [Int.toNat_natCast,List.getD_eq_getElem?_getD]
 by_cases hl : i < l.length
 ·have := h i hl
  unfold rd_T49 at this
  rw [Int.toNat_natCast,List.getD_eq_getElem?_getD] at this
  rw [List.getElem?_append_left hl]
  exact this
 ·rw [List.length_append,List.length_singleton] at hi
  obtain rfl : i = l.length := by omega
  rw [List.getElem?_concat_length]
  exact hx
def uptoV (s n : Int) : Int × Int := (D_Upto.f s n).getD (0,0)
def betweenV (s lo hi : Int) : Int × Int := (D_Between.f s lo hi).getD (0,0)
def rangeV (s lo hi : Int) : Int × Int × Int := (D_Range.f s lo hi).getD (0,0,0)
theorem uptoV_of {s n : Int} {x : Int × Int} (h : D_Upto.f s n = some x) : uptoV s n = x := by unfold uptoV;rw [h];rfl
theorem betweenV_of {s lo hi : Int} {x : Int × Int} (h : D_Between.f s lo hi = some x) : betweenV s lo hi = x := by unfold betweenV;rw [h];rfl
theorem rangeV_of {s lo hi : Int} {x : Int × Int × Int} (h : D_Range.f s lo hi = some x) : rangeV s lo hi = x := by unfold rangeV;rw [h];rfl
def benchMeter (n s : Int) : S49 × Int :=
 let a0 := betweenV s 900000 1100000
 let a1 := betweenV a0.2 500000 2000000
 let a2 := uptoV a1.2 3
 let y := rd [1000000,a0.1,a1.1] a2.1
 let b0 := uptoV a2.2 20000
 let b1 := uptoV b0.2 300000
 let b2 := uptoV b1.2 3
 let b3 := uptoV b2.2 3
 let b4 := rangeV b3.2 (-rd [0,9,1000] b3.1) 9
 let b5 := betweenV b4.2.2 1 12
 let b6 := betweenV b5.2 1 1000
 let b7 := uptoV b6.2 3
 let b8 := betweenV b7.2 (-1) (n - 1)
 let b9 := uptoV b8.2 1000
 (⟨⟨y,mn 2000000 (y + rd [0,b0.1,b1.1] b2.1)⟩,⟨b4.1,b4.2.1⟩,rd [1,b5.1,b6.1] b7.1,b8.1,1000 + b9.1⟩,b9.2)
def benchL : Nat → List S49 → Int → List S49 × Int
 | 0,l,s => (l,s)
 | i + 1,l,s => benchL i (l ++ [(benchMeter l.length s).1]) (benchMeter l.length s).2
def benchOf (s many : Int) : List S49 × Int := benchL (betweenV s 1 many).1.toNat [] (betweenV s 1 many).2
def BenchMade (g : Nat) (many : Int) (w0 w : World) (r : List S49 × Int) (e : Ending) (w' : World) : Prop := ∃ (v : Value) (l : List S49) (s : Int),r = (l,s) ∧ e = .returned v ∧ Kd.R k49 49 w' w.heap.size (fun _ => True) v l ∧ MadeBench l ∧ 1 ≤ l.length ∧ (l.length : Int) ≤ many ∧
 IsS65 w0 w' g s ∧ Below w0.heap.size w0 w' ∧ KeepBut w w' g none
set_option maxHeartbeats 8000000 in
set_option maxRecDepth 100000 in
theorem K_BenchOf.made (g : Nat) (s0 many : Int) (w0 w : World) (hI : IsS65 w0 w g s0) (hB : Below w0.heap.size w0 w) (hm : 1 ≤ many) (hm' : many ≤ 12) :
  Calls Try.prog 10 #[.pointer (some ⟨g,0,none⟩),.int .i64 many] w (BenchMade g many w0 w (benchOf s0 many)) := by
 have hu76 := Try.underlying65
 have hu36 := Try.underlying49
 have hu34 := Try.underlying34
 have HI0 := aM_ hI
 have HB0 := aM_ hB
 have HL := aM_ hB.size
 clear hI hB
 obtain ⟨N,sN,eN,N0,N1⟩ := between_some s0 1 many hm (by omega) (by omega)
 have HR := aM_ (show benchOf s0 many = benchL N.toNat [] sN by unfold benchOf;rw [betweenV_of eN])
 obtain ⟨R,hR⟩ : ∃ R,R = benchOf s0 many := ⟨_,rfl⟩
 rw [← hR] at HR ⊢
 have EN := aM_ eN
 clear eN hR
 go_enter Try.func10,Try.ntmps10
 go_wp2_with (fail)
 (with_reducible refine (D_Between.calls g s0 1 many N sN w0 _ HI0.out HB0.out EN.out).mono ?_)
 rintro e w1 ⟨rfl,hi,hb,hk⟩
 have HI1 := aM_ hi
 have HB1 := aM_ hb
 have HK1 := aM_ hk
 clear hi hb hk HI0 HB0 EN
 go_wp2_with (fail)
 go_loopw [5,6] (fun v5 v6 wr => ∃ (l : List S49) (i s : Int),v6 = .int .i64 i ∧ 0 ≤ i ∧ i ≤ 12 ∧ Aside0 ((l.length : Int) + i = N) ∧ Aside0 (MadeBench l) ∧ Aside0 (R = benchL i.toNat l s) ∧ Aside0 (Kd.R k49 49 wr w.heap.size (fun _ => True) v5 l) ∧ Aside0 (IsS65 w0 wr g s) ∧ Aside0 (Below w0.heap.size w0 wr) ∧ Aside0 (KeepBut w wr g none)) (fun _ v6 _ => (intOf v6).toNat)
 case atStart => exact ⟨[],N,sN,rfl,by omega,by omega,⟨by simp⟩,⟨fun i hi => by simp at hi⟩,HR,⟨Kd.R_nil _ _ _ _ _⟩,HI1,HB1,HK1⟩
 case round =>
  clear HI1 HB1 HK1
  obtain ⟨l,i,s,rfl,i0,i1,HN,HM,HL2,HO,HI,HB,HK⟩ := hrel
  by_cases hlt : 0 < i
  ·obtain ⟨A,c,rfl⟩ := Kd.R_slice HO.out
   obtain ⟨v0,s1,e0,_,_⟩ := between_some s 900000 1100000 (by omega) (by omega) (by omega)
   obtain ⟨v1,s2,e1,_,_⟩ := between_some s1 500000 2000000 (by omega) (by omega) (by omega)
   obtain ⟨v2,s3,e2,a20,a21⟩ := upto_some s2 3 (by omega) (by omega)
   obtain ⟨y,hy,y0,y1⟩ : ∃ y,rd [1000000,v0,v1] v2 = y ∧ 500000 ≤ y ∧ y ≤ 2000000 := ⟨_,rfl,by rcases rd3 1000000 v0 v1 v2 a20 a21 with h | h | h <;> omega,by rcases rd3 1000000 v0 v1 v2 a20 a21 with h | h | h <;> omega⟩
   have HQ := aM_ (show R = benchL (i - 1).toNat (l ++ [(benchMeter l.length s).1]) (benchMeter l.length s).2 by
    have h := HL2.out
    rw [show i.toNat = (i - 1).toNat + 1 by omega] at h
    exact h)
   have b0 := betweenV_of e0
   have b1 := betweenV_of e1
   have b2 := uptoV_of e2
   have E0 := aM_ e0
   have E1 := aM_ e1
   have E2 := aM_ e2
   have HYE := aM_ hy
   have HB012 := aM_ (And.intro b0 (And.intro b1 b2))
   clear e0 e1 e2 b0 b1 b2
   go_wp2_with (fail)
   (with_reducible refine (D_Between.calls g s 900000 1100000 v0 s1 w0 _ HI.out HB.out E0.out).mono ?_)
   rintro e w2 ⟨rfl,hi,hb,hk⟩
   have HI2 := aM_ hi
   have HB2 := aM_ hb
   have HK2 := aM_ (HK.out.trans hk (.inl rfl))
   have HO2 := aM_ (Kd.R_mono (Kd.R_keep (IsS65.apart HI.out HO.out (by decide)) hk (fun _ h => h.2)) (fun _ h => h.1))
   clear hi hb hk HI HB HK HO
   go_wp2_with (fail)
   (with_reducible refine (D_Between.calls g s1 500000 2000000 v1 s2 w0 _ HI2.out HB2.out E1.out).mono ?_)
   rintro e w3 ⟨rfl,hi,hb,hk⟩
   have HI3 := aM_ hi
   have HB3 := aM_ hb
   have HK3 := aM_ (HK2.out.trans hk (.inl rfl))
   have HO3 := aM_ (Kd.R_mono (Kd.R_keep (IsS65.apart HI2.out HO2.out (by decide)) hk (fun _ h => h.2)) (fun _ h => h.1))
   clear hi hb hk HI2 HB2 HK2 HO2
   go_wp2_with (fail)
   (with_reducible refine (D_Upto.calls g s2 3 v2 s3 w0 _ (HI3.out.alloc _) (bA_ HB3.out _) E2.out).mono ?_)
   rintro e w4 ⟨rfl,hi,hb,hk⟩
   have HI4 := aM_ hi
   have HB4 := aM_ hb
   have HK4 := aM_ (KeepBut.trans (eA_ HK3.out _) hk (.inl rfl))
   have HO4 := aM_ (Kd.R_mono (Kd.R_keep (IsS65.apart (HI3.out.alloc _) (Kd.R_alloc HO3.out _) (by decide)) hk (fun _ h => h.2)) (fun _ h => h.1))
   have hne : w3.heap.size ≠ g := by have := HI3.out.lt;omega
   have hc := cell_row3 (keep_blk hk hne (heap_alloc_new w3 _)) a20 a21
   rw [hy] at hc
   have hp1 : v2 < ((3 : Nat) : Int) := by omega
   clear hi hb hk HI3 HB3 HK3 HO3 hne hy
   go_wp2_with (fail)
   have hN := HN.out
   obtain ⟨p0,t1,d0,p00,p01⟩ := upto_some s3 20000 (by omega) (by omega)
   obtain ⟨p1,t2,d1,p10,p11⟩ := upto_some t1 300000 (by omega) (by omega)
   obtain ⟨p2,t3,d2,p20,p21⟩ := upto_some t2 3 (by omega) (by omega)
   obtain ⟨p3,t4,d3,p30,p31⟩ := upto_some t3 3 (by omega) (by omega)
   have r3 : 0 ≤ rd [0,9,1000] p3 ∧ rd [0,9,1000] p3 ≤ 1000 := by rcases rd3 0 9 1000 p3 p30 p31 with h | h | h <;> omega
   obtain ⟨p4,q4,t5,d4,p40,p41,p42⟩ := range_some t4 (-rd [0,9,1000] p3) 9 (by omega) (by omega) (by omega)
   obtain ⟨p5,t6,d5,p50,p51⟩ := between_some t5 1 12 (by omega) (by omega) (by omega)
   obtain ⟨p6,t7,d6,p60,p61⟩ := between_some t6 1 1000 (by omega) (by omega) (by omega)
   obtain ⟨p7,t8,d7,p70,p71⟩ := upto_some t7 3 (by omega) (by omega)
   obtain ⟨p8,t9,d8,p80,p81⟩ := between_some t8 (-1) ((l.length : Int) - 1) (by omega) (by omega) (by omega)
   obtain ⟨p9,t10,d9,p90,p91⟩ := upto_some t9 1000 (by omega) (by omega)
   have r2 : 0 ≤ rd [0,p0,p1] p2 ∧ rd [0,p0,p1] p2 ≤ 300000 := by rcases rd3 0 p0 p1 p2 p20 p21 with h | h | h <;> omega
   have r7 : 1 ≤ rd [1,p5,p6] p7 ∧ rd [1,p5,p6] p7 ≤ 1000 := by rcases rd3 1 p5 p6 p7 p70 p71 with h | h | h <;> omega
   have HX : Aside0 (MeterIn l.length (⟨⟨y,mn 2000000 (y + rd [0,p0,p1] p2)⟩,⟨p4,q4⟩,rd [1,p5,p6] p7,p8,1000 + p9⟩ : S49)) := ⟨by
    have hmn := mn_eq 2000000 (y + rd [0,p0,p1] p2)
    refine ⟨y0,?_,?_,?_,p41,p42,r7.1,r7.2,p80,?_,?_,?_⟩
    ·show y ≤ mn 2000000 (y + rd [0,p0,p1] p2)
     omega
    ·show mn 2000000 (y + rd [0,p0,p1] p2) ≤ 2000000
     omega
    ·show -1000 ≤ p4
     omega
    ·show p8 < (l.length : Int)
     omega
    ·show 1000 ≤ 1000 + p9
     omega
    ·show 1000 + p9 ≤ 1999
     omega⟩
   have HE : Aside0 (benchMeter l.length s = ((⟨⟨y,mn 2000000 (y + rd [0,p0,p1] p2)⟩,⟨p4,q4⟩,rd [1,p5,p6] p7,p8,1000 + p9⟩ : S49),t10)) := ⟨by
    have HY := HYE.out
    unfold benchMeter
    simp only [HB012.out.1,HB012.out.2.1,HB012.out.2.2,uptoV_of d0,uptoV_of d1,uptoV_of d2,uptoV_of d3,rangeV_of d4,betweenV_of d5,betweenV_of d6,uptoV_of d7,betweenV_of d8,uptoV_of d9,HY]⟩
   refine BenchOf.region6 A l.length c y (by kernel_rfl) g s3 t1 t2 t3 t4 t5 t6 t7 t8 t9 t10 p0 p1 p2 p3 p4 q4 p5 p6 p7 p8 p9 w0 HI4.out HB4.out (by omega) ⟨p20,p21⟩ ⟨p30,p31⟩ ⟨p70,p71⟩ ⟨by omega,by omega⟩ r3 ⟨by omega,by omega⟩ d0 d1 d2 d3 d4 d5 d6 d7 d8 d9 ?_
   clear d0 d1 d2 d3 d4 d5 d6 d7 d8 d9 r3 r2 r7 hc hp1
   intro u25 u26 u27 u28 u29 u30 u31 u32 u33 u34 u35 u36 u37 u38 u39 u40 u41 u42 u43 u44 u45 u46 u47 u48 u49 u50 u51 u52 u53 u54 u55 u56 u57 u58 u59 u60 u61 u62 u63 u64 b8 w5 hi hb hk hne hge hcells
   have HI5 := aM_ hi
   have HB5 := aM_ hb
   have HO5 := aM_ (Kd.R_mono (Kd.R_keep (IsS65.apart HI4.out HO4.out (by decide)) hk (fun _ h => h.2)) (fun _ h => h.1))
   have HK5 := aM_ (HK4.out.trans hk (.inl rfl))
   have c0 := (blk_cell hcells 0).trans (rfl : _ = some (Value.int .i64 y))
   have c1 := (blk_cell hcells 1).trans (rfl : _ = some (Value.int .i64 (mn 2000000 (y + rd [0,p0,p1] p2))))
   have c2 := (blk_cell hcells 2).trans (rfl : _ = some (Value.int .i64 p4))
   have c3 := (blk_cell hcells 3).trans (rfl : _ = some (Value.int .i64 q4))
   have c4 := (blk_cell hcells 4).trans (rfl : _ = some (Value.int .i64 (rd [1,p5,p6] p7)))
   have c5 := (blk_cell hcells 5).trans (rfl : _ = some (Value.int .i64 p8))
   have c6 := (blk_cell hcells 6).trans (rfl : _ = some (Value.int .i64 (1000 + p9)))
   clear hi hb hk hcells HI4 HB4 HO4 HK4
   have HN' := aM_ hN
   have hl12 : l.length ≤ 12 := by omega
   clear hN
   go_wp2_with (first | ((with_reducible refine gate_builtin (b := .append) (xs := #[.tmp 65,.tmp 67]) rfl ?_);at_builtin;refine Kd.R_append k49 w.heap.size rfl (.tmp 65) (.tmp 67) 25 49 (.agg #[(.int .i64 0),(.int .i64 0),(.int .i64 0),(.int .i64 0),(.int .i64 0),(.int .i64 0),(.int .i64 0)]) 56 rfl Try.underlying25 info49 rfl (by decide) (by omega) (.slice A l.length c) l (⟨⟨y,mn 2000000 (y + rd [0,p0,p1] p2)⟩,⟨p4,q4⟩,rd [1,p5,p6] p7,p8,1000 + p9⟩ : S49) [.int .i64 y,.int .i64 (mn 2000000 (y + rd [0,p0,p1] p2)),.int .i64 p4,.int .i64 q4,.int .i64 (rd [1,p5,p6] p7),.int .i64 p8,.int .i64 (1000 + p9)] (fun _ => True) (fun _ => False) rfl rfl ?aP (fun _ hk => hk.elim) ?aF ?aO (Below.refl _ _) ?aS ?aL ?_;(case aP => exact k49_mkM _ _ _ (⟨⟨y,mn 2000000 (y + rd [0,p0,p1] p2)⟩,⟨p4,q4⟩,rd [1,p5,p6] p7,p8,1000 + p9⟩ : S49));(case aF => exact (fun _ _ => trivial));(case aO => exact HO5.out);(case aS => exact HK5.out.1);(case aL => omega);intro v6 w6 ho hb hg hat))
   clear c0 c1 c2 c3 c4 c5 c6
   have HI6 := aM_ (IsS65.grown HI5.out hg (IsS65.own_ne HI5.out HO5.out (by decide)))
   have HB6 := aM_ (below_weaken HB5.out HL.out hb)
   have HK6 := aM_ (KeepBut.trans HK5.out (KeepBut.of_grown hg g) (Kd.R_base2 HO5.out))
   have HO6 := aM_ ho
   clear ho hb hg hat HI5 HB5 HK5 HO5
   have hN2 := HN'.out
   go_roundw
   case rel => exact ⟨_,i - 1,t10,rfl,by omega,by omega,⟨by simp;omega⟩,⟨HM.out.snoc HX.out⟩,⟨by have h := HQ.out;rw [HE.out] at h;exact h⟩,HO6,HI6,HB6,HK6⟩
   case measure => simp [intOf];omega
  ·have d1 : decide (0 < i) = false := decide_eq_false hlt
   go_wp2_with (fail)
   go_ret
   have hN := HN.out
   exact ⟨_,l,s,by rw [HL2.out,show i.toNat = 0 by omega];rfl,rfl,HO.out,HM.out,by omega,by omega,HI.out,HB.out,HK.out⟩

def K_BenchOf.f (s0_0 : Int) (a1 : Int) : Option (List S49 × Int) := if 1 ≤ a1 ∧ a1 ≤ 12 then some (benchOf s0_0 a1) else none
theorem K_BenchOf.calls (g : Nat) (s0_0 : Int) (a1 : Int) (r1 : List S49) (r2 : Int) (w0 w : World) (hI : IsS65 w0 w g s0_0) (hB : Below w0.heap.size w0 w) (h : K_BenchOf.f s0_0 a1 = some (r1,r2)) :
  Calls Try.prog 10 #[.pointer (some ⟨g,0,none⟩),.int .i64 a1] w fun e w' => ∃ v0_ : Value,e = .returned (v0_) ∧ Kd.R k49 49 w' w.heap.size (fun _ => True) v0_ r1 ∧ IsS65 w0 w' g r2 ∧ Below w0.heap.size w0 w' ∧ KeepBut w w' g none := by
 unfold K_BenchOf.f at h
 split at h
 ·rename_i hm
  have h := Option.some.inj h
  refine (K_BenchOf.made g s0_0 a1 w0 w hI hB hm.1 hm.2).mono ?_
  rintro e w' ⟨v,l,s,hr,he,h1,_,_,_,h2,h3,h4⟩
  rw [h] at hr
  cases hr
  exact ⟨v,he,h1,h2,h3,h4⟩
 ·cases h
theorem benchL_made : ∀ (i : Nat) (l : List S49) (s : Int),(l.length : Int) + i ≤ 12 → MadeBench l → MadeBench (benchL i l s).1 ∧ (benchL i l s).1.length = l.length + i := by
 intro i
 induction i with
 | zero => intro l s _ h;exact ⟨h,rfl⟩
 | succ i ih =>
  intro l s hl h
  have hx : MeterIn l.length (benchMeter l.length s).1 := by
   obtain ⟨v0,s1,e0,_,_⟩ := between_some s 900000 1100000 (by omega) (by omega) (by omega)
   obtain ⟨v1,s2,e1,_,_⟩ := between_some s1 500000 2000000 (by omega) (by omega) (by omega)
   obtain ⟨v2,s3,e2,a20,a21⟩ := upto_some s2 3 (by omega) (by omega)
   obtain ⟨p0,t1,d0,p00,p01⟩ := upto_some s3 20000 (by omega) (by omega)
   obtain ⟨p1,t2,d1,p10,p11⟩ := upto_some t1 300000 (by omega) (by omega)
   obtain ⟨p2,t3,d2,p20,p21⟩ := upto_some t2 3 (by omega) (by omega)
   obtain ⟨p3,t4,d3,p30,p31⟩ := upto_some t3 3 (by omega) (by omega)
   have r3 : 0 ≤ rd [0,9,1000] p3 ∧ rd [0,9,1000] p3 ≤ 1000 := by rcases rd3 0 9 1000 p3 p30 p31 with h | h | h <;> omega
   obtain ⟨p4,q4,t5,d4,p40,p41,p42⟩ := range_some t4 (-rd [0,9,1000] p3) 9 (by omega) (by omega) (by omega)
   obtain ⟨p5,t6,d5,p50,p51⟩ := between_some t5 1 12 (by omega) (by omega) (by omega)
   obtain ⟨p6,t7,d6,p60,p61⟩ := between_some t6 1 1000 (by omega) (by omega) (by omega)
   obtain ⟨p7,t8,d7,p70,p71⟩ := upto_some t7 3 (by omega) (by omega)
   obtain ⟨p8,t9,d8,p80,p81⟩ := between_some t8 (-1) ((l.length : Int) - 1) (by omega) (by omega) (by omega)
   obtain ⟨p9,t10,d9,p90,p91⟩ := upto_some t9 1000 (by omega) (by omega)
   have r2 : 0 ≤ rd [0,p0,p1] p2 ∧ rd [0,p0,p1] p2 ≤ 300000 := by rcases rd3 0 p0 p1 p2 p20 p21 with h | h | h <;> omega
   have r7 : 1 ≤ rd [1,p5,p6] p7 ∧ rd [1,p5,p6] p7 ≤ 1000 := by rcases rd3 1 p5 p6 p7 p70 p71 with h | h | h <;> omega
   have ry : 500000 ≤ rd [1000000,v0,v1] v2 ∧ rd [1000000,v0,v1] v2 ≤ 2000000 := by rcases rd3 1000000 v0 v1 v2 a20 a21 with h | h | h <;> omega
   unfold benchMeter
   simp only [betweenV_of e0,betweenV_of e1,uptoV_of e2,uptoV_of d0,uptoV_of d1,uptoV_of d2,uptoV_of d3,rangeV_of d4,betweenV_of d5,betweenV_of d6,uptoV_of d7,betweenV_of d8,uptoV_of d9]
   generalize rd [1000000,v0,v1] v2 = y at ry ⊢
   have hmn := mn_eq 2000000 (y + rd [0,p0,p1] p2)
   refine ⟨ry.1,?_,?_,?_,p41,p42,r7.1,r7.2,p80,?_,?_,?_⟩
   ·show y ≤ mn 2000000 (y + rd [0,p0,p1] p2)
    omega
   ·show mn 2000000 (y + rd [0,p0,p1] p2) ≤ 2000000
    omega
   ·show -1000 ≤ p4
    omega
   ·show p8 < (l.length : Int)
    omega
   ·show 1000 ≤ 1000 + p9
    omega
   ·show 1000 + p9 ≤ 1999
    omega
  have := ih (l ++ [(benchMeter l.length s).1]) (benchMeter l.length s).2 (by simp;omega) (h.snoc hx)
  refine ⟨this.1,?_⟩
  rw [benchL,this.2]
  simp
  omega
theorem bench_some (s many : Int) (h1 : 1 ≤ many) (h2 : many ≤ 12) : ∃ l s',K_BenchOf.f s many = some (l,s') ∧ MadeBench l ∧ 1 ≤ l.length ∧ (l.length : Int) ≤ many := by
 obtain ⟨N,sN,eN,N0,N1⟩ := between_some s 1 many h1 (by omega) (by omega)
 unfold K_BenchOf.f benchOf
 rw [if_pos ⟨h1,h2⟩,betweenV_of eN]
 obtain ⟨a,b⟩ := benchL_made N.toNat [] sN (by simp;omega) (fun i hi => by simp at hi)
 refine ⟨_,_,rfl,a,?_,?_⟩
 ·rw [b];simp;omega
 ·rw [b];simp;omega

/-! ### K_Mod: function 11 -/
def K_Mod.f (a0 : Int) (a1 : Int) : Option (Int) := if a1 < 1 then (some 0) else (if a1 = 0 then (none) else (if (Int.tmod a0 a1) < 0 then (some (wrap64 ((Int.tmod a0 a1) + a1))) else (some (Int.tmod a0 a1))))
set_option maxHeartbeats 8000000 in
set_option maxRecDepth 100000 in
theorem K_Mod.calls (a0 : Int) (a1 : Int) (r : Int) (w : World) (h : K_Mod.f a0 a1 = some r) :
  Calls Try.prog 11 #[.int .i64 a0,.int .i64 a1] w fun e w' => e = .returned (.int .i64 r) ∧ Drawn0 w w' := by
 have H : (if a1 < 1 then (some 0) else (if a1 = 0 then (none) else (if (Int.tmod a0 a1) < 0 then (some (wrap64 ((Int.tmod a0 a1) + a1))) else (some (Int.tmod a0 a1))))) = some r := h
 clear h
 by_cases c3 : a1 < 1
 ·rw [if_pos c3] at H
  have c3b0 : decide (a1 < 1) = true := decide_eq_true c3
  clear c3
  obtain rfl := Option.some.inj H
  go_enter Try.func11,Try.ntmps11
  go_wp2
  go_ret
  exact ⟨by first | rfl | (simp;done) | (simp [*];done),by repeat (first | exact Drawn0.refl _ | apply Drawn0.step)⟩
 ·rw [if_neg c3] at H
  have c3b0 : decide (a1 < 1) = false := decide_eq_false c3
  clear c3
  by_cases c4 : a1 = 0
  ·rw [if_pos c4] at H
   exact absurd H (by simp)
  ·rw [if_neg c4] at H
   have c4b0 : (a1 == 0) = false := beq_eq_false_iff_ne.mpr c4
   have c4b1 : (a1 != 0) = true := bne_iff_ne.mpr c4
   by_cases c5 : (Int.tmod a0 a1) < 0
   ·rw [if_pos c5] at H
    have c5b0 : decide ((Int.tmod a0 a1) < 0) = true := decide_eq_true c5
    clear c5
    obtain rfl := Option.some.inj H
    go_enter Try.func11,Try.ntmps11
    go_wp2
    go_ret
    exact ⟨by first | rfl | (simp;done) | (simp [*];done),by repeat (first | exact Drawn0.refl _ | apply Drawn0.step)⟩
   ·rw [if_neg c5] at H
    have c5b0 : decide ((Int.tmod a0 a1) < 0) = false := decide_eq_false c5
    clear c5
    obtain rfl := Option.some.inj H
    go_enter Try.func11,Try.ntmps11
    go_wp2
    go_ret
    exact ⟨by first | rfl | (simp;done) | (simp [*];done),by repeat (first | exact Drawn0.refl _ | apply Drawn0.step)⟩

/-! ### R_beyond: function 49 -/
def R_beyond.f (a0 : Int) (a1 : Int) (a2 : Int) : Option (Bool) := if a0 < a1 then (some true) else (some (decide (a0 > a2)))
set_option maxHeartbeats 8000000 in
set_option maxRecDepth 100000 in
theorem R_beyond.calls (a0 : Int) (a1 : Int) (a2 : Int) (r : Bool) (w : World) (h : R_beyond.f a0 a1 a2 = some r) :
  Calls Try.prog 49 #[.int .i64 a0,.int .i64 a1,.int .i64 a2] w fun e w' => e = .returned (.bool r) ∧ Drawn0 w w' := by
 have H : (if a0 < a1 then (some true) else (some (decide (a0 > a2)))) = some r := h
 clear h
 by_cases c4 : a0 < a1
 ·rw [if_pos c4] at H
  have c4b0 : decide (a0 < a1) = true := decide_eq_true c4
  clear c4
  obtain rfl := Option.some.inj H
  go_enter Try.func49,Try.ntmps49
  go_wp2
  go_ret
  exact ⟨by first | rfl | (simp;done) | (simp [*];done),by repeat (first | exact Drawn0.refl _ | apply Drawn0.step)⟩
 ·rw [if_neg c4] at H
  have c4b0 : decide (a0 < a1) = false := decide_eq_false c4
  clear c4
  obtain rfl := Option.some.inj H
  go_enter Try.func49,Try.ntmps49
  go_wp2
  go_ret
  exact ⟨by first | rfl | (simp;done) | (simp [*];done),by repeat (first | exact Drawn0.refl _ | apply Drawn0.step)⟩

end Go.Proofs.Ytdbpobadeibjaab.GE
