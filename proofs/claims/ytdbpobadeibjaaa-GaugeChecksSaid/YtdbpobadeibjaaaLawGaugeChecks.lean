/- GaugeChecks: the row. The given function of the program answers true for every input that the statement lets in;no condition beside the statement's own. -/
import Derived.Test.YtdbpobadeibjaaaRows
import Derived.Test.YtdbpobadeibjaaaPureGaugeChecks
import Derived.WalkKit
import Derived.ProofKit
import Derived.OpenShut
import Derived.ShutString
import Derived.ChangeOld
import Derived.Below
import Derived.SizedLaws
import Derived.Deep.Slices
import Derived.ChangeSlices
import Derived.ChangeArms
namespace Go.Proofs.Ytdbpobadeibjaaa.gaugeChecks
open Go.ChangeShapes Go.WideShapes Go.ChangeAt Go.RowKit Go.Deep Go.Proofs.Ytdbpobadeibjaaa.GE Go.Proofs.YtdbpobadeibjaaaW.PrintWords
set_option linter.unusedVariables false
/-! ### what came in: rows of structs -/
section
variable {H : Type} {enc : TypeId × Value → H} {P : Program} {w : World} {base : Nat} {spare : Nat → Bool} {held : Bool}
theorem open_row {α : Type} (d : Kd α) (Q : α → Prop) {t e : TypeId} (ht : P.underlying t = some (.slice e)) (hC : P.cellsOf e = d.sz)
  (elem : ∀ n cs' x,DataW.trod enc P w base spare held n e cs' = some x → ∃ p : α,d.K w p cs' ∧ Q p) {fuel : Nat} {cs : List Value} {x : DataW H × List MemPlace} (h : DataW.trod enc P w base spare held fuel t cs = some x) :
  ∃ (A : Option Addr) (cap : Nat) (xs : List α),cs = [.slice A xs.length cap] ∧ xs.length ≤ cap ∧ xs.length ≤ maxLen ∧ d.C w A xs.length xs ∧ ∀ p ∈ xs,Q p := by
 rcases open_slice ht h with ⟨h0,_⟩ | ⟨a,len,cap,m,n,D,Pl,hcs,hb,hl,hm,hmm,_,hi⟩
 ·exact ⟨none,0,[],h0,Nat.le_refl _,Nat.zero_le _,⟨rfl,by simp,fun h => by simp at h⟩,fun p hp => by cases hp⟩
 ·have hlm : len ≤ m := by rw [hmm];split <;> omega
  have go : ∀ k : Nat,k ≤ len → ∃ xs : List α,xs.length = k ∧ (∀ j p,xs[j]? = some p → (∃ c,c.length = d.sz ∧ d.K w p c ∧ ∀ i u,c[i]? = some u → w.cell? (a.add (j * d.sz + i)) = some u) ∧ Q p) := by
   intro k
   induction k with
   | zero => intro _;exact ⟨[],rfl,fun j p hp => by simp at hp⟩
   | succ k ih =>
    intro hk
    obtain ⟨xs,hx,hall⟩ := ih (by omega)
    obtain ⟨cs',hc,htr⟩ := hi k (by omega)
    obtain ⟨p,hp,hq⟩ := elem _ _ _ htr
    obtain ⟨_,hlen,hcell⟩ := World.cells?_some hc
    rw [hC] at hlen hcell
    refine ⟨xs ++ [p],by simp [hx],fun j q hj => ?_⟩
    by_cases hjk : j < k
    ·rw [List.getElem?_append_left (by omega)] at hj
     exact hall j q hj
    ·have hlt := (List.getElem?_eq_some_iff.1 hj).1
     simp at hlt
     obtain rfl : j = k := by omega
     rw [← hx,List.getElem?_concat_length] at hj
     cases hj
     refine ⟨⟨cs',hlen,hp,fun i u hu => ?_⟩,hq⟩
     have hil : i < d.sz := by rw [← hlen];exact (List.getElem?_eq_some_iff.1 hu).1
     rw [← hu,← hcell i hil,Go.Deep.add_add]
  obtain ⟨xs,hx,hall⟩ := go len (Nat.le_refl _)
  refine ⟨some a,cap,xs,by rw [hx];exact hcs,by omega,by omega,⟨rfl,by unfold maxLen at hm;omega,fun _ => ⟨a,rfl,fun j p hp => (hall j p hp).1⟩⟩,fun p hp => ?_⟩
  obtain ⟨j,hj,rfl⟩ := List.getElem_of_mem hp
  exact (hall j _ (List.getElem?_eq_getElem hj)).2
end
section
variable {H : Type} {enc : TypeId × Value → H} {w : World} {base : Nat} {spare : Nat → Bool} {held : Bool}
def okInt (n : Int) : Prop := -9223372036854775808 ≤ n ∧ n ≤ 9223372036854775807
theorem okInt_of {n : Int} (h : (Lit.int .i64 n).wf = true) : okInt n := bounds_i64 h
def ok34 (x : S34) : Prop := okInt x.f0 ∧ okInt x.f1
def ok36 (x : S36) : Prop := ok34 x.f0 ∧ ok34 x.f1 ∧ okInt x.f2 ∧ okInt x.f3 ∧ okInt x.f4
theorem trod34 {n : Nat} {cs : List Value} {x : DataW H × List MemPlace} (h : DataW.trod enc Try.prog w base spare held n 34 cs = some x) : ∃ p : S34,k34.K w p cs ∧ ok34 p := by
 obtain ⟨xs,n',_,hx,hlen,hl,hf⟩ := DataW.trod_struct Try.underlying34 h
 have hc : Try.prog.cellsOf 34 = 2 := by kernel_rfl
 have hc3 : Try.prog.cellsOf 3 = 1 := by kernel_rfl
 rw [hc] at hlen
 have hl : xs.length = 2 := hl
 rcases cs with _ | ⟨c0,_ | ⟨c1,_ | ⟨c2,cs⟩⟩⟩ <;> first | (exfalso;simp at hlen;done) | skip
 ·rcases xs with _ | ⟨y0,_ | ⟨y1,_ | ⟨y2,xs⟩⟩⟩ <;> first | (exfalso;simp at hl;done) | skip
  ·have h0 : DataW.trod enc Try.prog w base spare held n' 3 ((([c0,c1] : List Value).drop 0).take (Try.prog.cellsOf 3)) = some y0 := hf 0 _ rfl
   have h1 : DataW.trod enc Try.prog w base spare held n' 3 ((([c0,c1] : List Value).drop 1).take (Try.prog.cellsOf 3)) = some y1 := hf 1 _ rfl
   rw [hc3] at h0 h1
   obtain ⟨a,e0,_,w0⟩ := DataW.trod_int Try.underlying3 h0
   obtain ⟨b,e1,_,w1⟩ := DataW.trod_int Try.underlying3 h1
   cases e0
   cases e1
   exact ⟨⟨a,b⟩,k34_mk w ⟨a,b⟩,okInt_of w0,okInt_of w1⟩
theorem trod36 {n : Nat} {cs : List Value} {x : DataW H × List MemPlace} (h : DataW.trod enc Try.prog w base spare held n 36 cs = some x) : ∃ p : S36,k36.K w p cs ∧ ok36 p := by
 obtain ⟨xs,n',_,hx,hlen,hl,hf⟩ := DataW.trod_struct Try.underlying36 h
 have hc : Try.prog.cellsOf 36 = 7 := by kernel_rfl
 have hc3 : Try.prog.cellsOf 3 = 1 := by kernel_rfl
 have hc34 : Try.prog.cellsOf 34 = 2 := by kernel_rfl
 rw [hc] at hlen
 have hl : xs.length = 5 := hl
 rcases cs with _ | ⟨c0,_ | ⟨c1,_ | ⟨c2,_ | ⟨c3,_ | ⟨c4,_ | ⟨c5,_ | ⟨c6,_ | ⟨c7,cs⟩⟩⟩⟩⟩⟩⟩⟩ <;> first | (exfalso;simp at hlen;done) | skip
 ·rcases xs with _ | ⟨y0,_ | ⟨y1,_ | ⟨y2,_ | ⟨y3,_ | ⟨y4,_ | ⟨y5,xs⟩⟩⟩⟩⟩⟩ <;> first | (exfalso;simp at hl;done) | skip
  ·have h0 : DataW.trod enc Try.prog w base spare held n' 34 ((([c0,c1,c2,c3,c4,c5,c6] : List Value).drop 0).take (Try.prog.cellsOf 34)) = some y0 := hf 0 _ rfl
   have h1 : DataW.trod enc Try.prog w base spare held n' 34 ((([c0,c1,c2,c3,c4,c5,c6] : List Value).drop 2).take (Try.prog.cellsOf 34)) = some y1 := hf 1 _ rfl
   have h2 : DataW.trod enc Try.prog w base spare held n' 3 ((([c0,c1,c2,c3,c4,c5,c6] : List Value).drop 4).take (Try.prog.cellsOf 3)) = some y2 := hf 2 _ rfl
   have h3 : DataW.trod enc Try.prog w base spare held n' 3 ((([c0,c1,c2,c3,c4,c5,c6] : List Value).drop 5).take (Try.prog.cellsOf 3)) = some y3 := hf 3 _ rfl
   have h4 : DataW.trod enc Try.prog w base spare held n' 3 ((([c0,c1,c2,c3,c4,c5,c6] : List Value).drop 6).take (Try.prog.cellsOf 3)) = some y4 := hf 4 _ rfl
   rw [hc34] at h0 h1
   rw [hc3] at h2 h3 h4
   obtain ⟨p,hp,wp⟩ := trod34 h0
   obtain ⟨q,hq,wq⟩ := trod34 h1
   obtain ⟨a,e2,_,w2⟩ := DataW.trod_int Try.underlying3 h2
   obtain ⟨b,e3,_,w3⟩ := DataW.trod_int Try.underlying3 h3
   obtain ⟨c,e4,_,w4⟩ := DataW.trod_int Try.underlying3 h4
   have ep := k34_open hp
   have eq := k34_open hq
   cases ep
   cases eq
   cases e2
   cases e3
   cases e4
   exact ⟨⟨p,q,a,b,c⟩,k36_mk w ⟨p,q,a,b,c⟩,wp,wq,okInt_of w2,okInt_of w3,okInt_of w4⟩
end
section
variable {H : Type} {enc : TypeId × Value → H} {w : World} {base : Nat} {spare : Nat → Bool} {held : Bool}
theorem trodInt {n : Nat} {cs : List Value} {x : DataW H × List MemPlace} (h : DataW.trod enc Try.prog w base spare held n 3 cs = some x) : ∃ p : Int,(Kd.int .i64).K w p cs ∧ okInt p := by
 obtain ⟨a,e,_,w0⟩ := DataW.trod_int Try.underlying3 h
 exact ⟨a,e,okInt_of w0⟩
def ok70 (x : S70) : Prop := okInt x.f0 ∧ okInt x.f1
theorem trod70 {n : Nat} {cs : List Value} {x : DataW H × List MemPlace} (h : DataW.trod enc Try.prog w base spare held n 70 cs = some x) : ∃ p : S70,k70.K w p cs ∧ ok70 p := by
 obtain ⟨xs,n',_,hx,hlen,hl,hf⟩ := DataW.trod_struct Try.underlying70 h
 have hc : Try.prog.cellsOf 70 = 2 := by kernel_rfl
 have hc3 : Try.prog.cellsOf 3 = 1 := by kernel_rfl
 rw [hc] at hlen
 have hl : xs.length = 2 := hl
 rcases cs with _ | ⟨c0,_ | ⟨c1,_ | ⟨c2,cs⟩⟩⟩ <;> first | (exfalso;simp at hlen;done) | skip
 ·rcases xs with _ | ⟨y0,_ | ⟨y1,_ | ⟨y2,xs⟩⟩⟩ <;> first | (exfalso;simp at hl;done) | skip
  ·have h0 : DataW.trod enc Try.prog w base spare held n' 3 ((([c0,c1] : List Value).drop 0).take (Try.prog.cellsOf 3)) = some y0 := hf 0 _ rfl
   have h1 : DataW.trod enc Try.prog w base spare held n' 3 ((([c0,c1] : List Value).drop 1).take (Try.prog.cellsOf 3)) = some y1 := hf 1 _ rfl
   rw [hc3] at h0 h1
   obtain ⟨a,e0,_,w0⟩ := DataW.trod_int Try.underlying3 h0
   obtain ⟨b,e1,_,w1⟩ := DataW.trod_int Try.underlying3 h1
   cases e0
   cases e1
   exact ⟨⟨a,b⟩,k70_mk w ⟨a,b⟩,okInt_of w0,okInt_of w1⟩
end

theorem own : ownKnob Try.prog.godebug = none := by kernel_rfl
theorem laidOut : laidOutB Try.prog = true := by kernel_rfl
set_option maxRecDepth 100000 in
theorem lifted (os : Os) (started : os.Started) (H : Type) (enc : TypeId × Value → H) :
  ReturnsInHanded {} Try.checked os 11 .any (Rows.gaugeChecksSpec.pre6 enc Try.prog Try.f11 Rows.gaugeChecksRow.domain false) (Rows.gaugeChecksSpec.post enc Try.prog Try.f11 false true false false) := by
 refine returnsInHanded_of_change_sized (C := Try.checked) own started (by kernel_rfl) Try.func11
  (ChangeSpec.witness6 (enc := enc) (C := Try.checked) false ⟨#[],#[.slice none 0 0,.agg #[.int .i64 0,.int .i64 0,.int .i64 0,.int .i64 0,.int .i64 0,.int .i64 0,.int .i64 0],.int .i64 0,.int .i64 0,.slice none 0 0],[]⟩ 8 (by kernel_rfl) (by kernel_rfl) (by kernel_rfl) (by kernel_rfl)) ?_
 intro W base args ds gs before hval0 hW hcnd hsz0 _
 have hval : ∀ (j : Nat) t v,Try.f11.params[j]? = some t → args[j]? = some v → Value.okWide Try.prog W .any base t v := hval0
 have hW' := hW
 obtain ⟨p,q,hA0,hV,rfl,hfz,hnd⟩ := hW
 have hA : DataW.TrodAll enc Try.prog W 0 (fun _ => true) true Try.f11.params.toList args.toList ds p := hA0
 rw [Try.params11] at hA hval
 obtain ⟨v0,vs0,d0,ds0,p0,q0,hargs,rfl,rfl,h0,r0⟩ := trodAll_cons hA
 obtain ⟨v1,vs1,d1,ds1,p1,q1,rfl,rfl,rfl,h1,r1⟩ := trodAll_cons r0
 obtain ⟨v2,vs2,d2,ds2,p2,q2,rfl,rfl,rfl,h2,r2⟩ := trodAll_cons r1
 obtain ⟨v3,vs3,d3,ds3,p3,q3,rfl,rfl,rfl,h3,r3⟩ := trodAll_cons r2
 obtain ⟨v4,vs4,d4,ds4,p4,q4,rfl,rfl,rfl,h4,r4⟩ := trodAll_cons r3
 obtain ⟨rfl,rfl,rfl⟩ := trodAll_nil r4
 obtain rfl : args = #[v0,v1,v2,v3,v4] := by cases args;simp_all
 obtain ⟨rfl,rfl⟩ := trodVars_none hV
 obtain ⟨b0,len0,cap0,rfl⟩ := okWide_slice Try.underlying22 (hval 0 22 v0 rfl rfl)
 have k0 := h0
 have lt0 : ∀ x ∈ p0,x.block < W.heap.size := by obtain ⟨m,hm⟩ := k0;exact DataW.trod_lt m _ _ _ hm
 obtain ⟨A0,c0,l0,hcs0,hc0,hm0,hr0,hQ0⟩ : ∃ (A : Option Addr) (cap : Nat) (xs : List _),(Value.slice b0 len0 cap0).cells.toList = [.slice A xs.length cap] ∧ xs.length ≤ cap ∧ xs.length ≤ maxLen ∧ Kd.C k36 W A xs.length xs ∧ ∀ p ∈ xs,ok36 p := by
  obtain ⟨fuel,hf⟩ := h0
  exact open_row k36 ok36 Try.underlying22 (by kernel_rfl) (fun _ _ _ h => trod36 h) hf
 simp [Value.cells] at hcs0
 obtain ⟨rfl,rfl,rfl⟩ := hcs0
 obtain ⟨g1,rfl,hsz1⟩ := okWide_struct Try.underlying36 (hval 1 36 v1 rfl rfl)
 have k1 := h1
 have lt1 : ∀ x ∈ p1,x.block < W.heap.size := by obtain ⟨m,hm⟩ := k1;exact DataW.trod_lt m _ _ _ hm
 obtain ⟨s1,hs1,hQ1⟩ : ∃ x : S36,(Value.agg g1).cells.toList = [.int .i64 x.f0.f0,.int .i64 x.f0.f1,.int .i64 x.f1.f0,.int .i64 x.f1.f1,.int .i64 x.f2,.int .i64 x.f3,.int .i64 x.f4] ∧ ok36 x := by
  obtain ⟨fuel,hf⟩ := h1
  obtain ⟨x,hx,hq⟩ := trod36 hf
  exact ⟨x,k36_open hx,hq⟩
 obtain ⟨g1⟩ := g1
 simp [Value.cells] at hs1
 subst hs1
 obtain ⟨a2,rfl,rfl,rfl,w2⟩ := open_int Try.underlying3 (hval 2 3 v2 rfl rfl) h2
 obtain ⟨a3,rfl,rfl,rfl,w3⟩ := open_int Try.underlying3 (hval 3 3 v3 rfl rfl) h3
 obtain ⟨b4,len4,cap4,rfl⟩ := okWide_slice Try.underlying23 (hval 4 23 v4 rfl rfl)
 have k4 := h4
 have lt4 : ∀ x ∈ p4,x.block < W.heap.size := by obtain ⟨m,hm⟩ := k4;exact DataW.trod_lt m _ _ _ hm
 obtain ⟨A4,c4,l4,hcs4,hc4,hm4,hr4,hQ4⟩ : ∃ (A : Option Addr) (cap : Nat) (xs : List _),(Value.slice b4 len4 cap4).cells.toList = [.slice A xs.length cap] ∧ xs.length ≤ cap ∧ xs.length ≤ maxLen ∧ Kd.C (Kd.int .i64) W A xs.length xs ∧ ∀ p ∈ xs,okInt p := by
  obtain ⟨fuel,hf⟩ := h4
  exact open_row (Kd.int .i64) okInt Try.underlying23 (by kernel_rfl) (fun _ _ _ h => trodInt h) hf
 simp [Value.cells] at hcs4
 obtain ⟨rfl,rfl,rfl⟩ := hcs4
 clear hA0 hval0 hsz0
 have hP : L_GaugeChecks.f l0 s1.f0.f0 s1.f0.f1 s1.f1.f0 s1.f1.f1 s1.f2 s1.f3 s1.f4 a2 a3 l4 = some true := GaugeChecks l0 s1.f0.f0 s1.f0.f1 s1.f1.f0 s1.f1.f1 s1.f2 s1.f3 s1.f4 a2 a3 l4 hm4
 refine (L_GaugeChecks.calls _ _ l0 s1.f0.f0 s1.f0.f1 s1.f1.f0 s1.f1.f1 s1.f2 s1.f3 s1.f4 a2 a3 _ _ l4 true W hr0 hc0 hr4 hc4 hP).mono fun e W' ⟨he,bel⟩ => ?_
 subst he
 exact ⟨_,rfl,_,_,_,[],_,[],hW',trodAll_mk1 (shut_bool Try.underlying4 _),(trodAll_cons_mk (Below.trod laidOut (by kernel_rfl) (of_decide_eq_true (by kernel_rfl)) k0 bel lt0) (trodAll_cons_mk (Below.trod laidOut (by kernel_rfl) (of_decide_eq_true (by kernel_rfl)) k1 bel lt1) (trodAll_cons_mk (shut_int Try.underlying3 w2) (trodAll_cons_mk (shut_int Try.underlying3 w3) (trodAll_cons_mk (Below.trod laidOut (by kernel_rfl) (of_decide_eq_true (by kernel_rfl)) k4 bel lt4) trodAll_mk0))))),rfl,bel.frame _,fun h => by cases h⟩
theorem over : Rows.gaugeChecksRow.holds Try.pinned (OpenSpec.ofChange Rows.gaugeChecksSpec) :=
 OpenClaim.holds_of_wide 11 Try.f11 rfl rfl rfl rfl rfl rfl rfl ⟨rfl,rfl,rfl,rfl,rfl⟩ rfl rfl rfl rfl rfl (by kernel_rfl) Try.func11 (by kernel_rfl)
  (of_decide_eq_true (by kernel_rfl)) (by unfold Func.isWrapper;first | (rw [if_pos (by decide +kernel)];kernel_rfl) | (rw [if_neg (by decide +kernel)];exact ⟨rfl,rfl⟩))
  (fun os started H enc _ => lifted os started H enc)
theorem proved : Rows.GaugeChecksSaid := over
#print axioms proved
end Go.Proofs.Ytdbpobadeibjaaa.gaugeChecks
namespace Go.Proofs.Ytdbpobadeibjaaa
/-- The row,under a short name,for the claim. -/
theorem gaugeChecks_holds : Rows.GaugeChecksSaid := gaugeChecks.proved
end Go.Proofs.Ytdbpobadeibjaaa
