/- GaugeKnown: the row. The given function of the program answers true for every input that the statement lets in;no condition beside the statement's own. -/
import Derived.Test.YtdbpobadeibjaabRows
import Derived.Test.YtdbpobadeibjaabPureGaugeKnown
import Derived.WalkKit
import Derived.ProofKit
import Derived.OpenShut
import Derived.ShutString
import Derived.ChangeOld
import Derived.Below
import Derived.SizedLaws
import Derived.Deep.Slices
import Derived.ChangeSlices
import Derived.ChangeArms
namespace Go.Proofs.Ytdbpobadeibjaab.gaugeKnown
open Go.ChangeShapes Go.WideShapes Go.ChangeAt Go.RowKit Go.Deep Go.Proofs.Ytdbpobadeibjaab.GE Go.Proofs.YtdbpobadeibjaabW.PrintWords
set_option linter.unusedVariables false
/-! ### what came in: rows of structs -/
section
variable {H : Type} {enc : TypeId × Value → H} {P : Program} {w : World} {base : Nat} {spare : Nat → Bool} {held : Bool}
theorem open_row {α : Type} (d : Kd α) (Q : α → Prop) {t e : TypeId} (ht : P.underlying t = some (.slice e)) (hC : P.cellsOf e = d.sz)
  (elem : ∀ n cs' x,DataW.trod enc P w base spare held n e cs' = some x → ∃ p : α,d.K w p cs' ∧ Q p) {fuel : Nat} {cs : List Value} {x : DataW H × List MemPlace} (h : DataW.trod enc P w base spare held fuel t cs = some x) :
  ∃ (A : Option Addr) (cap : Nat) (xs : List α),cs = [.slice A xs.length cap] ∧ xs.length ≤ cap ∧ xs.length ≤ maxLen ∧ d.C w A xs.length xs ∧ ∀ p ∈ xs,Q p := by
 rcases open_slice ht h with ⟨h0,_⟩ | ⟨a,len,cap,m,n,D,Pl,hcs,hb,hl,hm,hmm,_,hi⟩
 ·exact ⟨none,0,[],h0,Nat.le_refl _,Nat.zero_le _,⟨rfl,by simp,fun h => by simp at h⟩,fun p hp => by cases hp⟩
 ·have hlm : len ≤ m := by rw [hmm];split <;> omega
  have go : ∀ k : Nat,k ≤ len → ∃ xs : List α,xs.length = k ∧ (∀ j p,xs[j]? = some p → (∃ c,c.length = d.sz ∧ d.K w p c ∧ ∀ i u,c[i]? = some u → w.cell? (a.add (j * d.sz + i)) = some u) ∧ Q p) := by
   intro k
   induction k with
   | zero => intro _;exact ⟨[],rfl,fun j p hp => by simp at hp⟩
   | succ k ih =>
    intro hk
    obtain ⟨xs,hx,hall⟩ := ih (by omega)
    obtain ⟨cs',hc,htr⟩ := hi k (by omega)
    obtain ⟨p,hp,hq⟩ := elem _ _ _ htr
    obtain ⟨_,hlen,hcell⟩ := World.cells?_some hc
    rw [hC] at hlen hcell
    refine ⟨xs ++ [p],by simp [hx],fun j q hj => ?_⟩
    by_cases hjk : j < k
    ·rw [List.getElem?_append_left (by omega)] at hj
     exact hall j q hj
    ·have hlt := (List.getElem?_eq_some_iff.1 hj).1
     simp at hlt
     obtain rfl : j = k := by omega
     rw [← hx,List.getElem?_concat_length] at hj
     cases hj
     refine ⟨⟨cs',hlen,hp,fun i u hu => ?_⟩,hq⟩
     have hil : i < d.sz := by rw [← hlen];exact (List.getElem?_eq_some_iff.1 hu).1
     rw [← hu,← hcell i hil,Go.Deep.add_add]
  obtain ⟨xs,hx,hall⟩ := go len (Nat.le_refl _)
  refine ⟨some a,cap,xs,by rw [hx];exact hcs,by omega,by omega,⟨rfl,by unfold maxLen at hm;omega,fun _ => ⟨a,rfl,fun j p hp => (hall j p hp).1⟩⟩,fun p hp => ?_⟩
  obtain ⟨j,hj,rfl⟩ := List.getElem_of_mem hp
  exact (hall j _ (List.getElem?_eq_getElem hj)).2
end
section
variable {H : Type} {enc : TypeId × Value → H} {w : World} {base : Nat} {spare : Nat → Bool} {held : Bool}
def okInt (n : Int) : Prop := -9223372036854775808 ≤ n ∧ n ≤ 9223372036854775807
theorem okInt_of {n : Int} (h : (Lit.int .i64 n).wf = true) : okInt n := bounds_i64 h
def ok34 (x : S34) : Prop := okInt x.f0 ∧ okInt x.f1
def ok49 (x : S49) : Prop := ok34 x.f0 ∧ ok34 x.f1 ∧ okInt x.f2 ∧ okInt x.f3 ∧ okInt x.f4
theorem trod34 {n : Nat} {cs : List Value} {x : DataW H × List MemPlace} (h : DataW.trod enc Try.prog w base spare held n 34 cs = some x) : ∃ p : S34,k34.K w p cs ∧ ok34 p := by
 obtain ⟨xs,n',_,hx,hlen,hl,hf⟩ := DataW.trod_struct Try.underlying34 h
 have hc : Try.prog.cellsOf 34 = 2 := by kernel_rfl
 have hc3 : Try.prog.cellsOf 3 = 1 := by kernel_rfl
 rw [hc] at hlen
 have hl : xs.length = 2 := hl
 rcases cs with _ | ⟨c0,_ | ⟨c1,_ | ⟨c2,cs⟩⟩⟩ <;> first | (exfalso;simp at hlen;done) | skip
 ·rcases xs with _ | ⟨y0,_ | ⟨y1,_ | ⟨y2,xs⟩⟩⟩ <;> first | (exfalso;simp at hl;done) | skip
  ·have h0 : DataW.trod enc Try.prog w base spare held n' 3 ((([c0,c1] : List Value).drop 0).take (Try.prog.cellsOf 3)) = some y0 := hf 0 _ rfl
   have h1 : DataW.trod enc Try.prog w base spare held n' 3 ((([c0,c1] : List Value).drop 1).take (Try.prog.cellsOf 3)) = some y1 := hf 1 _ rfl
   rw [hc3] at h0 h1
   obtain ⟨a,e0,_,w0⟩ := DataW.trod_int Try.underlying3 h0
   obtain ⟨b,e1,_,w1⟩ := DataW.trod_int Try.underlying3 h1
   cases e0
   cases e1
   exact ⟨⟨a,b⟩,k34_mk w ⟨a,b⟩,okInt_of w0,okInt_of w1⟩
theorem trod49 {n : Nat} {cs : List Value} {x : DataW H × List MemPlace} (h : DataW.trod enc Try.prog w base spare held n 49 cs = some x) : ∃ p : S49,k49.K w p cs ∧ ok49 p := by
 obtain ⟨xs,n',_,hx,hlen,hl,hf⟩ := DataW.trod_struct Try.underlying49 h
 have hc : Try.prog.cellsOf 49 = 7 := by kernel_rfl
 have hc3 : Try.prog.cellsOf 3 = 1 := by kernel_rfl
 have hc34 : Try.prog.cellsOf 34 = 2 := by kernel_rfl
 rw [hc] at hlen
 have hl : xs.length = 5 := hl
 rcases cs with _ | ⟨c0,_ | ⟨c1,_ | ⟨c2,_ | ⟨c3,_ | ⟨c4,_ | ⟨c5,_ | ⟨c6,_ | ⟨c7,cs⟩⟩⟩⟩⟩⟩⟩⟩ <;> first | (exfalso;simp at hlen;done) | skip
 ·rcases xs with _ | ⟨y0,_ | ⟨y1,_ | ⟨y2,_ | ⟨y3,_ | ⟨y4,_ | ⟨y5,xs⟩⟩⟩⟩⟩⟩ <;> first | (exfalso;simp at hl;done) | skip
  ·have h0 : DataW.trod enc Try.prog w base spare held n' 34 ((([c0,c1,c2,c3,c4,c5,c6] : List Value).drop 0).take (Try.prog.cellsOf 34)) = some y0 := hf 0 _ rfl
   have h1 : DataW.trod enc Try.prog w base spare held n' 34 ((([c0,c1,c2,c3,c4,c5,c6] : List Value).drop 2).take (Try.prog.cellsOf 34)) = some y1 := hf 1 _ rfl
   have h2 : DataW.trod enc Try.prog w base spare held n' 3 ((([c0,c1,c2,c3,c4,c5,c6] : List Value).drop 4).take (Try.prog.cellsOf 3)) = some y2 := hf 2 _ rfl
   have h3 : DataW.trod enc Try.prog w base spare held n' 3 ((([c0,c1,c2,c3,c4,c5,c6] : List Value).drop 5).take (Try.prog.cellsOf 3)) = some y3 := hf 3 _ rfl
   have h4 : DataW.trod enc Try.prog w base spare held n' 3 ((([c0,c1,c2,c3,c4,c5,c6] : List Value).drop 6).take (Try.prog.cellsOf 3)) = some y4 := hf 4 _ rfl
   rw [hc34] at h0 h1
   rw [hc3] at h2 h3 h4
   obtain ⟨p,hp,wp⟩ := trod34 h0
   obtain ⟨q,hq,wq⟩ := trod34 h1
   obtain ⟨a,e2,_,w2⟩ := DataW.trod_int Try.underlying3 h2
   obtain ⟨b,e3,_,w3⟩ := DataW.trod_int Try.underlying3 h3
   obtain ⟨c,e4,_,w4⟩ := DataW.trod_int Try.underlying3 h4
   have ep := k34_open hp
   have eq := k34_open hq
   cases ep
   cases eq
   cases e2
   cases e3
   cases e4
   exact ⟨⟨p,q,a,b,c⟩,k49_mk w ⟨p,q,a,b,c⟩,wp,wq,okInt_of w2,okInt_of w3,okInt_of w4⟩
end
section
variable {H : Type} {enc : TypeId × Value → H} {w : World} {base : Nat} {spare : Nat → Bool} {held : Bool}
theorem trodInt {n : Nat} {cs : List Value} {x : DataW H × List MemPlace} (h : DataW.trod enc Try.prog w base spare held n 3 cs = some x) : ∃ p : Int,(Kd.int .i64).K w p cs ∧ okInt p := by
 obtain ⟨a,e,_,w0⟩ := DataW.trod_int Try.underlying3 h
 exact ⟨a,e,okInt_of w0⟩
def ok32 (x : S32) : Prop := okInt x.f0 ∧ okInt x.f1
theorem trod32 {n : Nat} {cs : List Value} {x : DataW H × List MemPlace} (h : DataW.trod enc Try.prog w base spare held n 32 cs = some x) : ∃ p : S32,k32.K w p cs ∧ ok32 p := by
 obtain ⟨xs,n',_,hx,hlen,hl,hf⟩ := DataW.trod_struct Try.underlying32 h
 have hc : Try.prog.cellsOf 32 = 2 := by kernel_rfl
 have hc3 : Try.prog.cellsOf 3 = 1 := by kernel_rfl
 rw [hc] at hlen
 have hl : xs.length = 2 := hl
 rcases cs with _ | ⟨c0,_ | ⟨c1,_ | ⟨c2,cs⟩⟩⟩ <;> first | (exfalso;simp at hlen;done) | skip
 ·rcases xs with _ | ⟨y0,_ | ⟨y1,_ | ⟨y2,xs⟩⟩⟩ <;> first | (exfalso;simp at hl;done) | skip
  ·have h0 : DataW.trod enc Try.prog w base spare held n' 3 ((([c0,c1] : List Value).drop 0).take (Try.prog.cellsOf 3)) = some y0 := hf 0 _ rfl
   have h1 : DataW.trod enc Try.prog w base spare held n' 3 ((([c0,c1] : List Value).drop 1).take (Try.prog.cellsOf 3)) = some y1 := hf 1 _ rfl
   rw [hc3] at h0 h1
   obtain ⟨a,e0,_,w0⟩ := DataW.trod_int Try.underlying3 h0
   obtain ⟨b,e1,_,w1⟩ := DataW.trod_int Try.underlying3 h1
   cases e0
   cases e1
   exact ⟨⟨a,b⟩,k32_mk w ⟨a,b⟩,okInt_of w0,okInt_of w1⟩
end

theorem own : ownKnob Try.prog.godebug = none := by kernel_rfl
theorem laidOut : laidOutB Try.prog = true := by kernel_rfl
set_option maxRecDepth 100000 in
theorem lifted (os : Os) (started : os.Started) (H : Type) (enc : TypeId × Value → H) :
  ReturnsInHanded {} Try.checked os 8 .any (Rows.gaugeKnownSpec.pre6 enc Try.prog Try.f8 Rows.gaugeKnownRow.domain false) (Rows.gaugeKnownSpec.post enc Try.prog Try.f8 false true false false) := by
 refine returnsInHanded_of_change_sized (C := Try.checked) own started (by kernel_rfl) Try.func8
  (ChangeSpec.witness6 (enc := enc) (C := Try.checked) false ⟨#[],#[],[]⟩ 8 (by kernel_rfl) (by kernel_rfl) (by kernel_rfl) (by kernel_rfl)) ?_
 intro W base args ds gs before hval0 hW hcnd hsz0 _
 have hval : ∀ (j : Nat) t v,Try.f8.params[j]? = some t → args[j]? = some v → Value.okWide Try.prog W .any base t v := hval0
 have hW' := hW
 obtain ⟨p,q,hA0,hV,rfl,hfz,hnd⟩ := hW
 have hA : DataW.TrodAll enc Try.prog W 0 (fun _ => true) true Try.f8.params.toList args.toList ds p := hA0
 rw [Try.params8] at hA hval
 obtain ⟨hargs,rfl,rfl⟩ := trodAll_nil hA
 obtain rfl : args = #[] := by cases args;simp_all
 obtain ⟨rfl,rfl⟩ := trodVars_none hV
 clear hA0 hval0 hsz0
 have hP : L_GaugeKnown.f  = some true := GaugeKnown  
 refine (L_GaugeKnown.calls  true W  hP).mono fun e W' ⟨he,bel⟩ => ?_
 subst he
 exact ⟨_,rfl,_,_,_,[],_,[],hW',trodAll_mk1 (shut_bool Try.underlying4 _),trodAll_mk0,rfl,bel.frame _,fun h => by cases h⟩
theorem over : Rows.gaugeKnownRow.holds Try.pinned (OpenSpec.ofChange Rows.gaugeKnownSpec) :=
 OpenClaim.holds_of_wide 8 Try.f8 rfl rfl rfl rfl rfl rfl rfl ⟨rfl,rfl,rfl,rfl,rfl⟩ rfl rfl rfl rfl rfl (by kernel_rfl) Try.func8 (by kernel_rfl)
  (of_decide_eq_true (by kernel_rfl)) (by unfold Func.isWrapper;first | (rw [if_pos (by decide +kernel)];kernel_rfl) | (rw [if_neg (by decide +kernel)];exact ⟨rfl,rfl⟩))
  (fun os started H enc _ => lifted os started H enc)
theorem proved : Rows.GaugeKnownSaid := over
#print axioms proved
end Go.Proofs.Ytdbpobadeibjaab.gaugeKnown
namespace Go.Proofs.Ytdbpobadeibjaab
/-- The row,under a short name,for the claim. -/
theorem gaugeKnown_holds : Rows.GaugeKnownSaid := gaugeKnown.proved
end Go.Proofs.Ytdbpobadeibjaab
