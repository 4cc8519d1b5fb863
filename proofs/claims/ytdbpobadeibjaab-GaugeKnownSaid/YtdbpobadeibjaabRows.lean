/-
  No cell of these rows narrows 'for every input' (looked for: loops, veiled, ifaces, maps, wideKeys, modest, calm, conditions, laid).
  DERIVED. THE GIVEN ROWS OF THIS SEAT. 6 by the template 'for every input the law returns true; each argument reads behind the call as it read before'; 0 by the template 'total and deterministic' (their statements: YtdbpobadeibjaabTotals.lean).
  GIVEN WITH THE SEED: the statements are not yours to turn. If you find one false, say at which input.
  Laid BY PROGRAM, IN A SANDBOX (cutbox-rows.mjs): the forced cells as the released guide's own fill.sh prints them over the translation a25e6d719e85fdf5… (all of the seat's roots in one cut). By AI agents, Wed Nov 11 2026. No macro, syntax, notation, axiom, sorry.
-/
import Derived.Test.YtdbpobadeibjaabChecked
import GoSem.Claim
import GoSem.ClaimJoined
import GoSem.ClaimMapViews
import Derived.JoinedTies
import Derived.KernelRfl
namespace Go.Proofs.Ytdbpobadeibjaab
/- THE CELL 'sum', in the pinned program and in every row, IS THE sha256 OF THE DUMP (.gsa) THAT YtdbpobadeibjaabProg.lean LOADS. Nothing in Lean hashes anything: it is a label: what it is worth is what the hold of that sum in a sandbox is worth. -/
noncomputable def Try.pinned : Pinned := { name := "ytdbpobadeibjaab", sum := "a25e6d719e85fdf5280685ea91630326672f0026a53e5f7655e1222fe69a625c", checked := Try.checked }
namespace Rows
def none {H : Type} : Left H := { results := [], args := [] }

/-- 'thermionlaw07.GaugeAgrees': WHATEVER THE INPUT: true; the input reads as it did. -/
def gaugeAgreesSpec : ChangeSpec := { name := "gaugeAgrees", fn := fun _ => fun
  | [d1, d2] => { results := [.lit (.bool true)], args := [d1, d2] }
  | _ => none }
def gaugeAgreesRow : OpenClaim := { program := "ytdbpobadeibjaab", sum := "a25e6d719e85fdf5280685ea91630326672f0026a53e5f7655e1222fe69a625c", func := "thermion/thermionlaw07.GaugeAgrees", spec := "gaugeAgrees", unfollowed := true, recurses := true, apart := false }
def GaugeAgreesSaid : Prop := gaugeAgreesRow.holds Try.pinned (OpenSpec.ofChange gaugeAgreesSpec)

/-- ITS FALSE NEIGHBOUR: 'it returns false'. Refute it at one input. -/
def gaugeAgreesWrong : ChangeSpec := { name := "gaugeAgrees", fn := fun _ => fun
  | [d1, d2] => { results := [.lit (.bool false)], args := [d1, d2] }
  | _ => none }
def GaugeAgreesWrongFalsely : Prop := gaugeAgreesRow.holds Try.pinned (OpenSpec.ofChange gaugeAgreesWrong)

/-- 'thermionlaw07.GaugeAccepts': WHATEVER THE INPUT: true; the input reads as it did. -/
def gaugeAcceptsSpec : ChangeSpec := { name := "gaugeAccepts", fn := fun _ => fun
  | [d1, d2, d3, d4, d5, d6] => { results := [.lit (.bool true)], args := [d1, d2, d3, d4, d5, d6] }
  | _ => none }
def gaugeAcceptsRow : OpenClaim := { program := "ytdbpobadeibjaab", sum := "a25e6d719e85fdf5280685ea91630326672f0026a53e5f7655e1222fe69a625c", func := "thermion/thermionlaw07.GaugeAccepts", spec := "gaugeAccepts", unfollowed := true, recurses := true, apart := false }
def GaugeAcceptsSaid : Prop := gaugeAcceptsRow.holds Try.pinned (OpenSpec.ofChange gaugeAcceptsSpec)

/-- ITS FALSE NEIGHBOUR: 'it returns false'. Refute it at one input. -/
def gaugeAcceptsWrong : ChangeSpec := { name := "gaugeAccepts", fn := fun _ => fun
  | [d1, d2, d3, d4, d5, d6] => { results := [.lit (.bool false)], args := [d1, d2, d3, d4, d5, d6] }
  | _ => none }
def GaugeAcceptsWrongFalsely : Prop := gaugeAcceptsRow.holds Try.pinned (OpenSpec.ofChange gaugeAcceptsWrong)

/-- 'thermionlaw07.GaugeGuards': WHATEVER THE INPUT: true; the input reads as it did. -/
def gaugeGuardsSpec : ChangeSpec := { name := "gaugeGuards", fn := fun _ => fun
  | [d1, d2, d3] => { results := [.lit (.bool true)], args := [d1, d2, d3] }
  | _ => none }
def gaugeGuardsRow : OpenClaim := { program := "ytdbpobadeibjaab", sum := "a25e6d719e85fdf5280685ea91630326672f0026a53e5f7655e1222fe69a625c", func := "thermion/thermionlaw07.GaugeGuards", spec := "gaugeGuards", unfollowed := true, recurses := true, apart := false }
def GaugeGuardsSaid : Prop := gaugeGuardsRow.holds Try.pinned (OpenSpec.ofChange gaugeGuardsSpec)

/-- ITS FALSE NEIGHBOUR: 'it returns false'. Refute it at one input. -/
def gaugeGuardsWrong : ChangeSpec := { name := "gaugeGuards", fn := fun _ => fun
  | [d1, d2, d3] => { results := [.lit (.bool false)], args := [d1, d2, d3] }
  | _ => none }
def GaugeGuardsWrongFalsely : Prop := gaugeGuardsRow.holds Try.pinned (OpenSpec.ofChange gaugeGuardsWrong)

/-- 'thermionlaw07.GaugeSheets': WHATEVER THE INPUT: true; the input reads as it did. -/
def gaugeSheetsSpec : ChangeSpec := { name := "gaugeSheets", fn := fun _ => fun
  | [d1, d2, d3, d4, d5] => { results := [.lit (.bool true)], args := [d1, d2, d3, d4, d5] }
  | _ => none }
def gaugeSheetsRow : OpenClaim := { program := "ytdbpobadeibjaab", sum := "a25e6d719e85fdf5280685ea91630326672f0026a53e5f7655e1222fe69a625c", func := "thermion/thermionlaw07.GaugeSheets", spec := "gaugeSheets", unfollowed := true, recurses := true, apart := false }
def GaugeSheetsSaid : Prop := gaugeSheetsRow.holds Try.pinned (OpenSpec.ofChange gaugeSheetsSpec)

/-- ITS FALSE NEIGHBOUR: 'it returns false'. Refute it at one input. -/
def gaugeSheetsWrong : ChangeSpec := { name := "gaugeSheets", fn := fun _ => fun
  | [d1, d2, d3, d4, d5] => { results := [.lit (.bool false)], args := [d1, d2, d3, d4, d5] }
  | _ => none }
def GaugeSheetsWrongFalsely : Prop := gaugeSheetsRow.holds Try.pinned (OpenSpec.ofChange gaugeSheetsWrong)

/-- 'thermionlaw07.GaugeLonger': WHATEVER THE INPUT: true; the input reads as it did. -/
def gaugeLongerSpec : ChangeSpec := { name := "gaugeLonger", fn := fun _ => fun
  | [d] => { results := [.lit (.bool true)], args := [d] }
  | _ => none }
def gaugeLongerRow : OpenClaim := { program := "ytdbpobadeibjaab", sum := "a25e6d719e85fdf5280685ea91630326672f0026a53e5f7655e1222fe69a625c", func := "thermion/thermionlaw07.GaugeLonger", spec := "gaugeLonger", unfollowed := true, recurses := true, apart := false }
def GaugeLongerSaid : Prop := gaugeLongerRow.holds Try.pinned (OpenSpec.ofChange gaugeLongerSpec)

/-- ITS FALSE NEIGHBOUR: 'it returns false'. Refute it at one input. -/
def gaugeLongerWrong : ChangeSpec := { name := "gaugeLonger", fn := fun _ => fun
  | [d] => { results := [.lit (.bool false)], args := [d] }
  | _ => none }
def GaugeLongerWrongFalsely : Prop := gaugeLongerRow.holds Try.pinned (OpenSpec.ofChange gaugeLongerWrong)

/-- 'thermionlaw07.GaugeKnown': WHATEVER THE INPUT: true; the input reads as it did. -/
def gaugeKnownSpec : ChangeSpec := { name := "gaugeKnown", fn := fun _ => fun
  | [] => { results := [.lit (.bool true)], args := [] }
  | _ => none }
def gaugeKnownRow : OpenClaim := { program := "ytdbpobadeibjaab", sum := "a25e6d719e85fdf5280685ea91630326672f0026a53e5f7655e1222fe69a625c", func := "thermion/thermionlaw07.GaugeKnown", spec := "gaugeKnown", unfollowed := true, recurses := true, apart := false }
def GaugeKnownSaid : Prop := gaugeKnownRow.holds Try.pinned (OpenSpec.ofChange gaugeKnownSpec)

/-- ITS FALSE NEIGHBOUR: 'it returns false'. Refute it at one input. -/
def gaugeKnownWrong : ChangeSpec := { name := "gaugeKnown", fn := fun _ => fun
  | [] => { results := [.lit (.bool false)], args := [] }
  | _ => none }
def GaugeKnownWrongFalsely : Prop := gaugeKnownRow.holds Try.pinned (OpenSpec.ofChange gaugeKnownWrong)

/- THE SECOND FORM. 'bulk': how many values and letters a reading holds, each counted each time it is reached (what is shared counts as often as it is met; a slice's spare places count too). A statement '..UptoSaid' is the law's where the arguments, and the package variables that the reading takes, are together of bulk at most 1048576: NARROWER than '..Said'. Prove '..Said' where nothing that the law and all that it calls make is longer than what came in: it says more and counts as full. Else prove '..UptoSaid'. A law counts once. -/
mutual
def uptoBulk {H : Type} : DataW H → Nat
  | .lit (.string bytes) => bytes.length + 1
  | .lit _ => 1
  | .nil => 1
  | .ptr d => uptoBulk d + 1
  | .slice elems spare => uptoBulkAll elems + uptoBulkAll spare + 1
  | .agg parts => uptoBulkAll parts + 1
  | .iface _ d => uptoBulk d + 1
  | .map entries => uptoBulkEntries entries + 1
  | .held _ => 1
def uptoBulkAll {H : Type} : List (DataW H) → Nat
  | [] => 0
  | d :: r => uptoBulk d + uptoBulkAll r
def uptoBulkEntries {H : Type} : List (Lit × DataW H) → Nat
  | [] => 0
  | x :: r => uptoBulkEntry x + uptoBulkEntries r
def uptoBulkEntry {H : Type} : Lit × DataW H → Nat
  | (.string bytes, d) => bytes.length + uptoBulk d + 1
  | (_, d) => uptoBulk d + 1
 end
def uptoSmall : (H : Type) → List (DataW H) → Bool := fun _ ds => decide (uptoBulkAll ds ≤ 1048576)
def OpenSpec.upto (s : _root_.Go.ChangeSpec) : _root_.Go.OpenSpec := { _root_.Go.OpenSpec.ofChange s with cond := some uptoSmall }

/-- 'thermionlaw07.GaugeAgrees', WHERE WHAT IT READS IS OF BULK AT MOST 1048576: true; the input reads as it did. -/
def gaugeAgreesUptoRow : OpenClaim := { program := "ytdbpobadeibjaab", sum := "a25e6d719e85fdf5280685ea91630326672f0026a53e5f7655e1222fe69a625c", func := "thermion/thermionlaw07.GaugeAgrees", spec := "gaugeAgrees", unfollowed := true, recurses := true, apart := false, narrowed := true }
def GaugeAgreesUptoSaid : Prop := gaugeAgreesUptoRow.holds Try.pinned (OpenSpec.upto gaugeAgreesSpec)

/-- 'thermionlaw07.GaugeAccepts', WHERE WHAT IT READS IS OF BULK AT MOST 1048576: true; the input reads as it did. -/
def gaugeAcceptsUptoRow : OpenClaim := { program := "ytdbpobadeibjaab", sum := "a25e6d719e85fdf5280685ea91630326672f0026a53e5f7655e1222fe69a625c", func := "thermion/thermionlaw07.GaugeAccepts", spec := "gaugeAccepts", unfollowed := true, recurses := true, apart := false, narrowed := true }
def GaugeAcceptsUptoSaid : Prop := gaugeAcceptsUptoRow.holds Try.pinned (OpenSpec.upto gaugeAcceptsSpec)

/-- 'thermionlaw07.GaugeGuards', WHERE WHAT IT READS IS OF BULK AT MOST 1048576: true; the input reads as it did. -/
def gaugeGuardsUptoRow : OpenClaim := { program := "ytdbpobadeibjaab", sum := "a25e6d719e85fdf5280685ea91630326672f0026a53e5f7655e1222fe69a625c", func := "thermion/thermionlaw07.GaugeGuards", spec := "gaugeGuards", unfollowed := true, recurses := true, apart := false, narrowed := true }
def GaugeGuardsUptoSaid : Prop := gaugeGuardsUptoRow.holds Try.pinned (OpenSpec.upto gaugeGuardsSpec)

/-- 'thermionlaw07.GaugeSheets', WHERE WHAT IT READS IS OF BULK AT MOST 1048576: true; the input reads as it did. -/
def gaugeSheetsUptoRow : OpenClaim := { program := "ytdbpobadeibjaab", sum := "a25e6d719e85fdf5280685ea91630326672f0026a53e5f7655e1222fe69a625c", func := "thermion/thermionlaw07.GaugeSheets", spec := "gaugeSheets", unfollowed := true, recurses := true, apart := false, narrowed := true }
def GaugeSheetsUptoSaid : Prop := gaugeSheetsUptoRow.holds Try.pinned (OpenSpec.upto gaugeSheetsSpec)

/-- 'thermionlaw07.GaugeLonger', WHERE WHAT IT READS IS OF BULK AT MOST 1048576: true; the input reads as it did. -/
def gaugeLongerUptoRow : OpenClaim := { program := "ytdbpobadeibjaab", sum := "a25e6d719e85fdf5280685ea91630326672f0026a53e5f7655e1222fe69a625c", func := "thermion/thermionlaw07.GaugeLonger", spec := "gaugeLonger", unfollowed := true, recurses := true, apart := false, narrowed := true }
def GaugeLongerUptoSaid : Prop := gaugeLongerUptoRow.holds Try.pinned (OpenSpec.upto gaugeLongerSpec)

/-- 'thermionlaw07.GaugeKnown', WHERE WHAT IT READS IS OF BULK AT MOST 1048576: true; the input reads as it did. -/
def gaugeKnownUptoRow : OpenClaim := { program := "ytdbpobadeibjaab", sum := "a25e6d719e85fdf5280685ea91630326672f0026a53e5f7655e1222fe69a625c", func := "thermion/thermionlaw07.GaugeKnown", spec := "gaugeKnown", unfollowed := true, recurses := true, apart := false, narrowed := true }
def GaugeKnownUptoSaid : Prop := gaugeKnownUptoRow.holds Try.pinned (OpenSpec.upto gaugeKnownSpec)

end Rows
end Go.Proofs.Ytdbpobadeibjaab
