/-
  No cell of these rows narrows 'for every input' (looked for: loops, veiled, ifaces, maps, wideKeys, modest, calm, conditions, laid).
  DERIVED. THE GIVEN ROWS OF THIS SEAT. 10 by the template 'for every input the law returns true; each argument reads behind the call as it read before'; 0 by the template 'total and deterministic' (their statements: YtdbpobadeibjaaaTotals.lean).
  GIVEN WITH THE SEED: the statements are not yours to turn. If you find one false, say at which input.
  Laid BY PROGRAM, IN A SANDBOX (cutbox-rows.mjs): the forced cells as the released guide's own fill.sh prints them over the translation 2bc860aeefc2557b… (all of the seat's roots in one cut). By AI agents, Wed Nov 11 2026. No macro, syntax, notation, axiom, sorry.
-/
import Derived.Test.YtdbpobadeibjaaaChecked
import GoSem.Claim
import GoSem.ClaimJoined
import GoSem.ClaimMapViews
import Derived.JoinedTies
import Derived.KernelRfl
namespace Go.Proofs.Ytdbpobadeibjaaa
/- THE CELL 'sum', in the pinned program and in every row, IS THE sha256 OF THE DUMP (.gsa) THAT YtdbpobadeibjaaaProg.lean LOADS. Nothing in Lean hashes anything: it is a label: what it is worth is what the hold of that sum in a sandbox is worth. -/
noncomputable def Try.pinned : Pinned := { name := "ytdbpobadeibjaaa", sum := "2bc860aeefc2557b500e9b477690bab9b62d78ab2dd5ae82c416fb447cc175b6", checked := Try.checked }
namespace Rows
def none {H : Type} : Left H := { results := [], args := [] }

/-- 'thermionlaw07.GaugeTrues': WHATEVER THE INPUT: true; the input reads as it did. -/
def gaugeTruesSpec : ChangeSpec := { name := "gaugeTrues", fn := fun _ => fun
  | [d1, d2, d3, d4, d5] => { results := [.lit (.bool true)], args := [d1, d2, d3, d4, d5] }
  | _ => none }
def gaugeTruesRow : OpenClaim := { program := "ytdbpobadeibjaaa", sum := "2bc860aeefc2557b500e9b477690bab9b62d78ab2dd5ae82c416fb447cc175b6", func := "thermion/thermionlaw07.GaugeTrues", spec := "gaugeTrues", unfollowed := true, recurses := true, apart := false }
def GaugeTruesSaid : Prop := gaugeTruesRow.holds Try.pinned (OpenSpec.ofChange gaugeTruesSpec)

/-- ITS FALSE NEIGHBOUR: 'it returns false'. Refute it at one input. -/
def gaugeTruesWrong : ChangeSpec := { name := "gaugeTrues", fn := fun _ => fun
  | [d1, d2, d3, d4, d5] => { results := [.lit (.bool false)], args := [d1, d2, d3, d4, d5] }
  | _ => none }
def GaugeTruesWrongFalsely : Prop := gaugeTruesRow.holds Try.pinned (OpenSpec.ofChange gaugeTruesWrong)

/-- 'thermionlaw07.GaugeShows': WHATEVER THE INPUT: true; the input reads as it did. -/
def gaugeShowsSpec : ChangeSpec := { name := "gaugeShows", fn := fun _ => fun
  | [d1, d2] => { results := [.lit (.bool true)], args := [d1, d2] }
  | _ => none }
def gaugeShowsRow : OpenClaim := { program := "ytdbpobadeibjaaa", sum := "2bc860aeefc2557b500e9b477690bab9b62d78ab2dd5ae82c416fb447cc175b6", func := "thermion/thermionlaw07.GaugeShows", spec := "gaugeShows", unfollowed := true, recurses := true, apart := false }
def GaugeShowsSaid : Prop := gaugeShowsRow.holds Try.pinned (OpenSpec.ofChange gaugeShowsSpec)

/-- ITS FALSE NEIGHBOUR: 'it returns false'. Refute it at one input. -/
def gaugeShowsWrong : ChangeSpec := { name := "gaugeShows", fn := fun _ => fun
  | [d1, d2] => { results := [.lit (.bool false)], args := [d1, d2] }
  | _ => none }
def GaugeShowsWrongFalsely : Prop := gaugeShowsRow.holds Try.pinned (OpenSpec.ofChange gaugeShowsWrong)

/-- 'thermionlaw07.GaugeEnds': WHATEVER THE INPUT: true; the input reads as it did. -/
def gaugeEndsSpec : ChangeSpec := { name := "gaugeEnds", fn := fun _ => fun
  | [d1, d2, d3] => { results := [.lit (.bool true)], args := [d1, d2, d3] }
  | _ => none }
def gaugeEndsRow : OpenClaim := { program := "ytdbpobadeibjaaa", sum := "2bc860aeefc2557b500e9b477690bab9b62d78ab2dd5ae82c416fb447cc175b6", func := "thermion/thermionlaw07.GaugeEnds", spec := "gaugeEnds", unfollowed := true, recurses := true, apart := false }
def GaugeEndsSaid : Prop := gaugeEndsRow.holds Try.pinned (OpenSpec.ofChange gaugeEndsSpec)

/-- ITS FALSE NEIGHBOUR: 'it returns false'. Refute it at one input. -/
def gaugeEndsWrong : ChangeSpec := { name := "gaugeEnds", fn := fun _ => fun
  | [d1, d2, d3] => { results := [.lit (.bool false)], args := [d1, d2, d3] }
  | _ => none }
def GaugeEndsWrongFalsely : Prop := gaugeEndsRow.holds Try.pinned (OpenSpec.ofChange gaugeEndsWrong)

/-- 'thermionlaw07.GaugeRises': WHATEVER THE INPUT: true; the input reads as it did. -/
def gaugeRisesSpec : ChangeSpec := { name := "gaugeRises", fn := fun _ => fun
  | [d1, d2, d3] => { results := [.lit (.bool true)], args := [d1, d2, d3] }
  | _ => none }
def gaugeRisesRow : OpenClaim := { program := "ytdbpobadeibjaaa", sum := "2bc860aeefc2557b500e9b477690bab9b62d78ab2dd5ae82c416fb447cc175b6", func := "thermion/thermionlaw07.GaugeRises", spec := "gaugeRises", unfollowed := true, recurses := true, apart := false }
def GaugeRisesSaid : Prop := gaugeRisesRow.holds Try.pinned (OpenSpec.ofChange gaugeRisesSpec)

/-- ITS FALSE NEIGHBOUR: 'it returns false'. Refute it at one input. -/
def gaugeRisesWrong : ChangeSpec := { name := "gaugeRises", fn := fun _ => fun
  | [d1, d2, d3] => { results := [.lit (.bool false)], args := [d1, d2, d3] }
  | _ => none }
def GaugeRisesWrongFalsely : Prop := gaugeRisesRow.holds Try.pinned (OpenSpec.ofChange gaugeRisesWrong)

/-- 'thermionlaw07.GaugeSamples': WHATEVER THE INPUT: true; the input reads as it did. -/
def gaugeSamplesSpec : ChangeSpec := { name := "gaugeSamples", fn := fun _ => fun
  | [d1, d2, d3, d4, d5, d6] => { results := [.lit (.bool true)], args := [d1, d2, d3, d4, d5, d6] }
  | _ => none }
def gaugeSamplesRow : OpenClaim := { program := "ytdbpobadeibjaaa", sum := "2bc860aeefc2557b500e9b477690bab9b62d78ab2dd5ae82c416fb447cc175b6", func := "thermion/thermionlaw07.GaugeSamples", spec := "gaugeSamples", unfollowed := true, recurses := true, apart := false }
def GaugeSamplesSaid : Prop := gaugeSamplesRow.holds Try.pinned (OpenSpec.ofChange gaugeSamplesSpec)

/-- ITS FALSE NEIGHBOUR: 'it returns false'. Refute it at one input. -/
def gaugeSamplesWrong : ChangeSpec := { name := "gaugeSamples", fn := fun _ => fun
  | [d1, d2, d3, d4, d5, d6] => { results := [.lit (.bool false)], args := [d1, d2, d3, d4, d5, d6] }
  | _ => none }
def GaugeSamplesWrongFalsely : Prop := gaugeSamplesRow.holds Try.pinned (OpenSpec.ofChange gaugeSamplesWrong)

/-- 'thermionlaw07.GaugeChances': WHATEVER THE INPUT: true; the input reads as it did. -/
def gaugeChancesSpec : ChangeSpec := { name := "gaugeChances", fn := fun _ => fun
  | [d1, d2, d3, d4] => { results := [.lit (.bool true)], args := [d1, d2, d3, d4] }
  | _ => none }
def gaugeChancesRow : OpenClaim := { program := "ytdbpobadeibjaaa", sum := "2bc860aeefc2557b500e9b477690bab9b62d78ab2dd5ae82c416fb447cc175b6", func := "thermion/thermionlaw07.GaugeChances", spec := "gaugeChances", unfollowed := true, recurses := true, apart := false }
def GaugeChancesSaid : Prop := gaugeChancesRow.holds Try.pinned (OpenSpec.ofChange gaugeChancesSpec)

/-- ITS FALSE NEIGHBOUR: 'it returns false'. Refute it at one input. -/
def gaugeChancesWrong : ChangeSpec := { name := "gaugeChances", fn := fun _ => fun
  | [d1, d2, d3, d4] => { results := [.lit (.bool false)], args := [d1, d2, d3, d4] }
  | _ => none }
def GaugeChancesWrongFalsely : Prop := gaugeChancesRow.holds Try.pinned (OpenSpec.ofChange gaugeChancesWrong)

/-- 'thermionlaw07.GaugePlans': WHATEVER THE INPUT: true; the input reads as it did. -/
def gaugePlansSpec : ChangeSpec := { name := "gaugePlans", fn := fun _ => fun
  | [d1, d2, d3, d4, d5] => { results := [.lit (.bool true)], args := [d1, d2, d3, d4, d5] }
  | _ => none }
def gaugePlansRow : OpenClaim := { program := "ytdbpobadeibjaaa", sum := "2bc860aeefc2557b500e9b477690bab9b62d78ab2dd5ae82c416fb447cc175b6", func := "thermion/thermionlaw07.GaugePlans", spec := "gaugePlans", unfollowed := true, recurses := true, apart := false }
def GaugePlansSaid : Prop := gaugePlansRow.holds Try.pinned (OpenSpec.ofChange gaugePlansSpec)

/-- ITS FALSE NEIGHBOUR: 'it returns false'. Refute it at one input. -/
def gaugePlansWrong : ChangeSpec := { name := "gaugePlans", fn := fun _ => fun
  | [d1, d2, d3, d4, d5] => { results := [.lit (.bool false)], args := [d1, d2, d3, d4, d5] }
  | _ => none }
def GaugePlansWrongFalsely : Prop := gaugePlansRow.holds Try.pinned (OpenSpec.ofChange gaugePlansWrong)

/-- 'thermionlaw07.GaugeAges': WHATEVER THE INPUT: true; the input reads as it did. -/
def gaugeAgesSpec : ChangeSpec := { name := "gaugeAges", fn := fun _ => fun
  | [d1, d2, d3, d4, d5] => { results := [.lit (.bool true)], args := [d1, d2, d3, d4, d5] }
  | _ => none }
def gaugeAgesRow : OpenClaim := { program := "ytdbpobadeibjaaa", sum := "2bc860aeefc2557b500e9b477690bab9b62d78ab2dd5ae82c416fb447cc175b6", func := "thermion/thermionlaw07.GaugeAges", spec := "gaugeAges", unfollowed := true, recurses := true, apart := false }
def GaugeAgesSaid : Prop := gaugeAgesRow.holds Try.pinned (OpenSpec.ofChange gaugeAgesSpec)

/-- ITS FALSE NEIGHBOUR: 'it returns false'. Refute it at one input. -/
def gaugeAgesWrong : ChangeSpec := { name := "gaugeAges", fn := fun _ => fun
  | [d1, d2, d3, d4, d5] => { results := [.lit (.bool false)], args := [d1, d2, d3, d4, d5] }
  | _ => none }
def GaugeAgesWrongFalsely : Prop := gaugeAgesRow.holds Try.pinned (OpenSpec.ofChange gaugeAgesWrong)

/-- 'thermionlaw07.GaugeChecks': WHATEVER THE INPUT: true; the input reads as it did. -/
def gaugeChecksSpec : ChangeSpec := { name := "gaugeChecks", fn := fun _ => fun
  | [d1, d2, d3, d4, d5] => { results := [.lit (.bool true)], args := [d1, d2, d3, d4, d5] }
  | _ => none }
def gaugeChecksRow : OpenClaim := { program := "ytdbpobadeibjaaa", sum := "2bc860aeefc2557b500e9b477690bab9b62d78ab2dd5ae82c416fb447cc175b6", func := "thermion/thermionlaw07.GaugeChecks", spec := "gaugeChecks", unfollowed := true, recurses := true, apart := false }
def GaugeChecksSaid : Prop := gaugeChecksRow.holds Try.pinned (OpenSpec.ofChange gaugeChecksSpec)

/-- ITS FALSE NEIGHBOUR: 'it returns false'. Refute it at one input. -/
def gaugeChecksWrong : ChangeSpec := { name := "gaugeChecks", fn := fun _ => fun
  | [d1, d2, d3, d4, d5] => { results := [.lit (.bool false)], args := [d1, d2, d3, d4, d5] }
  | _ => none }
def GaugeChecksWrongFalsely : Prop := gaugeChecksRow.holds Try.pinned (OpenSpec.ofChange gaugeChecksWrong)

/-- 'thermionlaw07.GaugeTogethers': WHATEVER THE INPUT: true; the input reads as it did. -/
def gaugeTogethersSpec : ChangeSpec := { name := "gaugeTogethers", fn := fun _ => fun
  | [d1, d2, d3, d4] => { results := [.lit (.bool true)], args := [d1, d2, d3, d4] }
  | _ => none }
def gaugeTogethersRow : OpenClaim := { program := "ytdbpobadeibjaaa", sum := "2bc860aeefc2557b500e9b477690bab9b62d78ab2dd5ae82c416fb447cc175b6", func := "thermion/thermionlaw07.GaugeTogethers", spec := "gaugeTogethers", unfollowed := true, recurses := true, apart := false }
def GaugeTogethersSaid : Prop := gaugeTogethersRow.holds Try.pinned (OpenSpec.ofChange gaugeTogethersSpec)

/-- ITS FALSE NEIGHBOUR: 'it returns false'. Refute it at one input. -/
def gaugeTogethersWrong : ChangeSpec := { name := "gaugeTogethers", fn := fun _ => fun
  | [d1, d2, d3, d4] => { results := [.lit (.bool false)], args := [d1, d2, d3, d4] }
  | _ => none }
def GaugeTogethersWrongFalsely : Prop := gaugeTogethersRow.holds Try.pinned (OpenSpec.ofChange gaugeTogethersWrong)

/- THE SECOND FORM. 'bulk': how many values and letters a reading holds, each counted each time it is reached (what is shared counts as often as it is met; a slice's spare places count too). A statement '..UptoSaid' is the law's where the arguments, and the package variables that the reading takes, are together of bulk at most 1048576: NARROWER than '..Said'. Prove '..Said' where nothing that the law and all that it calls make is longer than what came in: it says more and counts as full. Else prove '..UptoSaid'. A law counts once. -/
mutual
def uptoBulk {H : Type} : DataW H → Nat
  | .lit (.string bytes) => bytes.length + 1
  | .lit _ => 1
  | .nil => 1
  | .ptr d => uptoBulk d + 1
  | .slice elems spare => uptoBulkAll elems + uptoBulkAll spare + 1
  | .agg parts => uptoBulkAll parts + 1
  | .iface _ d => uptoBulk d + 1
  | .map entries => uptoBulkEntries entries + 1
  | .held _ => 1
def uptoBulkAll {H : Type} : List (DataW H) → Nat
  | [] => 0
  | d :: r => uptoBulk d + uptoBulkAll r
def uptoBulkEntries {H : Type} : List (Lit × DataW H) → Nat
  | [] => 0
  | x :: r => uptoBulkEntry x + uptoBulkEntries r
def uptoBulkEntry {H : Type} : Lit × DataW H → Nat
  | (.string bytes, d) => bytes.length + uptoBulk d + 1
  | (_, d) => uptoBulk d + 1
 end
def uptoSmall : (H : Type) → List (DataW H) → Bool := fun _ ds => decide (uptoBulkAll ds ≤ 1048576)
def OpenSpec.upto (s : _root_.Go.ChangeSpec) : _root_.Go.OpenSpec := { _root_.Go.OpenSpec.ofChange s with cond := some uptoSmall }

/-- 'thermionlaw07.GaugeTrues', WHERE WHAT IT READS IS OF BULK AT MOST 1048576: true; the input reads as it did. -/
def gaugeTruesUptoRow : OpenClaim := { program := "ytdbpobadeibjaaa", sum := "2bc860aeefc2557b500e9b477690bab9b62d78ab2dd5ae82c416fb447cc175b6", func := "thermion/thermionlaw07.GaugeTrues", spec := "gaugeTrues", unfollowed := true, recurses := true, apart := false, narrowed := true }
def GaugeTruesUptoSaid : Prop := gaugeTruesUptoRow.holds Try.pinned (OpenSpec.upto gaugeTruesSpec)

/-- 'thermionlaw07.GaugeShows', WHERE WHAT IT READS IS OF BULK AT MOST 1048576: true; the input reads as it did. -/
def gaugeShowsUptoRow : OpenClaim := { program := "ytdbpobadeibjaaa", sum := "2bc860aeefc2557b500e9b477690bab9b62d78ab2dd5ae82c416fb447cc175b6", func := "thermion/thermionlaw07.GaugeShows", spec := "gaugeShows", unfollowed := true, recurses := true, apart := false, narrowed := true }
def GaugeShowsUptoSaid : Prop := gaugeShowsUptoRow.holds Try.pinned (OpenSpec.upto gaugeShowsSpec)

/-- 'thermionlaw07.GaugeEnds', WHERE WHAT IT READS IS OF BULK AT MOST 1048576: true; the input reads as it did. -/
def gaugeEndsUptoRow : OpenClaim := { program := "ytdbpobadeibjaaa", sum := "2bc860aeefc2557b500e9b477690bab9b62d78ab2dd5ae82c416fb447cc175b6", func := "thermion/thermionlaw07.GaugeEnds", spec := "gaugeEnds", unfollowed := true, recurses := true, apart := false, narrowed := true }
def GaugeEndsUptoSaid : Prop := gaugeEndsUptoRow.holds Try.pinned (OpenSpec.upto gaugeEndsSpec)

/-- 'thermionlaw07.GaugeRises', WHERE WHAT IT READS IS OF BULK AT MOST 1048576: true; the input reads as it did. -/
def gaugeRisesUptoRow : OpenClaim := { program := "ytdbpobadeibjaaa", sum := "2bc860aeefc2557b500e9b477690bab9b62d78ab2dd5ae82c416fb447cc175b6", func := "thermion/thermionlaw07.GaugeRises", spec := "gaugeRises", unfollowed := true, recurses := true, apart := false, narrowed := true }
def GaugeRisesUptoSaid : Prop := gaugeRisesUptoRow.holds Try.pinned (OpenSpec.upto gaugeRisesSpec)

/-- 'thermionlaw07.GaugeSamples', WHERE WHAT IT READS IS OF BULK AT MOST 1048576: true; the input reads as it did. -/
def gaugeSamplesUptoRow : OpenClaim := { program := "ytdbpobadeibjaaa", sum := "2bc860aeefc2557b500e9b477690bab9b62d78ab2dd5ae82c416fb447cc175b6", func := "thermion/thermionlaw07.GaugeSamples", spec := "gaugeSamples", unfollowed := true, recurses := true, apart := false, narrowed := true }
def GaugeSamplesUptoSaid : Prop := gaugeSamplesUptoRow.holds Try.pinned (OpenSpec.upto gaugeSamplesSpec)

/-- 'thermionlaw07.GaugeChances', WHERE WHAT IT READS IS OF BULK AT MOST 1048576: true; the input reads as it did. -/
def gaugeChancesUptoRow : OpenClaim := { program := "ytdbpobadeibjaaa", sum := "2bc860aeefc2557b500e9b477690bab9b62d78ab2dd5ae82c416fb447cc175b6", func := "thermion/thermionlaw07.GaugeChances", spec := "gaugeChances", unfollowed := true, recurses := true, apart := false, narrowed := true }
def GaugeChancesUptoSaid : Prop := gaugeChancesUptoRow.holds Try.pinned (OpenSpec.upto gaugeChancesSpec)

/-- 'thermionlaw07.GaugePlans', WHERE WHAT IT READS IS OF BULK AT MOST 1048576: true; the input reads as it did. -/
def gaugePlansUptoRow : OpenClaim := { program := "ytdbpobadeibjaaa", sum := "2bc860aeefc2557b500e9b477690bab9b62d78ab2dd5ae82c416fb447cc175b6", func := "thermion/thermionlaw07.GaugePlans", spec := "gaugePlans", unfollowed := true, recurses := true, apart := false, narrowed := true }
def GaugePlansUptoSaid : Prop := gaugePlansUptoRow.holds Try.pinned (OpenSpec.upto gaugePlansSpec)

/-- 'thermionlaw07.GaugeAges', WHERE WHAT IT READS IS OF BULK AT MOST 1048576: true; the input reads as it did. -/
def gaugeAgesUptoRow : OpenClaim := { program := "ytdbpobadeibjaaa", sum := "2bc860aeefc2557b500e9b477690bab9b62d78ab2dd5ae82c416fb447cc175b6", func := "thermion/thermionlaw07.GaugeAges", spec := "gaugeAges", unfollowed := true, recurses := true, apart := false, narrowed := true }
def GaugeAgesUptoSaid : Prop := gaugeAgesUptoRow.holds Try.pinned (OpenSpec.upto gaugeAgesSpec)

/-- 'thermionlaw07.GaugeChecks', WHERE WHAT IT READS IS OF BULK AT MOST 1048576: true; the input reads as it did. -/
def gaugeChecksUptoRow : OpenClaim := { program := "ytdbpobadeibjaaa", sum := "2bc860aeefc2557b500e9b477690bab9b62d78ab2dd5ae82c416fb447cc175b6", func := "thermion/thermionlaw07.GaugeChecks", spec := "gaugeChecks", unfollowed := true, recurses := true, apart := false, narrowed := true }
def GaugeChecksUptoSaid : Prop := gaugeChecksUptoRow.holds Try.pinned (OpenSpec.upto gaugeChecksSpec)

/-- 'thermionlaw07.GaugeTogethers', WHERE WHAT IT READS IS OF BULK AT MOST 1048576: true; the input reads as it did. -/
def gaugeTogethersUptoRow : OpenClaim := { program := "ytdbpobadeibjaaa", sum := "2bc860aeefc2557b500e9b477690bab9b62d78ab2dd5ae82c416fb447cc175b6", func := "thermion/thermionlaw07.GaugeTogethers", spec := "gaugeTogethers", unfollowed := true, recurses := true, apart := false, narrowed := true }
def GaugeTogethersUptoSaid : Prop := gaugeTogethersUptoRow.holds Try.pinned (OpenSpec.upto gaugeTogethersSpec)

end Rows
end Go.Proofs.Ytdbpobadeibjaaa
