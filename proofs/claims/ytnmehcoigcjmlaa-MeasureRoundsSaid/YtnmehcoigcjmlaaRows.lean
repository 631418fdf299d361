/-
  No cell of these rows narrows 'for every input' (looked for: loops, veiled, ifaces, maps, wideKeys, modest, calm, conditions, laid).
  DERIVED. THE GIVEN ROWS OF THIS SEAT. 6 by the template 'for every input the law returns true; each argument reads behind the call as it read before'; 0 by the template 'total and deterministic' (their statements: YtnmehcoigcjmlaaTotals.lean).
  GIVEN WITH THE SEED: the statements are not yours to turn. If you find one false, say at which input.
  Laid BY PROGRAM, IN A SANDBOX (cutbox-rows.mjs): the forced cells as the released guide's own fill.sh prints them over the translation 87352d72e6d35572… (all of the seat's roots in one cut). By AI agents, Wed Nov 11 2026. No macro, syntax, notation, axiom, sorry.
-/
import Derived.Test.YtnmehcoigcjmlaaChecked
import GoSem.Claim
import GoSem.ClaimJoined
import GoSem.ClaimMapViews
import Derived.JoinedTies
import Derived.KernelRfl
namespace Go.Proofs.Ytnmehcoigcjmlaa
/- THE CELL 'sum', in the pinned program and in every row, IS THE sha256 OF THE DUMP (.gsa) THAT YtnmehcoigcjmlaaProg.lean LOADS. Nothing in Lean hashes anything: it is a label: what it is worth is what the hold of that sum in a sandbox is worth. -/
noncomputable def Try.pinned : Pinned := { name := "ytnmehcoigcjmlaa", sum := "87352d72e6d35572ad47999b642342a4415450dc18e3cde9177aeda9902356f0", checked := Try.checked }
namespace Rows
def none {H : Type} : Left H := { results := [], args := [] }

/-- 'garmentlaw04.MeasureUnits': WHATEVER THE INPUT: true; the input reads as it did. -/
def measureUnitsSpec : ChangeSpec := { name := "measureUnits", fn := fun _ => fun
  | [d] => { results := [.lit (.bool true)], args := [d] }
  | _ => none }
def measureUnitsRow : OpenClaim := { program := "ytnmehcoigcjmlaa", sum := "87352d72e6d35572ad47999b642342a4415450dc18e3cde9177aeda9902356f0", func := "garment/garmentlaw04.MeasureUnits", spec := "measureUnits", apart := false }
def MeasureUnitsSaid : Prop := measureUnitsRow.holds Try.pinned (OpenSpec.ofChange measureUnitsSpec)

/-- ITS FALSE NEIGHBOUR: 'it returns false'. Refute it at one input. -/
def measureUnitsWrong : ChangeSpec := { name := "measureUnits", fn := fun _ => fun
  | [d] => { results := [.lit (.bool false)], args := [d] }
  | _ => none }
def MeasureUnitsWrongFalsely : Prop := measureUnitsRow.holds Try.pinned (OpenSpec.ofChange measureUnitsWrong)

/-- 'garmentlaw04.MeasureRoundTrip': WHATEVER THE INPUT: true; the input reads as it did. -/
def measureRoundTripSpec : ChangeSpec := { name := "measureRoundTrip", fn := fun _ => fun
  | [d1, d2] => { results := [.lit (.bool true)], args := [d1, d2] }
  | _ => none }
def measureRoundTripRow : OpenClaim := { program := "ytnmehcoigcjmlaa", sum := "87352d72e6d35572ad47999b642342a4415450dc18e3cde9177aeda9902356f0", func := "garment/garmentlaw04.MeasureRoundTrip", spec := "measureRoundTrip", apart := false }
def MeasureRoundTripSaid : Prop := measureRoundTripRow.holds Try.pinned (OpenSpec.ofChange measureRoundTripSpec)

/-- ITS FALSE NEIGHBOUR: 'it returns false'. Refute it at one input. -/
def measureRoundTripWrong : ChangeSpec := { name := "measureRoundTrip", fn := fun _ => fun
  | [d1, d2] => { results := [.lit (.bool false)], args := [d1, d2] }
  | _ => none }
def MeasureRoundTripWrongFalsely : Prop := measureRoundTripRow.holds Try.pinned (OpenSpec.ofChange measureRoundTripWrong)

/-- 'garmentlaw04.MeasureSigns': WHATEVER THE INPUT: true; the input reads as it did. -/
def measureSignsSpec : ChangeSpec := { name := "measureSigns", fn := fun _ => fun
  | [d1, d2] => { results := [.lit (.bool true)], args := [d1, d2] }
  | _ => none }
def measureSignsRow : OpenClaim := { program := "ytnmehcoigcjmlaa", sum := "87352d72e6d35572ad47999b642342a4415450dc18e3cde9177aeda9902356f0", func := "garment/garmentlaw04.MeasureSigns", spec := "measureSigns", apart := false }
def MeasureSignsSaid : Prop := measureSignsRow.holds Try.pinned (OpenSpec.ofChange measureSignsSpec)

/-- ITS FALSE NEIGHBOUR: 'it returns false'. Refute it at one input. -/
def measureSignsWrong : ChangeSpec := { name := "measureSigns", fn := fun _ => fun
  | [d1, d2] => { results := [.lit (.bool false)], args := [d1, d2] }
  | _ => none }
def MeasureSignsWrongFalsely : Prop := measureSignsRow.holds Try.pinned (OpenSpec.ofChange measureSignsWrong)

/-- 'garmentlaw04.MeasureScales': WHATEVER THE INPUT: true; the input reads as it did. -/
def measureScalesSpec : ChangeSpec := { name := "measureScales", fn := fun _ => fun
  | [d] => { results := [.lit (.bool true)], args := [d] }
  | _ => none }
def measureScalesRow : OpenClaim := { program := "ytnmehcoigcjmlaa", sum := "87352d72e6d35572ad47999b642342a4415450dc18e3cde9177aeda9902356f0", func := "garment/garmentlaw04.MeasureScales", spec := "measureScales", apart := false }
def MeasureScalesSaid : Prop := measureScalesRow.holds Try.pinned (OpenSpec.ofChange measureScalesSpec)

/-- ITS FALSE NEIGHBOUR: 'it returns false'. Refute it at one input. -/
def measureScalesWrong : ChangeSpec := { name := "measureScales", fn := fun _ => fun
  | [d] => { results := [.lit (.bool false)], args := [d] }
  | _ => none }
def MeasureScalesWrongFalsely : Prop := measureScalesRow.holds Try.pinned (OpenSpec.ofChange measureScalesWrong)

/-- 'garmentlaw04.MeasureMixed': WHATEVER THE INPUT: true; the input reads as it did. -/
def measureMixedSpec : ChangeSpec := { name := "measureMixed", fn := fun _ => fun
  | [d1, d2, d3] => { results := [.lit (.bool true)], args := [d1, d2, d3] }
  | _ => none }
def measureMixedRow : OpenClaim := { program := "ytnmehcoigcjmlaa", sum := "87352d72e6d35572ad47999b642342a4415450dc18e3cde9177aeda9902356f0", func := "garment/garmentlaw04.MeasureMixed", spec := "measureMixed", apart := false }
def MeasureMixedSaid : Prop := measureMixedRow.holds Try.pinned (OpenSpec.ofChange measureMixedSpec)

/-- ITS FALSE NEIGHBOUR: 'it returns false'. Refute it at one input. -/
def measureMixedWrong : ChangeSpec := { name := "measureMixed", fn := fun _ => fun
  | [d1, d2, d3] => { results := [.lit (.bool false)], args := [d1, d2, d3] }
  | _ => none }
def MeasureMixedWrongFalsely : Prop := measureMixedRow.holds Try.pinned (OpenSpec.ofChange measureMixedWrong)

/-- 'garmentlaw04.MeasureRounds': WHATEVER THE INPUT: true; the input reads as it did. -/
def measureRoundsSpec : ChangeSpec := { name := "measureRounds", fn := fun _ => fun
  | [d] => { results := [.lit (.bool true)], args := [d] }
  | _ => none }
def measureRoundsRow : OpenClaim := { program := "ytnmehcoigcjmlaa", sum := "87352d72e6d35572ad47999b642342a4415450dc18e3cde9177aeda9902356f0", func := "garment/garmentlaw04.MeasureRounds", spec := "measureRounds", apart := false }
def MeasureRoundsSaid : Prop := measureRoundsRow.holds Try.pinned (OpenSpec.ofChange measureRoundsSpec)

/-- ITS FALSE NEIGHBOUR: 'it returns false'. Refute it at one input. -/
def measureRoundsWrong : ChangeSpec := { name := "measureRounds", fn := fun _ => fun
  | [d] => { results := [.lit (.bool false)], args := [d] }
  | _ => none }
def MeasureRoundsWrongFalsely : Prop := measureRoundsRow.holds Try.pinned (OpenSpec.ofChange measureRoundsWrong)

/- THE SECOND FORM. 'bulk': how many values and letters a reading holds, each counted each time it is reached (what is shared counts as often as it is met; a slice's spare places count too). A statement '..UptoSaid' is the law's where the arguments, and the package variables that the reading takes, are together of bulk at most 1048576: NARROWER than '..Said'. Prove '..Said' where nothing that the law and all that it calls make is longer than what came in: it says more and counts as full. Else prove '..UptoSaid'. A law counts once. -/
mutual
def uptoBulk {H : Type} : DataW H → Nat
  | .lit (.string bytes) => bytes.length + 1
  | .lit _ => 1
  | .nil => 1
  | .ptr d => uptoBulk d + 1
  | .slice elems spare => uptoBulkAll elems + uptoBulkAll spare + 1
  | .agg parts => uptoBulkAll parts + 1
  | .iface _ d => uptoBulk d + 1
  | .map entries => uptoBulkEntries entries + 1
  | .held _ => 1
def uptoBulkAll {H : Type} : List (DataW H) → Nat
  | [] => 0
  | d :: r => uptoBulk d + uptoBulkAll r
def uptoBulkEntries {H : Type} : List (Lit × DataW H) → Nat
  | [] => 0
  | x :: r => uptoBulkEntry x + uptoBulkEntries r
def uptoBulkEntry {H : Type} : Lit × DataW H → Nat
  | (.string bytes, d) => bytes.length + uptoBulk d + 1
  | (_, d) => uptoBulk d + 1
 end
def uptoSmall : (H : Type) → List (DataW H) → Bool := fun _ ds => decide (uptoBulkAll ds ≤ 1048576)
def OpenSpec.upto (s : _root_.Go.ChangeSpec) : _root_.Go.OpenSpec := { _root_.Go.OpenSpec.ofChange s with cond := some uptoSmall }

/-- 'garmentlaw04.MeasureUnits', WHERE WHAT IT READS IS OF BULK AT MOST 1048576: true; the input reads as it did. -/
def measureUnitsUptoRow : OpenClaim := { program := "ytnmehcoigcjmlaa", sum := "87352d72e6d35572ad47999b642342a4415450dc18e3cde9177aeda9902356f0", func := "garment/garmentlaw04.MeasureUnits", spec := "measureUnits", apart := false, narrowed := true }
def MeasureUnitsUptoSaid : Prop := measureUnitsUptoRow.holds Try.pinned (OpenSpec.upto measureUnitsSpec)

/-- 'garmentlaw04.MeasureRoundTrip', WHERE WHAT IT READS IS OF BULK AT MOST 1048576: true; the input reads as it did. -/
def measureRoundTripUptoRow : OpenClaim := { program := "ytnmehcoigcjmlaa", sum := "87352d72e6d35572ad47999b642342a4415450dc18e3cde9177aeda9902356f0", func := "garment/garmentlaw04.MeasureRoundTrip", spec := "measureRoundTrip", apart := false, narrowed := true }
def MeasureRoundTripUptoSaid : Prop := measureRoundTripUptoRow.holds Try.pinned (OpenSpec.upto measureRoundTripSpec)

/-- 'garmentlaw04.MeasureSigns', WHERE WHAT IT READS IS OF BULK AT MOST 1048576: true; the input reads as it did. -/
def measureSignsUptoRow : OpenClaim := { program := "ytnmehcoigcjmlaa", sum := "87352d72e6d35572ad47999b642342a4415450dc18e3cde9177aeda9902356f0", func := "garment/garmentlaw04.MeasureSigns", spec := "measureSigns", apart := false, narrowed := true }
def MeasureSignsUptoSaid : Prop := measureSignsUptoRow.holds Try.pinned (OpenSpec.upto measureSignsSpec)

/-- 'garmentlaw04.MeasureScales', WHERE WHAT IT READS IS OF BULK AT MOST 1048576: true; the input reads as it did. -/
def measureScalesUptoRow : OpenClaim := { program := "ytnmehcoigcjmlaa", sum := "87352d72e6d35572ad47999b642342a4415450dc18e3cde9177aeda9902356f0", func := "garment/garmentlaw04.MeasureScales", spec := "measureScales", apart := false, narrowed := true }
def MeasureScalesUptoSaid : Prop := measureScalesUptoRow.holds Try.pinned (OpenSpec.upto measureScalesSpec)

/-- 'garmentlaw04.MeasureMixed', WHERE WHAT IT READS IS OF BULK AT MOST 1048576: true; the input reads as it did. -/
def measureMixedUptoRow : OpenClaim := { program := "ytnmehcoigcjmlaa", sum := "87352d72e6d35572ad47999b642342a4415450dc18e3cde9177aeda9902356f0", func := "garment/garmentlaw04.MeasureMixed", spec := "measureMixed", apart := false, narrowed := true }
def MeasureMixedUptoSaid : Prop := measureMixedUptoRow.holds Try.pinned (OpenSpec.upto measureMixedSpec)

/-- 'garmentlaw04.MeasureRounds', WHERE WHAT IT READS IS OF BULK AT MOST 1048576: true; the input reads as it did. -/
def measureRoundsUptoRow : OpenClaim := { program := "ytnmehcoigcjmlaa", sum := "87352d72e6d35572ad47999b642342a4415450dc18e3cde9177aeda9902356f0", func := "garment/garmentlaw04.MeasureRounds", spec := "measureRounds", apart := false, narrowed := true }
def MeasureRoundsUptoSaid : Prop := measureRoundsUptoRow.holds Try.pinned (OpenSpec.upto measureRoundsSpec)

end Rows
end Go.Proofs.Ytnmehcoigcjmlaa
