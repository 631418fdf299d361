/-
  No cell of these rows narrows 'for every input' (looked for: loops, veiled, ifaces, maps, wideKeys, modest, calm, conditions, laid).
  DERIVED. THE GIVEN ROWS OF THIS SEAT. 9 by the template 'for every input the law returns true; each argument reads behind the call as it read before'; 0 by the template 'total and deterministic' (their statements: YtpllmgmcfojmoaaTotals.lean).
  GIVEN WITH THE SEED: the statements are not yours to turn. If you find one false, say at which input.
  Laid BY PROGRAM, IN A SANDBOX (cutbox-rows.mjs): the forced cells as the released guide's own fill.sh prints them over the translation e504071e150bec8b… (all of the seat's roots in one cut). By AI agents, Wed Nov 11 2026. No macro, syntax, notation, axiom, sorry.
-/
import Derived.Test.YtpllmgmcfojmoaaChecked
import GoSem.Claim
import GoSem.ClaimJoined
import GoSem.ClaimMapViews
import Derived.JoinedTies
import Derived.KernelRfl
namespace Go.Proofs.Ytpllmgmcfojmoaa
/- THE CELL 'sum', in the pinned program and in every row, IS THE sha256 OF THE DUMP (.gsa) THAT YtpllmgmcfojmoaaProg.lean LOADS. Nothing in Lean hashes anything: it is a label: what it is worth is what the hold of that sum in a sandbox is worth. -/
noncomputable def Try.pinned : Pinned := { name := "ytpllmgmcfojmoaa", sum := "e504071e150bec8b43a2a35b16a86fd074fb58d9920368835c76c5ceb93182d0", checked := Try.checked }
namespace Rows
def none {H : Type} : Left H := { results := [], args := [] }

/-- 'garmentlaw03.RatioOfs': WHATEVER THE INPUT: true; the input reads as it did. -/
def ratioOfsSpec : ChangeSpec := { name := "ratioOfs", fn := fun _ => fun
  | [d1, d2] => { results := [.lit (.bool true)], args := [d1, d2] }
  | _ => none }
def ratioOfsRow : OpenClaim := { program := "ytpllmgmcfojmoaa", sum := "e504071e150bec8b43a2a35b16a86fd074fb58d9920368835c76c5ceb93182d0", func := "garment/garmentlaw03.RatioOfs", spec := "ratioOfs", inPlace := ["internal/bytealg.IndexByteString", "internal/bytealg.IndexString"], named := ["internal/bytealg.MaxLen"], apart := false }
def RatioOfsSaid : Prop := ratioOfsRow.holds Try.pinned (OpenSpec.ofChange ratioOfsSpec)

/-- ITS FALSE NEIGHBOUR: 'it returns false'. Refute it at one input. -/
def ratioOfsWrong : ChangeSpec := { name := "ratioOfs", fn := fun _ => fun
  | [d1, d2] => { results := [.lit (.bool false)], args := [d1, d2] }
  | _ => none }
def RatioOfsWrongFalsely : Prop := ratioOfsRow.holds Try.pinned (OpenSpec.ofChange ratioOfsWrong)

/-- 'garmentlaw03.RatioIntegers': WHATEVER THE INPUT: true; the input reads as it did. -/
def ratioIntegersSpec : ChangeSpec := { name := "ratioIntegers", fn := fun _ => fun
  | [d] => { results := [.lit (.bool true)], args := [d] }
  | _ => none }
def ratioIntegersRow : OpenClaim := { program := "ytpllmgmcfojmoaa", sum := "e504071e150bec8b43a2a35b16a86fd074fb58d9920368835c76c5ceb93182d0", func := "garment/garmentlaw03.RatioIntegers", spec := "ratioIntegers", inPlace := ["internal/bytealg.IndexByteString", "internal/bytealg.IndexString"], named := ["internal/bytealg.MaxLen"], apart := false }
def RatioIntegersSaid : Prop := ratioIntegersRow.holds Try.pinned (OpenSpec.ofChange ratioIntegersSpec)

/-- ITS FALSE NEIGHBOUR: 'it returns false'. Refute it at one input. -/
def ratioIntegersWrong : ChangeSpec := { name := "ratioIntegers", fn := fun _ => fun
  | [d] => { results := [.lit (.bool false)], args := [d] }
  | _ => none }
def RatioIntegersWrongFalsely : Prop := ratioIntegersRow.holds Try.pinned (OpenSpec.ofChange ratioIntegersWrong)

/-- 'garmentlaw03.RatioParses': WHATEVER THE INPUT: true; the input reads as it did. -/
def ratioParsesSpec : ChangeSpec := { name := "ratioParses", fn := fun _ => fun
  | [d] => { results := [.lit (.bool true)], args := [d] }
  | _ => none }
def ratioParsesRow : OpenClaim := { program := "ytpllmgmcfojmoaa", sum := "e504071e150bec8b43a2a35b16a86fd074fb58d9920368835c76c5ceb93182d0", func := "garment/garmentlaw03.RatioParses", spec := "ratioParses", inPlace := ["internal/bytealg.IndexByteString", "internal/bytealg.IndexString"], named := ["internal/bytealg.MaxLen"], apart := false }
def RatioParsesSaid : Prop := ratioParsesRow.holds Try.pinned (OpenSpec.ofChange ratioParsesSpec)

/-- ITS FALSE NEIGHBOUR: 'it returns false'. Refute it at one input. -/
def ratioParsesWrong : ChangeSpec := { name := "ratioParses", fn := fun _ => fun
  | [d] => { results := [.lit (.bool false)], args := [d] }
  | _ => none }
def RatioParsesWrongFalsely : Prop := ratioParsesRow.holds Try.pinned (OpenSpec.ofChange ratioParsesWrong)

/-- 'garmentlaw03.RatioForms': WHATEVER THE INPUT: true; the input reads as it did. -/
def ratioFormsSpec : ChangeSpec := { name := "ratioForms", fn := fun _ => fun
  | [d1, d2, d3] => { results := [.lit (.bool true)], args := [d1, d2, d3] }
  | _ => none }
def ratioFormsRow : OpenClaim := { program := "ytpllmgmcfojmoaa", sum := "e504071e150bec8b43a2a35b16a86fd074fb58d9920368835c76c5ceb93182d0", func := "garment/garmentlaw03.RatioForms", spec := "ratioForms", inPlace := ["internal/bytealg.IndexByteString", "internal/bytealg.IndexString"], named := ["internal/bytealg.MaxLen"], apart := false }
def RatioFormsSaid : Prop := ratioFormsRow.holds Try.pinned (OpenSpec.ofChange ratioFormsSpec)

/-- ITS FALSE NEIGHBOUR: 'it returns false'. Refute it at one input. -/
def ratioFormsWrong : ChangeSpec := { name := "ratioForms", fn := fun _ => fun
  | [d1, d2, d3] => { results := [.lit (.bool false)], args := [d1, d2, d3] }
  | _ => none }
def RatioFormsWrongFalsely : Prop := ratioFormsRow.holds Try.pinned (OpenSpec.ofChange ratioFormsWrong)

/-- 'garmentlaw03.RatioOrder': WHATEVER THE INPUT: true; the input reads as it did. -/
def ratioOrderSpec : ChangeSpec := { name := "ratioOrder", fn := fun _ => fun
  | [d1, d2, d3] => { results := [.lit (.bool true)], args := [d1, d2, d3] }
  | _ => none }
def ratioOrderRow : OpenClaim := { program := "ytpllmgmcfojmoaa", sum := "e504071e150bec8b43a2a35b16a86fd074fb58d9920368835c76c5ceb93182d0", func := "garment/garmentlaw03.RatioOrder", spec := "ratioOrder", inPlace := ["internal/bytealg.IndexByteString", "internal/bytealg.IndexString"], named := ["internal/bytealg.MaxLen"], apart := false }
def RatioOrderSaid : Prop := ratioOrderRow.holds Try.pinned (OpenSpec.ofChange ratioOrderSpec)

/-- ITS FALSE NEIGHBOUR: 'it returns false'. Refute it at one input. -/
def ratioOrderWrong : ChangeSpec := { name := "ratioOrder", fn := fun _ => fun
  | [d1, d2, d3] => { results := [.lit (.bool false)], args := [d1, d2, d3] }
  | _ => none }
def RatioOrderWrongFalsely : Prop := ratioOrderRow.holds Try.pinned (OpenSpec.ofChange ratioOrderWrong)

/-- 'garmentlaw03.RatioRoundTrip': WHATEVER THE INPUT: true; the input reads as it did. -/
def ratioRoundTripSpec : ChangeSpec := { name := "ratioRoundTrip", fn := fun _ => fun
  | [d] => { results := [.lit (.bool true)], args := [d] }
  | _ => none }
def ratioRoundTripRow : OpenClaim := { program := "ytpllmgmcfojmoaa", sum := "e504071e150bec8b43a2a35b16a86fd074fb58d9920368835c76c5ceb93182d0", func := "garment/garmentlaw03.RatioRoundTrip", spec := "ratioRoundTrip", inPlace := ["internal/bytealg.IndexByteString", "internal/bytealg.IndexString"], named := ["internal/bytealg.MaxLen"], apart := false }
def RatioRoundTripSaid : Prop := ratioRoundTripRow.holds Try.pinned (OpenSpec.ofChange ratioRoundTripSpec)

/-- ITS FALSE NEIGHBOUR: 'it returns false'. Refute it at one input. -/
def ratioRoundTripWrong : ChangeSpec := { name := "ratioRoundTrip", fn := fun _ => fun
  | [d] => { results := [.lit (.bool false)], args := [d] }
  | _ => none }
def RatioRoundTripWrongFalsely : Prop := ratioRoundTripRow.holds Try.pinned (OpenSpec.ofChange ratioRoundTripWrong)

/-- 'garmentlaw03.RatioResults': WHATEVER THE INPUT: true; the input reads as it did. -/
def ratioResultsSpec : ChangeSpec := { name := "ratioResults", fn := fun _ => fun
  | [d1, d2] => { results := [.lit (.bool true)], args := [d1, d2] }
  | _ => none }
def ratioResultsRow : OpenClaim := { program := "ytpllmgmcfojmoaa", sum := "e504071e150bec8b43a2a35b16a86fd074fb58d9920368835c76c5ceb93182d0", func := "garment/garmentlaw03.RatioResults", spec := "ratioResults", inPlace := ["internal/bytealg.IndexByteString", "internal/bytealg.IndexString"], named := ["internal/bytealg.MaxLen"], apart := false }
def RatioResultsSaid : Prop := ratioResultsRow.holds Try.pinned (OpenSpec.ofChange ratioResultsSpec)

/-- ITS FALSE NEIGHBOUR: 'it returns false'. Refute it at one input. -/
def ratioResultsWrong : ChangeSpec := { name := "ratioResults", fn := fun _ => fun
  | [d1, d2] => { results := [.lit (.bool false)], args := [d1, d2] }
  | _ => none }
def RatioResultsWrongFalsely : Prop := ratioResultsRow.holds Try.pinned (OpenSpec.ofChange ratioResultsWrong)

/-- 'garmentlaw03.RatioField': WHATEVER THE INPUT: true; the input reads as it did. -/
def ratioFieldSpec : ChangeSpec := { name := "ratioField", fn := fun _ => fun
  | [d1, d2, d3] => { results := [.lit (.bool true)], args := [d1, d2, d3] }
  | _ => none }
def ratioFieldRow : OpenClaim := { program := "ytpllmgmcfojmoaa", sum := "e504071e150bec8b43a2a35b16a86fd074fb58d9920368835c76c5ceb93182d0", func := "garment/garmentlaw03.RatioField", spec := "ratioField", inPlace := ["internal/bytealg.IndexByteString", "internal/bytealg.IndexString"], named := ["internal/bytealg.MaxLen"], apart := false }
def RatioFieldSaid : Prop := ratioFieldRow.holds Try.pinned (OpenSpec.ofChange ratioFieldSpec)

/-- ITS FALSE NEIGHBOUR: 'it returns false'. Refute it at one input. -/
def ratioFieldWrong : ChangeSpec := { name := "ratioField", fn := fun _ => fun
  | [d1, d2, d3] => { results := [.lit (.bool false)], args := [d1, d2, d3] }
  | _ => none }
def RatioFieldWrongFalsely : Prop := ratioFieldRow.holds Try.pinned (OpenSpec.ofChange ratioFieldWrong)

/-- 'garmentlaw03.RatioRounds': WHATEVER THE INPUT: true; the input reads as it did. -/
def ratioRoundsSpec : ChangeSpec := { name := "ratioRounds", fn := fun _ => fun
  | [d1, d2] => { results := [.lit (.bool true)], args := [d1, d2] }
  | _ => none }
def ratioRoundsRow : OpenClaim := { program := "ytpllmgmcfojmoaa", sum := "e504071e150bec8b43a2a35b16a86fd074fb58d9920368835c76c5ceb93182d0", func := "garment/garmentlaw03.RatioRounds", spec := "ratioRounds", inPlace := ["internal/bytealg.IndexByteString", "internal/bytealg.IndexString"], named := ["internal/bytealg.MaxLen"], apart := false }
def RatioRoundsSaid : Prop := ratioRoundsRow.holds Try.pinned (OpenSpec.ofChange ratioRoundsSpec)

/-- ITS FALSE NEIGHBOUR: 'it returns false'. Refute it at one input. -/
def ratioRoundsWrong : ChangeSpec := { name := "ratioRounds", fn := fun _ => fun
  | [d1, d2] => { results := [.lit (.bool false)], args := [d1, d2] }
  | _ => none }
def RatioRoundsWrongFalsely : Prop := ratioRoundsRow.holds Try.pinned (OpenSpec.ofChange ratioRoundsWrong)

/- THE SECOND FORM. 'bulk': how many values and letters a reading holds, each counted each time it is reached (what is shared counts as often as it is met; a slice's spare places count too). A statement '..UptoSaid' is the law's where the arguments, and the package variables that the reading takes, are together of bulk at most 1048576: NARROWER than '..Said'. Prove '..Said' where nothing that the law and all that it calls make is longer than what came in: it says more and counts as full. Else prove '..UptoSaid'. A law counts once. -/
mutual
def uptoBulk {H : Type} : DataW H → Nat
  | .lit (.string bytes) => bytes.length + 1
  | .lit _ => 1
  | .nil => 1
  | .ptr d => uptoBulk d + 1
  | .slice elems spare => uptoBulkAll elems + uptoBulkAll spare + 1
  | .agg parts => uptoBulkAll parts + 1
  | .iface _ d => uptoBulk d + 1
  | .map entries => uptoBulkEntries entries + 1
  | .held _ => 1
def uptoBulkAll {H : Type} : List (DataW H) → Nat
  | [] => 0
  | d :: r => uptoBulk d + uptoBulkAll r
def uptoBulkEntries {H : Type} : List (Lit × DataW H) → Nat
  | [] => 0
  | x :: r => uptoBulkEntry x + uptoBulkEntries r
def uptoBulkEntry {H : Type} : Lit × DataW H → Nat
  | (.string bytes, d) => bytes.length + uptoBulk d + 1
  | (_, d) => uptoBulk d + 1
 end
def uptoSmall : (H : Type) → List (DataW H) → Bool := fun _ ds => decide (uptoBulkAll ds ≤ 1048576)
def OpenSpec.upto (s : _root_.Go.ChangeSpec) : _root_.Go.OpenSpec := { _root_.Go.OpenSpec.ofChange s with cond := some uptoSmall }

/-- 'garmentlaw03.RatioOfs', WHERE WHAT IT READS IS OF BULK AT MOST 1048576: true; the input reads as it did. -/
def ratioOfsUptoRow : OpenClaim := { program := "ytpllmgmcfojmoaa", sum := "e504071e150bec8b43a2a35b16a86fd074fb58d9920368835c76c5ceb93182d0", func := "garment/garmentlaw03.RatioOfs", spec := "ratioOfs", inPlace := ["internal/bytealg.IndexByteString", "internal/bytealg.IndexString"], named := ["internal/bytealg.MaxLen"], apart := false, narrowed := true }
def RatioOfsUptoSaid : Prop := ratioOfsUptoRow.holds Try.pinned (OpenSpec.upto ratioOfsSpec)

/-- 'garmentlaw03.RatioIntegers', WHERE WHAT IT READS IS OF BULK AT MOST 1048576: true; the input reads as it did. -/
def ratioIntegersUptoRow : OpenClaim := { program := "ytpllmgmcfojmoaa", sum := "e504071e150bec8b43a2a35b16a86fd074fb58d9920368835c76c5ceb93182d0", func := "garment/garmentlaw03.RatioIntegers", spec := "ratioIntegers", inPlace := ["internal/bytealg.IndexByteString", "internal/bytealg.IndexString"], named := ["internal/bytealg.MaxLen"], apart := false, narrowed := true }
def RatioIntegersUptoSaid : Prop := ratioIntegersUptoRow.holds Try.pinned (OpenSpec.upto ratioIntegersSpec)

/-- 'garmentlaw03.RatioParses', WHERE WHAT IT READS IS OF BULK AT MOST 1048576: true; the input reads as it did. -/
def ratioParsesUptoRow : OpenClaim := { program := "ytpllmgmcfojmoaa", sum := "e504071e150bec8b43a2a35b16a86fd074fb58d9920368835c76c5ceb93182d0", func := "garment/garmentlaw03.RatioParses", spec := "ratioParses", inPlace := ["internal/bytealg.IndexByteString", "internal/bytealg.IndexString"], named := ["internal/bytealg.MaxLen"], apart := false, narrowed := true }
def RatioParsesUptoSaid : Prop := ratioParsesUptoRow.holds Try.pinned (OpenSpec.upto ratioParsesSpec)

/-- 'garmentlaw03.RatioForms', WHERE WHAT IT READS IS OF BULK AT MOST 1048576: true; the input reads as it did. -/
def ratioFormsUptoRow : OpenClaim := { program := "ytpllmgmcfojmoaa", sum := "e504071e150bec8b43a2a35b16a86fd074fb58d9920368835c76c5ceb93182d0", func := "garment/garmentlaw03.RatioForms", spec := "ratioForms", inPlace := ["internal/bytealg.IndexByteString", "internal/bytealg.IndexString"], named := ["internal/bytealg.MaxLen"], apart := false, narrowed := true }
def RatioFormsUptoSaid : Prop := ratioFormsUptoRow.holds Try.pinned (OpenSpec.upto ratioFormsSpec)

/-- 'garmentlaw03.RatioOrder', WHERE WHAT IT READS IS OF BULK AT MOST 1048576: true; the input reads as it did. -/
def ratioOrderUptoRow : OpenClaim := { program := "ytpllmgmcfojmoaa", sum := "e504071e150bec8b43a2a35b16a86fd074fb58d9920368835c76c5ceb93182d0", func := "garment/garmentlaw03.RatioOrder", spec := "ratioOrder", inPlace := ["internal/bytealg.IndexByteString", "internal/bytealg.IndexString"], named := ["internal/bytealg.MaxLen"], apart := false, narrowed := true }
def RatioOrderUptoSaid : Prop := ratioOrderUptoRow.holds Try.pinned (OpenSpec.upto ratioOrderSpec)

/-- 'garmentlaw03.RatioRoundTrip', WHERE WHAT IT READS IS OF BULK AT MOST 1048576: true; the input reads as it did. -/
def ratioRoundTripUptoRow : OpenClaim := { program := "ytpllmgmcfojmoaa", sum := "e504071e150bec8b43a2a35b16a86fd074fb58d9920368835c76c5ceb93182d0", func := "garment/garmentlaw03.RatioRoundTrip", spec := "ratioRoundTrip", inPlace := ["internal/bytealg.IndexByteString", "internal/bytealg.IndexString"], named := ["internal/bytealg.MaxLen"], apart := false, narrowed := true }
def RatioRoundTripUptoSaid : Prop := ratioRoundTripUptoRow.holds Try.pinned (OpenSpec.upto ratioRoundTripSpec)

/-- 'garmentlaw03.RatioResults', WHERE WHAT IT READS IS OF BULK AT MOST 1048576: true; the input reads as it did. -/
def ratioResultsUptoRow : OpenClaim := { program := "ytpllmgmcfojmoaa", sum := "e504071e150bec8b43a2a35b16a86fd074fb58d9920368835c76c5ceb93182d0", func := "garment/garmentlaw03.RatioResults", spec := "ratioResults", inPlace := ["internal/bytealg.IndexByteString", "internal/bytealg.IndexString"], named := ["internal/bytealg.MaxLen"], apart := false, narrowed := true }
def RatioResultsUptoSaid : Prop := ratioResultsUptoRow.holds Try.pinned (OpenSpec.upto ratioResultsSpec)

/-- 'garmentlaw03.RatioField', WHERE WHAT IT READS IS OF BULK AT MOST 1048576: true; the input reads as it did. -/
def ratioFieldUptoRow : OpenClaim := { program := "ytpllmgmcfojmoaa", sum := "e504071e150bec8b43a2a35b16a86fd074fb58d9920368835c76c5ceb93182d0", func := "garment/garmentlaw03.RatioField", spec := "ratioField", inPlace := ["internal/bytealg.IndexByteString", "internal/bytealg.IndexString"], named := ["internal/bytealg.MaxLen"], apart := false, narrowed := true }
def RatioFieldUptoSaid : Prop := ratioFieldUptoRow.holds Try.pinned (OpenSpec.upto ratioFieldSpec)

/-- 'garmentlaw03.RatioRounds', WHERE WHAT IT READS IS OF BULK AT MOST 1048576: true; the input reads as it did. -/
def ratioRoundsUptoRow : OpenClaim := { program := "ytpllmgmcfojmoaa", sum := "e504071e150bec8b43a2a35b16a86fd074fb58d9920368835c76c5ceb93182d0", func := "garment/garmentlaw03.RatioRounds", spec := "ratioRounds", inPlace := ["internal/bytealg.IndexByteString", "internal/bytealg.IndexString"], named := ["internal/bytealg.MaxLen"], apart := false, narrowed := true }
def RatioRoundsUptoSaid : Prop := ratioRoundsUptoRow.holds Try.pinned (OpenSpec.upto ratioRoundsSpec)

end Rows
end Go.Proofs.Ytpllmgmcfojmoaa
