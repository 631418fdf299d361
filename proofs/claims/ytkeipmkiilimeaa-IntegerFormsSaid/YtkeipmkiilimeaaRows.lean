/-
  No cell of these rows narrows 'for every input' (looked for: loops, veiled, ifaces, maps, wideKeys, modest, calm, conditions, laid).
  DERIVED. THE GIVEN ROWS OF THIS SEAT. 9 by the template 'for every input the law returns true; each argument reads behind the call as it read before'; 0 by the template 'total and deterministic' (their statements: YtkeipmkiilimeaaTotals.lean).
  GIVEN WITH THE SEED: the statements are not yours to turn. If you find one false, say at which input.
  Laid BY PROGRAM, IN A SANDBOX (cutbox-rows.mjs): the forced cells as the released guide's own fill.sh prints them over the translation aecbe82ef8f4d334… (all of the seat's roots in one cut). By AI agents, Wed Nov 11 2026. No macro, syntax, notation, axiom, sorry.
-/
import Derived.Test.YtkeipmkiilimeaaChecked
import GoSem.Claim
import GoSem.ClaimJoined
import GoSem.ClaimMapViews
import Derived.JoinedTies
import Derived.KernelRfl
namespace Go.Proofs.Ytkeipmkiilimeaa
/- THE CELL 'sum', in the pinned program and in every row, IS THE sha256 OF THE DUMP (.gsa) THAT YtkeipmkiilimeaaProg.lean LOADS. Nothing in Lean hashes anything: it is a label: what it is worth is what the hold of that sum in a sandbox is worth. -/
noncomputable def Try.pinned : Pinned := { name := "ytkeipmkiilimeaa", sum := "aecbe82ef8f4d3343f4730e59a330459dde1f2053fb132f340d0484790915674", checked := Try.checked }
namespace Rows
def none {H : Type} : Left H := { results := [], args := [] }

/-- 'garmentlaw02.IntegerProducts': WHATEVER THE INPUT: true; the input reads as it did. -/
def integerProductsSpec : ChangeSpec := { name := "integerProducts", fn := fun _ => fun
  | [d1, d2] => { results := [.lit (.bool true)], args := [d1, d2] }
  | _ => none }
def integerProductsRow : OpenClaim := { program := "ytkeipmkiilimeaa", sum := "aecbe82ef8f4d3343f4730e59a330459dde1f2053fb132f340d0484790915674", func := "garment/garmentlaw02.IntegerProducts", spec := "integerProducts", apart := false }
def IntegerProductsSaid : Prop := integerProductsRow.holds Try.pinned (OpenSpec.ofChange integerProductsSpec)

/-- ITS FALSE NEIGHBOUR: 'it returns false'. Refute it at one input. -/
def integerProductsWrong : ChangeSpec := { name := "integerProducts", fn := fun _ => fun
  | [d1, d2] => { results := [.lit (.bool false)], args := [d1, d2] }
  | _ => none }
def IntegerProductsWrongFalsely : Prop := integerProductsRow.holds Try.pinned (OpenSpec.ofChange integerProductsWrong)

/-- 'garmentlaw02.IntegerTexts': WHATEVER THE INPUT: true; the input reads as it did. -/
def integerTextsSpec : ChangeSpec := { name := "integerTexts", fn := fun _ => fun
  | [d1, d2] => { results := [.lit (.bool true)], args := [d1, d2] }
  | _ => none }
def integerTextsRow : OpenClaim := { program := "ytkeipmkiilimeaa", sum := "aecbe82ef8f4d3343f4730e59a330459dde1f2053fb132f340d0484790915674", func := "garment/garmentlaw02.IntegerTexts", spec := "integerTexts", apart := false }
def IntegerTextsSaid : Prop := integerTextsRow.holds Try.pinned (OpenSpec.ofChange integerTextsSpec)

/-- ITS FALSE NEIGHBOUR: 'it returns false'. Refute it at one input. -/
def integerTextsWrong : ChangeSpec := { name := "integerTexts", fn := fun _ => fun
  | [d1, d2] => { results := [.lit (.bool false)], args := [d1, d2] }
  | _ => none }
def IntegerTextsWrongFalsely : Prop := integerTextsRow.holds Try.pinned (OpenSpec.ofChange integerTextsWrong)

/-- 'garmentlaw02.IntegerInts': WHATEVER THE INPUT: true; the input reads as it did. -/
def integerIntsSpec : ChangeSpec := { name := "integerInts", fn := fun _ => fun
  | [d1, d2] => { results := [.lit (.bool true)], args := [d1, d2] }
  | _ => none }
def integerIntsRow : OpenClaim := { program := "ytkeipmkiilimeaa", sum := "aecbe82ef8f4d3343f4730e59a330459dde1f2053fb132f340d0484790915674", func := "garment/garmentlaw02.IntegerInts", spec := "integerInts", apart := false }
def IntegerIntsSaid : Prop := integerIntsRow.holds Try.pinned (OpenSpec.ofChange integerIntsSpec)

/-- ITS FALSE NEIGHBOUR: 'it returns false'. Refute it at one input. -/
def integerIntsWrong : ChangeSpec := { name := "integerInts", fn := fun _ => fun
  | [d1, d2] => { results := [.lit (.bool false)], args := [d1, d2] }
  | _ => none }
def IntegerIntsWrongFalsely : Prop := integerIntsRow.holds Try.pinned (OpenSpec.ofChange integerIntsWrong)

/-- 'garmentlaw02.IntegerSums': WHATEVER THE INPUT: true; the input reads as it did. -/
def integerSumsSpec : ChangeSpec := { name := "integerSums", fn := fun _ => fun
  | [d1, d2] => { results := [.lit (.bool true)], args := [d1, d2] }
  | _ => none }
def integerSumsRow : OpenClaim := { program := "ytkeipmkiilimeaa", sum := "aecbe82ef8f4d3343f4730e59a330459dde1f2053fb132f340d0484790915674", func := "garment/garmentlaw02.IntegerSums", spec := "integerSums", apart := false }
def IntegerSumsSaid : Prop := integerSumsRow.holds Try.pinned (OpenSpec.ofChange integerSumsSpec)

/-- ITS FALSE NEIGHBOUR: 'it returns false'. Refute it at one input. -/
def integerSumsWrong : ChangeSpec := { name := "integerSums", fn := fun _ => fun
  | [d1, d2] => { results := [.lit (.bool false)], args := [d1, d2] }
  | _ => none }
def IntegerSumsWrongFalsely : Prop := integerSumsRow.holds Try.pinned (OpenSpec.ofChange integerSumsWrong)

/-- 'garmentlaw02.IntegerRing': WHATEVER THE INPUT: true; the input reads as it did. -/
def integerRingSpec : ChangeSpec := { name := "integerRing", fn := fun _ => fun
  | [d1, d2, d3] => { results := [.lit (.bool true)], args := [d1, d2, d3] }
  | _ => none }
def integerRingRow : OpenClaim := { program := "ytkeipmkiilimeaa", sum := "aecbe82ef8f4d3343f4730e59a330459dde1f2053fb132f340d0484790915674", func := "garment/garmentlaw02.IntegerRing", spec := "integerRing", apart := false }
def IntegerRingSaid : Prop := integerRingRow.holds Try.pinned (OpenSpec.ofChange integerRingSpec)

/-- ITS FALSE NEIGHBOUR: 'it returns false'. Refute it at one input. -/
def integerRingWrong : ChangeSpec := { name := "integerRing", fn := fun _ => fun
  | [d1, d2, d3] => { results := [.lit (.bool false)], args := [d1, d2, d3] }
  | _ => none }
def IntegerRingWrongFalsely : Prop := integerRingRow.holds Try.pinned (OpenSpec.ofChange integerRingWrong)

/-- 'garmentlaw02.IntegerDivides': WHATEVER THE INPUT: true; the input reads as it did. -/
def integerDividesSpec : ChangeSpec := { name := "integerDivides", fn := fun _ => fun
  | [d1, d2] => { results := [.lit (.bool true)], args := [d1, d2] }
  | _ => none }
def integerDividesRow : OpenClaim := { program := "ytkeipmkiilimeaa", sum := "aecbe82ef8f4d3343f4730e59a330459dde1f2053fb132f340d0484790915674", func := "garment/garmentlaw02.IntegerDivides", spec := "integerDivides", apart := false }
def IntegerDividesSaid : Prop := integerDividesRow.holds Try.pinned (OpenSpec.ofChange integerDividesSpec)

/-- ITS FALSE NEIGHBOUR: 'it returns false'. Refute it at one input. -/
def integerDividesWrong : ChangeSpec := { name := "integerDivides", fn := fun _ => fun
  | [d1, d2] => { results := [.lit (.bool false)], args := [d1, d2] }
  | _ => none }
def IntegerDividesWrongFalsely : Prop := integerDividesRow.holds Try.pinned (OpenSpec.ofChange integerDividesWrong)

/-- 'garmentlaw02.IntegerOrders': WHATEVER THE INPUT: true; the input reads as it did. -/
def integerOrdersSpec : ChangeSpec := { name := "integerOrders", fn := fun _ => fun
  | [d1, d2, d3] => { results := [.lit (.bool true)], args := [d1, d2, d3] }
  | _ => none }
def integerOrdersRow : OpenClaim := { program := "ytkeipmkiilimeaa", sum := "aecbe82ef8f4d3343f4730e59a330459dde1f2053fb132f340d0484790915674", func := "garment/garmentlaw02.IntegerOrders", spec := "integerOrders", apart := false }
def IntegerOrdersSaid : Prop := integerOrdersRow.holds Try.pinned (OpenSpec.ofChange integerOrdersSpec)

/-- ITS FALSE NEIGHBOUR: 'it returns false'. Refute it at one input. -/
def integerOrdersWrong : ChangeSpec := { name := "integerOrders", fn := fun _ => fun
  | [d1, d2, d3] => { results := [.lit (.bool false)], args := [d1, d2, d3] }
  | _ => none }
def IntegerOrdersWrongFalsely : Prop := integerOrdersRow.holds Try.pinned (OpenSpec.ofChange integerOrdersWrong)

/-- 'garmentlaw02.IntegerRoundTrip': WHATEVER THE INPUT: true; the input reads as it did. -/
def integerRoundTripSpec : ChangeSpec := { name := "integerRoundTrip", fn := fun _ => fun
  | [d] => { results := [.lit (.bool true)], args := [d] }
  | _ => none }
def integerRoundTripRow : OpenClaim := { program := "ytkeipmkiilimeaa", sum := "aecbe82ef8f4d3343f4730e59a330459dde1f2053fb132f340d0484790915674", func := "garment/garmentlaw02.IntegerRoundTrip", spec := "integerRoundTrip", apart := false }
def IntegerRoundTripSaid : Prop := integerRoundTripRow.holds Try.pinned (OpenSpec.ofChange integerRoundTripSpec)

/-- ITS FALSE NEIGHBOUR: 'it returns false'. Refute it at one input. -/
def integerRoundTripWrong : ChangeSpec := { name := "integerRoundTrip", fn := fun _ => fun
  | [d] => { results := [.lit (.bool false)], args := [d] }
  | _ => none }
def IntegerRoundTripWrongFalsely : Prop := integerRoundTripRow.holds Try.pinned (OpenSpec.ofChange integerRoundTripWrong)

/-- 'garmentlaw02.IntegerForms': WHATEVER THE INPUT: true; the input reads as it did. -/
def integerFormsSpec : ChangeSpec := { name := "integerForms", fn := fun _ => fun
  | [d1, d2, d3] => { results := [.lit (.bool true)], args := [d1, d2, d3] }
  | _ => none }
def integerFormsRow : OpenClaim := { program := "ytkeipmkiilimeaa", sum := "aecbe82ef8f4d3343f4730e59a330459dde1f2053fb132f340d0484790915674", func := "garment/garmentlaw02.IntegerForms", spec := "integerForms", apart := false }
def IntegerFormsSaid : Prop := integerFormsRow.holds Try.pinned (OpenSpec.ofChange integerFormsSpec)

/-- ITS FALSE NEIGHBOUR: 'it returns false'. Refute it at one input. -/
def integerFormsWrong : ChangeSpec := { name := "integerForms", fn := fun _ => fun
  | [d1, d2, d3] => { results := [.lit (.bool false)], args := [d1, d2, d3] }
  | _ => none }
def IntegerFormsWrongFalsely : Prop := integerFormsRow.holds Try.pinned (OpenSpec.ofChange integerFormsWrong)

/- THE SECOND FORM. 'bulk': how many values and letters a reading holds, each counted each time it is reached (what is shared counts as often as it is met; a slice's spare places count too). A statement '..UptoSaid' is the law's where the arguments, and the package variables that the reading takes, are together of bulk at most 1048576: NARROWER than '..Said'. Prove '..Said' where nothing that the law and all that it calls make is longer than what came in: it says more and counts as full. Else prove '..UptoSaid'. A law counts once. -/
mutual
def uptoBulk {H : Type} : DataW H → Nat
  | .lit (.string bytes) => bytes.length + 1
  | .lit _ => 1
  | .nil => 1
  | .ptr d => uptoBulk d + 1
  | .slice elems spare => uptoBulkAll elems + uptoBulkAll spare + 1
  | .agg parts => uptoBulkAll parts + 1
  | .iface _ d => uptoBulk d + 1
  | .map entries => uptoBulkEntries entries + 1
  | .held _ => 1
def uptoBulkAll {H : Type} : List (DataW H) → Nat
  | [] => 0
  | d :: r => uptoBulk d + uptoBulkAll r
def uptoBulkEntries {H : Type} : List (Lit × DataW H) → Nat
  | [] => 0
  | x :: r => uptoBulkEntry x + uptoBulkEntries r
def uptoBulkEntry {H : Type} : Lit × DataW H → Nat
  | (.string bytes, d) => bytes.length + uptoBulk d + 1
  | (_, d) => uptoBulk d + 1
 end
def uptoSmall : (H : Type) → List (DataW H) → Bool := fun _ ds => decide (uptoBulkAll ds ≤ 1048576)
def OpenSpec.upto (s : _root_.Go.ChangeSpec) : _root_.Go.OpenSpec := { _root_.Go.OpenSpec.ofChange s with cond := some uptoSmall }

/-- 'garmentlaw02.IntegerProducts', WHERE WHAT IT READS IS OF BULK AT MOST 1048576: true; the input reads as it did. -/
def integerProductsUptoRow : OpenClaim := { program := "ytkeipmkiilimeaa", sum := "aecbe82ef8f4d3343f4730e59a330459dde1f2053fb132f340d0484790915674", func := "garment/garmentlaw02.IntegerProducts", spec := "integerProducts", apart := false, narrowed := true }
def IntegerProductsUptoSaid : Prop := integerProductsUptoRow.holds Try.pinned (OpenSpec.upto integerProductsSpec)

/-- 'garmentlaw02.IntegerTexts', WHERE WHAT IT READS IS OF BULK AT MOST 1048576: true; the input reads as it did. -/
def integerTextsUptoRow : OpenClaim := { program := "ytkeipmkiilimeaa", sum := "aecbe82ef8f4d3343f4730e59a330459dde1f2053fb132f340d0484790915674", func := "garment/garmentlaw02.IntegerTexts", spec := "integerTexts", apart := false, narrowed := true }
def IntegerTextsUptoSaid : Prop := integerTextsUptoRow.holds Try.pinned (OpenSpec.upto integerTextsSpec)

/-- 'garmentlaw02.IntegerInts', WHERE WHAT IT READS IS OF BULK AT MOST 1048576: true; the input reads as it did. -/
def integerIntsUptoRow : OpenClaim := { program := "ytkeipmkiilimeaa", sum := "aecbe82ef8f4d3343f4730e59a330459dde1f2053fb132f340d0484790915674", func := "garment/garmentlaw02.IntegerInts", spec := "integerInts", apart := false, narrowed := true }
def IntegerIntsUptoSaid : Prop := integerIntsUptoRow.holds Try.pinned (OpenSpec.upto integerIntsSpec)

/-- 'garmentlaw02.IntegerSums', WHERE WHAT IT READS IS OF BULK AT MOST 1048576: true; the input reads as it did. -/
def integerSumsUptoRow : OpenClaim := { program := "ytkeipmkiilimeaa", sum := "aecbe82ef8f4d3343f4730e59a330459dde1f2053fb132f340d0484790915674", func := "garment/garmentlaw02.IntegerSums", spec := "integerSums", apart := false, narrowed := true }
def IntegerSumsUptoSaid : Prop := integerSumsUptoRow.holds Try.pinned (OpenSpec.upto integerSumsSpec)

/-- 'garmentlaw02.IntegerRing', WHERE WHAT IT READS IS OF BULK AT MOST 1048576: true; the input reads as it did. -/
def integerRingUptoRow : OpenClaim := { program := "ytkeipmkiilimeaa", sum := "aecbe82ef8f4d3343f4730e59a330459dde1f2053fb132f340d0484790915674", func := "garment/garmentlaw02.IntegerRing", spec := "integerRing", apart := false, narrowed := true }
def IntegerRingUptoSaid : Prop := integerRingUptoRow.holds Try.pinned (OpenSpec.upto integerRingSpec)

/-- 'garmentlaw02.IntegerDivides', WHERE WHAT IT READS IS OF BULK AT MOST 1048576: true; the input reads as it did. -/
def integerDividesUptoRow : OpenClaim := { program := "ytkeipmkiilimeaa", sum := "aecbe82ef8f4d3343f4730e59a330459dde1f2053fb132f340d0484790915674", func := "garment/garmentlaw02.IntegerDivides", spec := "integerDivides", apart := false, narrowed := true }
def IntegerDividesUptoSaid : Prop := integerDividesUptoRow.holds Try.pinned (OpenSpec.upto integerDividesSpec)

/-- 'garmentlaw02.IntegerOrders', WHERE WHAT IT READS IS OF BULK AT MOST 1048576: true; the input reads as it did. -/
def integerOrdersUptoRow : OpenClaim := { program := "ytkeipmkiilimeaa", sum := "aecbe82ef8f4d3343f4730e59a330459dde1f2053fb132f340d0484790915674", func := "garment/garmentlaw02.IntegerOrders", spec := "integerOrders", apart := false, narrowed := true }
def IntegerOrdersUptoSaid : Prop := integerOrdersUptoRow.holds Try.pinned (OpenSpec.upto integerOrdersSpec)

/-- 'garmentlaw02.IntegerRoundTrip', WHERE WHAT IT READS IS OF BULK AT MOST 1048576: true; the input reads as it did. -/
def integerRoundTripUptoRow : OpenClaim := { program := "ytkeipmkiilimeaa", sum := "aecbe82ef8f4d3343f4730e59a330459dde1f2053fb132f340d0484790915674", func := "garment/garmentlaw02.IntegerRoundTrip", spec := "integerRoundTrip", apart := false, narrowed := true }
def IntegerRoundTripUptoSaid : Prop := integerRoundTripUptoRow.holds Try.pinned (OpenSpec.upto integerRoundTripSpec)

/-- 'garmentlaw02.IntegerForms', WHERE WHAT IT READS IS OF BULK AT MOST 1048576: true; the input reads as it did. -/
def integerFormsUptoRow : OpenClaim := { program := "ytkeipmkiilimeaa", sum := "aecbe82ef8f4d3343f4730e59a330459dde1f2053fb132f340d0484790915674", func := "garment/garmentlaw02.IntegerForms", spec := "integerForms", apart := false, narrowed := true }
def IntegerFormsUptoSaid : Prop := integerFormsUptoRow.holds Try.pinned (OpenSpec.upto integerFormsSpec)

end Rows
end Go.Proofs.Ytkeipmkiilimeaa
