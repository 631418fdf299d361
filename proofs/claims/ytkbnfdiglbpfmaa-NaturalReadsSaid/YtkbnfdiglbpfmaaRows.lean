/-
  No cell of these rows narrows 'for every input' (looked for: loops, veiled, ifaces, maps, wideKeys, modest, calm, conditions, laid).
  DERIVED. THE GIVEN ROWS OF THIS SEAT. 10 by the template 'for every input the law returns true; each argument reads behind the call as it read before'; 0 by the template 'total and deterministic' (their statements: YtkbnfdiglbpfmaaTotals.lean).
  GIVEN WITH THE SEED: the statements are not yours to turn. If you find one false, say at which input.
  Laid BY PROGRAM, IN A SANDBOX (cutbox-rows.mjs): the forced cells as the released guide's own fill.sh prints them over the translation f06bcad33b10636a… (all of the seat's roots in one cut). By AI agents, Wed Nov 11 2026. No macro, syntax, notation, axiom, sorry.
-/
import Derived.Test.YtkbnfdiglbpfmaaChecked
import GoSem.Claim
import GoSem.ClaimJoined
import GoSem.ClaimMapViews
import Derived.JoinedTies
import Derived.KernelRfl
namespace Go.Proofs.Ytkbnfdiglbpfmaa
/- THE CELL 'sum', in the pinned program and in every row, IS THE sha256 OF THE DUMP (.gsa) THAT YtkbnfdiglbpfmaaProg.lean LOADS. Nothing in Lean hashes anything: it is a label: what it is worth is what the hold of that sum in a sandbox is worth. -/
noncomputable def Try.pinned : Pinned := { name := "ytkbnfdiglbpfmaa", sum := "f06bcad33b10636aa98eee5594c3a1da42a55b69b2d4e00e54b7e7767ecae51b", checked := Try.checked }
namespace Rows
def none {H : Type} : Left H := { results := [], args := [] }

/-- 'garmentlaw01.NaturalOrders': WHATEVER THE INPUT: true; the input reads as it did. -/
def naturalOrdersSpec : ChangeSpec := { name := "naturalOrders", fn := fun _ => fun
  | [d1, d2, d3] => { results := [.lit (.bool true)], args := [d1, d2, d3] }
  | _ => none }
def naturalOrdersRow : OpenClaim := { program := "ytkbnfdiglbpfmaa", sum := "f06bcad33b10636aa98eee5594c3a1da42a55b69b2d4e00e54b7e7767ecae51b", func := "garment/garmentlaw01.NaturalOrders", spec := "naturalOrders", apart := false }
def NaturalOrdersSaid : Prop := naturalOrdersRow.holds Try.pinned (OpenSpec.ofChange naturalOrdersSpec)

/-- ITS FALSE NEIGHBOUR: 'it returns false'. Refute it at one input. -/
def naturalOrdersWrong : ChangeSpec := { name := "naturalOrders", fn := fun _ => fun
  | [d1, d2, d3] => { results := [.lit (.bool false)], args := [d1, d2, d3] }
  | _ => none }
def NaturalOrdersWrongFalsely : Prop := naturalOrdersRow.holds Try.pinned (OpenSpec.ofChange naturalOrdersWrong)

/-- 'garmentlaw01.NaturalSums': WHATEVER THE INPUT: true; the input reads as it did. -/
def naturalSumsSpec : ChangeSpec := { name := "naturalSums", fn := fun _ => fun
  | [d1, d2] => { results := [.lit (.bool true)], args := [d1, d2] }
  | _ => none }
def naturalSumsRow : OpenClaim := { program := "ytkbnfdiglbpfmaa", sum := "f06bcad33b10636aa98eee5594c3a1da42a55b69b2d4e00e54b7e7767ecae51b", func := "garment/garmentlaw01.NaturalSums", spec := "naturalSums", apart := false }
def NaturalSumsSaid : Prop := naturalSumsRow.holds Try.pinned (OpenSpec.ofChange naturalSumsSpec)

/-- ITS FALSE NEIGHBOUR: 'it returns false'. Refute it at one input. -/
def naturalSumsWrong : ChangeSpec := { name := "naturalSums", fn := fun _ => fun
  | [d1, d2] => { results := [.lit (.bool false)], args := [d1, d2] }
  | _ => none }
def NaturalSumsWrongFalsely : Prop := naturalSumsRow.holds Try.pinned (OpenSpec.ofChange naturalSumsWrong)

/-- 'garmentlaw01.NaturalProducts': WHATEVER THE INPUT: true; the input reads as it did. -/
def naturalProductsSpec : ChangeSpec := { name := "naturalProducts", fn := fun _ => fun
  | [d1, d2] => { results := [.lit (.bool true)], args := [d1, d2] }
  | _ => none }
def naturalProductsRow : OpenClaim := { program := "ytkbnfdiglbpfmaa", sum := "f06bcad33b10636aa98eee5594c3a1da42a55b69b2d4e00e54b7e7767ecae51b", func := "garment/garmentlaw01.NaturalProducts", spec := "naturalProducts", apart := false }
def NaturalProductsSaid : Prop := naturalProductsRow.holds Try.pinned (OpenSpec.ofChange naturalProductsSpec)

/-- ITS FALSE NEIGHBOUR: 'it returns false'. Refute it at one input. -/
def naturalProductsWrong : ChangeSpec := { name := "naturalProducts", fn := fun _ => fun
  | [d1, d2] => { results := [.lit (.bool false)], args := [d1, d2] }
  | _ => none }
def NaturalProductsWrongFalsely : Prop := naturalProductsRow.holds Try.pinned (OpenSpec.ofChange naturalProductsWrong)

/-- 'garmentlaw01.NaturalRoots': WHATEVER THE INPUT: true; the input reads as it did. -/
def naturalRootsSpec : ChangeSpec := { name := "naturalRoots", fn := fun _ => fun
  | [d1, d2] => { results := [.lit (.bool true)], args := [d1, d2] }
  | _ => none }
def naturalRootsRow : OpenClaim := { program := "ytkbnfdiglbpfmaa", sum := "f06bcad33b10636aa98eee5594c3a1da42a55b69b2d4e00e54b7e7767ecae51b", func := "garment/garmentlaw01.NaturalRoots", spec := "naturalRoots", apart := false }
def NaturalRootsSaid : Prop := naturalRootsRow.holds Try.pinned (OpenSpec.ofChange naturalRootsSpec)

/-- ITS FALSE NEIGHBOUR: 'it returns false'. Refute it at one input. -/
def naturalRootsWrong : ChangeSpec := { name := "naturalRoots", fn := fun _ => fun
  | [d1, d2] => { results := [.lit (.bool false)], args := [d1, d2] }
  | _ => none }
def NaturalRootsWrongFalsely : Prop := naturalRootsRow.holds Try.pinned (OpenSpec.ofChange naturalRootsWrong)

/-- 'garmentlaw01.NaturalTexts': WHATEVER THE INPUT: true; the input reads as it did. -/
def naturalTextsSpec : ChangeSpec := { name := "naturalTexts", fn := fun _ => fun
  | [d1, d2] => { results := [.lit (.bool true)], args := [d1, d2] }
  | _ => none }
def naturalTextsRow : OpenClaim := { program := "ytkbnfdiglbpfmaa", sum := "f06bcad33b10636aa98eee5594c3a1da42a55b69b2d4e00e54b7e7767ecae51b", func := "garment/garmentlaw01.NaturalTexts", spec := "naturalTexts", apart := false }
def NaturalTextsSaid : Prop := naturalTextsRow.holds Try.pinned (OpenSpec.ofChange naturalTextsSpec)

/-- ITS FALSE NEIGHBOUR: 'it returns false'. Refute it at one input. -/
def naturalTextsWrong : ChangeSpec := { name := "naturalTexts", fn := fun _ => fun
  | [d1, d2] => { results := [.lit (.bool false)], args := [d1, d2] }
  | _ => none }
def NaturalTextsWrongFalsely : Prop := naturalTextsRow.holds Try.pinned (OpenSpec.ofChange naturalTextsWrong)

/-- 'garmentlaw01.NaturalRing': WHATEVER THE INPUT: true; the input reads as it did. -/
def naturalRingSpec : ChangeSpec := { name := "naturalRing", fn := fun _ => fun
  | [d1, d2, d3] => { results := [.lit (.bool true)], args := [d1, d2, d3] }
  | _ => none }
def naturalRingRow : OpenClaim := { program := "ytkbnfdiglbpfmaa", sum := "f06bcad33b10636aa98eee5594c3a1da42a55b69b2d4e00e54b7e7767ecae51b", func := "garment/garmentlaw01.NaturalRing", spec := "naturalRing", apart := false }
def NaturalRingSaid : Prop := naturalRingRow.holds Try.pinned (OpenSpec.ofChange naturalRingSpec)

/-- ITS FALSE NEIGHBOUR: 'it returns false'. Refute it at one input. -/
def naturalRingWrong : ChangeSpec := { name := "naturalRing", fn := fun _ => fun
  | [d1, d2, d3] => { results := [.lit (.bool false)], args := [d1, d2, d3] }
  | _ => none }
def NaturalRingWrongFalsely : Prop := naturalRingRow.holds Try.pinned (OpenSpec.ofChange naturalRingWrong)

/-- 'garmentlaw01.NaturalDivides': WHATEVER THE INPUT: true; the input reads as it did. -/
def naturalDividesSpec : ChangeSpec := { name := "naturalDivides", fn := fun _ => fun
  | [d1, d2] => { results := [.lit (.bool true)], args := [d1, d2] }
  | _ => none }
def naturalDividesRow : OpenClaim := { program := "ytkbnfdiglbpfmaa", sum := "f06bcad33b10636aa98eee5594c3a1da42a55b69b2d4e00e54b7e7767ecae51b", func := "garment/garmentlaw01.NaturalDivides", spec := "naturalDivides", apart := false }
def NaturalDividesSaid : Prop := naturalDividesRow.holds Try.pinned (OpenSpec.ofChange naturalDividesSpec)

/-- ITS FALSE NEIGHBOUR: 'it returns false'. Refute it at one input. -/
def naturalDividesWrong : ChangeSpec := { name := "naturalDivides", fn := fun _ => fun
  | [d1, d2] => { results := [.lit (.bool false)], args := [d1, d2] }
  | _ => none }
def NaturalDividesWrongFalsely : Prop := naturalDividesRow.holds Try.pinned (OpenSpec.ofChange naturalDividesWrong)

/-- 'garmentlaw01.NaturalGcds': WHATEVER THE INPUT: true; the input reads as it did. -/
def naturalGcdsSpec : ChangeSpec := { name := "naturalGcds", fn := fun _ => fun
  | [d1, d2, d3] => { results := [.lit (.bool true)], args := [d1, d2, d3] }
  | _ => none }
def naturalGcdsRow : OpenClaim := { program := "ytkbnfdiglbpfmaa", sum := "f06bcad33b10636aa98eee5594c3a1da42a55b69b2d4e00e54b7e7767ecae51b", func := "garment/garmentlaw01.NaturalGcds", spec := "naturalGcds", apart := false }
def NaturalGcdsSaid : Prop := naturalGcdsRow.holds Try.pinned (OpenSpec.ofChange naturalGcdsSpec)

/-- ITS FALSE NEIGHBOUR: 'it returns false'. Refute it at one input. -/
def naturalGcdsWrong : ChangeSpec := { name := "naturalGcds", fn := fun _ => fun
  | [d1, d2, d3] => { results := [.lit (.bool false)], args := [d1, d2, d3] }
  | _ => none }
def NaturalGcdsWrongFalsely : Prop := naturalGcdsRow.holds Try.pinned (OpenSpec.ofChange naturalGcdsWrong)

/-- 'garmentlaw01.NaturalSquares': WHATEVER THE INPUT: true; the input reads as it did. -/
def naturalSquaresSpec : ChangeSpec := { name := "naturalSquares", fn := fun _ => fun
  | [d] => { results := [.lit (.bool true)], args := [d] }
  | _ => none }
def naturalSquaresRow : OpenClaim := { program := "ytkbnfdiglbpfmaa", sum := "f06bcad33b10636aa98eee5594c3a1da42a55b69b2d4e00e54b7e7767ecae51b", func := "garment/garmentlaw01.NaturalSquares", spec := "naturalSquares", apart := false }
def NaturalSquaresSaid : Prop := naturalSquaresRow.holds Try.pinned (OpenSpec.ofChange naturalSquaresSpec)

/-- ITS FALSE NEIGHBOUR: 'it returns false'. Refute it at one input. -/
def naturalSquaresWrong : ChangeSpec := { name := "naturalSquares", fn := fun _ => fun
  | [d] => { results := [.lit (.bool false)], args := [d] }
  | _ => none }
def NaturalSquaresWrongFalsely : Prop := naturalSquaresRow.holds Try.pinned (OpenSpec.ofChange naturalSquaresWrong)

/-- 'garmentlaw01.NaturalReads': WHATEVER THE INPUT: true; the input reads as it did. -/
def naturalReadsSpec : ChangeSpec := { name := "naturalReads", fn := fun _ => fun
  | [d1, d2] => { results := [.lit (.bool true)], args := [d1, d2] }
  | _ => none }
def naturalReadsRow : OpenClaim := { program := "ytkbnfdiglbpfmaa", sum := "f06bcad33b10636aa98eee5594c3a1da42a55b69b2d4e00e54b7e7767ecae51b", func := "garment/garmentlaw01.NaturalReads", spec := "naturalReads", apart := false }
def NaturalReadsSaid : Prop := naturalReadsRow.holds Try.pinned (OpenSpec.ofChange naturalReadsSpec)

/-- ITS FALSE NEIGHBOUR: 'it returns false'. Refute it at one input. -/
def naturalReadsWrong : ChangeSpec := { name := "naturalReads", fn := fun _ => fun
  | [d1, d2] => { results := [.lit (.bool false)], args := [d1, d2] }
  | _ => none }
def NaturalReadsWrongFalsely : Prop := naturalReadsRow.holds Try.pinned (OpenSpec.ofChange naturalReadsWrong)

/- THE SECOND FORM. 'bulk': how many values and letters a reading holds, each counted each time it is reached (what is shared counts as often as it is met; a slice's spare places count too). A statement '..UptoSaid' is the law's where the arguments, and the package variables that the reading takes, are together of bulk at most 1048576: NARROWER than '..Said'. Prove '..Said' where nothing that the law and all that it calls make is longer than what came in: it says more and counts as full. Else prove '..UptoSaid'. A law counts once. -/
mutual
def uptoBulk {H : Type} : DataW H → Nat
  | .lit (.string bytes) => bytes.length + 1
  | .lit _ => 1
  | .nil => 1
  | .ptr d => uptoBulk d + 1
  | .slice elems spare => uptoBulkAll elems + uptoBulkAll spare + 1
  | .agg parts => uptoBulkAll parts + 1
  | .iface _ d => uptoBulk d + 1
  | .map entries => uptoBulkEntries entries + 1
  | .held _ => 1
def uptoBulkAll {H : Type} : List (DataW H) → Nat
  | [] => 0
  | d :: r => uptoBulk d + uptoBulkAll r
def uptoBulkEntries {H : Type} : List (Lit × DataW H) → Nat
  | [] => 0
  | x :: r => uptoBulkEntry x + uptoBulkEntries r
def uptoBulkEntry {H : Type} : Lit × DataW H → Nat
  | (.string bytes, d) => bytes.length + uptoBulk d + 1
  | (_, d) => uptoBulk d + 1
 end
def uptoSmall : (H : Type) → List (DataW H) → Bool := fun _ ds => decide (uptoBulkAll ds ≤ 1048576)
def OpenSpec.upto (s : _root_.Go.ChangeSpec) : _root_.Go.OpenSpec := { _root_.Go.OpenSpec.ofChange s with cond := some uptoSmall }

/-- 'garmentlaw01.NaturalOrders', WHERE WHAT IT READS IS OF BULK AT MOST 1048576: true; the input reads as it did. -/
def naturalOrdersUptoRow : OpenClaim := { program := "ytkbnfdiglbpfmaa", sum := "f06bcad33b10636aa98eee5594c3a1da42a55b69b2d4e00e54b7e7767ecae51b", func := "garment/garmentlaw01.NaturalOrders", spec := "naturalOrders", apart := false, narrowed := true }
def NaturalOrdersUptoSaid : Prop := naturalOrdersUptoRow.holds Try.pinned (OpenSpec.upto naturalOrdersSpec)

/-- 'garmentlaw01.NaturalSums', WHERE WHAT IT READS IS OF BULK AT MOST 1048576: true; the input reads as it did. -/
def naturalSumsUptoRow : OpenClaim := { program := "ytkbnfdiglbpfmaa", sum := "f06bcad33b10636aa98eee5594c3a1da42a55b69b2d4e00e54b7e7767ecae51b", func := "garment/garmentlaw01.NaturalSums", spec := "naturalSums", apart := false, narrowed := true }
def NaturalSumsUptoSaid : Prop := naturalSumsUptoRow.holds Try.pinned (OpenSpec.upto naturalSumsSpec)

/-- 'garmentlaw01.NaturalProducts', WHERE WHAT IT READS IS OF BULK AT MOST 1048576: true; the input reads as it did. -/
def naturalProductsUptoRow : OpenClaim := { program := "ytkbnfdiglbpfmaa", sum := "f06bcad33b10636aa98eee5594c3a1da42a55b69b2d4e00e54b7e7767ecae51b", func := "garment/garmentlaw01.NaturalProducts", spec := "naturalProducts", apart := false, narrowed := true }
def NaturalProductsUptoSaid : Prop := naturalProductsUptoRow.holds Try.pinned (OpenSpec.upto naturalProductsSpec)

/-- 'garmentlaw01.NaturalRoots', WHERE WHAT IT READS IS OF BULK AT MOST 1048576: true; the input reads as it did. -/
def naturalRootsUptoRow : OpenClaim := { program := "ytkbnfdiglbpfmaa", sum := "f06bcad33b10636aa98eee5594c3a1da42a55b69b2d4e00e54b7e7767ecae51b", func := "garment/garmentlaw01.NaturalRoots", spec := "naturalRoots", apart := false, narrowed := true }
def NaturalRootsUptoSaid : Prop := naturalRootsUptoRow.holds Try.pinned (OpenSpec.upto naturalRootsSpec)

/-- 'garmentlaw01.NaturalTexts', WHERE WHAT IT READS IS OF BULK AT MOST 1048576: true; the input reads as it did. -/
def naturalTextsUptoRow : OpenClaim := { program := "ytkbnfdiglbpfmaa", sum := "f06bcad33b10636aa98eee5594c3a1da42a55b69b2d4e00e54b7e7767ecae51b", func := "garment/garmentlaw01.NaturalTexts", spec := "naturalTexts", apart := false, narrowed := true }
def NaturalTextsUptoSaid : Prop := naturalTextsUptoRow.holds Try.pinned (OpenSpec.upto naturalTextsSpec)

/-- 'garmentlaw01.NaturalRing', WHERE WHAT IT READS IS OF BULK AT MOST 1048576: true; the input reads as it did. -/
def naturalRingUptoRow : OpenClaim := { program := "ytkbnfdiglbpfmaa", sum := "f06bcad33b10636aa98eee5594c3a1da42a55b69b2d4e00e54b7e7767ecae51b", func := "garment/garmentlaw01.NaturalRing", spec := "naturalRing", apart := false, narrowed := true }
def NaturalRingUptoSaid : Prop := naturalRingUptoRow.holds Try.pinned (OpenSpec.upto naturalRingSpec)

/-- 'garmentlaw01.NaturalDivides', WHERE WHAT IT READS IS OF BULK AT MOST 1048576: true; the input reads as it did. -/
def naturalDividesUptoRow : OpenClaim := { program := "ytkbnfdiglbpfmaa", sum := "f06bcad33b10636aa98eee5594c3a1da42a55b69b2d4e00e54b7e7767ecae51b", func := "garment/garmentlaw01.NaturalDivides", spec := "naturalDivides", apart := false, narrowed := true }
def NaturalDividesUptoSaid : Prop := naturalDividesUptoRow.holds Try.pinned (OpenSpec.upto naturalDividesSpec)

/-- 'garmentlaw01.NaturalGcds', WHERE WHAT IT READS IS OF BULK AT MOST 1048576: true; the input reads as it did. -/
def naturalGcdsUptoRow : OpenClaim := { program := "ytkbnfdiglbpfmaa", sum := "f06bcad33b10636aa98eee5594c3a1da42a55b69b2d4e00e54b7e7767ecae51b", func := "garment/garmentlaw01.NaturalGcds", spec := "naturalGcds", apart := false, narrowed := true }
def NaturalGcdsUptoSaid : Prop := naturalGcdsUptoRow.holds Try.pinned (OpenSpec.upto naturalGcdsSpec)

/-- 'garmentlaw01.NaturalSquares', WHERE WHAT IT READS IS OF BULK AT MOST 1048576: true; the input reads as it did. -/
def naturalSquaresUptoRow : OpenClaim := { program := "ytkbnfdiglbpfmaa", sum := "f06bcad33b10636aa98eee5594c3a1da42a55b69b2d4e00e54b7e7767ecae51b", func := "garment/garmentlaw01.NaturalSquares", spec := "naturalSquares", apart := false, narrowed := true }
def NaturalSquaresUptoSaid : Prop := naturalSquaresUptoRow.holds Try.pinned (OpenSpec.upto naturalSquaresSpec)

/-- 'garmentlaw01.NaturalReads', WHERE WHAT IT READS IS OF BULK AT MOST 1048576: true; the input reads as it did. -/
def naturalReadsUptoRow : OpenClaim := { program := "ytkbnfdiglbpfmaa", sum := "f06bcad33b10636aa98eee5594c3a1da42a55b69b2d4e00e54b7e7767ecae51b", func := "garment/garmentlaw01.NaturalReads", spec := "naturalReads", apart := false, narrowed := true }
def NaturalReadsUptoSaid : Prop := naturalReadsUptoRow.holds Try.pinned (OpenSpec.upto naturalReadsSpec)

end Rows
end Go.Proofs.Ytkbnfdiglbpfmaa
