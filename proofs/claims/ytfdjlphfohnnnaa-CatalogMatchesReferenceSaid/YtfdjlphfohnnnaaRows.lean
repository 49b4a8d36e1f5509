/-
  No cell of these rows narrows 'for every input' (looked for: loops, veiled, ifaces, maps, wideKeys, modest, calm, conditions, laid).
  DERIVED. THE GIVEN ROWS OF THIS SEAT. 6 by the template 'for every input the law returns true; each argument reads behind the call as it read before'; 0 by the template 'total and deterministic' (their statements: YtfdjlphfohnnnaaTotals.lean).
  GIVEN WITH THE SEED: the statements are not yours to turn. If you find one false, say at which input.
  Laid BY PROGRAM, IN A SANDBOX (cutbox-rows.mjs): the forced cells as the released guide's own fill.sh prints them over the translation 598d34bd307b83eb… (all of the seat's roots in one cut). By AI agents, Wed Nov 11 2026. No macro, syntax, notation, axiom, sorry.
-/
import Derived.Test.YtfdjlphfohnnnaaChecked
import GoSem.Claim
import GoSem.ClaimJoined
import GoSem.ClaimMapViews
import Derived.JoinedTies
import Derived.KernelRfl
namespace Go.Proofs.Ytfdjlphfohnnnaa
/- THE CELL 'sum', in the pinned program and in every row, IS THE sha256 OF THE DUMP (.gsa) THAT YtfdjlphfohnnnaaProg.lean LOADS. Nothing in Lean hashes anything: it is a label: what it is worth is what the hold of that sum in a sandbox is worth. -/
noncomputable def Try.pinned : Pinned := { name := "ytfdjlphfohnnnaa", sum := "598d34bd307b83eb0c45284ba0b7191c59941c1b48ab90b7c629a9b3417de5c9", checked := Try.checked }
namespace Rows
def none {H : Type} : Left H := { results := [], args := [] }

/-- 'bogielaw08.CatalogMatchesReference': WHATEVER THE INPUT: true; the input reads as it did. -/
def catalogMatchesReferenceSpec : ChangeSpec := { name := "catalogMatchesReference", fn := fun _ => fun
  | [d1, d2, d3, d4, d5] => { results := [.lit (.bool true)], args := [d1, d2, d3, d4, d5] }
  | _ => none }
def catalogMatchesReferenceRow : OpenClaim := { program := "ytfdjlphfohnnnaa", sum := "598d34bd307b83eb0c45284ba0b7191c59941c1b48ab90b7c629a9b3417de5c9", func := "bogie/bogielaw08.CatalogMatchesReference", spec := "catalogMatchesReference", inPlace := ["internal/bytealg.IndexByteString", "internal/abi.NoEscape", "internal/bytealg.MakeNoZero"], unfollowed := true, recurses := true, apart := false }
def CatalogMatchesReferenceSaid : Prop := catalogMatchesReferenceRow.holds Try.pinned (OpenSpec.ofChange catalogMatchesReferenceSpec)

/-- ITS FALSE NEIGHBOUR: 'it returns false'. Refute it at one input. -/
def catalogMatchesReferenceWrong : ChangeSpec := { name := "catalogMatchesReference", fn := fun _ => fun
  | [d1, d2, d3, d4, d5] => { results := [.lit (.bool false)], args := [d1, d2, d3, d4, d5] }
  | _ => none }
def CatalogMatchesReferenceWrongFalsely : Prop := catalogMatchesReferenceRow.holds Try.pinned (OpenSpec.ofChange catalogMatchesReferenceWrong)

/-- 'bogielaw08.CatalogTexts': WHATEVER THE INPUT: true; the input reads as it did. -/
def catalogTextsSpec : ChangeSpec := { name := "catalogTexts", fn := fun _ => fun
  | [d1, d2, d3] => { results := [.lit (.bool true)], args := [d1, d2, d3] }
  | _ => none }
def catalogTextsRow : OpenClaim := { program := "ytfdjlphfohnnnaa", sum := "598d34bd307b83eb0c45284ba0b7191c59941c1b48ab90b7c629a9b3417de5c9", func := "bogie/bogielaw08.CatalogTexts", spec := "catalogTexts", inPlace := ["internal/bytealg.IndexByteString", "internal/abi.NoEscape", "internal/bytealg.MakeNoZero"], unfollowed := true, recurses := true, apart := false }
def CatalogTextsSaid : Prop := catalogTextsRow.holds Try.pinned (OpenSpec.ofChange catalogTextsSpec)

/-- ITS FALSE NEIGHBOUR: 'it returns false'. Refute it at one input. -/
def catalogTextsWrong : ChangeSpec := { name := "catalogTexts", fn := fun _ => fun
  | [d1, d2, d3] => { results := [.lit (.bool false)], args := [d1, d2, d3] }
  | _ => none }
def CatalogTextsWrongFalsely : Prop := catalogTextsRow.holds Try.pinned (OpenSpec.ofChange catalogTextsWrong)

/-- 'bogielaw08.CatalogOrders': WHATEVER THE INPUT: true; the input reads as it did. -/
def catalogOrdersSpec : ChangeSpec := { name := "catalogOrders", fn := fun _ => fun
  | [d1, d2, d3, d4] => { results := [.lit (.bool true)], args := [d1, d2, d3, d4] }
  | _ => none }
def catalogOrdersRow : OpenClaim := { program := "ytfdjlphfohnnnaa", sum := "598d34bd307b83eb0c45284ba0b7191c59941c1b48ab90b7c629a9b3417de5c9", func := "bogie/bogielaw08.CatalogOrders", spec := "catalogOrders", inPlace := ["internal/bytealg.IndexByteString", "internal/abi.NoEscape", "internal/bytealg.MakeNoZero"], unfollowed := true, recurses := true, apart := false }
def CatalogOrdersSaid : Prop := catalogOrdersRow.holds Try.pinned (OpenSpec.ofChange catalogOrdersSpec)

/-- ITS FALSE NEIGHBOUR: 'it returns false'. Refute it at one input. -/
def catalogOrdersWrong : ChangeSpec := { name := "catalogOrders", fn := fun _ => fun
  | [d1, d2, d3, d4] => { results := [.lit (.bool false)], args := [d1, d2, d3, d4] }
  | _ => none }
def CatalogOrdersWrongFalsely : Prop := catalogOrdersRow.holds Try.pinned (OpenSpec.ofChange catalogOrdersWrong)

/-- 'bogielaw08.CatalogBegins': WHATEVER THE INPUT: true; the input reads as it did. -/
def catalogBeginsSpec : ChangeSpec := { name := "catalogBegins", fn := fun _ => fun
  | [d1, d2, d3, d4, d5] => { results := [.lit (.bool true)], args := [d1, d2, d3, d4, d5] }
  | _ => none }
def catalogBeginsRow : OpenClaim := { program := "ytfdjlphfohnnnaa", sum := "598d34bd307b83eb0c45284ba0b7191c59941c1b48ab90b7c629a9b3417de5c9", func := "bogie/bogielaw08.CatalogBegins", spec := "catalogBegins", inPlace := ["internal/bytealg.IndexByteString", "internal/abi.NoEscape", "internal/bytealg.MakeNoZero"], unfollowed := true, recurses := true, apart := false }
def CatalogBeginsSaid : Prop := catalogBeginsRow.holds Try.pinned (OpenSpec.ofChange catalogBeginsSpec)

/-- ITS FALSE NEIGHBOUR: 'it returns false'. Refute it at one input. -/
def catalogBeginsWrong : ChangeSpec := { name := "catalogBegins", fn := fun _ => fun
  | [d1, d2, d3, d4, d5] => { results := [.lit (.bool false)], args := [d1, d2, d3, d4, d5] }
  | _ => none }
def CatalogBeginsWrongFalsely : Prop := catalogBeginsRow.holds Try.pinned (OpenSpec.ofChange catalogBeginsWrong)

/-- 'bogielaw08.CatalogJoins': WHATEVER THE INPUT: true; the input reads as it did. -/
def catalogJoinsSpec : ChangeSpec := { name := "catalogJoins", fn := fun _ => fun
  | [d1, d2] => { results := [.lit (.bool true)], args := [d1, d2] }
  | _ => none }
def catalogJoinsRow : OpenClaim := { program := "ytfdjlphfohnnnaa", sum := "598d34bd307b83eb0c45284ba0b7191c59941c1b48ab90b7c629a9b3417de5c9", func := "bogie/bogielaw08.CatalogJoins", spec := "catalogJoins", inPlace := ["internal/bytealg.IndexByteString", "internal/abi.NoEscape", "internal/bytealg.MakeNoZero"], unfollowed := true, recurses := true, apart := false }
def CatalogJoinsSaid : Prop := catalogJoinsRow.holds Try.pinned (OpenSpec.ofChange catalogJoinsSpec)

/-- ITS FALSE NEIGHBOUR: 'it returns false'. Refute it at one input. -/
def catalogJoinsWrong : ChangeSpec := { name := "catalogJoins", fn := fun _ => fun
  | [d1, d2] => { results := [.lit (.bool false)], args := [d1, d2] }
  | _ => none }
def CatalogJoinsWrongFalsely : Prop := catalogJoinsRow.holds Try.pinned (OpenSpec.ofChange catalogJoinsWrong)

/-- 'bogielaw08.CatalogGaps': WHATEVER THE INPUT: true; the input reads as it did. -/
def catalogGapsSpec : ChangeSpec := { name := "catalogGaps", fn := fun _ => fun
  | [d] => { results := [.lit (.bool true)], args := [d] }
  | _ => none }
def catalogGapsRow : OpenClaim := { program := "ytfdjlphfohnnnaa", sum := "598d34bd307b83eb0c45284ba0b7191c59941c1b48ab90b7c629a9b3417de5c9", func := "bogie/bogielaw08.CatalogGaps", spec := "catalogGaps", inPlace := ["internal/bytealg.IndexByteString", "internal/abi.NoEscape", "internal/bytealg.MakeNoZero"], unfollowed := true, recurses := true, apart := false }
def CatalogGapsSaid : Prop := catalogGapsRow.holds Try.pinned (OpenSpec.ofChange catalogGapsSpec)

/-- ITS FALSE NEIGHBOUR: 'it returns false'. Refute it at one input. -/
def catalogGapsWrong : ChangeSpec := { name := "catalogGaps", fn := fun _ => fun
  | [d] => { results := [.lit (.bool false)], args := [d] }
  | _ => none }
def CatalogGapsWrongFalsely : Prop := catalogGapsRow.holds Try.pinned (OpenSpec.ofChange catalogGapsWrong)

/- THE SECOND FORM. 'bulk': how many values and letters a reading holds, each counted each time it is reached (what is shared counts as often as it is met; a slice's spare places count too). A statement '..UptoSaid' is the law's where the arguments, and the package variables that the reading takes, are together of bulk at most 1048576: NARROWER than '..Said'. Prove '..Said' where nothing that the law and all that it calls make is longer than what came in: it says more and counts as full. Else prove '..UptoSaid'. A law counts once. -/
mutual
def uptoBulk {H : Type} : DataW H → Nat
  | .lit (.string bytes) => bytes.length + 1
  | .lit _ => 1
  | .nil => 1
  | .ptr d => uptoBulk d + 1
  | .slice elems spare => uptoBulkAll elems + uptoBulkAll spare + 1
  | .agg parts => uptoBulkAll parts + 1
  | .iface _ d => uptoBulk d + 1
  | .map entries => uptoBulkEntries entries + 1
  | .held _ => 1
def uptoBulkAll {H : Type} : List (DataW H) → Nat
  | [] => 0
  | d :: r => uptoBulk d + uptoBulkAll r
def uptoBulkEntries {H : Type} : List (Lit × DataW H) → Nat
  | [] => 0
  | x :: r => uptoBulkEntry x + uptoBulkEntries r
def uptoBulkEntry {H : Type} : Lit × DataW H → Nat
  | (.string bytes, d) => bytes.length + uptoBulk d + 1
  | (_, d) => uptoBulk d + 1
 end
def uptoSmall : (H : Type) → List (DataW H) → Bool := fun _ ds => decide (uptoBulkAll ds ≤ 1048576)
def OpenSpec.upto (s : _root_.Go.ChangeSpec) : _root_.Go.OpenSpec := { _root_.Go.OpenSpec.ofChange s with cond := some uptoSmall }

/-- 'bogielaw08.CatalogMatchesReference', WHERE WHAT IT READS IS OF BULK AT MOST 1048576: true; the input reads as it did. -/
def catalogMatchesReferenceUptoRow : OpenClaim := { program := "ytfdjlphfohnnnaa", sum := "598d34bd307b83eb0c45284ba0b7191c59941c1b48ab90b7c629a9b3417de5c9", func := "bogie/bogielaw08.CatalogMatchesReference", spec := "catalogMatchesReference", inPlace := ["internal/bytealg.IndexByteString", "internal/abi.NoEscape", "internal/bytealg.MakeNoZero"], unfollowed := true, recurses := true, apart := false, narrowed := true }
def CatalogMatchesReferenceUptoSaid : Prop := catalogMatchesReferenceUptoRow.holds Try.pinned (OpenSpec.upto catalogMatchesReferenceSpec)

/-- 'bogielaw08.CatalogTexts', WHERE WHAT IT READS IS OF BULK AT MOST 1048576: true; the input reads as it did. -/
def catalogTextsUptoRow : OpenClaim := { program := "ytfdjlphfohnnnaa", sum := "598d34bd307b83eb0c45284ba0b7191c59941c1b48ab90b7c629a9b3417de5c9", func := "bogie/bogielaw08.CatalogTexts", spec := "catalogTexts", inPlace := ["internal/bytealg.IndexByteString", "internal/abi.NoEscape", "internal/bytealg.MakeNoZero"], unfollowed := true, recurses := true, apart := false, narrowed := true }
def CatalogTextsUptoSaid : Prop := catalogTextsUptoRow.holds Try.pinned (OpenSpec.upto catalogTextsSpec)

/-- 'bogielaw08.CatalogOrders', WHERE WHAT IT READS IS OF BULK AT MOST 1048576: true; the input reads as it did. -/
def catalogOrdersUptoRow : OpenClaim := { program := "ytfdjlphfohnnnaa", sum := "598d34bd307b83eb0c45284ba0b7191c59941c1b48ab90b7c629a9b3417de5c9", func := "bogie/bogielaw08.CatalogOrders", spec := "catalogOrders", inPlace := ["internal/bytealg.IndexByteString", "internal/abi.NoEscape", "internal/bytealg.MakeNoZero"], unfollowed := true, recurses := true, apart := false, narrowed := true }
def CatalogOrdersUptoSaid : Prop := catalogOrdersUptoRow.holds Try.pinned (OpenSpec.upto catalogOrdersSpec)

/-- 'bogielaw08.CatalogBegins', WHERE WHAT IT READS IS OF BULK AT MOST 1048576: true; the input reads as it did. -/
def catalogBeginsUptoRow : OpenClaim := { program := "ytfdjlphfohnnnaa", sum := "598d34bd307b83eb0c45284ba0b7191c59941c1b48ab90b7c629a9b3417de5c9", func := "bogie/bogielaw08.CatalogBegins", spec := "catalogBegins", inPlace := ["internal/bytealg.IndexByteString", "internal/abi.NoEscape", "internal/bytealg.MakeNoZero"], unfollowed := true, recurses := true, apart := false, narrowed := true }
def CatalogBeginsUptoSaid : Prop := catalogBeginsUptoRow.holds Try.pinned (OpenSpec.upto catalogBeginsSpec)

/-- 'bogielaw08.CatalogJoins', WHERE WHAT IT READS IS OF BULK AT MOST 1048576: true; the input reads as it did. -/
def catalogJoinsUptoRow : OpenClaim := { program := "ytfdjlphfohnnnaa", sum := "598d34bd307b83eb0c45284ba0b7191c59941c1b48ab90b7c629a9b3417de5c9", func := "bogie/bogielaw08.CatalogJoins", spec := "catalogJoins", inPlace := ["internal/bytealg.IndexByteString", "internal/abi.NoEscape", "internal/bytealg.MakeNoZero"], unfollowed := true, recurses := true, apart := false, narrowed := true }
def CatalogJoinsUptoSaid : Prop := catalogJoinsUptoRow.holds Try.pinned (OpenSpec.upto catalogJoinsSpec)

/-- 'bogielaw08.CatalogGaps', WHERE WHAT IT READS IS OF BULK AT MOST 1048576: true; the input reads as it did. -/
def catalogGapsUptoRow : OpenClaim := { program := "ytfdjlphfohnnnaa", sum := "598d34bd307b83eb0c45284ba0b7191c59941c1b48ab90b7c629a9b3417de5c9", func := "bogie/bogielaw08.CatalogGaps", spec := "catalogGaps", inPlace := ["internal/bytealg.IndexByteString", "internal/abi.NoEscape", "internal/bytealg.MakeNoZero"], unfollowed := true, recurses := true, apart := false, narrowed := true }
def CatalogGapsUptoSaid : Prop := catalogGapsUptoRow.holds Try.pinned (OpenSpec.upto catalogGapsSpec)

end Rows
end Go.Proofs.Ytfdjlphfohnnnaa
