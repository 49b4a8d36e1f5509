/-
  No cell of these rows narrows 'for every input' (looked for: loops, veiled, ifaces, maps, wideKeys, modest, calm, conditions, laid).
  DERIVED. THE GIVEN ROWS OF THIS SEAT. 3 by the template 'for every input the law returns true; each argument reads behind the call as it read before'; 0 by the template 'total and deterministic' (their statements: YtoogicafefennaaTotals.lean).
  GIVEN WITH THE SEED: the statements are not yours to turn. If you find one false, say at which input.
  Laid BY PROGRAM, IN A SANDBOX (cutbox-rows.mjs): the forced cells as the released guide's own fill.sh prints them over the translation 4b25303878f1d8c5… (all of the seat's roots in one cut). By AI agents, Wed Nov 11 2026. No macro, syntax, notation, axiom, sorry.
-/
import Derived.Test.YtoogicafefennaaChecked
import GoSem.Claim
import GoSem.ClaimJoined
import GoSem.ClaimMapViews
import Derived.JoinedTies
import Derived.KernelRfl
namespace Go.Proofs.Ytoogicafefennaa
/- THE CELL 'sum', in the pinned program and in every row, IS THE sha256 OF THE DUMP (.gsa) THAT YtoogicafefennaaProg.lean LOADS. Nothing in Lean hashes anything: it is a label: what it is worth is what the hold of that sum in a sandbox is worth. -/
noncomputable def Try.pinned : Pinned := { name := "ytoogicafefennaa", sum := "4b25303878f1d8c5e0540cbe0e18ce1f83bb2cd2cb04d6dc5b6a5928622e9e8f", checked := Try.checked }
namespace Rows
def none {H : Type} : Left H := { results := [], args := [] }

/-- 'bogietop.TopUndone': WHATEVER THE INPUT: true; the input reads as it did. -/
def topUndoneSpec : ChangeSpec := { name := "topUndone", fn := fun _ => fun
  | [d1, d2, d3] => { results := [.lit (.bool true)], args := [d1, d2, d3] }
  | _ => none }
def topUndoneRow : OpenClaim := { program := "ytoogicafefennaa", sum := "4b25303878f1d8c5e0540cbe0e18ce1f83bb2cd2cb04d6dc5b6a5928622e9e8f", func := "bogie/bogietop.TopUndone", spec := "topUndone", inPlace := ["slices.overlaps[int]"], unfollowed := true, recurses := true, plainKeys := false, apart := false }
def TopUndoneSaid : Prop := topUndoneRow.holds Try.pinned (OpenSpec.ofChange topUndoneSpec)

/-- ITS FALSE NEIGHBOUR: 'it returns false'. Refute it at one input. -/
def topUndoneWrong : ChangeSpec := { name := "topUndone", fn := fun _ => fun
  | [d1, d2, d3] => { results := [.lit (.bool false)], args := [d1, d2, d3] }
  | _ => none }
def TopUndoneWrongFalsely : Prop := topUndoneRow.holds Try.pinned (OpenSpec.ofChange topUndoneWrong)

/-- 'bogietop.TopWorks': WHATEVER THE INPUT: true; the input reads as it did. -/
def topWorksSpec : ChangeSpec := { name := "topWorks", fn := fun _ => fun
  | [d1, d2] => { results := [.lit (.bool true)], args := [d1, d2] }
  | _ => none }
def topWorksRow : OpenClaim := { program := "ytoogicafefennaa", sum := "4b25303878f1d8c5e0540cbe0e18ce1f83bb2cd2cb04d6dc5b6a5928622e9e8f", func := "bogie/bogietop.TopWorks", spec := "topWorks", inPlace := ["slices.overlaps[int]"], unfollowed := true, recurses := true, plainKeys := false, apart := false }
def TopWorksSaid : Prop := topWorksRow.holds Try.pinned (OpenSpec.ofChange topWorksSpec)

/-- ITS FALSE NEIGHBOUR: 'it returns false'. Refute it at one input. -/
def topWorksWrong : ChangeSpec := { name := "topWorks", fn := fun _ => fun
  | [d1, d2] => { results := [.lit (.bool false)], args := [d1, d2] }
  | _ => none }
def TopWorksWrongFalsely : Prop := topWorksRow.holds Try.pinned (OpenSpec.ofChange topWorksWrong)

/-- 'bogietop.TopNoBetter': WHATEVER THE INPUT: true; the input reads as it did. -/
def topNoBetterSpec : ChangeSpec := { name := "topNoBetter", fn := fun _ => fun
  | [d1, d2, d3] => { results := [.lit (.bool true)], args := [d1, d2, d3] }
  | _ => none }
def topNoBetterRow : OpenClaim := { program := "ytoogicafefennaa", sum := "4b25303878f1d8c5e0540cbe0e18ce1f83bb2cd2cb04d6dc5b6a5928622e9e8f", func := "bogie/bogietop.TopNoBetter", spec := "topNoBetter", unfollowed := true, recurses := true, plainKeys := false, apart := false }
def TopNoBetterSaid : Prop := topNoBetterRow.holds Try.pinned (OpenSpec.ofChange topNoBetterSpec)

/-- ITS FALSE NEIGHBOUR: 'it returns false'. Refute it at one input. -/
def topNoBetterWrong : ChangeSpec := { name := "topNoBetter", fn := fun _ => fun
  | [d1, d2, d3] => { results := [.lit (.bool false)], args := [d1, d2, d3] }
  | _ => none }
def TopNoBetterWrongFalsely : Prop := topNoBetterRow.holds Try.pinned (OpenSpec.ofChange topNoBetterWrong)

/- THE SECOND FORM. 'bulk': how many values and letters a reading holds, each counted each time it is reached (what is shared counts as often as it is met; a slice's spare places count too). A statement '..UptoSaid' is the law's where the arguments, and the package variables that the reading takes, are together of bulk at most 1048576: NARROWER than '..Said'. Prove '..Said' where nothing that the law and all that it calls make is longer than what came in: it says more and counts as full. Else prove '..UptoSaid'. A law counts once. -/
mutual
def uptoBulk {H : Type} : DataW H → Nat
  | .lit (.string bytes) => bytes.length + 1
  | .lit _ => 1
  | .nil => 1
  | .ptr d => uptoBulk d + 1
  | .slice elems spare => uptoBulkAll elems + uptoBulkAll spare + 1
  | .agg parts => uptoBulkAll parts + 1
  | .iface _ d => uptoBulk d + 1
  | .map entries => uptoBulkEntries entries + 1
  | .held _ => 1
def uptoBulkAll {H : Type} : List (DataW H) → Nat
  | [] => 0
  | d :: r => uptoBulk d + uptoBulkAll r
def uptoBulkEntries {H : Type} : List (Lit × DataW H) → Nat
  | [] => 0
  | x :: r => uptoBulkEntry x + uptoBulkEntries r
def uptoBulkEntry {H : Type} : Lit × DataW H → Nat
  | (.string bytes, d) => bytes.length + uptoBulk d + 1
  | (_, d) => uptoBulk d + 1
 end
def uptoSmall : (H : Type) → List (DataW H) → Bool := fun _ ds => decide (uptoBulkAll ds ≤ 1048576)
def OpenSpec.upto (s : _root_.Go.ChangeSpec) : _root_.Go.OpenSpec := { _root_.Go.OpenSpec.ofChange s with cond := some uptoSmall }

/-- 'bogietop.TopUndone', WHERE WHAT IT READS IS OF BULK AT MOST 1048576: true; the input reads as it did. -/
def topUndoneUptoRow : OpenClaim := { program := "ytoogicafefennaa", sum := "4b25303878f1d8c5e0540cbe0e18ce1f83bb2cd2cb04d6dc5b6a5928622e9e8f", func := "bogie/bogietop.TopUndone", spec := "topUndone", inPlace := ["slices.overlaps[int]"], unfollowed := true, recurses := true, plainKeys := false, apart := false, narrowed := true }
def TopUndoneUptoSaid : Prop := topUndoneUptoRow.holds Try.pinned (OpenSpec.upto topUndoneSpec)

/-- 'bogietop.TopWorks', WHERE WHAT IT READS IS OF BULK AT MOST 1048576: true; the input reads as it did. -/
def topWorksUptoRow : OpenClaim := { program := "ytoogicafefennaa", sum := "4b25303878f1d8c5e0540cbe0e18ce1f83bb2cd2cb04d6dc5b6a5928622e9e8f", func := "bogie/bogietop.TopWorks", spec := "topWorks", inPlace := ["slices.overlaps[int]"], unfollowed := true, recurses := true, plainKeys := false, apart := false, narrowed := true }
def TopWorksUptoSaid : Prop := topWorksUptoRow.holds Try.pinned (OpenSpec.upto topWorksSpec)

/-- 'bogietop.TopNoBetter', WHERE WHAT IT READS IS OF BULK AT MOST 1048576: true; the input reads as it did. -/
def topNoBetterUptoRow : OpenClaim := { program := "ytoogicafefennaa", sum := "4b25303878f1d8c5e0540cbe0e18ce1f83bb2cd2cb04d6dc5b6a5928622e9e8f", func := "bogie/bogietop.TopNoBetter", spec := "topNoBetter", unfollowed := true, recurses := true, plainKeys := false, apart := false, narrowed := true }
def TopNoBetterUptoSaid : Prop := topNoBetterUptoRow.holds Try.pinned (OpenSpec.upto topNoBetterSpec)

end Rows
end Go.Proofs.Ytoogicafefennaa
