/-
  No cell of these rows narrows 'for every input' (looked for: loops, veiled, ifaces, maps, wideKeys, modest, calm, conditions, laid).
  DERIVED. THE GIVEN ROWS OF THIS SEAT. 6 by the template 'for every input the law returns true; each argument reads behind the call as it read before'; 0 by the template 'total and deterministic' (their statements: YtffbhbinnjpgnaaTotals.lean).
  GIVEN WITH THE SEED: the statements are not yours to turn. If you find one false, say at which input.
  Laid BY PROGRAM, IN A SANDBOX (cutbox-rows.mjs): the forced cells as the released guide's own fill.sh prints them over the translation 0bfb5fd5bf6932ba… (all of the seat's roots in one cut). By AI agents, Wed Nov 11 2026. No macro, syntax, notation, axiom, sorry.
-/
import Derived.Test.YtffbhbinnjpgnaaChecked
import GoSem.Claim
import GoSem.ClaimJoined
import GoSem.ClaimMapViews
import Derived.JoinedTies
import Derived.KernelRfl
namespace Go.Proofs.Ytffbhbinnjpgnaa
/- THE CELL 'sum', in the pinned program and in every row, IS THE sha256 OF THE DUMP (.gsa) THAT YtffbhbinnjpgnaaProg.lean LOADS. Nothing in Lean hashes anything: it is a label: what it is worth is what the hold of that sum in a sandbox is worth. -/
noncomputable def Try.pinned : Pinned := { name := "ytffbhbinnjpgnaa", sum := "0bfb5fd5bf6932ba236d530232331cf947607e48d90f873a34713c2d02158508", checked := Try.checked }
namespace Rows
def none {H : Type} : Left H := { results := [], args := [] }

/-- 'bogielaw27.ConcedeMatchesReference': WHATEVER THE INPUT: true; the input reads as it did. -/
def concedeMatchesReferenceSpec : ChangeSpec := { name := "concedeMatchesReference", fn := fun _ => fun
  | [d1, d2, d3, d4, d5, d6, d7] => { results := [.lit (.bool true)], args := [d1, d2, d3, d4, d5, d6, d7] }
  | _ => none }
def concedeMatchesReferenceRow : OpenClaim := { program := "ytffbhbinnjpgnaa", sum := "0bfb5fd5bf6932ba236d530232331cf947607e48d90f873a34713c2d02158508", func := "bogie/bogielaw27.ConcedeMatchesReference", spec := "concedeMatchesReference", unfollowed := true, recurses := true, plainKeys := false, apart := false }
def ConcedeMatchesReferenceSaid : Prop := concedeMatchesReferenceRow.holds Try.pinned (OpenSpec.ofChange concedeMatchesReferenceSpec)

/-- ITS FALSE NEIGHBOUR: 'it returns false'. Refute it at one input. -/
def concedeMatchesReferenceWrong : ChangeSpec := { name := "concedeMatchesReference", fn := fun _ => fun
  | [d1, d2, d3, d4, d5, d6, d7] => { results := [.lit (.bool false)], args := [d1, d2, d3, d4, d5, d6, d7] }
  | _ => none }
def ConcedeMatchesReferenceWrongFalsely : Prop := concedeMatchesReferenceRow.holds Try.pinned (OpenSpec.ofChange concedeMatchesReferenceWrong)

/-- 'bogielaw27.ConcedeDays': WHATEVER THE INPUT: true; the input reads as it did. -/
def concedeDaysSpec : ChangeSpec := { name := "concedeDays", fn := fun _ => fun
  | [d1, d2, d3, d4, d5, d6, d7, d8] => { results := [.lit (.bool true)], args := [d1, d2, d3, d4, d5, d6, d7, d8] }
  | _ => none }
def concedeDaysRow : OpenClaim := { program := "ytffbhbinnjpgnaa", sum := "0bfb5fd5bf6932ba236d530232331cf947607e48d90f873a34713c2d02158508", func := "bogie/bogielaw27.ConcedeDays", spec := "concedeDays", unfollowed := true, recurses := true, plainKeys := false, apart := false }
def ConcedeDaysSaid : Prop := concedeDaysRow.holds Try.pinned (OpenSpec.ofChange concedeDaysSpec)

/-- ITS FALSE NEIGHBOUR: 'it returns false'. Refute it at one input. -/
def concedeDaysWrong : ChangeSpec := { name := "concedeDays", fn := fun _ => fun
  | [d1, d2, d3, d4, d5, d6, d7, d8] => { results := [.lit (.bool false)], args := [d1, d2, d3, d4, d5, d6, d7, d8] }
  | _ => none }
def ConcedeDaysWrongFalsely : Prop := concedeDaysRow.holds Try.pinned (OpenSpec.ofChange concedeDaysWrong)

/-- 'bogielaw27.ConcedeMore': WHATEVER THE INPUT: true; the input reads as it did. -/
def concedeMoreSpec : ChangeSpec := { name := "concedeMore", fn := fun _ => fun
  | [d1, d2, d3, d4, d5, d6, d7, d8, d9] => { results := [.lit (.bool true)], args := [d1, d2, d3, d4, d5, d6, d7, d8, d9] }
  | _ => none }
def concedeMoreRow : OpenClaim := { program := "ytffbhbinnjpgnaa", sum := "0bfb5fd5bf6932ba236d530232331cf947607e48d90f873a34713c2d02158508", func := "bogie/bogielaw27.ConcedeMore", spec := "concedeMore", unfollowed := true, recurses := true, plainKeys := false, apart := false }
def ConcedeMoreSaid : Prop := concedeMoreRow.holds Try.pinned (OpenSpec.ofChange concedeMoreSpec)

/-- ITS FALSE NEIGHBOUR: 'it returns false'. Refute it at one input. -/
def concedeMoreWrong : ChangeSpec := { name := "concedeMore", fn := fun _ => fun
  | [d1, d2, d3, d4, d5, d6, d7, d8, d9] => { results := [.lit (.bool false)], args := [d1, d2, d3, d4, d5, d6, d7, d8, d9] }
  | _ => none }
def ConcedeMoreWrongFalsely : Prop := concedeMoreRow.holds Try.pinned (OpenSpec.ofChange concedeMoreWrong)

/-- 'bogielaw27.ConcedeOthers': WHATEVER THE INPUT: true; the input reads as it did. -/
def concedeOthersSpec : ChangeSpec := { name := "concedeOthers", fn := fun _ => fun
  | [d1, d2, d3, d4, d5] => { results := [.lit (.bool true)], args := [d1, d2, d3, d4, d5] }
  | _ => none }
def concedeOthersRow : OpenClaim := { program := "ytffbhbinnjpgnaa", sum := "0bfb5fd5bf6932ba236d530232331cf947607e48d90f873a34713c2d02158508", func := "bogie/bogielaw27.ConcedeOthers", spec := "concedeOthers", unfollowed := true, recurses := true, plainKeys := false, apart := false }
def ConcedeOthersSaid : Prop := concedeOthersRow.holds Try.pinned (OpenSpec.ofChange concedeOthersSpec)

/-- ITS FALSE NEIGHBOUR: 'it returns false'. Refute it at one input. -/
def concedeOthersWrong : ChangeSpec := { name := "concedeOthers", fn := fun _ => fun
  | [d1, d2, d3, d4, d5] => { results := [.lit (.bool false)], args := [d1, d2, d3, d4, d5] }
  | _ => none }
def ConcedeOthersWrongFalsely : Prop := concedeOthersRow.holds Try.pinned (OpenSpec.ofChange concedeOthersWrong)

/-- 'bogielaw27.ConcedeNormal': WHATEVER THE INPUT: true; the input reads as it did. -/
def concedeNormalSpec : ChangeSpec := { name := "concedeNormal", fn := fun _ => fun
  | [d1, d2, d3, d4, d5] => { results := [.lit (.bool true)], args := [d1, d2, d3, d4, d5] }
  | _ => none }
def concedeNormalRow : OpenClaim := { program := "ytffbhbinnjpgnaa", sum := "0bfb5fd5bf6932ba236d530232331cf947607e48d90f873a34713c2d02158508", func := "bogie/bogielaw27.ConcedeNormal", spec := "concedeNormal", inPlace := ["internal/bytealg.IndexByteString"], unfollowed := true, recurses := true, plainKeys := false, apart := false }
def ConcedeNormalSaid : Prop := concedeNormalRow.holds Try.pinned (OpenSpec.ofChange concedeNormalSpec)

/-- ITS FALSE NEIGHBOUR: 'it returns false'. Refute it at one input. -/
def concedeNormalWrong : ChangeSpec := { name := "concedeNormal", fn := fun _ => fun
  | [d1, d2, d3, d4, d5] => { results := [.lit (.bool false)], args := [d1, d2, d3, d4, d5] }
  | _ => none }
def ConcedeNormalWrongFalsely : Prop := concedeNormalRow.holds Try.pinned (OpenSpec.ofChange concedeNormalWrong)

/-- 'bogielaw27.ConcedePairs': WHATEVER THE INPUT: true; the input reads as it did. -/
def concedePairsSpec : ChangeSpec := { name := "concedePairs", fn := fun _ => fun
  | [d1, d2, d3, d4, d5, d6] => { results := [.lit (.bool true)], args := [d1, d2, d3, d4, d5, d6] }
  | _ => none }
def concedePairsRow : OpenClaim := { program := "ytffbhbinnjpgnaa", sum := "0bfb5fd5bf6932ba236d530232331cf947607e48d90f873a34713c2d02158508", func := "bogie/bogielaw27.ConcedePairs", spec := "concedePairs", inPlace := ["internal/bytealg.IndexByteString"], unfollowed := true, recurses := true, plainKeys := false, apart := false }
def ConcedePairsSaid : Prop := concedePairsRow.holds Try.pinned (OpenSpec.ofChange concedePairsSpec)

/-- ITS FALSE NEIGHBOUR: 'it returns false'. Refute it at one input. -/
def concedePairsWrong : ChangeSpec := { name := "concedePairs", fn := fun _ => fun
  | [d1, d2, d3, d4, d5, d6] => { results := [.lit (.bool false)], args := [d1, d2, d3, d4, d5, d6] }
  | _ => none }
def ConcedePairsWrongFalsely : Prop := concedePairsRow.holds Try.pinned (OpenSpec.ofChange concedePairsWrong)

/- THE SECOND FORM. 'bulk': how many values and letters a reading holds, each counted each time it is reached (what is shared counts as often as it is met; a slice's spare places count too). A statement '..UptoSaid' is the law's where the arguments, and the package variables that the reading takes, are together of bulk at most 1048576: NARROWER than '..Said'. Prove '..Said' where nothing that the law and all that it calls make is longer than what came in: it says more and counts as full. Else prove '..UptoSaid'. A law counts once. -/
mutual
def uptoBulk {H : Type} : DataW H → Nat
  | .lit (.string bytes) => bytes.length + 1
  | .lit _ => 1
  | .nil => 1
  | .ptr d => uptoBulk d + 1
  | .slice elems spare => uptoBulkAll elems + uptoBulkAll spare + 1
  | .agg parts => uptoBulkAll parts + 1
  | .iface _ d => uptoBulk d + 1
  | .map entries => uptoBulkEntries entries + 1
  | .held _ => 1
def uptoBulkAll {H : Type} : List (DataW H) → Nat
  | [] => 0
  | d :: r => uptoBulk d + uptoBulkAll r
def uptoBulkEntries {H : Type} : List (Lit × DataW H) → Nat
  | [] => 0
  | x :: r => uptoBulkEntry x + uptoBulkEntries r
def uptoBulkEntry {H : Type} : Lit × DataW H → Nat
  | (.string bytes, d) => bytes.length + uptoBulk d + 1
  | (_, d) => uptoBulk d + 1
 end
def uptoSmall : (H : Type) → List (DataW H) → Bool := fun _ ds => decide (uptoBulkAll ds ≤ 1048576)
def OpenSpec.upto (s : _root_.Go.ChangeSpec) : _root_.Go.OpenSpec := { _root_.Go.OpenSpec.ofChange s with cond := some uptoSmall }

/-- 'bogielaw27.ConcedeMatchesReference', WHERE WHAT IT READS IS OF BULK AT MOST 1048576: true; the input reads as it did. -/
def concedeMatchesReferenceUptoRow : OpenClaim := { program := "ytffbhbinnjpgnaa", sum := "0bfb5fd5bf6932ba236d530232331cf947607e48d90f873a34713c2d02158508", func := "bogie/bogielaw27.ConcedeMatchesReference", spec := "concedeMatchesReference", unfollowed := true, recurses := true, plainKeys := false, apart := false, narrowed := true }
def ConcedeMatchesReferenceUptoSaid : Prop := concedeMatchesReferenceUptoRow.holds Try.pinned (OpenSpec.upto concedeMatchesReferenceSpec)

/-- 'bogielaw27.ConcedeDays', WHERE WHAT IT READS IS OF BULK AT MOST 1048576: true; the input reads as it did. -/
def concedeDaysUptoRow : OpenClaim := { program := "ytffbhbinnjpgnaa", sum := "0bfb5fd5bf6932ba236d530232331cf947607e48d90f873a34713c2d02158508", func := "bogie/bogielaw27.ConcedeDays", spec := "concedeDays", unfollowed := true, recurses := true, plainKeys := false, apart := false, narrowed := true }
def ConcedeDaysUptoSaid : Prop := concedeDaysUptoRow.holds Try.pinned (OpenSpec.upto concedeDaysSpec)

/-- 'bogielaw27.ConcedeMore', WHERE WHAT IT READS IS OF BULK AT MOST 1048576: true; the input reads as it did. -/
def concedeMoreUptoRow : OpenClaim := { program := "ytffbhbinnjpgnaa", sum := "0bfb5fd5bf6932ba236d530232331cf947607e48d90f873a34713c2d02158508", func := "bogie/bogielaw27.ConcedeMore", spec := "concedeMore", unfollowed := true, recurses := true, plainKeys := false, apart := false, narrowed := true }
def ConcedeMoreUptoSaid : Prop := concedeMoreUptoRow.holds Try.pinned (OpenSpec.upto concedeMoreSpec)

/-- 'bogielaw27.ConcedeOthers', WHERE WHAT IT READS IS OF BULK AT MOST 1048576: true; the input reads as it did. -/
def concedeOthersUptoRow : OpenClaim := { program := "ytffbhbinnjpgnaa", sum := "0bfb5fd5bf6932ba236d530232331cf947607e48d90f873a34713c2d02158508", func := "bogie/bogielaw27.ConcedeOthers", spec := "concedeOthers", unfollowed := true, recurses := true, plainKeys := false, apart := false, narrowed := true }
def ConcedeOthersUptoSaid : Prop := concedeOthersUptoRow.holds Try.pinned (OpenSpec.upto concedeOthersSpec)

/-- 'bogielaw27.ConcedeNormal', WHERE WHAT IT READS IS OF BULK AT MOST 1048576: true; the input reads as it did. -/
def concedeNormalUptoRow : OpenClaim := { program := "ytffbhbinnjpgnaa", sum := "0bfb5fd5bf6932ba236d530232331cf947607e48d90f873a34713c2d02158508", func := "bogie/bogielaw27.ConcedeNormal", spec := "concedeNormal", inPlace := ["internal/bytealg.IndexByteString"], unfollowed := true, recurses := true, plainKeys := false, apart := false, narrowed := true }
def ConcedeNormalUptoSaid : Prop := concedeNormalUptoRow.holds Try.pinned (OpenSpec.upto concedeNormalSpec)

/-- 'bogielaw27.ConcedePairs', WHERE WHAT IT READS IS OF BULK AT MOST 1048576: true; the input reads as it did. -/
def concedePairsUptoRow : OpenClaim := { program := "ytffbhbinnjpgnaa", sum := "0bfb5fd5bf6932ba236d530232331cf947607e48d90f873a34713c2d02158508", func := "bogie/bogielaw27.ConcedePairs", spec := "concedePairs", inPlace := ["internal/bytealg.IndexByteString"], unfollowed := true, recurses := true, plainKeys := false, apart := false, narrowed := true }
def ConcedePairsUptoSaid : Prop := concedePairsUptoRow.holds Try.pinned (OpenSpec.upto concedePairsSpec)

end Rows
end Go.Proofs.Ytffbhbinnjpgnaa
