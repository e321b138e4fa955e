/-
  No cell of these rows narrows 'for every input' (looked for: loops, veiled, ifaces, maps, wideKeys, modest, calm, conditions, laid).
  DERIVED. THE GIVEN ROWS OF THIS SEAT. 12 by the template 'for every input the law returns true; each argument reads behind the call as it read before'; 0 by the template 'total and deterministic' (their statements: YteiceakgiilbgaaTotals.lean).
  GIVEN WITH THE SEED: the statements are not yours to turn. If you find one false, say at which input.
  Laid BY PROGRAM, IN A SANDBOX (cutbox-rows.mjs): the forced cells as the released guide's own fill.sh prints them over the translation e24f1c99908c93b1… (all of the seat's roots in one cut). By AI agents, Wed Nov 11 2026. No macro, syntax, notation, axiom, sorry.
-/
import Derived.Test.YteiceakgiilbgaaChecked
import GoSem.Claim
import GoSem.ClaimJoined
import GoSem.ClaimMapViews
import Derived.JoinedTies
import Derived.KernelRfl
namespace Go.Proofs.Yteiceakgiilbgaa
/- THE CELL 'sum', in the pinned program and in every row, IS THE sha256 OF THE DUMP (.gsa) THAT YteiceakgiilbgaaProg.lean LOADS. Nothing in Lean hashes anything: it is a label: what it is worth is what the hold of that sum in a sandbox is worth. -/
noncomputable def Try.pinned : Pinned := { name := "yteiceakgiilbgaa", sum := "e24f1c99908c93b153716d0eb7237f43c6564d27a98443fd7ef71f9437bdebb1", checked := Try.checked }
namespace Rows
def none {H : Type} : Left H := { results := [], args := [] }

/-- 'laws.FnExactConstants': WHATEVER THE INPUT: true; the input reads as it did. -/
def fnExactConstantsSpec : ChangeSpec := { name := "fnExactConstants", fn := fun _ => fun
  | [] => { results := [.lit (.bool true)], args := [] }
  | _ => none }
def fnExactConstantsRow : OpenClaim := { program := "yteiceakgiilbgaa", sum := "e24f1c99908c93b153716d0eb7237f43c6564d27a98443fd7ef71f9437bdebb1", func := "loop.example/g01306/laws.FnExactConstants", spec := "fnExactConstants", plainKeys := false, apart := false }
def FnExactConstantsSaid : Prop := fnExactConstantsRow.holds Try.pinned (OpenSpec.ofChange fnExactConstantsSpec)

/-- ITS FALSE NEIGHBOUR: 'it returns false'. Refute it at one input. -/
def fnExactConstantsWrong : ChangeSpec := { name := "fnExactConstants", fn := fun _ => fun
  | [] => { results := [.lit (.bool false)], args := [] }
  | _ => none }
def FnExactConstantsWrongFalsely : Prop := fnExactConstantsRow.holds Try.pinned (OpenSpec.ofChange fnExactConstantsWrong)

/-- 'laws.FnExactIsPair': WHATEVER THE INPUT: true; the input reads as it did. -/
def fnExactIsPairSpec : ChangeSpec := { name := "fnExactIsPair", fn := fun _ => fun
  | [d1, d2, d3, d4] => { results := [.lit (.bool true)], args := [d1, d2, d3, d4] }
  | _ => none }
def fnExactIsPairRow : OpenClaim := { program := "yteiceakgiilbgaa", sum := "e24f1c99908c93b153716d0eb7237f43c6564d27a98443fd7ef71f9437bdebb1", func := "loop.example/g01306/laws.FnExactIsPair", spec := "fnExactIsPair", plainKeys := false, apart := false }
def FnExactIsPairSaid : Prop := fnExactIsPairRow.holds Try.pinned (OpenSpec.ofChange fnExactIsPairSpec)

/-- ITS FALSE NEIGHBOUR: 'it returns false'. Refute it at one input. -/
def fnExactIsPairWrong : ChangeSpec := { name := "fnExactIsPair", fn := fun _ => fun
  | [d1, d2, d3, d4] => { results := [.lit (.bool false)], args := [d1, d2, d3, d4] }
  | _ => none }
def FnExactIsPairWrongFalsely : Prop := fnExactIsPairRow.holds Try.pinned (OpenSpec.ofChange fnExactIsPairWrong)

/-- 'laws.FnExactCountGreatest': WHATEVER THE INPUT: true; the input reads as it did. -/
def fnExactCountGreatestSpec : ChangeSpec := { name := "fnExactCountGreatest", fn := fun _ => fun
  | [d1, d2, d3] => { results := [.lit (.bool true)], args := [d1, d2, d3] }
  | _ => none }
def fnExactCountGreatestRow : OpenClaim := { program := "yteiceakgiilbgaa", sum := "e24f1c99908c93b153716d0eb7237f43c6564d27a98443fd7ef71f9437bdebb1", func := "loop.example/g01306/laws.FnExactCountGreatest", spec := "fnExactCountGreatest", plainKeys := false, apart := false }
def FnExactCountGreatestSaid : Prop := fnExactCountGreatestRow.holds Try.pinned (OpenSpec.ofChange fnExactCountGreatestSpec)

/-- ITS FALSE NEIGHBOUR: 'it returns false'. Refute it at one input. -/
def fnExactCountGreatestWrong : ChangeSpec := { name := "fnExactCountGreatest", fn := fun _ => fun
  | [d1, d2, d3] => { results := [.lit (.bool false)], args := [d1, d2, d3] }
  | _ => none }
def FnExactCountGreatestWrongFalsely : Prop := fnExactCountGreatestRow.holds Try.pinned (OpenSpec.ofChange fnExactCountGreatestWrong)

/-- 'laws.FnExactCountSome': WHATEVER THE INPUT: true; the input reads as it did. -/
def fnExactCountSomeSpec : ChangeSpec := { name := "fnExactCountSome", fn := fun _ => fun
  | [d1, d2, d3] => { results := [.lit (.bool true)], args := [d1, d2, d3] }
  | _ => none }
def fnExactCountSomeRow : OpenClaim := { program := "yteiceakgiilbgaa", sum := "e24f1c99908c93b153716d0eb7237f43c6564d27a98443fd7ef71f9437bdebb1", func := "loop.example/g01306/laws.FnExactCountSome", spec := "fnExactCountSome", plainKeys := false, apart := false }
def FnExactCountSomeSaid : Prop := fnExactCountSomeRow.holds Try.pinned (OpenSpec.ofChange fnExactCountSomeSpec)

/-- ITS FALSE NEIGHBOUR: 'it returns false'. Refute it at one input. -/
def fnExactCountSomeWrong : ChangeSpec := { name := "fnExactCountSome", fn := fun _ => fun
  | [d1, d2, d3] => { results := [.lit (.bool false)], args := [d1, d2, d3] }
  | _ => none }
def FnExactCountSomeWrongFalsely : Prop := fnExactCountSomeRow.holds Try.pinned (OpenSpec.ofChange fnExactCountSomeWrong)

/-- 'laws.FnExactThrowsForAll': WHATEVER THE INPUT: true; the input reads as it did. -/
def fnExactThrowsForAllSpec : ChangeSpec := { name := "fnExactThrowsForAll", fn := fun _ => fun
  | [d] => { results := [.lit (.bool true)], args := [d] }
  | _ => none }
def fnExactThrowsForAllRow : OpenClaim := { program := "yteiceakgiilbgaa", sum := "e24f1c99908c93b153716d0eb7237f43c6564d27a98443fd7ef71f9437bdebb1", func := "loop.example/g01306/laws.FnExactThrowsForAll", spec := "fnExactThrowsForAll", plainKeys := false, apart := false }
def FnExactThrowsForAllSaid : Prop := fnExactThrowsForAllRow.holds Try.pinned (OpenSpec.ofChange fnExactThrowsForAllSpec)

/-- ITS FALSE NEIGHBOUR: 'it returns false'. Refute it at one input. -/
def fnExactThrowsForAllWrong : ChangeSpec := { name := "fnExactThrowsForAll", fn := fun _ => fun
  | [d] => { results := [.lit (.bool false)], args := [d] }
  | _ => none }
def FnExactThrowsForAllWrongFalsely : Prop := fnExactThrowsForAllRow.holds Try.pinned (OpenSpec.ofChange fnExactThrowsForAllWrong)

/-- 'laws.FnExactCountSame': WHATEVER THE INPUT: true; the input reads as it did. -/
def fnExactCountSameSpec : ChangeSpec := { name := "fnExactCountSame", fn := fun _ => fun
  | [d1, d2, d3] => { results := [.lit (.bool true)], args := [d1, d2, d3] }
  | _ => none }
def fnExactCountSameRow : OpenClaim := { program := "yteiceakgiilbgaa", sum := "e24f1c99908c93b153716d0eb7237f43c6564d27a98443fd7ef71f9437bdebb1", func := "loop.example/g01306/laws.FnExactCountSame", spec := "fnExactCountSame", unfollowed := true, recurses := true, plainKeys := false, apart := false }
def FnExactCountSameSaid : Prop := fnExactCountSameRow.holds Try.pinned (OpenSpec.ofChange fnExactCountSameSpec)

/-- ITS FALSE NEIGHBOUR: 'it returns false'. Refute it at one input. -/
def fnExactCountSameWrong : ChangeSpec := { name := "fnExactCountSame", fn := fun _ => fun
  | [d1, d2, d3] => { results := [.lit (.bool false)], args := [d1, d2, d3] }
  | _ => none }
def FnExactCountSameWrongFalsely : Prop := fnExactCountSameRow.holds Try.pinned (OpenSpec.ofChange fnExactCountSameWrong)

/-- 'laws.FnExactCountEachFace': WHATEVER THE INPUT: true; the input reads as it did. -/
def fnExactCountEachFaceSpec : ChangeSpec := { name := "fnExactCountEachFace", fn := fun _ => fun
  | [d1, d2] => { results := [.lit (.bool true)], args := [d1, d2] }
  | _ => none }
def fnExactCountEachFaceRow : OpenClaim := { program := "yteiceakgiilbgaa", sum := "e24f1c99908c93b153716d0eb7237f43c6564d27a98443fd7ef71f9437bdebb1", func := "loop.example/g01306/laws.FnExactCountEachFace", spec := "fnExactCountEachFace", unfollowed := true, recurses := true, plainKeys := false, apart := false }
def FnExactCountEachFaceSaid : Prop := fnExactCountEachFaceRow.holds Try.pinned (OpenSpec.ofChange fnExactCountEachFaceSpec)

/-- ITS FALSE NEIGHBOUR: 'it returns false'. Refute it at one input. -/
def fnExactCountEachFaceWrong : ChangeSpec := { name := "fnExactCountEachFace", fn := fun _ => fun
  | [d1, d2] => { results := [.lit (.bool false)], args := [d1, d2] }
  | _ => none }
def FnExactCountEachFaceWrongFalsely : Prop := fnExactCountEachFaceRow.holds Try.pinned (OpenSpec.ofChange fnExactCountEachFaceWrong)

/-- 'laws.FnExactPairMoves': WHATEVER THE INPUT: true; the input reads as it did. -/
def fnExactPairMovesSpec : ChangeSpec := { name := "fnExactPairMoves", fn := fun _ => fun
  | [d1, d2, d3, d4, d5] => { results := [.lit (.bool true)], args := [d1, d2, d3, d4, d5] }
  | _ => none }
def fnExactPairMovesRow : OpenClaim := { program := "yteiceakgiilbgaa", sum := "e24f1c99908c93b153716d0eb7237f43c6564d27a98443fd7ef71f9437bdebb1", func := "loop.example/g01306/laws.FnExactPairMoves", spec := "fnExactPairMoves", plainKeys := false, apart := false }
def FnExactPairMovesSaid : Prop := fnExactPairMovesRow.holds Try.pinned (OpenSpec.ofChange fnExactPairMovesSpec)

/-- ITS FALSE NEIGHBOUR: 'it returns false'. Refute it at one input. -/
def fnExactPairMovesWrong : ChangeSpec := { name := "fnExactPairMoves", fn := fun _ => fun
  | [d1, d2, d3, d4, d5] => { results := [.lit (.bool false)], args := [d1, d2, d3, d4, d5] }
  | _ => none }
def FnExactPairMovesWrongFalsely : Prop := fnExactPairMovesRow.holds Try.pinned (OpenSpec.ofChange fnExactPairMovesWrong)

/-- 'laws.FnExactWaysAgain': WHATEVER THE INPUT: true; the input reads as it did. -/
def fnExactWaysAgainSpec : ChangeSpec := { name := "fnExactWaysAgain", fn := fun _ => fun
  | [d1, d2, d3] => { results := [.lit (.bool true)], args := [d1, d2, d3] }
  | _ => none }
def fnExactWaysAgainRow : OpenClaim := { program := "yteiceakgiilbgaa", sum := "e24f1c99908c93b153716d0eb7237f43c6564d27a98443fd7ef71f9437bdebb1", func := "loop.example/g01306/laws.FnExactWaysAgain", spec := "fnExactWaysAgain", plainKeys := false, apart := false }
def FnExactWaysAgainSaid : Prop := fnExactWaysAgainRow.holds Try.pinned (OpenSpec.ofChange fnExactWaysAgainSpec)

/-- ITS FALSE NEIGHBOUR: 'it returns false'. Refute it at one input. -/
def fnExactWaysAgainWrong : ChangeSpec := { name := "fnExactWaysAgain", fn := fun _ => fun
  | [d1, d2, d3] => { results := [.lit (.bool false)], args := [d1, d2, d3] }
  | _ => none }
def FnExactWaysAgainWrongFalsely : Prop := fnExactWaysAgainRow.holds Try.pinned (OpenSpec.ofChange fnExactWaysAgainWrong)

/-- 'laws.FnExactCountRuns': WHATEVER THE INPUT: true; the input reads as it did. -/
def fnExactCountRunsSpec : ChangeSpec := { name := "fnExactCountRuns", fn := fun _ => fun
  | [d1, d2, d3] => { results := [.lit (.bool true)], args := [d1, d2, d3] }
  | _ => none }
def fnExactCountRunsRow : OpenClaim := { program := "yteiceakgiilbgaa", sum := "e24f1c99908c93b153716d0eb7237f43c6564d27a98443fd7ef71f9437bdebb1", func := "loop.example/g01306/laws.FnExactCountRuns", spec := "fnExactCountRuns", recurses := true, plainKeys := false, apart := false }
def FnExactCountRunsSaid : Prop := fnExactCountRunsRow.holds Try.pinned (OpenSpec.ofChange fnExactCountRunsSpec)

/-- ITS FALSE NEIGHBOUR: 'it returns false'. Refute it at one input. -/
def fnExactCountRunsWrong : ChangeSpec := { name := "fnExactCountRuns", fn := fun _ => fun
  | [d1, d2, d3] => { results := [.lit (.bool false)], args := [d1, d2, d3] }
  | _ => none }
def FnExactCountRunsWrongFalsely : Prop := fnExactCountRunsRow.holds Try.pinned (OpenSpec.ofChange fnExactCountRunsWrong)

/-- 'laws.FnExactWaysOfSum': WHATEVER THE INPUT: true; the input reads as it did. -/
def fnExactWaysOfSumSpec : ChangeSpec := { name := "fnExactWaysOfSum", fn := fun _ => fun
  | [d1, d2, d3] => { results := [.lit (.bool true)], args := [d1, d2, d3] }
  | _ => none }
def fnExactWaysOfSumRow : OpenClaim := { program := "yteiceakgiilbgaa", sum := "e24f1c99908c93b153716d0eb7237f43c6564d27a98443fd7ef71f9437bdebb1", func := "loop.example/g01306/laws.FnExactWaysOfSum", spec := "fnExactWaysOfSum", plainKeys := false, apart := false }
def FnExactWaysOfSumSaid : Prop := fnExactWaysOfSumRow.holds Try.pinned (OpenSpec.ofChange fnExactWaysOfSumSpec)

/-- ITS FALSE NEIGHBOUR: 'it returns false'. Refute it at one input. -/
def fnExactWaysOfSumWrong : ChangeSpec := { name := "fnExactWaysOfSum", fn := fun _ => fun
  | [d1, d2, d3] => { results := [.lit (.bool false)], args := [d1, d2, d3] }
  | _ => none }
def FnExactWaysOfSumWrongFalsely : Prop := fnExactWaysOfSumRow.holds Try.pinned (OpenSpec.ofChange fnExactWaysOfSumWrong)

/-- 'laws.FnExactAverageSum': WHATEVER THE INPUT: true; the input reads as it did. -/
def fnExactAverageSumSpec : ChangeSpec := { name := "fnExactAverageSum", fn := fun _ => fun
  | [d1, d2] => { results := [.lit (.bool true)], args := [d1, d2] }
  | _ => none }
def fnExactAverageSumRow : OpenClaim := { program := "yteiceakgiilbgaa", sum := "e24f1c99908c93b153716d0eb7237f43c6564d27a98443fd7ef71f9437bdebb1", func := "loop.example/g01306/laws.FnExactAverageSum", spec := "fnExactAverageSum", plainKeys := false, apart := false }
def FnExactAverageSumSaid : Prop := fnExactAverageSumRow.holds Try.pinned (OpenSpec.ofChange fnExactAverageSumSpec)

/-- ITS FALSE NEIGHBOUR: 'it returns false'. Refute it at one input. -/
def fnExactAverageSumWrong : ChangeSpec := { name := "fnExactAverageSum", fn := fun _ => fun
  | [d1, d2] => { results := [.lit (.bool false)], args := [d1, d2] }
  | _ => none }
def FnExactAverageSumWrongFalsely : Prop := fnExactAverageSumRow.holds Try.pinned (OpenSpec.ofChange fnExactAverageSumWrong)

/- THE SECOND FORM. 'bulk': how many values and letters a reading holds, each counted each time it is reached (what is shared counts as often as it is met; a slice's spare places count too). A statement '..UptoSaid' is the law's where the arguments, and the package variables that the reading takes, are together of bulk at most 1048576: NARROWER than '..Said'. Prove '..Said' where nothing that the law and all that it calls make is longer than what came in: it says more and counts as full. Else prove '..UptoSaid'. A law counts once. -/
mutual
def uptoBulk {H : Type} : DataW H → Nat
  | .lit (.string bytes) => bytes.length + 1
  | .lit _ => 1
  | .nil => 1
  | .ptr d => uptoBulk d + 1
  | .slice elems spare => uptoBulkAll elems + uptoBulkAll spare + 1
  | .agg parts => uptoBulkAll parts + 1
  | .iface _ d => uptoBulk d + 1
  | .map entries => uptoBulkEntries entries + 1
  | .held _ => 1
def uptoBulkAll {H : Type} : List (DataW H) → Nat
  | [] => 0
  | d :: r => uptoBulk d + uptoBulkAll r
def uptoBulkEntries {H : Type} : List (Lit × DataW H) → Nat
  | [] => 0
  | x :: r => uptoBulkEntry x + uptoBulkEntries r
def uptoBulkEntry {H : Type} : Lit × DataW H → Nat
  | (.string bytes, d) => bytes.length + uptoBulk d + 1
  | (_, d) => uptoBulk d + 1
 end
def uptoSmall : (H : Type) → List (DataW H) → Bool := fun _ ds => decide (uptoBulkAll ds ≤ 1048576)
def OpenSpec.upto (s : _root_.Go.ChangeSpec) : _root_.Go.OpenSpec := { _root_.Go.OpenSpec.ofChange s with cond := some uptoSmall }

/-- 'laws.FnExactConstants', WHERE WHAT IT READS IS OF BULK AT MOST 1048576: true; the input reads as it did. -/
def fnExactConstantsUptoRow : OpenClaim := { program := "yteiceakgiilbgaa", sum := "e24f1c99908c93b153716d0eb7237f43c6564d27a98443fd7ef71f9437bdebb1", func := "loop.example/g01306/laws.FnExactConstants", spec := "fnExactConstants", plainKeys := false, apart := false, narrowed := true }
def FnExactConstantsUptoSaid : Prop := fnExactConstantsUptoRow.holds Try.pinned (OpenSpec.upto fnExactConstantsSpec)

/-- 'laws.FnExactIsPair', WHERE WHAT IT READS IS OF BULK AT MOST 1048576: true; the input reads as it did. -/
def fnExactIsPairUptoRow : OpenClaim := { program := "yteiceakgiilbgaa", sum := "e24f1c99908c93b153716d0eb7237f43c6564d27a98443fd7ef71f9437bdebb1", func := "loop.example/g01306/laws.FnExactIsPair", spec := "fnExactIsPair", plainKeys := false, apart := false, narrowed := true }
def FnExactIsPairUptoSaid : Prop := fnExactIsPairUptoRow.holds Try.pinned (OpenSpec.upto fnExactIsPairSpec)

/-- 'laws.FnExactCountGreatest', WHERE WHAT IT READS IS OF BULK AT MOST 1048576: true; the input reads as it did. -/
def fnExactCountGreatestUptoRow : OpenClaim := { program := "yteiceakgiilbgaa", sum := "e24f1c99908c93b153716d0eb7237f43c6564d27a98443fd7ef71f9437bdebb1", func := "loop.example/g01306/laws.FnExactCountGreatest", spec := "fnExactCountGreatest", plainKeys := false, apart := false, narrowed := true }
def FnExactCountGreatestUptoSaid : Prop := fnExactCountGreatestUptoRow.holds Try.pinned (OpenSpec.upto fnExactCountGreatestSpec)

/-- 'laws.FnExactCountSome', WHERE WHAT IT READS IS OF BULK AT MOST 1048576: true; the input reads as it did. -/
def fnExactCountSomeUptoRow : OpenClaim := { program := "yteiceakgiilbgaa", sum := "e24f1c99908c93b153716d0eb7237f43c6564d27a98443fd7ef71f9437bdebb1", func := "loop.example/g01306/laws.FnExactCountSome", spec := "fnExactCountSome", plainKeys := false, apart := false, narrowed := true }
def FnExactCountSomeUptoSaid : Prop := fnExactCountSomeUptoRow.holds Try.pinned (OpenSpec.upto fnExactCountSomeSpec)

/-- 'laws.FnExactThrowsForAll', WHERE WHAT IT READS IS OF BULK AT MOST 1048576: true; the input reads as it did. -/
def fnExactThrowsForAllUptoRow : OpenClaim := { program := "yteiceakgiilbgaa", sum := "e24f1c99908c93b153716d0eb7237f43c6564d27a98443fd7ef71f9437bdebb1", func := "loop.example/g01306/laws.FnExactThrowsForAll", spec := "fnExactThrowsForAll", plainKeys := false, apart := false, narrowed := true }
def FnExactThrowsForAllUptoSaid : Prop := fnExactThrowsForAllUptoRow.holds Try.pinned (OpenSpec.upto fnExactThrowsForAllSpec)

/-- 'laws.FnExactCountSame', WHERE WHAT IT READS IS OF BULK AT MOST 1048576: true; the input reads as it did. -/
def fnExactCountSameUptoRow : OpenClaim := { program := "yteiceakgiilbgaa", sum := "e24f1c99908c93b153716d0eb7237f43c6564d27a98443fd7ef71f9437bdebb1", func := "loop.example/g01306/laws.FnExactCountSame", spec := "fnExactCountSame", unfollowed := true, recurses := true, plainKeys := false, apart := false, narrowed := true }
def FnExactCountSameUptoSaid : Prop := fnExactCountSameUptoRow.holds Try.pinned (OpenSpec.upto fnExactCountSameSpec)

/-- 'laws.FnExactCountEachFace', WHERE WHAT IT READS IS OF BULK AT MOST 1048576: true; the input reads as it did. -/
def fnExactCountEachFaceUptoRow : OpenClaim := { program := "yteiceakgiilbgaa", sum := "e24f1c99908c93b153716d0eb7237f43c6564d27a98443fd7ef71f9437bdebb1", func := "loop.example/g01306/laws.FnExactCountEachFace", spec := "fnExactCountEachFace", unfollowed := true, recurses := true, plainKeys := false, apart := false, narrowed := true }
def FnExactCountEachFaceUptoSaid : Prop := fnExactCountEachFaceUptoRow.holds Try.pinned (OpenSpec.upto fnExactCountEachFaceSpec)

/-- 'laws.FnExactPairMoves', WHERE WHAT IT READS IS OF BULK AT MOST 1048576: true; the input reads as it did. -/
def fnExactPairMovesUptoRow : OpenClaim := { program := "yteiceakgiilbgaa", sum := "e24f1c99908c93b153716d0eb7237f43c6564d27a98443fd7ef71f9437bdebb1", func := "loop.example/g01306/laws.FnExactPairMoves", spec := "fnExactPairMoves", plainKeys := false, apart := false, narrowed := true }
def FnExactPairMovesUptoSaid : Prop := fnExactPairMovesUptoRow.holds Try.pinned (OpenSpec.upto fnExactPairMovesSpec)

/-- 'laws.FnExactWaysAgain', WHERE WHAT IT READS IS OF BULK AT MOST 1048576: true; the input reads as it did. -/
def fnExactWaysAgainUptoRow : OpenClaim := { program := "yteiceakgiilbgaa", sum := "e24f1c99908c93b153716d0eb7237f43c6564d27a98443fd7ef71f9437bdebb1", func := "loop.example/g01306/laws.FnExactWaysAgain", spec := "fnExactWaysAgain", plainKeys := false, apart := false, narrowed := true }
def FnExactWaysAgainUptoSaid : Prop := fnExactWaysAgainUptoRow.holds Try.pinned (OpenSpec.upto fnExactWaysAgainSpec)

/-- 'laws.FnExactCountRuns', WHERE WHAT IT READS IS OF BULK AT MOST 1048576: true; the input reads as it did. -/
def fnExactCountRunsUptoRow : OpenClaim := { program := "yteiceakgiilbgaa", sum := "e24f1c99908c93b153716d0eb7237f43c6564d27a98443fd7ef71f9437bdebb1", func := "loop.example/g01306/laws.FnExactCountRuns", spec := "fnExactCountRuns", recurses := true, plainKeys := false, apart := false, narrowed := true }
def FnExactCountRunsUptoSaid : Prop := fnExactCountRunsUptoRow.holds Try.pinned (OpenSpec.upto fnExactCountRunsSpec)

/-- 'laws.FnExactWaysOfSum', WHERE WHAT IT READS IS OF BULK AT MOST 1048576: true; the input reads as it did. -/
def fnExactWaysOfSumUptoRow : OpenClaim := { program := "yteiceakgiilbgaa", sum := "e24f1c99908c93b153716d0eb7237f43c6564d27a98443fd7ef71f9437bdebb1", func := "loop.example/g01306/laws.FnExactWaysOfSum", spec := "fnExactWaysOfSum", plainKeys := false, apart := false, narrowed := true }
def FnExactWaysOfSumUptoSaid : Prop := fnExactWaysOfSumUptoRow.holds Try.pinned (OpenSpec.upto fnExactWaysOfSumSpec)

/-- 'laws.FnExactAverageSum', WHERE WHAT IT READS IS OF BULK AT MOST 1048576: true; the input reads as it did. -/
def fnExactAverageSumUptoRow : OpenClaim := { program := "yteiceakgiilbgaa", sum := "e24f1c99908c93b153716d0eb7237f43c6564d27a98443fd7ef71f9437bdebb1", func := "loop.example/g01306/laws.FnExactAverageSum", spec := "fnExactAverageSum", plainKeys := false, apart := false, narrowed := true }
def FnExactAverageSumUptoSaid : Prop := fnExactAverageSumUptoRow.holds Try.pinned (OpenSpec.upto fnExactAverageSumSpec)

end Rows
end Go.Proofs.Yteiceakgiilbgaa
