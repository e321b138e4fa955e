/-
  No cell of these rows narrows 'for every input' (looked for: loops, veiled, ifaces, maps, wideKeys, modest, calm, conditions, laid).
  DERIVED. THE GIVEN ROWS OF THIS SEAT. 34 by the template 'for every input the law returns true; each argument reads behind the call as it read before'; 0 by the template 'total and deterministic' (their statements: YtkobjjadojpjfaaTotals.lean).
  GIVEN WITH THE SEED: the statements are not yours to turn. If you find one false, say at which input.
  Laid BY PROGRAM, IN A SANDBOX (cutbox-rows.mjs): the forced cells as the released guide's own fill.sh prints them over the translation 097f5b4d5f4d48fb… (all of the seat's roots in one cut). By AI agents, Wed Nov 11 2026. No macro, syntax, notation, axiom, sorry.
-/
import Derived.Test.YtkobjjadojpjfaaChecked
import GoSem.Claim
import GoSem.ClaimJoined
import GoSem.ClaimMapViews
import Derived.JoinedTies
import Derived.KernelRfl
namespace Go.Proofs.Ytkobjjadojpjfaa
/- THE CELL 'sum', in the pinned program and in every row, IS THE sha256 OF THE DUMP (.gsa) THAT YtkobjjadojpjfaaProg.lean LOADS. Nothing in Lean hashes anything: it is a label: what it is worth is what the hold of that sum in a sandbox is worth. -/
noncomputable def Try.pinned : Pinned := { name := "ytkobjjadojpjfaa", sum := "097f5b4d5f4d48fb8e1b13342137808f0aaa3f1251cd5b3d404852cdd68483b8", checked := Try.checked }
namespace Rows
def none {H : Type} : Left H := { results := [], args := [] }

/-- 'laws.FnExactBestLadder': WHATEVER THE INPUT: true; the input reads as it did. -/
def fnExactBestLadderSpec : ChangeSpec := { name := "fnExactBestLadder", fn := fun _ => fun
  | [d] => { results := [.lit (.bool true)], args := [d] }
  | _ => none }
def fnExactBestLadderRow : OpenClaim := { program := "ytkobjjadojpjfaa", sum := "097f5b4d5f4d48fb8e1b13342137808f0aaa3f1251cd5b3d404852cdd68483b8", func := "loop.example/g01306/laws.FnExactBestLadder", spec := "fnExactBestLadder", unfollowed := true, recurses := true, plainKeys := false, apart := false }
def FnExactBestLadderSaid : Prop := fnExactBestLadderRow.holds Try.pinned (OpenSpec.ofChange fnExactBestLadderSpec)

/-- ITS FALSE NEIGHBOUR: 'it returns false'. Refute it at one input. -/
def fnExactBestLadderWrong : ChangeSpec := { name := "fnExactBestLadder", fn := fun _ => fun
  | [d] => { results := [.lit (.bool false)], args := [d] }
  | _ => none }
def FnExactBestLadderWrongFalsely : Prop := fnExactBestLadderRow.holds Try.pinned (OpenSpec.ofChange fnExactBestLadderWrong)

/-- 'laws.FnExactIsBoard': WHATEVER THE INPUT: true; the input reads as it did. -/
def fnExactIsBoardSpec : ChangeSpec := { name := "fnExactIsBoard", fn := fun _ => fun
  | [d] => { results := [.lit (.bool true)], args := [d] }
  | _ => none }
def fnExactIsBoardRow : OpenClaim := { program := "ytkobjjadojpjfaa", sum := "097f5b4d5f4d48fb8e1b13342137808f0aaa3f1251cd5b3d404852cdd68483b8", func := "loop.example/g01306/laws.FnExactIsBoard", spec := "fnExactIsBoard", plainKeys := false, apart := false }
def FnExactIsBoardSaid : Prop := fnExactIsBoardRow.holds Try.pinned (OpenSpec.ofChange fnExactIsBoardSpec)

/-- ITS FALSE NEIGHBOUR: 'it returns false'. Refute it at one input. -/
def fnExactIsBoardWrong : ChangeSpec := { name := "fnExactIsBoard", fn := fun _ => fun
  | [d] => { results := [.lit (.bool false)], args := [d] }
  | _ => none }
def FnExactIsBoardWrongFalsely : Prop := fnExactIsBoardRow.holds Try.pinned (OpenSpec.ofChange fnExactIsBoardWrong)

/-- 'laws.FnExactPlainBoard': WHATEVER THE INPUT: true; the input reads as it did. -/
def fnExactPlainBoardSpec : ChangeSpec := { name := "fnExactPlainBoard", fn := fun _ => fun
  | [d1, d2, d3] => { results := [.lit (.bool true)], args := [d1, d2, d3] }
  | _ => none }
def fnExactPlainBoardRow : OpenClaim := { program := "ytkobjjadojpjfaa", sum := "097f5b4d5f4d48fb8e1b13342137808f0aaa3f1251cd5b3d404852cdd68483b8", func := "loop.example/g01306/laws.FnExactPlainBoard", spec := "fnExactPlainBoard", plainKeys := false, apart := false }
def FnExactPlainBoardSaid : Prop := fnExactPlainBoardRow.holds Try.pinned (OpenSpec.ofChange fnExactPlainBoardSpec)

/-- ITS FALSE NEIGHBOUR: 'it returns false'. Refute it at one input. -/
def fnExactPlainBoardWrong : ChangeSpec := { name := "fnExactPlainBoard", fn := fun _ => fun
  | [d1, d2, d3] => { results := [.lit (.bool false)], args := [d1, d2, d3] }
  | _ => none }
def FnExactPlainBoardWrongFalsely : Prop := fnExactPlainBoardRow.holds Try.pinned (OpenSpec.ofChange fnExactPlainBoardWrong)

/-- 'laws.FnExactIsRace': WHATEVER THE INPUT: true; the input reads as it did. -/
def fnExactIsRaceSpec : ChangeSpec := { name := "fnExactIsRace", fn := fun _ => fun
  | [d] => { results := [.lit (.bool true)], args := [d] }
  | _ => none }
def fnExactIsRaceRow : OpenClaim := { program := "ytkobjjadojpjfaa", sum := "097f5b4d5f4d48fb8e1b13342137808f0aaa3f1251cd5b3d404852cdd68483b8", func := "loop.example/g01306/laws.FnExactIsRace", spec := "fnExactIsRace", unfollowed := true, recurses := true, plainKeys := false, apart := false }
def FnExactIsRaceSaid : Prop := fnExactIsRaceRow.holds Try.pinned (OpenSpec.ofChange fnExactIsRaceSpec)

/-- ITS FALSE NEIGHBOUR: 'it returns false'. Refute it at one input. -/
def fnExactIsRaceWrong : ChangeSpec := { name := "fnExactIsRace", fn := fun _ => fun
  | [d] => { results := [.lit (.bool false)], args := [d] }
  | _ => none }
def FnExactIsRaceWrongFalsely : Prop := fnExactIsRaceRow.holds Try.pinned (OpenSpec.ofChange fnExactIsRaceWrong)

/-- 'laws.FnExactThrowTo': WHATEVER THE INPUT: true; the input reads as it did. -/
def fnExactThrowToSpec : ChangeSpec := { name := "fnExactThrowTo", fn := fun _ => fun
  | [d1, d2, d3] => { results := [.lit (.bool true)], args := [d1, d2, d3] }
  | _ => none }
def fnExactThrowToRow : OpenClaim := { program := "ytkobjjadojpjfaa", sum := "097f5b4d5f4d48fb8e1b13342137808f0aaa3f1251cd5b3d404852cdd68483b8", func := "loop.example/g01306/laws.FnExactThrowTo", spec := "fnExactThrowTo", unfollowed := true, recurses := true, plainKeys := false, apart := false }
def FnExactThrowToSaid : Prop := fnExactThrowToRow.holds Try.pinned (OpenSpec.ofChange fnExactThrowToSpec)

/-- ITS FALSE NEIGHBOUR: 'it returns false'. Refute it at one input. -/
def fnExactThrowToWrong : ChangeSpec := { name := "fnExactThrowTo", fn := fun _ => fun
  | [d1, d2, d3] => { results := [.lit (.bool false)], args := [d1, d2, d3] }
  | _ => none }
def FnExactThrowToWrongFalsely : Prop := fnExactThrowToRow.holds Try.pinned (OpenSpec.ofChange fnExactThrowToWrong)

/-- 'laws.FnExactLaddersOf': WHATEVER THE INPUT: true; the input reads as it did. -/
def fnExactLaddersOfSpec : ChangeSpec := { name := "fnExactLaddersOf", fn := fun _ => fun
  | [d] => { results := [.lit (.bool true)], args := [d] }
  | _ => none }
def fnExactLaddersOfRow : OpenClaim := { program := "ytkobjjadojpjfaa", sum := "097f5b4d5f4d48fb8e1b13342137808f0aaa3f1251cd5b3d404852cdd68483b8", func := "loop.example/g01306/laws.FnExactLaddersOf", spec := "fnExactLaddersOf", unfollowed := true, recurses := true, plainKeys := false, apart := false }
def FnExactLaddersOfSaid : Prop := fnExactLaddersOfRow.holds Try.pinned (OpenSpec.ofChange fnExactLaddersOfSpec)

/-- ITS FALSE NEIGHBOUR: 'it returns false'. Refute it at one input. -/
def fnExactLaddersOfWrong : ChangeSpec := { name := "fnExactLaddersOf", fn := fun _ => fun
  | [d] => { results := [.lit (.bool false)], args := [d] }
  | _ => none }
def FnExactLaddersOfWrongFalsely : Prop := fnExactLaddersOfRow.holds Try.pinned (OpenSpec.ofChange fnExactLaddersOfWrong)

/-- 'laws.FnExactSnakesOf': WHATEVER THE INPUT: true; the input reads as it did. -/
def fnExactSnakesOfSpec : ChangeSpec := { name := "fnExactSnakesOf", fn := fun _ => fun
  | [d] => { results := [.lit (.bool true)], args := [d] }
  | _ => none }
def fnExactSnakesOfRow : OpenClaim := { program := "ytkobjjadojpjfaa", sum := "097f5b4d5f4d48fb8e1b13342137808f0aaa3f1251cd5b3d404852cdd68483b8", func := "loop.example/g01306/laws.FnExactSnakesOf", spec := "fnExactSnakesOf", unfollowed := true, recurses := true, plainKeys := false, apart := false }
def FnExactSnakesOfSaid : Prop := fnExactSnakesOfRow.holds Try.pinned (OpenSpec.ofChange fnExactSnakesOfSpec)

/-- ITS FALSE NEIGHBOUR: 'it returns false'. Refute it at one input. -/
def fnExactSnakesOfWrong : ChangeSpec := { name := "fnExactSnakesOf", fn := fun _ => fun
  | [d] => { results := [.lit (.bool false)], args := [d] }
  | _ => none }
def FnExactSnakesOfWrongFalsely : Prop := fnExactSnakesOfRow.holds Try.pinned (OpenSpec.ofChange fnExactSnakesOfWrong)

/-- 'laws.FnExactFacesTo': WHATEVER THE INPUT: true; the input reads as it did. -/
def fnExactFacesToSpec : ChangeSpec := { name := "fnExactFacesTo", fn := fun _ => fun
  | [d1, d2, d3] => { results := [.lit (.bool true)], args := [d1, d2, d3] }
  | _ => none }
def fnExactFacesToRow : OpenClaim := { program := "ytkobjjadojpjfaa", sum := "097f5b4d5f4d48fb8e1b13342137808f0aaa3f1251cd5b3d404852cdd68483b8", func := "loop.example/g01306/laws.FnExactFacesTo", spec := "fnExactFacesTo", unfollowed := true, recurses := true, plainKeys := false, apart := false }
def FnExactFacesToSaid : Prop := fnExactFacesToRow.holds Try.pinned (OpenSpec.ofChange fnExactFacesToSpec)

/-- ITS FALSE NEIGHBOUR: 'it returns false'. Refute it at one input. -/
def fnExactFacesToWrong : ChangeSpec := { name := "fnExactFacesTo", fn := fun _ => fun
  | [d1, d2, d3] => { results := [.lit (.bool false)], args := [d1, d2, d3] }
  | _ => none }
def FnExactFacesToWrongFalsely : Prop := fnExactFacesToRow.holds Try.pinned (OpenSpec.ofChange fnExactFacesToWrong)

/-- 'laws.FnExactLandingsOf': WHATEVER THE INPUT: true; the input reads as it did. -/
def fnExactLandingsOfSpec : ChangeSpec := { name := "fnExactLandingsOf", fn := fun _ => fun
  | [d1, d2] => { results := [.lit (.bool true)], args := [d1, d2] }
  | _ => none }
def fnExactLandingsOfRow : OpenClaim := { program := "ytkobjjadojpjfaa", sum := "097f5b4d5f4d48fb8e1b13342137808f0aaa3f1251cd5b3d404852cdd68483b8", func := "loop.example/g01306/laws.FnExactLandingsOf", spec := "fnExactLandingsOf", unfollowed := true, recurses := true, plainKeys := false, apart := false }
def FnExactLandingsOfSaid : Prop := fnExactLandingsOfRow.holds Try.pinned (OpenSpec.ofChange fnExactLandingsOfSpec)

/-- ITS FALSE NEIGHBOUR: 'it returns false'. Refute it at one input. -/
def fnExactLandingsOfWrong : ChangeSpec := { name := "fnExactLandingsOf", fn := fun _ => fun
  | [d1, d2] => { results := [.lit (.bool false)], args := [d1, d2] }
  | _ => none }
def FnExactLandingsOfWrongFalsely : Prop := fnExactLandingsOfRow.holds Try.pinned (OpenSpec.ofChange fnExactLandingsOfWrong)

/-- 'laws.FnExactPlayThrows': WHATEVER THE INPUT: true; the input reads as it did. -/
def fnExactPlayThrowsSpec : ChangeSpec := { name := "fnExactPlayThrows", fn := fun _ => fun
  | [d1, d2, d3] => { results := [.lit (.bool true)], args := [d1, d2, d3] }
  | _ => none }
def fnExactPlayThrowsRow : OpenClaim := { program := "ytkobjjadojpjfaa", sum := "097f5b4d5f4d48fb8e1b13342137808f0aaa3f1251cd5b3d404852cdd68483b8", func := "loop.example/g01306/laws.FnExactPlayThrows", spec := "fnExactPlayThrows", unfollowed := true, recurses := true, plainKeys := false, apart := false }
def FnExactPlayThrowsSaid : Prop := fnExactPlayThrowsRow.holds Try.pinned (OpenSpec.ofChange fnExactPlayThrowsSpec)

/-- ITS FALSE NEIGHBOUR: 'it returns false'. Refute it at one input. -/
def fnExactPlayThrowsWrong : ChangeSpec := { name := "fnExactPlayThrows", fn := fun _ => fun
  | [d1, d2, d3] => { results := [.lit (.bool false)], args := [d1, d2, d3] }
  | _ => none }
def FnExactPlayThrowsWrongFalsely : Prop := fnExactPlayThrowsRow.holds Try.pinned (OpenSpec.ofChange fnExactPlayThrowsWrong)

/-- 'laws.FnExactOtherRace': WHATEVER THE INPUT: true; the input reads as it did. -/
def fnExactOtherRaceSpec : ChangeSpec := { name := "fnExactOtherRace", fn := fun _ => fun
  | [d] => { results := [.lit (.bool true)], args := [d] }
  | _ => none }
def fnExactOtherRaceRow : OpenClaim := { program := "ytkobjjadojpjfaa", sum := "097f5b4d5f4d48fb8e1b13342137808f0aaa3f1251cd5b3d404852cdd68483b8", func := "loop.example/g01306/laws.FnExactOtherRace", spec := "fnExactOtherRace", unfollowed := true, recurses := true, plainKeys := false, apart := false }
def FnExactOtherRaceSaid : Prop := fnExactOtherRaceRow.holds Try.pinned (OpenSpec.ofChange fnExactOtherRaceSpec)

/-- ITS FALSE NEIGHBOUR: 'it returns false'. Refute it at one input. -/
def fnExactOtherRaceWrong : ChangeSpec := { name := "fnExactOtherRace", fn := fun _ => fun
  | [d] => { results := [.lit (.bool false)], args := [d] }
  | _ => none }
def FnExactOtherRaceWrongFalsely : Prop := fnExactOtherRaceRow.holds Try.pinned (OpenSpec.ofChange fnExactOtherRaceWrong)

/-- 'laws.FnExactAllDone': WHATEVER THE INPUT: true; the input reads as it did. -/
def fnExactAllDoneSpec : ChangeSpec := { name := "fnExactAllDone", fn := fun _ => fun
  | [d1, d2] => { results := [.lit (.bool true)], args := [d1, d2] }
  | _ => none }
def fnExactAllDoneRow : OpenClaim := { program := "ytkobjjadojpjfaa", sum := "097f5b4d5f4d48fb8e1b13342137808f0aaa3f1251cd5b3d404852cdd68483b8", func := "loop.example/g01306/laws.FnExactAllDone", spec := "fnExactAllDone", unfollowed := true, recurses := true, plainKeys := false, apart := false }
def FnExactAllDoneSaid : Prop := fnExactAllDoneRow.holds Try.pinned (OpenSpec.ofChange fnExactAllDoneSpec)

/-- ITS FALSE NEIGHBOUR: 'it returns false'. Refute it at one input. -/
def fnExactAllDoneWrong : ChangeSpec := { name := "fnExactAllDone", fn := fun _ => fun
  | [d1, d2] => { results := [.lit (.bool false)], args := [d1, d2] }
  | _ => none }
def FnExactAllDoneWrongFalsely : Prop := fnExactAllDoneRow.holds Try.pinned (OpenSpec.ofChange fnExactAllDoneWrong)

/-- 'laws.FnExactHalfDone': WHATEVER THE INPUT: true; the input reads as it did. -/
def fnExactHalfDoneSpec : ChangeSpec := { name := "fnExactHalfDone", fn := fun _ => fun
  | [d1, d2] => { results := [.lit (.bool true)], args := [d1, d2] }
  | _ => none }
def fnExactHalfDoneRow : OpenClaim := { program := "ytkobjjadojpjfaa", sum := "097f5b4d5f4d48fb8e1b13342137808f0aaa3f1251cd5b3d404852cdd68483b8", func := "loop.example/g01306/laws.FnExactHalfDone", spec := "fnExactHalfDone", unfollowed := true, recurses := true, plainKeys := false, apart := false }
def FnExactHalfDoneSaid : Prop := fnExactHalfDoneRow.holds Try.pinned (OpenSpec.ofChange fnExactHalfDoneSpec)

/-- ITS FALSE NEIGHBOUR: 'it returns false'. Refute it at one input. -/
def fnExactHalfDoneWrong : ChangeSpec := { name := "fnExactHalfDone", fn := fun _ => fun
  | [d1, d2] => { results := [.lit (.bool false)], args := [d1, d2] }
  | _ => none }
def FnExactHalfDoneWrongFalsely : Prop := fnExactHalfDoneRow.holds Try.pinned (OpenSpec.ofChange fnExactHalfDoneWrong)

/-- 'laws.FnExactPathOfThrows': WHATEVER THE INPUT: true; the input reads as it did. -/
def fnExactPathOfThrowsSpec : ChangeSpec := { name := "fnExactPathOfThrows", fn := fun _ => fun
  | [d1, d2, d3] => { results := [.lit (.bool true)], args := [d1, d2, d3] }
  | _ => none }
def fnExactPathOfThrowsRow : OpenClaim := { program := "ytkobjjadojpjfaa", sum := "097f5b4d5f4d48fb8e1b13342137808f0aaa3f1251cd5b3d404852cdd68483b8", func := "loop.example/g01306/laws.FnExactPathOfThrows", spec := "fnExactPathOfThrows", unfollowed := true, recurses := true, plainKeys := false, apart := false }
def FnExactPathOfThrowsSaid : Prop := fnExactPathOfThrowsRow.holds Try.pinned (OpenSpec.ofChange fnExactPathOfThrowsSpec)

/-- ITS FALSE NEIGHBOUR: 'it returns false'. Refute it at one input. -/
def fnExactPathOfThrowsWrong : ChangeSpec := { name := "fnExactPathOfThrows", fn := fun _ => fun
  | [d1, d2, d3] => { results := [.lit (.bool false)], args := [d1, d2, d3] }
  | _ => none }
def FnExactPathOfThrowsWrongFalsely : Prop := fnExactPathOfThrowsRow.holds Try.pinned (OpenSpec.ofChange fnExactPathOfThrowsWrong)

/-- 'laws.FnExactAheadAfter': WHATEVER THE INPUT: true; the input reads as it did. -/
def fnExactAheadAfterSpec : ChangeSpec := { name := "fnExactAheadAfter", fn := fun _ => fun
  | [d1, d2, d3, d4] => { results := [.lit (.bool true)], args := [d1, d2, d3, d4] }
  | _ => none }
def fnExactAheadAfterRow : OpenClaim := { program := "ytkobjjadojpjfaa", sum := "097f5b4d5f4d48fb8e1b13342137808f0aaa3f1251cd5b3d404852cdd68483b8", func := "loop.example/g01306/laws.FnExactAheadAfter", spec := "fnExactAheadAfter", unfollowed := true, recurses := true, plainKeys := false, apart := false }
def FnExactAheadAfterSaid : Prop := fnExactAheadAfterRow.holds Try.pinned (OpenSpec.ofChange fnExactAheadAfterSpec)

/-- ITS FALSE NEIGHBOUR: 'it returns false'. Refute it at one input. -/
def fnExactAheadAfterWrong : ChangeSpec := { name := "fnExactAheadAfter", fn := fun _ => fun
  | [d1, d2, d3, d4] => { results := [.lit (.bool false)], args := [d1, d2, d3, d4] }
  | _ => none }
def FnExactAheadAfterWrongFalsely : Prop := fnExactAheadAfterRow.holds Try.pinned (OpenSpec.ofChange fnExactAheadAfterWrong)

/-- 'laws.FnExactReachedFrom': WHATEVER THE INPUT: true; the input reads as it did. -/
def fnExactReachedFromSpec : ChangeSpec := { name := "fnExactReachedFrom", fn := fun _ => fun
  | [d1, d2] => { results := [.lit (.bool true)], args := [d1, d2] }
  | _ => none }
def fnExactReachedFromRow : OpenClaim := { program := "ytkobjjadojpjfaa", sum := "097f5b4d5f4d48fb8e1b13342137808f0aaa3f1251cd5b3d404852cdd68483b8", func := "loop.example/g01306/laws.FnExactReachedFrom", spec := "fnExactReachedFrom", unfollowed := true, recurses := true, plainKeys := false, apart := false }
def FnExactReachedFromSaid : Prop := fnExactReachedFromRow.holds Try.pinned (OpenSpec.ofChange fnExactReachedFromSpec)

/-- ITS FALSE NEIGHBOUR: 'it returns false'. Refute it at one input. -/
def fnExactReachedFromWrong : ChangeSpec := { name := "fnExactReachedFrom", fn := fun _ => fun
  | [d1, d2] => { results := [.lit (.bool false)], args := [d1, d2] }
  | _ => none }
def FnExactReachedFromWrongFalsely : Prop := fnExactReachedFromRow.holds Try.pinned (OpenSpec.ofChange fnExactReachedFromWrong)

/-- 'laws.FnExactPlacesAfter': WHATEVER THE INPUT: true; the input reads as it did. -/
def fnExactPlacesAfterSpec : ChangeSpec := { name := "fnExactPlacesAfter", fn := fun _ => fun
  | [d1, d2, d3] => { results := [.lit (.bool true)], args := [d1, d2, d3] }
  | _ => none }
def fnExactPlacesAfterRow : OpenClaim := { program := "ytkobjjadojpjfaa", sum := "097f5b4d5f4d48fb8e1b13342137808f0aaa3f1251cd5b3d404852cdd68483b8", func := "loop.example/g01306/laws.FnExactPlacesAfter", spec := "fnExactPlacesAfter", unfollowed := true, recurses := true, plainKeys := false, apart := false }
def FnExactPlacesAfterSaid : Prop := fnExactPlacesAfterRow.holds Try.pinned (OpenSpec.ofChange fnExactPlacesAfterSpec)

/-- ITS FALSE NEIGHBOUR: 'it returns false'. Refute it at one input. -/
def fnExactPlacesAfterWrong : ChangeSpec := { name := "fnExactPlacesAfter", fn := fun _ => fun
  | [d1, d2, d3] => { results := [.lit (.bool false)], args := [d1, d2, d3] }
  | _ => none }
def FnExactPlacesAfterWrongFalsely : Prop := fnExactPlacesAfterRow.holds Try.pinned (OpenSpec.ofChange fnExactPlacesAfterWrong)

/-- 'laws.FnExactDoneTable': WHATEVER THE INPUT: true; the input reads as it did. -/
def fnExactDoneTableSpec : ChangeSpec := { name := "fnExactDoneTable", fn := fun _ => fun
  | [d1, d2, d3] => { results := [.lit (.bool true)], args := [d1, d2, d3] }
  | _ => none }
def fnExactDoneTableRow : OpenClaim := { program := "ytkobjjadojpjfaa", sum := "097f5b4d5f4d48fb8e1b13342137808f0aaa3f1251cd5b3d404852cdd68483b8", func := "loop.example/g01306/laws.FnExactDoneTable", spec := "fnExactDoneTable", unfollowed := true, recurses := true, plainKeys := false, apart := false }
def FnExactDoneTableSaid : Prop := fnExactDoneTableRow.holds Try.pinned (OpenSpec.ofChange fnExactDoneTableSpec)

/-- ITS FALSE NEIGHBOUR: 'it returns false'. Refute it at one input. -/
def fnExactDoneTableWrong : ChangeSpec := { name := "fnExactDoneTable", fn := fun _ => fun
  | [d1, d2, d3] => { results := [.lit (.bool false)], args := [d1, d2, d3] }
  | _ => none }
def FnExactDoneTableWrongFalsely : Prop := fnExactDoneTableRow.holds Try.pinned (OpenSpec.ofChange fnExactDoneTableWrong)

/-- 'laws.FnExactFewestThrows': WHATEVER THE INPUT: true; the input reads as it did. -/
def fnExactFewestThrowsSpec : ChangeSpec := { name := "fnExactFewestThrows", fn := fun _ => fun
  | [d1, d2] => { results := [.lit (.bool true)], args := [d1, d2] }
  | _ => none }
def fnExactFewestThrowsRow : OpenClaim := { program := "ytkobjjadojpjfaa", sum := "097f5b4d5f4d48fb8e1b13342137808f0aaa3f1251cd5b3d404852cdd68483b8", func := "loop.example/g01306/laws.FnExactFewestThrows", spec := "fnExactFewestThrows", unfollowed := true, recurses := true, plainKeys := false, apart := false }
def FnExactFewestThrowsSaid : Prop := fnExactFewestThrowsRow.holds Try.pinned (OpenSpec.ofChange fnExactFewestThrowsSpec)

/-- ITS FALSE NEIGHBOUR: 'it returns false'. Refute it at one input. -/
def fnExactFewestThrowsWrong : ChangeSpec := { name := "fnExactFewestThrows", fn := fun _ => fun
  | [d1, d2] => { results := [.lit (.bool false)], args := [d1, d2] }
  | _ => none }
def FnExactFewestThrowsWrongFalsely : Prop := fnExactFewestThrowsRow.holds Try.pinned (OpenSpec.ofChange fnExactFewestThrowsWrong)

/-- 'laws.FnExactLikeliestAt': WHATEVER THE INPUT: true; the input reads as it did. -/
def fnExactLikeliestAtSpec : ChangeSpec := { name := "fnExactLikeliestAt", fn := fun _ => fun
  | [d1, d2, d3] => { results := [.lit (.bool true)], args := [d1, d2, d3] }
  | _ => none }
def fnExactLikeliestAtRow : OpenClaim := { program := "ytkobjjadojpjfaa", sum := "097f5b4d5f4d48fb8e1b13342137808f0aaa3f1251cd5b3d404852cdd68483b8", func := "loop.example/g01306/laws.FnExactLikeliestAt", spec := "fnExactLikeliestAt", unfollowed := true, recurses := true, plainKeys := false, apart := false }
def FnExactLikeliestAtSaid : Prop := fnExactLikeliestAtRow.holds Try.pinned (OpenSpec.ofChange fnExactLikeliestAtSpec)

/-- ITS FALSE NEIGHBOUR: 'it returns false'. Refute it at one input. -/
def fnExactLikeliestAtWrong : ChangeSpec := { name := "fnExactLikeliestAt", fn := fun _ => fun
  | [d1, d2, d3] => { results := [.lit (.bool false)], args := [d1, d2, d3] }
  | _ => none }
def FnExactLikeliestAtWrongFalsely : Prop := fnExactLikeliestAtRow.holds Try.pinned (OpenSpec.ofChange fnExactLikeliestAtWrong)

/-- 'laws.FnExactHopelessSquares': WHATEVER THE INPUT: true; the input reads as it did. -/
def fnExactHopelessSquaresSpec : ChangeSpec := { name := "fnExactHopelessSquares", fn := fun _ => fun
  | [d] => { results := [.lit (.bool true)], args := [d] }
  | _ => none }
def fnExactHopelessSquaresRow : OpenClaim := { program := "ytkobjjadojpjfaa", sum := "097f5b4d5f4d48fb8e1b13342137808f0aaa3f1251cd5b3d404852cdd68483b8", func := "loop.example/g01306/laws.FnExactHopelessSquares", spec := "fnExactHopelessSquares", plainKeys := false, apart := false }
def FnExactHopelessSquaresSaid : Prop := fnExactHopelessSquaresRow.holds Try.pinned (OpenSpec.ofChange fnExactHopelessSquaresSpec)

/-- ITS FALSE NEIGHBOUR: 'it returns false'. Refute it at one input. -/
def fnExactHopelessSquaresWrong : ChangeSpec := { name := "fnExactHopelessSquares", fn := fun _ => fun
  | [d] => { results := [.lit (.bool false)], args := [d] }
  | _ => none }
def FnExactHopelessSquaresWrongFalsely : Prop := fnExactHopelessSquaresRow.holds Try.pinned (OpenSpec.ofChange fnExactHopelessSquaresWrong)

/-- 'laws.FnExactHasMean': WHATEVER THE INPUT: true; the input reads as it did. -/
def fnExactHasMeanSpec : ChangeSpec := { name := "fnExactHasMean", fn := fun _ => fun
  | [d1, d2] => { results := [.lit (.bool true)], args := [d1, d2] }
  | _ => none }
def fnExactHasMeanRow : OpenClaim := { program := "ytkobjjadojpjfaa", sum := "097f5b4d5f4d48fb8e1b13342137808f0aaa3f1251cd5b3d404852cdd68483b8", func := "loop.example/g01306/laws.FnExactHasMean", spec := "fnExactHasMean", unfollowed := true, recurses := true, plainKeys := false, apart := false }
def FnExactHasMeanSaid : Prop := fnExactHasMeanRow.holds Try.pinned (OpenSpec.ofChange fnExactHasMeanSpec)

/-- ITS FALSE NEIGHBOUR: 'it returns false'. Refute it at one input. -/
def fnExactHasMeanWrong : ChangeSpec := { name := "fnExactHasMean", fn := fun _ => fun
  | [d1, d2] => { results := [.lit (.bool false)], args := [d1, d2] }
  | _ => none }
def FnExactHasMeanWrongFalsely : Prop := fnExactHasMeanRow.holds Try.pinned (OpenSpec.ofChange fnExactHasMeanWrong)

/-- 'laws.FnExactCountFewest': WHATEVER THE INPUT: true; the input reads as it did. -/
def fnExactCountFewestSpec : ChangeSpec := { name := "fnExactCountFewest", fn := fun _ => fun
  | [d1, d2] => { results := [.lit (.bool true)], args := [d1, d2] }
  | _ => none }
def fnExactCountFewestRow : OpenClaim := { program := "ytkobjjadojpjfaa", sum := "097f5b4d5f4d48fb8e1b13342137808f0aaa3f1251cd5b3d404852cdd68483b8", func := "loop.example/g01306/laws.FnExactCountFewest", spec := "fnExactCountFewest", unfollowed := true, recurses := true, plainKeys := false, apart := false }
def FnExactCountFewestSaid : Prop := fnExactCountFewestRow.holds Try.pinned (OpenSpec.ofChange fnExactCountFewestSpec)

/-- ITS FALSE NEIGHBOUR: 'it returns false'. Refute it at one input. -/
def fnExactCountFewestWrong : ChangeSpec := { name := "fnExactCountFewest", fn := fun _ => fun
  | [d1, d2] => { results := [.lit (.bool false)], args := [d1, d2] }
  | _ => none }
def FnExactCountFewestWrongFalsely : Prop := fnExactCountFewestRow.holds Try.pinned (OpenSpec.ofChange fnExactCountFewestWrong)

/-- 'laws.FnExactWinsAt': WHATEVER THE INPUT: true; the input reads as it did. -/
def fnExactWinsAtSpec : ChangeSpec := { name := "fnExactWinsAt", fn := fun _ => fun
  | [d1, d2, d3] => { results := [.lit (.bool true)], args := [d1, d2, d3] }
  | _ => none }
def fnExactWinsAtRow : OpenClaim := { program := "ytkobjjadojpjfaa", sum := "097f5b4d5f4d48fb8e1b13342137808f0aaa3f1251cd5b3d404852cdd68483b8", func := "loop.example/g01306/laws.FnExactWinsAt", spec := "fnExactWinsAt", unfollowed := true, recurses := true, plainKeys := false, apart := false }
def FnExactWinsAtSaid : Prop := fnExactWinsAtRow.holds Try.pinned (OpenSpec.ofChange fnExactWinsAtSpec)

/-- ITS FALSE NEIGHBOUR: 'it returns false'. Refute it at one input. -/
def fnExactWinsAtWrong : ChangeSpec := { name := "fnExactWinsAt", fn := fun _ => fun
  | [d1, d2, d3] => { results := [.lit (.bool false)], args := [d1, d2, d3] }
  | _ => none }
def FnExactWinsAtWrongFalsely : Prop := fnExactWinsAtRow.holds Try.pinned (OpenSpec.ofChange fnExactWinsAtWrong)

/-- 'laws.FnExactTurnJumps': WHATEVER THE INPUT: true; the input reads as it did. -/
def fnExactTurnJumpsSpec : ChangeSpec := { name := "fnExactTurnJumps", fn := fun _ => fun
  | [d] => { results := [.lit (.bool true)], args := [d] }
  | _ => none }
def fnExactTurnJumpsRow : OpenClaim := { program := "ytkobjjadojpjfaa", sum := "097f5b4d5f4d48fb8e1b13342137808f0aaa3f1251cd5b3d404852cdd68483b8", func := "loop.example/g01306/laws.FnExactTurnJumps", spec := "fnExactTurnJumps", unfollowed := true, recurses := true, plainKeys := false, apart := false }
def FnExactTurnJumpsSaid : Prop := fnExactTurnJumpsRow.holds Try.pinned (OpenSpec.ofChange fnExactTurnJumpsSpec)

/-- ITS FALSE NEIGHBOUR: 'it returns false'. Refute it at one input. -/
def fnExactTurnJumpsWrong : ChangeSpec := { name := "fnExactTurnJumps", fn := fun _ => fun
  | [d] => { results := [.lit (.bool false)], args := [d] }
  | _ => none }
def FnExactTurnJumpsWrongFalsely : Prop := fnExactTurnJumpsRow.holds Try.pinned (OpenSpec.ofChange fnExactTurnJumpsWrong)

/-- 'laws.FnExactAddJump': WHATEVER THE INPUT: true; the input reads as it did. -/
def fnExactAddJumpSpec : ChangeSpec := { name := "fnExactAddJump", fn := fun _ => fun
  | [d1, d2] => { results := [.lit (.bool true)], args := [d1, d2] }
  | _ => none }
def fnExactAddJumpRow : OpenClaim := { program := "ytkobjjadojpjfaa", sum := "097f5b4d5f4d48fb8e1b13342137808f0aaa3f1251cd5b3d404852cdd68483b8", func := "loop.example/g01306/laws.FnExactAddJump", spec := "fnExactAddJump", unfollowed := true, recurses := true, plainKeys := false, apart := false }
def FnExactAddJumpSaid : Prop := fnExactAddJumpRow.holds Try.pinned (OpenSpec.ofChange fnExactAddJumpSpec)

/-- ITS FALSE NEIGHBOUR: 'it returns false'. Refute it at one input. -/
def fnExactAddJumpWrong : ChangeSpec := { name := "fnExactAddJump", fn := fun _ => fun
  | [d1, d2] => { results := [.lit (.bool false)], args := [d1, d2] }
  | _ => none }
def FnExactAddJumpWrongFalsely : Prop := fnExactAddJumpRow.holds Try.pinned (OpenSpec.ofChange fnExactAddJumpWrong)

/-- 'laws.FnExactFirstThrows': WHATEVER THE INPUT: true; the input reads as it did. -/
def fnExactFirstThrowsSpec : ChangeSpec := { name := "fnExactFirstThrows", fn := fun _ => fun
  | [d1, d2] => { results := [.lit (.bool true)], args := [d1, d2] }
  | _ => none }
def fnExactFirstThrowsRow : OpenClaim := { program := "ytkobjjadojpjfaa", sum := "097f5b4d5f4d48fb8e1b13342137808f0aaa3f1251cd5b3d404852cdd68483b8", func := "loop.example/g01306/laws.FnExactFirstThrows", spec := "fnExactFirstThrows", unfollowed := true, recurses := true, plainKeys := false, apart := false }
def FnExactFirstThrowsSaid : Prop := fnExactFirstThrowsRow.holds Try.pinned (OpenSpec.ofChange fnExactFirstThrowsSpec)

/-- ITS FALSE NEIGHBOUR: 'it returns false'. Refute it at one input. -/
def fnExactFirstThrowsWrong : ChangeSpec := { name := "fnExactFirstThrows", fn := fun _ => fun
  | [d1, d2] => { results := [.lit (.bool false)], args := [d1, d2] }
  | _ => none }
def FnExactFirstThrowsWrongFalsely : Prop := fnExactFirstThrowsRow.holds Try.pinned (OpenSpec.ofChange fnExactFirstThrowsWrong)

/-- 'laws.FnExactCountRaced': WHATEVER THE INPUT: true; the input reads as it did. -/
def fnExactCountRacedSpec : ChangeSpec := { name := "fnExactCountRaced", fn := fun _ => fun
  | [d] => { results := [.lit (.bool true)], args := [d] }
  | _ => none }
def fnExactCountRacedRow : OpenClaim := { program := "ytkobjjadojpjfaa", sum := "097f5b4d5f4d48fb8e1b13342137808f0aaa3f1251cd5b3d404852cdd68483b8", func := "loop.example/g01306/laws.FnExactCountRaced", spec := "fnExactCountRaced", unfollowed := true, recurses := true, plainKeys := false, apart := false }
def FnExactCountRacedSaid : Prop := fnExactCountRacedRow.holds Try.pinned (OpenSpec.ofChange fnExactCountRacedSpec)

/-- ITS FALSE NEIGHBOUR: 'it returns false'. Refute it at one input. -/
def fnExactCountRacedWrong : ChangeSpec := { name := "fnExactCountRaced", fn := fun _ => fun
  | [d] => { results := [.lit (.bool false)], args := [d] }
  | _ => none }
def FnExactCountRacedWrongFalsely : Prop := fnExactCountRacedRow.holds Try.pinned (OpenSpec.ofChange fnExactCountRacedWrong)

/-- 'laws.FnExactDropJump': WHATEVER THE INPUT: true; the input reads as it did. -/
def fnExactDropJumpSpec : ChangeSpec := { name := "fnExactDropJump", fn := fun _ => fun
  | [d1, d2] => { results := [.lit (.bool true)], args := [d1, d2] }
  | _ => none }
def fnExactDropJumpRow : OpenClaim := { program := "ytkobjjadojpjfaa", sum := "097f5b4d5f4d48fb8e1b13342137808f0aaa3f1251cd5b3d404852cdd68483b8", func := "loop.example/g01306/laws.FnExactDropJump", spec := "fnExactDropJump", unfollowed := true, recurses := true, plainKeys := false, apart := false }
def FnExactDropJumpSaid : Prop := fnExactDropJumpRow.holds Try.pinned (OpenSpec.ofChange fnExactDropJumpSpec)

/-- ITS FALSE NEIGHBOUR: 'it returns false'. Refute it at one input. -/
def fnExactDropJumpWrong : ChangeSpec := { name := "fnExactDropJump", fn := fun _ => fun
  | [d1, d2] => { results := [.lit (.bool false)], args := [d1, d2] }
  | _ => none }
def FnExactDropJumpWrongFalsely : Prop := fnExactDropJumpRow.holds Try.pinned (OpenSpec.ofChange fnExactDropJumpWrong)

/-- 'laws.FnExactCanWin': WHATEVER THE INPUT: true; the input reads as it did. -/
def fnExactCanWinSpec : ChangeSpec := { name := "fnExactCanWin", fn := fun _ => fun
  | [d1, d2] => { results := [.lit (.bool true)], args := [d1, d2] }
  | _ => none }
def fnExactCanWinRow : OpenClaim := { program := "ytkobjjadojpjfaa", sum := "097f5b4d5f4d48fb8e1b13342137808f0aaa3f1251cd5b3d404852cdd68483b8", func := "loop.example/g01306/laws.FnExactCanWin", spec := "fnExactCanWin", unfollowed := true, recurses := true, plainKeys := false, apart := false }
def FnExactCanWinSaid : Prop := fnExactCanWinRow.holds Try.pinned (OpenSpec.ofChange fnExactCanWinSpec)

/-- ITS FALSE NEIGHBOUR: 'it returns false'. Refute it at one input. -/
def fnExactCanWinWrong : ChangeSpec := { name := "fnExactCanWin", fn := fun _ => fun
  | [d1, d2] => { results := [.lit (.bool false)], args := [d1, d2] }
  | _ => none }
def FnExactCanWinWrongFalsely : Prop := fnExactCanWinRow.holds Try.pinned (OpenSpec.ofChange fnExactCanWinWrong)

/-- 'laws.FnExactShortestWin': WHATEVER THE INPUT: true; the input reads as it did. -/
def fnExactShortestWinSpec : ChangeSpec := { name := "fnExactShortestWin", fn := fun _ => fun
  | [d1, d2] => { results := [.lit (.bool true)], args := [d1, d2] }
  | _ => none }
def fnExactShortestWinRow : OpenClaim := { program := "ytkobjjadojpjfaa", sum := "097f5b4d5f4d48fb8e1b13342137808f0aaa3f1251cd5b3d404852cdd68483b8", func := "loop.example/g01306/laws.FnExactShortestWin", spec := "fnExactShortestWin", unfollowed := true, recurses := true, plainKeys := false, apart := false }
def FnExactShortestWinSaid : Prop := fnExactShortestWinRow.holds Try.pinned (OpenSpec.ofChange fnExactShortestWinSpec)

/-- ITS FALSE NEIGHBOUR: 'it returns false'. Refute it at one input. -/
def fnExactShortestWinWrong : ChangeSpec := { name := "fnExactShortestWin", fn := fun _ => fun
  | [d1, d2] => { results := [.lit (.bool false)], args := [d1, d2] }
  | _ => none }
def FnExactShortestWinWrongFalsely : Prop := fnExactShortestWinRow.holds Try.pinned (OpenSpec.ofChange fnExactShortestWinWrong)

/-- 'laws.FnExactWinsAfter': WHATEVER THE INPUT: true; the input reads as it did. -/
def fnExactWinsAfterSpec : ChangeSpec := { name := "fnExactWinsAfter", fn := fun _ => fun
  | [d1, d2] => { results := [.lit (.bool true)], args := [d1, d2] }
  | _ => none }
def fnExactWinsAfterRow : OpenClaim := { program := "ytkobjjadojpjfaa", sum := "097f5b4d5f4d48fb8e1b13342137808f0aaa3f1251cd5b3d404852cdd68483b8", func := "loop.example/g01306/laws.FnExactWinsAfter", spec := "fnExactWinsAfter", unfollowed := true, recurses := true, plainKeys := false, apart := false }
def FnExactWinsAfterSaid : Prop := fnExactWinsAfterRow.holds Try.pinned (OpenSpec.ofChange fnExactWinsAfterSpec)

/-- ITS FALSE NEIGHBOUR: 'it returns false'. Refute it at one input. -/
def fnExactWinsAfterWrong : ChangeSpec := { name := "fnExactWinsAfter", fn := fun _ => fun
  | [d1, d2] => { results := [.lit (.bool false)], args := [d1, d2] }
  | _ => none }
def FnExactWinsAfterWrongFalsely : Prop := fnExactWinsAfterRow.holds Try.pinned (OpenSpec.ofChange fnExactWinsAfterWrong)

/-- 'laws.FnExactRaceAhead': WHATEVER THE INPUT: true; the input reads as it did. -/
def fnExactRaceAheadSpec : ChangeSpec := { name := "fnExactRaceAhead", fn := fun _ => fun
  | [d1, d2] => { results := [.lit (.bool true)], args := [d1, d2] }
  | _ => none }
def fnExactRaceAheadRow : OpenClaim := { program := "ytkobjjadojpjfaa", sum := "097f5b4d5f4d48fb8e1b13342137808f0aaa3f1251cd5b3d404852cdd68483b8", func := "loop.example/g01306/laws.FnExactRaceAhead", spec := "fnExactRaceAhead", unfollowed := true, recurses := true, plainKeys := false, apart := false }
def FnExactRaceAheadSaid : Prop := fnExactRaceAheadRow.holds Try.pinned (OpenSpec.ofChange fnExactRaceAheadSpec)

/-- ITS FALSE NEIGHBOUR: 'it returns false'. Refute it at one input. -/
def fnExactRaceAheadWrong : ChangeSpec := { name := "fnExactRaceAhead", fn := fun _ => fun
  | [d1, d2] => { results := [.lit (.bool false)], args := [d1, d2] }
  | _ => none }
def FnExactRaceAheadWrongFalsely : Prop := fnExactRaceAheadRow.holds Try.pinned (OpenSpec.ofChange fnExactRaceAheadWrong)

/-- 'laws.FnExactFirstWin': WHATEVER THE INPUT: true; the input reads as it did. -/
def fnExactFirstWinSpec : ChangeSpec := { name := "fnExactFirstWin", fn := fun _ => fun
  | [d1, d2] => { results := [.lit (.bool true)], args := [d1, d2] }
  | _ => none }
def fnExactFirstWinRow : OpenClaim := { program := "ytkobjjadojpjfaa", sum := "097f5b4d5f4d48fb8e1b13342137808f0aaa3f1251cd5b3d404852cdd68483b8", func := "loop.example/g01306/laws.FnExactFirstWin", spec := "fnExactFirstWin", unfollowed := true, recurses := true, plainKeys := false, apart := false }
def FnExactFirstWinSaid : Prop := fnExactFirstWinRow.holds Try.pinned (OpenSpec.ofChange fnExactFirstWinSpec)

/-- ITS FALSE NEIGHBOUR: 'it returns false'. Refute it at one input. -/
def fnExactFirstWinWrong : ChangeSpec := { name := "fnExactFirstWin", fn := fun _ => fun
  | [d1, d2] => { results := [.lit (.bool false)], args := [d1, d2] }
  | _ => none }
def FnExactFirstWinWrongFalsely : Prop := fnExactFirstWinRow.holds Try.pinned (OpenSpec.ofChange fnExactFirstWinWrong)

/- THE SECOND FORM. 'bulk': how many values and letters a reading holds, each counted each time it is reached (what is shared counts as often as it is met; a slice's spare places count too). A statement '..UptoSaid' is the law's where the arguments, and the package variables that the reading takes, are together of bulk at most 1048576: NARROWER than '..Said'. Prove '..Said' where nothing that the law and all that it calls make is longer than what came in: it says more and counts as full. Else prove '..UptoSaid'. A law counts once. -/
mutual
def uptoBulk {H : Type} : DataW H → Nat
  | .lit (.string bytes) => bytes.length + 1
  | .lit _ => 1
  | .nil => 1
  | .ptr d => uptoBulk d + 1
  | .slice elems spare => uptoBulkAll elems + uptoBulkAll spare + 1
  | .agg parts => uptoBulkAll parts + 1
  | .iface _ d => uptoBulk d + 1
  | .map entries => uptoBulkEntries entries + 1
  | .held _ => 1
def uptoBulkAll {H : Type} : List (DataW H) → Nat
  | [] => 0
  | d :: r => uptoBulk d + uptoBulkAll r
def uptoBulkEntries {H : Type} : List (Lit × DataW H) → Nat
  | [] => 0
  | x :: r => uptoBulkEntry x + uptoBulkEntries r
def uptoBulkEntry {H : Type} : Lit × DataW H → Nat
  | (.string bytes, d) => bytes.length + uptoBulk d + 1
  | (_, d) => uptoBulk d + 1
 end
def uptoSmall : (H : Type) → List (DataW H) → Bool := fun _ ds => decide (uptoBulkAll ds ≤ 1048576)
def OpenSpec.upto (s : _root_.Go.ChangeSpec) : _root_.Go.OpenSpec := { _root_.Go.OpenSpec.ofChange s with cond := some uptoSmall }

/-- 'laws.FnExactBestLadder', WHERE WHAT IT READS IS OF BULK AT MOST 1048576: true; the input reads as it did. -/
def fnExactBestLadderUptoRow : OpenClaim := { program := "ytkobjjadojpjfaa", sum := "097f5b4d5f4d48fb8e1b13342137808f0aaa3f1251cd5b3d404852cdd68483b8", func := "loop.example/g01306/laws.FnExactBestLadder", spec := "fnExactBestLadder", unfollowed := true, recurses := true, plainKeys := false, apart := false, narrowed := true }
def FnExactBestLadderUptoSaid : Prop := fnExactBestLadderUptoRow.holds Try.pinned (OpenSpec.upto fnExactBestLadderSpec)

/-- 'laws.FnExactIsBoard', WHERE WHAT IT READS IS OF BULK AT MOST 1048576: true; the input reads as it did. -/
def fnExactIsBoardUptoRow : OpenClaim := { program := "ytkobjjadojpjfaa", sum := "097f5b4d5f4d48fb8e1b13342137808f0aaa3f1251cd5b3d404852cdd68483b8", func := "loop.example/g01306/laws.FnExactIsBoard", spec := "fnExactIsBoard", plainKeys := false, apart := false, narrowed := true }
def FnExactIsBoardUptoSaid : Prop := fnExactIsBoardUptoRow.holds Try.pinned (OpenSpec.upto fnExactIsBoardSpec)

/-- 'laws.FnExactPlainBoard', WHERE WHAT IT READS IS OF BULK AT MOST 1048576: true; the input reads as it did. -/
def fnExactPlainBoardUptoRow : OpenClaim := { program := "ytkobjjadojpjfaa", sum := "097f5b4d5f4d48fb8e1b13342137808f0aaa3f1251cd5b3d404852cdd68483b8", func := "loop.example/g01306/laws.FnExactPlainBoard", spec := "fnExactPlainBoard", plainKeys := false, apart := false, narrowed := true }
def FnExactPlainBoardUptoSaid : Prop := fnExactPlainBoardUptoRow.holds Try.pinned (OpenSpec.upto fnExactPlainBoardSpec)

/-- 'laws.FnExactIsRace', WHERE WHAT IT READS IS OF BULK AT MOST 1048576: true; the input reads as it did. -/
def fnExactIsRaceUptoRow : OpenClaim := { program := "ytkobjjadojpjfaa", sum := "097f5b4d5f4d48fb8e1b13342137808f0aaa3f1251cd5b3d404852cdd68483b8", func := "loop.example/g01306/laws.FnExactIsRace", spec := "fnExactIsRace", unfollowed := true, recurses := true, plainKeys := false, apart := false, narrowed := true }
def FnExactIsRaceUptoSaid : Prop := fnExactIsRaceUptoRow.holds Try.pinned (OpenSpec.upto fnExactIsRaceSpec)

/-- 'laws.FnExactThrowTo', WHERE WHAT IT READS IS OF BULK AT MOST 1048576: true; the input reads as it did. -/
def fnExactThrowToUptoRow : OpenClaim := { program := "ytkobjjadojpjfaa", sum := "097f5b4d5f4d48fb8e1b13342137808f0aaa3f1251cd5b3d404852cdd68483b8", func := "loop.example/g01306/laws.FnExactThrowTo", spec := "fnExactThrowTo", unfollowed := true, recurses := true, plainKeys := false, apart := false, narrowed := true }
def FnExactThrowToUptoSaid : Prop := fnExactThrowToUptoRow.holds Try.pinned (OpenSpec.upto fnExactThrowToSpec)

/-- 'laws.FnExactLaddersOf', WHERE WHAT IT READS IS OF BULK AT MOST 1048576: true; the input reads as it did. -/
def fnExactLaddersOfUptoRow : OpenClaim := { program := "ytkobjjadojpjfaa", sum := "097f5b4d5f4d48fb8e1b13342137808f0aaa3f1251cd5b3d404852cdd68483b8", func := "loop.example/g01306/laws.FnExactLaddersOf", spec := "fnExactLaddersOf", unfollowed := true, recurses := true, plainKeys := false, apart := false, narrowed := true }
def FnExactLaddersOfUptoSaid : Prop := fnExactLaddersOfUptoRow.holds Try.pinned (OpenSpec.upto fnExactLaddersOfSpec)

/-- 'laws.FnExactSnakesOf', WHERE WHAT IT READS IS OF BULK AT MOST 1048576: true; the input reads as it did. -/
def fnExactSnakesOfUptoRow : OpenClaim := { program := "ytkobjjadojpjfaa", sum := "097f5b4d5f4d48fb8e1b13342137808f0aaa3f1251cd5b3d404852cdd68483b8", func := "loop.example/g01306/laws.FnExactSnakesOf", spec := "fnExactSnakesOf", unfollowed := true, recurses := true, plainKeys := false, apart := false, narrowed := true }
def FnExactSnakesOfUptoSaid : Prop := fnExactSnakesOfUptoRow.holds Try.pinned (OpenSpec.upto fnExactSnakesOfSpec)

/-- 'laws.FnExactFacesTo', WHERE WHAT IT READS IS OF BULK AT MOST 1048576: true; the input reads as it did. -/
def fnExactFacesToUptoRow : OpenClaim := { program := "ytkobjjadojpjfaa", sum := "097f5b4d5f4d48fb8e1b13342137808f0aaa3f1251cd5b3d404852cdd68483b8", func := "loop.example/g01306/laws.FnExactFacesTo", spec := "fnExactFacesTo", unfollowed := true, recurses := true, plainKeys := false, apart := false, narrowed := true }
def FnExactFacesToUptoSaid : Prop := fnExactFacesToUptoRow.holds Try.pinned (OpenSpec.upto fnExactFacesToSpec)

/-- 'laws.FnExactLandingsOf', WHERE WHAT IT READS IS OF BULK AT MOST 1048576: true; the input reads as it did. -/
def fnExactLandingsOfUptoRow : OpenClaim := { program := "ytkobjjadojpjfaa", sum := "097f5b4d5f4d48fb8e1b13342137808f0aaa3f1251cd5b3d404852cdd68483b8", func := "loop.example/g01306/laws.FnExactLandingsOf", spec := "fnExactLandingsOf", unfollowed := true, recurses := true, plainKeys := false, apart := false, narrowed := true }
def FnExactLandingsOfUptoSaid : Prop := fnExactLandingsOfUptoRow.holds Try.pinned (OpenSpec.upto fnExactLandingsOfSpec)

/-- 'laws.FnExactPlayThrows', WHERE WHAT IT READS IS OF BULK AT MOST 1048576: true; the input reads as it did. -/
def fnExactPlayThrowsUptoRow : OpenClaim := { program := "ytkobjjadojpjfaa", sum := "097f5b4d5f4d48fb8e1b13342137808f0aaa3f1251cd5b3d404852cdd68483b8", func := "loop.example/g01306/laws.FnExactPlayThrows", spec := "fnExactPlayThrows", unfollowed := true, recurses := true, plainKeys := false, apart := false, narrowed := true }
def FnExactPlayThrowsUptoSaid : Prop := fnExactPlayThrowsUptoRow.holds Try.pinned (OpenSpec.upto fnExactPlayThrowsSpec)

/-- 'laws.FnExactOtherRace', WHERE WHAT IT READS IS OF BULK AT MOST 1048576: true; the input reads as it did. -/
def fnExactOtherRaceUptoRow : OpenClaim := { program := "ytkobjjadojpjfaa", sum := "097f5b4d5f4d48fb8e1b13342137808f0aaa3f1251cd5b3d404852cdd68483b8", func := "loop.example/g01306/laws.FnExactOtherRace", spec := "fnExactOtherRace", unfollowed := true, recurses := true, plainKeys := false, apart := false, narrowed := true }
def FnExactOtherRaceUptoSaid : Prop := fnExactOtherRaceUptoRow.holds Try.pinned (OpenSpec.upto fnExactOtherRaceSpec)

/-- 'laws.FnExactAllDone', WHERE WHAT IT READS IS OF BULK AT MOST 1048576: true; the input reads as it did. -/
def fnExactAllDoneUptoRow : OpenClaim := { program := "ytkobjjadojpjfaa", sum := "097f5b4d5f4d48fb8e1b13342137808f0aaa3f1251cd5b3d404852cdd68483b8", func := "loop.example/g01306/laws.FnExactAllDone", spec := "fnExactAllDone", unfollowed := true, recurses := true, plainKeys := false, apart := false, narrowed := true }
def FnExactAllDoneUptoSaid : Prop := fnExactAllDoneUptoRow.holds Try.pinned (OpenSpec.upto fnExactAllDoneSpec)

/-- 'laws.FnExactHalfDone', WHERE WHAT IT READS IS OF BULK AT MOST 1048576: true; the input reads as it did. -/
def fnExactHalfDoneUptoRow : OpenClaim := { program := "ytkobjjadojpjfaa", sum := "097f5b4d5f4d48fb8e1b13342137808f0aaa3f1251cd5b3d404852cdd68483b8", func := "loop.example/g01306/laws.FnExactHalfDone", spec := "fnExactHalfDone", unfollowed := true, recurses := true, plainKeys := false, apart := false, narrowed := true }
def FnExactHalfDoneUptoSaid : Prop := fnExactHalfDoneUptoRow.holds Try.pinned (OpenSpec.upto fnExactHalfDoneSpec)

/-- 'laws.FnExactPathOfThrows', WHERE WHAT IT READS IS OF BULK AT MOST 1048576: true; the input reads as it did. -/
def fnExactPathOfThrowsUptoRow : OpenClaim := { program := "ytkobjjadojpjfaa", sum := "097f5b4d5f4d48fb8e1b13342137808f0aaa3f1251cd5b3d404852cdd68483b8", func := "loop.example/g01306/laws.FnExactPathOfThrows", spec := "fnExactPathOfThrows", unfollowed := true, recurses := true, plainKeys := false, apart := false, narrowed := true }
def FnExactPathOfThrowsUptoSaid : Prop := fnExactPathOfThrowsUptoRow.holds Try.pinned (OpenSpec.upto fnExactPathOfThrowsSpec)

/-- 'laws.FnExactAheadAfter', WHERE WHAT IT READS IS OF BULK AT MOST 1048576: true; the input reads as it did. -/
def fnExactAheadAfterUptoRow : OpenClaim := { program := "ytkobjjadojpjfaa", sum := "097f5b4d5f4d48fb8e1b13342137808f0aaa3f1251cd5b3d404852cdd68483b8", func := "loop.example/g01306/laws.FnExactAheadAfter", spec := "fnExactAheadAfter", unfollowed := true, recurses := true, plainKeys := false, apart := false, narrowed := true }
def FnExactAheadAfterUptoSaid : Prop := fnExactAheadAfterUptoRow.holds Try.pinned (OpenSpec.upto fnExactAheadAfterSpec)

/-- 'laws.FnExactReachedFrom', WHERE WHAT IT READS IS OF BULK AT MOST 1048576: true; the input reads as it did. -/
def fnExactReachedFromUptoRow : OpenClaim := { program := "ytkobjjadojpjfaa", sum := "097f5b4d5f4d48fb8e1b13342137808f0aaa3f1251cd5b3d404852cdd68483b8", func := "loop.example/g01306/laws.FnExactReachedFrom", spec := "fnExactReachedFrom", unfollowed := true, recurses := true, plainKeys := false, apart := false, narrowed := true }
def FnExactReachedFromUptoSaid : Prop := fnExactReachedFromUptoRow.holds Try.pinned (OpenSpec.upto fnExactReachedFromSpec)

/-- 'laws.FnExactPlacesAfter', WHERE WHAT IT READS IS OF BULK AT MOST 1048576: true; the input reads as it did. -/
def fnExactPlacesAfterUptoRow : OpenClaim := { program := "ytkobjjadojpjfaa", sum := "097f5b4d5f4d48fb8e1b13342137808f0aaa3f1251cd5b3d404852cdd68483b8", func := "loop.example/g01306/laws.FnExactPlacesAfter", spec := "fnExactPlacesAfter", unfollowed := true, recurses := true, plainKeys := false, apart := false, narrowed := true }
def FnExactPlacesAfterUptoSaid : Prop := fnExactPlacesAfterUptoRow.holds Try.pinned (OpenSpec.upto fnExactPlacesAfterSpec)

/-- 'laws.FnExactDoneTable', WHERE WHAT IT READS IS OF BULK AT MOST 1048576: true; the input reads as it did. -/
def fnExactDoneTableUptoRow : OpenClaim := { program := "ytkobjjadojpjfaa", sum := "097f5b4d5f4d48fb8e1b13342137808f0aaa3f1251cd5b3d404852cdd68483b8", func := "loop.example/g01306/laws.FnExactDoneTable", spec := "fnExactDoneTable", unfollowed := true, recurses := true, plainKeys := false, apart := false, narrowed := true }
def FnExactDoneTableUptoSaid : Prop := fnExactDoneTableUptoRow.holds Try.pinned (OpenSpec.upto fnExactDoneTableSpec)

/-- 'laws.FnExactFewestThrows', WHERE WHAT IT READS IS OF BULK AT MOST 1048576: true; the input reads as it did. -/
def fnExactFewestThrowsUptoRow : OpenClaim := { program := "ytkobjjadojpjfaa", sum := "097f5b4d5f4d48fb8e1b13342137808f0aaa3f1251cd5b3d404852cdd68483b8", func := "loop.example/g01306/laws.FnExactFewestThrows", spec := "fnExactFewestThrows", unfollowed := true, recurses := true, plainKeys := false, apart := false, narrowed := true }
def FnExactFewestThrowsUptoSaid : Prop := fnExactFewestThrowsUptoRow.holds Try.pinned (OpenSpec.upto fnExactFewestThrowsSpec)

/-- 'laws.FnExactLikeliestAt', WHERE WHAT IT READS IS OF BULK AT MOST 1048576: true; the input reads as it did. -/
def fnExactLikeliestAtUptoRow : OpenClaim := { program := "ytkobjjadojpjfaa", sum := "097f5b4d5f4d48fb8e1b13342137808f0aaa3f1251cd5b3d404852cdd68483b8", func := "loop.example/g01306/laws.FnExactLikeliestAt", spec := "fnExactLikeliestAt", unfollowed := true, recurses := true, plainKeys := false, apart := false, narrowed := true }
def FnExactLikeliestAtUptoSaid : Prop := fnExactLikeliestAtUptoRow.holds Try.pinned (OpenSpec.upto fnExactLikeliestAtSpec)

/-- 'laws.FnExactHopelessSquares', WHERE WHAT IT READS IS OF BULK AT MOST 1048576: true; the input reads as it did. -/
def fnExactHopelessSquaresUptoRow : OpenClaim := { program := "ytkobjjadojpjfaa", sum := "097f5b4d5f4d48fb8e1b13342137808f0aaa3f1251cd5b3d404852cdd68483b8", func := "loop.example/g01306/laws.FnExactHopelessSquares", spec := "fnExactHopelessSquares", plainKeys := false, apart := false, narrowed := true }
def FnExactHopelessSquaresUptoSaid : Prop := fnExactHopelessSquaresUptoRow.holds Try.pinned (OpenSpec.upto fnExactHopelessSquaresSpec)

/-- 'laws.FnExactHasMean', WHERE WHAT IT READS IS OF BULK AT MOST 1048576: true; the input reads as it did. -/
def fnExactHasMeanUptoRow : OpenClaim := { program := "ytkobjjadojpjfaa", sum := "097f5b4d5f4d48fb8e1b13342137808f0aaa3f1251cd5b3d404852cdd68483b8", func := "loop.example/g01306/laws.FnExactHasMean", spec := "fnExactHasMean", unfollowed := true, recurses := true, plainKeys := false, apart := false, narrowed := true }
def FnExactHasMeanUptoSaid : Prop := fnExactHasMeanUptoRow.holds Try.pinned (OpenSpec.upto fnExactHasMeanSpec)

/-- 'laws.FnExactCountFewest', WHERE WHAT IT READS IS OF BULK AT MOST 1048576: true; the input reads as it did. -/
def fnExactCountFewestUptoRow : OpenClaim := { program := "ytkobjjadojpjfaa", sum := "097f5b4d5f4d48fb8e1b13342137808f0aaa3f1251cd5b3d404852cdd68483b8", func := "loop.example/g01306/laws.FnExactCountFewest", spec := "fnExactCountFewest", unfollowed := true, recurses := true, plainKeys := false, apart := false, narrowed := true }
def FnExactCountFewestUptoSaid : Prop := fnExactCountFewestUptoRow.holds Try.pinned (OpenSpec.upto fnExactCountFewestSpec)

/-- 'laws.FnExactWinsAt', WHERE WHAT IT READS IS OF BULK AT MOST 1048576: true; the input reads as it did. -/
def fnExactWinsAtUptoRow : OpenClaim := { program := "ytkobjjadojpjfaa", sum := "097f5b4d5f4d48fb8e1b13342137808f0aaa3f1251cd5b3d404852cdd68483b8", func := "loop.example/g01306/laws.FnExactWinsAt", spec := "fnExactWinsAt", unfollowed := true, recurses := true, plainKeys := false, apart := false, narrowed := true }
def FnExactWinsAtUptoSaid : Prop := fnExactWinsAtUptoRow.holds Try.pinned (OpenSpec.upto fnExactWinsAtSpec)

/-- 'laws.FnExactTurnJumps', WHERE WHAT IT READS IS OF BULK AT MOST 1048576: true; the input reads as it did. -/
def fnExactTurnJumpsUptoRow : OpenClaim := { program := "ytkobjjadojpjfaa", sum := "097f5b4d5f4d48fb8e1b13342137808f0aaa3f1251cd5b3d404852cdd68483b8", func := "loop.example/g01306/laws.FnExactTurnJumps", spec := "fnExactTurnJumps", unfollowed := true, recurses := true, plainKeys := false, apart := false, narrowed := true }
def FnExactTurnJumpsUptoSaid : Prop := fnExactTurnJumpsUptoRow.holds Try.pinned (OpenSpec.upto fnExactTurnJumpsSpec)

/-- 'laws.FnExactAddJump', WHERE WHAT IT READS IS OF BULK AT MOST 1048576: true; the input reads as it did. -/
def fnExactAddJumpUptoRow : OpenClaim := { program := "ytkobjjadojpjfaa", sum := "097f5b4d5f4d48fb8e1b13342137808f0aaa3f1251cd5b3d404852cdd68483b8", func := "loop.example/g01306/laws.FnExactAddJump", spec := "fnExactAddJump", unfollowed := true, recurses := true, plainKeys := false, apart := false, narrowed := true }
def FnExactAddJumpUptoSaid : Prop := fnExactAddJumpUptoRow.holds Try.pinned (OpenSpec.upto fnExactAddJumpSpec)

/-- 'laws.FnExactFirstThrows', WHERE WHAT IT READS IS OF BULK AT MOST 1048576: true; the input reads as it did. -/
def fnExactFirstThrowsUptoRow : OpenClaim := { program := "ytkobjjadojpjfaa", sum := "097f5b4d5f4d48fb8e1b13342137808f0aaa3f1251cd5b3d404852cdd68483b8", func := "loop.example/g01306/laws.FnExactFirstThrows", spec := "fnExactFirstThrows", unfollowed := true, recurses := true, plainKeys := false, apart := false, narrowed := true }
def FnExactFirstThrowsUptoSaid : Prop := fnExactFirstThrowsUptoRow.holds Try.pinned (OpenSpec.upto fnExactFirstThrowsSpec)

/-- 'laws.FnExactCountRaced', WHERE WHAT IT READS IS OF BULK AT MOST 1048576: true; the input reads as it did. -/
def fnExactCountRacedUptoRow : OpenClaim := { program := "ytkobjjadojpjfaa", sum := "097f5b4d5f4d48fb8e1b13342137808f0aaa3f1251cd5b3d404852cdd68483b8", func := "loop.example/g01306/laws.FnExactCountRaced", spec := "fnExactCountRaced", unfollowed := true, recurses := true, plainKeys := false, apart := false, narrowed := true }
def FnExactCountRacedUptoSaid : Prop := fnExactCountRacedUptoRow.holds Try.pinned (OpenSpec.upto fnExactCountRacedSpec)

/-- 'laws.FnExactDropJump', WHERE WHAT IT READS IS OF BULK AT MOST 1048576: true; the input reads as it did. -/
def fnExactDropJumpUptoRow : OpenClaim := { program := "ytkobjjadojpjfaa", sum := "097f5b4d5f4d48fb8e1b13342137808f0aaa3f1251cd5b3d404852cdd68483b8", func := "loop.example/g01306/laws.FnExactDropJump", spec := "fnExactDropJump", unfollowed := true, recurses := true, plainKeys := false, apart := false, narrowed := true }
def FnExactDropJumpUptoSaid : Prop := fnExactDropJumpUptoRow.holds Try.pinned (OpenSpec.upto fnExactDropJumpSpec)

/-- 'laws.FnExactCanWin', WHERE WHAT IT READS IS OF BULK AT MOST 1048576: true; the input reads as it did. -/
def fnExactCanWinUptoRow : OpenClaim := { program := "ytkobjjadojpjfaa", sum := "097f5b4d5f4d48fb8e1b13342137808f0aaa3f1251cd5b3d404852cdd68483b8", func := "loop.example/g01306/laws.FnExactCanWin", spec := "fnExactCanWin", unfollowed := true, recurses := true, plainKeys := false, apart := false, narrowed := true }
def FnExactCanWinUptoSaid : Prop := fnExactCanWinUptoRow.holds Try.pinned (OpenSpec.upto fnExactCanWinSpec)

/-- 'laws.FnExactShortestWin', WHERE WHAT IT READS IS OF BULK AT MOST 1048576: true; the input reads as it did. -/
def fnExactShortestWinUptoRow : OpenClaim := { program := "ytkobjjadojpjfaa", sum := "097f5b4d5f4d48fb8e1b13342137808f0aaa3f1251cd5b3d404852cdd68483b8", func := "loop.example/g01306/laws.FnExactShortestWin", spec := "fnExactShortestWin", unfollowed := true, recurses := true, plainKeys := false, apart := false, narrowed := true }
def FnExactShortestWinUptoSaid : Prop := fnExactShortestWinUptoRow.holds Try.pinned (OpenSpec.upto fnExactShortestWinSpec)

/-- 'laws.FnExactWinsAfter', WHERE WHAT IT READS IS OF BULK AT MOST 1048576: true; the input reads as it did. -/
def fnExactWinsAfterUptoRow : OpenClaim := { program := "ytkobjjadojpjfaa", sum := "097f5b4d5f4d48fb8e1b13342137808f0aaa3f1251cd5b3d404852cdd68483b8", func := "loop.example/g01306/laws.FnExactWinsAfter", spec := "fnExactWinsAfter", unfollowed := true, recurses := true, plainKeys := false, apart := false, narrowed := true }
def FnExactWinsAfterUptoSaid : Prop := fnExactWinsAfterUptoRow.holds Try.pinned (OpenSpec.upto fnExactWinsAfterSpec)

/-- 'laws.FnExactRaceAhead', WHERE WHAT IT READS IS OF BULK AT MOST 1048576: true; the input reads as it did. -/
def fnExactRaceAheadUptoRow : OpenClaim := { program := "ytkobjjadojpjfaa", sum := "097f5b4d5f4d48fb8e1b13342137808f0aaa3f1251cd5b3d404852cdd68483b8", func := "loop.example/g01306/laws.FnExactRaceAhead", spec := "fnExactRaceAhead", unfollowed := true, recurses := true, plainKeys := false, apart := false, narrowed := true }
def FnExactRaceAheadUptoSaid : Prop := fnExactRaceAheadUptoRow.holds Try.pinned (OpenSpec.upto fnExactRaceAheadSpec)

/-- 'laws.FnExactFirstWin', WHERE WHAT IT READS IS OF BULK AT MOST 1048576: true; the input reads as it did. -/
def fnExactFirstWinUptoRow : OpenClaim := { program := "ytkobjjadojpjfaa", sum := "097f5b4d5f4d48fb8e1b13342137808f0aaa3f1251cd5b3d404852cdd68483b8", func := "loop.example/g01306/laws.FnExactFirstWin", spec := "fnExactFirstWin", unfollowed := true, recurses := true, plainKeys := false, apart := false, narrowed := true }
def FnExactFirstWinUptoSaid : Prop := fnExactFirstWinUptoRow.holds Try.pinned (OpenSpec.upto fnExactFirstWinSpec)

end Rows
end Go.Proofs.Ytkobjjadojpjfaa
