/-
  DERIVED. GIVEN WITH THE SEED: THE CARDS: each row of YtnbleinhabllnaaDoorRows.lean that lists a variable, with what it lists TIED to the program's text (the seventh form; the later family's looks); each row that meets fmt, with fmt's text TOLD by the authors' own Lean function (tested against real Go, not proved from fmt's source: count such statements apart). THE CARD IS WHAT COUNTS. Prove the row's statement (the work); the ties are given (YtnbleinhabllnaaDoorTie.lean); close each card by the builder's one call (the guide's Derived/Test/ToyasCard.lean, 'card_holds'). Laid BY PROGRAM, IN A SANDBOX (cutbox-door.mjs). By AI agents, Wed Nov 11 2026. No macro, syntax, notation, axiom, sorry.
-/
import Derived.Test.YtnbleinhabllnaaDoorRows
import GoSem.ClaimSeven
namespace Go.Proofs.YtnbleinhabllnaaDoor
namespace Rows

/-- THE TIED CARD OF 'laws.FnExactParseBoard'. -/
def fnExactParseBoardCard : Claim7 := { stood := { row := fnExactParseBoardRow, standIns := [], harness := (true, "620307711f7ddb74b9a3abe61fb66e5ac947db6f93958bf8efa6c8a82d1c56e9"), looks := true }, kinds := [], alts := [], laidByText := true, laidKinds := [.data, .data, .data, .data, .sentinel, .sentinel, .pinned], laidTests := true, laidLooks := .later }
def FnExactParseBoardCardSaid : Prop := Claim7.holds Tryd.pinned (.plain (OpenSpec.ofChange fnExactParseBoardSpec)) fnExactParseBoardCard

/-- THE TIED CARD OF 'laws.FnExactParseRace'. -/
def fnExactParseRaceCard : Claim7 := { stood := { row := fnExactParseRaceRow, standIns := [], harness := (true, "620307711f7ddb74b9a3abe61fb66e5ac947db6f93958bf8efa6c8a82d1c56e9"), looks := true }, kinds := [], alts := [], laidByText := true, laidKinds := [.data, .data, .data, .data, .sentinel, .sentinel, .pinned], laidTests := true, laidLooks := .later }
def FnExactParseRaceCardSaid : Prop := Claim7.holds Tryd.pinned (.plain (OpenSpec.ofChange fnExactParseRaceSpec)) fnExactParseRaceCard

/-- THE TIED CARD OF 'laws.FnExactBoardText'. -/
def fnExactBoardTextCard : Claim7 := { stood := { row := fnExactBoardTextRow, standIns := [], harness := (true, "620307711f7ddb74b9a3abe61fb66e5ac947db6f93958bf8efa6c8a82d1c56e9"), looks := true }, kinds := [], alts := [], laidByText := true, laidKinds := [.data, .data, .data], laidTests := true, laidLooks := .later }
def FnExactBoardTextCardSaid : Prop := Claim7.holds Tryd.pinned (.plain (OpenSpec.ofChange fnExactBoardTextSpec)) fnExactBoardTextCard

/-- THE TIED CARD OF 'laws.FnExactRaceText'. -/
def fnExactRaceTextCard : Claim7 := { stood := { row := fnExactRaceTextRow, standIns := [], harness := (true, "620307711f7ddb74b9a3abe61fb66e5ac947db6f93958bf8efa6c8a82d1c56e9"), looks := true }, kinds := [], alts := [], laidByText := true, laidKinds := [.data, .data, .data], laidTests := true, laidLooks := .later }
def FnExactRaceTextCardSaid : Prop := Claim7.holds Tryd.pinned (.plain (OpenSpec.ofChange fnExactRaceTextSpec)) fnExactRaceTextCard

/-- THE SECOND FORM's CARD OF 'laws.FnExactParseBoard'. -/
def fnExactParseBoardUptoCard : Claim7 := { stood := { row := fnExactParseBoardUptoRow, standIns := [], harness := (true, "620307711f7ddb74b9a3abe61fb66e5ac947db6f93958bf8efa6c8a82d1c56e9"), looks := true }, kinds := [], alts := [], laidByText := true, laidKinds := [.data, .data, .data, .data, .sentinel, .sentinel, .pinned], laidTests := true, laidLooks := .later }
def FnExactParseBoardUptoCardSaid : Prop := Claim7.holds Tryd.pinned (.plain (OpenSpec.upto fnExactParseBoardSpec)) fnExactParseBoardUptoCard

/-- THE SECOND FORM's CARD OF 'laws.FnExactParseRace'. -/
def fnExactParseRaceUptoCard : Claim7 := { stood := { row := fnExactParseRaceUptoRow, standIns := [], harness := (true, "620307711f7ddb74b9a3abe61fb66e5ac947db6f93958bf8efa6c8a82d1c56e9"), looks := true }, kinds := [], alts := [], laidByText := true, laidKinds := [.data, .data, .data, .data, .sentinel, .sentinel, .pinned], laidTests := true, laidLooks := .later }
def FnExactParseRaceUptoCardSaid : Prop := Claim7.holds Tryd.pinned (.plain (OpenSpec.upto fnExactParseRaceSpec)) fnExactParseRaceUptoCard

/-- THE SECOND FORM's CARD OF 'laws.FnExactBoardText'. -/
def fnExactBoardTextUptoCard : Claim7 := { stood := { row := fnExactBoardTextUptoRow, standIns := [], harness := (true, "620307711f7ddb74b9a3abe61fb66e5ac947db6f93958bf8efa6c8a82d1c56e9"), looks := true }, kinds := [], alts := [], laidByText := true, laidKinds := [.data, .data, .data], laidTests := true, laidLooks := .later }
def FnExactBoardTextUptoCardSaid : Prop := Claim7.holds Tryd.pinned (.plain (OpenSpec.upto fnExactBoardTextSpec)) fnExactBoardTextUptoCard

/-- THE SECOND FORM's CARD OF 'laws.FnExactRaceText'. -/
def fnExactRaceTextUptoCard : Claim7 := { stood := { row := fnExactRaceTextUptoRow, standIns := [], harness := (true, "620307711f7ddb74b9a3abe61fb66e5ac947db6f93958bf8efa6c8a82d1c56e9"), looks := true }, kinds := [], alts := [], laidByText := true, laidKinds := [.data, .data, .data], laidTests := true, laidLooks := .later }
def FnExactRaceTextUptoCardSaid : Prop := Claim7.holds Tryd.pinned (.plain (OpenSpec.upto fnExactRaceTextSpec)) fnExactRaceTextUptoCard
end Rows
end Go.Proofs.YtnbleinhabllnaaDoor
