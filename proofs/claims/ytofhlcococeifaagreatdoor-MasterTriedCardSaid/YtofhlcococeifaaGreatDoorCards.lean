/-
  DERIVED. GIVEN WITH THE SEED: THE CARDS: each row of YtofhlcococeifaaGreatDoorRows.lean that lists a variable, with what it lists TIED to the program's text (the seventh form; the later family's looks); each row that meets fmt, with fmt's text TOLD by the authors' own Lean function (tested against real Go, not proved from fmt's source: count such statements apart). THE CARD IS WHAT COUNTS. Prove the row's statement (the work); the ties are given (YtofhlcococeifaaGreatDoorTie.lean); close each card by the builder's one call (the guide's Derived/Test/ToyasCard.lean, 'card_holds'). Laid BY PROGRAM, IN A SANDBOX (cutbox-door.mjs). By AI agents, Wed Nov 11 2026. No macro, syntax, notation, axiom, sorry.
-/
import Derived.Test.YtofhlcococeifaaGreatDoorRows
import GoSem.ClaimSeven
namespace Go.Proofs.YtofhlcococeifaaGreatDoor
namespace Rows

/-- THE TIED CARD OF 'steeninglaw12.MasterHalves'. -/
def masterHalvesCard : Claim7 := { stood := { row := masterHalvesRow, standIns := [], harness := (true, "17be26dae2b95e2136e882a9586f7758d7b3b805994925de90f94dc98dff47aa"), looks := true }, kinds := [], alts := [], goes := true, laidByText := true, laidKinds := [.data, .data, .data, .data, .data, .data, .sentinel, .sentinel, .pinned], laidTests := true, laidLooks := .later }
def MasterHalvesCardSaid : Prop := Claim7.holds Tryz.pinned (.plain (OpenSpec.ofChange masterHalvesSpec)) masterHalvesCard

/-- THE TIED CARD OF 'steeninglaw12.MasterNothing'. -/
def masterNothingCard : Claim7 := { stood := { row := masterNothingRow, standIns := [], harness := (true, "17be26dae2b95e2136e882a9586f7758d7b3b805994925de90f94dc98dff47aa"), looks := true }, kinds := [], alts := [], goes := true, laidByText := true, laidKinds := [.data, .data, .data, .data, .data, .data, .sentinel, .sentinel, .pinned], laidTests := true, laidLooks := .later }
def MasterNothingCardSaid : Prop := Claim7.holds Tryz.pinned (.plain (OpenSpec.ofChange masterNothingSpec)) masterNothingCard

/-- THE TIED CARD OF 'steeninglaw12.MasterTried'. -/
def masterTriedCard : Claim7 := { stood := { row := masterTriedRow, standIns := [], harness := (true, "17be26dae2b95e2136e882a9586f7758d7b3b805994925de90f94dc98dff47aa"), looks := true }, kinds := [], alts := [], goes := true, laidByText := true, laidKinds := [.data, .data, .data, .data, .data, .data, .sentinel, .sentinel, .pinned], laidTests := true, laidLooks := .later }
def MasterTriedCardSaid : Prop := Claim7.holds Tryz.pinned (.plain (OpenSpec.ofChange masterTriedSpec)) masterTriedCard

/-- THE TIED CARD OF 'steeninglaw12.MasterLetters'. -/
def masterLettersCard : Claim7 := { stood := { row := masterLettersRow, standIns := [], harness := (true, "17be26dae2b95e2136e882a9586f7758d7b3b805994925de90f94dc98dff47aa"), looks := true }, kinds := [], alts := [], goes := true, laidByText := true, laidKinds := [.data, .data, .data, .data, .data, .data, .sentinel, .sentinel, .pinned], laidTests := true, laidLooks := .later }
def MasterLettersCardSaid : Prop := Claim7.holds Tryz.pinned (.plain (OpenSpec.ofChange masterLettersSpec)) masterLettersCard

/-- THE SECOND FORM's CARD OF 'steeninglaw12.MasterHalves'. -/
def masterHalvesUptoCard : Claim7 := { stood := { row := masterHalvesUptoRow, standIns := [], harness := (true, "17be26dae2b95e2136e882a9586f7758d7b3b805994925de90f94dc98dff47aa"), looks := true }, kinds := [], alts := [], goes := true, laidByText := true, laidKinds := [.data, .data, .data, .data, .data, .data, .sentinel, .sentinel, .pinned], laidTests := true, laidLooks := .later }
def MasterHalvesUptoCardSaid : Prop := Claim7.holds Tryz.pinned (.plain (OpenSpec.upto masterHalvesSpec)) masterHalvesUptoCard

/-- THE SECOND FORM's CARD OF 'steeninglaw12.MasterNothing'. -/
def masterNothingUptoCard : Claim7 := { stood := { row := masterNothingUptoRow, standIns := [], harness := (true, "17be26dae2b95e2136e882a9586f7758d7b3b805994925de90f94dc98dff47aa"), looks := true }, kinds := [], alts := [], goes := true, laidByText := true, laidKinds := [.data, .data, .data, .data, .data, .data, .sentinel, .sentinel, .pinned], laidTests := true, laidLooks := .later }
def MasterNothingUptoCardSaid : Prop := Claim7.holds Tryz.pinned (.plain (OpenSpec.upto masterNothingSpec)) masterNothingUptoCard

/-- THE SECOND FORM's CARD OF 'steeninglaw12.MasterTried'. -/
def masterTriedUptoCard : Claim7 := { stood := { row := masterTriedUptoRow, standIns := [], harness := (true, "17be26dae2b95e2136e882a9586f7758d7b3b805994925de90f94dc98dff47aa"), looks := true }, kinds := [], alts := [], goes := true, laidByText := true, laidKinds := [.data, .data, .data, .data, .data, .data, .sentinel, .sentinel, .pinned], laidTests := true, laidLooks := .later }
def MasterTriedUptoCardSaid : Prop := Claim7.holds Tryz.pinned (.plain (OpenSpec.upto masterTriedSpec)) masterTriedUptoCard

/-- THE SECOND FORM's CARD OF 'steeninglaw12.MasterLetters'. -/
def masterLettersUptoCard : Claim7 := { stood := { row := masterLettersUptoRow, standIns := [], harness := (true, "17be26dae2b95e2136e882a9586f7758d7b3b805994925de90f94dc98dff47aa"), looks := true }, kinds := [], alts := [], goes := true, laidByText := true, laidKinds := [.data, .data, .data, .data, .data, .data, .sentinel, .sentinel, .pinned], laidTests := true, laidLooks := .later }
def MasterLettersUptoCardSaid : Prop := Claim7.holds Tryz.pinned (.plain (OpenSpec.upto masterLettersSpec)) masterLettersUptoCard
end Rows
end Go.Proofs.YtofhlcococeifaaGreatDoor
