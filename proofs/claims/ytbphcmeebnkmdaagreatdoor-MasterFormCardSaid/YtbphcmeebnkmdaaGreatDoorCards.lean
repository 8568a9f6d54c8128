/-
  DERIVED. GIVEN WITH THE SEED: THE CARDS: each row of YtbphcmeebnkmdaaGreatDoorRows.lean that lists a variable, with what it lists TIED to the program's text (the seventh form; the later family's looks); each row that meets fmt, with fmt's text TOLD by the authors' own Lean function (tested against real Go, not proved from fmt's source: count such statements apart). THE CARD IS WHAT COUNTS. Prove the row's statement (the work); the ties are given (YtbphcmeebnkmdaaGreatDoorTie.lean); close each card by the builder's one call (the guide's Derived/Test/ToyasCard.lean, 'card_holds'). Laid BY PROGRAM, IN A SANDBOX (cutbox-door.mjs). By AI agents, Wed Nov 11 2026. No macro, syntax, notation, axiom, sorry.
-/
import Derived.Test.YtbphcmeebnkmdaaGreatDoorRows
import GoSem.ClaimSeven
namespace Go.Proofs.YtbphcmeebnkmdaaGreatDoor
namespace Rows

/-- THE TIED CARD OF 'steeninglaw12.MasterDown'. -/
def masterDownCard : Claim7 := { stood := { row := masterDownRow, standIns := [], harness := (true, "c061c25c0c0db48c3908f0d2f26f0abc234113ce78b6afd6b4620ca9bba56ea1"), looks := true }, kinds := [], alts := [], goes := true, laidByText := true, laidKinds := [.data, .data, .data, .data, .data, .data, .sentinel, .sentinel, .pinned], laidTests := true, laidLooks := .later }
def MasterDownCardSaid : Prop := Claim7.holds Tryz.pinned (.plain (OpenSpec.ofChange masterDownSpec)) masterDownCard

/-- THE TIED CARD OF 'steeninglaw12.MasterWays'. -/
def masterWaysCard : Claim7 := { stood := { row := masterWaysRow, standIns := [], harness := (true, "c061c25c0c0db48c3908f0d2f26f0abc234113ce78b6afd6b4620ca9bba56ea1"), looks := true }, kinds := [], alts := [], goes := true, laidByText := true, laidKinds := [.data, .data, .data, .data, .data, .data, .sentinel, .sentinel, .pinned], laidTests := true, laidLooks := .later }
def MasterWaysCardSaid : Prop := Claim7.holds Tryz.pinned (.plain (OpenSpec.ofChange masterWaysSpec)) masterWaysCard

/-- THE TIED CARD OF 'steeninglaw12.MasterForm'. -/
def masterFormCard : Claim7 := { stood := { row := masterFormRow, standIns := [], harness := (true, "c061c25c0c0db48c3908f0d2f26f0abc234113ce78b6afd6b4620ca9bba56ea1"), looks := true }, kinds := [], alts := [], goes := true, laidByText := true, laidKinds := [.data, .data, .data, .data, .data, .data, .sentinel, .sentinel, .pinned], laidTests := true, laidLooks := .later }
def MasterFormCardSaid : Prop := Claim7.holds Tryz.pinned (.plain (OpenSpec.ofChange masterFormSpec)) masterFormCard

/-- THE SECOND FORM's CARD OF 'steeninglaw12.MasterDown'. -/
def masterDownUptoCard : Claim7 := { stood := { row := masterDownUptoRow, standIns := [], harness := (true, "c061c25c0c0db48c3908f0d2f26f0abc234113ce78b6afd6b4620ca9bba56ea1"), looks := true }, kinds := [], alts := [], goes := true, laidByText := true, laidKinds := [.data, .data, .data, .data, .data, .data, .sentinel, .sentinel, .pinned], laidTests := true, laidLooks := .later }
def MasterDownUptoCardSaid : Prop := Claim7.holds Tryz.pinned (.plain (OpenSpec.upto masterDownSpec)) masterDownUptoCard

/-- THE SECOND FORM's CARD OF 'steeninglaw12.MasterWays'. -/
def masterWaysUptoCard : Claim7 := { stood := { row := masterWaysUptoRow, standIns := [], harness := (true, "c061c25c0c0db48c3908f0d2f26f0abc234113ce78b6afd6b4620ca9bba56ea1"), looks := true }, kinds := [], alts := [], goes := true, laidByText := true, laidKinds := [.data, .data, .data, .data, .data, .data, .sentinel, .sentinel, .pinned], laidTests := true, laidLooks := .later }
def MasterWaysUptoCardSaid : Prop := Claim7.holds Tryz.pinned (.plain (OpenSpec.upto masterWaysSpec)) masterWaysUptoCard

/-- THE SECOND FORM's CARD OF 'steeninglaw12.MasterForm'. -/
def masterFormUptoCard : Claim7 := { stood := { row := masterFormUptoRow, standIns := [], harness := (true, "c061c25c0c0db48c3908f0d2f26f0abc234113ce78b6afd6b4620ca9bba56ea1"), looks := true }, kinds := [], alts := [], goes := true, laidByText := true, laidKinds := [.data, .data, .data, .data, .data, .data, .sentinel, .sentinel, .pinned], laidTests := true, laidLooks := .later }
def MasterFormUptoCardSaid : Prop := Claim7.holds Tryz.pinned (.plain (OpenSpec.upto masterFormSpec)) masterFormUptoCard
end Rows
end Go.Proofs.YtbphcmeebnkmdaaGreatDoor
