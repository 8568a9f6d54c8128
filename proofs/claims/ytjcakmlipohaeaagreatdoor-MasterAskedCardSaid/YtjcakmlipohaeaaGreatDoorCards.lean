/-
  DERIVED. GIVEN WITH THE SEED: THE CARDS: each row of YtjcakmlipohaeaaGreatDoorRows.lean that lists a variable, with what it lists TIED to the program's text (the seventh form; the later family's looks); each row that meets fmt, with fmt's text TOLD by the authors' own Lean function (tested against real Go, not proved from fmt's source: count such statements apart). THE CARD IS WHAT COUNTS. Prove the row's statement (the work); the ties are given (YtjcakmlipohaeaaGreatDoorTie.lean); close each card by the builder's one call (the guide's Derived/Test/ToyasCard.lean, 'card_holds'). Laid BY PROGRAM, IN A SANDBOX (cutbox-door.mjs). By AI agents, Wed Nov 11 2026. No macro, syntax, notation, axiom, sorry.
-/
import Derived.Test.YtjcakmlipohaeaaGreatDoorRows
import GoSem.ClaimSeven
namespace Go.Proofs.YtjcakmlipohaeaaGreatDoor
namespace Rows

/-- THE TIED CARD OF 'steeningtop.TopMastered'. -/
def topMasteredCard : Claim7 := { stood := { row := topMasteredRow, standIns := [], harness := (true, "a578bae1aa3b42223cf9e8912de88cb3c1d6fb893348a9844022307e04602158"), looks := true }, kinds := [], alts := [], goes := true, laidByText := true, laidKinds := [.data, .data, .data, .data, .data, .data, .sentinel, .sentinel, .pinned], laidTests := true, laidLooks := .later }
def TopMasteredCardSaid : Prop := Claim7.holds Tryz.pinned (.plain (OpenSpec.ofChange topMasteredSpec)) topMasteredCard

/-- THE TIED CARD OF 'steeninglaw12.MasterAsked'. -/
def masterAskedCard : Claim7 := { stood := { row := masterAskedRow, standIns := [], harness := (true, "a578bae1aa3b42223cf9e8912de88cb3c1d6fb893348a9844022307e04602158"), looks := true }, kinds := [], alts := [], goes := true, laidByText := true, laidKinds := [.data, .data, .data, .data, .data, .data, .sentinel, .sentinel, .pinned], laidTests := true, laidLooks := .later }
def MasterAskedCardSaid : Prop := Claim7.holds Tryz.pinned (.plain (OpenSpec.ofChange masterAskedSpec)) masterAskedCard

/-- THE TIED CARD OF 'steeningtop.TopTried'. -/
def topTriedCard : Claim7 := { stood := { row := topTriedRow, standIns := [], harness := (true, "a578bae1aa3b42223cf9e8912de88cb3c1d6fb893348a9844022307e04602158"), looks := true }, kinds := [], alts := [], goes := true, laidByText := true, laidKinds := [.data, .data, .data, .data, .data, .data, .sentinel, .sentinel, .pinned], laidTests := true, laidLooks := .later }
def TopTriedCardSaid : Prop := Claim7.holds Tryz.pinned (.plain (OpenSpec.ofChange topTriedSpec)) topTriedCard

/-- THE SECOND FORM's CARD OF 'steeningtop.TopMastered'. -/
def topMasteredUptoCard : Claim7 := { stood := { row := topMasteredUptoRow, standIns := [], harness := (true, "a578bae1aa3b42223cf9e8912de88cb3c1d6fb893348a9844022307e04602158"), looks := true }, kinds := [], alts := [], goes := true, laidByText := true, laidKinds := [.data, .data, .data, .data, .data, .data, .sentinel, .sentinel, .pinned], laidTests := true, laidLooks := .later }
def TopMasteredUptoCardSaid : Prop := Claim7.holds Tryz.pinned (.plain (OpenSpec.upto topMasteredSpec)) topMasteredUptoCard

/-- THE SECOND FORM's CARD OF 'steeninglaw12.MasterAsked'. -/
def masterAskedUptoCard : Claim7 := { stood := { row := masterAskedUptoRow, standIns := [], harness := (true, "a578bae1aa3b42223cf9e8912de88cb3c1d6fb893348a9844022307e04602158"), looks := true }, kinds := [], alts := [], goes := true, laidByText := true, laidKinds := [.data, .data, .data, .data, .data, .data, .sentinel, .sentinel, .pinned], laidTests := true, laidLooks := .later }
def MasterAskedUptoCardSaid : Prop := Claim7.holds Tryz.pinned (.plain (OpenSpec.upto masterAskedSpec)) masterAskedUptoCard

/-- THE SECOND FORM's CARD OF 'steeningtop.TopTried'. -/
def topTriedUptoCard : Claim7 := { stood := { row := topTriedUptoRow, standIns := [], harness := (true, "a578bae1aa3b42223cf9e8912de88cb3c1d6fb893348a9844022307e04602158"), looks := true }, kinds := [], alts := [], goes := true, laidByText := true, laidKinds := [.data, .data, .data, .data, .data, .data, .sentinel, .sentinel, .pinned], laidTests := true, laidLooks := .later }
def TopTriedUptoCardSaid : Prop := Claim7.holds Tryz.pinned (.plain (OpenSpec.upto topTriedSpec)) topTriedUptoCard
end Rows
end Go.Proofs.YtjcakmlipohaeaaGreatDoor
