/-
  DERIVED. GIVEN WITH THE SEED: THE CARDS: each row of YtadndcpcjmmngaaGreatDoorRows.lean that lists a variable, with what it lists TIED to the program's text (the seventh form; the later family's looks); each row that meets fmt, with fmt's text TOLD by the authors' own Lean function (tested against real Go, not proved from fmt's source: count such statements apart). THE CARD IS WHAT COUNTS. Prove the row's statement (the work); the ties are given (YtadndcpcjmmngaaGreatDoorTie.lean); close each card by the builder's one call (the guide's Derived/Test/ToyasCard.lean, 'card_holds'). Laid BY PROGRAM, IN A SANDBOX (cutbox-door.mjs). By AI agents, Wed Nov 11 2026. No macro, syntax, notation, axiom, sorry.
-/
import Derived.Test.YtadndcpcjmmngaaGreatDoorRows
import GoSem.ClaimSeven
namespace Go.Proofs.YtadndcpcjmmngaaGreatDoor
namespace Rows

/-- THE TIED CARD OF 'steeninglaw12.MasterBucket'. -/
def masterBucketCard : Claim7 := { stood := { row := masterBucketRow, standIns := [], harness := (true, "9be93106110a649edb2795098e3d6dfdcb6c9047988ba127998cfd0072c6b55c"), looks := true }, kinds := [], alts := [], goes := true, laidByText := true, laidKinds := [.data, .data, .data, .data, .data, .data, .sentinel, .sentinel, .pinned], laidTests := true, laidLooks := .later }
def MasterBucketCardSaid : Prop := Claim7.holds Tryz.pinned (.plain (OpenSpec.ofChange masterBucketSpec)) masterBucketCard

/-- THE TIED CARD OF 'steeninglaw12.MasterYear'. -/
def masterYearCard : Claim7 := { stood := { row := masterYearRow, standIns := [], harness := (true, "9be93106110a649edb2795098e3d6dfdcb6c9047988ba127998cfd0072c6b55c"), looks := true }, kinds := [], alts := [], goes := true, laidByText := true, laidKinds := [.data, .data, .data, .data, .data, .data, .sentinel, .sentinel, .pinned], laidTests := true, laidLooks := .later }
def MasterYearCardSaid : Prop := Claim7.holds Tryz.pinned (.plain (OpenSpec.ofChange masterYearSpec)) masterYearCard

/-- THE SECOND FORM's CARD OF 'steeninglaw12.MasterBucket'. -/
def masterBucketUptoCard : Claim7 := { stood := { row := masterBucketUptoRow, standIns := [], harness := (true, "9be93106110a649edb2795098e3d6dfdcb6c9047988ba127998cfd0072c6b55c"), looks := true }, kinds := [], alts := [], goes := true, laidByText := true, laidKinds := [.data, .data, .data, .data, .data, .data, .sentinel, .sentinel, .pinned], laidTests := true, laidLooks := .later }
def MasterBucketUptoCardSaid : Prop := Claim7.holds Tryz.pinned (.plain (OpenSpec.upto masterBucketSpec)) masterBucketUptoCard

/-- THE SECOND FORM's CARD OF 'steeninglaw12.MasterYear'. -/
def masterYearUptoCard : Claim7 := { stood := { row := masterYearUptoRow, standIns := [], harness := (true, "9be93106110a649edb2795098e3d6dfdcb6c9047988ba127998cfd0072c6b55c"), looks := true }, kinds := [], alts := [], goes := true, laidByText := true, laidKinds := [.data, .data, .data, .data, .data, .data, .sentinel, .sentinel, .pinned], laidTests := true, laidLooks := .later }
def MasterYearUptoCardSaid : Prop := Claim7.holds Tryz.pinned (.plain (OpenSpec.upto masterYearSpec)) masterYearUptoCard
end Rows
end Go.Proofs.YtadndcpcjmmngaaGreatDoor
