/-
  DERIVED. GIVEN WITH THE SEED: THE CARDS: each row of YtblcmdjhidhnjaaGreatDoorRows.lean that lists a variable, with what it lists TIED to the program's text (the seventh form; the later family's looks); each row that meets fmt, with fmt's text TOLD by the authors' own Lean function (tested against real Go, not proved from fmt's source: count such statements apart). THE CARD IS WHAT COUNTS. Prove the row's statement (the work); the ties are given (YtblcmdjhidhnjaaGreatDoorTie.lean); close each card by the builder's one call (the guide's Derived/Test/ToyasCard.lean, 'card_holds'). Laid BY PROGRAM, IN A SANDBOX (cutbox-door.mjs). By AI agents, Wed Nov 11 2026. No macro, syntax, notation, axiom, sorry.
-/
import Derived.Test.YtblcmdjhidhnjaaGreatDoorRows
import GoSem.ClaimSeven
namespace Go.Proofs.YtblcmdjhidhnjaaGreatDoor
namespace Rows

/-- THE TIED CARD OF 'steeninglaw12.MasterBeside'. -/
def masterBesideCard : Claim7 := { stood := { row := masterBesideRow, standIns := [], harness := (true, "5064c06e3b48d2da83e56f6feca60bfbab711a6e5a847e69eba9b4d2d1931328"), looks := true }, kinds := [], alts := [], goes := true, laidByText := true, laidKinds := [.data, .data, .data, .data, .data, .data, .sentinel, .sentinel, .pinned], laidTests := true, laidLooks := .later }
def MasterBesideCardSaid : Prop := Claim7.holds Tryz.pinned (.plain (OpenSpec.ofChange masterBesideSpec)) masterBesideCard

/-- THE SECOND FORM's CARD OF 'steeninglaw12.MasterBeside'. -/
def masterBesideUptoCard : Claim7 := { stood := { row := masterBesideUptoRow, standIns := [], harness := (true, "5064c06e3b48d2da83e56f6feca60bfbab711a6e5a847e69eba9b4d2d1931328"), looks := true }, kinds := [], alts := [], goes := true, laidByText := true, laidKinds := [.data, .data, .data, .data, .data, .data, .sentinel, .sentinel, .pinned], laidTests := true, laidLooks := .later }
def MasterBesideUptoCardSaid : Prop := Claim7.holds Tryz.pinned (.plain (OpenSpec.upto masterBesideSpec)) masterBesideUptoCard
end Rows
end Go.Proofs.YtblcmdjhidhnjaaGreatDoor
