/-
  DERIVED. GIVEN WITH THE SEED: THE CARDS: each row of YtiinpnlfdeiloaaDoorRows.lean that lists a variable, with what it lists TIED to the program's text (the seventh form; the later family's looks); each row that meets fmt, with fmt's text TOLD by the authors' own Lean function (tested against real Go, not proved from fmt's source: count such statements apart). THE CARD IS WHAT COUNTS. Prove the row's statement (the work); the ties are given (YtiinpnlfdeiloaaDoorTie.lean); close each card by the builder's one call (the guide's Derived/Test/ToyasCard.lean, 'card_holds'). Laid BY PROGRAM, IN A SANDBOX (cutbox-door.mjs). By AI agents, Wed Nov 11 2026. No macro, syntax, notation, axiom, sorry.
-/
import Derived.Test.YtiinpnlfdeiloaaDoorRows
import GoSem.ClaimSeven
namespace Go.Proofs.YtiinpnlfdeiloaaDoor
namespace Rows

/-- THE TIED CARD OF 'steeninglaw14.CenturyBack'. -/
def centuryBackCard : Claim7 := { stood := { row := centuryBackRow, standIns := [], harness := (true, "d19a88c3556340bf03c70abcf51311f6c04bc6278884da2732a7a561c1b64cb8"), looks := false }, kinds := [], alts := [], laidByText := true, laidKinds := [.data, .data, .data, .data, .pinned], laidTests := true, laidLooks := .later }
def CenturyBackCardSaid : Prop := Claim7.holds Tryd.pinned (.plain (OpenSpec.ofChange centuryBackSpec)) centuryBackCard

/-- THE TIED CARD OF 'steeninglaw14.CenturyByte'. -/
def centuryByteCard : Claim7 := { stood := { row := centuryByteRow, standIns := [], harness := (true, "d19a88c3556340bf03c70abcf51311f6c04bc6278884da2732a7a561c1b64cb8"), looks := false }, kinds := [], alts := [], laidByText := true, laidKinds := [.data, .data, .data, .data, .pinned], laidTests := true, laidLooks := .later }
def CenturyByteCardSaid : Prop := Claim7.holds Tryd.pinned (.plain (OpenSpec.ofChange centuryByteSpec)) centuryByteCard

/-- THE TIED CARD OF 'steeninglaw14.CenturyUsed'. -/
def centuryUsedCard : Claim7 := { stood := { row := centuryUsedRow, standIns := [], harness := (true, "d19a88c3556340bf03c70abcf51311f6c04bc6278884da2732a7a561c1b64cb8"), looks := false }, kinds := [], alts := [], laidByText := true, laidKinds := [.data, .data, .data, .data, .pinned], laidTests := true, laidLooks := .later }
def CenturyUsedCardSaid : Prop := Claim7.holds Tryd.pinned (.plain (OpenSpec.ofChange centuryUsedSpec)) centuryUsedCard

/-- THE TIED CARD OF 'steeninglaw14.CenturyAdds'. -/
def centuryAddsCard : Claim7 := { stood := { row := centuryAddsRow, standIns := [], harness := (true, "d19a88c3556340bf03c70abcf51311f6c04bc6278884da2732a7a561c1b64cb8"), looks := false }, kinds := [], alts := [], laidByText := true, laidKinds := [.data, .data, .data, .data, .pinned], laidTests := true, laidLooks := .later }
def CenturyAddsCardSaid : Prop := Claim7.holds Tryd.pinned (.plain (OpenSpec.ofChange centuryAddsSpec)) centuryAddsCard

/-- THE TIED CARD OF 'steeninglaw14.CenturyMore'. -/
def centuryMoreCard : Claim7 := { stood := { row := centuryMoreRow, standIns := [], harness := (true, "d19a88c3556340bf03c70abcf51311f6c04bc6278884da2732a7a561c1b64cb8"), looks := false }, kinds := [], alts := [], laidByText := true, laidKinds := [.data, .data, .data, .data, .pinned], laidTests := true, laidLooks := .later }
def CenturyMoreCardSaid : Prop := Claim7.holds Tryd.pinned (.plain (OpenSpec.ofChange centuryMoreSpec)) centuryMoreCard

/-- THE TIED CARD OF 'steeninglaw14.CenturyForm'. -/
def centuryFormCard : Claim7 := { stood := { row := centuryFormRow, standIns := [], harness := (true, "d19a88c3556340bf03c70abcf51311f6c04bc6278884da2732a7a561c1b64cb8"), looks := false }, kinds := [], alts := [], laidByText := true, laidKinds := [.data, .data, .data, .data, .pinned], laidTests := true, laidLooks := .later }
def CenturyFormCardSaid : Prop := Claim7.holds Tryd.pinned (.plain (OpenSpec.ofChange centuryFormSpec)) centuryFormCard

/-- THE TIED CARD OF 'steeninglaw14.CenturyReads'. -/
def centuryReadsCard : Claim7 := { stood := { row := centuryReadsRow, standIns := [], harness := (true, "d19a88c3556340bf03c70abcf51311f6c04bc6278884da2732a7a561c1b64cb8"), looks := false }, kinds := [], alts := [], laidByText := true, laidKinds := [.data, .data, .data, .data, .pinned], laidTests := true, laidLooks := .later }
def CenturyReadsCardSaid : Prop := Claim7.holds Tryd.pinned (.plain (OpenSpec.ofChange centuryReadsSpec)) centuryReadsCard

/-- THE TIED CARD OF 'steeninglaw14.CenturyBegins'. -/
def centuryBeginsCard : Claim7 := { stood := { row := centuryBeginsRow, standIns := [], harness := (true, "d19a88c3556340bf03c70abcf51311f6c04bc6278884da2732a7a561c1b64cb8"), looks := false }, kinds := [], alts := [], laidByText := true, laidKinds := [.data, .data, .data, .data, .pinned], laidTests := true, laidLooks := .later }
def CenturyBeginsCardSaid : Prop := Claim7.holds Tryd.pinned (.plain (OpenSpec.ofChange centuryBeginsSpec)) centuryBeginsCard

/-- THE TIED CARD OF 'steeninglaw14.CenturyPieces'. -/
def centuryPiecesCard : Claim7 := { stood := { row := centuryPiecesRow, standIns := [], harness := (true, "d19a88c3556340bf03c70abcf51311f6c04bc6278884da2732a7a561c1b64cb8"), looks := false }, kinds := [], alts := [], laidByText := true, laidKinds := [.data, .data, .data, .data, .pinned], laidTests := true, laidLooks := .later }
def CenturyPiecesCardSaid : Prop := Claim7.holds Tryd.pinned (.plain (OpenSpec.ofChange centuryPiecesSpec)) centuryPiecesCard

/-- THE TIED CARD OF 'steeninglaw14.CenturyUses'. -/
def centuryUsesCard : Claim7 := { stood := { row := centuryUsesRow, standIns := [], harness := (true, "d19a88c3556340bf03c70abcf51311f6c04bc6278884da2732a7a561c1b64cb8"), looks := false }, kinds := [], alts := [], laidByText := true, laidKinds := [.data, .data, .data, .data, .pinned], laidTests := true, laidLooks := .later }
def CenturyUsesCardSaid : Prop := Claim7.holds Tryd.pinned (.plain (OpenSpec.ofChange centuryUsesSpec)) centuryUsesCard

/-- THE TIED CARD OF 'steeninglaw14.CenturyFew'. -/
def centuryFewCard : Claim7 := { stood := { row := centuryFewRow, standIns := [], harness := (true, "d19a88c3556340bf03c70abcf51311f6c04bc6278884da2732a7a561c1b64cb8"), looks := false }, kinds := [], alts := [], laidByText := true, laidKinds := [.data, .data, .data, .data, .pinned], laidTests := true, laidLooks := .later }
def CenturyFewCardSaid : Prop := Claim7.holds Tryd.pinned (.plain (OpenSpec.ofChange centuryFewSpec)) centuryFewCard

/-- THE TIED CARD OF 'steeninglaw14.CenturyWrites'. -/
def centuryWritesCard : Claim7 := { stood := { row := centuryWritesRow, standIns := [], harness := (true, "d19a88c3556340bf03c70abcf51311f6c04bc6278884da2732a7a561c1b64cb8"), looks := false }, kinds := [], alts := [], laidByText := true, laidKinds := [.data, .data, .data, .data, .pinned], laidTests := true, laidLooks := .later }
def CenturyWritesCardSaid : Prop := Claim7.holds Tryd.pinned (.plain (OpenSpec.ofChange centuryWritesSpec)) centuryWritesCard

/-- THE SECOND FORM's CARD OF 'steeninglaw14.CenturyBack'. -/
def centuryBackUptoCard : Claim7 := { stood := { row := centuryBackUptoRow, standIns := [], harness := (true, "d19a88c3556340bf03c70abcf51311f6c04bc6278884da2732a7a561c1b64cb8"), looks := false }, kinds := [], alts := [], laidByText := true, laidKinds := [.data, .data, .data, .data, .pinned], laidTests := true, laidLooks := .later }
def CenturyBackUptoCardSaid : Prop := Claim7.holds Tryd.pinned (.plain (OpenSpec.upto centuryBackSpec)) centuryBackUptoCard

/-- THE SECOND FORM's CARD OF 'steeninglaw14.CenturyByte'. -/
def centuryByteUptoCard : Claim7 := { stood := { row := centuryByteUptoRow, standIns := [], harness := (true, "d19a88c3556340bf03c70abcf51311f6c04bc6278884da2732a7a561c1b64cb8"), looks := false }, kinds := [], alts := [], laidByText := true, laidKinds := [.data, .data, .data, .data, .pinned], laidTests := true, laidLooks := .later }
def CenturyByteUptoCardSaid : Prop := Claim7.holds Tryd.pinned (.plain (OpenSpec.upto centuryByteSpec)) centuryByteUptoCard

/-- THE SECOND FORM's CARD OF 'steeninglaw14.CenturyUsed'. -/
def centuryUsedUptoCard : Claim7 := { stood := { row := centuryUsedUptoRow, standIns := [], harness := (true, "d19a88c3556340bf03c70abcf51311f6c04bc6278884da2732a7a561c1b64cb8"), looks := false }, kinds := [], alts := [], laidByText := true, laidKinds := [.data, .data, .data, .data, .pinned], laidTests := true, laidLooks := .later }
def CenturyUsedUptoCardSaid : Prop := Claim7.holds Tryd.pinned (.plain (OpenSpec.upto centuryUsedSpec)) centuryUsedUptoCard

/-- THE SECOND FORM's CARD OF 'steeninglaw14.CenturyAdds'. -/
def centuryAddsUptoCard : Claim7 := { stood := { row := centuryAddsUptoRow, standIns := [], harness := (true, "d19a88c3556340bf03c70abcf51311f6c04bc6278884da2732a7a561c1b64cb8"), looks := false }, kinds := [], alts := [], laidByText := true, laidKinds := [.data, .data, .data, .data, .pinned], laidTests := true, laidLooks := .later }
def CenturyAddsUptoCardSaid : Prop := Claim7.holds Tryd.pinned (.plain (OpenSpec.upto centuryAddsSpec)) centuryAddsUptoCard

/-- THE SECOND FORM's CARD OF 'steeninglaw14.CenturyMore'. -/
def centuryMoreUptoCard : Claim7 := { stood := { row := centuryMoreUptoRow, standIns := [], harness := (true, "d19a88c3556340bf03c70abcf51311f6c04bc6278884da2732a7a561c1b64cb8"), looks := false }, kinds := [], alts := [], laidByText := true, laidKinds := [.data, .data, .data, .data, .pinned], laidTests := true, laidLooks := .later }
def CenturyMoreUptoCardSaid : Prop := Claim7.holds Tryd.pinned (.plain (OpenSpec.upto centuryMoreSpec)) centuryMoreUptoCard

/-- THE SECOND FORM's CARD OF 'steeninglaw14.CenturyForm'. -/
def centuryFormUptoCard : Claim7 := { stood := { row := centuryFormUptoRow, standIns := [], harness := (true, "d19a88c3556340bf03c70abcf51311f6c04bc6278884da2732a7a561c1b64cb8"), looks := false }, kinds := [], alts := [], laidByText := true, laidKinds := [.data, .data, .data, .data, .pinned], laidTests := true, laidLooks := .later }
def CenturyFormUptoCardSaid : Prop := Claim7.holds Tryd.pinned (.plain (OpenSpec.upto centuryFormSpec)) centuryFormUptoCard

/-- THE SECOND FORM's CARD OF 'steeninglaw14.CenturyReads'. -/
def centuryReadsUptoCard : Claim7 := { stood := { row := centuryReadsUptoRow, standIns := [], harness := (true, "d19a88c3556340bf03c70abcf51311f6c04bc6278884da2732a7a561c1b64cb8"), looks := false }, kinds := [], alts := [], laidByText := true, laidKinds := [.data, .data, .data, .data, .pinned], laidTests := true, laidLooks := .later }
def CenturyReadsUptoCardSaid : Prop := Claim7.holds Tryd.pinned (.plain (OpenSpec.upto centuryReadsSpec)) centuryReadsUptoCard

/-- THE SECOND FORM's CARD OF 'steeninglaw14.CenturyBegins'. -/
def centuryBeginsUptoCard : Claim7 := { stood := { row := centuryBeginsUptoRow, standIns := [], harness := (true, "d19a88c3556340bf03c70abcf51311f6c04bc6278884da2732a7a561c1b64cb8"), looks := false }, kinds := [], alts := [], laidByText := true, laidKinds := [.data, .data, .data, .data, .pinned], laidTests := true, laidLooks := .later }
def CenturyBeginsUptoCardSaid : Prop := Claim7.holds Tryd.pinned (.plain (OpenSpec.upto centuryBeginsSpec)) centuryBeginsUptoCard

/-- THE SECOND FORM's CARD OF 'steeninglaw14.CenturyPieces'. -/
def centuryPiecesUptoCard : Claim7 := { stood := { row := centuryPiecesUptoRow, standIns := [], harness := (true, "d19a88c3556340bf03c70abcf51311f6c04bc6278884da2732a7a561c1b64cb8"), looks := false }, kinds := [], alts := [], laidByText := true, laidKinds := [.data, .data, .data, .data, .pinned], laidTests := true, laidLooks := .later }
def CenturyPiecesUptoCardSaid : Prop := Claim7.holds Tryd.pinned (.plain (OpenSpec.upto centuryPiecesSpec)) centuryPiecesUptoCard

/-- THE SECOND FORM's CARD OF 'steeninglaw14.CenturyUses'. -/
def centuryUsesUptoCard : Claim7 := { stood := { row := centuryUsesUptoRow, standIns := [], harness := (true, "d19a88c3556340bf03c70abcf51311f6c04bc6278884da2732a7a561c1b64cb8"), looks := false }, kinds := [], alts := [], laidByText := true, laidKinds := [.data, .data, .data, .data, .pinned], laidTests := true, laidLooks := .later }
def CenturyUsesUptoCardSaid : Prop := Claim7.holds Tryd.pinned (.plain (OpenSpec.upto centuryUsesSpec)) centuryUsesUptoCard

/-- THE SECOND FORM's CARD OF 'steeninglaw14.CenturyFew'. -/
def centuryFewUptoCard : Claim7 := { stood := { row := centuryFewUptoRow, standIns := [], harness := (true, "d19a88c3556340bf03c70abcf51311f6c04bc6278884da2732a7a561c1b64cb8"), looks := false }, kinds := [], alts := [], laidByText := true, laidKinds := [.data, .data, .data, .data, .pinned], laidTests := true, laidLooks := .later }
def CenturyFewUptoCardSaid : Prop := Claim7.holds Tryd.pinned (.plain (OpenSpec.upto centuryFewSpec)) centuryFewUptoCard

/-- THE SECOND FORM's CARD OF 'steeninglaw14.CenturyWrites'. -/
def centuryWritesUptoCard : Claim7 := { stood := { row := centuryWritesUptoRow, standIns := [], harness := (true, "d19a88c3556340bf03c70abcf51311f6c04bc6278884da2732a7a561c1b64cb8"), looks := false }, kinds := [], alts := [], laidByText := true, laidKinds := [.data, .data, .data, .data, .pinned], laidTests := true, laidLooks := .later }
def CenturyWritesUptoCardSaid : Prop := Claim7.holds Tryd.pinned (.plain (OpenSpec.upto centuryWritesSpec)) centuryWritesUptoCard
end Rows
end Go.Proofs.YtiinpnlfdeiloaaDoor
