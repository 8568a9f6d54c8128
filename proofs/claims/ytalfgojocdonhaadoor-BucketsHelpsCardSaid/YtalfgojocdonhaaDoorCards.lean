/-
  DERIVED. GIVEN WITH THE SEED: THE CARDS: each row of YtalfgojocdonhaaDoorRows.lean that lists a variable, with what it lists TIED to the program's text (the seventh form; the later family's looks); each row that meets fmt, with fmt's text TOLD by the authors' own Lean function (tested against real Go, not proved from fmt's source: count such statements apart). THE CARD IS WHAT COUNTS. Prove the row's statement (the work); the ties are given (YtalfgojocdonhaaDoorTie.lean); close each card by the builder's one call (the guide's Derived/Test/ToyasCard.lean, 'card_holds'). Laid BY PROGRAM, IN A SANDBOX (cutbox-door.mjs). By AI agents, Wed Nov 11 2026. No macro, syntax, notation, axiom, sorry.
-/
import Derived.Test.YtalfgojocdonhaaDoorRows
import GoSem.ClaimSeven
namespace Go.Proofs.YtalfgojocdonhaaDoor
namespace Rows

/-- THE TIED CARD OF 'steeninglaw03.BucketsHouse'. -/
def bucketsHouseCard : Claim7 := { stood := { row := bucketsHouseRow, standIns := [], harness := (true, "5334d201df14a8cbe7ef60c793562a47fe331153d035b74b45b1c636860d1486"), looks := false }, kinds := [], alts := [], laidByText := true, laidKinds := [.data, .data, .data], laidTests := true, laidLooks := .later }
def BucketsHouseCardSaid : Prop := Claim7.holds Tryd.pinned (.plain (OpenSpec.ofChange bucketsHouseSpec)) bucketsHouseCard

/-- THE TIED CARD OF 'steeninglaw03.BucketsOrder'. -/
def bucketsOrderCard : Claim7 := { stood := { row := bucketsOrderRow, standIns := [], harness := (true, "5334d201df14a8cbe7ef60c793562a47fe331153d035b74b45b1c636860d1486"), looks := false }, kinds := [], alts := [], laidByText := true, laidKinds := [.data, .data, .data], laidTests := true, laidLooks := .later }
def BucketsOrderCardSaid : Prop := Claim7.holds Tryd.pinned (.plain (OpenSpec.ofChange bucketsOrderSpec)) bucketsOrderCard

/-- THE TIED CARD OF 'steeninglaw03.BucketsBeside'. -/
def bucketsBesideCard : Claim7 := { stood := { row := bucketsBesideRow, standIns := [], harness := (true, "5334d201df14a8cbe7ef60c793562a47fe331153d035b74b45b1c636860d1486"), looks := false }, kinds := [], alts := [], laidByText := true, laidKinds := [.data, .data, .data], laidTests := true, laidLooks := .later }
def BucketsBesideCardSaid : Prop := Claim7.holds Tryd.pinned (.plain (OpenSpec.ofChange bucketsBesideSpec)) bucketsBesideCard

/-- THE TIED CARD OF 'steeninglaw03.BucketsAll'. -/
def bucketsAllCard : Claim7 := { stood := { row := bucketsAllRow, standIns := [], harness := (true, "5334d201df14a8cbe7ef60c793562a47fe331153d035b74b45b1c636860d1486"), looks := false }, kinds := [], alts := [], laidByText := true, laidKinds := [.data, .data, .data], laidTests := true, laidLooks := .later }
def BucketsAllCardSaid : Prop := Claim7.holds Tryd.pinned (.plain (OpenSpec.ofChange bucketsAllSpec)) bucketsAllCard

/-- THE TIED CARD OF 'steeninglaw03.BucketsOne'. -/
def bucketsOneCard : Claim7 := { stood := { row := bucketsOneRow, standIns := [], harness := (true, "5334d201df14a8cbe7ef60c793562a47fe331153d035b74b45b1c636860d1486"), looks := false }, kinds := [], alts := [], laidByText := true, laidKinds := [.data, .data, .data], laidTests := true, laidLooks := .later }
def BucketsOneCardSaid : Prop := Claim7.holds Tryd.pinned (.plain (OpenSpec.ofChange bucketsOneSpec)) bucketsOneCard

/-- THE TIED CARD OF 'steeninglaw03.BucketsShort'. -/
def bucketsShortCard : Claim7 := { stood := { row := bucketsShortRow, standIns := [], harness := (true, "5334d201df14a8cbe7ef60c793562a47fe331153d035b74b45b1c636860d1486"), looks := false }, kinds := [], alts := [], laidByText := true, laidKinds := [.data, .data, .data], laidTests := true, laidLooks := .later }
def BucketsShortCardSaid : Prop := Claim7.holds Tryd.pinned (.plain (OpenSpec.ofChange bucketsShortSpec)) bucketsShortCard

/-- THE TIED CARD OF 'steeninglaw03.BucketsLacks'. -/
def bucketsLacksCard : Claim7 := { stood := { row := bucketsLacksRow, standIns := [], harness := (true, "5334d201df14a8cbe7ef60c793562a47fe331153d035b74b45b1c636860d1486"), looks := false }, kinds := [], alts := [], laidByText := true, laidKinds := [.data, .data, .data], laidTests := true, laidLooks := .later }
def BucketsLacksCardSaid : Prop := Claim7.holds Tryd.pinned (.plain (OpenSpec.ofChange bucketsLacksSpec)) bucketsLacksCard

/-- THE TIED CARD OF 'steeninglaw03.BucketsGood'. -/
def bucketsGoodCard : Claim7 := { stood := { row := bucketsGoodRow, standIns := [], harness := (true, "5334d201df14a8cbe7ef60c793562a47fe331153d035b74b45b1c636860d1486"), looks := false }, kinds := [], alts := [], laidByText := true, laidKinds := [.data, .data, .data], laidTests := true, laidLooks := .later }
def BucketsGoodCardSaid : Prop := Claim7.holds Tryd.pinned (.plain (OpenSpec.ofChange bucketsGoodSpec)) bucketsGoodCard

/-- THE TIED CARD OF 'steeninglaw03.BucketsHelps'. -/
def bucketsHelpsCard : Claim7 := { stood := { row := bucketsHelpsRow, standIns := [], harness := (true, "5334d201df14a8cbe7ef60c793562a47fe331153d035b74b45b1c636860d1486"), looks := false }, kinds := [], alts := [], laidByText := true, laidKinds := [.data, .data, .data], laidTests := true, laidLooks := .later }
def BucketsHelpsCardSaid : Prop := Claim7.holds Tryd.pinned (.plain (OpenSpec.ofChange bucketsHelpsSpec)) bucketsHelpsCard

/-- THE TIED CARD OF 'steeninglaw03.BucketsMore'. -/
def bucketsMoreCard : Claim7 := { stood := { row := bucketsMoreRow, standIns := [], harness := (true, "5334d201df14a8cbe7ef60c793562a47fe331153d035b74b45b1c636860d1486"), looks := false }, kinds := [], alts := [], laidByText := true, laidKinds := [.data, .data, .data], laidTests := true, laidLooks := .later }
def BucketsMoreCardSaid : Prop := Claim7.holds Tryd.pinned (.plain (OpenSpec.ofChange bucketsMoreSpec)) bucketsMoreCard

/-- THE TIED CARD OF 'steeninglaw03.BucketsDry'. -/
def bucketsDryCard : Claim7 := { stood := { row := bucketsDryRow, standIns := [], harness := (true, "5334d201df14a8cbe7ef60c793562a47fe331153d035b74b45b1c636860d1486"), looks := false }, kinds := [], alts := [], laidByText := true, laidKinds := [.data, .data, .data], laidTests := true, laidLooks := .later }
def BucketsDryCardSaid : Prop := Claim7.holds Tryd.pinned (.plain (OpenSpec.ofChange bucketsDrySpec)) bucketsDryCard

/-- THE TIED CARD OF 'steeninglaw03.BucketsEach'. -/
def bucketsEachCard : Claim7 := { stood := { row := bucketsEachRow, standIns := [], harness := (true, "5334d201df14a8cbe7ef60c793562a47fe331153d035b74b45b1c636860d1486"), looks := false }, kinds := [], alts := [], laidByText := true, laidKinds := [.data, .data, .data], laidTests := true, laidLooks := .later }
def BucketsEachCardSaid : Prop := Claim7.holds Tryd.pinned (.plain (OpenSpec.ofChange bucketsEachSpec)) bucketsEachCard

/-- THE SECOND FORM's CARD OF 'steeninglaw03.BucketsHouse'. -/
def bucketsHouseUptoCard : Claim7 := { stood := { row := bucketsHouseUptoRow, standIns := [], harness := (true, "5334d201df14a8cbe7ef60c793562a47fe331153d035b74b45b1c636860d1486"), looks := false }, kinds := [], alts := [], laidByText := true, laidKinds := [.data, .data, .data], laidTests := true, laidLooks := .later }
def BucketsHouseUptoCardSaid : Prop := Claim7.holds Tryd.pinned (.plain (OpenSpec.upto bucketsHouseSpec)) bucketsHouseUptoCard

/-- THE SECOND FORM's CARD OF 'steeninglaw03.BucketsOrder'. -/
def bucketsOrderUptoCard : Claim7 := { stood := { row := bucketsOrderUptoRow, standIns := [], harness := (true, "5334d201df14a8cbe7ef60c793562a47fe331153d035b74b45b1c636860d1486"), looks := false }, kinds := [], alts := [], laidByText := true, laidKinds := [.data, .data, .data], laidTests := true, laidLooks := .later }
def BucketsOrderUptoCardSaid : Prop := Claim7.holds Tryd.pinned (.plain (OpenSpec.upto bucketsOrderSpec)) bucketsOrderUptoCard

/-- THE SECOND FORM's CARD OF 'steeninglaw03.BucketsBeside'. -/
def bucketsBesideUptoCard : Claim7 := { stood := { row := bucketsBesideUptoRow, standIns := [], harness := (true, "5334d201df14a8cbe7ef60c793562a47fe331153d035b74b45b1c636860d1486"), looks := false }, kinds := [], alts := [], laidByText := true, laidKinds := [.data, .data, .data], laidTests := true, laidLooks := .later }
def BucketsBesideUptoCardSaid : Prop := Claim7.holds Tryd.pinned (.plain (OpenSpec.upto bucketsBesideSpec)) bucketsBesideUptoCard

/-- THE SECOND FORM's CARD OF 'steeninglaw03.BucketsAll'. -/
def bucketsAllUptoCard : Claim7 := { stood := { row := bucketsAllUptoRow, standIns := [], harness := (true, "5334d201df14a8cbe7ef60c793562a47fe331153d035b74b45b1c636860d1486"), looks := false }, kinds := [], alts := [], laidByText := true, laidKinds := [.data, .data, .data], laidTests := true, laidLooks := .later }
def BucketsAllUptoCardSaid : Prop := Claim7.holds Tryd.pinned (.plain (OpenSpec.upto bucketsAllSpec)) bucketsAllUptoCard

/-- THE SECOND FORM's CARD OF 'steeninglaw03.BucketsOne'. -/
def bucketsOneUptoCard : Claim7 := { stood := { row := bucketsOneUptoRow, standIns := [], harness := (true, "5334d201df14a8cbe7ef60c793562a47fe331153d035b74b45b1c636860d1486"), looks := false }, kinds := [], alts := [], laidByText := true, laidKinds := [.data, .data, .data], laidTests := true, laidLooks := .later }
def BucketsOneUptoCardSaid : Prop := Claim7.holds Tryd.pinned (.plain (OpenSpec.upto bucketsOneSpec)) bucketsOneUptoCard

/-- THE SECOND FORM's CARD OF 'steeninglaw03.BucketsShort'. -/
def bucketsShortUptoCard : Claim7 := { stood := { row := bucketsShortUptoRow, standIns := [], harness := (true, "5334d201df14a8cbe7ef60c793562a47fe331153d035b74b45b1c636860d1486"), looks := false }, kinds := [], alts := [], laidByText := true, laidKinds := [.data, .data, .data], laidTests := true, laidLooks := .later }
def BucketsShortUptoCardSaid : Prop := Claim7.holds Tryd.pinned (.plain (OpenSpec.upto bucketsShortSpec)) bucketsShortUptoCard

/-- THE SECOND FORM's CARD OF 'steeninglaw03.BucketsLacks'. -/
def bucketsLacksUptoCard : Claim7 := { stood := { row := bucketsLacksUptoRow, standIns := [], harness := (true, "5334d201df14a8cbe7ef60c793562a47fe331153d035b74b45b1c636860d1486"), looks := false }, kinds := [], alts := [], laidByText := true, laidKinds := [.data, .data, .data], laidTests := true, laidLooks := .later }
def BucketsLacksUptoCardSaid : Prop := Claim7.holds Tryd.pinned (.plain (OpenSpec.upto bucketsLacksSpec)) bucketsLacksUptoCard

/-- THE SECOND FORM's CARD OF 'steeninglaw03.BucketsGood'. -/
def bucketsGoodUptoCard : Claim7 := { stood := { row := bucketsGoodUptoRow, standIns := [], harness := (true, "5334d201df14a8cbe7ef60c793562a47fe331153d035b74b45b1c636860d1486"), looks := false }, kinds := [], alts := [], laidByText := true, laidKinds := [.data, .data, .data], laidTests := true, laidLooks := .later }
def BucketsGoodUptoCardSaid : Prop := Claim7.holds Tryd.pinned (.plain (OpenSpec.upto bucketsGoodSpec)) bucketsGoodUptoCard

/-- THE SECOND FORM's CARD OF 'steeninglaw03.BucketsHelps'. -/
def bucketsHelpsUptoCard : Claim7 := { stood := { row := bucketsHelpsUptoRow, standIns := [], harness := (true, "5334d201df14a8cbe7ef60c793562a47fe331153d035b74b45b1c636860d1486"), looks := false }, kinds := [], alts := [], laidByText := true, laidKinds := [.data, .data, .data], laidTests := true, laidLooks := .later }
def BucketsHelpsUptoCardSaid : Prop := Claim7.holds Tryd.pinned (.plain (OpenSpec.upto bucketsHelpsSpec)) bucketsHelpsUptoCard

/-- THE SECOND FORM's CARD OF 'steeninglaw03.BucketsMore'. -/
def bucketsMoreUptoCard : Claim7 := { stood := { row := bucketsMoreUptoRow, standIns := [], harness := (true, "5334d201df14a8cbe7ef60c793562a47fe331153d035b74b45b1c636860d1486"), looks := false }, kinds := [], alts := [], laidByText := true, laidKinds := [.data, .data, .data], laidTests := true, laidLooks := .later }
def BucketsMoreUptoCardSaid : Prop := Claim7.holds Tryd.pinned (.plain (OpenSpec.upto bucketsMoreSpec)) bucketsMoreUptoCard

/-- THE SECOND FORM's CARD OF 'steeninglaw03.BucketsDry'. -/
def bucketsDryUptoCard : Claim7 := { stood := { row := bucketsDryUptoRow, standIns := [], harness := (true, "5334d201df14a8cbe7ef60c793562a47fe331153d035b74b45b1c636860d1486"), looks := false }, kinds := [], alts := [], laidByText := true, laidKinds := [.data, .data, .data], laidTests := true, laidLooks := .later }
def BucketsDryUptoCardSaid : Prop := Claim7.holds Tryd.pinned (.plain (OpenSpec.upto bucketsDrySpec)) bucketsDryUptoCard

/-- THE SECOND FORM's CARD OF 'steeninglaw03.BucketsEach'. -/
def bucketsEachUptoCard : Claim7 := { stood := { row := bucketsEachUptoRow, standIns := [], harness := (true, "5334d201df14a8cbe7ef60c793562a47fe331153d035b74b45b1c636860d1486"), looks := false }, kinds := [], alts := [], laidByText := true, laidKinds := [.data, .data, .data], laidTests := true, laidLooks := .later }
def BucketsEachUptoCardSaid : Prop := Claim7.holds Tryd.pinned (.plain (OpenSpec.upto bucketsEachSpec)) bucketsEachUptoCard
end Rows
end Go.Proofs.YtalfgojocdonhaaDoor
