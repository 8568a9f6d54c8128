/-
  No cell of these rows narrows 'for every input' (looked for: loops, veiled, ifaces, maps, wideKeys, modest, calm, conditions, laid).
  DERIVED. THE GIVEN ROWS OF THIS SEAT. 13 by the template 'for every input the law returns true; each argument reads behind the call as it read before'; 0 by the template 'total and deterministic' (their statements: YtbmkacnlhlbnjaaTotals.lean).
  GIVEN WITH THE SEED: the statements are not yours to turn. If you find one false, say at which input.
  Laid BY PROGRAM, IN A SANDBOX (cutbox-rows.mjs): the forced cells as the released guide's own fill.sh prints them over the translation 75f6de67df7f320b… (all of the seat's roots in one cut). By AI agents, Wed Nov 11 2026. No macro, syntax, notation, axiom, sorry.
-/
import Derived.Test.YtbmkacnlhlbnjaaChecked
import GoSem.Claim
import GoSem.ClaimJoined
import GoSem.ClaimMapViews
import Derived.JoinedTies
import Derived.KernelRfl
namespace Go.Proofs.Ytbmkacnlhlbnjaa
/- THE CELL 'sum', in the pinned program and in every row, IS THE sha256 OF THE DUMP (.gsa) THAT YtbmkacnlhlbnjaaProg.lean LOADS. Nothing in Lean hashes anything: it is a label: what it is worth is what the hold of that sum in a sandbox is worth. -/
noncomputable def Try.pinned : Pinned := { name := "ytbmkacnlhlbnjaa", sum := "75f6de67df7f320bbc7cd24749fbd19f68429b042d253790c6b9b686edb00b8e", checked := Try.checked }
namespace Rows
def none {H : Type} : Left H := { results := [], args := [] }

/-- 'steeninglaw10.CisternsMore': WHATEVER THE INPUT: true; the input reads as it did. -/
def cisternsMoreSpec : ChangeSpec := { name := "cisternsMore", fn := fun _ => fun
  | [d1, d2, d3] => { results := [.lit (.bool true)], args := [d1, d2, d3] }
  | _ => none }
def cisternsMoreRow : OpenClaim := { program := "ytbmkacnlhlbnjaa", sum := "75f6de67df7f320bbc7cd24749fbd19f68429b042d253790c6b9b686edb00b8e", func := "steening/steeninglaw10.CisternsMore", spec := "cisternsMore", inPlace := ["(*sync.WaitGroup).Add", "internal/race.ReleaseMerge", "internal/race.Disable", "internal/race.Enable", "internal/synctest.IsInBubble", "internal/synctest.Associate[sync.WaitGroup]", "sync.fatal", "sync/atomic.OrUint64", "sync/atomic.AddUint64", "internal/race.Read", "sync/atomic.LoadUint64", "sync/atomic.StoreUint64", "internal/synctest.Disassociate[sync.WaitGroup]", "sync.runtime_Semrelease", "(*sync.WaitGroup).Done", "(*sync.WaitGroup).Wait", "internal/race.Acquire", "internal/synctest.IsAssociated[sync.WaitGroup]", "sync/atomic.CompareAndSwapUint64", "internal/race.Write", "sync.runtime_SemacquireWaitGroup"], unfollowed := true, recurses := true, leaving := true, apart := false }
def CisternsMoreSaid : Prop := cisternsMoreRow.holds Try.pinned (OpenSpec.ofChange cisternsMoreSpec)

/-- ITS FALSE NEIGHBOUR: 'it returns false'. Refute it at one input. -/
def cisternsMoreWrong : ChangeSpec := { name := "cisternsMore", fn := fun _ => fun
  | [d1, d2, d3] => { results := [.lit (.bool false)], args := [d1, d2, d3] }
  | _ => none }
def CisternsMoreWrongFalsely : Prop := cisternsMoreRow.holds Try.pinned (OpenSpec.ofChange cisternsMoreWrong)

/-- 'steeninglaw10.CisternsBalance': WHATEVER THE INPUT: true; the input reads as it did. -/
def cisternsBalanceSpec : ChangeSpec := { name := "cisternsBalance", fn := fun _ => fun
  | [d1, d2] => { results := [.lit (.bool true)], args := [d1, d2] }
  | _ => none }
def cisternsBalanceRow : OpenClaim := { program := "ytbmkacnlhlbnjaa", sum := "75f6de67df7f320bbc7cd24749fbd19f68429b042d253790c6b9b686edb00b8e", func := "steening/steeninglaw10.CisternsBalance", spec := "cisternsBalance", inPlace := ["(*sync.WaitGroup).Add", "internal/race.ReleaseMerge", "internal/race.Disable", "internal/race.Enable", "internal/synctest.IsInBubble", "internal/synctest.Associate[sync.WaitGroup]", "sync.fatal", "sync/atomic.OrUint64", "sync/atomic.AddUint64", "internal/race.Read", "sync/atomic.LoadUint64", "sync/atomic.StoreUint64", "internal/synctest.Disassociate[sync.WaitGroup]", "sync.runtime_Semrelease", "(*sync.WaitGroup).Done", "(*sync.WaitGroup).Wait", "internal/race.Acquire", "internal/synctest.IsAssociated[sync.WaitGroup]", "sync/atomic.CompareAndSwapUint64", "internal/race.Write", "sync.runtime_SemacquireWaitGroup"], unfollowed := true, recurses := true, leaving := true, apart := false }
def CisternsBalanceSaid : Prop := cisternsBalanceRow.holds Try.pinned (OpenSpec.ofChange cisternsBalanceSpec)

/-- ITS FALSE NEIGHBOUR: 'it returns false'. Refute it at one input. -/
def cisternsBalanceWrong : ChangeSpec := { name := "cisternsBalance", fn := fun _ => fun
  | [d1, d2] => { results := [.lit (.bool false)], args := [d1, d2] }
  | _ => none }
def CisternsBalanceWrongFalsely : Prop := cisternsBalanceRow.holds Try.pinned (OpenSpec.ofChange cisternsBalanceWrong)

/-- 'steeninglaw10.CisternsRations': WHATEVER THE INPUT: true; the input reads as it did. -/
def cisternsRationsSpec : ChangeSpec := { name := "cisternsRations", fn := fun _ => fun
  | [d1, d2] => { results := [.lit (.bool true)], args := [d1, d2] }
  | _ => none }
def cisternsRationsRow : OpenClaim := { program := "ytbmkacnlhlbnjaa", sum := "75f6de67df7f320bbc7cd24749fbd19f68429b042d253790c6b9b686edb00b8e", func := "steening/steeninglaw10.CisternsRations", spec := "cisternsRations", inPlace := ["(*sync.WaitGroup).Add", "internal/race.ReleaseMerge", "internal/race.Disable", "internal/race.Enable", "internal/synctest.IsInBubble", "internal/synctest.Associate[sync.WaitGroup]", "sync.fatal", "sync/atomic.OrUint64", "sync/atomic.AddUint64", "internal/race.Read", "sync/atomic.LoadUint64", "sync/atomic.StoreUint64", "internal/synctest.Disassociate[sync.WaitGroup]", "sync.runtime_Semrelease", "(*sync.WaitGroup).Done", "(*sync.WaitGroup).Wait", "internal/race.Acquire", "internal/synctest.IsAssociated[sync.WaitGroup]", "sync/atomic.CompareAndSwapUint64", "internal/race.Write", "sync.runtime_SemacquireWaitGroup"], unfollowed := true, recurses := true, leaving := true, apart := false }
def CisternsRationsSaid : Prop := cisternsRationsRow.holds Try.pinned (OpenSpec.ofChange cisternsRationsSpec)

/-- ITS FALSE NEIGHBOUR: 'it returns false'. Refute it at one input. -/
def cisternsRationsWrong : ChangeSpec := { name := "cisternsRations", fn := fun _ => fun
  | [d1, d2] => { results := [.lit (.bool false)], args := [d1, d2] }
  | _ => none }
def CisternsRationsWrongFalsely : Prop := cisternsRationsRow.holds Try.pinned (OpenSpec.ofChange cisternsRationsWrong)

/-- 'steeninglaw10.CisternsSpare': WHATEVER THE INPUT: true; the input reads as it did. -/
def cisternsSpareSpec : ChangeSpec := { name := "cisternsSpare", fn := fun _ => fun
  | [d1, d2] => { results := [.lit (.bool true)], args := [d1, d2] }
  | _ => none }
def cisternsSpareRow : OpenClaim := { program := "ytbmkacnlhlbnjaa", sum := "75f6de67df7f320bbc7cd24749fbd19f68429b042d253790c6b9b686edb00b8e", func := "steening/steeninglaw10.CisternsSpare", spec := "cisternsSpare", inPlace := ["(*sync.WaitGroup).Add", "internal/race.ReleaseMerge", "internal/race.Disable", "internal/race.Enable", "internal/synctest.IsInBubble", "internal/synctest.Associate[sync.WaitGroup]", "sync.fatal", "sync/atomic.OrUint64", "sync/atomic.AddUint64", "internal/race.Read", "sync/atomic.LoadUint64", "sync/atomic.StoreUint64", "internal/synctest.Disassociate[sync.WaitGroup]", "sync.runtime_Semrelease", "(*sync.WaitGroup).Done", "(*sync.WaitGroup).Wait", "internal/race.Acquire", "internal/synctest.IsAssociated[sync.WaitGroup]", "sync/atomic.CompareAndSwapUint64", "internal/race.Write", "sync.runtime_SemacquireWaitGroup"], unfollowed := true, recurses := true, leaving := true, apart := false }
def CisternsSpareSaid : Prop := cisternsSpareRow.holds Try.pinned (OpenSpec.ofChange cisternsSpareSpec)

/-- ITS FALSE NEIGHBOUR: 'it returns false'. Refute it at one input. -/
def cisternsSpareWrong : ChangeSpec := { name := "cisternsSpare", fn := fun _ => fun
  | [d1, d2] => { results := [.lit (.bool false)], args := [d1, d2] }
  | _ => none }
def CisternsSpareWrongFalsely : Prop := cisternsSpareRow.holds Try.pinned (OpenSpec.ofChange cisternsSpareWrong)

/-- 'steeninglaw10.CisternsParts': WHATEVER THE INPUT: true; the input reads as it did. -/
def cisternsPartsSpec : ChangeSpec := { name := "cisternsParts", fn := fun _ => fun
  | [d1, d2, d3] => { results := [.lit (.bool true)], args := [d1, d2, d3] }
  | _ => none }
def cisternsPartsRow : OpenClaim := { program := "ytbmkacnlhlbnjaa", sum := "75f6de67df7f320bbc7cd24749fbd19f68429b042d253790c6b9b686edb00b8e", func := "steening/steeninglaw10.CisternsParts", spec := "cisternsParts", inPlace := ["(*sync.WaitGroup).Add", "internal/race.ReleaseMerge", "internal/race.Disable", "internal/race.Enable", "internal/synctest.IsInBubble", "internal/synctest.Associate[sync.WaitGroup]", "sync.fatal", "sync/atomic.OrUint64", "sync/atomic.AddUint64", "internal/race.Read", "sync/atomic.LoadUint64", "sync/atomic.StoreUint64", "internal/synctest.Disassociate[sync.WaitGroup]", "sync.runtime_Semrelease", "(*sync.WaitGroup).Done", "(*sync.WaitGroup).Wait", "internal/race.Acquire", "internal/synctest.IsAssociated[sync.WaitGroup]", "sync/atomic.CompareAndSwapUint64", "internal/race.Write", "sync.runtime_SemacquireWaitGroup"], unfollowed := true, recurses := true, leaving := true, apart := false }
def CisternsPartsSaid : Prop := cisternsPartsRow.holds Try.pinned (OpenSpec.ofChange cisternsPartsSpec)

/-- ITS FALSE NEIGHBOUR: 'it returns false'. Refute it at one input. -/
def cisternsPartsWrong : ChangeSpec := { name := "cisternsParts", fn := fun _ => fun
  | [d1, d2, d3] => { results := [.lit (.bool false)], args := [d1, d2, d3] }
  | _ => none }
def CisternsPartsWrongFalsely : Prop := cisternsPartsRow.holds Try.pinned (OpenSpec.ofChange cisternsPartsWrong)

/-- 'steeninglaw10.CisternsRun': WHATEVER THE INPUT: true; the input reads as it did. -/
def cisternsRunSpec : ChangeSpec := { name := "cisternsRun", fn := fun _ => fun
  | [d1, d2] => { results := [.lit (.bool true)], args := [d1, d2] }
  | _ => none }
def cisternsRunRow : OpenClaim := { program := "ytbmkacnlhlbnjaa", sum := "75f6de67df7f320bbc7cd24749fbd19f68429b042d253790c6b9b686edb00b8e", func := "steening/steeninglaw10.CisternsRun", spec := "cisternsRun", inPlace := ["(*sync.WaitGroup).Add", "internal/race.ReleaseMerge", "internal/race.Disable", "internal/race.Enable", "internal/synctest.IsInBubble", "internal/synctest.Associate[sync.WaitGroup]", "sync.fatal", "sync/atomic.OrUint64", "sync/atomic.AddUint64", "internal/race.Read", "sync/atomic.LoadUint64", "sync/atomic.StoreUint64", "internal/synctest.Disassociate[sync.WaitGroup]", "sync.runtime_Semrelease", "(*sync.WaitGroup).Done", "(*sync.WaitGroup).Wait", "internal/race.Acquire", "internal/synctest.IsAssociated[sync.WaitGroup]", "sync/atomic.CompareAndSwapUint64", "internal/race.Write", "sync.runtime_SemacquireWaitGroup"], unfollowed := true, recurses := true, leaving := true, apart := false }
def CisternsRunSaid : Prop := cisternsRunRow.holds Try.pinned (OpenSpec.ofChange cisternsRunSpec)

/-- ITS FALSE NEIGHBOUR: 'it returns false'. Refute it at one input. -/
def cisternsRunWrong : ChangeSpec := { name := "cisternsRun", fn := fun _ => fun
  | [d1, d2] => { results := [.lit (.bool false)], args := [d1, d2] }
  | _ => none }
def CisternsRunWrongFalsely : Prop := cisternsRunRow.holds Try.pinned (OpenSpec.ofChange cisternsRunWrong)

/-- 'steeninglaw10.CisternsGreater': WHATEVER THE INPUT: true; the input reads as it did. -/
def cisternsGreaterSpec : ChangeSpec := { name := "cisternsGreater", fn := fun _ => fun
  | [d1, d2, d3] => { results := [.lit (.bool true)], args := [d1, d2, d3] }
  | _ => none }
def cisternsGreaterRow : OpenClaim := { program := "ytbmkacnlhlbnjaa", sum := "75f6de67df7f320bbc7cd24749fbd19f68429b042d253790c6b9b686edb00b8e", func := "steening/steeninglaw10.CisternsGreater", spec := "cisternsGreater", inPlace := ["(*sync.WaitGroup).Add", "internal/race.ReleaseMerge", "internal/race.Disable", "internal/race.Enable", "internal/synctest.IsInBubble", "internal/synctest.Associate[sync.WaitGroup]", "sync.fatal", "sync/atomic.OrUint64", "sync/atomic.AddUint64", "internal/race.Read", "sync/atomic.LoadUint64", "sync/atomic.StoreUint64", "internal/synctest.Disassociate[sync.WaitGroup]", "sync.runtime_Semrelease", "(*sync.WaitGroup).Done", "(*sync.WaitGroup).Wait", "internal/race.Acquire", "internal/synctest.IsAssociated[sync.WaitGroup]", "sync/atomic.CompareAndSwapUint64", "internal/race.Write", "sync.runtime_SemacquireWaitGroup"], unfollowed := true, recurses := true, leaving := true, apart := false }
def CisternsGreaterSaid : Prop := cisternsGreaterRow.holds Try.pinned (OpenSpec.ofChange cisternsGreaterSpec)

/-- ITS FALSE NEIGHBOUR: 'it returns false'. Refute it at one input. -/
def cisternsGreaterWrong : ChangeSpec := { name := "cisternsGreater", fn := fun _ => fun
  | [d1, d2, d3] => { results := [.lit (.bool false)], args := [d1, d2, d3] }
  | _ => none }
def CisternsGreaterWrongFalsely : Prop := cisternsGreaterRow.holds Try.pinned (OpenSpec.ofChange cisternsGreaterWrong)

/-- 'steeninglaw10.CisternsLevel': WHATEVER THE INPUT: true; the input reads as it did. -/
def cisternsLevelSpec : ChangeSpec := { name := "cisternsLevel", fn := fun _ => fun
  | [d1, d2] => { results := [.lit (.bool true)], args := [d1, d2] }
  | _ => none }
def cisternsLevelRow : OpenClaim := { program := "ytbmkacnlhlbnjaa", sum := "75f6de67df7f320bbc7cd24749fbd19f68429b042d253790c6b9b686edb00b8e", func := "steening/steeninglaw10.CisternsLevel", spec := "cisternsLevel", inPlace := ["(*sync.WaitGroup).Add", "internal/race.ReleaseMerge", "internal/race.Disable", "internal/race.Enable", "internal/synctest.IsInBubble", "internal/synctest.Associate[sync.WaitGroup]", "sync.fatal", "sync/atomic.OrUint64", "sync/atomic.AddUint64", "internal/race.Read", "sync/atomic.LoadUint64", "sync/atomic.StoreUint64", "internal/synctest.Disassociate[sync.WaitGroup]", "sync.runtime_Semrelease", "(*sync.WaitGroup).Done", "(*sync.WaitGroup).Wait", "internal/race.Acquire", "internal/synctest.IsAssociated[sync.WaitGroup]", "sync/atomic.CompareAndSwapUint64", "internal/race.Write", "sync.runtime_SemacquireWaitGroup"], unfollowed := true, recurses := true, leaving := true, apart := false }
def CisternsLevelSaid : Prop := cisternsLevelRow.holds Try.pinned (OpenSpec.ofChange cisternsLevelSpec)

/-- ITS FALSE NEIGHBOUR: 'it returns false'. Refute it at one input. -/
def cisternsLevelWrong : ChangeSpec := { name := "cisternsLevel", fn := fun _ => fun
  | [d1, d2] => { results := [.lit (.bool false)], args := [d1, d2] }
  | _ => none }
def CisternsLevelWrongFalsely : Prop := cisternsLevelRow.holds Try.pinned (OpenSpec.ofChange cisternsLevelWrong)

/-- 'steeninglaw10.CisternsJust': WHATEVER THE INPUT: true; the input reads as it did. -/
def cisternsJustSpec : ChangeSpec := { name := "cisternsJust", fn := fun _ => fun
  | [d1, d2] => { results := [.lit (.bool true)], args := [d1, d2] }
  | _ => none }
def cisternsJustRow : OpenClaim := { program := "ytbmkacnlhlbnjaa", sum := "75f6de67df7f320bbc7cd24749fbd19f68429b042d253790c6b9b686edb00b8e", func := "steening/steeninglaw10.CisternsJust", spec := "cisternsJust", inPlace := ["(*sync.WaitGroup).Add", "internal/race.ReleaseMerge", "internal/race.Disable", "internal/race.Enable", "internal/synctest.IsInBubble", "internal/synctest.Associate[sync.WaitGroup]", "sync.fatal", "sync/atomic.OrUint64", "sync/atomic.AddUint64", "internal/race.Read", "sync/atomic.LoadUint64", "sync/atomic.StoreUint64", "internal/synctest.Disassociate[sync.WaitGroup]", "sync.runtime_Semrelease", "(*sync.WaitGroup).Done", "(*sync.WaitGroup).Wait", "internal/race.Acquire", "internal/synctest.IsAssociated[sync.WaitGroup]", "sync/atomic.CompareAndSwapUint64", "internal/race.Write", "sync.runtime_SemacquireWaitGroup"], unfollowed := true, recurses := true, leaving := true, apart := false }
def CisternsJustSaid : Prop := cisternsJustRow.holds Try.pinned (OpenSpec.ofChange cisternsJustSpec)

/-- ITS FALSE NEIGHBOUR: 'it returns false'. Refute it at one input. -/
def cisternsJustWrong : ChangeSpec := { name := "cisternsJust", fn := fun _ => fun
  | [d1, d2] => { results := [.lit (.bool false)], args := [d1, d2] }
  | _ => none }
def CisternsJustWrongFalsely : Prop := cisternsJustRow.holds Try.pinned (OpenSpec.ofChange cisternsJustWrong)

/-- 'steeninglaw10.CisternsSize': WHATEVER THE INPUT: true; the input reads as it did. -/
def cisternsSizeSpec : ChangeSpec := { name := "cisternsSize", fn := fun _ => fun
  | [d1, d2] => { results := [.lit (.bool true)], args := [d1, d2] }
  | _ => none }
def cisternsSizeRow : OpenClaim := { program := "ytbmkacnlhlbnjaa", sum := "75f6de67df7f320bbc7cd24749fbd19f68429b042d253790c6b9b686edb00b8e", func := "steening/steeninglaw10.CisternsSize", spec := "cisternsSize", inPlace := ["(*sync.WaitGroup).Add", "internal/race.ReleaseMerge", "internal/race.Disable", "internal/race.Enable", "internal/synctest.IsInBubble", "internal/synctest.Associate[sync.WaitGroup]", "sync.fatal", "sync/atomic.OrUint64", "sync/atomic.AddUint64", "internal/race.Read", "sync/atomic.LoadUint64", "sync/atomic.StoreUint64", "internal/synctest.Disassociate[sync.WaitGroup]", "sync.runtime_Semrelease", "(*sync.WaitGroup).Done", "(*sync.WaitGroup).Wait", "internal/race.Acquire", "internal/synctest.IsAssociated[sync.WaitGroup]", "sync/atomic.CompareAndSwapUint64", "internal/race.Write", "sync.runtime_SemacquireWaitGroup"], unfollowed := true, recurses := true, leaving := true, apart := false }
def CisternsSizeSaid : Prop := cisternsSizeRow.holds Try.pinned (OpenSpec.ofChange cisternsSizeSpec)

/-- ITS FALSE NEIGHBOUR: 'it returns false'. Refute it at one input. -/
def cisternsSizeWrong : ChangeSpec := { name := "cisternsSize", fn := fun _ => fun
  | [d1, d2] => { results := [.lit (.bool false)], args := [d1, d2] }
  | _ => none }
def CisternsSizeWrongFalsely : Prop := cisternsSizeRow.holds Try.pinned (OpenSpec.ofChange cisternsSizeWrong)

/-- 'steeninglaw10.CisternsDry': WHATEVER THE INPUT: true; the input reads as it did. -/
def cisternsDrySpec : ChangeSpec := { name := "cisternsDry", fn := fun _ => fun
  | [d1, d2] => { results := [.lit (.bool true)], args := [d1, d2] }
  | _ => none }
def cisternsDryRow : OpenClaim := { program := "ytbmkacnlhlbnjaa", sum := "75f6de67df7f320bbc7cd24749fbd19f68429b042d253790c6b9b686edb00b8e", func := "steening/steeninglaw10.CisternsDry", spec := "cisternsDry", inPlace := ["(*sync.WaitGroup).Add", "internal/race.ReleaseMerge", "internal/race.Disable", "internal/race.Enable", "internal/synctest.IsInBubble", "internal/synctest.Associate[sync.WaitGroup]", "sync.fatal", "sync/atomic.OrUint64", "sync/atomic.AddUint64", "internal/race.Read", "sync/atomic.LoadUint64", "sync/atomic.StoreUint64", "internal/synctest.Disassociate[sync.WaitGroup]", "sync.runtime_Semrelease", "(*sync.WaitGroup).Done", "(*sync.WaitGroup).Wait", "internal/race.Acquire", "internal/synctest.IsAssociated[sync.WaitGroup]", "sync/atomic.CompareAndSwapUint64", "internal/race.Write", "sync.runtime_SemacquireWaitGroup"], unfollowed := true, recurses := true, leaving := true, apart := false }
def CisternsDrySaid : Prop := cisternsDryRow.holds Try.pinned (OpenSpec.ofChange cisternsDrySpec)

/-- ITS FALSE NEIGHBOUR: 'it returns false'. Refute it at one input. -/
def cisternsDryWrong : ChangeSpec := { name := "cisternsDry", fn := fun _ => fun
  | [d1, d2] => { results := [.lit (.bool false)], args := [d1, d2] }
  | _ => none }
def CisternsDryWrongFalsely : Prop := cisternsDryRow.holds Try.pinned (OpenSpec.ofChange cisternsDryWrong)

/-- 'steeninglaw10.CisternsDoubt': WHATEVER THE INPUT: true; the input reads as it did. -/
def cisternsDoubtSpec : ChangeSpec := { name := "cisternsDoubt", fn := fun _ => fun
  | [d1, d2] => { results := [.lit (.bool true)], args := [d1, d2] }
  | _ => none }
def cisternsDoubtRow : OpenClaim := { program := "ytbmkacnlhlbnjaa", sum := "75f6de67df7f320bbc7cd24749fbd19f68429b042d253790c6b9b686edb00b8e", func := "steening/steeninglaw10.CisternsDoubt", spec := "cisternsDoubt", inPlace := ["(*sync.WaitGroup).Add", "internal/race.ReleaseMerge", "internal/race.Disable", "internal/race.Enable", "internal/synctest.IsInBubble", "internal/synctest.Associate[sync.WaitGroup]", "sync.fatal", "sync/atomic.OrUint64", "sync/atomic.AddUint64", "internal/race.Read", "sync/atomic.LoadUint64", "sync/atomic.StoreUint64", "internal/synctest.Disassociate[sync.WaitGroup]", "sync.runtime_Semrelease", "(*sync.WaitGroup).Done", "(*sync.WaitGroup).Wait", "internal/race.Acquire", "internal/synctest.IsAssociated[sync.WaitGroup]", "sync/atomic.CompareAndSwapUint64", "internal/race.Write", "sync.runtime_SemacquireWaitGroup"], unfollowed := true, recurses := true, leaving := true, apart := false }
def CisternsDoubtSaid : Prop := cisternsDoubtRow.holds Try.pinned (OpenSpec.ofChange cisternsDoubtSpec)

/-- ITS FALSE NEIGHBOUR: 'it returns false'. Refute it at one input. -/
def cisternsDoubtWrong : ChangeSpec := { name := "cisternsDoubt", fn := fun _ => fun
  | [d1, d2] => { results := [.lit (.bool false)], args := [d1, d2] }
  | _ => none }
def CisternsDoubtWrongFalsely : Prop := cisternsDoubtRow.holds Try.pinned (OpenSpec.ofChange cisternsDoubtWrong)

/-- 'steeninglaw10.CisternsEach': WHATEVER THE INPUT: true; the input reads as it did. -/
def cisternsEachSpec : ChangeSpec := { name := "cisternsEach", fn := fun _ => fun
  | [d1, d2, d3] => { results := [.lit (.bool true)], args := [d1, d2, d3] }
  | _ => none }
def cisternsEachRow : OpenClaim := { program := "ytbmkacnlhlbnjaa", sum := "75f6de67df7f320bbc7cd24749fbd19f68429b042d253790c6b9b686edb00b8e", func := "steening/steeninglaw10.CisternsEach", spec := "cisternsEach", inPlace := ["(*sync.WaitGroup).Add", "internal/race.ReleaseMerge", "internal/race.Disable", "internal/race.Enable", "internal/synctest.IsInBubble", "internal/synctest.Associate[sync.WaitGroup]", "sync.fatal", "sync/atomic.OrUint64", "sync/atomic.AddUint64", "internal/race.Read", "sync/atomic.LoadUint64", "sync/atomic.StoreUint64", "internal/synctest.Disassociate[sync.WaitGroup]", "sync.runtime_Semrelease", "(*sync.WaitGroup).Done", "(*sync.WaitGroup).Wait", "internal/race.Acquire", "internal/synctest.IsAssociated[sync.WaitGroup]", "sync/atomic.CompareAndSwapUint64", "internal/race.Write", "sync.runtime_SemacquireWaitGroup"], unfollowed := true, recurses := true, leaving := true, apart := false }
def CisternsEachSaid : Prop := cisternsEachRow.holds Try.pinned (OpenSpec.ofChange cisternsEachSpec)

/-- ITS FALSE NEIGHBOUR: 'it returns false'. Refute it at one input. -/
def cisternsEachWrong : ChangeSpec := { name := "cisternsEach", fn := fun _ => fun
  | [d1, d2, d3] => { results := [.lit (.bool false)], args := [d1, d2, d3] }
  | _ => none }
def CisternsEachWrongFalsely : Prop := cisternsEachRow.holds Try.pinned (OpenSpec.ofChange cisternsEachWrong)

/- THE SECOND FORM. 'bulk': how many values and letters a reading holds, each counted each time it is reached (what is shared counts as often as it is met; a slice's spare places count too). A statement '..UptoSaid' is the law's where the arguments, and the package variables that the reading takes, are together of bulk at most 1048576: NARROWER than '..Said'. Prove '..Said' where nothing that the law and all that it calls make is longer than what came in: it says more and counts as full. Else prove '..UptoSaid'. A law counts once. -/
mutual
def uptoBulk {H : Type} : DataW H → Nat
  | .lit (.string bytes) => bytes.length + 1
  | .lit _ => 1
  | .nil => 1
  | .ptr d => uptoBulk d + 1
  | .slice elems spare => uptoBulkAll elems + uptoBulkAll spare + 1
  | .agg parts => uptoBulkAll parts + 1
  | .iface _ d => uptoBulk d + 1
  | .map entries => uptoBulkEntries entries + 1
  | .held _ => 1
def uptoBulkAll {H : Type} : List (DataW H) → Nat
  | [] => 0
  | d :: r => uptoBulk d + uptoBulkAll r
def uptoBulkEntries {H : Type} : List (Lit × DataW H) → Nat
  | [] => 0
  | x :: r => uptoBulkEntry x + uptoBulkEntries r
def uptoBulkEntry {H : Type} : Lit × DataW H → Nat
  | (.string bytes, d) => bytes.length + uptoBulk d + 1
  | (_, d) => uptoBulk d + 1
 end
def uptoSmall : (H : Type) → List (DataW H) → Bool := fun _ ds => decide (uptoBulkAll ds ≤ 1048576)
def OpenSpec.upto (s : _root_.Go.ChangeSpec) : _root_.Go.OpenSpec := { _root_.Go.OpenSpec.ofChange s with cond := some uptoSmall }

/-- 'steeninglaw10.CisternsMore', WHERE WHAT IT READS IS OF BULK AT MOST 1048576: true; the input reads as it did. -/
def cisternsMoreUptoRow : OpenClaim := { program := "ytbmkacnlhlbnjaa", sum := "75f6de67df7f320bbc7cd24749fbd19f68429b042d253790c6b9b686edb00b8e", func := "steening/steeninglaw10.CisternsMore", spec := "cisternsMore", inPlace := ["(*sync.WaitGroup).Add", "internal/race.ReleaseMerge", "internal/race.Disable", "internal/race.Enable", "internal/synctest.IsInBubble", "internal/synctest.Associate[sync.WaitGroup]", "sync.fatal", "sync/atomic.OrUint64", "sync/atomic.AddUint64", "internal/race.Read", "sync/atomic.LoadUint64", "sync/atomic.StoreUint64", "internal/synctest.Disassociate[sync.WaitGroup]", "sync.runtime_Semrelease", "(*sync.WaitGroup).Done", "(*sync.WaitGroup).Wait", "internal/race.Acquire", "internal/synctest.IsAssociated[sync.WaitGroup]", "sync/atomic.CompareAndSwapUint64", "internal/race.Write", "sync.runtime_SemacquireWaitGroup"], unfollowed := true, recurses := true, leaving := true, apart := false, narrowed := true }
def CisternsMoreUptoSaid : Prop := cisternsMoreUptoRow.holds Try.pinned (OpenSpec.upto cisternsMoreSpec)

/-- 'steeninglaw10.CisternsBalance', WHERE WHAT IT READS IS OF BULK AT MOST 1048576: true; the input reads as it did. -/
def cisternsBalanceUptoRow : OpenClaim := { program := "ytbmkacnlhlbnjaa", sum := "75f6de67df7f320bbc7cd24749fbd19f68429b042d253790c6b9b686edb00b8e", func := "steening/steeninglaw10.CisternsBalance", spec := "cisternsBalance", inPlace := ["(*sync.WaitGroup).Add", "internal/race.ReleaseMerge", "internal/race.Disable", "internal/race.Enable", "internal/synctest.IsInBubble", "internal/synctest.Associate[sync.WaitGroup]", "sync.fatal", "sync/atomic.OrUint64", "sync/atomic.AddUint64", "internal/race.Read", "sync/atomic.LoadUint64", "sync/atomic.StoreUint64", "internal/synctest.Disassociate[sync.WaitGroup]", "sync.runtime_Semrelease", "(*sync.WaitGroup).Done", "(*sync.WaitGroup).Wait", "internal/race.Acquire", "internal/synctest.IsAssociated[sync.WaitGroup]", "sync/atomic.CompareAndSwapUint64", "internal/race.Write", "sync.runtime_SemacquireWaitGroup"], unfollowed := true, recurses := true, leaving := true, apart := false, narrowed := true }
def CisternsBalanceUptoSaid : Prop := cisternsBalanceUptoRow.holds Try.pinned (OpenSpec.upto cisternsBalanceSpec)

/-- 'steeninglaw10.CisternsRations', WHERE WHAT IT READS IS OF BULK AT MOST 1048576: true; the input reads as it did. -/
def cisternsRationsUptoRow : OpenClaim := { program := "ytbmkacnlhlbnjaa", sum := "75f6de67df7f320bbc7cd24749fbd19f68429b042d253790c6b9b686edb00b8e", func := "steening/steeninglaw10.CisternsRations", spec := "cisternsRations", inPlace := ["(*sync.WaitGroup).Add", "internal/race.ReleaseMerge", "internal/race.Disable", "internal/race.Enable", "internal/synctest.IsInBubble", "internal/synctest.Associate[sync.WaitGroup]", "sync.fatal", "sync/atomic.OrUint64", "sync/atomic.AddUint64", "internal/race.Read", "sync/atomic.LoadUint64", "sync/atomic.StoreUint64", "internal/synctest.Disassociate[sync.WaitGroup]", "sync.runtime_Semrelease", "(*sync.WaitGroup).Done", "(*sync.WaitGroup).Wait", "internal/race.Acquire", "internal/synctest.IsAssociated[sync.WaitGroup]", "sync/atomic.CompareAndSwapUint64", "internal/race.Write", "sync.runtime_SemacquireWaitGroup"], unfollowed := true, recurses := true, leaving := true, apart := false, narrowed := true }
def CisternsRationsUptoSaid : Prop := cisternsRationsUptoRow.holds Try.pinned (OpenSpec.upto cisternsRationsSpec)

/-- 'steeninglaw10.CisternsSpare', WHERE WHAT IT READS IS OF BULK AT MOST 1048576: true; the input reads as it did. -/
def cisternsSpareUptoRow : OpenClaim := { program := "ytbmkacnlhlbnjaa", sum := "75f6de67df7f320bbc7cd24749fbd19f68429b042d253790c6b9b686edb00b8e", func := "steening/steeninglaw10.CisternsSpare", spec := "cisternsSpare", inPlace := ["(*sync.WaitGroup).Add", "internal/race.ReleaseMerge", "internal/race.Disable", "internal/race.Enable", "internal/synctest.IsInBubble", "internal/synctest.Associate[sync.WaitGroup]", "sync.fatal", "sync/atomic.OrUint64", "sync/atomic.AddUint64", "internal/race.Read", "sync/atomic.LoadUint64", "sync/atomic.StoreUint64", "internal/synctest.Disassociate[sync.WaitGroup]", "sync.runtime_Semrelease", "(*sync.WaitGroup).Done", "(*sync.WaitGroup).Wait", "internal/race.Acquire", "internal/synctest.IsAssociated[sync.WaitGroup]", "sync/atomic.CompareAndSwapUint64", "internal/race.Write", "sync.runtime_SemacquireWaitGroup"], unfollowed := true, recurses := true, leaving := true, apart := false, narrowed := true }
def CisternsSpareUptoSaid : Prop := cisternsSpareUptoRow.holds Try.pinned (OpenSpec.upto cisternsSpareSpec)

/-- 'steeninglaw10.CisternsParts', WHERE WHAT IT READS IS OF BULK AT MOST 1048576: true; the input reads as it did. -/
def cisternsPartsUptoRow : OpenClaim := { program := "ytbmkacnlhlbnjaa", sum := "75f6de67df7f320bbc7cd24749fbd19f68429b042d253790c6b9b686edb00b8e", func := "steening/steeninglaw10.CisternsParts", spec := "cisternsParts", inPlace := ["(*sync.WaitGroup).Add", "internal/race.ReleaseMerge", "internal/race.Disable", "internal/race.Enable", "internal/synctest.IsInBubble", "internal/synctest.Associate[sync.WaitGroup]", "sync.fatal", "sync/atomic.OrUint64", "sync/atomic.AddUint64", "internal/race.Read", "sync/atomic.LoadUint64", "sync/atomic.StoreUint64", "internal/synctest.Disassociate[sync.WaitGroup]", "sync.runtime_Semrelease", "(*sync.WaitGroup).Done", "(*sync.WaitGroup).Wait", "internal/race.Acquire", "internal/synctest.IsAssociated[sync.WaitGroup]", "sync/atomic.CompareAndSwapUint64", "internal/race.Write", "sync.runtime_SemacquireWaitGroup"], unfollowed := true, recurses := true, leaving := true, apart := false, narrowed := true }
def CisternsPartsUptoSaid : Prop := cisternsPartsUptoRow.holds Try.pinned (OpenSpec.upto cisternsPartsSpec)

/-- 'steeninglaw10.CisternsRun', WHERE WHAT IT READS IS OF BULK AT MOST 1048576: true; the input reads as it did. -/
def cisternsRunUptoRow : OpenClaim := { program := "ytbmkacnlhlbnjaa", sum := "75f6de67df7f320bbc7cd24749fbd19f68429b042d253790c6b9b686edb00b8e", func := "steening/steeninglaw10.CisternsRun", spec := "cisternsRun", inPlace := ["(*sync.WaitGroup).Add", "internal/race.ReleaseMerge", "internal/race.Disable", "internal/race.Enable", "internal/synctest.IsInBubble", "internal/synctest.Associate[sync.WaitGroup]", "sync.fatal", "sync/atomic.OrUint64", "sync/atomic.AddUint64", "internal/race.Read", "sync/atomic.LoadUint64", "sync/atomic.StoreUint64", "internal/synctest.Disassociate[sync.WaitGroup]", "sync.runtime_Semrelease", "(*sync.WaitGroup).Done", "(*sync.WaitGroup).Wait", "internal/race.Acquire", "internal/synctest.IsAssociated[sync.WaitGroup]", "sync/atomic.CompareAndSwapUint64", "internal/race.Write", "sync.runtime_SemacquireWaitGroup"], unfollowed := true, recurses := true, leaving := true, apart := false, narrowed := true }
def CisternsRunUptoSaid : Prop := cisternsRunUptoRow.holds Try.pinned (OpenSpec.upto cisternsRunSpec)

/-- 'steeninglaw10.CisternsGreater', WHERE WHAT IT READS IS OF BULK AT MOST 1048576: true; the input reads as it did. -/
def cisternsGreaterUptoRow : OpenClaim := { program := "ytbmkacnlhlbnjaa", sum := "75f6de67df7f320bbc7cd24749fbd19f68429b042d253790c6b9b686edb00b8e", func := "steening/steeninglaw10.CisternsGreater", spec := "cisternsGreater", inPlace := ["(*sync.WaitGroup).Add", "internal/race.ReleaseMerge", "internal/race.Disable", "internal/race.Enable", "internal/synctest.IsInBubble", "internal/synctest.Associate[sync.WaitGroup]", "sync.fatal", "sync/atomic.OrUint64", "sync/atomic.AddUint64", "internal/race.Read", "sync/atomic.LoadUint64", "sync/atomic.StoreUint64", "internal/synctest.Disassociate[sync.WaitGroup]", "sync.runtime_Semrelease", "(*sync.WaitGroup).Done", "(*sync.WaitGroup).Wait", "internal/race.Acquire", "internal/synctest.IsAssociated[sync.WaitGroup]", "sync/atomic.CompareAndSwapUint64", "internal/race.Write", "sync.runtime_SemacquireWaitGroup"], unfollowed := true, recurses := true, leaving := true, apart := false, narrowed := true }
def CisternsGreaterUptoSaid : Prop := cisternsGreaterUptoRow.holds Try.pinned (OpenSpec.upto cisternsGreaterSpec)

/-- 'steeninglaw10.CisternsLevel', WHERE WHAT IT READS IS OF BULK AT MOST 1048576: true; the input reads as it did. -/
def cisternsLevelUptoRow : OpenClaim := { program := "ytbmkacnlhlbnjaa", sum := "75f6de67df7f320bbc7cd24749fbd19f68429b042d253790c6b9b686edb00b8e", func := "steening/steeninglaw10.CisternsLevel", spec := "cisternsLevel", inPlace := ["(*sync.WaitGroup).Add", "internal/race.ReleaseMerge", "internal/race.Disable", "internal/race.Enable", "internal/synctest.IsInBubble", "internal/synctest.Associate[sync.WaitGroup]", "sync.fatal", "sync/atomic.OrUint64", "sync/atomic.AddUint64", "internal/race.Read", "sync/atomic.LoadUint64", "sync/atomic.StoreUint64", "internal/synctest.Disassociate[sync.WaitGroup]", "sync.runtime_Semrelease", "(*sync.WaitGroup).Done", "(*sync.WaitGroup).Wait", "internal/race.Acquire", "internal/synctest.IsAssociated[sync.WaitGroup]", "sync/atomic.CompareAndSwapUint64", "internal/race.Write", "sync.runtime_SemacquireWaitGroup"], unfollowed := true, recurses := true, leaving := true, apart := false, narrowed := true }
def CisternsLevelUptoSaid : Prop := cisternsLevelUptoRow.holds Try.pinned (OpenSpec.upto cisternsLevelSpec)

/-- 'steeninglaw10.CisternsJust', WHERE WHAT IT READS IS OF BULK AT MOST 1048576: true; the input reads as it did. -/
def cisternsJustUptoRow : OpenClaim := { program := "ytbmkacnlhlbnjaa", sum := "75f6de67df7f320bbc7cd24749fbd19f68429b042d253790c6b9b686edb00b8e", func := "steening/steeninglaw10.CisternsJust", spec := "cisternsJust", inPlace := ["(*sync.WaitGroup).Add", "internal/race.ReleaseMerge", "internal/race.Disable", "internal/race.Enable", "internal/synctest.IsInBubble", "internal/synctest.Associate[sync.WaitGroup]", "sync.fatal", "sync/atomic.OrUint64", "sync/atomic.AddUint64", "internal/race.Read", "sync/atomic.LoadUint64", "sync/atomic.StoreUint64", "internal/synctest.Disassociate[sync.WaitGroup]", "sync.runtime_Semrelease", "(*sync.WaitGroup).Done", "(*sync.WaitGroup).Wait", "internal/race.Acquire", "internal/synctest.IsAssociated[sync.WaitGroup]", "sync/atomic.CompareAndSwapUint64", "internal/race.Write", "sync.runtime_SemacquireWaitGroup"], unfollowed := true, recurses := true, leaving := true, apart := false, narrowed := true }
def CisternsJustUptoSaid : Prop := cisternsJustUptoRow.holds Try.pinned (OpenSpec.upto cisternsJustSpec)

/-- 'steeninglaw10.CisternsSize', WHERE WHAT IT READS IS OF BULK AT MOST 1048576: true; the input reads as it did. -/
def cisternsSizeUptoRow : OpenClaim := { program := "ytbmkacnlhlbnjaa", sum := "75f6de67df7f320bbc7cd24749fbd19f68429b042d253790c6b9b686edb00b8e", func := "steening/steeninglaw10.CisternsSize", spec := "cisternsSize", inPlace := ["(*sync.WaitGroup).Add", "internal/race.ReleaseMerge", "internal/race.Disable", "internal/race.Enable", "internal/synctest.IsInBubble", "internal/synctest.Associate[sync.WaitGroup]", "sync.fatal", "sync/atomic.OrUint64", "sync/atomic.AddUint64", "internal/race.Read", "sync/atomic.LoadUint64", "sync/atomic.StoreUint64", "internal/synctest.Disassociate[sync.WaitGroup]", "sync.runtime_Semrelease", "(*sync.WaitGroup).Done", "(*sync.WaitGroup).Wait", "internal/race.Acquire", "internal/synctest.IsAssociated[sync.WaitGroup]", "sync/atomic.CompareAndSwapUint64", "internal/race.Write", "sync.runtime_SemacquireWaitGroup"], unfollowed := true, recurses := true, leaving := true, apart := false, narrowed := true }
def CisternsSizeUptoSaid : Prop := cisternsSizeUptoRow.holds Try.pinned (OpenSpec.upto cisternsSizeSpec)

/-- 'steeninglaw10.CisternsDry', WHERE WHAT IT READS IS OF BULK AT MOST 1048576: true; the input reads as it did. -/
def cisternsDryUptoRow : OpenClaim := { program := "ytbmkacnlhlbnjaa", sum := "75f6de67df7f320bbc7cd24749fbd19f68429b042d253790c6b9b686edb00b8e", func := "steening/steeninglaw10.CisternsDry", spec := "cisternsDry", inPlace := ["(*sync.WaitGroup).Add", "internal/race.ReleaseMerge", "internal/race.Disable", "internal/race.Enable", "internal/synctest.IsInBubble", "internal/synctest.Associate[sync.WaitGroup]", "sync.fatal", "sync/atomic.OrUint64", "sync/atomic.AddUint64", "internal/race.Read", "sync/atomic.LoadUint64", "sync/atomic.StoreUint64", "internal/synctest.Disassociate[sync.WaitGroup]", "sync.runtime_Semrelease", "(*sync.WaitGroup).Done", "(*sync.WaitGroup).Wait", "internal/race.Acquire", "internal/synctest.IsAssociated[sync.WaitGroup]", "sync/atomic.CompareAndSwapUint64", "internal/race.Write", "sync.runtime_SemacquireWaitGroup"], unfollowed := true, recurses := true, leaving := true, apart := false, narrowed := true }
def CisternsDryUptoSaid : Prop := cisternsDryUptoRow.holds Try.pinned (OpenSpec.upto cisternsDrySpec)

/-- 'steeninglaw10.CisternsDoubt', WHERE WHAT IT READS IS OF BULK AT MOST 1048576: true; the input reads as it did. -/
def cisternsDoubtUptoRow : OpenClaim := { program := "ytbmkacnlhlbnjaa", sum := "75f6de67df7f320bbc7cd24749fbd19f68429b042d253790c6b9b686edb00b8e", func := "steening/steeninglaw10.CisternsDoubt", spec := "cisternsDoubt", inPlace := ["(*sync.WaitGroup).Add", "internal/race.ReleaseMerge", "internal/race.Disable", "internal/race.Enable", "internal/synctest.IsInBubble", "internal/synctest.Associate[sync.WaitGroup]", "sync.fatal", "sync/atomic.OrUint64", "sync/atomic.AddUint64", "internal/race.Read", "sync/atomic.LoadUint64", "sync/atomic.StoreUint64", "internal/synctest.Disassociate[sync.WaitGroup]", "sync.runtime_Semrelease", "(*sync.WaitGroup).Done", "(*sync.WaitGroup).Wait", "internal/race.Acquire", "internal/synctest.IsAssociated[sync.WaitGroup]", "sync/atomic.CompareAndSwapUint64", "internal/race.Write", "sync.runtime_SemacquireWaitGroup"], unfollowed := true, recurses := true, leaving := true, apart := false, narrowed := true }
def CisternsDoubtUptoSaid : Prop := cisternsDoubtUptoRow.holds Try.pinned (OpenSpec.upto cisternsDoubtSpec)

/-- 'steeninglaw10.CisternsEach', WHERE WHAT IT READS IS OF BULK AT MOST 1048576: true; the input reads as it did. -/
def cisternsEachUptoRow : OpenClaim := { program := "ytbmkacnlhlbnjaa", sum := "75f6de67df7f320bbc7cd24749fbd19f68429b042d253790c6b9b686edb00b8e", func := "steening/steeninglaw10.CisternsEach", spec := "cisternsEach", inPlace := ["(*sync.WaitGroup).Add", "internal/race.ReleaseMerge", "internal/race.Disable", "internal/race.Enable", "internal/synctest.IsInBubble", "internal/synctest.Associate[sync.WaitGroup]", "sync.fatal", "sync/atomic.OrUint64", "sync/atomic.AddUint64", "internal/race.Read", "sync/atomic.LoadUint64", "sync/atomic.StoreUint64", "internal/synctest.Disassociate[sync.WaitGroup]", "sync.runtime_Semrelease", "(*sync.WaitGroup).Done", "(*sync.WaitGroup).Wait", "internal/race.Acquire", "internal/synctest.IsAssociated[sync.WaitGroup]", "sync/atomic.CompareAndSwapUint64", "internal/race.Write", "sync.runtime_SemacquireWaitGroup"], unfollowed := true, recurses := true, leaving := true, apart := false, narrowed := true }
def CisternsEachUptoSaid : Prop := cisternsEachUptoRow.holds Try.pinned (OpenSpec.upto cisternsEachSpec)

end Rows
end Go.Proofs.Ytbmkacnlhlbnjaa
