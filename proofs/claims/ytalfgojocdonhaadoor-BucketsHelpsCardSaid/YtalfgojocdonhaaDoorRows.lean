/-
  NARROWER THAN 'FOR EVERY INPUT', by the rows' own cells (each row's printed sentence says how): BucketsHouse: laid · BucketsOrder: laid · BucketsBeside: laid · BucketsAll: laid · BucketsOne: laid · BucketsShort: laid · BucketsLacks: laid · BucketsGood: laid · BucketsHelps: laid · BucketsMore: laid · BucketsDry: laid · BucketsEach: laid.
  DERIVED. THE GIVEN ROWS OF THIS SEAT. 12 by the template 'for every input the law returns true; each argument reads behind the call as it read before'; 0 by the template 'total and deterministic' (their statements: YtalfgojocdonhaaDoorTotals.lean).
  GIVEN WITH THE SEED: the statements are not yours to turn. If you find one false, say at which input.
  Laid BY PROGRAM, IN A SANDBOX (cutbox-rows.mjs): the forced cells as the released guide's own fill.sh prints them over the translation a45331dbf8df75a2… (all of the seat's roots in one cut). By AI agents, Wed Nov 11 2026. No macro, syntax, notation, axiom, sorry.
-/
import Derived.Test.YtalfgojocdonhaaDoorChecked
import GoSem.Claim
import GoSem.ClaimJoined
import GoSem.ClaimMapViews
import Derived.JoinedTies
import Derived.KernelRfl
namespace Go.Proofs.YtalfgojocdonhaaDoor
/- THE CELL 'sum', in the pinned program and in every row, IS THE sha256 OF THE DUMP (.gsa) THAT YtalfgojocdonhaaDoorProg.lean LOADS. Nothing in Lean hashes anything: it is a label: what it is worth is what the hold of that sum in a sandbox is worth. -/
noncomputable def Tryd.pinned : Pinned := { name := "ytalfgojocdonhaadoor", sum := "a45331dbf8df75a272d5a2bbdd80e803b42f3d12b04fd27fdcf556fec6340657", checked := Tryd.checked }
namespace Rows
def none {H : Type} : Left H := { results := [], args := [] }

/- WHAT THE LISTED PACKAGE-LEVEL VARIABLES READ AS WHEN THE CALL BEGINS. Each datum BY PROGRAM (the guide's laid-datum.mjs) off the statement by which the dump's own 'gosem.cut.vars' lays the variable. In a bare row this is a premise. The card (YtalfgojocdonhaaDoorCards.lean) ties it to the program's text. -/
def laid_math_bits_deBruijn32tab {H : Type} : DataW H := .agg [.lit (.int .u8 0), .lit (.int .u8 1), .lit (.int .u8 28), .lit (.int .u8 2), .lit (.int .u8 29), .lit (.int .u8 14), .lit (.int .u8 24), .lit (.int .u8 3), .lit (.int .u8 30), .lit (.int .u8 22), .lit (.int .u8 20), .lit (.int .u8 15), .lit (.int .u8 25), .lit (.int .u8 17), .lit (.int .u8 4), .lit (.int .u8 8), .lit (.int .u8 31), .lit (.int .u8 27), .lit (.int .u8 13), .lit (.int .u8 23), .lit (.int .u8 21), .lit (.int .u8 19), .lit (.int .u8 16), .lit (.int .u8 7), .lit (.int .u8 26), .lit (.int .u8 12), .lit (.int .u8 18), .lit (.int .u8 6), .lit (.int .u8 11), .lit (.int .u8 5), .lit (.int .u8 10), .lit (.int .u8 9)]
def laid_math_bits_deBruijn64tab {H : Type} : DataW H := .agg [.lit (.int .u8 0), .lit (.int .u8 1), .lit (.int .u8 56), .lit (.int .u8 2), .lit (.int .u8 57), .lit (.int .u8 49), .lit (.int .u8 28), .lit (.int .u8 3), .lit (.int .u8 61), .lit (.int .u8 58), .lit (.int .u8 42), .lit (.int .u8 50), .lit (.int .u8 38), .lit (.int .u8 29), .lit (.int .u8 17), .lit (.int .u8 4), .lit (.int .u8 62), .lit (.int .u8 47), .lit (.int .u8 59), .lit (.int .u8 36), .lit (.int .u8 45), .lit (.int .u8 43), .lit (.int .u8 51), .lit (.int .u8 22), .lit (.int .u8 53), .lit (.int .u8 39), .lit (.int .u8 33), .lit (.int .u8 30), .lit (.int .u8 24), .lit (.int .u8 18), .lit (.int .u8 12), .lit (.int .u8 5), .lit (.int .u8 63), .lit (.int .u8 55), .lit (.int .u8 48), .lit (.int .u8 27), .lit (.int .u8 60), .lit (.int .u8 41), .lit (.int .u8 37), .lit (.int .u8 16), .lit (.int .u8 46), .lit (.int .u8 35), .lit (.int .u8 44), .lit (.int .u8 21), .lit (.int .u8 52), .lit (.int .u8 32), .lit (.int .u8 23), .lit (.int .u8 11), .lit (.int .u8 54), .lit (.int .u8 26), .lit (.int .u8 40), .lit (.int .u8 15), .lit (.int .u8 34), .lit (.int .u8 20), .lit (.int .u8 31), .lit (.int .u8 10), .lit (.int .u8 25), .lit (.int .u8 14), .lit (.int .u8 19), .lit (.int .u8 9), .lit (.int .u8 13), .lit (.int .u8 8), .lit (.int .u8 7), .lit (.int .u8 6)]
def laid_steening_buckets_none {H : Type} : DataW H := .agg [.lit (.int .i64 (-1)), .lit (.int .i64 (-1)), .lit (.int .i64 0)]

/-- 'steeninglaw03.BucketsHouse': WHATEVER THE INPUT: true; the input reads as it did. -/
def bucketsHouseSpec : ChangeSpec := { name := "bucketsHouse", fn := fun _ => fun
  | [d1, d2, d3] => { results := [.lit (.bool true)], args := [d1, d2, d3] }
  | _ => none }
def bucketsHouseRow : OpenClaim := { program := "ytalfgojocdonhaadoor", sum := "a45331dbf8df75a272d5a2bbdd80e803b42f3d12b04fd27fdcf556fec6340657", func := "steening/steeninglaw03.BucketsHouse", spec := "bucketsHouse", unfollowed := true, recurses := true, named := ["steening/buckets.none", "math/bits.deBruijn32tab", "math/bits.deBruijn64tab"], apart := false, laid := [("math/bits.deBruijn32tab", laid_math_bits_deBruijn32tab), ("math/bits.deBruijn64tab", laid_math_bits_deBruijn64tab), ("steening/buckets.none", laid_steening_buckets_none)] }
def BucketsHouseSaid : Prop := bucketsHouseRow.holds Tryd.pinned (OpenSpec.ofChange bucketsHouseSpec)

/-- ITS FALSE NEIGHBOUR: 'it returns false'. Refute it at one input. -/
def bucketsHouseWrong : ChangeSpec := { name := "bucketsHouse", fn := fun _ => fun
  | [d1, d2, d3] => { results := [.lit (.bool false)], args := [d1, d2, d3] }
  | _ => none }
def BucketsHouseWrongFalsely : Prop := bucketsHouseRow.holds Tryd.pinned (OpenSpec.ofChange bucketsHouseWrong)

/-- 'steeninglaw03.BucketsOrder': WHATEVER THE INPUT: true; the input reads as it did. -/
def bucketsOrderSpec : ChangeSpec := { name := "bucketsOrder", fn := fun _ => fun
  | [d1, d2, d3] => { results := [.lit (.bool true)], args := [d1, d2, d3] }
  | _ => none }
def bucketsOrderRow : OpenClaim := { program := "ytalfgojocdonhaadoor", sum := "a45331dbf8df75a272d5a2bbdd80e803b42f3d12b04fd27fdcf556fec6340657", func := "steening/steeninglaw03.BucketsOrder", spec := "bucketsOrder", unfollowed := true, recurses := true, named := ["steening/buckets.none", "math/bits.deBruijn32tab", "math/bits.deBruijn64tab"], apart := false, laid := [("math/bits.deBruijn32tab", laid_math_bits_deBruijn32tab), ("math/bits.deBruijn64tab", laid_math_bits_deBruijn64tab), ("steening/buckets.none", laid_steening_buckets_none)] }
def BucketsOrderSaid : Prop := bucketsOrderRow.holds Tryd.pinned (OpenSpec.ofChange bucketsOrderSpec)

/-- ITS FALSE NEIGHBOUR: 'it returns false'. Refute it at one input. -/
def bucketsOrderWrong : ChangeSpec := { name := "bucketsOrder", fn := fun _ => fun
  | [d1, d2, d3] => { results := [.lit (.bool false)], args := [d1, d2, d3] }
  | _ => none }
def BucketsOrderWrongFalsely : Prop := bucketsOrderRow.holds Tryd.pinned (OpenSpec.ofChange bucketsOrderWrong)

/-- 'steeninglaw03.BucketsBeside': WHATEVER THE INPUT: true; the input reads as it did. -/
def bucketsBesideSpec : ChangeSpec := { name := "bucketsBeside", fn := fun _ => fun
  | [d1, d2] => { results := [.lit (.bool true)], args := [d1, d2] }
  | _ => none }
def bucketsBesideRow : OpenClaim := { program := "ytalfgojocdonhaadoor", sum := "a45331dbf8df75a272d5a2bbdd80e803b42f3d12b04fd27fdcf556fec6340657", func := "steening/steeninglaw03.BucketsBeside", spec := "bucketsBeside", unfollowed := true, recurses := true, named := ["steening/buckets.none", "math/bits.deBruijn32tab", "math/bits.deBruijn64tab"], apart := false, laid := [("math/bits.deBruijn32tab", laid_math_bits_deBruijn32tab), ("math/bits.deBruijn64tab", laid_math_bits_deBruijn64tab), ("steening/buckets.none", laid_steening_buckets_none)] }
def BucketsBesideSaid : Prop := bucketsBesideRow.holds Tryd.pinned (OpenSpec.ofChange bucketsBesideSpec)

/-- ITS FALSE NEIGHBOUR: 'it returns false'. Refute it at one input. -/
def bucketsBesideWrong : ChangeSpec := { name := "bucketsBeside", fn := fun _ => fun
  | [d1, d2] => { results := [.lit (.bool false)], args := [d1, d2] }
  | _ => none }
def BucketsBesideWrongFalsely : Prop := bucketsBesideRow.holds Tryd.pinned (OpenSpec.ofChange bucketsBesideWrong)

/-- 'steeninglaw03.BucketsAll': WHATEVER THE INPUT: true; the input reads as it did. -/
def bucketsAllSpec : ChangeSpec := { name := "bucketsAll", fn := fun _ => fun
  | [d] => { results := [.lit (.bool true)], args := [d] }
  | _ => none }
def bucketsAllRow : OpenClaim := { program := "ytalfgojocdonhaadoor", sum := "a45331dbf8df75a272d5a2bbdd80e803b42f3d12b04fd27fdcf556fec6340657", func := "steening/steeninglaw03.BucketsAll", spec := "bucketsAll", unfollowed := true, recurses := true, named := ["steening/buckets.none", "math/bits.deBruijn32tab", "math/bits.deBruijn64tab"], apart := false, laid := [("math/bits.deBruijn32tab", laid_math_bits_deBruijn32tab), ("math/bits.deBruijn64tab", laid_math_bits_deBruijn64tab), ("steening/buckets.none", laid_steening_buckets_none)] }
def BucketsAllSaid : Prop := bucketsAllRow.holds Tryd.pinned (OpenSpec.ofChange bucketsAllSpec)

/-- ITS FALSE NEIGHBOUR: 'it returns false'. Refute it at one input. -/
def bucketsAllWrong : ChangeSpec := { name := "bucketsAll", fn := fun _ => fun
  | [d] => { results := [.lit (.bool false)], args := [d] }
  | _ => none }
def BucketsAllWrongFalsely : Prop := bucketsAllRow.holds Tryd.pinned (OpenSpec.ofChange bucketsAllWrong)

/-- 'steeninglaw03.BucketsOne': WHATEVER THE INPUT: true; the input reads as it did. -/
def bucketsOneSpec : ChangeSpec := { name := "bucketsOne", fn := fun _ => fun
  | [d1, d2] => { results := [.lit (.bool true)], args := [d1, d2] }
  | _ => none }
def bucketsOneRow : OpenClaim := { program := "ytalfgojocdonhaadoor", sum := "a45331dbf8df75a272d5a2bbdd80e803b42f3d12b04fd27fdcf556fec6340657", func := "steening/steeninglaw03.BucketsOne", spec := "bucketsOne", unfollowed := true, recurses := true, named := ["steening/buckets.none", "math/bits.deBruijn32tab", "math/bits.deBruijn64tab"], apart := false, laid := [("math/bits.deBruijn32tab", laid_math_bits_deBruijn32tab), ("math/bits.deBruijn64tab", laid_math_bits_deBruijn64tab), ("steening/buckets.none", laid_steening_buckets_none)] }
def BucketsOneSaid : Prop := bucketsOneRow.holds Tryd.pinned (OpenSpec.ofChange bucketsOneSpec)

/-- ITS FALSE NEIGHBOUR: 'it returns false'. Refute it at one input. -/
def bucketsOneWrong : ChangeSpec := { name := "bucketsOne", fn := fun _ => fun
  | [d1, d2] => { results := [.lit (.bool false)], args := [d1, d2] }
  | _ => none }
def BucketsOneWrongFalsely : Prop := bucketsOneRow.holds Tryd.pinned (OpenSpec.ofChange bucketsOneWrong)

/-- 'steeninglaw03.BucketsShort': WHATEVER THE INPUT: true; the input reads as it did. -/
def bucketsShortSpec : ChangeSpec := { name := "bucketsShort", fn := fun _ => fun
  | [d1, d2] => { results := [.lit (.bool true)], args := [d1, d2] }
  | _ => none }
def bucketsShortRow : OpenClaim := { program := "ytalfgojocdonhaadoor", sum := "a45331dbf8df75a272d5a2bbdd80e803b42f3d12b04fd27fdcf556fec6340657", func := "steening/steeninglaw03.BucketsShort", spec := "bucketsShort", unfollowed := true, recurses := true, named := ["steening/buckets.none", "math/bits.deBruijn32tab", "math/bits.deBruijn64tab"], apart := false, laid := [("math/bits.deBruijn32tab", laid_math_bits_deBruijn32tab), ("math/bits.deBruijn64tab", laid_math_bits_deBruijn64tab), ("steening/buckets.none", laid_steening_buckets_none)] }
def BucketsShortSaid : Prop := bucketsShortRow.holds Tryd.pinned (OpenSpec.ofChange bucketsShortSpec)

/-- ITS FALSE NEIGHBOUR: 'it returns false'. Refute it at one input. -/
def bucketsShortWrong : ChangeSpec := { name := "bucketsShort", fn := fun _ => fun
  | [d1, d2] => { results := [.lit (.bool false)], args := [d1, d2] }
  | _ => none }
def BucketsShortWrongFalsely : Prop := bucketsShortRow.holds Tryd.pinned (OpenSpec.ofChange bucketsShortWrong)

/-- 'steeninglaw03.BucketsLacks': WHATEVER THE INPUT: true; the input reads as it did. -/
def bucketsLacksSpec : ChangeSpec := { name := "bucketsLacks", fn := fun _ => fun
  | [d] => { results := [.lit (.bool true)], args := [d] }
  | _ => none }
def bucketsLacksRow : OpenClaim := { program := "ytalfgojocdonhaadoor", sum := "a45331dbf8df75a272d5a2bbdd80e803b42f3d12b04fd27fdcf556fec6340657", func := "steening/steeninglaw03.BucketsLacks", spec := "bucketsLacks", unfollowed := true, recurses := true, named := ["steening/buckets.none", "math/bits.deBruijn32tab", "math/bits.deBruijn64tab"], apart := false, laid := [("math/bits.deBruijn32tab", laid_math_bits_deBruijn32tab), ("math/bits.deBruijn64tab", laid_math_bits_deBruijn64tab), ("steening/buckets.none", laid_steening_buckets_none)] }
def BucketsLacksSaid : Prop := bucketsLacksRow.holds Tryd.pinned (OpenSpec.ofChange bucketsLacksSpec)

/-- ITS FALSE NEIGHBOUR: 'it returns false'. Refute it at one input. -/
def bucketsLacksWrong : ChangeSpec := { name := "bucketsLacks", fn := fun _ => fun
  | [d] => { results := [.lit (.bool false)], args := [d] }
  | _ => none }
def BucketsLacksWrongFalsely : Prop := bucketsLacksRow.holds Tryd.pinned (OpenSpec.ofChange bucketsLacksWrong)

/-- 'steeninglaw03.BucketsGood': WHATEVER THE INPUT: true; the input reads as it did. -/
def bucketsGoodSpec : ChangeSpec := { name := "bucketsGood", fn := fun _ => fun
  | [d1, d2] => { results := [.lit (.bool true)], args := [d1, d2] }
  | _ => none }
def bucketsGoodRow : OpenClaim := { program := "ytalfgojocdonhaadoor", sum := "a45331dbf8df75a272d5a2bbdd80e803b42f3d12b04fd27fdcf556fec6340657", func := "steening/steeninglaw03.BucketsGood", spec := "bucketsGood", unfollowed := true, recurses := true, named := ["steening/buckets.none", "math/bits.deBruijn32tab", "math/bits.deBruijn64tab"], apart := false, laid := [("math/bits.deBruijn32tab", laid_math_bits_deBruijn32tab), ("math/bits.deBruijn64tab", laid_math_bits_deBruijn64tab), ("steening/buckets.none", laid_steening_buckets_none)] }
def BucketsGoodSaid : Prop := bucketsGoodRow.holds Tryd.pinned (OpenSpec.ofChange bucketsGoodSpec)

/-- ITS FALSE NEIGHBOUR: 'it returns false'. Refute it at one input. -/
def bucketsGoodWrong : ChangeSpec := { name := "bucketsGood", fn := fun _ => fun
  | [d1, d2] => { results := [.lit (.bool false)], args := [d1, d2] }
  | _ => none }
def BucketsGoodWrongFalsely : Prop := bucketsGoodRow.holds Tryd.pinned (OpenSpec.ofChange bucketsGoodWrong)

/-- 'steeninglaw03.BucketsHelps': WHATEVER THE INPUT: true; the input reads as it did. -/
def bucketsHelpsSpec : ChangeSpec := { name := "bucketsHelps", fn := fun _ => fun
  | [d1, d2, d3] => { results := [.lit (.bool true)], args := [d1, d2, d3] }
  | _ => none }
def bucketsHelpsRow : OpenClaim := { program := "ytalfgojocdonhaadoor", sum := "a45331dbf8df75a272d5a2bbdd80e803b42f3d12b04fd27fdcf556fec6340657", func := "steening/steeninglaw03.BucketsHelps", spec := "bucketsHelps", unfollowed := true, recurses := true, named := ["steening/buckets.none", "math/bits.deBruijn32tab", "math/bits.deBruijn64tab"], apart := false, laid := [("math/bits.deBruijn32tab", laid_math_bits_deBruijn32tab), ("math/bits.deBruijn64tab", laid_math_bits_deBruijn64tab), ("steening/buckets.none", laid_steening_buckets_none)] }
def BucketsHelpsSaid : Prop := bucketsHelpsRow.holds Tryd.pinned (OpenSpec.ofChange bucketsHelpsSpec)

/-- ITS FALSE NEIGHBOUR: 'it returns false'. Refute it at one input. -/
def bucketsHelpsWrong : ChangeSpec := { name := "bucketsHelps", fn := fun _ => fun
  | [d1, d2, d3] => { results := [.lit (.bool false)], args := [d1, d2, d3] }
  | _ => none }
def BucketsHelpsWrongFalsely : Prop := bucketsHelpsRow.holds Tryd.pinned (OpenSpec.ofChange bucketsHelpsWrong)

/-- 'steeninglaw03.BucketsMore': WHATEVER THE INPUT: true; the input reads as it did. -/
def bucketsMoreSpec : ChangeSpec := { name := "bucketsMore", fn := fun _ => fun
  | [d1, d2] => { results := [.lit (.bool true)], args := [d1, d2] }
  | _ => none }
def bucketsMoreRow : OpenClaim := { program := "ytalfgojocdonhaadoor", sum := "a45331dbf8df75a272d5a2bbdd80e803b42f3d12b04fd27fdcf556fec6340657", func := "steening/steeninglaw03.BucketsMore", spec := "bucketsMore", unfollowed := true, recurses := true, named := ["steening/buckets.none", "math/bits.deBruijn32tab", "math/bits.deBruijn64tab"], apart := false, laid := [("math/bits.deBruijn32tab", laid_math_bits_deBruijn32tab), ("math/bits.deBruijn64tab", laid_math_bits_deBruijn64tab), ("steening/buckets.none", laid_steening_buckets_none)] }
def BucketsMoreSaid : Prop := bucketsMoreRow.holds Tryd.pinned (OpenSpec.ofChange bucketsMoreSpec)

/-- ITS FALSE NEIGHBOUR: 'it returns false'. Refute it at one input. -/
def bucketsMoreWrong : ChangeSpec := { name := "bucketsMore", fn := fun _ => fun
  | [d1, d2] => { results := [.lit (.bool false)], args := [d1, d2] }
  | _ => none }
def BucketsMoreWrongFalsely : Prop := bucketsMoreRow.holds Tryd.pinned (OpenSpec.ofChange bucketsMoreWrong)

/-- 'steeninglaw03.BucketsDry': WHATEVER THE INPUT: true; the input reads as it did. -/
def bucketsDrySpec : ChangeSpec := { name := "bucketsDry", fn := fun _ => fun
  | [d1, d2] => { results := [.lit (.bool true)], args := [d1, d2] }
  | _ => none }
def bucketsDryRow : OpenClaim := { program := "ytalfgojocdonhaadoor", sum := "a45331dbf8df75a272d5a2bbdd80e803b42f3d12b04fd27fdcf556fec6340657", func := "steening/steeninglaw03.BucketsDry", spec := "bucketsDry", unfollowed := true, recurses := true, named := ["steening/buckets.none", "math/bits.deBruijn32tab", "math/bits.deBruijn64tab"], apart := false, laid := [("math/bits.deBruijn32tab", laid_math_bits_deBruijn32tab), ("math/bits.deBruijn64tab", laid_math_bits_deBruijn64tab), ("steening/buckets.none", laid_steening_buckets_none)] }
def BucketsDrySaid : Prop := bucketsDryRow.holds Tryd.pinned (OpenSpec.ofChange bucketsDrySpec)

/-- ITS FALSE NEIGHBOUR: 'it returns false'. Refute it at one input. -/
def bucketsDryWrong : ChangeSpec := { name := "bucketsDry", fn := fun _ => fun
  | [d1, d2] => { results := [.lit (.bool false)], args := [d1, d2] }
  | _ => none }
def BucketsDryWrongFalsely : Prop := bucketsDryRow.holds Tryd.pinned (OpenSpec.ofChange bucketsDryWrong)

/-- 'steeninglaw03.BucketsEach': WHATEVER THE INPUT: true; the input reads as it did. -/
def bucketsEachSpec : ChangeSpec := { name := "bucketsEach", fn := fun _ => fun
  | [d1, d2] => { results := [.lit (.bool true)], args := [d1, d2] }
  | _ => none }
def bucketsEachRow : OpenClaim := { program := "ytalfgojocdonhaadoor", sum := "a45331dbf8df75a272d5a2bbdd80e803b42f3d12b04fd27fdcf556fec6340657", func := "steening/steeninglaw03.BucketsEach", spec := "bucketsEach", unfollowed := true, recurses := true, named := ["steening/buckets.none", "math/bits.deBruijn32tab", "math/bits.deBruijn64tab"], apart := false, laid := [("math/bits.deBruijn32tab", laid_math_bits_deBruijn32tab), ("math/bits.deBruijn64tab", laid_math_bits_deBruijn64tab), ("steening/buckets.none", laid_steening_buckets_none)] }
def BucketsEachSaid : Prop := bucketsEachRow.holds Tryd.pinned (OpenSpec.ofChange bucketsEachSpec)

/-- ITS FALSE NEIGHBOUR: 'it returns false'. Refute it at one input. -/
def bucketsEachWrong : ChangeSpec := { name := "bucketsEach", fn := fun _ => fun
  | [d1, d2] => { results := [.lit (.bool false)], args := [d1, d2] }
  | _ => none }
def BucketsEachWrongFalsely : Prop := bucketsEachRow.holds Tryd.pinned (OpenSpec.ofChange bucketsEachWrong)

/- THE SECOND FORM. 'bulk': how many values and letters a reading holds, each counted each time it is reached (what is shared counts as often as it is met; a slice's spare places count too). A statement '..UptoSaid' is the law's where the arguments, and the package variables that the reading takes, are together of bulk at most 1048576: NARROWER than '..Said'. Prove '..Said' where nothing that the law and all that it calls make is longer than what came in: it says more and counts as full. Else prove '..UptoSaid'. A law counts once. -/
mutual
def uptoBulk {H : Type} : DataW H → Nat
  | .lit (.string bytes) => bytes.length + 1
  | .lit _ => 1
  | .nil => 1
  | .ptr d => uptoBulk d + 1
  | .slice elems spare => uptoBulkAll elems + uptoBulkAll spare + 1
  | .agg parts => uptoBulkAll parts + 1
  | .iface _ d => uptoBulk d + 1
  | .map entries => uptoBulkEntries entries + 1
  | .held _ => 1
def uptoBulkAll {H : Type} : List (DataW H) → Nat
  | [] => 0
  | d :: r => uptoBulk d + uptoBulkAll r
def uptoBulkEntries {H : Type} : List (Lit × DataW H) → Nat
  | [] => 0
  | x :: r => uptoBulkEntry x + uptoBulkEntries r
def uptoBulkEntry {H : Type} : Lit × DataW H → Nat
  | (.string bytes, d) => bytes.length + uptoBulk d + 1
  | (_, d) => uptoBulk d + 1
 end
def uptoSmall : (H : Type) → List (DataW H) → Bool := fun _ ds => decide (uptoBulkAll ds ≤ 1048576)
def OpenSpec.upto (s : _root_.Go.ChangeSpec) : _root_.Go.OpenSpec := { _root_.Go.OpenSpec.ofChange s with cond := some uptoSmall }

/-- 'steeninglaw03.BucketsHouse', WHERE WHAT IT READS IS OF BULK AT MOST 1048576: true; the input reads as it did. -/
def bucketsHouseUptoRow : OpenClaim := { program := "ytalfgojocdonhaadoor", sum := "a45331dbf8df75a272d5a2bbdd80e803b42f3d12b04fd27fdcf556fec6340657", func := "steening/steeninglaw03.BucketsHouse", spec := "bucketsHouse", unfollowed := true, recurses := true, named := ["steening/buckets.none", "math/bits.deBruijn32tab", "math/bits.deBruijn64tab"], apart := false, laid := [("math/bits.deBruijn32tab", laid_math_bits_deBruijn32tab), ("math/bits.deBruijn64tab", laid_math_bits_deBruijn64tab), ("steening/buckets.none", laid_steening_buckets_none)], narrowed := true }
def BucketsHouseUptoSaid : Prop := bucketsHouseUptoRow.holds Tryd.pinned (OpenSpec.upto bucketsHouseSpec)

/-- 'steeninglaw03.BucketsOrder', WHERE WHAT IT READS IS OF BULK AT MOST 1048576: true; the input reads as it did. -/
def bucketsOrderUptoRow : OpenClaim := { program := "ytalfgojocdonhaadoor", sum := "a45331dbf8df75a272d5a2bbdd80e803b42f3d12b04fd27fdcf556fec6340657", func := "steening/steeninglaw03.BucketsOrder", spec := "bucketsOrder", unfollowed := true, recurses := true, named := ["steening/buckets.none", "math/bits.deBruijn32tab", "math/bits.deBruijn64tab"], apart := false, laid := [("math/bits.deBruijn32tab", laid_math_bits_deBruijn32tab), ("math/bits.deBruijn64tab", laid_math_bits_deBruijn64tab), ("steening/buckets.none", laid_steening_buckets_none)], narrowed := true }
def BucketsOrderUptoSaid : Prop := bucketsOrderUptoRow.holds Tryd.pinned (OpenSpec.upto bucketsOrderSpec)

/-- 'steeninglaw03.BucketsBeside', WHERE WHAT IT READS IS OF BULK AT MOST 1048576: true; the input reads as it did. -/
def bucketsBesideUptoRow : OpenClaim := { program := "ytalfgojocdonhaadoor", sum := "a45331dbf8df75a272d5a2bbdd80e803b42f3d12b04fd27fdcf556fec6340657", func := "steening/steeninglaw03.BucketsBeside", spec := "bucketsBeside", unfollowed := true, recurses := true, named := ["steening/buckets.none", "math/bits.deBruijn32tab", "math/bits.deBruijn64tab"], apart := false, laid := [("math/bits.deBruijn32tab", laid_math_bits_deBruijn32tab), ("math/bits.deBruijn64tab", laid_math_bits_deBruijn64tab), ("steening/buckets.none", laid_steening_buckets_none)], narrowed := true }
def BucketsBesideUptoSaid : Prop := bucketsBesideUptoRow.holds Tryd.pinned (OpenSpec.upto bucketsBesideSpec)

/-- 'steeninglaw03.BucketsAll', WHERE WHAT IT READS IS OF BULK AT MOST 1048576: true; the input reads as it did. -/
def bucketsAllUptoRow : OpenClaim := { program := "ytalfgojocdonhaadoor", sum := "a45331dbf8df75a272d5a2bbdd80e803b42f3d12b04fd27fdcf556fec6340657", func := "steening/steeninglaw03.BucketsAll", spec := "bucketsAll", unfollowed := true, recurses := true, named := ["steening/buckets.none", "math/bits.deBruijn32tab", "math/bits.deBruijn64tab"], apart := false, laid := [("math/bits.deBruijn32tab", laid_math_bits_deBruijn32tab), ("math/bits.deBruijn64tab", laid_math_bits_deBruijn64tab), ("steening/buckets.none", laid_steening_buckets_none)], narrowed := true }
def BucketsAllUptoSaid : Prop := bucketsAllUptoRow.holds Tryd.pinned (OpenSpec.upto bucketsAllSpec)

/-- 'steeninglaw03.BucketsOne', WHERE WHAT IT READS IS OF BULK AT MOST 1048576: true; the input reads as it did. -/
def bucketsOneUptoRow : OpenClaim := { program := "ytalfgojocdonhaadoor", sum := "a45331dbf8df75a272d5a2bbdd80e803b42f3d12b04fd27fdcf556fec6340657", func := "steening/steeninglaw03.BucketsOne", spec := "bucketsOne", unfollowed := true, recurses := true, named := ["steening/buckets.none", "math/bits.deBruijn32tab", "math/bits.deBruijn64tab"], apart := false, laid := [("math/bits.deBruijn32tab", laid_math_bits_deBruijn32tab), ("math/bits.deBruijn64tab", laid_math_bits_deBruijn64tab), ("steening/buckets.none", laid_steening_buckets_none)], narrowed := true }
def BucketsOneUptoSaid : Prop := bucketsOneUptoRow.holds Tryd.pinned (OpenSpec.upto bucketsOneSpec)

/-- 'steeninglaw03.BucketsShort', WHERE WHAT IT READS IS OF BULK AT MOST 1048576: true; the input reads as it did. -/
def bucketsShortUptoRow : OpenClaim := { program := "ytalfgojocdonhaadoor", sum := "a45331dbf8df75a272d5a2bbdd80e803b42f3d12b04fd27fdcf556fec6340657", func := "steening/steeninglaw03.BucketsShort", spec := "bucketsShort", unfollowed := true, recurses := true, named := ["steening/buckets.none", "math/bits.deBruijn32tab", "math/bits.deBruijn64tab"], apart := false, laid := [("math/bits.deBruijn32tab", laid_math_bits_deBruijn32tab), ("math/bits.deBruijn64tab", laid_math_bits_deBruijn64tab), ("steening/buckets.none", laid_steening_buckets_none)], narrowed := true }
def BucketsShortUptoSaid : Prop := bucketsShortUptoRow.holds Tryd.pinned (OpenSpec.upto bucketsShortSpec)

/-- 'steeninglaw03.BucketsLacks', WHERE WHAT IT READS IS OF BULK AT MOST 1048576: true; the input reads as it did. -/
def bucketsLacksUptoRow : OpenClaim := { program := "ytalfgojocdonhaadoor", sum := "a45331dbf8df75a272d5a2bbdd80e803b42f3d12b04fd27fdcf556fec6340657", func := "steening/steeninglaw03.BucketsLacks", spec := "bucketsLacks", unfollowed := true, recurses := true, named := ["steening/buckets.none", "math/bits.deBruijn32tab", "math/bits.deBruijn64tab"], apart := false, laid := [("math/bits.deBruijn32tab", laid_math_bits_deBruijn32tab), ("math/bits.deBruijn64tab", laid_math_bits_deBruijn64tab), ("steening/buckets.none", laid_steening_buckets_none)], narrowed := true }
def BucketsLacksUptoSaid : Prop := bucketsLacksUptoRow.holds Tryd.pinned (OpenSpec.upto bucketsLacksSpec)

/-- 'steeninglaw03.BucketsGood', WHERE WHAT IT READS IS OF BULK AT MOST 1048576: true; the input reads as it did. -/
def bucketsGoodUptoRow : OpenClaim := { program := "ytalfgojocdonhaadoor", sum := "a45331dbf8df75a272d5a2bbdd80e803b42f3d12b04fd27fdcf556fec6340657", func := "steening/steeninglaw03.BucketsGood", spec := "bucketsGood", unfollowed := true, recurses := true, named := ["steening/buckets.none", "math/bits.deBruijn32tab", "math/bits.deBruijn64tab"], apart := false, laid := [("math/bits.deBruijn32tab", laid_math_bits_deBruijn32tab), ("math/bits.deBruijn64tab", laid_math_bits_deBruijn64tab), ("steening/buckets.none", laid_steening_buckets_none)], narrowed := true }
def BucketsGoodUptoSaid : Prop := bucketsGoodUptoRow.holds Tryd.pinned (OpenSpec.upto bucketsGoodSpec)

/-- 'steeninglaw03.BucketsHelps', WHERE WHAT IT READS IS OF BULK AT MOST 1048576: true; the input reads as it did. -/
def bucketsHelpsUptoRow : OpenClaim := { program := "ytalfgojocdonhaadoor", sum := "a45331dbf8df75a272d5a2bbdd80e803b42f3d12b04fd27fdcf556fec6340657", func := "steening/steeninglaw03.BucketsHelps", spec := "bucketsHelps", unfollowed := true, recurses := true, named := ["steening/buckets.none", "math/bits.deBruijn32tab", "math/bits.deBruijn64tab"], apart := false, laid := [("math/bits.deBruijn32tab", laid_math_bits_deBruijn32tab), ("math/bits.deBruijn64tab", laid_math_bits_deBruijn64tab), ("steening/buckets.none", laid_steening_buckets_none)], narrowed := true }
def BucketsHelpsUptoSaid : Prop := bucketsHelpsUptoRow.holds Tryd.pinned (OpenSpec.upto bucketsHelpsSpec)

/-- 'steeninglaw03.BucketsMore', WHERE WHAT IT READS IS OF BULK AT MOST 1048576: true; the input reads as it did. -/
def bucketsMoreUptoRow : OpenClaim := { program := "ytalfgojocdonhaadoor", sum := "a45331dbf8df75a272d5a2bbdd80e803b42f3d12b04fd27fdcf556fec6340657", func := "steening/steeninglaw03.BucketsMore", spec := "bucketsMore", unfollowed := true, recurses := true, named := ["steening/buckets.none", "math/bits.deBruijn32tab", "math/bits.deBruijn64tab"], apart := false, laid := [("math/bits.deBruijn32tab", laid_math_bits_deBruijn32tab), ("math/bits.deBruijn64tab", laid_math_bits_deBruijn64tab), ("steening/buckets.none", laid_steening_buckets_none)], narrowed := true }
def BucketsMoreUptoSaid : Prop := bucketsMoreUptoRow.holds Tryd.pinned (OpenSpec.upto bucketsMoreSpec)

/-- 'steeninglaw03.BucketsDry', WHERE WHAT IT READS IS OF BULK AT MOST 1048576: true; the input reads as it did. -/
def bucketsDryUptoRow : OpenClaim := { program := "ytalfgojocdonhaadoor", sum := "a45331dbf8df75a272d5a2bbdd80e803b42f3d12b04fd27fdcf556fec6340657", func := "steening/steeninglaw03.BucketsDry", spec := "bucketsDry", unfollowed := true, recurses := true, named := ["steening/buckets.none", "math/bits.deBruijn32tab", "math/bits.deBruijn64tab"], apart := false, laid := [("math/bits.deBruijn32tab", laid_math_bits_deBruijn32tab), ("math/bits.deBruijn64tab", laid_math_bits_deBruijn64tab), ("steening/buckets.none", laid_steening_buckets_none)], narrowed := true }
def BucketsDryUptoSaid : Prop := bucketsDryUptoRow.holds Tryd.pinned (OpenSpec.upto bucketsDrySpec)

/-- 'steeninglaw03.BucketsEach', WHERE WHAT IT READS IS OF BULK AT MOST 1048576: true; the input reads as it did. -/
def bucketsEachUptoRow : OpenClaim := { program := "ytalfgojocdonhaadoor", sum := "a45331dbf8df75a272d5a2bbdd80e803b42f3d12b04fd27fdcf556fec6340657", func := "steening/steeninglaw03.BucketsEach", spec := "bucketsEach", unfollowed := true, recurses := true, named := ["steening/buckets.none", "math/bits.deBruijn32tab", "math/bits.deBruijn64tab"], apart := false, laid := [("math/bits.deBruijn32tab", laid_math_bits_deBruijn32tab), ("math/bits.deBruijn64tab", laid_math_bits_deBruijn64tab), ("steening/buckets.none", laid_steening_buckets_none)], narrowed := true }
def BucketsEachUptoSaid : Prop := bucketsEachUptoRow.holds Tryd.pinned (OpenSpec.upto bucketsEachSpec)

end Rows
end Go.Proofs.YtalfgojocdonhaaDoor
