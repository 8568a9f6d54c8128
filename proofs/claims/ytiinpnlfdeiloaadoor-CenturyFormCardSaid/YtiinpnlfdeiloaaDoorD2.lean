/-
  Part of proofs about the century: a lone run, and what it computes. No condition.
-/
import Derived.Shelf.LaysM
import Derived.Shelf.Strconv.Itoa3
import Derived.Shelf.Strings.Search3
import Derived.Shelf.Strings.Count
import Derived.Shelf.Strings.Prefix
import Derived.Shelf.Strings.Split
import Derived.Shelf.Strings.Repeat
import Derived.Test.YtiinpnlfdeiloaaDoorProg
import Derived.Test.YtiinpnlfdeiloaaDoorD1
import Derived.Calls
import Derived.Carry
import Derived.Lib.AppendIntMem
import Derived.KernelRfl
import Derived.Shelf.Strings.BuilderK
import Derived.Test.YtiinpnlfdeiloaaDoorRows
import Derived.Lay
import Derived.Lib.LaidTab
import Derived.LaidSub
import Derived.MakeChecks
import Derived.JoinedOf
import Derived.Handed
import Derived.ChangeMaps5
import Derived.ProofKit
import Derived.Lib.ConvBytes
namespace Go.Proofs
open Go.Shelf
def Tryd.laysM171_ren : Go.Shelf.Ren := ⟨fun | 171 => 70 | 243 => 84 | 246 => 99 | 283 => 109 | 284 => 110 | 285 => 111 | 286 => 112 | 129 => 120 | 317 => 119 | 318 => 121 | 319 => 122 | 320 => 123 | 337 => 126 | 338 => 127 | n => n, fun | 3 => 3 | 9 => 9 | 2 => 2 | 4 => 4 | 171 => 120 | 0 => 0 | 53 => 112 | 37 => 37 | 5 => 5 | 173 => 123 | 212 => 128 | 51 => 109 | 20 => 20 | 213 => 129 | 46 => 94 | 232 => 137 | 233 => 138 | n => n, fun | 17 => 1 | 18 => 4 | 19 => 5 | n => n⟩
theorem Tryd.laysM171 : Go.Proofs.LaysM.n171 Tryd.prog Tryd.laysM171_ren := {
  mixed := by kernel_rfl
  f129 := Tryd.func120.trans (congrArg some (by kernel_rfl))
  f171 := Tryd.func70.trans (congrArg some (by kernel_rfl))
  f243 := Tryd.func84.trans (congrArg some (by kernel_rfl))
  f246 := Tryd.func99.trans (congrArg some (by kernel_rfl))
  f283 := Tryd.func109.trans (congrArg some (by kernel_rfl))
  f284 := Tryd.func110.trans (congrArg some (by kernel_rfl))
  f285 := Tryd.func111.trans (congrArg some (by kernel_rfl))
  f286 := Tryd.func112.trans (congrArg some (by kernel_rfl))
  f317 := Tryd.func119.trans (congrArg some (by kernel_rfl))
  f318 := Tryd.func121.trans (congrArg some (by kernel_rfl))
  f319 := Tryd.func122.trans (congrArg some (by kernel_rfl))
  f320 := Tryd.func123.trans (congrArg some (by kernel_rfl))
  f337 := Tryd.func126.trans (congrArg some (by kernel_rfl))
  f338 := Tryd.func127.trans (congrArg some (by kernel_rfl))
  t0 := Tryd.underlying0
  a0 := Tryd.isAgg0
  z0 := Tryd.sizeOf0
  v0 := Tryd.zeroValue0
  t2 := Tryd.underlying2
  a2 := Tryd.isAgg2
  z2 := Tryd.sizeOf2
  v2 := Tryd.zeroValue2
  t3 := Tryd.underlying3
  a3 := Tryd.isAgg3
  z3 := Tryd.sizeOf3
  v3 := Tryd.zeroValue3
  t4 := Tryd.underlying4
  a4 := Tryd.isAgg4
  z4 := Tryd.sizeOf4
  v4 := Tryd.zeroValue4
  t5 := Tryd.underlying5
  a5 := Tryd.isAgg5
  z5 := Tryd.sizeOf5
  v5 := Tryd.zeroValue5
  t9 := Tryd.underlying9
  a9 := Tryd.isAgg9
  z9 := Tryd.sizeOf9
  v9 := Tryd.zeroValue9
  t20 := Tryd.underlying20
  a20 := Tryd.isAgg20
  z20 := Tryd.sizeOf20
  v20 := Tryd.zeroValue20
  t37 := Tryd.underlying37
  a37 := Tryd.isAgg37
  z37 := Tryd.sizeOf37
  v37 := Tryd.zeroValue37
  t46 := Tryd.underlying94
  a46 := Tryd.isAgg94
  z46 := Tryd.sizeOf94
  v46 := Tryd.zeroValue94
  t51 := Tryd.underlying109
  a51 := Tryd.isAgg109
  z51 := Tryd.sizeOf109
  v51 := Tryd.zeroValue109
  t53 := Tryd.underlying112
  a53 := Tryd.isAgg112
  z53 := Tryd.sizeOf112
  v53 := Tryd.zeroValue112
  t171 := Tryd.underlying120
  a171 := Tryd.isAgg120
  z171 := Tryd.sizeOf120
  v171 := Tryd.zeroValue120
  t173 := Tryd.underlying123
  a173 := Tryd.isAgg123
  z173 := Tryd.sizeOf123
  v173 := Tryd.zeroValue123
  t212 := Tryd.underlying128
  a212 := Tryd.isAgg128
  z212 := Tryd.sizeOf128
  v212 := Tryd.zeroValue128
  t213 := Tryd.underlying129
  a213 := Tryd.isAgg129
  z213 := Tryd.sizeOf129
  t232 := Tryd.underlying137
  a232 := Tryd.isAgg137
  z232 := Tryd.sizeOf137
  v232 := Tryd.zeroValue137
  t233 := Tryd.underlying138
  a233 := Tryd.isAgg138
  z233 := Tryd.sizeOf138
  v233 := Tryd.zeroValue138
  g17 := by kernel_rfl
  g18 := by kernel_rfl
  g19 := by kernel_rfl
  i0 := by kernel_rfl
  i2 := by kernel_rfl
  i3 := by kernel_rfl
  i4 := by kernel_rfl
  i5 := by kernel_rfl
  i9 := by kernel_rfl
  i20 := by kernel_rfl
  i37 := by kernel_rfl
  i46 := by kernel_rfl
  i51 := by kernel_rfl
  i53 := by kernel_rfl
  i171 := by kernel_rfl
  i173 := by kernel_rfl
  i212 := by kernel_rfl
  i232 := by kernel_rfl
  i233 := by kernel_rfl
  m17 := by kernel_rfl
  m18 := by kernel_rfl
  m19 := by kernel_rfl }
open Go.RowKit Go.Sort Go.Lib in
theorem Tryd.strconv_Itoa (n : Int) (h0 : -9223372036854775808 ≤ n) (h1 : n ≤ 9223372036854775807) (w : World) (htab : Lib.TabIs Tryd.prog w "internal/strconv.uint64pow10" .u64 Lib.pow10Tab) :
    Calls Tryd.prog 70 #[.int .i64 n] w fun e w' => e = .returned (.string ⟨(Lib.itoa n).toArray⟩) ∧ ∃ k os, w' = grow (w.drewN k) os := Any.strconv_Itoa Tryd.laysM171 n h0 h1 w htab
def Tryd.lays143_ren : Go.Shelf.Ren := ⟨fun | 143 => 91 | 219 => 107 | 217 => 115 | 225 => 116 | 224 => 117 | 267 => 118 | 266 => 124 | 314 => 125 | n => n, fun | 9 => 9 | 3 => 3 | 4 => 4 | 5 => 5 | 46 => 94 | 146 => 110 | 51 => 109 | n => n, fun | 1 => 0 | n => n⟩
theorem Tryd.lays143 : Go.Proofs.Lays.n143 Tryd.prog Tryd.lays143_ren := {
  mixed := by kernel_rfl
  f143 := Tryd.func91.trans (congrArg some (by kernel_rfl))
  f217 := Tryd.func115.trans (congrArg some (by kernel_rfl))
  f219 := Tryd.func107.trans (congrArg some (by kernel_rfl))
  f224 := Tryd.func117.trans (congrArg some (by kernel_rfl))
  f225 := Tryd.func116.trans (congrArg some (by kernel_rfl))
  f266 := Tryd.func124.trans (congrArg some (by kernel_rfl))
  f267 := Tryd.func118.trans (congrArg some (by kernel_rfl))
  f314 := Tryd.func125.trans (congrArg some (by kernel_rfl))
  t3 := Tryd.underlying3
  a3 := Tryd.isAgg3
  z3 := Tryd.sizeOf3
  v3 := Tryd.zeroValue3
  t4 := Tryd.underlying4
  a4 := Tryd.isAgg4
  z4 := Tryd.sizeOf4
  v4 := Tryd.zeroValue4
  t5 := Tryd.underlying5
  a5 := Tryd.isAgg5
  z5 := Tryd.sizeOf5
  v5 := Tryd.zeroValue5
  t9 := Tryd.underlying9
  a9 := Tryd.isAgg9
  z9 := Tryd.sizeOf9
  v9 := Tryd.zeroValue9
  t46 := Tryd.underlying94
  a46 := Tryd.isAgg94
  z46 := Tryd.sizeOf94
  v46 := Tryd.zeroValue94
  t51 := Tryd.underlying109
  a51 := Tryd.isAgg109
  z51 := Tryd.sizeOf109
  v51 := Tryd.zeroValue109
  t146 := Tryd.underlying110
  a146 := Tryd.isAgg110
  z146 := Tryd.sizeOf110
  v146 := Tryd.zeroValue110
  g1 := by kernel_rfl }
open Go.RowKit Go.Lib in
theorem Tryd.strings_Index_one (s : ByteArray) (c : UInt8) (w : World) :
    Calls Tryd.prog 91 #[.string s, .string ⟨#[c]⟩] w fun e w' => e = .returned (.int .i64 (Lib.indexByte s.data.toList c)) ∧ w' = w := Any.strings_Index_one Tryd.lays143 s c w
def Tryd.lays138_ren : Go.Shelf.Ren := ⟨fun | 138 => 90 | 195 => 104 | 218 => 106 | 143 => 91 | 219 => 107 | 217 => 115 | 225 => 116 | 224 => 117 | 267 => 118 | 266 => 124 | 314 => 125 | n => n, fun | 9 => 9 | 3 => 3 | 4 => 4 | 5 => 5 | 0 => 0 | 46 => 94 | 146 => 110 | 51 => 109 | n => n, fun | 1 => 0 | n => n⟩
theorem Tryd.lays138 : Go.Proofs.Lays.n138 Tryd.prog Tryd.lays138_ren := {
  mixed := by kernel_rfl
  f138 := Tryd.func90.trans (congrArg some (by kernel_rfl))
  f143 := Tryd.func91.trans (congrArg some (by kernel_rfl))
  f195 := Tryd.func104.trans (congrArg some (by kernel_rfl))
  f217 := Tryd.func115.trans (congrArg some (by kernel_rfl))
  f218 := Tryd.func106.trans (congrArg some (by kernel_rfl))
  f219 := Tryd.func107.trans (congrArg some (by kernel_rfl))
  f224 := Tryd.func117.trans (congrArg some (by kernel_rfl))
  f225 := Tryd.func116.trans (congrArg some (by kernel_rfl))
  f266 := Tryd.func124.trans (congrArg some (by kernel_rfl))
  f267 := Tryd.func118.trans (congrArg some (by kernel_rfl))
  f314 := Tryd.func125.trans (congrArg some (by kernel_rfl))
  t0 := Tryd.underlying0
  a0 := Tryd.isAgg0
  z0 := Tryd.sizeOf0
  v0 := Tryd.zeroValue0
  t3 := Tryd.underlying3
  a3 := Tryd.isAgg3
  z3 := Tryd.sizeOf3
  v3 := Tryd.zeroValue3
  t4 := Tryd.underlying4
  a4 := Tryd.isAgg4
  z4 := Tryd.sizeOf4
  v4 := Tryd.zeroValue4
  t5 := Tryd.underlying5
  a5 := Tryd.isAgg5
  z5 := Tryd.sizeOf5
  v5 := Tryd.zeroValue5
  t9 := Tryd.underlying9
  a9 := Tryd.isAgg9
  z9 := Tryd.sizeOf9
  v9 := Tryd.zeroValue9
  t46 := Tryd.underlying94
  a46 := Tryd.isAgg94
  z46 := Tryd.sizeOf94
  v46 := Tryd.zeroValue94
  t51 := Tryd.underlying109
  a51 := Tryd.isAgg109
  z51 := Tryd.sizeOf109
  v51 := Tryd.zeroValue109
  t146 := Tryd.underlying110
  a146 := Tryd.isAgg110
  z146 := Tryd.sizeOf110
  v146 := Tryd.zeroValue110
  g1 := by kernel_rfl }
open Go.RowKit Go.Lib in
theorem Tryd.strings_Count_one (s : ByteArray) (c : UInt8) (w : World) :
    Calls Tryd.prog 90 #[.string s, .string ⟨#[c]⟩] w fun e w' => e = .returned (.int .i64 (Lib.countByte s.data.toList c)) ∧ w' = w := Any.strings_Count_one Tryd.lays138 s c w
def Tryd.lays102_ren : Go.Shelf.Ren := ⟨fun | 102 => 56 | 209 => 73 | 207 => 92 | n => n, fun | 9 => 9 | 4 => 4 | 3 => 3 | n => n, fun | n => n⟩
theorem Tryd.lays102 : Go.Proofs.Lays.n102 Tryd.prog Tryd.lays102_ren := {
  mixed := by kernel_rfl
  f102 := Tryd.func56.trans (congrArg some (by kernel_rfl))
  f207 := Tryd.func92.trans (congrArg some (by kernel_rfl))
  f209 := Tryd.func73.trans (congrArg some (by kernel_rfl))
  t3 := Tryd.underlying3
  a3 := Tryd.isAgg3
  z3 := Tryd.sizeOf3
  v3 := Tryd.zeroValue3
  t4 := Tryd.underlying4
  a4 := Tryd.isAgg4
  z4 := Tryd.sizeOf4
  v4 := Tryd.zeroValue4
  t9 := Tryd.underlying9
  a9 := Tryd.isAgg9
  z9 := Tryd.sizeOf9
  v9 := Tryd.zeroValue9 }
open Go.RowKit Go.Lib in
theorem Tryd.strings_TrimSuffix (s p : ByteArray) (w : World) (hs : s.size ≤ 9223372036854775807) :
    Calls Tryd.prog 56 #[.string s, .string p] w fun e w' => e = .returned (.string ⟨(Lib.trimSuffix s.data.toList p.data.toList).toArray⟩) ∧ w' = w := Any.strings_TrimSuffix Tryd.lays102 s p w hs
def Tryd.lays221_ren : Go.Shelf.Ren := ⟨fun | 221 => 72 | 268 => 89 | 138 => 90 | 143 => 91 | 195 => 104 | 197 => 105 | 218 => 106 | 219 => 107 | 260 => 114 | 217 => 115 | 225 => 116 | 224 => 117 | 267 => 118 | 266 => 124 | 314 => 125 | n => n, fun | 9 => 9 | 3 => 3 | 31 => 22 | 4 => 4 | 0 => 0 | 105 => 115 | 21 => 21 | 5 => 5 | 46 => 94 | 119 => 131 | 139 => 134 | 138 => 133 | 146 => 110 | 51 => 109 | n => n, fun | 1 => 0 | 3 => 2 | 4 => 3 | n => n⟩
theorem Tryd.lays221 : Go.Proofs.Lays.n221 Tryd.prog Tryd.lays221_ren := {
  mixed := by kernel_rfl
  f138 := Tryd.func90.trans (congrArg some (by kernel_rfl))
  f143 := Tryd.func91.trans (congrArg some (by kernel_rfl))
  f195 := Tryd.func104.trans (congrArg some (by kernel_rfl))
  f197 := Tryd.func105.trans (congrArg some (by kernel_rfl))
  f217 := Tryd.func115.trans (congrArg some (by kernel_rfl))
  f218 := Tryd.func106.trans (congrArg some (by kernel_rfl))
  f219 := Tryd.func107.trans (congrArg some (by kernel_rfl))
  f221 := Tryd.func72.trans (congrArg some (by kernel_rfl))
  f224 := Tryd.func117.trans (congrArg some (by kernel_rfl))
  f225 := Tryd.func116.trans (congrArg some (by kernel_rfl))
  f260 := Tryd.func114.trans (congrArg some (by kernel_rfl))
  f266 := Tryd.func124.trans (congrArg some (by kernel_rfl))
  f267 := Tryd.func118.trans (congrArg some (by kernel_rfl))
  f268 := Tryd.func89.trans (congrArg some (by kernel_rfl))
  f314 := Tryd.func125.trans (congrArg some (by kernel_rfl))
  t0 := Tryd.underlying0
  a0 := Tryd.isAgg0
  z0 := Tryd.sizeOf0
  v0 := Tryd.zeroValue0
  t3 := Tryd.underlying3
  a3 := Tryd.isAgg3
  z3 := Tryd.sizeOf3
  v3 := Tryd.zeroValue3
  t4 := Tryd.underlying4
  a4 := Tryd.isAgg4
  z4 := Tryd.sizeOf4
  v4 := Tryd.zeroValue4
  t5 := Tryd.underlying5
  a5 := Tryd.isAgg5
  z5 := Tryd.sizeOf5
  v5 := Tryd.zeroValue5
  t9 := Tryd.underlying9
  a9 := Tryd.isAgg9
  z9 := Tryd.sizeOf9
  v9 := Tryd.zeroValue9
  t21 := Tryd.underlying21
  a21 := Tryd.isAgg21
  z21 := Tryd.sizeOf21
  v21 := Tryd.zeroValue21
  t31 := Tryd.underlying22
  a31 := Tryd.isAgg22
  z31 := Tryd.sizeOf22
  v31 := Tryd.zeroValue22
  t46 := Tryd.underlying94
  a46 := Tryd.isAgg94
  z46 := Tryd.sizeOf94
  v46 := Tryd.zeroValue94
  t51 := Tryd.underlying109
  a51 := Tryd.isAgg109
  z51 := Tryd.sizeOf109
  v51 := Tryd.zeroValue109
  t105 := Tryd.underlying115
  a105 := Tryd.isAgg115
  z105 := Tryd.sizeOf115
  v105 := Tryd.zeroValue115
  t119 := Tryd.underlying131
  a119 := Tryd.isAgg131
  z119 := Tryd.sizeOf131
  t138 := Tryd.underlying133
  a138 := Tryd.isAgg133
  z138 := Tryd.sizeOf133
  v138 := Tryd.zeroValue133
  t139 := Tryd.underlying134
  a139 := Tryd.isAgg134
  z139 := Tryd.sizeOf134
  v139 := Tryd.zeroValue134
  t146 := Tryd.underlying110
  a146 := Tryd.isAgg110
  z146 := Tryd.sizeOf110
  v146 := Tryd.zeroValue110
  g1 := by kernel_rfl
  g3 := by kernel_rfl
  g4 := by kernel_rfl }
def Tryd.lays105_ren : Go.Shelf.Ren := ⟨fun | 105 => 71 | 212 => 85 | 99 => 86 | 165 => 87 | 166 => 82 | 170 => 88 | 169 => 79 | 263 => 100 | 264 => 101 | 206 => 102 | 240 => 95 | 241 => 103 | 276 => 108 | 277 => 113 | n => n, fun | 9 => 9 | 3 => 3 | 4 => 4 | 20 => 20 | 0 => 0 | 46 => 94 | 109 => 95 | 5 => 5 | 72 => 83 | 76 => 91 | 51 => 109 | 146 => 110 | 53 => 112 | 148 => 113 | 70 => 81 | 37 => 37 | 75 => 87 | 127 => 105 | 164 => 118 | 80 => 89 | n => n, fun | n => n⟩
theorem Tryd.lays105 : Go.Proofs.Lays.n105 Tryd.prog Tryd.lays105_ren := {
  mixed := by kernel_rfl
  f99 := Tryd.func86.trans (congrArg some (by kernel_rfl))
  f105 := Tryd.func71.trans (congrArg some (by kernel_rfl))
  f165 := Tryd.func87.trans (congrArg some (by kernel_rfl))
  f166 := Tryd.func82.trans (congrArg some (by kernel_rfl))
  f169 := Tryd.func79.trans (congrArg some (by kernel_rfl))
  f170 := Tryd.func88.trans (congrArg some (by kernel_rfl))
  f206 := Tryd.func102.trans (congrArg some (by kernel_rfl))
  f212 := Tryd.func85.trans (congrArg some (by kernel_rfl))
  f240 := Tryd.func95.trans (congrArg some (by kernel_rfl))
  f241 := Tryd.func103.trans (congrArg some (by kernel_rfl))
  f263 := Tryd.func100.trans (congrArg some (by kernel_rfl))
  f264 := Tryd.func101.trans (congrArg some (by kernel_rfl))
  f276 := Tryd.func108.trans (congrArg some (by kernel_rfl))
  f277 := Tryd.func113.trans (congrArg some (by kernel_rfl))
  t0 := Tryd.underlying0
  a0 := Tryd.isAgg0
  z0 := Tryd.sizeOf0
  v0 := Tryd.zeroValue0
  t3 := Tryd.underlying3
  a3 := Tryd.isAgg3
  z3 := Tryd.sizeOf3
  v3 := Tryd.zeroValue3
  t4 := Tryd.underlying4
  a4 := Tryd.isAgg4
  z4 := Tryd.sizeOf4
  v4 := Tryd.zeroValue4
  t5 := Tryd.underlying5
  a5 := Tryd.isAgg5
  z5 := Tryd.sizeOf5
  v5 := Tryd.zeroValue5
  t9 := Tryd.underlying9
  a9 := Tryd.isAgg9
  z9 := Tryd.sizeOf9
  v9 := Tryd.zeroValue9
  t20 := Tryd.underlying20
  a20 := Tryd.isAgg20
  z20 := Tryd.sizeOf20
  v20 := Tryd.zeroValue20
  t37 := Tryd.underlying37
  a37 := Tryd.isAgg37
  z37 := Tryd.sizeOf37
  v37 := Tryd.zeroValue37
  t46 := Tryd.underlying94
  a46 := Tryd.isAgg94
  z46 := Tryd.sizeOf94
  v46 := Tryd.zeroValue94
  t51 := Tryd.underlying109
  a51 := Tryd.isAgg109
  z51 := Tryd.sizeOf109
  v51 := Tryd.zeroValue109
  t53 := Tryd.underlying112
  a53 := Tryd.isAgg112
  z53 := Tryd.sizeOf112
  v53 := Tryd.zeroValue112
  t70 := Tryd.underlying81
  a70 := Tryd.isAgg81
  z70 := Tryd.sizeOf81
  v70 := Tryd.zeroValue81
  t72 := Tryd.underlying83
  a72 := Tryd.isAgg83
  z72 := Tryd.sizeOf83
  v72 := Tryd.zeroValue83
  t75 := Tryd.underlying87
  a75 := Tryd.isAgg87
  z75 := Tryd.sizeOf87
  v75 := Tryd.zeroValue87
  t76 := Tryd.underlying91
  a76 := Tryd.isAgg91
  z76 := Tryd.sizeOf91
  v76 := Tryd.zeroValue91
  t109 := Tryd.underlying95
  a109 := Tryd.isAgg95
  z109 := Tryd.sizeOf95
  v109 := Tryd.zeroValue95
  t127 := Tryd.underlying105
  a127 := Tryd.isAgg105
  z127 := Tryd.sizeOf105
  v127 := Tryd.zeroValue105
  t146 := Tryd.underlying110
  a146 := Tryd.isAgg110
  z146 := Tryd.sizeOf110
  v146 := Tryd.zeroValue110
  t148 := Tryd.underlying113
  a148 := Tryd.isAgg113
  z148 := Tryd.sizeOf113
  v148 := Tryd.zeroValue113
  t164 := Tryd.underlying118
  a164 := Tryd.isAgg118
  z164 := Tryd.sizeOf118
  v164 := Tryd.zeroValue118 }
theorem Tryd.Builder_Extra_105 : Builder.Extra Tryd.prog Tryd.lays105_ren := {
  sizeBuilder := by kernel_rfl
  liesBuilder := by kernel_rfl
  t5 := Tryd.underlying5
  a5 := Tryd.isAgg5
  z5 := Tryd.sizeOf5
  v5 := Tryd.zeroValue5
  infoByte := by kernel_rfl
  cellsByte := by kernel_rfl
  sizeByte := by kernel_rfl
  neB5 := by decide }
open Go.RowKit Go.Lib in
theorem Tryd.strings_Repeat (s : ByteArray) (c : Nat) (w : World) (hc : c ≤ 9223372036854775807) (hlen : s.size * c ≤ 140737488355328) :
    Calls Tryd.prog 71 #[.string s, .int .i64 c] w fun e w' => e = .returned (.string ⟨(Lib.repeatL s.data.toList c).toArray⟩) ∧ Below w.heap.size w w' := Any.strings_Repeat Tryd.lays105 Tryd.Builder_Extra_105 s c w hc hlen
end Go.Proofs
namespace Go.X
open Go.Conc Go.RowKit

section
variable {P : Program} {f : FuncId} {args : Array Value} {h : Heap} {w : World} {R : Value → Heap → Prop}

theorem callsX_of_calls (x : ∀ w : World, w.heap = h → Calls P f args w fun e w' => ∃ v, e = .returned v ∧ R v w'.heap ∧ Calm w w') : CallsX P .lone f args h R := by
  intro c cs Stop z w hw
  obtain ⟨e, w', fr, ⟨v, rfl, hR, hc⟩, hs, _, hl⟩ := x w hw (c :: cs)
  obtain ⟨g2, w2, a2, b2, c2⟩ := z v w'.heap hR w' rfl
  have hs' : Steps P (solo (G (Frame.enter P f args .normal) (c :: cs)) w) (solo (G fr (c :: cs)) w') := hs
  have h1 : step P (solo (G fr (c :: cs)) w') = .next (solo (G (c.finish v) cs) w') := step_leave_returned hl
  exact ⟨g2, w2, hs'.trans (.head h1 a2), b2, hc.trans c2⟩

/-- It stands at its return. -/
def StopL (P : Program) (f : FuncId) (cs : List Frame) (R : Value → Heap → Prop) (g : Goroutine) (h : Heap) : Prop :=
  ∃ fr v, g = G fr cs ∧ fr.fn = f ∧ (∀ w, fr.leaving P w (.returned v)) ∧ R v h
def EntersL (P : Program) (f : FuncId) (args : Array Value) (h : Heap) (R : Value → Heap → Prop) : Prop := ∀ cs, Reach P .lone (G (Frame.enter P f args .normal) cs) h (StopL P f cs R)

theorem calls_of_enters (x : EntersL P f args w.heap R) : Calls P f args w fun e w' => ∃ v, e = .returned v ∧ R v w'.heap ∧ Calm w w' := by
  intro cs
  obtain ⟨g', w', a, ⟨fr, v, rfl, hf, hl, hR⟩, c⟩ := x cs w rfl
  exact ⟨.returned v, w', fr, ⟨v, rfl, hR, c⟩, a, hf, hl w'⟩

theorem enters_introL {Φ : Heap → Prop} {tm : List Value} {fn : Func} {c : Code} (hf : P.funcs[f]? = some fn) (hb : fn.body = some c) (ht : args.toList ++ List.replicate (fn.ntmps - args.size) undef = tm)
    (x : ∀ cs, RS P .lone (G (FL f .none tm [] [.code c]) cs) Φ (StopL P f cs R)) (h0 : Φ h) : EntersL P f args h R := by
  intro cs
  have := x cs h h0
  have e : Frame.enter P f args .normal = FL f .none tm [] [.code c] := by
    unfold Frame.enter
    simp only [hf, hb, Option.map_some, Option.bind_some, Option.getD_some, FL, F, B, ← ht]
    simp [Rd.kind, Rd.round]
  rw [e]; exact this

theorem fl_retL {Φ : Heap → Prop} [Stb Φ] {cs : List Frame} {tm : List Value} {k : List Item} {fn : Func} {t : Nat} {vs : List Value} {v : Value} (hf : P.funcs[f]? = some fn) (hr : fn.results = #[.tmp t]) (e : ∀ h, Φ h → Res P h tm [.tmp t] vs) (hv : packs vs = v)
    (x : ∀ h, Φ h → R v h) : RS P .lone (G (FL f .none tm [] (.code .ret :: k)) cs) Φ (StopL P f cs R) :=
  rs_ret (hro := rfl) fun _ => fun h y => reach_stop (by
    obtain ⟨v', vs', rfl, h1, h2⟩ := e h y
    obtain rfl : vs' = [] := h2
    subst hv
    refine ⟨_, v', rfl, rfl, fun w => ⟨rfl, rfl, rfl, fn, hf, ?_⟩, x h y⟩
    unfold results
    simp only [hr, FR, B, ← h1]
    simp)
end
end Go.X
namespace Go.X.Cent
open Go.X Go.Proofs Go.RowKit

/-- The library's table of the powers of ten lies there. -/
def Tab (h : Heap) : Prop := ∃ t f, h[1]? = some (.cells (Lib.pow10Tab.map fun z => Value.int .u64 z).toArray t f)
theorem Tab.keep {h h' : Heap} (x : Tab h) (k : Keep h h') : Tab h' := by
  obtain ⟨t, f, e⟩ := x
  exact ⟨t, f, (k.keep 1 (lt_of_get e)).trans e⟩
theorem tab_global : Tryd.prog.globalNamed "internal/strconv.uint64pow10" = some 1 := by kernel_rfl
theorem Tab.is {h : Heap} (x : Tab h) {w : World} (hw : w.heap = h) : Lib.TabIs Tryd.prog w "internal/strconv.uint64pow10" .u64 Lib.pow10Tab := by
  obtain ⟨t, f, e⟩ := x
  subst hw
  unfold Lib.TabIs World.var?
  rw [tab_global]
  simp only [Option.bind_some, e]
theorem Tab.of {w : World} (x : Lib.TabIs Tryd.prog w "internal/strconv.uint64pow10" .u64 Lib.pow10Tab) : Tab w.heap := by
  unfold Lib.TabIs World.var? at x
  rw [tab_global] at x
  simp only [Option.bind_some] at x
  split at x
  · rename_i c t f e
    obtain rfl := Option.some.inj x
    exact ⟨t, f, e⟩
  · cases x

theorem calm_below {B : Nat} {w w' : World} (b : Below B w w') : Calm w w' := ⟨b.os, b.tape, b.output, b.size⟩
theorem keep_below {w w' : World} (b : Below w.heap.size w w') : Keep w.heap w'.heap := ⟨b.size, b.block⟩

theorem c70 (h : Heap) (ht : Tab h) (n : Int) (h0 : -9223372036854775808 ≤ n) (h1 : n ≤ 9223372036854775807) : CallsX Tryd.prog .lone 70 #[.int .i64 n] h fun v h' => v = sv (Lib.itoa n) ∧ Keep h h' := by
  refine callsX_of_calls fun w hw => (Tryd.strconv_Itoa n h0 h1 w (ht.is hw)).mono ?_
  rintro e w' ⟨rfl, k, os, rfl⟩
  subst hw
  have b := Lib.below_grow w.heap.size w (Nat.le_refl _) k os
  exact ⟨_, rfl, ⟨rfl, keep_below b⟩, calm_below b⟩
theorem c71 (h : Heap) (l : List UInt8) (c : Nat) (hc : c ≤ 9223372036854775807) (hl : l.length * c ≤ 140737488355328) : CallsX Tryd.prog .lone 71 #[sv l, .int .i64 (c : Nat)] h fun v h' => v = sv (Lib.repeatL l c) ∧ Keep h h' := by
  refine callsX_of_calls fun w hw => (Tryd.strings_Repeat (bs l) c w hc (by rw [bs_size]; exact hl)).mono ?_
  rintro e w' ⟨rfl, b⟩
  subst hw
  exact ⟨_, rfl, ⟨rfl, keep_below b⟩, calm_below b⟩
theorem c56 (h : Heap) (l m : List UInt8) (hl : l.length ≤ 9223372036854775807) : CallsX Tryd.prog .lone 56 #[sv l, sv m] h fun v h' => v = sv (Lib.trimSuffix l m) ∧ Keep h h' := by
  refine callsX_of_calls fun w hw => (Tryd.strings_TrimSuffix (bs l) (bs m) w (by rw [bs_size]; exact hl)).mono ?_
  rintro e w' ⟨rfl, rfl⟩
  subst hw
  exact ⟨_, rfl, ⟨rfl, .refl _⟩, .refl _⟩

theorem alloc_heap (w : World) (o : Obj) : (w.alloc o).heap = w.heap.push o := rfl

/-- The pieces of a string behind each such byte; the last one is what is left. -/
def cutAfter (c : UInt8) : List UInt8 → List (List UInt8)
  | [] => [[]]
  | b :: l => if b = c then [b] :: cutAfter c l else match cutAfter c l with
    | [] => [[b]]
    | x :: r => (b :: x) :: r
theorem cutAfter_ne (c : UInt8) : ∀ l, cutAfter c l ≠ []
  | [] => by simp [cutAfter]
  | b :: l => by
    unfold cutAfter
    split
    · simp
    · split <;> simp
theorem cutAfter_len (c : UInt8) : ∀ l, (cutAfter c l).length = l.count c + 1
  | [] => rfl
  | b :: l => by
    have ih := cutAfter_len c l
    unfold cutAfter
    by_cases h : b = c
    · subst h; rw [if_pos rfl]; simp [ih]
    · rw [if_neg h]
      have : (b == c) = false := by simpa using h
      cases e : cutAfter c l with
      | nil => exact absurd e (cutAfter_ne c l)
      | cons x r => rw [e] at ih; simp [List.count_cons, this] at ih ⊢; exact ih
theorem splitK_cut (c : UInt8) : ∀ l : List UInt8, Lib.splitK [c] 1 (l.count c) l = cutAfter c l
  | [] => rfl
  | b :: l => by
    have ih := splitK_cut c l
    by_cases h : b = c
    · subst h
      rw [List.count_cons_self]
      unfold Lib.splitK
      have e : Lib.index (b :: l) [b] = 0 := by rw [Lib.index_one]; simp [Lib.indexByte]
      rw [e, if_neg (by decide)]
      simp [ih, cutAfter]
    · have hb : (b == c) = false := by simpa using h
      rw [List.count_cons_of_ne (by simpa using h)]
      unfold cutAfter
      rw [if_neg h, ← ih]
      cases hk : l.count c with
      | zero => rfl
      | succ k =>
        have hm : Lib.index l [c] ≠ -1 := fun e => by
          have := Lib.count_miss e
          rw [Lib.count_one] at this
          omega
        have hx : Lib.index (b :: l) [c] = Lib.index l [c] + 1 := by
          rw [Lib.index_one] at hm ⊢
          rw [Lib.index_one]
          conv => lhs; unfold Lib.indexByte
          rw [hb]
          simp [hm]
        have hg : -1 ≤ Lib.index l [c] := by rw [Lib.index_one]; exact Lib.indexByte_ge l c
        obtain ⟨i, hi⟩ : ∃ i : Nat, Lib.index l [c] = i := ⟨(Lib.index l [c]).toNat, by omega⟩
        unfold Lib.splitK
        rw [hx, hi, if_neg (by simp; omega), if_neg (by simp)]
        have e1 : ((i : Int) + 1).toNat = i + 1 := by omega
        rw [e1]
        simp
theorem splitB_cut (c : UInt8) (l : List UInt8) : (Lib.splitB ⟨#[c]⟩ 1 (l.count c) (bs l)).map Value.string = (cutAfter c l).map sv := by
  rw [← splitK_cut c l]
  have := Lib.splitB_data ⟨#[c]⟩ 1 (l.count c) (bs l)
  have e : (Lib.splitK [c] 1 (l.count c) l) = (Lib.splitB ⟨#[c]⟩ 1 (l.count c) (bs l)).map (·.data.toList) := by rw [this]; simp [bs]
  rw [e, List.map_map]
  exact List.map_congr_left fun s _ => by show Value.string s = sv s.data.toList; rw [sv, bs_of]

theorem c72 (h : Heap) (l : List UInt8) (c : UInt8) (hl : l.length < 4294967281) : CallsX Tryd.prog .lone 72 #[sv l, sv [c], .int .i64 1, .int .i64 (-1)] h fun v h' =>
    ∃ w X, v = w ∧ OwnS 9 1 w ((cutAfter c l).map fun x => [sv x]) X ∧ New h h' X := by
  refine callsX_of_calls fun w hw => ?_
  have hcb : Lib.countB (bs l) ⟨#[c]⟩ = l.count c := by
    show Lib.count (bs l).data.toList [c] = _
    rw [Lib.count_one]; simp [bs]
  have hle : l.count c ≤ l.length := List.count_le_length
  refine (Any.strings_genSplit_core Tryd.lays221 (by kernel_rfl) (bs l) ⟨#[c]⟩ 1 (-1) (l.count c + 1) w (by rw [bs_size]; exact hl) (Nat.le_refl 1) (Nat.le_refl 1) ?_ ?_ (by decide) (by decide) ?_).mono ?_
  · intro x z _
    refine (Any.strings_Index_one Tryd.lays143 x c _).mono ?_
    rintro e w' ⟨rfl, rfl⟩
    refine ⟨?_, rfl⟩
    show _ = Ending.returned (Value.int .i64 (Lib.index x.data.toList [c]))
    rw [Lib.index_one]
  · refine (Any.strings_Count_one Tryd.lays138 (bs l) c w).mono ?_
    rintro e w' ⟨rfl, rfl⟩
    refine ⟨?_, rfl⟩
    rw [hcb]
    simp [Lib.countByte, bs]
  · rw [hcb, if_pos (by decide), bs_size]
    omega
  · rintro e w' ⟨rfl, rfl⟩
    subst hw
    rw [Nat.add_sub_cancel]
    have hn : (Lib.splitB ⟨#[c]⟩ 1 (l.count c) (bs l)).length = l.count c + 1 := Lib.splitB_all ⟨#[c]⟩ (Nat.le_refl 1) _ _ _ hcb
    have e2 : Lib.cellsOf (Lib.splitB ⟨#[c]⟩ 1 (l.count c) (bs l)) (l.count c + 1) = ((cutAfter c l).map sv).toArray := by rw [← hn, Lib.cellsOf_full, splitB_cut]
    rw [e2, hn]
    refine ⟨_, rfl, ⟨_, [(w.heap.size, .cells ((cutAfter c l).map sv).toArray 9 (0, 0))], rfl, ⟨by simp, .inr ⟨w.heap.size, (cutAfter c l).map sv, l.count c + 1, [], ?_, rfl, ?_, ?_, fun _ => by omega⟩⟩, ?_⟩, ⟨rfl, rfl, rfl, ?_⟩⟩
    · simp [cutAfter_len]
    · simp only [List.append_nil]
      induction cutAfter c l with
      | nil => rfl
      | cons x r ih => simp [← ih]
    · simp [cutAfter_len]
    · rw [alloc_heap]
      refine ⟨⟨by simp, fun b hb => by rw [Array.getElem?_push, if_neg (by omega)]⟩, ?_, by simp⟩
      intro x hx
      rw [List.mem_singleton.1 hx]
      refine ⟨?_, Nat.le_refl _⟩
      simp only [Array.getElem?_push_size]
      rfl
    · rw [alloc_heap]; simp
end Go.X.Cent
namespace Go.X.Cent
open Go.X Go.Proofs

def dig (n : Nat) : UInt8 := UInt8.ofNat (48 + n % 10)
def four (n : Nat) : By := [dig (n / 1000), dig (n / 100), dig (n / 10), dig n]
def sealB (l : By) : By := l ++ 61 :: four (total l % 9973)
theorem dec1 {n : Nat} (h : n < 10) : Lib.decDigits n = [dig n] := by
  rw [Lib.decDigits, dif_pos h, dig, Nat.mod_eq_of_lt h]
theorem dec2 {n : Nat} (h : ¬ n < 10) : Lib.decDigits n = Lib.decDigits (n / 10) ++ [dig n] := by
  rw [Lib.decDigits, dif_neg h, dig]
theorem dig_small {n m : Nat} (h : n < m) (_ : 0 < m) : dig (n / m) = 48 := by
  rw [Nat.div_eq_of_lt h]; rfl
theorem itoa_four {n : Nat} (h : n < 10000) : (Lib.itoa (n : Int)).length ≤ 4 ∧ Lib.repeatL [48] (4 - (Lib.itoa (n : Int)).length) ++ Lib.itoa (n : Int) = four n := by
  have e : Lib.itoa (n : Int) = Lib.decDigits n := by rw [Lib.itoa, if_neg (by omega)]; rfl
  rw [e]
  by_cases h1 : n < 10
  · rw [dec1 h1, four, dig_small (n := n) (m := 1000) (by omega) (by omega), dig_small (n := n) (m := 100) (by omega) (by omega), dig_small (n := n) (m := 10) (by omega) (by omega)]
    exact ⟨by simp, rfl⟩
  rw [dec2 h1]
  by_cases h2 : n < 100
  · rw [dec1 (n := n / 10) (by omega), four, dig_small (n := n) (m := 1000) (by omega) (by omega), dig_small (n := n) (m := 100) (by omega) (by omega)]
    exact ⟨by simp, rfl⟩
  rw [dec2 (n := n / 10) (by omega), Nat.div_div_eq_div_mul]
  by_cases h3 : n < 1000
  · rw [dec1 (n := n / (10 * 10)) (by omega), four, dig_small (n := n) (m := 1000) (by omega) (by omega)]
    exact ⟨by simp, rfl⟩
  rw [dec2 (n := n / (10 * 10)) (by omega), Nat.div_div_eq_div_mul, dec1 (n := n / (10 * 10 * 10)) (by omega)]
  exact ⟨by simp, rfl⟩
theorem ended_seal (l : By) : ((l ++ [61]) ++ Lib.repeatL [48] ((4 : Int) - (((Lib.itoa ((total l % 9973 : Nat) : Int)).length : Nat) : Int)).toNat) ++ Lib.itoa ((total l % 9973 : Nat) : Int) = sealB l := by
  have h := itoa_four (n := total l % 9973) (by omega)
  have e : ((4 : Int) - (((Lib.itoa ((total l % 9973 : Nat) : Int)).length : Nat) : Int)).toNat = 4 - (Lib.itoa ((total l % 9973 : Nat) : Int)).length := by omega
  rw [e, List.append_assoc (l ++ [61]), h.2, sealB]
  simp
def fourTo (n : Nat) : Nat → By
  | 0 => []
  | k + 1 => dig (n / 10 ^ k) :: fourTo n k
theorem fourTo_four (n : Nat) : fourTo n 4 = four n := by simp [fourTo, four]
theorem four_step {n k : Nat} {z : Int} {l : By} (hz : z = ((n / 10 ^ k : Nat) : Int)) (hl : l = fourTo n k) : [UInt8.ofNat (48 + z % 10).toNat] ++ l = fourTo n (k + 1) ∧ z / 10 = ((n / 10 ^ (k + 1) : Nat) : Int) := by
  subst hz
  subst hl
  refine ⟨?_, ?_⟩
  · have e : ((48 : Int) + ((n / 10 ^ k : Nat) : Int) % 10).toNat = 48 + n / 10 ^ k % 10 := by omega
    rw [e]; rfl
  · rw [Nat.pow_succ, ← Nat.div_div_eq_div_mul]
    omega
/-- A number in two letters. -/
def two (n : Int) : By := [UInt8.ofNat (65 + n / 26).toNat, UInt8.ofNat (65 + n % 26).toNat]
theorem c71i (h : Heap) (l : By) (z : Int) (h0 : 0 ≤ z) (h1 : z ≤ 4096) (hl : l.length ≤ 4096) : CallsX Tryd.prog .lone 71 #[sv l, .int .i64 z] h fun v h' => v = sv (Lib.repeatL l z.toNat) ∧ Keep h h' := by
  have e : z = ((z.toNat : Nat) : Int) := by omega
  have := c71 h l z.toNat (by omega) (by have := Nat.mul_le_mul hl (show z.toNat ≤ 4096 by omega); omega)
  rw [← e] at this
  exact this
end Go.X.Cent
namespace Go.Proofs.YtiinpnlfdeiloaaDoor
open Go.X

theorem mixed : Tryd.prog.follows .mixedOrders = true := by kernel_rfl
theorem tA3 : aggT Tryd.prog 3 = some false := by kernel_rfl
theorem tS3 : sizeT Tryd.prog 3 = some 1 := by kernel_rfl
theorem tZ3 : zeroT Tryd.prog 3 = some (.int .i64 0) := by kernel_rfl
theorem tA5 : aggT Tryd.prog 5 = some false := by kernel_rfl
theorem tS5 : sizeT Tryd.prog 5 = some 1 := by kernel_rfl
theorem tZ5 : zeroT Tryd.prog 5 = some (.int .u8 0) := by kernel_rfl
theorem tA9 : aggT Tryd.prog 9 = some false := by kernel_rfl
theorem tS9 : sizeT Tryd.prog 9 = some 1 := by kernel_rfl
theorem tZ9 : zeroT Tryd.prog 9 = some (.string ⟨#[]⟩) := by kernel_rfl
theorem tF35_0 : fieldT Tryd.prog 35 0 = some (0, 1) := by kernel_rfl
theorem tF35_1 : fieldT Tryd.prog 35 1 = some (1, 1) := by kernel_rfl
theorem tA37 : aggT Tryd.prog 37 = some false := by kernel_rfl
theorem tS37 : sizeT Tryd.prog 37 = some 1 := by kernel_rfl
theorem tA49 : aggT Tryd.prog 49 = some false := by kernel_rfl
theorem tS49 : sizeT Tryd.prog 49 = some 1 := by kernel_rfl
theorem tA60 : aggT Tryd.prog 60 = some true := by kernel_rfl
theorem tS60 : sizeT Tryd.prog 60 = some 2 := by kernel_rfl
theorem tZ60 : zeroT Tryd.prog 60 = some (.agg #[.int .i64 0, .int .i64 0]) := by kernel_rfl
theorem tP60 : placesT Tryd.prog 60 = some [(0, 1), (1, 1)] := by kernel_rfl
theorem tF60_0 : fieldT Tryd.prog 60 0 = some (0, 1) := by kernel_rfl
theorem tF60_1 : fieldT Tryd.prog 60 1 = some (1, 1) := by kernel_rfl
theorem tZ83 : zeroT Tryd.prog 83 = some (.agg #[.pointer none, .slice none 0 0]) := by kernel_rfl
theorem tF83_1 : fieldT Tryd.prog 83 1 = some (1, 1) := by kernel_rfl
theorem tB5 : bytesT Tryd.prog 5 = some 1 := by kernel_rfl
theorem tB9 : bytesT Tryd.prog 9 = some 16 := by kernel_rfl
theorem tB60 : bytesT Tryd.prog 60 = some 16 := by kernel_rfl
theorem fC15 : callable Tryd.prog 15 = true := by kernel_rfl
theorem fC16 : callable Tryd.prog 16 = true := by kernel_rfl
theorem fC17 : callable Tryd.prog 17 = true := by kernel_rfl
theorem fC18 : callable Tryd.prog 18 = true := by kernel_rfl
theorem fC19 : callable Tryd.prog 19 = true := by kernel_rfl
theorem fC20 : callable Tryd.prog 20 = true := by kernel_rfl
theorem fC21 : callable Tryd.prog 21 = true := by kernel_rfl
theorem fC22 : callable Tryd.prog 22 = true := by kernel_rfl
theorem fC23 : callable Tryd.prog 23 = true := by kernel_rfl
theorem fC24 : callable Tryd.prog 24 = true := by kernel_rfl
theorem fC26 : callable Tryd.prog 26 = true := by kernel_rfl
theorem fC28 : callable Tryd.prog 28 = true := by kernel_rfl
theorem fC32 : callable Tryd.prog 32 = true := by kernel_rfl
theorem fC33 : callable Tryd.prog 33 = true := by kernel_rfl
theorem fC34 : callable Tryd.prog 34 = true := by kernel_rfl
theorem fC35 : callable Tryd.prog 35 = true := by kernel_rfl
theorem fC36 : callable Tryd.prog 36 = true := by kernel_rfl
theorem fC37 : callable Tryd.prog 37 = true := by kernel_rfl
theorem fC45 : callable Tryd.prog 45 = true := by kernel_rfl
theorem fC51 : callable Tryd.prog 51 = true := by kernel_rfl
theorem fC52 : callable Tryd.prog 52 = true := by kernel_rfl
theorem fC53 : callable Tryd.prog 53 = true := by kernel_rfl
theorem fC54 : callable Tryd.prog 54 = true := by kernel_rfl
theorem fC55 : callable Tryd.prog 55 = true := by kernel_rfl
theorem fC56 : callable Tryd.prog 56 = true := by kernel_rfl
theorem fC57 : callable Tryd.prog 57 = true := by kernel_rfl
theorem fC58 : callable Tryd.prog 58 = true := by kernel_rfl
theorem fC59 : callable Tryd.prog 59 = true := by kernel_rfl
theorem fC62 : callable Tryd.prog 62 = true := by kernel_rfl
theorem fC63 : callable Tryd.prog 63 = true := by kernel_rfl
theorem fC64 : callable Tryd.prog 64 = true := by kernel_rfl
theorem fC65 : callable Tryd.prog 65 = true := by kernel_rfl
theorem fC68 : callable Tryd.prog 68 = true := by kernel_rfl
theorem fC69 : callable Tryd.prog 69 = true := by kernel_rfl
theorem fC70 : callable Tryd.prog 70 = true := by kernel_rfl
theorem fC71 : callable Tryd.prog 71 = true := by kernel_rfl
theorem fC72 : callable Tryd.prog 72 = true := by kernel_rfl
theorem fC74 : callable Tryd.prog 74 = true := by kernel_rfl
theorem fC75 : callable Tryd.prog 75 = true := by kernel_rfl
theorem fC76 : callable Tryd.prog 76 = true := by kernel_rfl
theorem fC77 : callable Tryd.prog 77 = true := by kernel_rfl
theorem fC78 : callable Tryd.prog 78 = true := by kernel_rfl
theorem fC79 : callable Tryd.prog 79 = true := by kernel_rfl
theorem fC80 : callable Tryd.prog 80 = true := by kernel_rfl
theorem fC82 : callable Tryd.prog 82 = true := by kernel_rfl
theorem fC93 : callable Tryd.prog 93 = true := by kernel_rfl
theorem fC94 : callable Tryd.prog 94 = true := by kernel_rfl
theorem fC95 : callable Tryd.prog 95 = true := by kernel_rfl
theorem fC96 : callable Tryd.prog 96 = true := by kernel_rfl
end Go.Proofs.YtiinpnlfdeiloaaDoor
namespace Go.X.Cent
open Go.X Go.Proofs Go.RowKit

def selfP (b : Nat) : Value := .pointer (some ⟨b, 0, none⟩)
/-- The builder at 'b' holds these bytes; 'X' is all that it owns. -/
def Bld (b : Nat) (l : By) (X : Pcs) : Prop := ∃ a v Y, X = (b, .cells #[a, v] 83 (0, 0)) :: Y ∧ (a = .pointer none ∨ a = selfP b) ∧ OwnS 5 1 v (bcs l) Y
theorem Bld.new (b : Nat) : Bld b [] [(b, .cells #[.pointer none, .slice none 0 0] 83 (0, 0))] := ⟨_, _, [], rfl, .inl rfl, .empty 5 1⟩

section
variable {h h₀ : Heap} {B₀ : List Nat} {p : PHeap} {L C : Pcs} {b : Nat} {a v : Value}
theorem cell_of {w : World} {c : Array Value} {t : TypeId} {f : Nat × Nat} {i : Nat} (e : w.heap[b]? = some (.cells c t f)) : w.cell? ⟨b, i, none⟩ = c[i]? := by
  unfold World.cell?
  simp [e]
theorem c95 (ha : a = .pointer none ∨ a = selfP b) (s₀ : St h₀ B₀ p h ((b, .cells #[a, v] 83 (0, 0)) :: C)) : CallsX Tryd.prog .lone 95 #[selfP b] h fun r h' => r = .tuple #[] ∧ St h₀ B₀ p h' ((b, .cells #[selfP b, v] 83 (0, 0)) :: C) := by
  have hb := s₀.at (i := 0) rfl
  rcases ha with rfl | rfl
  · refine callsX_of_calls fun w hw => ?_
    subst hw
    refine (Any.Builder_copyCheck_fresh { Tryd.lays105 with } Tryd.Builder_Extra_105.toX72 b w (by rw [cell_of hb]; rfl) ?_ ?_).mono ?_
    · unfold World.shape?
      simp [hb]
      rfl
    · unfold World.frozen?
      simp [hb]
    · rintro e w' ⟨rfl, rfl⟩
      exact ⟨_, rfl, ⟨rfl, s₀.store (i := 0) (off := 0) (v := selfP b) rfl⟩, ⟨rfl, rfl, rfl, by simp [World.setCell]⟩⟩
  · refine callsX_of_calls fun w hw => ?_
    subst hw
    refine (Any.Builder_copyCheck_used { Tryd.lays105 with } Tryd.Builder_Extra_105.toX72 b w (by rw [cell_of hb]; rfl)).mono ?_
    rintro e w' ⟨rfl, rfl⟩
    exact ⟨_, rfl, ⟨rfl, s₀⟩, .refl _⟩
theorem flat_bcs : ∀ l : By, (bcs l).flatten = Lib.byteCells l
  | [] => rfl
  | x :: l => by
    have := flat_bcs l
    simp only [bcs, Lib.byteCells] at this ⊢
    simp [this]
theorem bld_is {l : By} {Y : Pcs} (ha : a = .pointer none ∨ a = selfP b) (hO : OwnS 5 1 v (bcs l) Y) {w : World} (s₀ : St h₀ [] p w.heap ((b, .cells #[a, v] 83 (0, 0)) :: Y ++ C)) : Lib.IsBuilder 83 5 h₀.size b (Lib.byteCells l) w := by
  have hb := s₀.at (i := 0) rfl
  have ob := s₀.own _ (List.mem_of_getElem? (i := 0) rfl)
  have hbB : h₀.size ≤ b := ob.2.2.resolve_right (by simp)
  have hrow : w.ownsRow h₀.size 5 1 v (Lib.byteCells l).length (Lib.byteCells l) ∧ v.ownBlock ≠ some b := by
    obtain ⟨hw1, ⟨rfl, h0, rfl⟩ | ⟨g, cs, cap, rest, rfl, rfl, hcs, hlen, hcap⟩⟩ := hO
    · have : l = [] := by simpa [bcs] using h0
      subst this
      exact ⟨⟨rfl, .inl ⟨rfl, rfl⟩⟩, by simp [Value.ownBlock]⟩
    · have og := s₀.own (g, .cells cs.toArray 5 (0, 0)) (by simp)
      have hgB : h₀.size ≤ g := og.2.2.resolve_right (by simp)
      have hne : g ≠ b := fun e => by
        have := s₀.nod
        simp [e] at this
      have hll : (bcs l).flatten.length = l.length := by rw [flat_bcs]; simp [Lib.byteCells]
      have hle : l.length ≤ cap := by
        have : cs.length = (bcs l).flatten.length + rest.length := by rw [hcs]; simp
        omega
      refine ⟨⟨by simp [Lib.byteCells], .inr ⟨g, cap, cs.toArray, by simp [Lib.byteCells, bcs], hgB, og.1, by simpa [Lib.byteCells] using hle, by have := hcap rfl; unfold maxLen; omega, by simpa using hlen, ?_⟩⟩, by simp [Value.ownBlock, hne]⟩
      rw [← flat_bcs, List.take_left' (by rw [hll]; simp) |> fun e => (by rw [hcs]; exact e : (cs.take ((bcs l).flatten.length * 1)) = (bcs l).flatten)]
  · rcases ha with rfl | rfl
    · exact .inl ⟨hbB, v, hb, hrow⟩
    · exact .inr ⟨hbB, v, hb, hrow⟩
/-- The same, in a range's round: what else is the call's own stands, rows of bytes apart. -/
theorem c79k {l : By} {X : Pcs} (B : Bld b l X) (hp : ∀ b o, p b = some o → h₀[b]? = some o) (hC : ∀ x ∈ C, ∀ c z, x.2 ≠ .cells c 5 z) (s₀ : St h₀ [] p h (X ++ C)) : CallsX Tryd.prog .lone 79 #[selfP b] h fun r h' => r = sv l ∧ St h₀ [] p h' C := by
  obtain ⟨a, v, Y, rfl, ha, hO⟩ := B
  refine callsX_of_calls fun w hw => ?_
  subst hw
  have hI := bld_is ha hO s₀
  refine (Any.Builder_String_any_k { Tryd.lays105 with } Tryd.Builder_Extra_105 h₀.size b l w (Lib.IsBuilderF.of hI) s₀.size).mono ?_
  rintro e w' ⟨rfl, _, bl, ok⟩
  have hB : ∀ k, k < h₀.size → w'.heap[k]? = h₀[k]? := fun k hk => (bl.block k hk).trans (s₀.keep k hk (by simp))
  have hn := s₀.nod
  refine ⟨_, rfl, ⟨rfl, fun k hk _ => hB k hk, Nat.le_trans s₀.size bl.size, fun k o e => ?_, fun x hx => ?_, ?_⟩, calm_below bl⟩
  · have := hp k o e
    rw [hB k (lt_of_get this)]; exact this
  · have o := s₀.own x (by simp [hx])
    refine ⟨ok x.1 x.2 o.1 (fun e => ?_) (fun c z => hC x hx c z), o.2⟩
    have e : x.1 = b := by simpa using e
    simp only [List.cons_append, List.map_cons, List.nodup_cons, List.map_append, List.mem_append] at hn
    exact hn.1 (.inr (e ▸ List.mem_map_of_mem hx))
  · simp only [List.map_append] at hn
    exact (List.nodup_append.1 hn).2.1
/-- The string that a builder holds; the builder is not looked at again. -/
theorem c79 {l : By} {X : Pcs} (B : Bld b l X) (s₀ : St h₀ [] p h (X ++ C)) : CallsX Tryd.prog .lone 79 #[selfP b] h fun r h' => r = sv l ∧ Keep h₀ h' := by
  obtain ⟨a, v, Y, rfl, ha, hO⟩ := B
  refine callsX_of_calls fun w hw => ?_
  subst hw
  have hI := bld_is ha hO s₀
  refine (Any.Builder_String_any { Tryd.lays105 with } Tryd.Builder_Extra_105 h₀.size b l w hI s₀.size).mono ?_
  rintro e w' ⟨rfl, bl⟩
  exact ⟨_, rfl, ⟨rfl, ⟨Nat.le_trans s₀.size bl.size, fun k hk => (bl.block k hk).trans (s₀.keep k hk (by simp))⟩⟩, calm_below bl⟩
end
end Go.X.Cent
namespace Go.Proofs.YtiinpnlfdeiloaaDoor
open Go.X Go.X.Cent Go.Conc
set_option maxRecDepth 10000

theorem c78 (h h₀ : Heap) (B₀ : List Nat) (p : PHeap) (b : Nat) (a v : Value) (l : By) (Y C : Pcs) (ha : a = .pointer none ∨ a = selfP b) (hO : OwnS 5 1 v (bcs l) Y) (c : UInt8) (hl : l.length + 4096 ≤ 2 ^ 30) (s₀ : St h₀ B₀ p h (([(b, .cells #[a, v] 83 (0, 0))] : Pcs) ++ (Y ++ (C ++ [])))) : CallsX Tryd.prog .lone 78 #[.pointer (some ⟨b, 0, none⟩), .int .u8 (((c.toNat : Nat) : Int))] h fun v_ h' => ∃ v' Y', v_ = .nilIface ∧ OwnS 5 1 v' (bcs (l ++ [c])) Y' ∧ St h₀ B₀ p h' ((b, .cells #[selfP b, v'] 83 (0, 0)) :: (Y' ++ C)) := by
  refine calls_intro (Φ := fun h_ => St h₀ B₀ p h_ (([(b, .cells #[a, v] 83 (0, 0))] : Pcs) ++ (Y ++ (C ++ [])))) Tryd.func78 rfl (tm := [_, _, _, _, _, _, _, _, _, _, _, _, _, _, _, _, _]) rfl ?_ s₀
  intro c₀ cs Stop K
  refine fl_seq ?_
  refine rl_start ?_
  refine rl_det (met_none rfl) (fun h_ H_ => exd_assign (v := .nilIface) rfl) rfl ?_
  refine rl_end ?_
  refine fl_seq ?_
  refine rl_start ?_
  refine rl_det (met_none rfl) (fun h_ H_ => exd_move (v := .pointer (some ⟨b, 0, none⟩)) rfl) rfl ?_
  refine rl_call (met_none rfl) (first := []) (cap := []) rfl rfl fC95 (fun h_ H_ => c95 ha H_) ?_
  refine fun v_ => rl_and fun ev_ => rl_own (L' := ([(b, .cells #[selfP b, v] 83 (0, 0))] : Pcs) ++ (Y ++ (C ++ []))) rfl ?_
  subst ev_
  refine rl_norm (tm' := _::_::_::_::_::_::_::_) rfl ?_
  refine rl_end ?_
  refine fl_seq ?_
  refine rl_start ?_
  refine rl_det (met_none rfl) (fun h_ H_ => exd_move (v := .pointer (some ⟨b, 0, none⟩)) rfl) rfl ?_
  refine rl_det (met_none rfl) (fun h_ H_ => exd_move (v := .pointer (some ⟨b, 0, none⟩)) rfl) rfl ?_
  refine rl_det (met_none rfl) (fun h_ H_ => exd_nilCheck rfl) (tm' := _::_::_::_::_::_::_::_::_::_::_) rfl ?_
  refine rl_det (met_none rfl) (fun h_ H_ => exd_fieldAddr tF83_1 rfl (a' := ⟨b, 1, none⟩) rfl) rfl ?_
  refine rl_det (met_none rfl) (fun h_ H_ => exd_load_own H_ tA37 rfl (i := 0) rfl (v := v) rfl) rfl ?_
  refine rl_det (met_none rfl) (fun h_ H_ => exd_move (v := .int .u8 (((c.toNat : Nat) : Int))) rfl) (tm' := [_,_,_,_,_,_,_,_,_,_,_,_,_,_,_,_,_]) rfl ?_
  refine rl_buildO ([(b, .cells #[selfP b, v] 83 (0, 0))] : Pcs) (met_none rfl) Tryd.underlying37 tS5 tZ5 (Nat.le_of_ble_eq_true rfl) (vs := [(0, .int .u8 (((c.toNat : Nat) : Int)))]) rfl rfl (es := [[.int .u8 (((c.toNat : Nat) : Int))]]) rfl rfl rfl fun v1 X2 o3 => ?_
  refine rl_perm (List.Perm.append_left _ (List.perm_append_comm_assoc _ _ _)) ?_
  refine rl_own (L' := ([(b, .cells #[selfP b, v] 83 (0, 0))] : Pcs) ++ (Y ++ (X2 ++ (C ++ [])))) rfl ?_
  refine rl_appendO ([(b, .cells #[selfP b, v] 83 (0, 0))] : Pcs) Y X2 (met_none rfl) Tryd.underlying37 tS5 tZ5 rfl tB5 Tryd.underlying37 rfl rfl hO o3 (ones_of rfl) (by rw [bcs_length]; simp; omega) (by decide) fun v4 X5 o6 => ?_
  refine rl_det (met_none rfl) (fun h_ H_ => exd_nilCheck rfl) (tm' := [_,_,_,_,_,_,_,_,_,_,_,_,_,_,_,_,_]) rfl ?_
  refine rl_det (met_none rfl) (fun h_ H_ => exd_fieldAddr tF83_1 rfl (a' := ⟨b, 1, none⟩) rfl) rfl ?_
  refine rl_store1 (met_none rfl) tS37 rfl (v := v4) rfl o6.one (i := 0) rfl (Nat.succ_le_iff.1 (Nat.le_of_ble_eq_true rfl)) (cs2 := [selfP b, v4]) rfl (rl_own (L' := ([(b, .cells #[selfP b, v4] 83 (0, 0))] : Pcs) ++ (X5 ++ (C ++ []))) rfl ?_)
  refine rl_end ?_
  refine fl_seq ?_
  refine rl_start ?_
  refine rl_det (met_none rfl) (fun h_ H_ => exd_assign (v := .nilIface) rfl) rfl ?_
  refine rl_end ?_
  refine fl_ret Tryd.func78 rfl (vs := [.nilIface]) (fun h_ H_ => ⟨.nilIface, _, rfl, rfl, rfl⟩) (v := .nilIface) rfl ?_
  exact fun h_ H_ => K _ _ ⟨_, _, rfl, o6.as (bcs_append l [c]).symm, by simpa using H_⟩
theorem c82 (h h₀ : Heap) (B₀ : List Nat) (p : PHeap) (b : Nat) (a v : Value) (l : By) (Y C : Pcs) (ha : a = .pointer none ∨ a = selfP b) (hO : OwnS 5 1 v (bcs l) Y) (m : By) (hl : l.length + 4096 ≤ 2 ^ 30) (hm : m.length ≤ 4096) (s₀ : St h₀ B₀ p h (([(b, .cells #[a, v] 83 (0, 0))] : Pcs) ++ (Y ++ (C ++ [])))) : CallsX Tryd.prog .lone 82 #[.pointer (some ⟨b, 0, none⟩), sv m] h fun v_ h' => ∃ v' Y', v_ = .tuple #[.int .i64 ((m.length : Nat) : Int), .nilIface] ∧ OwnS 5 1 v' (bcs (l ++ m)) Y' ∧ St h₀ B₀ p h' ((b, .cells #[selfP b, v'] 83 (0, 0)) :: (Y' ++ C)) := by
  refine calls_intro (Φ := fun h_ => St h₀ B₀ p h_ (([(b, .cells #[a, v] 83 (0, 0))] : Pcs) ++ (Y ++ (C ++ [])))) Tryd.func82 rfl (tm := [_, _, _, _, _, _, _, _, _, _, _, _, _, _, _, _, _, _, _]) rfl ?_ s₀
  intro c₀ cs Stop K
  refine fl_seq ?_
  refine rl_start ?_
  refine rl_det (met_none rfl) (fun h_ H_ => exd_assign (v := .int .i64 0) rfl) (tm' := _::_::_::_::_::_) rfl ?_
  refine rl_det (met_none rfl) (fun h_ H_ => exd_assign (v := .nilIface) rfl) rfl ?_
  refine rl_end ?_
  refine fl_seq ?_
  refine rl_start ?_
  refine rl_det (met_none rfl) (fun h_ H_ => exd_move (v := .pointer (some ⟨b, 0, none⟩)) rfl) rfl ?_
  refine rl_call (met_none rfl) (first := []) (cap := []) rfl rfl fC95 (fun h_ H_ => c95 ha H_) ?_
  refine fun v_ => rl_and fun ev_ => rl_own (L' := ([(b, .cells #[selfP b, v] 83 (0, 0))] : Pcs) ++ (Y ++ (C ++ []))) rfl ?_
  subst ev_
  refine rl_norm (tm' := _::_::_::_::_::_::_::_::_) rfl ?_
  refine rl_end ?_
  refine fl_seq ?_
  refine rl_start ?_
  refine rl_det (met_none rfl) (fun h_ H_ => exd_move (v := .pointer (some ⟨b, 0, none⟩)) rfl) rfl ?_
  refine rl_det (met_none rfl) (fun h_ H_ => exd_move (v := .pointer (some ⟨b, 0, none⟩)) rfl) rfl ?_
  refine rl_det (met_none rfl) (fun h_ H_ => exd_nilCheck rfl) (tm' := _::_::_::_::_::_::_::_::_::_::_::_) rfl ?_
  refine rl_det (met_none rfl) (fun h_ H_ => exd_fieldAddr tF83_1 rfl (a' := ⟨b, 1, none⟩) rfl) rfl ?_
  refine rl_det (met_none rfl) (fun h_ H_ => exd_load_own H_ tA37 rfl (i := 0) rfl (v := v) rfl) rfl ?_
  refine rl_det (met_none rfl) (fun h_ H_ => exd_move (v := sv m) rfl) (tm' := [_,_,_,_,_,_,_,_,_,_,_,_,_,_,_,_,_,_,_]) rfl ?_
  refine rl_appendStr (X := Y) ([(b, .cells #[selfP b, v] 83 (0, 0))] : Pcs) (met_none rfl) Tryd.underlying37 tS5 tZ5 rfl tB5 Tryd.underlying9 rfl (t := bs m) rfl hO (by rw [bcs_length, bs_size]; omega) (by decide) fun v1 X2 o3 => ?_
  have o4 : OwnS 5 1 v1 (bcs l ++ bcs m) X2 := o3
  refine rl_det (met_none rfl) (fun h_ H_ => exd_nilCheck rfl) rfl ?_
  refine rl_det (met_none rfl) (fun h_ H_ => exd_fieldAddr tF83_1 rfl (a' := ⟨b, 1, none⟩) rfl) (tm' := [_,_,_,_,_,_,_,_,_,_,_,_,_,_,_,_,_,_,_]) rfl ?_
  refine rl_store1 (met_none rfl) tS37 rfl (v := v1) rfl o4.one (i := 0) rfl (Nat.succ_le_iff.1 (Nat.le_of_ble_eq_true rfl)) (cs2 := [selfP b, v1]) rfl (rl_own (L' := ([(b, .cells #[selfP b, v1] 83 (0, 0))] : Pcs) ++ (X2 ++ (C ++ []))) rfl ?_)
  refine rl_end ?_
  refine fl_seq ?_
  refine rl_start ?_
  refine rl_det (met_none rfl) (fun h_ H_ => exd_move (v := sv m) rfl) rfl ?_
  refine rl_det (met_none rfl) (fun h_ H_ => exd_lenS (l := m) Tryd.underlying9 rfl) rfl ?_
  refine rl_det (met_none rfl) (fun h_ H_ => exd_assign (v := .int .i64 (((m.length : Nat) : Int))) rfl) (tm' := _::_::_::_::_::_) rfl ?_
  refine rl_det (met_none rfl) (fun h_ H_ => exd_assign (v := .nilIface) rfl) rfl ?_
  refine rl_end ?_
  refine fl_ret Tryd.func82 rfl (vs := [.int .i64 (((m.length : Nat) : Int)), .nilIface]) (fun h_ H_ => ⟨.int .i64 (((m.length : Nat) : Int)), _, rfl, rfl, ⟨.nilIface, _, rfl, rfl, rfl⟩⟩) (v := .tuple #[.int .i64 (((m.length : Nat) : Int)), .nilIface]) rfl ?_
  exact fun h_ H_ => K _ _ ⟨_, _, rfl, o4.as (bcs_append l m).symm, by simpa using H_⟩
end Go.Proofs.YtiinpnlfdeiloaaDoor
namespace Go.X.Cent
open Go.X Go.Proofs Go.Proofs.YtiinpnlfdeiloaaDoor

theorem rl_weak {P : Program} {md : Md} {f : FuncId} {r : Rd} {df : List Deferred} {k : List Item} {cs : List Frame} {Stop : Goroutine → Heap → Prop} {ops rest : List Oper} {tm : List Value} {Φ Ψ : Heap → Prop} (x : ∀ h, Φ h → Ψ h)
    (n : RL P md f r df k cs Stop ops rest tm Ψ) : RL P md f r df k cs Stop ops rest tm Φ := fun pre e h y => n pre e h (x h y)
theorem getD_mem {α : Type} {l : List α} {k : Nat} {d : α} (h : k < l.length) : l.getD k d ∈ l := by
  rw [List.getD_eq_getElem?_getD, List.getElem?_eq_getElem h]
  exact List.getElem_mem h
section
variable {h h₀ : Heap} {B₀ : List Nat} {p : PHeap} {A C X : Pcs} {b : Nat} {l : By}
theorem bld_byte (B : Bld b l X) (s₀ : St h₀ B₀ p h (A ++ (X ++ C))) (hl : l.length + 4096 ≤ 2 ^ 30) (c : UInt8) :
    CallsX Tryd.prog .lone 78 #[selfP b, .int .u8 ((c.toNat : Nat) : Int)] h fun r h' => r = .nilIface ∧ ∃ X', Bld b (l ++ [c]) X' ∧ St h₀ B₀ p h' (A ++ (X' ++ C)) := by
  obtain ⟨a, v, Y, rfl, ha, hO⟩ := B
  have s1 : St h₀ B₀ p h ((b, .cells #[a, v] 83 (0, 0)) :: (Y ++ (A ++ C))) := s₀.perm (by
    have := List.perm_append_comm_assoc A ((b, Obj.cells #[a, v] 83 (0, 0)) :: Y) C
    simpa using this)
  refine (c78 h h₀ B₀ p b a v l Y (A ++ C) ha hO c hl (by simpa using s1)).mono ?_
  rintro r h' ⟨v', Y', rfl, o', s'⟩
  refine ⟨rfl, _, ⟨selfP b, v', Y', rfl, .inr rfl, o'⟩, s'.perm ?_⟩
  have := (List.perm_append_comm_assoc A ((b, Obj.cells #[selfP b, v'] 83 (0, 0)) :: Y') C).symm
  simpa using this
theorem bld_str (B : Bld b l X) (s₀ : St h₀ B₀ p h (A ++ (X ++ C))) (hl : l.length + 4096 ≤ 2 ^ 30) (m : By) (hm : m.length ≤ 4096) :
    CallsX Tryd.prog .lone 82 #[selfP b, sv m] h fun r h' => r = .tuple #[.int .i64 ((m.length : Nat) : Int), .nilIface] ∧ ∃ X', Bld b (l ++ m) X' ∧ St h₀ B₀ p h' (A ++ (X' ++ C)) := by
  obtain ⟨a, v, Y, rfl, ha, hO⟩ := B
  have s1 : St h₀ B₀ p h ((b, .cells #[a, v] 83 (0, 0)) :: (Y ++ (A ++ C))) := s₀.perm (by
    have := List.perm_append_comm_assoc A ((b, Obj.cells #[a, v] 83 (0, 0)) :: Y) C
    simpa using this)
  refine (c82 h h₀ B₀ p b a v l Y (A ++ C) ha hO m hl hm (by simpa using s1)).mono ?_
  rintro r h' ⟨v', Y', rfl, o', s'⟩
  refine ⟨rfl, _, ⟨selfP b, v', Y', rfl, .inr rfl, o'⟩, s'.perm ?_⟩
  have := (List.perm_append_comm_assoc A ((b, Obj.cells #[selfP b, v'] 83 (0, 0)) :: Y') C).symm
  simpa using this
/-- The whole of some texts. -/
def wholeB : List By → By
  | [] => []
  | t :: ts => t ++ 10 :: wholeB ts
theorem wholeB_snoc : ∀ (ts : List By) (t : By), wholeB (ts ++ [t]) = wholeB ts ++ (t ++ [10])
  | [], t => by simp [wholeB]
  | x :: ts, t => by simp [wholeB, wholeB_snoc ts t]
theorem wholeB_take {ts : List By} {k : Nat} (hk : k < ts.length) : wholeB (ts.take (k + 1)) = wholeB (ts.take k) ++ ts.getD k [] ++ [10] := by
  rw [List.take_add_one, List.getElem?_eq_getElem hk, List.getD_eq_getElem?_getD, List.getElem?_eq_getElem hk]
  show wholeB (ts.take k ++ [ts[k]]) = _
  rw [wholeB_snoc, List.append_assoc]
  rfl
theorem wholeB_len {ts : List By} {m : Nat} (h : ∀ t ∈ ts, t.length ≤ m) : (wholeB ts).length ≤ ts.length * (m + 1) := by
  induction ts with
  | nil => simp [wholeB]
  | cons t ts ih =>
    have h1 := h t (by simp)
    have h2 := ih fun x hx => h x (by simp [hx])
    simp only [wholeB, List.length_append, List.length_cons]
    rw [Nat.add_mul]
    omega
end
end Go.X.Cent
namespace Go.X.Cent
open Go.X Go.Proofs Go.Proofs.YtiinpnlfdeiloaaDoor

def pieB (x : Pie) : By := two x.1 ++ (if x.2 = -1 then [] else if x.2 = 10 then [126] else [UInt8.ofNat x.2.toNat])
def filP (l : List Pie) : By := l.flatMap pieB
def fileB (ts : List By) : By := sealB (filP (encS [[]] (wholeB ts)))
theorem filP_snoc (l : List Pie) (x : Pie) : filP (l ++ [x]) = filP l ++ pieB x := by simp [filP]
theorem fil_none {l : List Pie} {x : Pie} (h : x.2 = -1) : filP l ++ [UInt8.ofNat (65 + x.1 / 26).toNat] ++ [UInt8.ofNat (65 + x.1 % 26).toNat] = filP (l ++ [x]) := by
  rw [filP_snoc, pieB, if_pos h]; simp [two]
theorem fil_feed {l : List Pie} {x : Pie} (h : x.2 = 10) : filP l ++ [UInt8.ofNat (65 + x.1 / 26).toNat] ++ [UInt8.ofNat (65 + x.1 % 26).toNat] ++ [126] = filP (l ++ [x]) := by
  rw [filP_snoc, pieB, if_neg (by omega), if_pos h]; simp [two]
theorem fil_byte {l : List Pie} {x : Pie} (h1 : ¬ x.2 = -1) (h2 : ¬ x.2 = 10) : filP l ++ [UInt8.ofNat (65 + x.1 / 26).toNat] ++ [UInt8.ofNat (65 + x.1 % 26).toNat] ++ [UInt8.ofNat x.2.toNat] = filP (l ++ [x]) := by
  rw [filP_snoc, pieB, if_neg h1, if_neg h2]; simp [two]
theorem pieB_len (x : Pie) : (pieB x).length ≤ 3 := by
  unfold pieB two
  split
  · simp
  · split <;> simp
theorem filP_len : ∀ l : List Pie, (filP l).length ≤ 3 * l.length
  | [] => by simp [filP]
  | x :: l => by
    have h1 := pieB_len x
    have h2 := filP_len l
    simp only [filP, List.flatMap_cons, List.length_append, List.length_cons] at h2 ⊢
    omega
theorem Bld.as {b : Nat} {l m : By} {X : Pcs} (B : Bld b l X) (e : l = m) : Bld b m X := e ▸ B
theorem enc_mem : ∀ {f : Nat} {ph : List By} {s : By} {x : Pie}, x ∈ enc f ph s → 0 ≤ x.1 ∧ x.1 ≤ ((ph.length + f : Nat) : Int) ∧ -1 ≤ x.2 ∧ x.2 ≤ 255
  | 0, _, _, x, h => by simp [enc] at h
  | f + 1, ph, s, x, h => by
    unfold enc at h
    split at h
    · simp at h
    · split at h
      · rcases List.mem_cons.1 h with rfl | h
        · have := List.idxOf_le_length (l := ph) (a := s.take (lp ph s))
          have hb := (s.getD (lp ph s) 0).toNat_lt
          simp only
          omega
        · have := enc_mem h
          simp only [List.length_append, List.length_singleton] at this
          omega
      · obtain rfl := List.mem_singleton.1 h
        have := List.idxOf_le_length (l := ph) (a := s)
        simp only
        omega
theorem encS_mem {s : By} {x : Pie} (h : x ∈ encS [[]] s) : 0 ≤ x.1 ∧ x.1 ≤ ((1 + s.length : Nat) : Int) ∧ -1 ≤ x.2 ∧ x.2 ≤ 255 := enc_mem h
theorem pre_mem {α : Type} {a b : List α} {x : α} (h : a ++ [x] <+: b) : x ∈ b := h.subset (by simp)
theorem bld_byteI {h h₀ : Heap} {B₀ : List Nat} {p : PHeap} {A C X : Pcs} {b : Nat} {l : By} (B : Bld b l X) (s₀ : St h₀ B₀ p h (A ++ (X ++ C))) (hl : l.length + 4096 ≤ 2 ^ 30) (z : Int) (h0 : 0 ≤ z) (h1 : z ≤ 255) :
    CallsX Tryd.prog .lone 78 #[selfP b, .int .u8 z] h fun r h' => r = .nilIface ∧ ∃ X', Bld b (l ++ [UInt8.ofNat z.toNat]) X' ∧ St h₀ B₀ p h' (A ++ (X' ++ C)) := by
  have e : (((UInt8.ofNat z.toNat).toNat : Nat) : Int) = z := by
    rw [UInt8.toNat_ofNat_of_lt' (show z.toNat < 256 by omega)]; omega
  have := bld_byte B s₀ hl (UInt8.ofNat z.toNat)
  rwa [e] at this
theorem chk_good {ts : List By} (h : chkT ts = 0) : ts.length ≤ 20 ∧ ∀ t ∈ ts, isText t := by
  unfold chkT at h
  by_cases c : 20 < ts.length
  · rw [if_pos c] at h; cases h
  rw [if_neg c] at h
  by_cases d : 0 ≤ idxT badT ts
  · rw [if_pos d] at h; cases h
  refine ⟨by omega, fun t ht => ?_⟩
  by_cases e : isText t
  · exact e
  · exact absurd (idxT_iff.2 ⟨t, ht, by unfold badT; rw [decide_eq_false e]; rfl⟩) d
theorem whole_len {ts : List By} (h : ts.length ≤ 20) (h2 : ∀ t ∈ ts, t.length ≤ 40) : (wholeB ts).length ≤ 820 := by
  have := wholeB_len h2
  have := Nat.mul_le_mul_right 41 h
  omega
end Go.X.Cent
namespace Go.X.Cent
open Go.X Go.Proofs

def trim1 (t : By) : By := Lib.trimSuffix t [10]
def trimTo (k : Nat) (ts : List By) : List By := (ts.take k).map trim1 ++ ts.drop k
def linesB (all : By) : List By := ((cutAfter 10 all).take ((cutAfter 10 all).length - 1)).map trim1
def readB (s : By) : Int × List By :=
  match formB s with
  | none => (140, [])
  | some l => if sealB (s.take (s.length - 5)) ≠ s then (141, []) else
    match rdTo [] l with
    | none => (142, [])
    | some e => if chkT (linesB e.flatten) ≠ 0 ∨ fileB (linesB e.flatten) ≠ s then (142, []) else (0, linesB e.flatten)
theorem trimTo_len (k : Nat) (ts : List By) : (trimTo k ts).length = ts.length := by
  simp only [trimTo, List.length_append, List.length_map, List.length_take, List.length_drop]; omega
theorem trimTo_at {k : Nat} {ts : List By} (h : k < ts.length) : (trimTo k ts).getD k [] = ts.getD k [] := by
  rw [trimTo, List.getD_eq_getElem?_getD, List.getElem?_append_right (by simp only [List.length_map, List.length_take]; omega)]
  simp only [List.length_map, List.length_take, Nat.min_eq_left (Nat.le_of_lt h), Nat.sub_self, List.getElem?_drop, Nat.add_zero, List.getD_eq_getElem?_getD]
theorem trimTo_zero (ts : List By) : trimTo 0 ts = ts := by simp [trimTo]
theorem trimTo_all {k : Nat} {ts : List By} (h : ts.length ≤ k) : trimTo k ts = ts.map trim1 := by
  rw [trimTo, List.take_of_length_le h, List.drop_of_length_le h, List.append_nil]
theorem trimTo_set {k : Nat} {ts : List By} (h : k < ts.length) : (scs (trimTo k ts)).set k ([sv (ts.getD k [])].set 0 (sv (trim1 (ts.getD k [])))) = scs (trimTo (k + 1) ts) := by
  have e : [sv (ts.getD k [])].set 0 (sv (trim1 (ts.getD k []))) = [sv (trim1 (ts.getD k []))] := rfl
  rw [e, scs, scs, ← List.map_set, trimTo, trimTo, List.set_append_right _ _ (by simp only [List.length_map, List.length_take]; omega)]
  congr 1
  simp only [List.length_map, List.length_take, Nat.min_eq_left (Nat.le_of_lt h), Nat.sub_self]
  rw [List.drop_eq_getElem_cons h, List.set_cons_zero, List.take_add_one, List.getElem?_eq_getElem h, List.map_append, List.append_assoc, List.getD_eq_getElem?_getD, List.getElem?_eq_getElem h]
  rfl
theorem cut_len1 (l : By) : 1 ≤ (cutAfter 10 l).length ∧ (cutAfter 10 l).length ≤ l.length + 1 := by
  rw [cutAfter_len]
  have : l.count 10 ≤ l.length := List.count_le_length
  omega
theorem cut_piece : ∀ {l t : By}, t ∈ cutAfter 10 l → t.length ≤ l.length
  | [], t, h => by simp [cutAfter] at h; subst h; simp
  | b :: l, t, h => by
    unfold cutAfter at h
    split at h
    · rcases List.mem_cons.1 h with rfl | h
      · simp
      · have := cut_piece h; simp only [List.length_cons]; omega
    · split at h
      · rename_i e; exact absurd e (cutAfter_ne _ _)
      · rename_i x r e
        rcases List.mem_cons.1 h with rfl | h
        · have := cut_piece (l := l) (t := x) (by rw [e]; simp)
          simp only [List.length_cons]; omega
        · have := cut_piece (l := l) (t := t) (by rw [e]; simp [h])
          simp only [List.length_cons]; omega
theorem trim1_len (t : By) : (trim1 t).length ≤ t.length := by
  unfold trim1 Lib.trimSuffix
  split
  · rw [List.length_take]; omega
  · exact Nat.le_refl _
theorem lines_len {all t : By} (h : t ∈ linesB all) : t.length ≤ all.length := by
  obtain ⟨u, hu, rfl⟩ := List.mem_map.1 h
  exact Nat.le_trans (trim1_len u) (cut_piece (List.mem_of_mem_take hu))
theorem lines_count (all : By) : (linesB all).length ≤ all.length := by
  have := cut_len1 all
  rw [linesB, List.length_map, List.length_take]; omega
theorem scs_take (l : List By) (k : Nat) : (scs l).take k = scs (l.take k) := by rw [scs, scs, List.map_take]
theorem scs_atT {k : Nat} {ts : List By} (h : k < ts.length) : (scs (trimTo k ts))[k]? = some [sv (ts.getD k [])] := by
  rw [scs_at (by rw [trimTo_len]; exact h), trimTo_at h]
theorem form_none {s : By} (h : (formB s).isSome = false) : formB s = none := by
  cases e : formB s with
  | none => rfl
  | some l => rw [e] at h; cases h
theorem form_five {s : By} {l : List Pie} (h : formB s = some l) : 5 ≤ s.length ∧ s.length ≤ 1400 := by
  unfold formB at h
  split at h
  · cases h
  · rename_i c
    exact ⟨Nat.le_of_not_lt fun z => c (.inr (.inl z)), Nat.le_of_not_lt fun z => c (.inl z)⟩
theorem prs_all {Q : Pie → Prop} (hq : ∀ s x r, pie1 s = some (x, r) → Q x) : ∀ {f : Nat} {out : List Pie} {s : By} {l : List Pie}, (∀ x ∈ out, Q x) → prs f out s = some l → (∀ x ∈ l, Q x) ∧ l.length ≤ out.length + f
  | 0, out, s, l, h, e => by
    obtain rfl := Option.some.inj e
    exact ⟨h, by omega⟩
  | f + 1, out, s, l, h, e => by
    unfold prs at e
    split at e
    · obtain rfl := Option.some.inj e
      exact ⟨h, by omega⟩
    · split at e
      · cases e
      · rename_i x r e1
        have := prs_all hq (f := f) (out := out ++ [x]) (s := r) (l := l) (fun y hy => by
          rcases List.mem_append.1 hy with z | z
          · exact h y z
          · rw [List.mem_singleton.1 z]; exact hq _ _ _ e1) e
        rw [List.length_append, List.length_singleton] at this
        exact ⟨this.1, by omega⟩
theorem prs_half : ∀ {f : Nat} {out : List Pie} {s : By} {l : List Pie}, prs f out s = some l → 2 * l.length ≤ 2 * out.length + s.length
  | 0, out, s, l, e => by
    obtain rfl := Option.some.inj e
    omega
  | f + 1, out, s, l, e => by
    unfold prs at e
    split at e
    · obtain rfl := Option.some.inj e
      omega
    · split at e
      · cases e
      · rename_i x r e1
        have := prs_half (f := f) e
        have h2 : r.length + 2 ≤ s.length := by
          unfold pie1 at e1
          split at e1
          · cases e1
          rename_i h0
          have : ¬ s.length < 2 := fun z => h0 (.inl z)
          split at e1
          · cases e1; rw [List.length_drop]; omega
          split at e1
          · cases e1; rw [List.length_drop, List.length_drop]; omega
          split at e1
          · cases e1
          · cases e1; rw [List.length_drop, List.length_drop]; omega
        rw [List.length_append, List.length_singleton] at this
        omega
theorem pie1_ok {s : By} {x : Pie} {r : By} (h : pie1 s = some (x, r)) : 0 ≤ x.1 ∧ x.1 ≤ 675 ∧ -1 ≤ x.2 ∧ x.2 ≤ 125 := by
  unfold pie1 at h
  split at h
  · cases h
  rename_i h0
  have h1 : isL (s.getD 0 0) := Decidable.not_not.1 fun z => h0 (.inr (.inl z))
  have h2 : isL (s.getD 1 0) := Decidable.not_not.1 fun z => h0 (.inr (.inr z))
  obtain ⟨a1, a2⟩ := h1
  obtain ⟨b1, b2⟩ := h2
  have hp : 0 ≤ phN s ∧ phN s ≤ 675 := by unfold phN; omega
  split at h
  · cases h; exact ⟨hp.1, hp.2, by omega, by omega⟩
  split at h
  · cases h; exact ⟨hp.1, hp.2, by omega, by omega⟩
  split at h
  · cases h
  · rename_i h3
    cases h; exact ⟨hp.1, hp.2, by omega, by omega⟩
theorem form_ok (s : By) : ((formB s).getD []).length ≤ 700 ∧ ∀ x ∈ (formB s).getD [], 0 ≤ x.1 ∧ x.1 ≤ 675 ∧ -1 ≤ x.2 ∧ x.2 ≤ 125 := by
  cases e : formB s with
  | none => simp
  | some l =>
    have h5 := form_five e
    unfold formB at e
    split at e
    · cases e
    split at e
    · cases e
    · have h1 := prs_all (Q := fun x => 0 ≤ x.1 ∧ x.1 ≤ 675 ∧ -1 ≤ x.2 ∧ x.2 ≤ 125) (fun _ _ _ => pie1_ok) (by simp) e
      have h2 := prs_half e
      rw [List.length_take] at h2
      exact ⟨by show l.length ≤ 700; simp only [List.length_nil] at h2; omega, h1.1⟩
theorem form_mem (s : By) : ∀ x ∈ (formB s).getD [], 0 ≤ x.1 ∧ -1 ≤ x.2 ∧ x.2 ≤ 255 := fun x hx => by have := (form_ok s).2 x hx; omega
theorem rd_lens : ∀ {l : List Pie} {e r : List By}, rdTo e l = some r → (∀ t ∈ e, t.length ≤ e.length) → (∀ t ∈ r, t.length ≤ r.length) ∧ r.length = e.length + l.length
  | [], e, r, h, hm => by
    obtain rfl := Option.some.inj h
    exact ⟨hm, by simp⟩
  | x :: l, e, r, h, hm => by
    unfold rdTo at h
    split at h
    · cases h
    · rename_i t ht
      have h1 : t.length ≤ e.length + 1 := by
        unfold rd1 at ht
        split at ht
        · cases ht
        split at ht
        · cases ht
        · obtain rfl := Option.some.inj ht
          have := ph_len (i := x.1.toNat) hm
          unfold pT
          rw [List.length_append]
          split
          · simp only [List.length_nil]; omega
          · simp only [List.length_singleton]; omega
      have := rd_lens h (by rw [List.length_append, List.length_singleton]; exact all_snoc hm h1)
      rw [List.length_append, List.length_singleton] at this
      exact ⟨this.1, by rw [this.2, List.length_cons]; omega⟩
theorem flat_le {m : Nat} : ∀ {r : List By}, (∀ t ∈ r, t.length ≤ m) → r.flatten.length ≤ r.length * m
  | [], _ => by simp
  | t :: r, h => by
    have h1 := h t (by simp)
    have h2 := flat_le (r := r) fun x hx => h x (by simp [hx])
    rw [List.flatten_cons, List.length_append, List.length_cons, Nat.add_mul]
    omega
theorem rd_flat {l : List Pie} {r : List By} (h : rdTo [] l = some r) (hl : l.length ≤ 1000) : r.flatten.length ≤ 1000000 := by
  have := rd_lens h (by simp)
  simp only [List.length_nil, Nat.zero_add] at this
  have h1 := flat_le (r := r) (m := 1000) fun t ht => by have := this.1 t ht; omega
  have h2 := Nat.mul_le_mul_right 1000 (show r.length ≤ 1000 by omega)
  omega
end Go.X.Cent
namespace Go.X.Cent
open Go.X

def errT (ts : List By) : Prop := chkT ts ≠ 0
instance (ts : List By) : Decidable (errT ts) := inferInstanceAs (Decidable (_ ≠ _))
def writeB (ts : List By) : By × Int := if chkT ts ≠ 0 then ([], chkT ts) else (fileB ts, 0)
def pcB (ts : List By) : List By := if chkT ts ≠ 0 then [] else (rdTo [] (encS [[]] (wholeB ts))).getD []
def savesB (ts : List By) : Int × Int := if chkT ts ≠ 0 then (0, chkT ts) else ((((wholeB ts).length : Nat) : Int) - (((fileB ts).length : Nat) : Int), 0)
def badN (l : List Pie) (n : Int) : Prop := n < 0 ∨ ((l.length : Nat) : Int) < n ∨ 0 < n ∧ (l.getD (n - 1).toNat pz).2 = -1
instance (l : List Pie) (n : Int) : Decidable (badN l n) := inferInstanceAs (Decidable (_ ∨ _))
def cntN (l : List Pie) (n : Int) : Nat := l.countP fun x => decide (x.1 = n)
def usesB (ts : List By) (n : Int) : Int × Int :=
  if chkT ts ≠ 0 then (0, chkT ts) else if badN (encS [[]] (wholeB ts)) n then (0, 1) else (((cntN (encS [[]] (wholeB ts)) n : Nat) : Int), 0)
def longB (l : List By) : Nat := l.foldl (fun n t => max n t.length) 0
def sumB (s : By) : Int × Int := if 1400 < s.length then (0, 1) else (((total s % 9973 : Nat) : Int), 0)
def parseB (s : By) : Int := if (formB s).isSome then 0 else 140
def stateB (s : By) : Int := if (readB s).1 = 0 then 1 else if (readB s).1 = 140 then 2 else if (readB s).1 = 141 then 3 else 4
def addB (s t : By) : By × Int := if (readB s).1 ≠ 0 then ([], (readB s).1) else writeB ((readB s).2 ++ [t])
theorem cnt_step {l : List Pie} {n : Int} {k : Nat} (hk : k < l.length) : cntN (l.take (k + 1)) n = cntN (l.take k) n + if (l.getD k pz).1 = n then 1 else 0 := by
  rw [List.take_add_one, List.getElem?_eq_getElem hk, List.getD_eq_getElem?_getD, List.getElem?_eq_getElem hk, cntN, cntN, List.countP_append]
  congr 1
  simp [List.countP_cons]
theorem good_len {ts : List By} (h : ¬ chkT ts ≠ 0) : (∀ t ∈ ts, t.length ≤ 40) ∧ (∀ t ∈ ts, t.length ≤ 200) ∧ (wholeB ts).length ≤ 820 ∧ ts.length ≤ 20 ∧ (encS [[]] (wholeB ts)).length ≤ 820 ∧ ∀ x ∈ encS [[]] (wholeB ts), 0 ≤ x.1 ∧ -1 ≤ x.2 ∧ x.2 ≤ 255 := by
  have g := chk_good (Decidable.not_not.1 h)
  have h40 : ∀ t ∈ ts, t.length ≤ 40 := fun t z => (g.2 t z).1
  have hw := whole_len g.1 h40
  exact ⟨h40, fun t z => by have := h40 t z; omega, hw, g.1, Nat.le_trans encS_len hw, fun x hx => by have := encS_mem hx; omega⟩
theorem seal_len (l : By) : (sealB l).length = l.length + 5 := by simp [sealB, four]
theorem read_good {s : By} (h : (readB s).1 = 0) : (readB s).2.length ≤ 20 ∧ ∀ t ∈ (readB s).2, isText t := by
  unfold readB at h ⊢
  split at h
  · cases h
  rename_i l hl
  split at h
  · cases h
  rename_i h1
  split at h
  · cases h
  rename_i e he
  split at h
  · cases h
  · rename_i h2
    rw [if_neg h1, if_neg h2]
    exact chk_good (Decidable.not_not.1 fun z => h2 (.inl z))
theorem read_more {l : List By} {t : By} (h : l.length ≤ 20 ∧ ∀ t ∈ l, isText t) (ht : t.length ≤ 2 ^ 60) : ∀ i, i < (l ++ [t]).length → ((l ++ [t]).getD i []).length ≤ 2 ^ 60 := fun i hi => by
  rcases List.mem_append.1 (gmem (d := []) hi) with z | z
  · have := (h.2 _ z).1; omega
  · rw [List.mem_singleton.1 z]; exact ht
end Go.X.Cent
namespace Go.Proofs.YtiinpnlfdeiloaaDoor
open Go.X Go.X.Cent Go.Conc
set_option maxRecDepth 10000

theorem c22 (md : Md) (h : Heap) (n lo hi : Int) : CallsX Tryd.prog md 22 #[.int .i64 (n), .int .i64 (lo), .int .i64 (hi)] h fun v h' => v = .bool (decide (lo ≤ n ∧ n ≤ hi)) ∧ Keep h h' := by
  refine calls_intro (Φ := fun h_ => St h [] (fun _ => none) h_ []) Tryd.func22 rfl (tm := [_, _, _, _, _, _, _, _, _, _, _, _, _, _, _]) rfl ?_ (St.start h _ (fun _ _ e => by cases e))
  intro c₀ cs Stop K
  refine fl_seq ?_
  refine rl_start ?_
  refine rl_det (met_none rfl) (fun h_ H_ => exd_assign (v := .bool (false)) rfl) rfl ?_
  refine rl_end ?_
  refine fl_seq ?_
  refine rl_start ?_
  refine rl_det (met_none rfl) (fun h_ H_ => exd_move (v := .int .i64 (lo)) rfl) rfl ?_
  refine rl_det (met_none rfl) (fun h_ H_ => exd_move (v := .int .i64 (n)) rfl) (tm' := _::_::_::_::_::_::_::_::_::_) rfl ?_
  refine rl_det (met_none rfl) (fun h_ H_ => exd_leq rfl rfl) rfl ?_
  refine rl_det (met_none rfl) (fun h_ H_ => exd_move (v := .bool (decide (lo ≤ n))) rfl) rfl ?_
  by_cases cc1 : lo ≤ n
  · refine rl_det (met_some rfl rfl (decide_eq_true cc1)) (fun h_ H_ => exd_move (v := .int .i64 (n)) rfl) (tm' := [_,_,_,_,_,_,_,_,_,_,_,_,_,_,_]) rfl ?_
    refine rl_det (met_some rfl rfl (decide_eq_true cc1)) (fun h_ H_ => exd_move (v := .int .i64 (hi)) rfl) rfl ?_
    refine rl_det (met_some rfl rfl (decide_eq_true cc1)) (fun h_ H_ => exd_leq rfl rfl) rfl ?_
    refine rl_det (met_none rfl) (fun h_ H_ => exd_pick_t rfl (decide_eq_true cc1) (v := .bool (decide (n ≤ hi))) rfl) (tm' := [_,_,_,_,_,_,_,_,_,_,_,_,_,_,_]) rfl ?_
    refine rl_det (met_none rfl) (fun h_ H_ => exd_assign (v := .bool (decide (n ≤ hi))) rfl) rfl ?_
    refine rl_end ?_
    refine fl_ret Tryd.func22 rfl (vs := [.bool (decide (n ≤ hi))]) (fun h_ H_ => ⟨.bool (decide (n ≤ hi)), _, rfl, rfl, rfl⟩) (v := .bool (decide (n ≤ hi))) rfl ?_
    exact fun h_ H_ => K _ _ ⟨by simp [*], H_.kept⟩
  · refine rl_pass (met_not rfl rfl (decide_eq_false cc1)) rfl ?_
    refine rl_pass (met_not rfl rfl (decide_eq_false cc1)) (tm' := [_,_,_,_,_,_,_,_,_,_,_,_,_,_,_]) rfl ?_
    refine rl_pass (met_not rfl rfl (decide_eq_false cc1)) rfl ?_
    refine rl_det (met_none rfl) (fun h_ H_ => exd_pick_f rfl (decide_eq_false cc1) (v := .bool (false)) rfl) rfl ?_
    refine rl_det (met_none rfl) (fun h_ H_ => exd_assign (v := .bool (false)) rfl) (tm' := _::_::_::_::_::_::_::_) rfl ?_
    refine rl_end ?_
    refine fl_ret Tryd.func22 rfl (vs := [.bool (false)]) (fun h_ H_ => ⟨.bool (false), _, rfl, rfl, rfl⟩) (v := .bool (false)) rfl ?_
    exact fun h_ H_ => K _ _ ⟨by simp [*], H_.kept⟩
theorem c69 (md : Md) (h : Heap) (c : Int) : CallsX Tryd.prog md 69 #[.int .u8 (c)] h fun v h' => v = .bool (decide (65 ≤ c ∧ c ≤ 90)) ∧ Keep h h' := by
  refine calls_intro (Φ := fun h_ => St h [] (fun _ => none) h_ []) Tryd.func69 rfl (tm := [_, _, _, _, _, _, _, _, _]) rfl ?_ (St.start h _ (fun _ _ e => by cases e))
  intro c₀ cs Stop K
  refine fl_seq ?_
  refine rl_start ?_
  refine rl_det (met_none rfl) (fun h_ H_ => exd_assign (v := .bool (false)) rfl) rfl ?_
  refine rl_end ?_
  refine fl_seq ?_
  refine rl_start ?_
  refine rl_det (met_none rfl) (fun h_ H_ => exd_move (v := .int .u8 (c)) rfl) rfl ?_
  refine rl_det (met_none rfl) (fun h_ H_ => exd_geq rfl rfl) (tm' := _::_::_::_::_::_) rfl ?_
  refine rl_det (met_none rfl) (fun h_ H_ => exd_move (v := .bool (decide (65 ≤ c))) rfl) rfl ?_
  by_cases cc1 : 65 ≤ c
  · refine rl_det (met_some rfl rfl (decide_eq_true cc1)) (fun h_ H_ => exd_move (v := .int .u8 (c)) rfl) rfl ?_
    refine rl_det (met_some rfl rfl (decide_eq_true cc1)) (fun h_ H_ => exd_leq rfl rfl) (tm' := [_,_,_,_,_,_,_,_,_]) rfl ?_
    refine rl_det (met_none rfl) (fun h_ H_ => exd_pick_t rfl (decide_eq_true cc1) (v := .bool (decide (c ≤ 90))) rfl) rfl ?_
    refine rl_det (met_none rfl) (fun h_ H_ => exd_assign (v := .bool (decide (c ≤ 90))) rfl) rfl ?_
    refine rl_end ?_
    refine fl_ret Tryd.func69 rfl (vs := [.bool (decide (c ≤ 90))]) (fun h_ H_ => ⟨.bool (decide (c ≤ 90)), _, rfl, rfl, rfl⟩) (v := .bool (decide (c ≤ 90))) rfl ?_
    exact fun h_ H_ => K _ _ ⟨by simp [*], H_.kept⟩
  · refine rl_pass (met_not rfl rfl (decide_eq_false cc1)) (tm' := [_,_,_,_,_,_,_,_,_]) rfl ?_
    refine rl_pass (met_not rfl rfl (decide_eq_false cc1)) rfl ?_
    refine rl_det (met_none rfl) (fun h_ H_ => exd_pick_f rfl (decide_eq_false cc1) (v := .bool (false)) rfl) rfl ?_
    refine rl_det (met_none rfl) (fun h_ H_ => exd_assign (v := .bool (false)) rfl) (tm' := _::_::_::_) rfl ?_
    refine rl_end ?_
    refine fl_ret Tryd.func69 rfl (vs := [.bool (false)]) (fun h_ H_ => ⟨.bool (false), _, rfl, rfl, rfl⟩) (v := .bool (false)) rfl ?_
    exact fun h_ H_ => K _ _ ⟨by simp [*], H_.kept⟩
theorem c62 (md : Md) (h : Heap) (l : By) (hl : l.length ≤ 4096) : CallsX Tryd.prog md 62 #[sv l] h fun v h' => v = .int .i64 ((total l % 9973 : Nat) : Int) ∧ Keep h h' := by
  refine calls_intro (Φ := fun h_ => St h [] (fun _ => none) h_ []) Tryd.func62 rfl (tm := [_, _, _, _, _, _, _, _, _, _, _, _, _, _, _, _, _, _, _, _, _, _]) rfl ?_ (St.start h _ (fun _ _ e => by cases e))
  intro c₀ cs Stop K
  refine fl_seq ?_
  refine rl_start ?_
  refine rl_det (met_none rfl) (fun h_ H_ => exd_assign (v := .int .i64 0) rfl) rfl ?_
  refine rl_end ?_
  refine fl_seq ?_
  refine rl_start ?_
  refine rl_det (met_none rfl) (fun h_ H_ => exd_assign (v := .int .i64 0) rfl) rfl ?_
  refine rl_end ?_
  refine fl_seq ?_
  refine fl_seq ?_
  refine rl_start ?_
  refine rl_det (met_none rfl) (fun h_ H_ => exd_move (v := sv l) rfl) (tm' := _::_::_::_::_::_::_) rfl ?_
  refine rl_det (met_none rfl) (fun h_ H_ => exd_lenS (l := l) Tryd.underlying9 rfl) rfl ?_
  refine rl_det (met_none rfl) (fun h_ H_ => exd_move (v := .int .i64 0) rfl) rfl ?_
  refine rl_end ?_
  refine fl_block ?_
  refine fl_loop (m₀ := l.length - 0) (fun m_ tm_ h_ => ∃ (k : Nat), m_ = l.length - k ∧ (∃ y1 : Nat → Value, tm_ = [sv l, undef, .int .i64 0, .int .i64 (((wsumTo l k : Nat) : Int)), (y1 4), sv l, .int .i64 (((l.length : Nat) : Int)), .int .i64 (((k : Nat) : Int)), (y1 8), (y1 9), (y1 10), (y1 11), (y1 12), (y1 13), (y1 14), (y1 15), (y1 16), (y1 17), (y1 18), (y1 19), undef, undef]) ∧ (k ≤ l.length) ∧ St h [] (fun _ => none) h_ ([])) (fun h_ H_ => ⟨0, rfl, (y_of rfl), Nat.zero_le _, H_⟩) ?_
  intro m_ tm_ IH2
  refine rs_ex fun k => rs_and fun hm_ => rs_and fun ht_ => rs_and fun hk => ?_
  subst hm_; obtain ⟨y1, ht_⟩ := ht_; subst ht_
  have hb := byte_le (l.getD k 0)
  have hs := wsumTo_le l (k := k) (by omega)
  have ht : k < l.length → (l.getD k 0).toNat * (k + 1) ≤ 1044480 := fun z => term_le l (by omega)
  refine fl_seq ?_
  refine rl_start ?_
  refine rl_det (met_none rfl) (fun h_ H_ => exd_lss rfl rfl) (tm' := _::_::_::_::_::_::_::_::_::_) rfl ?_
  refine rl_end ?_
  refine fl_seq ?_
  by_cases cc3 : ((k : Nat) : Int) < ((l.length : Nat) : Int)
  · refine fl_then rfl (decide_eq_true cc3) ?_
    refine fl_skip ?_
    refine fl_seq ?_
    refine fl_block ?_
    refine fl_seq ?_
    refine rl_start ?_
    refine rl_det (met_none rfl) (fun h_ H_ => exd_move (v := .int .i64 (((k : Nat) : Int))) rfl) rfl ?_
    refine rl_det (met_none rfl) (fun h_ H_ => exd_assign (v := .int .i64 (((k : Nat) : Int))) rfl) rfl ?_
    refine rl_end ?_
    refine rl_start ?_
    refine rl_det (met_none rfl) (fun h_ H_ => exd_move (v := .int .i64 (((wsumTo l k : Nat) : Int))) rfl) (tm' := _::_::_::_::_::_::_::_::_::_::_::_) rfl ?_
    refine rl_det (met_none rfl) (fun h_ H_ => exd_move (v := sv l) rfl) rfl ?_
    refine rl_det (met_none rfl) (fun h_ H_ => exd_move (v := .int .i64 (((k : Nat) : Int))) rfl) rfl ?_
    refine rl_det (met_none rfl) (fun h_ H_ => exd_indexSN (l := l) (i := k) Tryd.underlying9 rfl rfl (by omega)) (tm' := _::_::_::_::_::_::_::_::_::_::_::_::_::_::_) rfl ?_
    refine rl_det (met_none rfl) (fun h_ H_ => exd_conv ⟨_, Tryd.underlying5⟩ Tryd.underlying3 rfl (n := (((l.getD k 0).toNat : Nat) : Int)) (wrB _)) rfl ?_
    refine rl_det (met_none rfl) (fun h_ H_ => exd_move (v := .int .i64 (((k : Nat) : Int))) rfl) rfl ?_
    refine rl_det (met_none rfl) (fun h_ H_ => exd_add rfl rfl (n := ((k + 1 : Nat) : Int)) (wr (by omega))) (tm' := [_,_,_,_,_,_,_,_,_,_,_,_,_,_,_,_,_,_,_,_,_,_]) rfl ?_
    refine rl_det (met_none rfl) (fun h_ H_ => exd_mul rfl rfl (wr (by omega))) rfl ?_
    refine rl_det (met_none rfl) (fun h_ H_ => exd_add rfl rfl (wr (by omega))) rfl ?_
    refine rl_det (met_none rfl) (fun h_ H_ => exd_assign (v := .int .i64 (((wsumTo l k : Nat) : Int) + ((((l.getD k 0).toNat : Nat) : Int) * ((k + 1 : Nat) : Int)))) rfl) (tm' := _::_::_::_::_) rfl ?_
    refine rl_end ?_
    refine fl_inBlock ?_
    refine rl_start ?_
    refine rl_det (met_none rfl) (fun h_ H_ => exd_add rfl rfl (n := ((k + 1 : Nat) : Int)) (wr (by omega))) rfl ?_
    refine rl_det (met_none rfl) (fun h_ H_ => exd_move (v := .int .i64 (((k + 1 : Nat) : Int))) rfl) rfl ?_
    refine rl_end ?_
    exact fun h_ H_ => IH2 _ _ (by omega) h_ ⟨k + 1, rfl, (y_of rfl), (by omega), H_⟩
  · refine fl_else rfl (decide_eq_false cc3) ?_
    refine fl_exit rfl ?_
    refine fl_seq ?_
    refine rl_start ?_
    refine rl_det (met_none rfl) (fun h_ H_ => exd_move (v := .int .i64 (((wsumTo l k : Nat) : Int))) rfl) (tm' := [_,_,_,_,_,_,_,_,_,_,_,_,_,_,_,_,_,_,_,_,_,_]) rfl ?_
    refine rl_det (met_none rfl) (fun h_ H_ => exd_rem rfl rfl (by decide) (n := ((wsumTo l k : Nat) : Int) % 9973) (Int.tmod_eq_emod_of_nonneg (by omega))) rfl ?_
    refine rl_det (met_none rfl) (fun h_ H_ => exd_assign (v := .int .i64 (((wsumTo l k : Nat) : Int) % 9973)) rfl) rfl ?_
    refine rl_end ?_
    refine fl_ret Tryd.func62 rfl (vs := [.int .i64 (((wsumTo l k : Nat) : Int) % 9973)]) (fun h_ H_ => ⟨.int .i64 (((wsumTo l k : Nat) : Int) % 9973), _, rfl, rfl, rfl⟩) (v := .int .i64 (((wsumTo l k : Nat) : Int) % 9973)) rfl ?_
    exact fun h_ H_ => K _ _ ⟨(by cases (show k = l.length from (by omega)); rfl), H_.kept⟩
theorem c35 (md : Md) (h : Heap) (l : By) (hl : l.length ≤ 4096) : CallsX Tryd.prog md 35 #[sv l] h fun v h' => v = .int .i64 ((total l % 9973 : Nat) : Int) ∧ Keep h h' := by
  refine calls_intro (Φ := fun h_ => St h [] (fun _ => none) h_ []) Tryd.func35 rfl (tm := [_, _, _, _, _, _, _, _, _, _, _, _, _, _, _, _, _, _, _, _, _, _]) rfl ?_ (St.start h _ (fun _ _ e => by cases e))
  intro c₀ cs Stop K
  refine fl_seq ?_
  refine rl_start ?_
  refine rl_det (met_none rfl) (fun h_ H_ => exd_assign (v := .int .i64 0) rfl) (tm' := _::_::_::_) rfl ?_
  refine rl_end ?_
  refine fl_seq ?_
  refine rl_start ?_
  refine rl_det (met_none rfl) (fun h_ H_ => exd_assign (v := .int .i64 0) rfl) rfl ?_
  refine rl_end ?_
  refine fl_seq ?_
  refine fl_seq ?_
  refine rl_start ?_
  refine rl_det (met_none rfl) (fun h_ H_ => exd_assign (v := .int .i64 0) rfl) rfl ?_
  refine rl_end ?_
  refine fl_block ?_
  refine fl_loop (m₀ := l.length - 0) (fun m_ tm_ h_ => ∃ (k : Nat), m_ = l.length - k ∧ (∃ y1 : Nat → Value, tm_ = [sv l, undef, .int .i64 0, .int .i64 (((wsumTo l k % 9973 : Nat) : Int)), .int .i64 (((k : Nat) : Int)), (y1 5), (y1 6), (y1 7), (y1 8), (y1 9), (y1 10), (y1 11), (y1 12), (y1 13), (y1 14), (y1 15), (y1 16), (y1 17), (y1 18), (y1 19), (y1 20), undef]) ∧ (k ≤ l.length) ∧ St h [] (fun _ => none) h_ ([])) (fun h_ H_ => ⟨0, rfl, (y_of rfl), Nat.zero_le _, H_⟩) ?_
  intro m_ tm_ IH2
  refine rs_ex fun k => rs_and fun hm_ => rs_and fun ht_ => rs_and fun hk => ?_
  subst hm_; obtain ⟨y1, ht_⟩ := ht_; subst ht_
  have hb := byte_le (l.getD k 0)
  have hs := wsumTo_le l (k := k) (by omega)
  have ht : k < l.length → (l.getD k 0).toNat * (k + 1) ≤ 1044480 := fun z => term_le l (by omega)
  refine fl_seq ?_
  refine fl_seq ?_
  refine rl_start ?_
  refine rl_det (met_none rfl) (fun h_ H_ => exd_move (v := .int .i64 (((k : Nat) : Int))) rfl) (tm' := _::_::_::_::_::_::_) rfl ?_
  refine rl_det (met_none rfl) (fun h_ H_ => exd_move (v := sv l) rfl) rfl ?_
  refine rl_det (met_none rfl) (fun h_ H_ => exd_lenS (l := l) Tryd.underlying9 rfl) rfl ?_
  refine rl_det (met_none rfl) (fun h_ H_ => exd_lss rfl rfl) (tm' := _::_::_::_::_::_::_::_::_::_) rfl ?_
  refine rl_end ?_
  by_cases cc3 : ((k : Nat) : Int) < ((l.length : Nat) : Int)
  · refine fl_then rfl (decide_eq_true cc3) ?_
    refine fl_skip ?_
    refine fl_seq ?_
    refine fl_block ?_
    refine rl_start ?_
    refine rl_det (met_none rfl) (fun h_ H_ => exd_move (v := .int .i64 (((wsumTo l k % 9973 : Nat) : Int))) rfl) rfl ?_
    refine rl_det (met_none rfl) (fun h_ H_ => exd_move (v := sv l) rfl) rfl ?_
    refine rl_det (met_none rfl) (fun h_ H_ => exd_move (v := .int .i64 (((k : Nat) : Int))) rfl) (tm' := _::_::_::_::_::_::_::_::_::_::_::_::_::_::_) rfl ?_
    refine rl_det (met_none rfl) (fun h_ H_ => exd_indexSN (l := l) (i := k) Tryd.underlying9 rfl rfl (by omega)) rfl ?_
    refine rl_det (met_none rfl) (fun h_ H_ => exd_conv ⟨_, Tryd.underlying5⟩ Tryd.underlying3 rfl (n := (((l.getD k 0).toNat : Nat) : Int)) (wrB _)) rfl ?_
    refine rl_det (met_none rfl) (fun h_ H_ => exd_move (v := .int .i64 (((k : Nat) : Int))) rfl) (tm' := [_,_,_,_,_,_,_,_,_,_,_,_,_,_,_,_,_,_,_,_,_,_]) rfl ?_
    refine rl_det (met_none rfl) (fun h_ H_ => exd_add rfl rfl (n := ((k + 1 : Nat) : Int)) (wr (by omega))) rfl ?_
    refine rl_det (met_none rfl) (fun h_ H_ => exd_mul rfl rfl (wr (by omega))) rfl ?_
    refine rl_det (met_none rfl) (fun h_ H_ => exd_add rfl rfl (wr (by omega))) (tm' := [_,_,_,_,_,_,_,_,_,_,_,_,_,_,_,_,_,_,_,_,_,_]) rfl ?_
    refine rl_det (met_none rfl) (fun h_ H_ => exd_rem rfl rfl (by decide) (n := ((wsumTo l (k + 1) % 9973 : Nat) : Int)) (sumof_step l k)) rfl ?_
    refine rl_det (met_none rfl) (fun h_ H_ => exd_assign (v := .int .i64 (((wsumTo l (k + 1) % 9973 : Nat) : Int))) rfl) rfl ?_
    refine rl_end ?_
    refine fl_inBlock ?_
    refine rl_start ?_
    refine rl_det (met_none rfl) (fun h_ H_ => exd_move (v := .int .i64 (((k : Nat) : Int))) rfl) (tm' := _::_::_::_::_::_::_::_::_::_::_) rfl ?_
    refine rl_det (met_none rfl) (fun h_ H_ => exd_add rfl rfl (n := ((k + 1 : Nat) : Int)) (wr (by omega))) rfl ?_
    refine rl_det (met_none rfl) (fun h_ H_ => exd_assign (v := .int .i64 (((k + 1 : Nat) : Int))) rfl) rfl ?_
    refine rl_end ?_
    exact fun h_ H_ => IH2 _ _ (by omega) h_ ⟨k + 1, rfl, (y_of rfl), (by omega), H_⟩
  · refine fl_else rfl (decide_eq_false cc3) ?_
    refine fl_exit rfl ?_
    refine fl_seq ?_
    refine rl_start ?_
    refine rl_det (met_none rfl) (fun h_ H_ => exd_move (v := .int .i64 (((wsumTo l k % 9973 : Nat) : Int))) rfl) (tm' := [_,_,_,_,_,_,_,_,_,_,_,_,_,_,_,_,_,_,_,_,_,_]) rfl ?_
    refine rl_det (met_none rfl) (fun h_ H_ => exd_assign (v := .int .i64 (((wsumTo l k % 9973 : Nat) : Int))) rfl) rfl ?_
    refine rl_end ?_
    refine fl_ret Tryd.func35 rfl (vs := [.int .i64 (((wsumTo l k % 9973 : Nat) : Int))]) (fun h_ H_ => ⟨.int .i64 (((wsumTo l k % 9973 : Nat) : Int)), _, rfl, rfl, rfl⟩) (v := .int .i64 (((wsumTo l k % 9973 : Nat) : Int))) rfl ?_
    exact fun h_ H_ => K _ _ ⟨(by cases (show k = l.length from (by omega)); rfl), H_.kept⟩
end Go.Proofs.YtiinpnlfdeiloaaDoor
namespace Go.Proofs.YtiinpnlfdeiloaaDoor
open Go.X Go.X.Cent Go.Conc
set_option maxRecDepth 10000

end Go.Proofs.YtiinpnlfdeiloaaDoor
namespace Go.X
open Go.Conc
section
variable {P : Program} {md : Md} {ops : List Oper} {tm : List Value} {h₀ : Heap} {B₀ : List Nat} {p : PHeap} {A : Pcs} {ty : TypeId} {pos : String} {aft : Array Edge} {gd : Option (Nat × Bool)}
end
end Go.X
namespace Go.X
open Go.Conc

/-- 'Q' of an operation sees only those in 'anc'. -/
def Qr (anc : Nat → List Nat) (Q : Nat → (Nat → Value) → (Nat → Pcs) → Value → Pcs → Prop) (val : Nat → Value) (piece : Nat → Pcs) (i : Nat) : Value → Pcs → Prop :=
  Q i (fun j => if (anc i).contains j = true then val j else undef) (fun j => if (anc i).contains j = true then piece j else [])
theorem Qr_congr {anc : Nat → List Nat} {Q : Nat → (Nat → Value) → (Nat → Pcs) → Value → Pcs → Prop} {val val' : Nat → Value} {piece piece' : Nat → Pcs} {i : Nat} (h : ∀ y, (anc i).contains y = true → val y = val' y ∧ piece y = piece' y) :
    Qr anc Q val piece i = Qr anc Q val' piece' i := by
  unfold Qr
  have e1 : (fun j => if (anc i).contains j = true then val j else undef) = (fun j => if (anc i).contains j = true then val' j else undef) := by
    funext j; split
    · rename_i hj; exact (h j hj).1
    · rfl
  have e2 : (fun j => if (anc i).contains j = true then piece j else []) = (fun j => if (anc i).contains j = true then piece' j else []) := by
    funext j; split
    · rename_i hj; exact (h j hj).2
    · rfl
  rw [e1, e2]
def ancok (ops : List Oper) (m : Nat) (cl : List (List Nat)) (anc : Nat → List Nat) : Bool :=
  ops.zipIdx.all fun (o, i) => !decide (i < m) || (anc i).all fun j => behind cl o j
theorem ancok_at {ops : List Oper} {m : Nat} {cl : List (List Nat)} {anc : Nat → List Nat} (h : ancok ops m cl anc = true) {i j : Nat} {o : Oper} (hi : i < m) (ho : ops[i]? = some o) (hj : (anc i).contains j = true) : behind cl o j = true := by
  unfold ancok at h
  rw [List.all_eq_true] at h
  have := h (o, i) (by rw [List.mem_zipIdx_iff_getElem?]; exact ho)
  simp only [hi, decide_true, Bool.not_true, Bool.false_or, List.all_eq_true] at this
  exact this j (by simpa using hj)
theorem behind_lt {ops : List Oper} {m : Nat} {cl : List (List Nat)} (hs : stable ops m cl = true) {i j : Nat} {o : Oper} (ho : ops[i]? = some o) (h : behind cl o j = true) : j < i := by
  rcases (behind_iff).1 h with h | ⟨k, hk, h⟩
  · exact (stable_at hs ho).1 j h
  · have h1 := (stable_at hs ho).1 k hk
    obtain ⟨ok, hok⟩ : ∃ ok, ops[k]? = some ok := ⟨_, List.getElem?_eq_getElem (Nat.lt_trans h1 (List.getElem?_eq_some_iff.1 ho).1)⟩
    exact Nat.lt_trans (stable_cl hs hok h).1 h1

/-- What is asked of an operation whose turn it is. -/
def OpMix2 (P : Program) (md : Md) (ops : List Oper) (tmF : (Nat → Value) → List Value) (h₀ : Heap) (B₀ : List Nat) (p : PHeap) (A : Pcs) (ini : List Nat) (X : Nat → Pcs) (use : Nat → List Nat) (anc : Nat → List Nat) (Q : Nat → (Nat → Value) → (Nat → Pcs) → Value → Pcs → Prop) (i : Nat) (o : Oper) : Prop :=
  ∀ val piece, (∀ j, (anc i).contains j = true → Qr anc Q val piece j (val j) (piece j)) → (∀ j ∈ ini, piece j = X j) →
    (Met ops (tmF val) o true ∧ ∀ C h, St h₀ B₀ p h ((use i).flatMap piece ++ (A ++ C)) →
      Exv P (tmF val) o h (fun v h' => ∃ x, Qr anc Q val piece i v x ∧ St h₀ B₀ p h' (x ++ (A ++ C))) ∨
      (∃ g args, (wpS P (execOp (evl (tmF val)) o) h fun n h' => n = .enter g args ∧ h' = h) ∧ CallsX P md g args h (fun v h' => ∃ x, Qr anc Q val piece i v x ∧ St h₀ B₀ p h' (x ++ (A ++ C))))) ∨
    (Met ops (tmF val) o false ∧ (use i).flatMap piece = [] ∧ Qr anc Q val piece i undef [])

section
variable {P : Program} {md : Md} {ops : List Oper} {m : Nat} {f : FuncId} {r : Rd} {df : List Deferred} {k : List Item} {cs : List Frame} {Stop : Goroutine → Heap → Prop} {tm : List Value}
  {h₀ : Heap} {B₀ : List Nat} {p : PHeap} {A C : Pcs} {ini : List Nat} {X : Nat → Pcs} {use : Nat → List Nat} {anc : Nat → List Nat} {Q : Nat → (Nat → Value) → (Nat → Pcs) → Value → Pcs → Prop} {tmF : (Nat → Value) → List Value}

/-- A REGION THAT DRAWS ITS ORDER, the first 'm' of its operations turning pieces of the call's own. -/
theorem fl_mixed2 {rid : Nat} (m : Nat) (cl : List (List Nat)) (ini fin emp : List Nat) (X : Nat → Pcs) (use : Nat → List Nat) (anc : Nat → List Nat) (Q : Nat → (Nat → Value) → (Nat → Pcs) → Value → Pcs → Prop) (tmF : (Nat → Value) → List Value)
    (hmix : P.follows .mixedOrders = true) (hst : stable ops m cl = true) (hm : m ≤ ops.length) (hk : mixok ops m ini use (fin ++ emp) = true) (hemp : emp.all (fun j => decide (j < m)) = true) (hanc : ancok ops m cl anc = true) (hemp2 : ∀ val piece, Emp (Qr anc Q val piece) emp) (htm : ∀ val, fills ops val m tm = tmF val)
    (hdl : (ops.all fun o => match o.dst with | some d => decide (d < tm.length) | none => true) = true)
    (st : Mixes (OpMix2 P md ops tmF h₀ B₀ p A ini X use anc Q) 0 (ops.take m))
    (n : ∀ val piece, (∀ j < m, Qr anc Q val piece j (val j) (piece j)) → (∀ j ∈ ini, piece j = X j) → RL P md f r df k cs Stop ops (ops.drop m) (tmF val) (fun h => St h₀ B₀ p h (fin.flatMap piece ++ (A ++ C)))) :
    RS P md (G (FL f r tm df (.code (.region rid ops.toArray true) :: k)) cs) (fun h => St h₀ B₀ p h (ini.flatMap X ++ (A ++ C))) Stop := by
  refine rs_drawn fun t => ?_
  unfold Region.schedule
  rw [hmix]
  simp only [Bool.true_or, if_true]
  obtain ⟨s, e, hord⟩ := order_all hst hm t
  rw [e]
  obtain ⟨k1, k2, k3, k4, k5, k6⟩ := mixok_at hk
  have hops : ∀ {i : Nat} {o : Oper}, i < m → ops[i]? = some o → noDefer o.op = true ∧ OpMix2 P md ops tmF h₀ B₀ p A ini X use anc Q i o := fun {i o} hi ho => by
    have := Mixes.at (i := i) st (by rw [List.getElem?_take, if_pos hi]; exact ho)
    rw [Nat.zero_add] at this; exact this
  have hdist : ∀ (i j : Nat) (o o' : Oper) (d : Nat), i < m → j < m → ops[i]? = some o → ops[j]? = some o' → o.dst = some d → o'.dst = some d → i = j := fun i j o o' d hi hj ho ho' hd hd' =>
    (((stable_at hst ho).2.2 hi).2 j o' d hj ho' hd').1.resolve_right fun hne => hne hd
  have hdlt : ∀ {i : Nat} {o : Oper} {d : Nat}, ops[i]? = some o → o.dst = some d → d < tm.length := fun {i o d} ho hd => by
    have := List.all_eq_true.1 hdl o (List.mem_of_getElem? ho)
    simpa [hd] using this
  have main : ∀ (s : List Nat) (l : Array Bool) (tmc : List Value) (val : Nat → Value) (piece : Nat → Pcs) (ls : List Nat), Ord ops m l s → l.size = ops.length → tmc.length = tm.length →
      (∀ x, (∃ (j : Nat) (o : Oper), j < m ∧ l.getD j false = true ∧ ops[j]? = some o ∧ o.dst = some x) → tmc[x]? = (tmF val)[x]?) →
      (∀ x, (∀ (j : Nat) (o : Oper), j < m → l.getD j false = true → ops[j]? = some o → o.dst ≠ some x) → tmc[x]? = tm[x]?) →
      (∀ j < m, l.getD j false = true → Qr anc Q val piece j (val j) (piece j)) → (∀ j ∈ ini, piece j = X j) → ls.Nodup →
      (∀ x, x ∈ ls ↔ (x ∈ ini ∨ (x < m ∧ l.getD x false = true)) ∧ ∀ k < m, l.getD k false = true → x ∉ use k) →
      (∀ k < m, l.getD k false = true → ∀ x ∈ use k, x ∈ ini ∨ (x < m ∧ l.getD x false = true)) →
      (∀ (k : Nat) (o : Oper), l.getD k false = true → ops[k]? = some o → ∀ x ∈ preds o, l.getD x false = true) →
      RS P md (G (FL f r tmc df (.inRegion ops.toArray (s ++ List.range' m (ops.length - m)) :: k)) cs) (fun h => St h₀ B₀ p h (ls.flatMap piece ++ (A ++ C))) Stop := by
    intro s
    induction s with
    | nil =>
      intro l tmc val piece ls hord _ hl h1 h2 hQ hX hnd hls _ _
      cases hord with
      | nil hall =>
      have : tmc = tmF val := by
        refine List.ext_getElem? fun x => ?_
        by_cases hx : ∃ (j : Nat) (o : Oper), j < m ∧ ops[j]? = some o ∧ o.dst = some x
        · obtain ⟨j, o, hj, ho, hd⟩ := hx
          exact h1 x ⟨j, o, hj, hall j hj, ho, hd⟩
        · rw [h2 x fun j o hj _ ho hd => hx ⟨j, o, hj, ho, hd⟩, ← htm, fills_out]
          exact fun j o hj ho hd => hx ⟨j, o, hj, ho, hd⟩
      subst this
      rw [List.nil_append]
      have hp : ls.Perm (fin ++ emp) := by
        refine (List.perm_ext_iff_of_nodup hnd k3).2 fun x => ?_
        rw [hls]
        constructor
        · rintro ⟨hx, hu⟩
          rcases k6 x (hx.elim .inr fun y => .inl y.1) with y | ⟨k, hk, y⟩
          · exact y
          · exact absurd y (hu k hk (hall k hk))
        · intro hx
          obtain ⟨y, z⟩ := k5 x hx
          exact ⟨y.imp id fun y => ⟨y, hall x y⟩, fun k hk _ => z k hk⟩
      have := n val piece (fun j hj => hQ j hj (hall j hj)) hX (ops.take m) (List.take_append_drop m ops).symm
      rw [List.length_take, Nat.min_eq_left hm, List.length_drop] at this
      have he : emp.flatMap piece = [] := (hemp2 val piece).flat fun j hj => hQ j (by simpa using List.all_eq_true.1 hemp j hj) (hall j (by simpa using List.all_eq_true.1 hemp j hj))
      exact fun h y => this h (y.perm (by
        have := (hp.flatMap_right piece).append_right (A ++ C)
        rwa [List.flatMap_append, he, List.append_nil] at this))
    | cons i s ih =>
      intro l tmc val piece ls hord hsz hl h1 h2 hQ hX hnd hls hcl hpc
      cases hord with
      | @cons _ _ _ o hi ho hn hp hs =>
      have hil := (List.getElem?_eq_some_iff.1 ho).1
      have hni : l.getD i false = false := by rw [← getD_lt (by omega)]; exact hn
      have hlooks := ((stable_at hst ho).2.2 hi)
      have hag : ∀ x ∈ looks ops o, tmc[x]? = (tmF val)[x]? := by
        intro x hx
        by_cases hw : ∃ (j : Nat) (o' : Oper), j < m ∧ ops[j]? = some o' ∧ o'.dst = some x
        · obtain ⟨j, o', hj, ho', hd⟩ := hw
          have hpj := (hlooks.2 j o' x hj ho' hd).2 hx
          exact h1 x ⟨j, o', hj, hp j hpj, ho', hd⟩
        · rw [h2 x fun j o' hj _ ho' hd => hw ⟨j, o', hj, ho', hd⟩, ← htm, fills_out]
          exact fun j o hj ho hd => hw ⟨j, o, hj, ho, hd⟩
      have hset : ∀ j, i ≠ j → (l.setIfInBounds i true).getD j false = l.getD j false := fun j e => getD_set_ne false e
      have hself : (l.setIfInBounds i true).getD i false = true := by simp [Array.getD, hsz, hil]
      obtain ⟨u1, u2⟩ := k4 i o hi ho
      have husein : ∀ x ∈ use i, x ∈ ls := fun x hx => by
        rw [hls]
        obtain ⟨a, b⟩ := u2 x hx
        refine ⟨a.imp id fun a => ⟨a.1, hp x a.2⟩, fun k hk hd hxk => ?_⟩
        by_cases e : k = i
        · subst e; rw [hni] at hd; cases hd
        · exact b k hk e hxk
      obtain ⟨rest, hperm⟩ := perm_use u1 husein
      have hnd2 := hperm.nodup_iff.1 hnd
      have hrest : ∀ x, x ∈ rest ↔ x ∈ ls ∧ x ∉ use i := fun x => by
        rw [hperm.mem_iff, List.mem_append]
        constructor
        · intro hx
          exact ⟨.inr hx, fun hu => (List.nodup_append.1 hnd2).2.2 x hu x hx rfl⟩
        · rintro ⟨a | a, b⟩
          · exact absurd a b
          · exact a
      have hiini : i ∉ ini := fun e => by have := k2 i e; omega
      have hils : i ∉ ls := fun e => by
        have := ((hls i).1 e).1
        rcases this with a | a
        · exact hiini a
        · rw [hni] at a; cases a.2
      -- what comes of it
      have hanl : ∀ (j : Nat) (oj : Oper), j < m → ops[j]? = some oj → (j = i ∨ l.getD j false = true) → ∀ y, (anc j).contains y = true → l.getD y false = true := fun j oj hj hoj hjl y hy => by
        have hb := ancok_at hanc hj hoj hy
        refine behind_listed hst hsz hpc j oj y (fun x hx => ⟨(stable_at hst hoj).1 x hx, ?_⟩) hb
        rcases hjl with rfl | hjl
        · rw [ho] at hoj; cases hoj; exact hp x hx
        · exact hpc j oj hjl hoj x hx
      have next : ∀ v x, Qr anc Q val piece i v x → RS P md (G (FL f r (putl tmc o.dst v) df (.inRegion ops.toArray (s ++ List.range' m (ops.length - m)) :: k)) cs) (fun h => St h₀ B₀ p h (x ++ (A ++ (rest.flatMap piece ++ C)))) Stop := by
        intro v x hq
        have hv : ∀ j, i ≠ j → (fun j => if j = i then v else val j) j = val j := fun j e => if_neg fun e' => e e'.symm
        have hx' : ∀ j, i ≠ j → (fun j => if j = i then x else piece j) j = piece j := fun j e => if_neg fun e' => e e'.symm
        have := ih (l.setIfInBounds i true) (putl tmc o.dst v) (fun j => if j = i then v else val j) (fun j => if j = i then x else piece j) (i :: rest) hs (by simpa using hsz) (by rw [putl_length]; exact hl)
          (fun y hy => by
            obtain ⟨j, o', hj, hlj, ho', hd⟩ := hy
            rw [← htm, fills_in hj ho' hd (fun j' o'' hj' ho'' hd' => hdist j' j o'' o' y hj' hj ho'' ho' hd' hd) (hdlt ho' hd)]
            by_cases e : i = j
            · subst e
              rw [ho] at ho'; cases ho'
              rw [hd]
              simp only [putl, if_true]
              rw [List.getElem?_set_self (by rw [hl]; exact hdlt ho hd)]
            · have hne : o.dst ≠ some y := fun hd' => e (hdist i j o o' y hi hj ho ho' hd' hd)
              rw [hset j e] at hlj
              rw [putl_ne hne, h1 y ⟨j, o', hj, hlj, ho', hd⟩, ← htm, fills_in hj ho' hd (fun j' o'' hj' ho'' hd' => hdist j' j o'' o' y hj' hj ho'' ho' hd' hd) (hdlt ho' hd)]
              rw [if_neg fun e' => e e'.symm])
          (fun y hy => by
            have hne : o.dst ≠ some y := hy i o hi hself ho
            rw [putl_ne hne]
            refine h2 y fun j o' hj hlj ho' => hy j o' hj ?_ ho'
            by_cases e : i = j
            · subst e; exact hself
            · rw [hset j e]; exact hlj)
          (fun j hj hlj => by
            obtain ⟨oj, hoj⟩ : ∃ oj, ops[j]? = some oj := ⟨_, List.getElem?_eq_getElem (Nat.lt_of_lt_of_le hj hm)⟩
            have hjl : j = i ∨ l.getD j false = true := by
              by_cases e : i = j
              · exact .inl e.symm
              · rw [hset j e] at hlj; exact .inr hlj
            have hne : ∀ y, (anc j).contains y = true → i ≠ y := fun y hy e => by
              have := hanl j oj hj hoj hjl y hy
              subst e; rw [hni] at this; cases this
            have hr := Qr_congr (Q := Q) (anc := anc) (i := j) (val := val) (piece := piece) (val' := fun j => if j = i then v else val j) (piece' := fun j => if j = i then x else piece j) fun y hy => ⟨(hv y (hne y hy)).symm, (hx' y (hne y hy)).symm⟩
            by_cases e : i = j
            · subst e; simp only [if_true]; rw [← hr]; exact hq
            · rw [hset j e] at hlj
              have := hQ j hj hlj; rw [← hr, if_neg (fun e' => e e'.symm), if_neg (fun e' => e e'.symm)]; exact this)
          (fun j hj => (hx' j (fun e => by subst e; exact hiini hj)).trans (hX j hj))
          (List.nodup_cons.2 ⟨fun e => hils ((hrest i).1 e).1, (List.nodup_append.1 hnd2).2.1⟩)
          (fun y => by
            rw [List.mem_cons, hrest, hls]
            constructor
            · rintro (rfl | ⟨⟨a, b⟩, c⟩)
              · refine ⟨.inr ⟨hi, hself⟩, fun k' hk' hd hy => ?_⟩
                by_cases e : y = k'
                · subst e
                  rcases (u2 y hy).1 with a | a
                  · exact hiini a
                  · exact absurd ((stable_at hst ho).1 y a.2) (Nat.lt_irrefl _)
                · rw [hset k' e] at hd
                  rcases hcl k' hk' hd y hy with a | a
                  · exact hiini a
                  · rw [hni] at a; cases a.2
              · refine ⟨a.imp id fun a => ⟨a.1, ?_⟩, fun k' hk' hd => ?_⟩
                · by_cases e : i = y
                  · subst e; exact hself
                  · rw [hset y e]; exact a.2
                · by_cases e : i = k'
                  · subst e; exact c
                  · rw [hset k' e] at hd; exact b k' hk' hd
            · rintro ⟨a, b⟩
              by_cases e : y = i
              · exact .inl e
              · refine .inr ⟨⟨a.imp id fun a => ⟨a.1, ?_⟩, fun k' hk' hd => b k' hk' ?_⟩, b i hi hself⟩
                · have := a.2; rw [hset y (fun e' => e e'.symm)] at this; exact this
                · by_cases e' : i = k'
                  · subst e'; exact hself
                  · rw [hset k' e']; exact hd)
          (fun k' hk' hd y hy => by
            by_cases e : i = k'
            · subst e
              obtain ⟨a, _⟩ := u2 y hy
              refine a.imp id fun a => ⟨a.1, ?_⟩
              by_cases e' : i = y
              · subst e'; exact hself
              · rw [hset y e']; exact hp y a.2
            · rw [hset k' e] at hd
              refine (hcl k' hk' hd y hy).imp id fun a => ⟨a.1, ?_⟩
              by_cases e' : i = y
              · subst e'; exact hself
              · rw [hset y e']; exact a.2)
          (fun k' o' hd ho' y hy => by
            have hy2 : l.getD y false = true := by
              by_cases e : i = k'
              · subst e; rw [ho] at ho'; cases ho'; exact hp y hy
              · rw [hset k' e] at hd; exact hpc k' o' hd ho' y hy
            by_cases e' : i = y
            · subst e'; exact hself
            · rw [hset y e']; exact hy2)
        have hfm : rest.flatMap (fun j => if j = i then x else piece j) = rest.flatMap piece := by
          have hni' : i ∉ rest := fun e => hils ((hrest i).1 e).1
          clear this hperm hnd2 hrest
          induction rest with
          | nil => rfl
          | cons a r ih' =>
            simp only [List.flatMap_cons]
            rw [ih' (fun e => hni' (by simp [e])), if_neg (fun e => hni' (by simp [e]))]
        intro h y
        refine this h ?_
        rw [List.flatMap_cons, hfm]
        simp only [if_true]
        refine y.perm ?_
        rw [List.append_assoc]
        refine List.Perm.append_left x ?_
        rw [← List.append_assoc, ← List.append_assoc]
        exact List.Perm.append_right C List.perm_append_comm
      have hmixi := hops hi ho
      have ho2 : ops.toArray[i]? = some o := by simpa using ho
      have hpre : ∀ h, St h₀ B₀ p h (ls.flatMap piece ++ (A ++ C)) → St h₀ B₀ p h ((use i).flatMap piece ++ (A ++ (rest.flatMap piece ++ C))) := fun h y => by
        refine y.perm ?_
        refine ((hperm.flatMap_right piece).append_right _).trans ?_
        rw [List.flatMap_append, List.append_assoc]
        refine List.Perm.append_left _ ?_
        rw [← List.append_assoc, ← List.append_assoc]
        exact List.Perm.append_right C List.perm_append_comm
      have hnd := hmixi.1
      rcases hmixi.2 val piece (fun j hj => by
          have hlj := hanl i o hi ho (.inl rfl) j hj
          exact hQ j (Nat.lt_trans (behind_lt hst ho (ancok_at hanc hi ho hj)) hi) hlj) hX with ⟨hmet, hop⟩ | ⟨hmet, hu, hq⟩
      · have hmet' := met_eq hag hmet
        refine rs_op ho2 (wanted_of_met hmet') B_kind (.inr (by revert hnd; cases o.op <;> simp [noDefer])) fun h hb => ?_
        rw [ev_toArray, exec_eq (ops := ops) hlooks.1 hag]
        rcases hop _ h (hpre h hb) with hx | ⟨g, args, hx, hc⟩
        · refine wpS_mono hx fun n' h' ⟨v', e', x, hq, hb'⟩ => ?_
          rcases e' with rfl | ⟨rfl, rfl⟩
          · show Reach P md (G ((F (B f r) tmc.toArray df _).finish v') cs) h' Stop
            rw [finish_region ho2, put_toArray]
            exact next v' x hq h' hb'
          · show Reach P md (G ((F (B f r) tmc.toArray df _).finish undef) cs) h' Stop
            rw [finish_region ho2, put_toArray]
            exact next undef x hq h' hb'
        · refine wpS_mono hx fun n' h' ⟨e', e2⟩ => ?_
          subst e'; subst e2
          refine hc _ _ _ fun v' h' ⟨x, hq, hb'⟩ => ?_
          rw [finish_region ho2, put_toArray]
          exact next v' x hq h' hb'
      · refine rs_pass ho2 (wanted_of_met (met_eq hag hmet)) ?_
        rw [put_toArray]
        intro h hb
        have := next undef [] hq h
        refine this ?_
        have := hpre h hb
        rw [hu] at this
        simpa using this
  intro h y
  refine main s _ tm (fun _ => undef) X ini hord (by simp) rfl (fun x hx => by obtain ⟨j, o, hj, hl, _⟩ := hx; simp [Array.getD] at hl) (fun _ _ => rfl) (fun j _ hl => by simp [Array.getD] at hl) (fun _ _ => rfl) k1
    (fun x => ⟨fun hx => ⟨.inl hx, fun k _ hl => by simp [Array.getD] at hl⟩, fun hx => hx.1.elim id fun a => by simp [Array.getD] at a⟩) (fun k _ hl => by simp [Array.getD] at hl) (fun k _ hl => by simp [Array.getD] at hl) h y

theorem opmix2 {i : Nat} {o : Oper} (x : ∀ val piece, (∀ j, (anc i).contains j = true → Qr anc Q val piece j (val j) (piece j)) → (∀ j ∈ ini, piece j = X j) →
    ∃ tm' U q, tmF val = tm' ∧ (use i).flatMap piece = U ∧ (∀ v x, q v x → Qr anc Q val piece i v x) ∧ Mix P md ops tm' h₀ B₀ p A U q o) : OpMix2 P md ops tmF h₀ B₀ p A ini X use anc Q i o := fun val piece hQ hX => by
  obtain ⟨tm', U, q, e1, e2, e3, h⟩ := x val piece hQ hX
  rw [e1, e2]
  rcases h with ⟨h1, h2⟩ | ⟨h1, h2, h3⟩
  · refine .inl ⟨h1, fun C h s => ?_⟩
    rcases h2 C h s with y | ⟨g, args, y, z⟩
    · exact .inl (wpS_mono y fun n h' ⟨v, a, x, b, c⟩ => ⟨v, a, x, e3 v x b, c⟩)
    · exact .inr ⟨g, args, y, z.mono fun v h' ⟨x, b, c⟩ => ⟨x, e3 v x b, c⟩⟩
  · exact .inr ⟨h1, h2, e3 _ _ h3⟩
/-- A new block. -/
theorem mix_alloc {dd : Nat} {T : TypeId} {z : Value} {cells : Array Value} {ty : TypeId} {pos : String} {aft : Array Edge} {gd : Option (Nat × Bool)} {tm' : List Value} {q : Value → Pcs → Prop} (hm : Met ops tm' ⟨some dd, .alloc T, ty, pos, aft, gd⟩ true) (hz : zeroT P T = some z) (hc : z.cells = cells)
    (hq : ∀ b, q (.pointer (some ⟨b, 0, none⟩)) [(b, .cells cells T (0, 0))]) : Mix P md ops tm' h₀ B₀ p A [] q ⟨some dd, .alloc T, ty, pos, aft, gd⟩ :=
  mix_ex hm fun C h s => by
    unfold Ex
    simp only [execOp]
    refine wpS_bind ?_
    unfold Instr.alloc
    refine wpS_bind (wpS_zeroValue hz ?_)
    simp only
    unfold newVar
    rw [hc]
    refine wpS_bind (wpS_newRow ?_)
    refine wpS_pure ?_
    exact wpS_pure ⟨_, rfl, _, hq _, s.push _⟩
end
theorem sk1 {α β γ1 : Type} [Nonempty γ1] (R : α → β → γ1 → Prop) : ∃ (G1 : α → β → γ1), ∀ a b, (∃ c1, R a b c1) → R a b (G1 a b) := by
  have key : ∀ ab : α × β, ∃ y : γ1, (∃ c1, R ab.1 ab.2 c1) → R ab.1 ab.2 (y) := fun ab => by
    by_cases h : ∃ c1, R ab.1 ab.2 c1
    · obtain ⟨c1, h⟩ := h
      exact ⟨c1, fun _ => h⟩
    · exact ⟨Classical.choice inferInstance, fun x => absurd x h⟩
  obtain ⟨G, hG⟩ := Classical.axiomOfChoice key
  exact ⟨fun a b => (G (a, b)), fun a b h => hG (a, b) h⟩
end Go.X
namespace Go.X
open Go.Conc

section
variable {P : Program} {md : Md} {f : FuncId} {r : Rd} {df : List Deferred} {k : List Item} {cs : List Frame} {Stop : Goroutine → Heap → Prop} {ops rest : List Oper} {tm : List Value}
  {h₀ : Heap} {B₀ : List Nat} {p : PHeap} {A X C : Pcs} {T : TypeId} {w : Nat} {v : Value} {es : List (List Value)} {d : Option Tmp} {ty : TypeId} {pos : String} {aft : Array Edge} {gd : Option (Nat × Bool)} {h : Heap}
theorem exd_indexOI {t e : TypeId} {x y : Operand} {i : Int} (o : OwnS T w v es X) (ht : P.underlying t = some (.slice e)) (hs : sizeT P e = some w) (hx : evl tm x = v) (hy : evl tm y = .int .i64 i) (h0 : 0 ≤ i) (hi : i.toNat < es.length) :
    Exd P tm ⟨d, .indexAddr t x y, ty, pos, aft, gd⟩ h (.pointer (some ((adrV v).add (i.toNat * w)))) :=
  exd_indexO (i := i.toNat) o ht hs hx (by rw [hy, Int.toNat_of_nonneg h0]) hi
end
end Go.X
namespace Go.X
open Go.Conc

section
variable {T : TypeId} {w : Nat} {v : Value} {es : List (List Value)} {X : Pcs} {p p' : PHeap}
/-- A slice whose block lasts. -/
theorem OwnS.inP (o : OwnS T w v es X) (hp : ∀ x ∈ X, p x.1 = some x.2) : ∃ a cap, v = .slice a es.length cap ∧ Sl p a es.length w es := by
  obtain ⟨hw, ⟨rfl, rfl, rfl⟩ | ⟨b, cs, cap, rest, rfl, rfl, hcs, hlen, hcap⟩⟩ := o
  · exact ⟨none, 0, rfl, .nil _ _ _⟩
  · refine ⟨some ⟨b, 0, none⟩, cap, rfl, rfl, hw, fun _ => rfl, ?_⟩
    intro i e hi j x hj
    show pcell _ (((⟨b, 0, none⟩ : Addr).add (i * w)).add j) = _
    rw [add_mk, add_mk]
    unfold pcell
    simp only [hp (b, .cells cs.toArray T (0, 0)) (by simp), Option.isSome_none, Bool.false_eq_true, if_false, List.getElem?_toArray, Nat.zero_add]
    rw [hcs, List.getElem?_append_left]
    · exact flatten_get hw hi hj
    · exact (List.getElem?_eq_some_iff.1 (flatten_get hw hi hj)).1
/-- For a call, a slice of one's own lasts. -/
theorem OwnS.lend {h₀ h : Heap} {B₀ : List Nat} {L : Pcs} (o : OwnS T w v es X) (hn : 0 < es.length) (s : St h₀ B₀ p h (X ++ L)) :
    ∃ a cap b ob, v = .slice a es.length cap ∧ X = [(b, ob)] ∧ Per (padd p b ob) h ∧ PLe p (padd p b ob) ∧ Sl (padd p b ob) a es.length w es := by
  obtain ⟨b, cs, cap, rest, e1, e2, _, _⟩ := o.has hn
  have h1 : (X ++ L)[0]? = some (b, .cells (List.toArray cs) T (0, 0)) := by rw [e2]; rfl
  obtain ⟨a, cap', e3, sl⟩ := o.inP (p := padd p b (.cells (List.toArray cs) T (0, 0))) (by rw [e2]; intro x hx; rw [List.mem_singleton.1 hx]; exact padd_self)
  exact ⟨a, cap', b, _, e3, e2, s.perO h1, s.leO h1, sl⟩
end

/-! ### slices of ints, in a slice -/
/-- The elements 'es' are slices that read as 'xss'. -/
def Refs (p : PHeap) (es : List (List Value)) (xss : List (List Int)) : Prop := es.length = xss.length ∧ ∀ i, i < xss.length → ∃ a c, es[i]? = some [.slice a (xss.getD i []).length c] ∧ Ints p a (xss.getD i []).length (xss.getD i [])
/-- .. once 'Z' lasts. -/
def Inn (p : PHeap) (es : List (List Value)) (xss : List (List Int)) (Z : Pcs) : Prop := ∀ p', PLe p p' → (∀ x ∈ Z, p' x.1 = some x.2) → Refs p' es xss
section
variable {p : PHeap} {es fs : List (List Value)} {xss yss : List (List Int)} {Z Y : Pcs}
theorem Inn.nil : Inn p [] [] [] := fun _ _ _ => ⟨rfl, fun i hi => absurd hi (by simp)⟩
theorem Inn.one {a : Option Addr} {n c : Nat} {xs : List Int} (D : Ints p a n xs) : Inn p [[.slice a n c]] [xs] [] := fun p' le _ => by
  have hl := D.len
  refine ⟨rfl, fun i hi => ?_⟩
  obtain rfl : i = 0 := by simpa using hi
  exact ⟨a, c, by simp [hl], by simpa [hl] using D.mono le⟩
theorem Inn.lent {b : Nat} {o : Obj} (hle : PLe p (padd p b o)) (x : Inn (padd p b o) es xss Z) : Inn p es xss (Z ++ [(b, o)]) := fun p' le hz => by
  refine x p' (fun c q hc => ?_) fun y hy => hz y (by simp [hy])
  unfold padd at hc
  split at hc
  · rename_i e; subst e; cases hc; exact hz (c, o) (by simp)
  · exact le c q hc
theorem Inn.as {Y : Pcs} (x : Inn p es xss Z) (e : xss = yss) (e2 : Z = Y) : Inn p es yss Y := by subst e; subst e2; exact x

/-- A slice that lasts, whose elements are slices that last. -/
structure Tab1 (p : PHeap) (a : Option Addr) (k : Nat) (A : Nat → Option Addr) (C : Nat → Nat) (N : Nat → Nat) (xss : Nat → List Int) : Prop where
  ne : 0 < k → a = some (adr a)
  cell : ∀ i, i < k → pcell p ((adr a).add (i * 1)) = some (.slice (A i) (N i) (C i))
  ints : ∀ i, i < k → Ints p (A i) (N i) (xss i)
theorem Tab1.mono {p' : PHeap} {a : Option Addr} {k : Nat} {A : Nat → Option Addr} {C N : Nat → Nat} {xs : Nat → List Int} (h : PLe p p') (t : Tab1 p a k A C N xs) : Tab1 p' a k A C N xs :=
  ⟨t.ne, fun i hi => h.cell (t.cell i hi), fun i hi => (t.ints i hi).mono h⟩
end
end Go.X
namespace Go.X
open Go.Conc
theorem lend_to {Q : Prop} {T : TypeId} {w n : Nat} {v : Value} {es : List (List Value)} {X L : Pcs} {p : PHeap} {h₀ h : Heap} {B₀ : List Nat} (o : OwnS T w v es X) (hn : es.length = n) (s : St h₀ B₀ p h L) (hX : ∀ x ∈ X, x ∈ L)
    (c : ∀ p' a cap, Per p' h → PLe p p' → v = .slice a n cap → Sl p' a n w es → Q) : Q := by
  subst hn
  rcases o.2 with ⟨_, _, e⟩ | ⟨b, cs, cap, rest, _, e, _⟩
  · obtain ⟨a, cap, e1, sl⟩ := o.inP (p := p) (by rw [e]; simp)
    exact c p a cap s.per (.refl p) e1 sl
  · obtain ⟨i, hi⟩ := List.mem_iff_getElem?.1 (hX (b, .cells (List.toArray cs) T (0, 0)) (by rw [e]; simp))
    obtain ⟨a, cap', e3, sl⟩ := o.inP (p := padd p b (.cells (List.toArray cs) T (0, 0))) (by rw [e]; intro x hx; rw [List.mem_singleton.1 hx]; exact padd_self)
    exact c _ a cap' (s.perO hi) (s.leO hi) e3 sl
end Go.X
namespace Go.X.Cent
open Go.X

def each : Nat → List By → By → List By
  | 0, _, _ => []
  | f + 1, ph, s =>
    if s = [] then [] else
    if lp ph s < s.length then s.take (lp ph s + 1) :: each f (ph ++ [s.take (lp ph s + 1)]) (s.drop (lp ph s + 1))
    else [s]
theorem each_fuel : ∀ {f g : Nat} {ph : List By} {s : By}, s.length ≤ f → s.length ≤ g → each f ph s = each g ph s
  | 0, g, ph, s, h, _ => by
    have : s = [] := List.eq_nil_of_length_eq_zero (by omega)
    subst this
    cases g <;> simp [each]
  | f + 1, 0, ph, s, _, h => by
    have : s = [] := List.eq_nil_of_length_eq_zero (by omega)
    subst this
    simp [each]
  | f + 1, g + 1, ph, s, h1, h2 => by
    unfold each
    split
    · rfl
    · split
      · rw [each_fuel (f := f) (g := g) (by rw [List.length_drop]; omega) (by rw [List.length_drop]; omega)]
      · rfl
def eachS (ph : List By) (s : By) : List By := each s.length ph s
theorem eachS_more {ph : List By} {s : By} (hl : lp ph s < s.length) : eachS ph s = s.take (lp ph s + 1) :: eachS (ph ++ [s.take (lp ph s + 1)]) (s.drop (lp ph s + 1)) := by
  have hs : s ≠ [] := fun e => by subst e; simp at hl
  unfold eachS
  obtain ⟨f, hf⟩ : ∃ f, s.length = f + 1 := ⟨s.length - 1, by omega⟩
  rw [hf]
  conv => lhs; unfold each
  rw [if_neg hs, if_pos hl]
  congr 1
  exact each_fuel (by rw [List.length_drop]; omega) (Nat.le_refl _)
theorem eachS_last {ph : List By} {s : By} (hs : s ≠ []) (hl : ¬ lp ph s < s.length) : eachS ph s = [s] := by
  unfold eachS
  obtain ⟨f, hf⟩ : ∃ f, s.length = f + 1 := ⟨s.length - 1, by have := List.length_pos_iff.2 hs; omega⟩
  rw [hf]
  unfold each
  rw [if_neg hs, if_neg hl]
theorem lp_mem {ph : List By} (s : By) (h : Phr ph) : s.take (lp ph s) ∈ ph := (lp_spec h.mem).1 _ (Nat.le_refl _)
section
variable {s : By} {m : Nat} {ph : List By}
end
end Go.X.Cent
namespace Go.X.Cent
open Go.X

/-- The byte at 'i' of a string is one that a file has there. -/
def okAt (s : By) (e i : Nat) : Prop :=
  (e < i → 48 ≤ (s.getD i 0).toNat ∧ (s.getD i 0).toNat ≤ 57) ∧ (i < e → i % 3 < 2 → 65 ≤ (s.getD i 0).toNat ∧ (s.getD i 0).toNat ≤ 90) ∧ (i < e → ¬ i % 3 < 2 → 32 ≤ (s.getD i 0).toNat ∧ (s.getD i 0).toNat ≤ 126)
instance (s : By) (e i : Nat) : Decidable (okAt s e i) := inferInstanceAs (Decidable ((_ → _) ∧ (_ → _ → _) ∧ (_ → _ → _)))
def okUp (s : By) (e k : Nat) : Prop := ∀ i, i < k → okAt s e i
def bodyOk (s : By) : Prop := 5 ≤ s.length ∧ s.length ≤ 1400 ∧ (s.getD (s.length - 5) 0).toNat = 61 ∧ (s.length - 5) % 3 ≠ 1 ∧ ∀ i, i < s.length → okAt s (s.length - 5) i
instance (s : By) : Decidable (bodyOk s) := inferInstanceAs (Decidable (_ ∧ _ ∧ _ ∧ _ ∧ _))
def bodyB (s : By) : By := if bodyOk s then s.take (s.length - 5) else []
def byB (b : Int) : Int := if b = 126 then 10 else b
def pieR (s : By) : Pie := (26 * ((((s.getD 0 0).toNat : Nat) : Int) - 65) + ((((s.getD 1 0).toNat : Nat) : Int) - 65), byB (if 2 < s.length then (((s.getD 2 0).toNat : Nat) : Int) else -1))
def refP : Nat → By → List Pie
  | 0, _ => []
  | f + 1, s => if s = [] then [] else pieR s :: refP f (s.drop 3)
def refS (s : By) : List Pie := refP s.length s
theorem refP_fuel : ∀ {f g : Nat} {s : By}, s.length ≤ f → s.length ≤ g → refP f s = refP g s
  | 0, g, s, h, _ => by
    have : s = [] := List.eq_nil_of_length_eq_zero (by omega)
    subst this
    cases g <;> simp [refP]
  | f + 1, 0, s, _, h => by
    have : s = [] := List.eq_nil_of_length_eq_zero (by omega)
    subst this
    simp [refP]
  | f + 1, g + 1, s, h1, h2 => by
    unfold refP
    split
    · rfl
    · rename_i h0
      have := List.length_pos_iff.2 h0
      rw [refP_fuel (f := f) (g := g) (by rw [List.length_drop]; omega) (by rw [List.length_drop]; omega)]
theorem refS_nil : refS [] = [] := rfl
theorem refS_cons {s : By} (h : s ≠ []) : refS s = pieR s :: refS (s.drop 3) := by
  unfold refS
  obtain ⟨f, hf⟩ : ∃ f, s.length = f + 1 := ⟨s.length - 1, by have := List.length_pos_iff.2 h; omega⟩
  rw [hf, refP, if_neg h]
  congr 1
  exact refP_fuel (by rw [List.length_drop]; omega) (Nat.le_refl _)
theorem drop_getD {s : By} {i j : Nat} : (s.drop i).getD j 0 = s.getD (i + j) 0 := by simp only [List.getD_eq_getElem?_getD, List.getElem?_drop]
def parseR (s : By) : List Pie := if bodyOk s then refS (s.take (s.length - 5)) else []
def perR (s : By) : Int := if bodyOk s then 0 else 140
/-- The whole that pieces are. -/
def rdR : List By → By → List Pie → Option By
  | _, w, [] => some w
  | ph, w, x :: l => if ((ph.length : Nat) : Int) ≤ x.1 ∨ 820 < w.length then none else rdR (ph ++ [pT ph x]) (w ++ pT ph x) l
def lnR : List By → By → By → List By × By
  | out, t, [] => (out, t)
  | out, t, b :: w => if b = 10 then lnR (out ++ [t]) [] w else lnR out (t ++ [b]) w
def texR (xs : List Pie) : List By × Bool := match rdR [[]] [] xs with
  | none => ([], false)
  | some w => ((lnR [] [] w).1, decide ((lnR [] [] w).2 = []))
def readR (s : By) : Int × List By :=
  if ¬ bodyOk s then (140, []) else if sealB (bodyB s) ≠ s then (141, []) else
  if (texR (parseR s)).2 = false ∨ chkT (texR (parseR s)).1 ≠ 0 ∨ fileB (texR (parseR s)).1 ≠ s then (142, []) else (0, (texR (parseR s)).1)
def stateR (s : By) : Int := if (readR s).1 = 140 then 2 else if (readR s).1 = 141 then 3 else if (readR s).1 = 142 then 4 else 1
def addR (s t : By) : By × Int := if (readR s).1 ≠ 0 then ([], (readR s).1) else writeB ((readR s).2 ++ [t])
def pcR (ts : List By) : List By := if chkT ts ≠ 0 then [] else eachS [[]] (wholeB ts)
section
variable {ph : List By} {w : By} {xs : List Pie} {k : Nat}
end
theorem scs_ones (l : List By) : ∀ u ∈ (scs l).flatten, isOne u = true := fun u hu => by
  obtain ⟨e, he, hu⟩ := List.mem_flatten.1 hu
  obtain ⟨t, _, rfl⟩ := List.mem_map.1 he
  rw [List.mem_singleton.1 hu]; rfl
end Go.X.Cent
namespace Go.X.Cent
open Go.X

def readyT (ts : List By) : Prop := ¬ far ts ∧ chkT ts = 0
instance (ts : List By) : Decidable (readyT ts) := inferInstanceAs (Decidable (_ ∧ _))
def wrOk (ts : List By) : Prop := (writeB ts).2 = 0 ∧ 5 ≤ (((writeB ts).1.length : Nat) : Int) ∧ (((writeB ts).1.length : Nat) : Int) ≤ 1400
instance (ts : List By) : Decidable (wrOk ts) := inferInstanceAs (Decidable (_ ∧ _ ∧ _))
def fndT (l : List By) (s : By) : Int := if s ∈ l then ((l.idxOf s : Nat) : Int) else -1
theorem read_cases (s : By) : ((readB s).1 = 0 ∧ stateB s = 1) ∨ ((((readB s).2.length : Nat) : Int) = 0 ∧ (((readB s).1 = 140 ∧ stateB s = 2) ∨ ((readB s).1 = 141 ∧ stateB s = 3) ∨ ((readB s).1 = 142 ∧ stateB s = 4))) := by
  unfold stateB
  have h : (readB s).1 = 0 ∨ ((readB s).2 = [] ∧ ((readB s).1 = 140 ∨ (readB s).1 = 141 ∨ (readB s).1 = 142)) := by
    unfold readB
    split
    · exact .inr ⟨rfl, .inl rfl⟩
    split
    · exact .inr ⟨rfl, .inr (.inl rfl)⟩
    split
    · exact .inr ⟨rfl, .inr (.inr rfl)⟩
    split
    · exact .inr ⟨rfl, .inr (.inr rfl)⟩
    · exact .inl rfl
  rcases h with h | ⟨h0, h | h | h⟩
  · exact .inl ⟨h, by rw [h]; rfl⟩
  · exact .inr ⟨by rw [h0]; rfl, .inl ⟨h, by rw [h]; rfl⟩⟩
  · exact .inr ⟨by rw [h0]; rfl, .inr (.inl ⟨h, by rw [h]; rfl⟩)⟩
  · exact .inr ⟨by rw [h0]; rfl, .inr (.inr ⟨h, by rw [h]; rfl⟩)⟩
theorem not_far {p : PHeap} {a : Option Addr} {n : Nat} {ts : List By} (T : Strs p a n ts) (h : ¬ far ts) : ∀ i, i < n → (ts.getD i []).length ≤ 2 ^ 60 := fun i hi => by
  have : ¬ 200 < (ts.getD i []).length := fun z => h (.inr ⟨_, gmem (d := []) (by rw [T.len]; exact hi), z⟩)
  omega
theorem far_facts {p : PHeap} {a : Option Addr} {n : Nat} {ts : List By} (T : Strs p a n ts) (h : ¬ far ts) : n ≤ 60 ∧ (∀ t ∈ ts, t.length ≤ 200) ∧ ∀ i, i < n → (ts.getD i []).length ≤ 200 := by
  have h1 : ¬ 60 < ts.length := fun z => h (.inl z)
  have h2 : ∀ t ∈ ts, t.length ≤ 200 := fun t ht => Nat.le_of_not_lt fun z => h (.inr ⟨t, ht, z⟩)
  rw [T.len] at h1
  exact ⟨by omega, h2, fun i hi => h2 _ (gmem (d := []) (by rw [T.len]; exact hi))⟩
end Go.X.Cent
namespace Go.Proofs.YtiinpnlfdeiloaaDoor
open Go.X Go.X.Cent Go.Conc Go.RowKit Go.ChangeShapes Go.WideShapes Go.ChangeAt Go.Joins

set_option maxRecDepth 100000

theorem pOwn : ownKnob Tryd.prog.godebug = none := by kernel_rfl
theorem pLaid : laidOutB Tryd.prog = true := by kernel_rfl
theorem pC9 : Tryd.prog.cellsOf 9 = 1 := by kernel_rfl
theorem pC3 : Tryd.prog.cellsOf 3 = 1 := by kernel_rfl
theorem pC35 : Tryd.prog.cellsOf 35 = 2 := by kernel_rfl

/-- Memory as the call finds it. -/
def pW (W : World) : PHeap := fun b => W.heap[b]?
theorem pW_per (W : World) : Per (pW W) W.heap := fun _ _ e => e
theorem pcell_W {W : World} {a : Addr} {v : Value} (h : W.cell? a = some v) : pcell (pW W) a = some v := by
  unfold World.cell? at h
  unfold pcell pW
  cases e : W.heap[a.block]? with
  | none => rw [e] at h; cases h
  | some o =>
    rw [e] at h
    cases o with
    | cells c t f => exact h
    | _ => cases h
theorem sl_W {W : World} {a : Addr} {n w : Nat} {E : Nat → List Value} (h : ∀ i, i < n → W.cells? 0 (a.add (i * w)) w = some (E i)) : Sl (pW W) (some a) n w ((List.range n).map E) := by
  refine ⟨by simp, fun e he => ?_, fun _ => rfl, fun i e he j x hx => ?_⟩
  · obtain ⟨i, hi, rfl⟩ := List.mem_map.1 he
    exact (cells_get (h i (List.mem_range.1 hi))).1
  · rw [List.getElem?_map] at he
    obtain ⟨i', hi', rfl⟩ := Option.map_eq_some_iff.1 he
    obtain ⟨hlt, rfl⟩ : i < n ∧ i = i' := by simpa using List.getElem?_eq_some_iff.1 hi'
    exact pcell_W ((cells_get (h i hlt)).2 j x hx)

section
variable {H : Type} {enc : TypeId × Value → H} {W : World}
theorem open_texts {base : Nat} {v : Value} {d : DataW H} {p : List MemPlace} (hv : Value.okWide Tryd.prog W .any base 22 v) (h : DataW.Trod enc Tryd.prog W 0 (fun _ => true) true 22 v d p) :
    ∃ a n c ts, v = .slice a n c ∧ n ≤ 9223372036854775807 ∧ Strs (pW W) a n ts := by
  obtain ⟨a0, n0, c0, rfl⟩ := okWide_slice Tryd.underlying22 hv
  obtain ⟨fuel, hf⟩ := h
  rcases Go.Deep.open_slice Tryd.underlying22 hf with ⟨e1, _⟩ | ⟨a, len, cap, m, k, D, Pl, e1, _, hl, hcap, hm, _, hall⟩
  · obtain ⟨rfl, rfl, rfl⟩ : a0 = none ∧ n0 = 0 ∧ c0 = 0 := by simpa [Value.cells] using e1
    exact ⟨none, 0, 0, [], rfl, by omega, sl_nil _ _⟩
  · obtain ⟨rfl, rfl, rfl⟩ : a0 = some a ∧ n0 = len ∧ c0 = cap := by simpa [Value.cells] using e1
    simp only [if_true] at hm
    rw [pC9] at hall
    obtain ⟨E, hE⟩ := Go.Deep.choose_lt (n := n0) (p := fun i cs => W.cells? 0 (a.add (i * 1)) 1 = some cs ∧ ∃ s : By, cs = [sv s]) fun i hi => by
      obtain ⟨cs, h1, h2⟩ := hall i (by omega)
      obtain ⟨s, e, _, _⟩ := DataW.trod_string Tryd.underlying9 h2
      exact ⟨cs, h1, s.data.toList, by rw [e, sv, bs_of]⟩
    obtain ⟨z, hz⟩ := Go.Deep.choose_lt (n := n0) (p := fun i s => E i = [sv s]) fun i hi => (hE i hi).2
    have hs := sl_W (E := E) (n := n0) fun i hi => (hE i hi).1
    refine ⟨some a, n0, c0, (List.range n0).map z, rfl, by unfold maxLen at hcap; omega, ?_⟩
    have : (List.range n0).map E = scs ((List.range n0).map z) := by
      rw [scs, List.map_map]
      exact List.map_congr_left fun i hi => hz i (List.mem_range.1 hi)
    unfold Strs
    rw [← this]; exact hs
theorem open_str {base : Nat} {v : Value} {d : DataW H} {p : List MemPlace} (hv : Value.okWide Tryd.prog W .any base 9 v) (h : DataW.Trod enc Tryd.prog W 0 (fun _ => true) true 9 v d p) : ∃ s : By, v = sv s := by
  obtain ⟨s, rfl, _⟩ := Go.ChangeMaps.open_string Tryd.underlying9 hv h
  exact ⟨s.data.toList, by rw [sv, bs_of]⟩
theorem open_num {base : Nat} {v : Value} {d : DataW H} {p : List MemPlace} (hv : Value.okWide Tryd.prog W .any base 3 v) (h : DataW.Trod enc Tryd.prog W 0 (fun _ => true) true 3 v d p) : ∃ n : Int, v = .int .i64 n ∧ (-9223372036854775808 ≤ n ∧ n ≤ 9223372036854775807) := by
  obtain ⟨n, rfl, _, _, hw⟩ := open_int Tryd.underlying3 hv h
  refine ⟨n, rfl, ?_⟩
  simpa [Lit.wf, IntKind.min, IntKind.max, IntKind.signed, IntKind.bits] using hw
theorem open_blot {base : Nat} {v : Value} {d : DataW H} {p : List MemPlace} (hv : Value.okWide Tryd.prog W .any base 35 v) (h : DataW.Trod enc Tryd.prog W 0 (fun _ => true) true 35 v d p) : ∃ x y : Int, v = .agg #[.int .i64 x, .int .i64 y] ∧ (-9223372036854775808 ≤ x ∧ x ≤ 9223372036854775807) ∧ (-9223372036854775808 ≤ y ∧ y ≤ 9223372036854775807) := by
  obtain ⟨cs, rfl, hsz⟩ := okWide_struct Tryd.underlying35 hv
  obtain ⟨fuel, hf⟩ := h
  obtain ⟨y0, y1, n, _, hl, h0, h1⟩ := trod_struct2 Tryd.underlying35 hf
  rw [pC35] at hl
  obtain ⟨a, ha, _, wa⟩ := DataW.trod_int Tryd.underlying3 h0
  obtain ⟨b, hb, _, wb⟩ := DataW.trod_int Tryd.underlying3 h1
  obtain ⟨l⟩ := cs
  match l, hl with
  | [u, v], _ =>
    refine ⟨a, b, ?_, ?_, ?_⟩
    · simp [Value.cells, pC3] at ha hb
      simp [ha, hb]
    · simpa [Lit.wf, IntKind.min, IntKind.max, IntKind.signed, IntKind.bits] using wa
    · simpa [Lit.wf, IntKind.min, IntKind.max, IntKind.signed, IntKind.bits] using wb
end

/-! ### what the rows list -/
theorem tab_of_laid {W : World} (h : laidMetH Tryd.prog Rows.centuryBackRow.laid W) : Tab W.heap := by
  rw [MakeChecks.laidMetH_plain _ _ _ (by kernel_rfl)] at h
  have h2 := laidMet.filter (fun x => x.1 == "internal/strconv.uint64pow10") h
  have e : (Rows.centuryBackRow.laid.filter fun x => x.1 == "internal/strconv.uint64pow10") = [("internal/strconv.uint64pow10", Lib.tabData .u64 Lib.pow10Tab)] := by kernel_rfl
  rw [e] at h2
  exact Tab.of (Lib.tabIs_of_head (t := 128) (e := 112) (n := 20) tab_global (by kernel_rfl) (by kernel_rfl) (by kernel_rfl) (by kernel_rfl) (by kernel_rfl) h2)
noncomputable def laidW (os : Os) : World := World.laidAll Tryd.prog os Rows.centuryBackRow.laid
theorem laidW_met (os : Os) (args : Array Value) : laidMetH Tryd.prog Rows.centuryBackRow.laid ((laidW os).forCall (fun _ _ => 0) ⟨#[], args, []⟩).memory := by
  rw [MakeChecks.laidMetH_plain _ _ _ (by kernel_rfl)]
  exact laidMet_laidAll _ (by kernel_rfl) (by kernel_rfl)
theorem below_of {w w' : World} (k : Keep w.heap w'.heap) (c : Go.X.Calm w w') : Below w.heap.size w w' := ⟨c.os, c.tape, c.output, c.size, fun b hb => k.keep b hb⟩
end Go.Proofs.YtiinpnlfdeiloaaDoor
namespace Go.X.Cent
open Go.X Go.Proofs

/-! ### the pieces, read -/
/-! ### the pieces of a whole -/
theorem each_join : ∀ {n : Nat} {ph : List By} {s : By}, s.length ≤ n → (eachS ph s).flatten = s
  | 0, ph, s, h => by
    have : s = [] := List.eq_nil_of_length_eq_zero (by omega)
    subst this; rfl
  | n + 1, ph, s, h => by
    by_cases h0 : s = []
    · subst h0; rfl
    by_cases hk : lp ph s < s.length
    · rw [eachS_more hk, List.flatten_cons, each_join (n := n) (by rw [List.length_drop]; omega), List.take_append_drop]
    · rw [eachS_last h0 hk]; simp
theorem eachS_join (ph : List By) (s : By) : (eachS ph s).flatten = s := each_join (Nat.le_refl _)
/-- All but the last are new. -/
theorem each_nodup : ∀ {n : Nat} {ph : List By} {s : By}, s.length ≤ n → Phr ph → ∃ l t, eachS ph s = l ++ t ∧ t.length ≤ 1 ∧ (∀ x ∈ t, x ∈ ph ++ l) ∧ (ph ++ l).Nodup ∧ (∀ x ∈ l, x ≠ []) ∧ Phr (ph ++ l)
  | 0, ph, s, h, hP => by
    have : s = [] := List.eq_nil_of_length_eq_zero (by omega)
    subst this
    exact ⟨[], [], rfl, by simp, by simp, by simpa using hP.nod, by simp, by simpa using hP⟩
  | n + 1, ph, s, h, hP => by
    by_cases h0 : s = []
    · subst h0
      exact ⟨[], [], rfl, by simp, by simp, by simpa using hP.nod, by simp, by simpa using hP⟩
    by_cases hk : lp ph s < s.length
    · obtain ⟨l, t, e1, e2, e3, e4, e5, e6⟩ := each_nodup (n := n) (ph := ph ++ [s.take (lp ph s + 1)]) (s := s.drop (lp ph s + 1)) (by rw [List.length_drop]; omega) (hP.snoc hk)
      refine ⟨s.take (lp ph s + 1) :: l, t, by rw [eachS_more hk, e1, List.cons_append], e2, by simpa using e3, by simpa using e4, fun x hx => ?_, by simpa using e6⟩
      rcases List.mem_cons.1 hx with rfl | hx
      · intro z
        have := congrArg List.length z
        rw [List.length_take] at this; simp only [List.length_nil] at this; omega
      · exact e5 x hx
    · have e1 : s.take (lp ph s) = s := List.take_of_length_le (by omega)
      have hm := lp_mem s hP
      rw [e1] at hm
      exact ⟨[], [s], by rw [eachS_last h0 hk]; rfl, by simp, by simpa using hm, by simpa using hP.nod, by simp, by simpa using hP⟩
theorem nodup_le {α : Type} [BEq α] [LawfulBEq α] : ∀ {l m : List α}, l.Nodup → (∀ x ∈ l, x ∈ m) → l.length ≤ m.length
  | [], _, _, _ => by simp
  | x :: l, m, hn, hs => by
    have hx := hs x (by simp)
    rw [List.nodup_cons] at hn
    have := nodup_le (l := l) (m := m.erase x) hn.2 fun y hy => by
      have h1 := hs y (by simp [hy])
      have h2 : y ≠ x := fun e => hn.1 (e ▸ hy)
      exact (List.mem_erase_of_ne h2).2 h1
    rw [List.length_erase_of_mem hx] at this
    have := List.length_pos_of_mem hx
    rw [List.length_cons]; omega
def alphabet : By := 10 :: (List.range 94).map fun i => UInt8.ofNat (32 + i)
theorem alpha_mem {b : UInt8} (h : b = 10 ∨ 32 ≤ b.toNat ∧ b.toNat ≤ 125) : b ∈ alphabet := by
  rcases h with rfl | ⟨h1, h2⟩
  · simp [alphabet]
  · refine List.mem_cons_of_mem _ (List.mem_map.2 ⟨b.toNat - 32, by rw [List.mem_range]; omega, ?_⟩)
    rw [show 32 + (b.toNat - 32) = b.toNat from by omega, UInt8.ofNat_toNat]
/-- How many different strings there can be. -/
theorem few : ∀ {l : List By}, l.Nodup → (∀ x ∈ l, x ≠ []) → (∀ x ∈ l, ∀ b ∈ x, b = 10 ∨ 32 ≤ b.toNat ∧ b.toNat ≤ 125) → 2 * l.length ≤ l.flatten.length + 95 := fun {l} hn h0 hb => by
  have split : ∀ m : List By, (∀ x ∈ m, x ≠ []) → 2 * m.length ≤ m.flatten.length + (m.filter fun x => x.length == 1).length := by
    intro m
    induction m with
    | nil => simp
    | cons x m ih =>
      intro hm
      have hx := List.length_pos_iff.2 (hm x (by simp))
      have := ih fun y hy => hm y (by simp [hy])
      rw [List.length_cons, List.flatten_cons, List.length_append]
      by_cases c : x.length = 1
      · rw [List.filter_cons_of_pos (by simp [c]), List.length_cons]; omega
      · rw [List.filter_cons_of_neg (by simp [c])]; omega
  have h1 : (l.filter fun x => x.length == 1).length ≤ (alphabet.map fun b => [b]).length := by
    refine nodup_le (hn.sublist List.filter_sublist) fun x hx => ?_
    obtain ⟨hx, hl⟩ := List.mem_filter.1 hx
    have hl : x.length = 1 := by simpa using hl
    obtain ⟨b, rfl⟩ := List.length_eq_one_iff.1 hl
    exact List.mem_map.2 ⟨b, alpha_mem (hb _ hx b (by simp)), rfl⟩
  have h2 := split l h0
  have h3 : (alphabet.map fun b => [b]).length = 95 := by simp [alphabet]
  omega
theorem enc_each_len : ∀ {n : Nat} {ph : List By} {s : By}, s.length ≤ n → (encS ph s).length = (eachS ph s).length
  | 0, ph, s, h => by
    have : s = [] := List.eq_nil_of_length_eq_zero (by omega)
    subst this; rfl
  | n + 1, ph, s, h => by
    by_cases h0 : s = []
    · subst h0; rfl
    by_cases hk : lp ph s < s.length
    · rw [encS_more hk, eachS_more hk, List.length_cons, List.length_cons, enc_each_len (n := n) (by rw [List.length_drop]; omega)]
    · rw [encS_last h0 hk, eachS_last h0 hk]; rfl
theorem encS_each_len (ph : List By) (s : By) : (encS ph s).length = (eachS ph s).length := enc_each_len (Nat.le_refl _)
def Fine (s : By) : Prop := ∀ b ∈ s, b = 10 ∨ 32 ≤ b.toNat ∧ b.toNat ≤ 125
theorem pieces_few {s : By} (h : s.length ≤ 820) (hf : Fine s) : (eachS [[]] s).length ≤ 458 := by
  obtain ⟨l, t, e1, e2, e3, e4, e5, e6⟩ := each_nodup (n := s.length) (ph := [[]]) (s := s) (Nat.le_refl _) Phr.one
  have hj := eachS_join [[]] s
  rw [e1, List.flatten_append] at hj
  have h1 := few (l := l) (List.nodup_append.1 e4).2.1 e5 fun x hx b hb => hf b (by rw [← hj]; exact List.mem_append_left _ (List.mem_flatten.2 ⟨x, hx, hb⟩))
  have h2 := congrArg List.length hj
  rw [List.length_append] at h2
  rw [e1, List.length_append]
  omega
theorem whole_fine {ts : List By} (h : ∀ t ∈ ts, isText t) : Fine (wholeB ts) := by
  induction ts with
  | nil => intro b hb; simp [wholeB] at hb
  | cons t ts ih =>
    intro b hb
    rcases List.mem_append.1 hb with hb | hb
    · exact .inr ((h t (by simp)).2 b hb)
    · rcases List.mem_cons.1 hb with rfl | hb
      · exact .inl rfl
      · exact ih (fun x hx => h x (by simp [hx])) b hb
/-- Pieces as a file has them. -/
def GoodL : List Pie → Prop
  | [] => True
  | x :: l => (0 ≤ x.1 ∧ x.1 ≤ 675) ∧ ((x.2 = -1 ∧ l = []) ∨ ((x.2 = 10 ∨ 32 ≤ x.2 ∧ x.2 ≤ 125) ∧ GoodL l))
theorem enc_good : ∀ {n : Nat} {ph : List By} {s : By}, s.length ≤ n → Phr ph → Fine s → ph.length + (eachS ph s).length ≤ 676 → GoodL (encS ph s)
  | 0, ph, s, h, _, _, _ => by
    have : s = [] := List.eq_nil_of_length_eq_zero (by omega)
    subst this; trivial
  | n + 1, ph, s, h, hP, hf, hl => by
    by_cases h0 : s = []
    · subst h0; trivial
    have hm := lp_mem s hP
    have hi := List.idxOf_lt_length_iff.2 hm
    by_cases hk : lp ph s < s.length
    · rw [eachS_more hk, List.length_cons] at hl
      rw [encS_more hk]
      have hb : s.getD (lp ph s) 0 ∈ s := gmem (d := 0) hk
      refine ⟨⟨by show (0 : Int) ≤ ((_ : Nat) : Int); omega, by show ((_ : Nat) : Int) ≤ 675; omega⟩, .inr ⟨?_, enc_good (n := n) (by rw [List.length_drop]; omega) (hP.snoc hk) (fun b hb => hf b (List.mem_of_mem_drop hb)) (by rw [List.length_append, List.length_singleton]; omega)⟩⟩
      show (((s.getD (lp ph s) 0).toNat : Nat) : Int) = 10 ∨ 32 ≤ (((s.getD (lp ph s) 0).toNat : Nat) : Int) ∧ (((s.getD (lp ph s) 0).toNat : Nat) : Int) ≤ 125
      rcases hf _ hb with e | ⟨e1, e2⟩
      · rw [e]; exact .inl rfl
      · exact .inr ⟨by omega, by omega⟩
    · rw [encS_last h0 hk]
      have e1 : s.take (lp ph s) = s := List.take_of_length_le (by omega)
      rw [e1] at hi
      rw [eachS_last h0 hk, List.length_singleton] at hl
      exact ⟨⟨by show (0 : Int) ≤ ((_ : Nat) : Int); omega, by show ((_ : Nat) : Int) ≤ 675; omega⟩, .inl ⟨rfl, rfl⟩⟩

/-! ### the form of a file -/
theorem let_toNat {z : Int} (h0 : 0 ≤ z) (h1 : z ≤ 255) : (((UInt8.ofNat z.toNat).toNat : Nat) : Int) = z := by
  rw [UInt8.toNat_ofNat_of_lt' (show z.toNat < 256 by omega)]; omega
theorem dig_ok (n : Nat) : 48 ≤ (dig n).toNat ∧ (dig n).toNat ≤ 57 := by
  unfold dig
  rw [UInt8.toNat_ofNat_of_lt' (show 48 + n % 10 < 256 by omega)]
  omega
theorem seal_take (l : By) : (sealB l).take ((sealB l).length - 5) = l := by
  rw [seal_len, Nat.add_sub_cancel, sealB, List.take_left' rfl]
/-! ### the lines of a whole -/
/-! ### there and back -/
theorem good_enc {ts : List By} (h : chkT ts = 0) : GoodL (encS [[]] (wholeB ts)) ∧ (filP (encS [[]] (wholeB ts))).length ≤ 1374 ∧ (encS [[]] (wholeB ts)).length ≤ 458 := by
  have g := chk_good h
  have hw := whole_len g.1 fun t z => (g.2 t z).1
  have hf := whole_fine g.2
  have h1 := pieces_few hw hf
  have h2 := encS_each_len [[]] (wholeB ts)
  have h3 := filP_len (encS [[]] (wholeB ts))
  exact ⟨enc_good (Nat.le_refl _) Phr.one hf (by simp only [List.length_singleton]; omega), by omega, by omega⟩
theorem file_bounds {ts : List By} (h : chkT ts = 0) : 5 ≤ (fileB ts).length ∧ (fileB ts).length ≤ 1379 := by
  have g := good_enc h
  rw [fileB, seal_len]; omega
theorem read_is {s : By} (h : (readB s).1 = 0) : fileB (readB s).2 = s ∧ chkT (readB s).2 = 0 := by
  unfold readB at h ⊢
  split at h
  · cases h
  split at h
  · cases h
  rename_i h1
  split at h
  · cases h
  split at h
  · cases h
  · rename_i h2
    rw [if_neg h1, if_neg h2]
    exact ⟨Decidable.not_not.1 fun z => h2 (.inr z), Decidable.not_not.1 fun z => h2 (.inl z)⟩
theorem write_good {ts : List By} (h : chkT ts = 0) : writeB ts = (fileB ts, 0) := by rw [writeB, if_neg fun z => z h]
theorem wr_ok {ts : List By} (h : chkT ts = 0) : wrOk ts := by
  have := file_bounds h
  unfold wrOk
  rw [write_good h]
  exact ⟨rfl, by show (5 : Int) ≤ ((fileB ts).length : Nat); omega, by show (((fileB ts).length : Nat) : Int) ≤ 1400; omega⟩
theorem write_len {ts : List By} (h : chkT ts = 0) : (writeB ts).1.length ≤ 2 ^ 60 := by
  have := file_bounds h
  rw [write_good h]
  show (fileB ts).length ≤ _
  omega
end Go.X.Cent
namespace Go.X.Cent
open Go.X Go.Proofs

def ChOk (b : By) : Prop := b.length % 3 ≠ 1 ∧ ∀ i, i < b.length → (i % 3 < 2 → isL (b.getD i 0)) ∧ (¬ i % 3 < 2 → 32 ≤ (b.getD i 0).toNat ∧ (b.getD i 0).toNat ≤ 126)
theorem pieR_eq (b : By) : pieR b = (phN b, byB (if 2 < b.length then (((b.getD 2 0).toNat : Nat) : Int) else -1)) := by
  unfold pieR phN
  congr 1
  omega
theorem pie1_sound {b : By} {x : Pie} {r : By} (h : pie1 b = some (x, r)) : x = pieR b ∧ r = b.drop 3 ∧ 2 ≤ b.length ∧ isL (b.getD 0 0) ∧ isL (b.getD 1 0) ∧ (2 < b.length → 32 ≤ (b.getD 2 0).toNat ∧ (b.getD 2 0).toNat ≤ 126) := by
  unfold pie1 at h
  split at h
  · cases h
  rename_i h0
  have hl : 2 ≤ b.length := Nat.le_of_not_lt fun z => h0 (.inl z)
  have h1 : isL (b.getD 0 0) := Decidable.not_not.1 fun z => h0 (.inr (.inl z))
  have h2 : isL (b.getD 1 0) := Decidable.not_not.1 fun z => h0 (.inr (.inr z))
  have hg : (b.drop 2).getD 0 0 = b.getD 2 0 := by rw [drop_getD]
  have hd : (b.drop 2).drop 1 = b.drop 3 := by rw [List.drop_drop]
  rw [pieR_eq]
  split at h
  · rename_i h3
    have hl2 : b.length = 2 := by
      have := congrArg List.length h3
      rw [List.length_drop] at this; simp only [List.length_nil] at this; omega
    cases h
    refine ⟨?_, ?_, hl, h1, h2, fun z => by omega⟩
    · rw [if_neg (by omega)]; rfl
    · rw [h3, List.drop_of_length_le (by omega)]
  rename_i h3
  have hl3 : 2 < b.length := by
    have := List.length_pos_iff.2 h3
    rw [List.length_drop] at this; omega
  rw [hg, hd] at h
  split at h
  · rename_i h4
    cases h
    refine ⟨?_, rfl, hl, h1, h2, fun _ => by omega⟩
    rw [if_pos hl3, h4]; rfl
  split at h
  · cases h
  · rename_i h4 h5
    cases h
    refine ⟨?_, rfl, hl, h1, h2, fun _ => by omega⟩
    rw [if_pos hl3, byB, if_neg (by omega)]
theorem pie1_full {b : By} (hl : 2 ≤ b.length) (h1 : isL (b.getD 0 0)) (h2 : isL (b.getD 1 0)) (h3 : 2 < b.length → 32 ≤ (b.getD 2 0).toNat ∧ (b.getD 2 0).toNat ≤ 126) : ∃ x r, pie1 b = some (x, r) := by
  unfold pie1
  rw [if_neg (by rintro (z | z | z); exact absurd hl (by omega); exact z h1; exact z h2)]
  have hg : (b.drop 2).getD 0 0 = b.getD 2 0 := by rw [drop_getD]
  rw [hg]
  split
  · exact ⟨_, _, rfl⟩
  rename_i h4
  have hl3 : 2 < b.length := by
    have := List.length_pos_iff.2 h4
    rw [List.length_drop] at this; omega
  have := h3 hl3
  split
  · exact ⟨_, _, rfl⟩
  split
  · rename_i z; omega
  · exact ⟨_, _, rfl⟩
theorem chOk_drop {b : By} (h : ChOk b) (hl : 3 ≤ b.length) : ChOk (b.drop 3) := by
  refine ⟨by rw [List.length_drop]; have := h.1; omega, fun i hi => ?_⟩
  rw [List.length_drop] at hi
  have := h.2 (i + 3) (by omega)
  rw [drop_getD, show 3 + i = i + 3 from by omega]
  rw [show (i + 3) % 3 = i % 3 from by omega] at this
  exact this
theorem prs_ok : ∀ {n : Nat} {out : List Pie} {b : By}, b.length ≤ n → ChOk b → prsS out b = some (out ++ refS b)
  | 0, out, b, h, _ => by
    have : b = [] := List.eq_nil_of_length_eq_zero (by omega)
    subst this
    rw [prs_end, refS_nil, List.append_nil]
  | n + 1, out, b, h, hc => by
    by_cases h0 : b = []
    · subst h0; rw [prs_end, refS_nil, List.append_nil]
    have hp := List.length_pos_iff.2 h0
    have hl : 2 ≤ b.length := by have := hc.1; omega
    obtain ⟨x, r, e⟩ := pie1_full hl ((hc.2 0 (by omega)).1 (by omega)) ((hc.2 1 (by omega)).1 (by omega)) fun z => (hc.2 2 z).2 (by omega)
    obtain ⟨rfl, rfl, _⟩ := pie1_sound e
    rw [prs_step e, refS_cons h0]
    by_cases h3 : b.length = 2
    · have : b.drop 3 = [] := List.drop_of_length_le (by omega)
      rw [this, prs_end, refS_nil]
    · rw [prs_ok (n := n) (by rw [List.length_drop]; omega) (chOk_drop hc (by omega))]
      simp
theorem prs_sound : ∀ {n : Nat} {out l : List Pie} {b : By}, b.length ≤ n → prsS out b = some l → ChOk b ∧ l = out ++ refS b
  | 0, out, l, b, h, e => by
    have : b = [] := List.eq_nil_of_length_eq_zero (by omega)
    subst this
    rw [prs_end] at e
    exact ⟨⟨by simp, fun i hi => by simp at hi⟩, by rw [refS_nil, List.append_nil]; exact (Option.some.inj e).symm⟩
  | n + 1, out, l, b, h, e => by
    by_cases h0 : b = []
    · subst h0
      rw [prs_end] at e
      exact ⟨⟨by simp, fun i hi => by simp at hi⟩, by rw [refS_nil, List.append_nil]; exact (Option.some.inj e).symm⟩
    cases ep : pie1 b with
    | none => rw [prs_none h0 ep] at e; cases e
    | some q =>
      obtain ⟨x, r⟩ := q
      obtain ⟨hx, hr, hl, g0, g1, g2⟩ := pie1_sound ep
      rw [prs_step ep] at e
      obtain ⟨i1, i2⟩ := prs_sound (n := n) (by rw [hr, List.length_drop]; omega) e
      refine ⟨⟨?_, fun i hi => ?_⟩, ?_⟩
      · have := i1.1
        rw [hr, List.length_drop] at this
        by_cases c : b.length = 2
        · omega
        · omega
      · rcases Nat.lt_or_ge i 3 with c | c
        · rcases (show i = 0 ∨ i = 1 ∨ i = 2 by omega) with rfl | rfl | rfl
          · exact ⟨fun _ => g0, fun z => absurd (by omega) z⟩
          · exact ⟨fun _ => g1, fun z => absurd (by omega) z⟩
          · exact ⟨fun z => by omega, fun _ => g2 hi⟩
        · have := i1.2 (i - 3) (by rw [hr, List.length_drop]; omega)
          rw [hr, drop_getD, show 3 + (i - 3) = i from by omega, show (i - 3) % 3 = i % 3 from by omega] at this
          exact this
      · rw [i2, hx, hr, refS_cons h0]; simp
theorem take_getD {s : By} {e i : Nat} (h : i < e) : (s.take e).getD i 0 = s.getD i 0 := by
  rw [List.getD_eq_getElem?_getD, List.getD_eq_getElem?_getD, List.getElem?_take, if_pos h]
theorem body_iff {s : By} (h5 : 5 ≤ s.length) (h14 : s.length ≤ 1400) (h61 : (s.getD (s.length - 5) 0).toNat = 61) : bodyOk s ↔ (∀ c ∈ s.drop (s.length - 4), 48 ≤ c.toNat ∧ c.toNat ≤ 57) ∧ ChOk (s.take (s.length - 5)) := by
  have hlt : (s.take (s.length - 5)).length = s.length - 5 := by rw [List.length_take]; omega
  constructor
  · rintro ⟨_, _, _, h4, h6⟩
    refine ⟨gall (d := 0) fun i hi => ?_, by rw [hlt]; exact h4, fun i hi => ?_⟩
    · rw [List.length_drop] at hi
      rw [drop_getD]
      exact (h6 (s.length - 4 + i) (by omega)).1 (by omega)
    · rw [hlt] at hi
      rw [take_getD hi]
      have := (h6 i (by omega)).2
      exact ⟨fun z => this.1 hi z, fun z => this.2 hi z⟩
  · rintro ⟨h1, h2, h3⟩
    rw [hlt] at h2 h3
    refine ⟨h5, h14, h61, h2, fun i hi => ⟨fun z => ?_, fun z y => ?_, fun z y => ?_⟩⟩
    · have hm : s.getD i 0 ∈ s.drop (s.length - 4) := by
        have : (s.drop (s.length - 4)).getD (i - (s.length - 4)) 0 = s.getD i 0 := by rw [drop_getD, show s.length - 4 + (i - (s.length - 4)) = i from by omega]
        rw [← this]
        exact gmem (d := 0) (by rw [List.length_drop]; omega)
      exact h1 _ hm
    · have := (h3 i z).1 y
      rw [take_getD z] at this
      exact this
    · have := (h3 i z).2 y
      rw [take_getD z] at this
      exact this
theorem form_same (s : By) : formB s = if bodyOk s then some (parseR s) else none := by
  by_cases h : 1400 < s.length ∨ s.length < 5 ∨ (s.getD (s.length - 5) 0).toNat ≠ 61
  · rw [formB, if_pos h, if_neg]
    rintro ⟨z1, z2, z3, _⟩
    rcases h with h | h | h
    · omega
    · omega
    · exact h z3
  have h5 : 5 ≤ s.length := by omega
  have h14 : s.length ≤ 1400 := by omega
  have h61 : (s.getD (s.length - 5) 0).toNat = 61 := by omega
  have hb := body_iff h5 h14 h61
  rw [formB, if_neg h]
  by_cases hd : ∃ c ∈ s.drop (s.length - 4), c.toNat < 48 ∨ 57 < c.toNat
  · rw [if_pos hd, if_neg]
    intro z
    obtain ⟨c, hc, y⟩ := hd
    have := (hb.1 z).1 c hc
    omega
  rw [if_neg hd]
  have hd' : ∀ c ∈ s.drop (s.length - 4), 48 ≤ c.toNat ∧ c.toNat ≤ 57 := fun c hc => by
    have : ¬ (c.toNat < 48 ∨ 57 < c.toNat) := fun z => hd ⟨c, hc, z⟩
    omega
  by_cases hc : ChOk (s.take (s.length - 5))
  · have hB : bodyOk s := hb.2 ⟨hd', hc⟩
    rw [if_pos hB, parseR, if_pos hB, prs_ok (Nat.le_refl _) hc, List.nil_append]
  · have hB : ¬ bodyOk s := fun z => hc (hb.1 z).2
    rw [if_neg hB]
    cases e : prsS [] (s.take (s.length - 5)) with
    | none => rfl
    | some l => exact absurd (prs_sound (Nat.le_refl _) e).1 hc
/-! ### the whole, and its lines -/
end Go.X.Cent
namespace Go.X.Cent
open Go.X Go.Proofs

def alphaI : List Int := alphabet.map fun b => ((b.toNat : Nat) : Int)
/-- What the law of the uses asks of the pieces. -/
structure Spl (L l t : List Pie) : Prop where
  eq : L = l ++ t
  one : t.length ≤ 1
  tm : ∀ x ∈ t, x.2 = -1
  lm : ∀ x ∈ l, x.2 ≠ -1
  rng : ∀ x ∈ L, 0 ≤ x.1 ∧ x.1 ≤ ((l.length : Nat) : Int)
  few : ∀ n, cntN L n ≤ 96
section
variable {L l t : List Pie}
theorem Spl.len (S : Spl L l t) : L.length = l.length + t.length := by rw [S.eq, List.length_append]
theorem Spl.no (S : Spl L l t) (h : 0 < L.length → (L.getD (L.length - 1) pz).2 ≠ -1) : L.length = l.length := by
  have hl := S.len
  have h1 := S.one
  rcases Nat.eq_zero_or_pos t.length with z | z
  · omega
  · exfalso
    have h0 : 0 < L.length := by omega
    refine h h0 (S.tm _ ?_)
    rw [List.getD_eq_getElem?_getD, S.eq, List.getElem?_append_right (by rw [List.length_append]; omega), List.length_append]
    rw [show l.length + t.length - 1 - l.length = 0 from by omega]
    obtain ⟨x, rfl⟩ := List.length_eq_one_iff.1 (show t.length = 1 by omega)
    simp
end
/-- How often the first numbers are used, together. -/
def sumC (L : List Pie) : Nat → Nat
  | 0 => 0
  | k + 1 => sumC L k + cntN L ((k : Nat) : Int)
theorem sumC_count : ∀ (k : Nat) (L : List Pie), sumC L k = L.countP fun x => decide (0 ≤ x.1 ∧ x.1 < ((k : Nat) : Int))
  | 0, L => by
    rw [sumC, List.countP_eq_zero.2]
    intro x _
    simp
  | k + 1, L => by
    rw [sumC, sumC_count k L]
    induction L with
    | nil => rfl
    | cons x L ih =>
      simp only [cntN, List.countP_cons] at ih ⊢
      have : (if decide (0 ≤ x.1 ∧ x.1 < ((k + 1 : Nat) : Int)) = true then 1 else 0) = (if decide (0 ≤ x.1 ∧ x.1 < ((k : Nat) : Int)) = true then 1 else 0) + (if decide (x.1 = ((k : Nat) : Int)) = true then 1 else 0) := by
        simp only [decide_eq_true_eq]
        by_cases c : x.1 = ((k : Nat) : Int)
        · rw [if_pos (by omega), if_neg (by omega), if_pos c]
        · by_cases d : 0 ≤ x.1 ∧ x.1 < ((k : Nat) : Int)
          · rw [if_pos (by omega), if_pos d, if_neg c]
          · rw [if_neg (by omega), if_neg d, if_neg c]
      omega
theorem Spl.sum {L l t : List Pie} (S : Spl L l t) : sumC L (l.length + 1) = L.length := by
  rw [sumC_count, List.countP_eq_length]
  intro x hx
  have := S.rng x hx
  simp only [decide_eq_true_eq]
  omega
end Go.X.Cent
namespace Go.X.Cent
open Go.X Go.Proofs

theorem set_getD {l : By} {i j : Nat} {c : UInt8} (hi : i < l.length) : (l.set i c).getD j 0 = if i = j then c else l.getD j 0 := by
  rw [List.getD_eq_getElem?_getD, List.getD_eq_getElem?_getD, List.getElem?_set]
  by_cases e : i = j
  · rw [if_pos e, if_pos e, if_pos hi]; rfl
  · rw [if_neg e, if_neg e]
theorem wsum_set {l : By} {i : Nat} {c : UInt8} (hi : i < l.length) : ∀ k, wsumTo (l.set i c) k + (if i < k then (l.getD i 0).toNat * (i + 1) else 0) = wsumTo l k + (if i < k then c.toNat * (i + 1) else 0)
  | 0 => by simp [wsumTo]
  | k + 1 => by
    have ih := wsum_set hi k (c := c)
    simp only [wsumTo]
    rw [set_getD hi]
    by_cases e : i = k
    · subst e
      rw [if_neg (Nat.lt_irrefl i), if_neg (Nat.lt_irrefl i)] at ih
      rw [if_pos rfl, if_pos (Nat.lt_succ_self i), if_pos (Nat.lt_succ_self i)]
      omega
    · rw [if_neg e]
      by_cases d : i < k
      · rw [if_pos d, if_pos d] at ih
        rw [if_pos (by omega), if_pos (by omega)]
        omega
      · rw [if_neg d, if_neg d] at ih
        rw [if_neg (by omega), if_neg (by omega)]
        omega
theorem total_set {l : By} {i : Nat} {c : UInt8} (hi : i < l.length) : total (l.set i c) + (l.getD i 0).toNat * (i + 1) = total l + c.toNat * (i + 1) := by
  have := wsum_set (c := c) hi l.length
  rw [if_pos hi, if_pos hi] at this
  rw [total, total, List.length_set]
  exact this
theorem copr : ∀ d, d < 256 → d ≠ 0 → Nat.Coprime 9973 d := by decide +kernel
theorem mod_away {d k : Nat} (hd : d < 256) (h0 : d ≠ 0) (hk : 0 < k) (hk2 : k < 9973) : (d * k) % 9973 ≠ 0 := fun h => by
  have h1 := (copr d hd h0).dvd_of_dvd_mul_left (Nat.dvd_of_mod_eq_zero h)
  have := Nat.le_of_dvd hk h1
  omega
theorem dig_inj {a b : Nat} (h : dig a = dig b) : a % 10 = b % 10 := by
  have := congrArg UInt8.toNat h
  unfold dig at this
  rw [UInt8.toNat_ofNat_of_lt' (show 48 + a % 10 < 256 by omega), UInt8.toNat_ofNat_of_lt' (show 48 + b % 10 < 256 by omega)] at this
  omega
theorem four_inj {a b : Nat} (ha : a < 10000) (hb : b < 10000) (h : four a = four b) : a = b := by
  simp only [four, List.cons.injEq, and_true] at h
  have h1 := dig_inj h.1
  have h2 := dig_inj h.2.1
  have h3 := dig_inj h.2.2.1
  have h4 := dig_inj h.2.2.2
  omega
/-- What is read of a string is sealed. -/
theorem read_sealed {s : By} (h : (readB s).1 = 0) : s = sealB (s.take (s.length - 5)) := by
  have h1 := (read_is h).1
  have h2 := seal_take (filP (encS [[]] (wholeB (readB s).2)))
  have h3 : sealB (filP (encS [[]] (wholeB (readB s).2))) = s := h1
  rw [h3] at h2
  rw [h2]; exact h3.symm
section
variable {B t : By}
theorem sealed_same (hl : t.length = B.length + 5) (hr : (readB t).1 = 0) (hd : t.drop B.length = (sealB B).drop B.length) : total (t.take B.length) % 9973 = total B % 9973 := by
  have h1 := read_sealed hr
  rw [hl, Nat.add_sub_cancel] at h1
  have hlt : (t.take B.length).length = B.length := by rw [List.length_take]; omega
  have h2 : t.drop B.length = 61 :: four (total (t.take B.length) % 9973) := by
    conv => lhs; rw [h1]
    rw [sealB, List.drop_left' hlt]
  have h3 : (sealB B).drop B.length = 61 :: four (total B % 9973) := by rw [sealB, List.drop_left' rfl]
  rw [h2, h3] at hd
  simp only [List.cons.injEq, true_and] at hd
  exact four_inj (by omega) (by omega) hd
theorem byte_away {i : Nat} {c : UInt8} (hB : B.length ≤ 1400) (hi : i < B.length + 5) (hne : ¬ (sealB B).set i c = sealB B) : (readB ((sealB B).set i c)).1 ≠ 0 := fun hr => by
  have hl : ((sealB B).set i c).length = B.length + 5 := by rw [List.length_set, seal_len]
  by_cases h : i < B.length
  · have hs : (sealB B).set i c = B.set i c ++ 61 :: four (total B % 9973) := by rw [sealB, List.set_append_left _ _ h]
    have ht : ((sealB B).set i c).take B.length = B.set i c := by rw [hs, List.take_left' (by simp)]
    have hd : ((sealB B).set i c).drop B.length = (sealB B).drop B.length := by rw [hs, List.drop_left' (by simp), sealB, List.drop_left' rfl]
    have hm := sealed_same hl hr hd
    rw [ht] at hm
    have ht2 := total_set (c := c) h
    have hc : c ≠ B.getD i 0 := fun e => hne (by
      rw [hs, sealB]
      congr 1
      rw [e, List.getD_eq_getElem?_getD, List.getElem?_eq_getElem h]
      exact List.set_getElem_self h)
    have hc2 : c.toNat ≠ (B.getD i 0).toNat := fun e => hc (UInt8.toNat_inj.1 e)
    have b1 := byte_le c
    have b2 := byte_le (B.getD i 0)
    rcases Nat.lt_or_gt_of_ne hc2 with z | z
    · have e : (B.getD i 0).toNat * (i + 1) = c.toNat * (i + 1) + ((B.getD i 0).toNat - c.toNat) * (i + 1) := by rw [← Nat.add_mul]; congr 1; omega
      exact mod_away (d := (B.getD i 0).toNat - c.toNat) (k := i + 1) (by omega) (by omega) (by omega) (by omega) (by omega)
    · have e : c.toNat * (i + 1) = (B.getD i 0).toNat * (i + 1) + (c.toNat - (B.getD i 0).toNat) * (i + 1) := by rw [← Nat.add_mul]; congr 1; omega
      exact mod_away (d := c.toNat - (B.getD i 0).toNat) (k := i + 1) (by omega) (by omega) (by omega) (by omega) (by omega)
  · have h1 := read_sealed hr
    rw [hl, Nat.add_sub_cancel] at h1
    have ht : ((sealB B).set i c).take B.length = B := by
      rw [List.take_set_of_le (by omega), sealB, List.take_left' rfl]
    rw [ht] at h1
    exact hne h1
theorem swap_away {i j : Nat} (hj : j = i + 1) (hl2 : j < B.length) (hne : ¬ ((sealB B).set i ((sealB B).getD j 0)).set j ((sealB B).getD i 0) = sealB B) : (readB (((sealB B).set i ((sealB B).getD j 0)).set j ((sealB B).getD i 0))).1 ≠ 0 := fun hr => by
  have hi : i < B.length := by omega
  have g : ∀ k, k < B.length → (sealB B).getD k 0 = B.getD k 0 := fun k hk => by rw [sealB, List.getD_eq_getElem?_getD, List.getElem?_append_left hk, ← List.getD_eq_getElem?_getD]
  rw [g i hi, g j hl2] at hr hne
  have hl : (((sealB B).set i (B.getD j 0)).set j (B.getD i 0)).length = B.length + 5 := by rw [List.length_set, List.length_set, seal_len]
  have hs : ((sealB B).set i (B.getD j 0)).set j (B.getD i 0) = (B.set i (B.getD j 0)).set j (B.getD i 0) ++ 61 :: four (total B % 9973) := by
    rw [sealB, List.set_append_left _ _ hi, List.set_append_left _ _ (by rw [List.length_set]; exact hl2)]
  have ht : (((sealB B).set i (B.getD j 0)).set j (B.getD i 0)).take B.length = (B.set i (B.getD j 0)).set j (B.getD i 0) := by rw [hs, List.take_left' (by simp)]
  have hd : (((sealB B).set i (B.getD j 0)).set j (B.getD i 0)).drop B.length = (sealB B).drop B.length := by rw [hs, List.drop_left' (by simp), sealB, List.drop_left' rfl]
  have hm := sealed_same hl hr hd
  rw [ht] at hm
  have t1 := total_set (c := B.getD j 0) hi
  have t2 := total_set (l := B.set i (B.getD j 0)) (c := B.getD i 0) (i := j) (by rw [List.length_set]; exact hl2)
  rw [set_getD hi, if_neg (by omega)] at t2
  subst hj
  have b1 := byte_le (B.getD i 0)
  have b2 := byte_le (B.getD (i + 1) 0)
  have e1 : (B.getD (i + 1) 0).toNat * (i + 1 + 1) = (B.getD (i + 1) 0).toNat * (i + 1) + (B.getD (i + 1) 0).toNat := by rw [Nat.mul_add, Nat.mul_one]
  have e2 : (B.getD i 0).toNat * (i + 1 + 1) = (B.getD i 0).toNat * (i + 1) + (B.getD i 0).toNat := by rw [Nat.mul_add, Nat.mul_one]
  have e3 : (B.getD i 0).toNat = (B.getD (i + 1) 0).toNat := by omega
  have e4 : B.getD i 0 = B.getD (i + 1) 0 := UInt8.toNat_inj.1 e3
  refine hne ?_
  have self : ∀ k, k < B.length → B.set k (B.getD k 0) = B := fun k hk => by
    rw [List.getD_eq_getElem?_getD, List.getElem?_eq_getElem hk]
    exact List.set_getElem_self hk
  rw [hs, ← e4, self i hi, e4, self (i + 1) hl2, sealB]
end
theorem write_seal {ts : List By} (h : chkT ts = 0) : (writeB ts).1 = sealB (filP (encS [[]] (wholeB ts))) := by rw [write_good h]; rfl
theorem byte_law {ts : List By} {i : Nat} {c : UInt8} (h : chkT ts = 0) (hi : i < (writeB ts).1.length) (hne : ¬ (writeB ts).1.set i c = (writeB ts).1) : (readB ((writeB ts).1.set i c)).1 ≠ 0 := by
  have g := (good_enc h).2.1
  rw [write_seal h] at hi hne ⊢
  rw [seal_len] at hi
  exact byte_away (by omega) hi hne
theorem swap_law {ts : List By} {i j : Nat} (h : chkT ts = 0) (hj : j = i + 1) (hl : j + 5 < (writeB ts).1.length) (hne : ¬ ((writeB ts).1.set i ((writeB ts).1.getD j 0)).set j ((writeB ts).1.getD i 0) = (writeB ts).1) :
    (readB (((writeB ts).1.set i ((writeB ts).1.getD j 0)).set j ((writeB ts).1.getD i 0))).1 ≠ 0 := by
  rw [write_seal h] at hl hne ⊢
  rw [seal_len] at hl
  exact swap_away hj (by omega) hne
end Go.X.Cent
namespace Go.X
open Go.Conc

section
variable {P : Program} {b : Frame} {tm : Array Value} {df : List Deferred} {k : List Item} {cs : List Frame} {Φ : Heap → Prop} {Stop : Goroutine → Heap → Prop}
theorem rs_valL {ops : Array Oper} {i : Nat} {rest : List Nat} {o : Oper} (ho : ops[i]? = some o) (hw : Region.wanted o (yielded ops tm) = true) (hk : b.kind ≠ .early)
    (hnd : (match o.op with | .defer _ => false | _ => true) = true)
    (x : ∀ h, Φ h → ∀ w : World, w.heap = h → ∃ v w' es, (execOp (ev tm) o).runT P w #[] = (.ok (.value v) w', es) ∧ Calm w w' ∧ Reach P .lone (G (F b (put tm o.dst v) df (.inRegion ops rest :: k)) cs) w'.heap Stop) :
    RS P .lone (G (F b tm df (.inRegion ops (i :: rest) :: k)) cs) Φ Stop := by
  intro h y w hwh
  obtain ⟨v, w', es, e1, c, r⟩ := x h y w hwh
  have hk' : (b.kind == CallKind.early) = false := by simpa using hk
  have he : Frame.eval (F b tm df (.inRegion ops (i :: rest) :: k)) = ev tm := eval_F
  have hs : stepG P true (G (F b tm df (.inRegion ops (i :: rest) :: k)) cs) w = stepG.apply P true (F b tm df (.inRegion ops (i :: rest) :: k)) cs none (execOp (ev tm) o) w := by
    simp only [F] at he
    simp only [G, stepG, stepG.exec, F, ho, Option.map_some, hw, Option.getD_some, if_true, stepG.oper, Frame.oper?, he]
    cases hrn : b.roundOf with
    | none => rfl
    | some l =>
      revert hnd
      cases o.op <;> simp
  have hgo : stepG P true (G (F b tm df (.inRegion ops (i :: rest) :: k)) cs) w = .go (G ((F b tm df (.inRegion ops (i :: rest) :: k)).finish v) cs) w' (seen P b.fn es) := by
    rw [hs]
    simp only [stepG.apply, if_true, e1, GStep.after, G, Array.append_empty]
    rw [if_neg (show ¬ ((F b tm df (.inRegion ops (i :: rest) :: k)).kind == CallKind.early) = true from fun z => by rw [show (F b tm df (.inRegion ops (i :: rest) :: k)).kind = b.kind from rfl, hk'] at z; cases z)]
    rfl
  rw [finish_region ho] at hgo
  obtain ⟨g2, w2, a2, b2, c2⟩ := r w' rfl
  exact ⟨g2, w2, .head (step_solo rfl hgo) a2, b2, c.trans c2⟩
end
end Go.X
namespace Go.X
open Go.Conc

section
variable {P : Program} {f : FuncId} {r : Rd} {df : List Deferred} {k : List Item} {cs : List Frame} {Stop : Goroutine → Heap → Prop} {ops rest : List Oper} {tm : List Value}
  {h₀ : Heap} {B₀ : List Nat} {p : PHeap} {L : Pcs} {ty : TypeId} {pos : String} {aft : Array Edge} {gd : Option (Nat × Bool)}
theorem rl_stepL {o : Oper} {Φ : Heap → Prop} {K : Value → Heap → Prop} (hm : Met ops tm o true) (hd : noDefer o.op = true) (hx : ∀ h, Φ h → ∀ w : World, w.heap = h → ∃ v w', (execOp (evl tm) o).run P w = .ok (.value v) w' ∧ Calm w w' ∧ K v w'.heap)
    (n : ∀ v, RL P .lone f r df k cs Stop ops rest (putl tm o.dst v) (K v)) : RL P .lone f r df k cs Stop ops (o :: rest) tm Φ := by
  intro pre e
  rw [rl_next]
  refine rs_valL (rl_at e) (wanted_of_met hm) B_kind (by revert hd; cases o.op <;> simp [noDefer]) fun h y w hw => ?_
  rw [ev_toArray]
  obtain ⟨v, w', e1, c, hK⟩ := hx h y w hw
  refine ⟨v, w', ((execOp (evl tm) o).runT P w #[]).2, Prod.ext ?_ rfl, c, ?_⟩
  · rw [Sem.runT_fst]; exact e1
  have := n v (pre ++ [o]) (by simp [e]) w'.heap hK
  rw [put_toArray]
  simpa [FL] using this

/-- []byte(s): a new block, which bears the mark of such a conversion. -/
theorem rl_bytesL {dd : Nat} {src dst e : TypeId} {x : Operand} {l : List UInt8} (hm : Met ops tm ⟨some dd, .convert src dst x, ty, pos, aft, gd⟩ true) (hs : P.underlying src = some .string) (hd : P.underlying dst = some (.slice e)) (he : P.underlying e = some (.int .u8)) (hx : evl tm x = sv l)
    (n : ∀ b cap rest' z, ((bcs l).flatten ++ rest').length = cap → RL P .lone f r df k cs Stop ops rest (tm.set dd (.slice (some ⟨b, 0, none⟩) l.length cap)) (fun h => St h₀ B₀ p h ((b, .cells ((bcs l).flatten ++ rest').toArray e z) :: L))) :
    RL P .lone f r df k cs Stop ops (⟨some dd, .convert src dst x, ty, pos, aft, gd⟩ :: rest) tm (fun h => St h₀ B₀ p h L) := by
  have hf : ∀ l : List UInt8, (bcs l).flatten = l.map fun b => Value.int .u8 ((b.toNat : Nat) : Int) := fun l => by
    induction l with
    | nil => rfl
    | cons a l ih => simp only [bcs] at ih ⊢; simp [ih]
  refine rl_stepL (K := fun v h => ∃ b cap rest' z, ((bcs l).flatten ++ rest').length = cap ∧ v = .slice (some ⟨b, 0, none⟩) l.length cap ∧ St h₀ B₀ p h ((b, .cells ((bcs l).flatten ++ rest').toArray e z) :: L)) hm rfl (fun h s w hw => ?_)
    fun v => rl_ex fun b => rl_ex fun cap => rl_ex fun rest' => rl_ex fun z => rl_and fun h1 => rl_and fun h2 => by subst h2; exact n b cap rest' z h1
  subst hw
  have hrun := Lib.run_convert_string_bytes (P := P) w src dst e (bs l) hs hd he
  have hg : l.length ≤ grownCap w (bs l).size 0 e := by have := grownCap_ge w (bs l).size 0 e; rw [bs_size] at this ⊢; exact this
  have hc : Lib.bytesCells w e (bs l) = ((bcs l).flatten ++ List.replicate (grownCap w (bs l).size 0 e - l.length) (Value.int .u8 0)).toArray := by
    unfold Lib.bytesCells
    apply Array.ext'
    rw [hf, bs_size]
    simp [bs]
  refine ⟨.slice (some ⟨w.heap.size, 0, none⟩) (bs l).size (grownCap w (bs l).size 0 e), Lib.bytesWorld w e (bs l), ?_, ?_, w.heap.size, grownCap w (bs l).size 0 e, List.replicate (grownCap w (bs l).size 0 e - l.length) (Value.int .u8 0), ((Lib.bytesCells w e (bs l)).size, (Lib.bytesCells w e (bs l)).size + 1), ?_, by rw [bs_size], ?_⟩
  · simp only [execOp, hx, sv]
    simp [hrun]
  · exact ⟨by simp [Lib.bytesWorld, World.freeze]; rfl, by simp [Lib.bytesWorld, World.freeze], by simp [Lib.bytesWorld, World.freeze]; rfl, by rw [Lib.bytesWorld_size]; omega⟩
  · rw [hf, List.length_append, List.length_map, List.length_replicate]
    omega
  · have hn := Lib.bytesWorld_at_new w e (bs l)
    have nw : New w.heap (Lib.bytesWorld w e (bs l)).heap [(w.heap.size, .cells ((bcs l).flatten ++ List.replicate (grownCap w (bs l).size 0 e - l.length) (Value.int .u8 0)).toArray e ((Lib.bytesCells w e (bs l)).size, (Lib.bytesCells w e (bs l)).size + 1))] := by
      refine ⟨⟨by rw [Lib.bytesWorld_size]; omega, fun b hb => Lib.bytesWorld_at_old w e (bs l) b hb⟩, fun x hx => ?_, by simp⟩
      rw [List.mem_singleton.1 hx]
      refine ⟨?_, Nat.le_refl _⟩
      rw [hn, ← hc]
    exact s.callN nw
/-- Bytes that last. -/
def Byts (p : PHeap) (a : Option Addr) (n : Nat) (l : List UInt8) : Prop := Sl p a n 1 (bcs l)
theorem Byts.len {a : Option Addr} {n : Nat} {l : List UInt8} (s : Byts p a n l) : l.length = n := by have := Sl.len s; simpa [bcs] using this
theorem Byts.mono {p' : PHeap} {a : Option Addr} {n : Nat} {l : List UInt8} (hp : PLe p p') (s : Byts p a n l) : Byts p' a n l := Sl.mono hp s
theorem Byts.ne {a : Option Addr} {n : Nat} {l : List UInt8} (s : Byts p a n l) (hk : 0 < n) : a = some (adr a) := Sl.ne s hk
theorem Byts.get {a : Option Addr} {n i : Nat} {l : List UInt8} (s : Byts p a n l) (hk : i < n) : pcell p ((adr a).add (i * 1)) = some (.int .u8 (((l.getD i 0).toNat : Nat) : Int)) := by
  have hl := s.len
  exact Sl.get s i [.int .u8 (((l.getD i 0).toNat : Nat) : Int)] (by rw [bcs, List.getElem?_map, List.getD_eq_getElem?_getD, List.getElem?_eq_getElem (by omega)]; rfl) 0 _ rfl
/-- []byte(s), not to be written to. -/
theorem rl_bytesP {dd : Nat} {src dst e : TypeId} {x : Operand} {l : List UInt8} (hm : Met ops tm ⟨some dd, .convert src dst x, ty, pos, aft, gd⟩ true) (hs : P.underlying src = some .string) (hd : P.underlying dst = some (.slice e)) (he : P.underlying e = some (.int .u8)) (hx : evl tm x = sv l)
    (n : ∀ p' a cap, PLe p p' → Byts p' a l.length l → l.length ≤ cap → RL P .lone f r df k cs Stop ops rest (tm.set dd (.slice a l.length cap)) (fun h => St h₀ B₀ p' h L)) :
    RL P .lone f r df k cs Stop ops (⟨some dd, .convert src dst x, ty, pos, aft, gd⟩ :: rest) tm (fun h => St h₀ B₀ p h L) := by
  refine rl_bytesL hm hs hd he hx fun b cap rest' z hcap => fun pre e h s => ?_
  obtain ⟨le, s'⟩ := s.last
  have hw : ∀ e ∈ bcs l, e.length = 1 := fun e he => by
    obtain ⟨x, _, rfl⟩ := List.mem_map.1 he
    rfl
  have hfl := flatten_length hw
  refine n _ (some ⟨b, 0, none⟩) cap le ⟨by simp [bcs], hw, fun _ => rfl, fun i e' hi j x hj => ?_⟩ (by rw [← hcap, List.length_append, hfl, bcs_length]; omega) pre e h s'
  show pcell _ (((⟨b, 0, none⟩ : Addr).add (i * 1)).add j) = _
  rw [add_mk, add_mk]
  unfold pcell
  simp only [padd_self, Option.isSome_none, Bool.false_eq_true, if_false, List.getElem?_toArray, Nat.zero_add]
  have := flatten_get hw hi hj
  rw [List.getElem?_append_left (List.getElem?_eq_some_iff.1 this).1]
  exact this
end
end Go.X
namespace Go.X
open Go.Conc

section
variable {P : Program} {h h₀ : Heap} {B₀ : List Nat} {p : PHeap} {A X C : Pcs} {tm : List Value} {d : Option Tmp} {ty : TypeId} {pos : String} {aft : Array Edge} {gd : Option (Nat × Bool)}
theorem wpS_forBytes (f : Value → ByteArray → Sem (ForInStep ByteArray)) (hf : ∀ (n : Int) (r : ByteArray) (K : ForInStep ByteArray → Heap → Prop), K (.yield (r.push (UInt8.ofNat n.toNat))) h → wpS P (f (.int .u8 n) r) h K) :
    ∀ (l : List UInt8) (m : List UInt8) (K : ByteArray → Heap → Prop), K (bs (m ++ l)) h → wpS P (forIn (l.map fun b => Value.int .u8 ((b.toNat : Nat) : Int)) (bs m) f) h K := by
  intro l
  induction l with
  | nil => intro m K k; rw [List.append_nil] at k; exact wpS_pure k
  | cons b l ih =>
    intro m K k
    rw [List.map_cons, List.forIn_cons]
    refine wpS_bind (hf _ _ _ ?_)
    have e : (bs m).push (UInt8.ofNat (((b.toNat : Nat) : Int)).toNat) = bs (m ++ [b]) := by
      apply ByteArray.ext
      simp [bs]
    rw [e]
    refine ih _ _ ?_
    rw [List.append_assoc]
    exact k
theorem exd_strOwn {src dst e : TypeId} {x : Operand} {v : Value} {l : List UInt8} (o : OwnS e 1 v (bcs l) X) (s : St h₀ B₀ p h (A ++ (X ++ C))) (hs : P.underlying src = some (.slice e)) (hd : P.underlying dst = some .string) (he : P.underlying e = some (.int .u8)) (hx : evl tm x = v) :
    Exd P tm ⟨d, .convert src dst x, ty, pos, aft, gd⟩ h (sv l) := by
  refine exd_of (s := convert src dst v) (by simp only [execOp, hx]) ?_
  unfold convert
  refine wpS_bind (wpS_underlying hs ?_)
  refine wpS_bind (wpS_underlying hd ?_)
  obtain ⟨hw, ⟨rfl, h0, rfl⟩ | ⟨b, cs, cap, rest, rfl, rfl, hcs, hlen, _⟩⟩ := o
  · have : l = [] := by simpa [bcs] using h0
    subst this
    simp only
    refine wpS_bind (wpS_underlying he ?_)
    exact wpS_pure ⟨rfl, rfl⟩
  · simp only
    refine wpS_bind (wpS_underlying he ?_)
    simp only [Conv.bytesToString]
    have hfl := flatten_length hw
    have hL : (A ++ ([(b, Obj.cells (List.toArray cs) e (0, 0))] ++ C))[A.length]? = some (b, .cells (List.toArray cs) e (0, 0)) := by
      rw [List.getElem?_append_right (Nat.le_refl _)]; simp
    refine wpS_bind (wpS_loadCells (vs := (bcs l).flatten) (by rw [hfl]; simp) (fun j u hj => ?_) ?_)
    · rw [add_mk]
      refine s.ocell hL ?_
      rw [List.getElem?_toArray, hcs, Nat.zero_add, List.getElem?_append_left (List.getElem?_eq_some_iff.1 hj).1]
      exact hj
    · have hf : ∀ l : List UInt8, (bcs l).flatten = l.map fun b => Value.int .u8 ((b.toNat : Nat) : Int) := fun l => by
        induction l with
        | nil => rfl
        | cons a l ih => simp only [bcs] at ih ⊢; simp [ih]
      rw [hf]
      simp only [List.forIn_toArray]
      refine wpS_bind ?_
      exact wpS_forBytes _ (fun n r K k => wpS_pure k) l [] _ (wpS_pure ⟨rfl, rfl⟩)
theorem byte_own {z : Int} (h0 : 0 ≤ z) (h1 : z ≤ 255) : [[Value.int .u8 z]] = bcs [UInt8.ofNat z.toNat] := by
  have e : (((UInt8.ofNat z.toNat).toNat : Nat) : Int) = z := by
    rw [UInt8.toNat_ofNat_of_lt' (by show z.toNat < 256; omega)]
    omega
  simp only [bcs, List.map_cons, List.map_nil, e]
end
end Go.X
namespace Go.X
open Go.Conc

def tkV (v : Value) (k : Nat) : Value := match v with
  | .slice a _ c => .slice a k c
  | v => v
theorem OwnS.take {T : TypeId} {w : Nat} {v : Value} {es : List (List Value)} {X : Pcs} (o : OwnS T w v es X) {k : Nat} (hk : k ≤ es.length) : OwnS T w (tkV v k) (es.take k) X := by
  obtain ⟨h1, ⟨rfl, rfl, rfl⟩ | ⟨b, cs, cap, rest, rfl, rfl, hcs, hlen, hcap⟩⟩ := o
  · obtain rfl : k = 0 := by simpa using hk
    exact ⟨by simp, .inl ⟨rfl, rfl, rfl⟩⟩
  · refine ⟨fun e he => h1 e (List.mem_of_mem_take he), .inr ⟨b, cs, cap, (es.drop k).flatten ++ rest, ?_, rfl, ?_, hlen, hcap⟩⟩
    · simp [tkV, Nat.min_eq_left hk]
    · rw [hcs, ← List.append_assoc, ← List.flatten_append, List.take_append_drop]
section
variable {P : Program} {h : Heap} {tm : List Value} {d : Option Tmp} {ty : TypeId} {pos : String} {aft : Array Edge} {gd : Option (Nat × Bool)}
theorem exd_takeO {t e : TypeId} {x : Operand} {hi : Option Operand} {T : TypeId} {w k n : Nat} {v : Value} {es : List (List Value)} {X : Pcs} (hw : 0 < w) (o : OwnS T w v es X) (hn : es.length = n) (ht : P.underlying t = some (.slice e)) (hs : sizeT P e = some w) (hx : evl tm x = v)
    (bh : Bd tm hi n k) (hk : k ≤ n) : Exd P tm ⟨d, .slice t x none hi none, ty, pos, aft, gd⟩ h (tkV v k) := by
  obtain ⟨h1, ⟨rfl, rfl, rfl⟩ | ⟨b, cs, cap, rest, rfl, rfl, hcs, hlen, hcap⟩⟩ := o
  · have hn0 : n = 0 := hn.symm
    subst hn0
    obtain rfl : k = 0 := by omega
    have := exd_slice (P := P) (tm := tm) (d := d) (ty := ty) (pos := pos) (aft := aft) (gd := gd) (h := h) (w := w) ht hs hx (.none _) bh (Nat.le_refl 0) (Nat.le_refl 0)
    exact this
  · subst hn
    have hle : k ≤ cap := by
      have := flatten_length h1
      rw [hcs, List.length_append, this] at hlen
      exact Nat.le_trans hk (Nat.le_of_mul_le_mul_right (by omega) hw)
    have := exd_slice (P := P) (tm := tm) (d := d) (ty := ty) (pos := pos) (aft := aft) (gd := gd) (h := h) (w := w) ht hs hx (.none _) bh (Nat.zero_le _) hle
    have e : cutA (some (⟨b, 0, none⟩ : Addr)) cap 0 w = some ⟨b, 0, none⟩ := by
      unfold cutA
      split
      · rfl
      · simp [Addr.add]
    rw [e] at this
    exact this
theorem mix_use {md : Md} {ops : List Oper} {tm' : List Value} {h₀ : Heap} {B₀ : List Nat} {p : PHeap} {A U : Pcs} {q : Value → Pcs → Prop} {o : Oper} {v : Value} (hm : Met ops tm' o true) (hx : ∀ C h, St h₀ B₀ p h (U ++ (A ++ C)) → Exd P tm' o h v) (hq : q v []) : Mix P md ops tm' h₀ B₀ p A U q o :=
  .inl ⟨hm, fun C h s => .inl (wpS_mono (hx C h s) fun _ _ ⟨v', e1, e2, e3⟩ => ⟨v', .inl e1, [], by rw [e2]; exact hq, by rw [e3]; exact s.dropA⟩)⟩
theorem St.one1 {h₀ h : Heap} {B₀ : List Nat} {p : PHeap} {X C : Pcs} (s : St h₀ B₀ p h ((X ++ []) ++ C)) : St h₀ B₀ p h (([] : Pcs) ++ (X ++ C)) := by simpa using s
theorem St.assoc {h₀ h : Heap} {B₀ : List Nat} {p : PHeap} {A X C : Pcs} (s : St h₀ B₀ p h (A ++ (X ++ C))) : St h₀ B₀ p h ((A ++ X) ++ C) := by rwa [List.append_assoc]
theorem St.assoc' {h₀ h : Heap} {B₀ : List Nat} {p : PHeap} {A X C : Pcs} (s : St h₀ B₀ p h ((A ++ X) ++ C)) : St h₀ B₀ p h (A ++ (X ++ C)) := by rwa [List.append_assoc] at s
end
end Go.X
namespace Go.X
open Go.Conc

/-- Bytes of one's own, which came of a string: the place behind them is marked. -/
def OwnB (v : Value) (l : List UInt8) (X : Pcs) : Prop := ∃ b cs cap rest, v = .slice (some ⟨b, 0, none⟩) l.length cap ∧ X = [(b, .cells (List.toArray cs) 5 (cap, cap + 1))] ∧ cs = (bcs l).flatten ++ rest ∧ cs.length = cap
theorem OwnB.nil1 {v : Value} {l : List UInt8} {X : Pcs} (o : OwnB v l X) : OwnB v l (X ++ []) := by rwa [List.append_nil]
theorem bcs_flat (l : List UInt8) : (bcs l).flatten = l.map fun b => Value.int .u8 ((b.toNat : Nat) : Int) := by
  induction l with
  | nil => rfl
  | cons a l ih => simp only [bcs] at ih ⊢; simp [ih]
section
variable {P : Program} {f : FuncId} {r : Rd} {df : List Deferred} {k : List Item} {cs : List Frame} {Stop : Goroutine → Heap → Prop} {ops rest : List Oper} {tm : List Value}
  {h₀ : Heap} {B₀ : List Nat} {p : PHeap} {A C : Pcs} {L : Pcs} {ty : TypeId} {pos : String} {aft : Array Edge} {gd : Option (Nat × Bool)} {v : Value} {l : List UInt8} {X : Pcs}
theorem rl_bytesB {dd : Nat} {src dst : TypeId} {x : Operand} {l : List UInt8} (A : Pcs) (hm : Met ops tm ⟨some dd, .convert src dst x, ty, pos, aft, gd⟩ true) (hs : P.underlying src = some .string) (hd : P.underlying dst = some (.slice 5)) (he : P.underlying 5 = some (.int .u8)) (hx : evl tm x = sv l)
    (n : ∀ v X, OwnB v l X → RL P .lone f r df k cs Stop ops rest (tm.set dd v) (fun h => St h₀ B₀ p h (A ++ (X ++ C)))) :
    RL P .lone f r df k cs Stop ops (⟨some dd, .convert src dst x, ty, pos, aft, gd⟩ :: rest) tm (fun h => St h₀ B₀ p h (A ++ C)) := by
  refine rl_stepL (K := fun v h => ∃ X, OwnB v l X ∧ St h₀ B₀ p h (A ++ (X ++ C))) hm rfl (fun h s w hw => ?_) fun v => rl_ex fun X => rl_and fun o => n v X o
  subst hw
  have hrun := Lib.run_convert_string_bytes (P := P) w src dst 5 (bs l) hs hd he
  have hg : l.length ≤ grownCap w (bs l).size 0 5 := by have := grownCap_ge w (bs l).size 0 5; rw [bs_size] at this ⊢; exact this
  have hc : Lib.bytesCells w 5 (bs l) = ((bcs l).flatten ++ List.replicate (grownCap w (bs l).size 0 5 - l.length) (Value.int .u8 0)).toArray := by
    unfold Lib.bytesCells
    apply Array.ext'
    rw [bcs_flat, bs_size]
    simp [bs]
  have hsz : (Lib.bytesCells w 5 (bs l)).size = grownCap w (bs l).size 0 5 := by
    rw [hc, bcs_flat]
    simp only [List.size_toArray, List.length_append, List.length_map, List.length_replicate]
    omega
  refine ⟨.slice (some ⟨w.heap.size, 0, none⟩) (bs l).size (grownCap w (bs l).size 0 5), Lib.bytesWorld w 5 (bs l), ?_, ?_, [(w.heap.size, .cells ((bcs l).flatten ++ List.replicate (grownCap w (bs l).size 0 5 - l.length) (Value.int .u8 0)).toArray 5 (grownCap w (bs l).size 0 5, grownCap w (bs l).size 0 5 + 1))], ⟨w.heap.size, _, _, _, by rw [bs_size], rfl, rfl, ?_⟩, ?_⟩
  · simp only [execOp, hx, sv]
    simp [hrun]
  · exact ⟨by simp [Lib.bytesWorld, World.freeze]; rfl, by simp [Lib.bytesWorld, World.freeze], by simp [Lib.bytesWorld, World.freeze]; rfl, by rw [Lib.bytesWorld_size]; omega⟩
  · rw [bcs_flat, List.length_append, List.length_map, List.length_replicate]
    omega
  · have hn := Lib.bytesWorld_at_new w 5 (bs l)
    have nw : New w.heap (Lib.bytesWorld w 5 (bs l)).heap [(w.heap.size, .cells ((bcs l).flatten ++ List.replicate (grownCap w (bs l).size 0 5 - l.length) (Value.int .u8 0)).toArray 5 (grownCap w (bs l).size 0 5, grownCap w (bs l).size 0 5 + 1))] := by
      refine ⟨⟨by rw [Lib.bytesWorld_size]; omega, fun b hb => Lib.bytesWorld_at_old w 5 (bs l) b hb⟩, fun x hx => ?_, by simp⟩
      rw [List.mem_singleton.1 hx]
      refine ⟨?_, Nat.le_refl _⟩
      rw [hn, ← hc, hsz]
    exact s.callNA nw
theorem exd_strB {src dst : TypeId} {x : Operand} {d : Option Tmp} {h : Heap} (o : OwnB v l X) (s : St h₀ B₀ p h L) (hX : ∀ x ∈ X, x ∈ L) (hs : P.underlying src = some (.slice 5)) (hd : P.underlying dst = some .string) (he : P.underlying 5 = some (.int .u8)) (hx : evl tm x = v) :
    Exd P tm ⟨d, .convert src dst x, ty, pos, aft, gd⟩ h (sv l) := by
  refine exd_of (s := convert src dst v) (by simp only [execOp, hx]) ?_
  unfold convert
  refine wpS_bind (wpS_underlying hs ?_)
  refine wpS_bind (wpS_underlying hd ?_)
  obtain ⟨b, cs, cap, rest, rfl, rfl, hcs, hlen⟩ := o
  obtain ⟨i, hi⟩ := List.mem_iff_getElem?.1 (hX (b, .cells (List.toArray cs) 5 (cap, cap + 1)) (by simp))
  simp only
  refine wpS_bind (wpS_underlying he ?_)
  simp only [Conv.bytesToString]
  refine wpS_bind (wpS_loadCells (vs := (bcs l).flatten) (by rw [bcs_flat]; simp) (fun j u hj => ?_) ?_)
  · rw [add_mk]
    refine s.ocell hi ?_
    rw [List.getElem?_toArray, hcs, Nat.zero_add, List.getElem?_append_left (List.getElem?_eq_some_iff.1 hj).1]
    exact hj
  · rw [bcs_flat]
    simp only [List.forIn_toArray]
    refine wpS_bind ?_
    exact wpS_forBytes _ (fun n r K k => wpS_pure k) l [] _ (wpS_pure ⟨rfl, rfl⟩)
theorem exd_indexB {t : TypeId} {x y : Operand} {d : Option Tmp} {h : Heap} {z : Int} (o : OwnB v l X) (ht : P.underlying t = some (.slice 5)) (hs : sizeT P 5 = some 1) (hx : evl tm x = v) (hy : evl tm y = .int .i64 z) (h0 : 0 ≤ z) (hi : z.toNat < l.length) :
    Exd P tm ⟨d, .indexAddr t x y, ty, pos, aft, gd⟩ h (.pointer (some ((adrV v).add (z.toNat * 1)))) := by
  obtain ⟨b, cs, cap, rest, rfl, _, _, _⟩ := o
  exact exd_indexAddrN (i := z.toNat) ht hs hx (by rw [hy, Int.toNat_of_nonneg h0]) hi
theorem wpS_storeZ {b off i z1 z2 : Nat} {T : TypeId} {h : Heap} {cs : List Value} {u : Value} {K : Unit → Heap → Prop} (s : St h₀ B₀ p h L) (hL : L[i]? = some (b, .cells cs.toArray T (z1, z2))) (hlen : off < cs.length) (hz : off < z1) (h1 : isOne u = true)
    (n : ∀ h', St h₀ B₀ p h' (L.set i (b, .cells (cs.set off u).toArray T (z1, z2))) → K () h') : wpS P (storeCells ⟨b, off, none⟩ [u] 0) h K := by
  unfold storeCells
  refine wpS_bind ?_
  rw [add_mk, Nat.add_zero]
  refine ⟨rfl, h1, ⟨cs[off], s.ocell hL (by simp)⟩, ?_, ?_⟩
  · unfold frozenAt; rw [s.at hL]
    have : decide (z1 ≤ off) = false := decide_eq_false (by omega)
    simp [this]
  · have s' := s.store (off := off) (v := u) hL
    rw [setIfInBounds_mk] at s'
    exact wpS_pure (n _ s')
theorem OwnB.store {i : Nat} {c : UInt8} {h : Heap} {K : Heap → Prop} {T : TypeId} {x y : Operand} {u : Int} (o : OwnB v l X) (s : St h₀ B₀ p h (A ++ (X ++ C))) (hs : sizeT P T = some 1) (hx : evl tm x = .pointer (some ((adrV v).add (i * 1)))) (hy : evl tm y = .int .u8 u) (hu : u = ((c.toNat : Nat) : Int)) (hi : i < l.length)
    (n : ∀ X' h', OwnB v (l.set i c) X' → St h₀ B₀ p h' (A ++ (X' ++ C)) → K h') : wpS P (execOp (evl tm) ⟨none, .store T x y, ty, pos, aft, gd⟩) h fun n h' => n = .skip ∧ K h' := by
  obtain ⟨b, cs, cap, rest, rfl, rfl, hcs, hlen⟩ := o
  have hx' : evl tm x = .pointer (some ⟨b, i, none⟩) := by rw [hx]; simp only [adrV]; rw [add_mk, Nat.zero_add, Nat.mul_one]
  have hfl : (bcs l).flatten.length = l.length := by rw [bcs_flat]; simp
  have hle : l.length ≤ cap := by rw [← hlen, hcs, List.length_append, hfl]; omega
  simp only [execOp, hx', hy]
  refine wpS_bind ?_
  unfold Instr.storeAt
  refine wpS_bind (wpS_pure ?_)
  unfold storeVar
  refine wpS_bind (wpS_sizeOf hs ?_)
  rw [if_neg (by simp [Value.cells])]
  have hL : (A ++ ([(b, Obj.cells (List.toArray cs) 5 (cap, cap + 1))] ++ C))[A.length]? = some (b, .cells (List.toArray cs) 5 (cap, cap + 1)) := by
    rw [List.getElem?_append_right (Nat.le_refl _)]; simp
  have hc : (Value.int IntKind.u8 u).cells.toList = [.int .u8 u] := rfl
  rw [hc]
  refine wpS_storeZ s hL (by omega) (by omega) rfl fun h' s' => ?_
  refine wpS_pure ⟨rfl, n [(b, .cells (cs.set i (.int .u8 u)).toArray 5 (cap, cap + 1))] h' ⟨b, cs.set i (.int .u8 u), cap, rest, by simp, rfl, ?_, by simpa using hlen⟩ ?_⟩
  · rw [hcs, List.set_append_left _ _ (by omega), bcs_flat, bcs_flat, List.map_set, hu]
  · have e6 : (A ++ ([(b, Obj.cells (List.toArray cs) 5 (cap, cap + 1))] ++ C)).set A.length (b, .cells (cs.set i (.int .u8 u)).toArray 5 (cap, cap + 1)) = A ++ ([(b, .cells (cs.set i (.int .u8 u)).toArray 5 (cap, cap + 1))] ++ C) := by
      rw [List.set_append_right _ _ (Nat.le_refl _)]; simp
    rw [e6] at s'
    exact s'
theorem rl_storeB {md : Md} {i : Nat} {c : UInt8} {T : TypeId} {x y : Operand} {u : Int} (o : OwnB v l X) (hm : Met ops tm ⟨none, .store T x y, ty, pos, aft, gd⟩ true) (hs : sizeT P T = some 1) (hx : evl tm x = .pointer (some ((adrV v).add (i * 1)))) (hy : evl tm y = .int .u8 u) (hu : u = ((c.toNat : Nat) : Int)) (hi : i < l.length)
    (n : ∀ X', OwnB v (l.set i c) X' → RL P md f r df k cs Stop ops rest tm (fun h => St h₀ B₀ p h (A ++ (X' ++ C)))) :
    RL P md f r df k cs Stop ops (⟨none, .store T x y, ty, pos, aft, gd⟩ :: rest) tm (fun h => St h₀ B₀ p h (A ++ (X ++ C))) :=
  rl_unit (K := fun h' => ∃ X', OwnB v (l.set i c) X' ∧ St h₀ B₀ p h' (A ++ (X' ++ C))) hm rfl (fun _ s => o.store s hs hx hy hu hi fun X' _ o' s' => ⟨X', o', s'⟩) rfl (rl_ex fun X' => rl_and fun o' => n X' o')
theorem mix_storeB {md : Md} {i : Nat} {c : UInt8} {T : TypeId} {x y : Operand} {u : Int} {q : Value → Pcs → Prop} (o : OwnB v l X) (hm : Met ops tm ⟨none, .store T x y, ty, pos, aft, gd⟩ true) (hs : sizeT P T = some 1) (hx : evl tm x = .pointer (some ((adrV v).add (i * 1)))) (hy : evl tm y = .int .u8 u) (hu : u = ((c.toNat : Nat) : Int)) (hi : i < l.length)
    (hq : ∀ X', OwnB v (l.set i c) X' → q undef X') : Mix P md ops tm h₀ B₀ p A X q ⟨none, .store T x y, ty, pos, aft, gd⟩ :=
  .inl ⟨hm, fun D h s => .inl (by
    unfold Exv
    have s0 : St h₀ B₀ p h (([] : Pcs) ++ (X ++ (A ++ D))) := s
    refine wpS_mono (o.store (A := []) s0 hs hx hy hu hi (K := fun h' => ∃ X', OwnB v (l.set i c) X' ∧ St h₀ B₀ p h' (([] : Pcs) ++ (X' ++ (A ++ D)))) fun X' _ o' s' => ⟨X', o', s'⟩) fun n h' ⟨e, X', o', s'⟩ => ?_
    exact ⟨undef, .inr ⟨e, rfl⟩, X', hq X' o', s'⟩)⟩
end
end Go.X
namespace Go.X
open Go.Conc

section
variable {P : Program} {h : Heap}

theorem wpS_part1 {t : TypeId} {cs : Array Value} {off : Nat} {v : Value} {K : Value → Heap → Prop} (ha : aggT P t = some false) (hv : cs[off]? = some v) (x : K v h) : wpS P (part t cs off) h K := by
  unfold part
  refine wpS_bind (wpS_isAgg ha ?_)
  rw [if_neg (by simp), hv]
  exact wpS_pure x

theorem wpS_program {K : Program → Heap → Prop} (x : K P h) : wpS P program h K := by simp only [program, wpS]; exact x

/-- Comparing from these fields on comes to 'r'. -/
def EqOk (P : Program) (d : Nat) (xs ys : Array Value) : List Field → Bool → Prop
  | [], r => r = true
  | f :: fs, r => f.name ≠ "_" ∧ ∃ a b q, (∀ h (K : Value → Heap → Prop), K a h → wpS P (part f.type xs f.offset) h K) ∧ (∀ h (K : Value → Heap → Prop), K b h → wpS P (part f.type ys f.offset) h K) ∧
      (∀ h (K : Bool → Heap → Prop), K q h → wpS P (Op.equalIn d f.type a b) h K) ∧ (q = false ∧ r = false ∨ q = true ∧ EqOk P d xs ys fs r)

theorem wpS_eqStruct {d : Nat} {t : TypeId} {fs : Array Field} {xs ys : Array Value} {r : Bool} {K : Bool → Heap → Prop} (ht : P.underlying t = some (.struct fs)) (hp : P.stoodInHeld t = false) (e : EqOk P d xs ys fs.toList r) (k : K r h) :
    wpS P (Op.equalIn (d + 1) t (.agg xs) (.agg ys)) h K := by
  simp only [Op.equalIn]
  refine wpS_bind (wpS_underlying ht ?_)
  simp only
  refine wpS_bind (wpS_program ?_)
  rw [if_neg (by rw [hp]; simp)]
  rw [← Array.forIn_toList]
  generalize fs.toList = l at e
  refine wpS_bind ?_
  induction l generalizing h with
  | nil =>
    rw [show r = true from e] at k
    simp only [List.forIn_nil]
    exact wpS_pure (wpS_pure k)
  | cons f l ih =>
    obtain ⟨hn, a, b, q, ha, hb, hq, hr⟩ := e
    simp only [List.forIn_cons]
    refine wpS_bind ?_
    rw [if_pos hn]
    refine wpS_bind (ha _ _ ?_)
    refine wpS_bind (hb _ _ ?_)
    refine wpS_bind (hq _ _ ?_)
    rcases hr with ⟨rfl, rfl⟩ | ⟨rfl, hr⟩
    · exact wpS_pure (wpS_pure (wpS_pure k))
    · exact wpS_pure (ih k hr)

theorem wpS_eqInt {d : Nat} {t : TypeId} {k : IntKind} {a b : Int} {K : Bool → Heap → Prop} (ht : P.underlying t = some (.int k)) (x : K (decide (a = b)) h) : wpS P (Op.equalIn (d + 1) t (.int k a) (.int k b)) h K := by
  simp only [Op.equalIn]
  refine wpS_bind (wpS_underlying ht ?_)
  simp only [if_true, ibeq]
  exact wpS_pure x

variable {tm : List Value} {d : Option Tmp} {ty : TypeId} {pos : String} {aft : Array Edge} {gd : Option (Nat × Bool)}
theorem eqAgg_guard {op : BinOp} {T : TypeId} {x y : Operand} {xs ys : Array Value} {K : Unit → Heap → Prop} (hg : P.eqGuardType P.depth T = false) (z : K () h) : wpS P (eqGuard op T x y (.agg xs) (.agg ys)) h K := by
  unfold eqGuard
  cases op <;> first | (rw [if_pos (by rfl)]; exact wpS_pure z) | (rw [if_neg (by decide)]; refine wpS_bind (wpS_program (wpS_bind (wpS_program ?_))); rw [if_pos (by rw [hg]; rfl)]; exact wpS_pure z)
theorem exd_neqAgg {T T' : TypeId} {x y : Operand} {xs ys : Array Value} {q : Bool} (hg : P.eqGuardType P.depth T = false) (e : ∀ h (K : Bool → Heap → Prop), K q h → wpS P (Op.equalIn (9999 + 1) T (.agg xs) (.agg ys)) h K) (hx : evl tm x = .agg xs) (hy : evl tm y = .agg ys) :
    Exd P tm ⟨d, .binOp .neq T x y T', ty, pos, aft, gd⟩ h (.bool (!q)) := by
  refine exd_bin hx hy (fun K z => eqAgg_guard hg z) ?_
  simp only [binOp, Op.equal, Op.maxDepth]
  refine wpS_bind (e _ _ ?_)
  exact wpS_pure ⟨rfl, rfl⟩
end
end Go.X
namespace Go.Proofs.YtiinpnlfdeiloaaDoor
open Go.X Go.X.Cent Go.Conc
set_option maxRecDepth 10000
theorem pieEq (n : Nat) (x y : Pie) : ∀ h (K : Bool → Heap → Prop), K (decide (x = y)) h → wpS Tryd.prog (Op.equalIn (n + 2) 60 (.agg #[.int .i64 x.1, .int .i64 x.2]) (.agg #[.int .i64 y.1, .int .i64 y.2])) h K := fun h K k => by
  obtain ⟨a, b⟩ := x
  obtain ⟨c, d⟩ := y
  refine wpS_eqStruct Tryd.underlying60 (by kernel_rfl) (r := decide ((a, b) = (c, d))) ?_ k
  refine ⟨by decide, _, _, decide (a = c), fun h K k => wpS_part1 tA3 rfl k, fun h K k => wpS_part1 tA3 rfl k, fun h K k => wpS_eqInt Tryd.underlying3 k, ?_⟩
  by_cases e : a = c
  · refine .inr ⟨decide_eq_true e, by decide, _, _, decide (b = d), fun h K k => wpS_part1 tA3 rfl k, fun h K k => wpS_part1 tA3 rfl k, fun h K k => wpS_eqInt Tryd.underlying3 k, ?_⟩
    by_cases e2 : b = d
    · exact .inr ⟨decide_eq_true e2, decide_eq_true (by rw [e, e2])⟩
    · exact .inl ⟨decide_eq_false e2, decide_eq_false fun x => e2 (Prod.mk.inj x).2⟩
  · exact .inl ⟨decide_eq_false e, decide_eq_false fun x => e (Prod.mk.inj x).1⟩
theorem gT60 : Tryd.prog.eqGuardType Tryd.prog.depth 60 = false := by kernel_rfl
end Go.Proofs.YtiinpnlfdeiloaaDoor
namespace Go.Proofs.YtiinpnlfdeiloaaDoor
open Go.X Go.X.Cent Go.Conc
set_option maxRecDepth 10000

theorem c63 (h : Heap) (p : PHeap) (hp : Per p h) (a : Option Addr) (n c : Nat) (ts : List By) (T : Strs p a n ts) (hn : n ≤ 60) (ht : ∀ t ∈ ts, t.length ≤ 200) : CallsX Tryd.prog .lone 63 #[.slice a n c] h fun v h' => v = sv (wholeB ts) ∧ Keep h h' := by
  refine calls_intro (Φ := fun h_ => St h [] p h_ []) Tryd.func63 rfl (tm := [_, _, _, _, _, _, _, _, _, _, _, _, _, _, _, _, _]) rfl ?_ (St.start h _ hp)
  intro c₀ cs Stop K
  refine fl_seq ?_
  refine rl_start ?_
  refine rl_det (met_none rfl) (fun h_ H_ => exd_assign (v := sv ([] : List UInt8)) rfl) rfl ?_
  refine rl_end ?_
  refine fl_seq ?_
  refine rl_start ?_
  refine rl_alloc (met_none rfl) tZ83 rfl fun b1 => rl_own (L' := [(b1, .cells #[.pointer none, .slice none 0 0] 83 (0, 0))]) rfl ?_
  refine rl_end ?_
  refine fl_seq ?_
  refine fl_seq ?_
  refine rl_start ?_
  refine rl_det (met_none rfl) (fun h_ H_ => exd_move (v := .slice a n c) rfl) (tm' := _::_::_::_::_::_::_::_) rfl ?_
  refine rl_det (met_none rfl) (fun h_ H_ => exd_len Tryd.underlying22 rfl) rfl ?_
  refine rl_det (met_none rfl) (fun h_ H_ => exd_move (v := .int .i64 0) rfl) rfl ?_
  refine rl_end ?_
  refine fl_block ?_
  refine fl_loop (m₀ := n - 0) (fun m_ tm_ h_ => ∃ (k : Nat) (X : Pcs), m_ = n - k ∧ (∃ y2 : Nat → Value, tm_ = [.slice a n c, undef, sv ([] : List UInt8), .pointer (some ⟨b1, 0, none⟩), undef, (y2 5), .slice a n c, .int .i64 (((n : Nat) : Int)), .int .i64 (((k : Nat) : Int)), (y2 9), (y2 10), (y2 11), (y2 12), (y2 13), (y2 14), (y2 15), undef]) ∧ (k ≤ n) ∧ (Bld b1 (wholeB (ts.take k)) X) ∧ St h [] p h_ (([] : Pcs) ++ (X ++ []))) (fun h_ H_ => ⟨0, [(b1, .cells #[.pointer none, .slice none 0 0] 83 (0, 0))], rfl, (y_of rfl), Nat.zero_le _, Bld.new _, H_⟩) ?_
  intro m_ tm_ IH3
  refine rs_ex fun k => rs_ex fun X => rs_and fun hm_ => rs_and fun ht_ => rs_and fun hk => rs_and fun B => ?_
  subst hm_; obtain ⟨y2, ht_⟩ := ht_; subst ht_
  have hl := T.len
  have hw := wholeB_len (ts := ts.take k) (m := 200) (fun t z => ht t (List.mem_of_mem_take z))
  have ht1 : k < n → (ts.getD k []).length ≤ 200 := fun z => ht _ (getD_mem (by omega))
  have hq : (ts.take k).length ≤ 60 := by rw [List.length_take]; omega
  have hq2 := Nat.mul_le_mul_right 201 hq
  refine fl_seq ?_
  refine rl_start ?_
  refine rl_det (met_none rfl) (fun h_ H_ => exd_lss rfl rfl) (tm' := _::_::_::_::_::_::_::_::_::_::_) rfl ?_
  refine rl_end ?_
  refine fl_seq ?_
  by_cases cc4 : ((k : Nat) : Int) < ((n : Nat) : Int)
  · refine fl_then rfl (decide_eq_true cc4) ?_
    refine fl_skip ?_
    refine fl_seq ?_
    refine fl_block ?_
    refine fl_seq ?_
    refine rl_start ?_
    refine rl_det (met_none rfl) (fun h_ H_ => exd_indexAddrN (i := k) Tryd.underlying22 tS9 (sl_ne a n c (T.ne (by omega))) rfl (by omega)) rfl ?_
    refine rl_det (met_none rfl) (fun h_ H_ => exd_load_per H_ tA9 rfl (v := sv (ts.getD k [])) (T.get (by omega))) rfl ?_
    refine rl_det (met_none rfl) (fun h_ H_ => exd_assign (v := sv (ts.getD k [])) rfl) (tm' := _::_::_::_::_::_::_) rfl ?_
    refine rl_end ?_
    refine fl_seq ?_
    refine rl_start ?_
    refine rl_det (met_none rfl) (fun h_ H_ => exd_move (v := sv (ts.getD k [])) rfl) rfl ?_
    refine rl_call (met_none rfl) (first := []) (cap := []) rfl rfl fC82 (fun h_ H_ => bld_str B H_ (by first | omega | (rw [List.length_append]; omega)) (ts.getD k []) (by omega)) ?_
    refine fun v_ => rl_and fun ev_ => rl_ex fun X5 => rl_and fun B6 => ?_
    subst ev_
    refine rl_end ?_
    refine rl_start ?_
    refine rl_call (met_none rfl) (first := []) (cap := []) rfl rfl fC78 (fun h_ H_ => bld_byte B6 H_ (by first | omega | (rw [List.length_append]; omega)) 10) ?_
    refine fun v_ => rl_and fun ev_ => rl_ex fun X7 => rl_and fun B8 => ?_
    subst ev_
    refine rl_norm (tm' := [_,_,_,_,_,_,_,_,_,_,_,_,_,_,_,_,_]) rfl ?_
    refine rl_end ?_
    refine fl_inBlock ?_
    refine rl_start ?_
    refine rl_det (met_none rfl) (fun h_ H_ => exd_add rfl rfl (n := ((k + 1 : Nat) : Int)) (wr (by omega))) rfl ?_
    refine rl_det (met_none rfl) (fun h_ H_ => exd_move (v := .int .i64 (((k + 1 : Nat) : Int))) rfl) rfl ?_
    refine rl_end ?_
    exact fun h_ H_ => IH3 _ _ (by omega) h_ ⟨k + 1, X7, rfl, (y_of rfl), (by omega), (by have e_ := wholeB_take (ts := ts) (k := k) (by omega); rw [e_]; exact B8), H_⟩
  · refine fl_else rfl (decide_eq_false cc4) ?_
    refine fl_exit rfl ?_
    refine fl_seq ?_
    refine rl_start ?_
    refine rl_call (met_none rfl) (first := []) (cap := []) rfl rfl fC79 (fun h_ H_ => c79 B H_) ?_
    refine fun v_ => rl_and fun ev_ => ?_
    subst ev_
    refine rl_weak (fun h_ k_ => (⟨fun b_ hb_ _ => k_.keep b_ hb_, k_.size, fun b_ o_ e_ => (k_.keep b_ (lt_of_get (hp b_ o_ e_))).trans (hp b_ o_ e_), by simp, by simp⟩ : St h [] p h_ [])) ?_
    refine rl_norm (tm' := [_,_,_,_,_,_,_,_,_,_,_,_,_,_,_,_,_]) rfl ?_
    refine rl_det (met_none rfl) (fun h_ H_ => exd_assign (v := sv (wholeB (ts.take k))) rfl) rfl ?_
    refine rl_end ?_
    refine fl_ret Tryd.func63 rfl (vs := [sv (wholeB (ts.take k))]) (fun h_ H_ => ⟨sv (wholeB (ts.take k)), _, rfl, rfl, rfl⟩) (v := sv (wholeB (ts.take k))) rfl ?_
    obtain rfl : k = n := by omega
    exact fun h_ H_ => K _ _ ⟨by rw [← hl, List.take_length], H_.kept⟩
theorem c53 (h : Heap) (ht : Tab h) (l : By) (hl : l.length ≤ 4096) : CallsX Tryd.prog .lone 53 #[sv l] h fun v h' => v = sv (sealB l) ∧ Keep h h' := by
  refine calls_intro (Φ := fun h_ => St h [] (fun _ => none) h_ []) Tryd.func53 rfl (tm := [_, _, _, _, _, _, _, _, _, _, _, _, _, _, _, _]) rfl ?_ (St.start h _ (fun _ _ e => by cases e))
  intro c₀ cs Stop K
  have hq := itoa_four (n := total l % 9973) (by omega)
  refine fl_seq ?_
  refine rl_start ?_
  refine rl_det (met_none rfl) (fun h_ H_ => exd_assign (v := sv ([] : List UInt8)) rfl) rfl ?_
  refine rl_end ?_
  refine fl_seq ?_
  refine rl_start ?_
  refine rl_det (met_none rfl) (fun h_ H_ => exd_move (v := sv l) rfl) (tm' := _::_::_::_::_::_) rfl ?_
  refine rl_calld (met_none rfl) (first := []) (cap := []) rfl rfl fC62 (fun h_ H_ => c62 .lone _ l (by omega)) rfl ?_
  refine rl_calld (met_none rfl) (first := []) (cap := []) rfl rfl fC70 (fun h_ H_ => c70 _ (ht.keep H_.kept) (((total l % 9973 : Nat) : Int)) (by omega) (by omega)) rfl ?_
  refine rl_det (met_none rfl) (fun h_ H_ => exd_assign (v := sv (Lib.itoa (((total l % 9973 : Nat) : Int)))) rfl) (tm' := _::_::_::_::_) rfl ?_
  refine rl_end ?_
  refine fl_seq ?_
  refine rl_start ?_
  refine rl_det (met_none rfl) (fun h_ H_ => exd_move (v := sv l) rfl) rfl ?_
  refine rl_det (met_none rfl) (fun h_ H_ => exd_catS (l := l) (m := ([61] : List UInt8)) rfl rfl (by first | omega | (simp only [List.length_singleton]; omega) | (simp only [List.length_append, List.length_singleton, Lib.repeatL_length]; omega))) rfl ?_
  refine rl_det (met_none rfl) (fun h_ H_ => exd_move (v := sv (Lib.itoa (((total l % 9973 : Nat) : Int)))) rfl) (tm' := _::_::_::_::_::_::_::_::_::_::_) rfl ?_
  refine rl_det (met_none rfl) (fun h_ H_ => exd_lenS (l := Lib.itoa (((total l % 9973 : Nat) : Int))) Tryd.underlying9 rfl) rfl ?_
  refine rl_det (met_none rfl) (fun h_ H_ => exd_sub rfl rfl (wr (by first | omega | (simp only [List.length_singleton]; omega) | (simp only [List.length_append, List.length_singleton, Lib.repeatL_length]; omega)))) rfl ?_
  refine rl_calld (met_none rfl) (first := []) (cap := []) rfl rfl fC71 (fun h_ H_ => c71i _ ([48] : List UInt8) (4 - (((Lib.itoa (((total l % 9973 : Nat) : Int))).length : Nat) : Int)) (by omega) (by omega) (by simp)) (tm' := [_,_,_,_,_,_,_,_,_,_,_,_,_,_,_,_]) rfl ?_
  refine rl_det (met_none rfl) (fun h_ H_ => exd_catS (l := l ++ ([61] : List UInt8)) (m := Lib.repeatL ([48] : List UInt8) (4 - (((Lib.itoa (((total l % 9973 : Nat) : Int))).length : Nat) : Int)).toNat) rfl rfl (by first | omega | (simp only [List.length_singleton]; omega) | (simp only [List.length_append, List.length_singleton, Lib.repeatL_length]; omega))) rfl ?_
  refine rl_det (met_none rfl) (fun h_ H_ => exd_move (v := sv (Lib.itoa (((total l % 9973 : Nat) : Int)))) rfl) rfl ?_
  refine rl_det (met_none rfl) (fun h_ H_ => exd_catS (l := (l ++ ([61] : List UInt8)) ++ (Lib.repeatL ([48] : List UInt8) (4 - (((Lib.itoa (((total l % 9973 : Nat) : Int))).length : Nat) : Int)).toNat)) (m := Lib.itoa (((total l % 9973 : Nat) : Int))) rfl rfl (by first | omega | (simp only [List.length_singleton]; omega) | (simp only [List.length_append, List.length_singleton, Lib.repeatL_length]; omega))) (tm' := [_,_,_,_,_,_,_,_,_,_,_,_,_,_,_,_]) rfl ?_
  refine rl_det (met_none rfl) (fun h_ H_ => exd_assign (v := sv (((l ++ ([61] : List UInt8)) ++ (Lib.repeatL ([48] : List UInt8) (4 - (((Lib.itoa (((total l % 9973 : Nat) : Int))).length : Nat) : Int)).toNat)) ++ (Lib.itoa (((total l % 9973 : Nat) : Int))))) rfl) rfl ?_
  refine rl_end ?_
  refine fl_ret Tryd.func53 rfl (vs := [sv (((l ++ ([61] : List UInt8)) ++ (Lib.repeatL ([48] : List UInt8) (4 - (((Lib.itoa (((total l % 9973 : Nat) : Int))).length : Nat) : Int)).toNat)) ++ (Lib.itoa (((total l % 9973 : Nat) : Int))))]) (fun h_ H_ => ⟨sv (((l ++ ([61] : List UInt8)) ++ (Lib.repeatL ([48] : List UInt8) (4 - (((Lib.itoa (((total l % 9973 : Nat) : Int))).length : Nat) : Int)).toNat)) ++ (Lib.itoa (((total l % 9973 : Nat) : Int)))), _, rfl, rfl, rfl⟩) (v := sv (((l ++ ([61] : List UInt8)) ++ (Lib.repeatL ([48] : List UInt8) (4 - (((Lib.itoa (((total l % 9973 : Nat) : Int))).length : Nat) : Int)).toNat)) ++ (Lib.itoa (((total l % 9973 : Nat) : Int))))) rfl ?_
  exact fun h_ H_ => K _ _ ⟨congrArg sv (ended_seal l), H_.kept⟩
end Go.Proofs.YtiinpnlfdeiloaaDoor
namespace Go.Proofs.YtiinpnlfdeiloaaDoor
open Go.X Go.X.Cent Go.Conc
set_option maxRecDepth 10000
set_option synthInstance.maxSize 2000
set_option synthInstance.maxHeartbeats 400000

theorem c23 (md : Md) (h : Heap) (p : PHeap) (hp : Per p h) (a : Option Addr) (n c : Nat) (ts : List By) (T : Strs p a n ts) (hn : n ≤ 9223372036854775807) : CallsX Tryd.prog md 23 #[.slice a n c] h fun v h' => v = .bool (decide (far ts)) ∧ Keep h h' := by
  refine calls_intro (Φ := fun h_ => St h [] p h_ []) Tryd.func23 rfl (tm := [_, _, _, _, _, _, _, _, _, _, _, _, _, _, _, _, _, _, _]) rfl ?_ (St.start h _ hp)
  intro c₀ cs Stop K
  refine fl_seq ?_
  refine rl_start ?_
  refine rl_det (met_none rfl) (fun h_ H_ => exd_assign (v := .bool (false)) rfl) rfl ?_
  refine rl_end ?_
  refine fl_seq ?_
  refine fl_seq ?_
  refine rl_start ?_
  refine rl_det (met_none rfl) (fun h_ H_ => exd_move (v := .slice a n c) rfl) rfl ?_
  refine rl_det (met_none rfl) (fun h_ H_ => exd_len Tryd.underlying22 rfl) (tm' := _::_::_::_::_::_::_) rfl ?_
  refine rl_det (met_none rfl) (fun h_ H_ => exd_gtr rfl rfl) rfl ?_
  refine rl_end ?_
  by_cases cc1 : 60 < ((n : Nat) : Int)
  · refine fl_then rfl (decide_eq_true cc1) ?_
    refine fl_seq ?_
    refine rl_start ?_
    refine rl_det (met_none rfl) (fun h_ H_ => exd_assign (v := .bool (true)) rfl) rfl ?_
    refine rl_end ?_
    refine fl_ret Tryd.func23 rfl (vs := [.bool (true)]) (fun h_ H_ => ⟨.bool (true), _, rfl, rfl, rfl⟩) (v := .bool (true)) rfl ?_
    exact fun h_ H_ => K _ _ ⟨by first | rw [decide_eq_true (far_many T ‹_›)] | rw [decide_eq_true (far_at (k := k) T (by omega) ‹_›)] | rw [decide_eq_false (far_no T (by omega) ‹_› hs)], H_.kept⟩
  · refine fl_else rfl (decide_eq_false cc1) ?_
    refine fl_skip ?_
    refine fl_seq ?_
    refine fl_seq ?_
    refine rl_start ?_
    refine rl_det (met_none rfl) (fun h_ H_ => exd_assign (v := .int .i64 0) rfl) (tm' := _::_::_::_::_) rfl ?_
    refine rl_end ?_
    refine fl_block ?_
    refine fl_loop (m₀ := n - 0) (fun m_ tm_ h_ => ∃ (k : Nat), m_ = n - k ∧ (∃ y2 : Nat → Value, tm_ = [.slice a n c, undef, (y2 2), .int .i64 (((k : Nat) : Int)), .slice a n c, .int .i64 (((n : Nat) : Int)), .bool (decide (60 < ((n : Nat) : Int))), (y2 7), (y2 8), (y2 9), (y2 10), (y2 11), (y2 12), (y2 13), (y2 14), (y2 15), (y2 16), (y2 17), (y2 18)]) ∧ (k ≤ n) ∧ (∀ i, i < k → (ts.getD i []).length ≤ 200) ∧ St h [] p h_ ([])) (fun h_ H_ => ⟨0, rfl, (y_of rfl), Nat.zero_le _, (fun i hi => absurd hi (Nat.not_lt_zero i)), H_⟩) ?_
    intro m_ tm_ IH3
    refine rs_ex fun k => rs_and fun hm_ => rs_and fun ht_ => rs_and fun hk => rs_and fun hs => ?_
    subst hm_; obtain ⟨y2, ht_⟩ := ht_; subst ht_
    refine fl_seq ?_
    refine fl_seq ?_
    refine rl_start ?_
    refine rl_det (met_none rfl) (fun h_ H_ => exd_move (v := .int .i64 (((k : Nat) : Int))) rfl) rfl ?_
    refine rl_det (met_none rfl) (fun h_ H_ => exd_move (v := .slice a n c) rfl) rfl ?_
    refine rl_det (met_none rfl) (fun h_ H_ => exd_len Tryd.underlying22 rfl) (tm' := _::_::_::_::_::_::_::_::_::_::_) rfl ?_
    refine rl_det (met_none rfl) (fun h_ H_ => exd_lss rfl rfl) rfl ?_
    refine rl_end ?_
    by_cases cc4 : ((k : Nat) : Int) < ((n : Nat) : Int)
    · refine fl_then rfl (decide_eq_true cc4) ?_
      refine fl_skip ?_
      refine fl_seq ?_
      refine fl_block ?_
      refine fl_seq ?_
      refine rl_start ?_
      refine rl_det (met_none rfl) (fun h_ H_ => exd_move (v := .slice a n c) rfl) rfl ?_
      refine rl_det (met_none rfl) (fun h_ H_ => exd_move (v := .int .i64 (((k : Nat) : Int))) rfl) (tm' := [_,_,_,_,_,_,_,_,_,_,_,_,_,_,_,_,_,_,_]) rfl ?_
      refine rl_det (met_none rfl) (fun h_ H_ => exd_indexAddrN (i := k) Tryd.underlying22 tS9 (sl_ne a n c (T.ne (by omega))) rfl (by omega)) rfl ?_
      refine rl_det (met_none rfl) (fun h_ H_ => exd_load_per H_ tA9 rfl (v := sv (ts.getD k [])) (T.get (by omega))) rfl ?_
      refine rl_det (met_none rfl) (fun h_ H_ => exd_lenS (l := ts.getD k []) Tryd.underlying9 rfl) (tm' := [_,_,_,_,_,_,_,_,_,_,_,_,_,_,_,_,_,_,_]) rfl ?_
      refine rl_det (met_none rfl) (fun h_ H_ => exd_gtr rfl rfl) rfl ?_
      refine rl_end ?_
      by_cases cc5 : 200 < (((ts.getD k []).length : Nat) : Int)
      · refine fl_then rfl (decide_eq_true cc5) ?_
        refine fl_seq ?_
        refine rl_start ?_
        refine rl_det (met_none rfl) (fun h_ H_ => exd_assign (v := .bool (true)) rfl) rfl ?_
        refine rl_end ?_
        refine fl_ret Tryd.func23 rfl (vs := [.bool (true)]) (fun h_ H_ => ⟨.bool (true), _, rfl, rfl, rfl⟩) (v := .bool (true)) rfl ?_
        exact fun h_ H_ => K _ _ ⟨by first | rw [decide_eq_true (far_many T ‹_›)] | rw [decide_eq_true (far_at (k := k) T (by omega) ‹_›)] | rw [decide_eq_false (far_no T (by omega) ‹_› hs)], H_.kept⟩
      · refine fl_else rfl (decide_eq_false cc5) ?_
        refine fl_skip ?_
        refine fl_inBlock ?_
        refine rl_start ?_
        refine rl_det (met_none rfl) (fun h_ H_ => exd_move (v := .int .i64 (((k : Nat) : Int))) rfl) (tm' := _::_::_::_::_::_::_::_::_::_::_::_::_) rfl ?_
        refine rl_det (met_none rfl) (fun h_ H_ => exd_add rfl rfl (n := ((k + 1 : Nat) : Int)) (wr (by omega))) rfl ?_
        refine rl_det (met_none rfl) (fun h_ H_ => exd_assign (v := .int .i64 (((k + 1 : Nat) : Int))) rfl) rfl ?_
        refine rl_end ?_
        exact fun h_ H_ => IH3 _ _ (by omega) h_ ⟨k + 1, rfl, (y_of rfl), (by omega), (upto_step hs (by omega)), H_⟩
    · refine fl_else rfl (decide_eq_false cc4) ?_
      refine fl_exit rfl ?_
      refine fl_seq ?_
      refine rl_start ?_
      refine rl_det (met_none rfl) (fun h_ H_ => exd_assign (v := .bool (false)) rfl) (tm' := _::_::_::_) rfl ?_
      refine rl_end ?_
      refine fl_ret Tryd.func23 rfl (vs := [.bool (false)]) (fun h_ H_ => ⟨.bool (false), _, rfl, rfl, rfl⟩) (v := .bool (false)) rfl ?_
      exact fun h_ H_ => K _ _ ⟨by first | rw [decide_eq_true (far_many T ‹_›)] | rw [decide_eq_true (far_at (k := k) T (by omega) ‹_›)] | rw [decide_eq_false (far_no T (by omega) ‹_› hs)], H_.kept⟩
theorem c19 (md : Md) (h : Heap) (p : PHeap) (hp : Per p h) (a b : Option Addr) (m n c d : Nat) (xs ys : List By) (A : Strs p a m xs) (B : Strs p b n ys) (hm : m ≤ 2 ^ 60) : CallsX Tryd.prog md 19 #[.slice a m c, .slice b n d] h fun v h' => v = .bool (decide (xs = ys)) ∧ Keep h h' := by
  refine calls_intro (Φ := fun h_ => St h [] p h_ []) Tryd.func19 rfl (tm := [_, _, _, _, _, _, _, _, _, _, _, _, _, _, _, _, _, _, _, _, _, _, _, _, _, _]) rfl ?_ (St.start h _ hp)
  intro c₀ cs Stop K
  refine fl_seq ?_
  refine rl_start ?_
  refine rl_det (met_none rfl) (fun h_ H_ => exd_assign (v := .bool (false)) rfl) rfl ?_
  refine rl_end ?_
  refine fl_seq ?_
  refine fl_seq ?_
  refine rl_start ?_
  refine rl_det (met_none rfl) (fun h_ H_ => exd_move (v := .slice a m c) rfl) rfl ?_
  refine rl_det (met_none rfl) (fun h_ H_ => exd_len Tryd.underlying22 rfl) (tm' := _::_::_::_::_::_::_::_::_) rfl ?_
  refine rl_det (met_none rfl) (fun h_ H_ => exd_move (v := .slice b n d) rfl) rfl ?_
  refine rl_det (met_none rfl) (fun h_ H_ => exd_len Tryd.underlying22 rfl) rfl ?_
  refine rl_det (met_none rfl) (fun h_ H_ => exd_neq rfl rfl) (tm' := _::_::_::_::_::_::_::_::_::_::_::_) rfl ?_
  refine rl_end ?_
  by_cases cc1 : ((m : Nat) : Int) ≠ ((n : Nat) : Int)
  · refine fl_then rfl (decide_eq_true cc1) ?_
    refine fl_seq ?_
    refine rl_start ?_
    refine rl_det (met_none rfl) (fun h_ H_ => exd_assign (v := .bool (false)) rfl) rfl ?_
    refine rl_end ?_
    refine fl_ret Tryd.func19 rfl (vs := [.bool (false)]) (fun h_ H_ => ⟨.bool (false), _, rfl, rfl, rfl⟩) (v := .bool (false)) rfl ?_
    have l1 := A.len
    have l2 := B.len
    exact fun h_ H_ => K _ _ ⟨by first | rw [decide_eq_false (fun e => by subst e; omega)] | rw [decide_eq_true (gext (by omega) (fun i hi => hs i (by omega)))] | rw [decide_eq_false (fun e => ‹¬ _› (by rw [e]))], H_.kept⟩
  · refine fl_else rfl (decide_eq_false cc1) ?_
    refine fl_skip ?_
    refine fl_seq ?_
    refine fl_seq ?_
    refine rl_start ?_
    refine rl_det (met_none rfl) (fun h_ H_ => exd_assign (v := .int .i64 0) rfl) rfl ?_
    refine rl_end ?_
    refine fl_block ?_
    refine fl_loop (m₀ := m - 0) (fun m_ tm_ h_ => ∃ (k : Nat), m_ = m - k ∧ (∃ y2 : Nat → Value, tm_ = [.slice a m c, .slice b n d, undef, undef, (y2 4), .int .i64 (((k : Nat) : Int)), .slice a m c, .int .i64 (((m : Nat) : Int)), .slice b n d, .int .i64 (((n : Nat) : Int)), .bool (decide (((m : Nat) : Int) ≠ ((n : Nat) : Int))), (y2 11), (y2 12), (y2 13), (y2 14), (y2 15), (y2 16), (y2 17), (y2 18), (y2 19), (y2 20), (y2 21), (y2 22), (y2 23), (y2 24), (y2 25)]) ∧ (k ≤ m) ∧ (∀ i, i < k → xs.getD i [] = ys.getD i []) ∧ St h [] p h_ ([])) (fun h_ H_ => ⟨0, rfl, (y_of rfl), Nat.zero_le _, (fun i hi => absurd hi (Nat.not_lt_zero i)), H_⟩) ?_
    intro m_ tm_ IH3
    refine rs_ex fun k => rs_and fun hm_ => rs_and fun ht_ => rs_and fun hk => rs_and fun hs => ?_
    subst hm_; obtain ⟨y2, ht_⟩ := ht_; subst ht_
    refine fl_seq ?_
    refine fl_seq ?_
    refine rl_start ?_
    refine rl_det (met_none rfl) (fun h_ H_ => exd_move (v := .int .i64 (((k : Nat) : Int))) rfl) (tm' := _::_::_::_::_::_::_::_::_::_::_::_::_) rfl ?_
    refine rl_det (met_none rfl) (fun h_ H_ => exd_move (v := .slice a m c) rfl) rfl ?_
    refine rl_det (met_none rfl) (fun h_ H_ => exd_len Tryd.underlying22 rfl) rfl ?_
    refine rl_det (met_none rfl) (fun h_ H_ => exd_lss rfl rfl) (tm' := _::_::_::_::_::_::_::_::_::_::_::_::_::_::_::_) rfl ?_
    refine rl_end ?_
    by_cases cc4 : ((k : Nat) : Int) < ((m : Nat) : Int)
    · refine fl_then rfl (decide_eq_true cc4) ?_
      refine fl_skip ?_
      refine fl_seq ?_
      refine fl_block ?_
      refine fl_seq ?_
      refine fl_drawn2 8 [[], [], [0, 1], [0, 1, 2], [], [], [4, 5], [4, 5, 6], []] mixed (by kernel_rfl) (Nat.le_of_ble_eq_true rfl) ?_
      refine swr_det (met_none rfl) (fun h_ H_ => exd_move (v := .slice a m c) rfl) (tm' := [_,_,_,_,_,_,_,_,_,_,_,_,_,_,_,_,_,_,_,_,_,_,_,_,_,_]) rfl ?_
      refine swr_det (met_none rfl) (fun h_ H_ => exd_move (v := .int .i64 (((k : Nat) : Int))) rfl) rfl ?_
      refine swr_det (met_none rfl) (fun h_ H_ => exd_indexAddrN (i := k) Tryd.underlying22 tS9 (sl_ne a m c (A.ne (by omega))) rfl (by omega)) (tm' := [_,_,_,_,_,_,_,_,_,_,_,_,_,_,_,_,_,_,_,_,_,_,_,_,_,_]) rfl ?_
      refine swr_det (met_none rfl) (fun h_ H_ => exd_load_per H_ tA9 rfl (v := sv (xs.getD k [])) (A.get (by omega))) rfl ?_
      refine swr_det (met_none rfl) (fun h_ H_ => exd_move (v := .slice b n d) rfl) (tm' := [_,_,_,_,_,_,_,_,_,_,_,_,_,_,_,_,_,_,_,_,_,_,_,_,_,_]) rfl ?_
      refine swr_det (met_none rfl) (fun h_ H_ => exd_move (v := .int .i64 (((k : Nat) : Int))) rfl) rfl ?_
      refine swr_det (met_none rfl) (fun h_ H_ => exd_indexAddrN (i := k) Tryd.underlying22 tS9 (sl_ne b n d (B.ne (by omega))) rfl (by omega)) (tm' := [_,_,_,_,_,_,_,_,_,_,_,_,_,_,_,_,_,_,_,_,_,_,_,_,_,_]) rfl ?_
      refine swr_det (met_none rfl) (fun h_ H_ => exd_load_per H_ tA9 rfl (v := sv (ys.getD k [])) (B.get (by omega))) rfl ?_
      refine swr_nil rfl ?_
      refine rl_det (met_none rfl) (fun h_ H_ => exd_neqS (l := xs.getD k []) (m := ys.getD k []) rfl rfl) (tm' := [_,_,_,_,_,_,_,_,_,_,_,_,_,_,_,_,_,_,_,_,_,_,_,_,_,_]) rfl ?_
      refine rl_end ?_
      by_cases cc5 : xs.getD k [] = ys.getD k []
      · refine fl_else rfl (not_f (decide_eq_true cc5)) ?_
        refine fl_skip ?_
        refine fl_inBlock ?_
        refine rl_start ?_
        refine rl_det (met_none rfl) (fun h_ H_ => exd_move (v := .int .i64 (((k : Nat) : Int))) rfl) rfl ?_
        refine rl_det (met_none rfl) (fun h_ H_ => exd_add rfl rfl (n := ((k + 1 : Nat) : Int)) (wr (by omega))) rfl ?_
        refine rl_det (met_none rfl) (fun h_ H_ => exd_assign (v := .int .i64 (((k + 1 : Nat) : Int))) rfl) (tm' := _::_::_::_::_::_::_) rfl ?_
        refine rl_end ?_
        exact fun h_ H_ => IH3 _ _ (by omega) h_ ⟨k + 1, rfl, (y_of rfl), (by omega), (gstep hs (by assumption)), H_⟩
      · refine fl_then rfl (not_t (decide_eq_false cc5)) ?_
        refine fl_seq ?_
        refine rl_start ?_
        refine rl_det (met_none rfl) (fun h_ H_ => exd_assign (v := .bool (false)) rfl) rfl ?_
        refine rl_end ?_
        refine fl_ret Tryd.func19 rfl (vs := [.bool (false)]) (fun h_ H_ => ⟨.bool (false), _, rfl, rfl, rfl⟩) (v := .bool (false)) rfl ?_
        have l1 := A.len
        have l2 := B.len
        exact fun h_ H_ => K _ _ ⟨by first | rw [decide_eq_false (fun e => by subst e; omega)] | rw [decide_eq_true (gext (by omega) (fun i hi => hs i (by omega)))] | rw [decide_eq_false (fun e => ‹¬ _› (by rw [e]))], H_.kept⟩
    · refine fl_else rfl (decide_eq_false cc4) ?_
      refine fl_exit rfl ?_
      refine fl_seq ?_
      refine rl_start ?_
      refine rl_det (met_none rfl) (fun h_ H_ => exd_assign (v := .bool (true)) rfl) rfl ?_
      refine rl_end ?_
      refine fl_ret Tryd.func19 rfl (vs := [.bool (true)]) (fun h_ H_ => ⟨.bool (true), _, rfl, rfl, rfl⟩) (v := .bool (true)) rfl ?_
      have l1 := A.len
      have l2 := B.len
      exact fun h_ H_ => K _ _ ⟨by first | rw [decide_eq_false (fun e => by subst e; omega)] | rw [decide_eq_true (gext (by omega) (fun i hi => hs i (by omega)))] | rw [decide_eq_false (fun e => ‹¬ _› (by rw [e]))], H_.kept⟩
theorem c68 (md : Md) (h : Heap) (t : By) (hn : t.length ≤ 2 ^ 60) : CallsX Tryd.prog md 68 #[sv t] h fun v h' => v = .bool (decide (isText t)) ∧ Keep h h' := by
  refine calls_intro (Φ := fun h_ => St h [] (fun _ => none) h_ []) Tryd.func68 rfl (tm := [_, _, _, _, _, _, _, _, _, _, _, _, _, _, _, _, _, _, _, _, _, _, _]) rfl ?_ (St.start h _ (fun _ _ e => by cases e))
  intro c₀ cs Stop K
  refine fl_seq ?_
  refine rl_start ?_
  refine rl_det (met_none rfl) (fun h_ H_ => exd_assign (v := .bool (false)) rfl) (tm' := _::_::_::_) rfl ?_
  refine rl_end ?_
  refine fl_seq ?_
  refine fl_seq ?_
  refine rl_start ?_
  refine rl_det (met_none rfl) (fun h_ H_ => exd_move (v := sv t) rfl) rfl ?_
  refine rl_det (met_none rfl) (fun h_ H_ => exd_lenS (l := t) Tryd.underlying9 rfl) rfl ?_
  refine rl_det (met_none rfl) (fun h_ H_ => exd_gtr rfl rfl) (tm' := _::_::_::_::_::_::_::_) rfl ?_
  refine rl_end ?_
  by_cases cc1 : 40 < ((t.length : Nat) : Int)
  · refine fl_then rfl (decide_eq_true cc1) ?_
    refine fl_seq ?_
    refine rl_start ?_
    refine rl_det (met_none rfl) (fun h_ H_ => exd_assign (v := .bool (false)) rfl) rfl ?_
    refine rl_end ?_
    refine fl_ret Tryd.func68 rfl (vs := [.bool (false)]) (fun h_ H_ => ⟨.bool (false), _, rfl, rfl, rfl⟩) (v := .bool (false)) rfl ?_
    exact fun h_ H_ => K _ _ ⟨by first | rw [decide_eq_false (text_len ‹_›)] | rw [decide_eq_false (text_low (k := k) (by omega) ‹_›)] | rw [decide_eq_false (text_high (k := k) (by omega) ‹_›)] | rw [decide_eq_true (text_yes (by omega) ‹_› hs)], H_.kept⟩
  · refine fl_else rfl (decide_eq_false cc1) ?_
    refine fl_skip ?_
    refine fl_seq ?_
    refine fl_seq ?_
    refine rl_start ?_
    refine rl_det (met_none rfl) (fun h_ H_ => exd_assign (v := .int .i64 0) rfl) rfl ?_
    refine rl_end ?_
    refine fl_block ?_
    refine fl_loop (m₀ := t.length - 0) (fun m_ tm_ h_ => ∃ (k : Nat), m_ = t.length - k ∧ (∃ y2 : Nat → Value, tm_ = [sv t, undef, (y2 2), .int .i64 (((k : Nat) : Int)), sv t, .int .i64 (((t.length : Nat) : Int)), .bool (decide (40 < ((t.length : Nat) : Int))), (y2 7), (y2 8), (y2 9), (y2 10), (y2 11), (y2 12), (y2 13), (y2 14), (y2 15), (y2 16), (y2 17), (y2 18), (y2 19), (y2 20), (y2 21), (y2 22)]) ∧ (k ≤ t.length) ∧ (∀ i, i < k → 32 ≤ (t.getD i 0).toNat ∧ (t.getD i 0).toNat ≤ 125) ∧ St h [] (fun _ => none) h_ ([])) (fun h_ H_ => ⟨0, rfl, (y_of rfl), Nat.zero_le _, (fun i hi => absurd hi (Nat.not_lt_zero i)), H_⟩) ?_
    intro m_ tm_ IH3
    refine rs_ex fun k => rs_and fun hm_ => rs_and fun ht_ => rs_and fun hk => rs_and fun hs => ?_
    subst hm_; obtain ⟨y2, ht_⟩ := ht_; subst ht_
    refine fl_seq ?_
    refine fl_seq ?_
    refine rl_start ?_
    refine rl_det (met_none rfl) (fun h_ H_ => exd_move (v := .int .i64 (((k : Nat) : Int))) rfl) (tm' := _::_::_::_::_::_::_::_::_) rfl ?_
    refine rl_det (met_none rfl) (fun h_ H_ => exd_move (v := sv t) rfl) rfl ?_
    refine rl_det (met_none rfl) (fun h_ H_ => exd_lenS (l := t) Tryd.underlying9 rfl) rfl ?_
    refine rl_det (met_none rfl) (fun h_ H_ => exd_lss rfl rfl) (tm' := _::_::_::_::_::_::_::_::_::_::_::_) rfl ?_
    refine rl_end ?_
    by_cases cc4 : ((k : Nat) : Int) < ((t.length : Nat) : Int)
    · refine fl_then rfl (decide_eq_true cc4) ?_
      refine fl_skip ?_
      refine fl_seq ?_
      refine fl_block ?_
      refine fl_seq ?_
      refine rl_start ?_
      refine rl_det (met_none rfl) (fun h_ H_ => exd_move (v := sv t) rfl) rfl ?_
      refine rl_det (met_none rfl) (fun h_ H_ => exd_move (v := .int .i64 (((k : Nat) : Int))) rfl) rfl ?_
      refine rl_det (met_none rfl) (fun h_ H_ => exd_indexSN (l := t) (i := k) Tryd.underlying9 rfl rfl (by omega)) (tm' := [_,_,_,_,_,_,_,_,_,_,_,_,_,_,_,_,_,_,_,_,_,_,_]) rfl ?_
      refine rl_det (met_none rfl) (fun h_ H_ => exd_lss rfl rfl) rfl ?_
      refine rl_det (met_none rfl) (fun h_ H_ => exd_move (v := .bool (decide ((((t.getD k 0).toNat : Nat) : Int) < 32))) rfl) rfl ?_
      by_cases cc5 : (((t.getD k 0).toNat : Nat) : Int) < 32
      · refine rl_pass (met_not rfl rfl (decide_eq_true cc5)) (tm' := [_,_,_,_,_,_,_,_,_,_,_,_,_,_,_,_,_,_,_,_,_,_,_]) rfl ?_
        refine rl_pass (met_not rfl rfl (decide_eq_true cc5)) rfl ?_
        refine rl_pass (met_not rfl rfl (decide_eq_true cc5)) rfl ?_
        refine rl_pass (met_not rfl rfl (decide_eq_true cc5)) (tm' := [_,_,_,_,_,_,_,_,_,_,_,_,_,_,_,_,_,_,_,_,_,_,_]) rfl ?_
        refine rl_det (met_none rfl) (fun h_ H_ => exd_pick_t rfl (decide_eq_true cc5) (v := .bool (true)) rfl) rfl ?_
        refine rl_end ?_
        refine fl_then rfl rfl ?_
        refine fl_seq ?_
        refine rl_start ?_
        refine rl_det (met_none rfl) (fun h_ H_ => exd_assign (v := .bool (false)) rfl) rfl ?_
        refine rl_end ?_
        refine fl_ret Tryd.func68 rfl (vs := [.bool (false)]) (fun h_ H_ => ⟨.bool (false), _, rfl, rfl, rfl⟩) (v := .bool (false)) rfl ?_
        exact fun h_ H_ => K _ _ ⟨by first | rw [decide_eq_false (text_len ‹_›)] | rw [decide_eq_false (text_low (k := k) (by omega) ‹_›)] | rw [decide_eq_false (text_high (k := k) (by omega) ‹_›)] | rw [decide_eq_true (text_yes (by omega) ‹_› hs)], H_.kept⟩
      · refine rl_det (met_some rfl rfl (decide_eq_false cc5)) (fun h_ H_ => exd_move (v := sv t) rfl) (tm' := [_,_,_,_,_,_,_,_,_,_,_,_,_,_,_,_,_,_,_,_,_,_,_]) rfl ?_
        refine rl_det (met_some rfl rfl (decide_eq_false cc5)) (fun h_ H_ => exd_move (v := .int .i64 (((k : Nat) : Int))) rfl) rfl ?_
        refine rl_det (met_some rfl rfl (decide_eq_false cc5)) (fun h_ H_ => exd_indexSN (l := t) (i := k) Tryd.underlying9 rfl rfl (by omega)) rfl ?_
        refine rl_det (met_some rfl rfl (decide_eq_false cc5)) (fun h_ H_ => exd_gtr rfl rfl) (tm' := [_,_,_,_,_,_,_,_,_,_,_,_,_,_,_,_,_,_,_,_,_,_,_]) rfl ?_
        refine rl_det (met_none rfl) (fun h_ H_ => exd_pick_f rfl (decide_eq_false cc5) (v := .bool (decide (125 < (((t.getD k 0).toNat : Nat) : Int)))) rfl) rfl ?_
        refine rl_end ?_
        by_cases cc6 : 125 < (((t.getD k 0).toNat : Nat) : Int)
        · refine fl_then rfl (decide_eq_true cc6) ?_
          refine fl_seq ?_
          refine rl_start ?_
          refine rl_det (met_none rfl) (fun h_ H_ => exd_assign (v := .bool (false)) rfl) rfl ?_
          refine rl_end ?_
          refine fl_ret Tryd.func68 rfl (vs := [.bool (false)]) (fun h_ H_ => ⟨.bool (false), _, rfl, rfl, rfl⟩) (v := .bool (false)) rfl ?_
          exact fun h_ H_ => K _ _ ⟨by first | rw [decide_eq_false (text_len ‹_›)] | rw [decide_eq_false (text_low (k := k) (by omega) ‹_›)] | rw [decide_eq_false (text_high (k := k) (by omega) ‹_›)] | rw [decide_eq_true (text_yes (by omega) ‹_› hs)], H_.kept⟩
        · refine fl_else rfl (decide_eq_false cc6) ?_
          refine fl_skip ?_
          refine fl_inBlock ?_
          refine rl_start ?_
          refine rl_det (met_none rfl) (fun h_ H_ => exd_move (v := .int .i64 (((k : Nat) : Int))) rfl) (tm' := _::_::_::_::_::_::_::_::_::_::_::_::_) rfl ?_
          refine rl_det (met_none rfl) (fun h_ H_ => exd_add rfl rfl (n := ((k + 1 : Nat) : Int)) (wr (by omega))) rfl ?_
          refine rl_det (met_none rfl) (fun h_ H_ => exd_assign (v := .int .i64 (((k + 1 : Nat) : Int))) rfl) rfl ?_
          refine rl_end ?_
          exact fun h_ H_ => IH3 _ _ (by omega) h_ ⟨k + 1, rfl, (y_of rfl), (by omega), (upto_step hs (by omega)), H_⟩
    · refine fl_else rfl (decide_eq_false cc4) ?_
      refine fl_exit rfl ?_
      refine fl_seq ?_
      refine rl_start ?_
      refine rl_det (met_none rfl) (fun h_ H_ => exd_assign (v := .bool (true)) rfl) (tm' := _::_::_::_) rfl ?_
      refine rl_end ?_
      refine fl_ret Tryd.func68 rfl (vs := [.bool (true)]) (fun h_ H_ => ⟨.bool (true), _, rfl, rfl, rfl⟩) (v := .bool (true)) rfl ?_
      exact fun h_ H_ => K _ _ ⟨by first | rw [decide_eq_false (text_len ‹_›)] | rw [decide_eq_false (text_low (k := k) (by omega) ‹_›)] | rw [decide_eq_false (text_high (k := k) (by omega) ‹_›)] | rw [decide_eq_true (text_yes (by omega) ‹_› hs)], H_.kept⟩
end Go.Proofs.YtiinpnlfdeiloaaDoor
namespace Go.Proofs.YtiinpnlfdeiloaaDoor
open Go.X Go.X.Cent Go.Conc
set_option maxRecDepth 10000

theorem c76 (h : Heap) (t : By) (hn : t.length ≤ 2 ^ 60) : CallsX Tryd.prog .lone 76 #[sv t] h fun v h' => v = .bool (decide (isText t)) ∧ Keep h h' := by
  refine calls_intro (Φ := fun h_ => St h [] (fun _ => none) h_ []) Tryd.func76 rfl (tm := [_, _, _, _, _, _, _, _, _, _, _, _, _, _, _, _, _, _, _, _, _, _]) rfl ?_ (St.start h _ (fun _ _ e => by cases e))
  intro c₀ cs Stop K
  refine fl_seq ?_
  refine rl_start ?_
  refine rl_det (met_none rfl) (fun h_ H_ => exd_assign (v := .bool (false)) rfl) rfl ?_
  refine rl_end ?_
  refine fl_seq ?_
  refine fl_seq ?_
  refine rl_start ?_
  refine rl_det (met_none rfl) (fun h_ H_ => exd_move (v := sv t) rfl) rfl ?_
  refine rl_bytesP (met_none rfl) Tryd.underlying9 Tryd.underlying37 Tryd.underlying5 (l := t) rfl fun p1 a2 cp3 le4 D5 _ => ?_
  refine rl_norm (tm' := _::_::_::_::_::_::_::_) rfl ?_
  refine rl_det (met_none rfl) (fun h_ H_ => exd_len Tryd.underlying37 rfl) rfl ?_
  refine rl_det (met_none rfl) (fun h_ H_ => exd_move (v := .int .i64 0) rfl) rfl ?_
  refine rl_end ?_
  refine fl_block ?_
  refine fl_loop (m₀ := t.length - 0) (fun m_ tm_ h_ => ∃ (k : Nat), m_ = t.length - k ∧ (∃ y6 : Nat → Value, tm_ = [sv t, undef, (y6 2), undef, (y6 4), sv t, .slice a2 t.length cp3, .int .i64 (((t.length : Nat) : Int)), .int .i64 (((k : Nat) : Int)), (y6 9), (y6 10), (y6 11), (y6 12), (y6 13), (y6 14), (y6 15), (y6 16), (y6 17), (y6 18), undef, undef, undef]) ∧ (k ≤ t.length) ∧ (∀ i, i < k → 32 ≤ (t.getD i 0).toNat ∧ (t.getD i 0).toNat ≤ 125) ∧ St h [] p1 h_ ([])) (fun h_ H_ => ⟨0, rfl, (y_of rfl), Nat.zero_le _, (fun i hi => absurd hi (Nat.not_lt_zero i)), H_⟩) ?_
  intro m_ tm_ IH7
  refine rs_ex fun k => rs_and fun hm_ => rs_and fun ht_ => rs_and fun hk => rs_and fun hs => ?_
  subst hm_; obtain ⟨y6, ht_⟩ := ht_; subst ht_
  refine fl_seq ?_
  refine rl_start ?_
  refine rl_det (met_none rfl) (fun h_ H_ => exd_lss rfl rfl) (tm' := _::_::_::_::_::_::_::_::_::_::_) rfl ?_
  refine rl_end ?_
  refine fl_seq ?_
  by_cases cc8 : ((k : Nat) : Int) < ((t.length : Nat) : Int)
  · refine fl_then rfl (decide_eq_true cc8) ?_
    refine fl_skip ?_
    refine fl_seq ?_
    refine fl_block ?_
    refine fl_seq ?_
    refine rl_start ?_
    refine rl_det (met_none rfl) (fun h_ H_ => exd_indexAddrN (i := k) Tryd.underlying37 tS5 (sl_ne a2 t.length cp3 (D5.ne (by omega))) rfl (by omega)) rfl ?_
    refine rl_det (met_none rfl) (fun h_ H_ => exd_load_per H_ tA5 rfl (v := .int .u8 ((((t.getD k 0).toNat : Nat) : Int))) (D5.get (by omega))) rfl ?_
    refine rl_det (met_none rfl) (fun h_ H_ => exd_assign (v := .int .u8 ((((t.getD k 0).toNat : Nat) : Int))) rfl) (tm' := _::_::_::_::_::_) rfl ?_
    refine rl_end ?_
    refine fl_seq ?_
    refine rl_start ?_
    refine rl_det (met_none rfl) (fun h_ H_ => exd_move (v := .int .u8 ((((t.getD k 0).toNat : Nat) : Int))) rfl) rfl ?_
    refine rl_det (met_none rfl) (fun h_ H_ => exd_lss rfl rfl) rfl ?_
    refine rl_det (met_none rfl) (fun h_ H_ => exd_move (v := .bool (decide ((((t.getD k 0).toNat : Nat) : Int) < 32))) rfl) (tm' := [_,_,_,_,_,_,_,_,_,_,_,_,_,_,_,_,_,_,_,_,_,_]) rfl ?_
    by_cases cc9 : (((t.getD k 0).toNat : Nat) : Int) < 32
    · refine rl_pass (met_not rfl rfl (decide_eq_true cc9)) rfl ?_
      refine rl_pass (met_not rfl rfl (decide_eq_true cc9)) rfl ?_
      refine rl_det (met_none rfl) (fun h_ H_ => exd_pick_t rfl (decide_eq_true cc9) (v := .bool (true)) rfl) (tm' := [_,_,_,_,_,_,_,_,_,_,_,_,_,_,_,_,_,_,_,_,_,_]) rfl ?_
      refine rl_end ?_
      refine fl_then rfl rfl ?_
      refine fl_seq ?_
      refine rl_start ?_
      refine rl_det (met_none rfl) (fun h_ H_ => exd_assign (v := .bool (false)) rfl) rfl ?_
      refine rl_end ?_
      refine fl_ret Tryd.func76 rfl (vs := [.bool (false)]) (fun h_ H_ => ⟨.bool (false), _, rfl, rfl, rfl⟩) (v := .bool (false)) rfl ?_
      exact fun h_ H_ => K _ _ ⟨by first | rw [decide_eq_false (text_low (k := k) (by omega) ‹_›)] | rw [decide_eq_false (text_high (k := k) (by omega) ‹_›)] | rw [text_end (by omega) hs], H_.kept⟩
    · refine rl_det (met_some rfl rfl (decide_eq_false cc9)) (fun h_ H_ => exd_move (v := .int .u8 ((((t.getD k 0).toNat : Nat) : Int))) rfl) rfl ?_
      refine rl_det (met_some rfl rfl (decide_eq_false cc9)) (fun h_ H_ => exd_gtr rfl rfl) (tm' := [_,_,_,_,_,_,_,_,_,_,_,_,_,_,_,_,_,_,_,_,_,_]) rfl ?_
      refine rl_det (met_none rfl) (fun h_ H_ => exd_pick_f rfl (decide_eq_false cc9) (v := .bool (decide (125 < (((t.getD k 0).toNat : Nat) : Int)))) rfl) rfl ?_
      refine rl_end ?_
      by_cases cc10 : 125 < (((t.getD k 0).toNat : Nat) : Int)
      · refine fl_then rfl (decide_eq_true cc10) ?_
        refine fl_seq ?_
        refine rl_start ?_
        refine rl_det (met_none rfl) (fun h_ H_ => exd_assign (v := .bool (false)) rfl) rfl ?_
        refine rl_end ?_
        refine fl_ret Tryd.func76 rfl (vs := [.bool (false)]) (fun h_ H_ => ⟨.bool (false), _, rfl, rfl, rfl⟩) (v := .bool (false)) rfl ?_
        exact fun h_ H_ => K _ _ ⟨by first | rw [decide_eq_false (text_low (k := k) (by omega) ‹_›)] | rw [decide_eq_false (text_high (k := k) (by omega) ‹_›)] | rw [text_end (by omega) hs], H_.kept⟩
      · refine fl_else rfl (decide_eq_false cc10) ?_
        refine fl_skip ?_
        refine fl_inBlock ?_
        refine rl_start ?_
        refine rl_det (met_none rfl) (fun h_ H_ => exd_add rfl rfl (n := ((k + 1 : Nat) : Int)) (wr (by omega))) (tm' := [_,_,_,_,_,_,_,_,_,_,_,_,_,_,_,_,_,_,_,_,_,_]) rfl ?_
        refine rl_det (met_none rfl) (fun h_ H_ => exd_move (v := .int .i64 (((k + 1 : Nat) : Int))) rfl) rfl ?_
        refine rl_end ?_
        exact fun h_ H_ => IH7 _ _ (by omega) h_ ⟨k + 1, rfl, (y_of rfl), (by omega), (upto_step hs (by omega)), H_⟩
  · refine fl_else rfl (decide_eq_false cc8) ?_
    refine fl_exit rfl ?_
    refine fl_seq ?_
    refine rl_start ?_
    refine rl_det (met_none rfl) (fun h_ H_ => exd_move (v := sv t) rfl) rfl ?_
    refine rl_det (met_none rfl) (fun h_ H_ => exd_lenS (l := t) Tryd.underlying9 rfl) (tm' := [_,_,_,_,_,_,_,_,_,_,_,_,_,_,_,_,_,_,_,_,_,_]) rfl ?_
    refine rl_det (met_none rfl) (fun h_ H_ => exd_leq rfl rfl) rfl ?_
    refine rl_det (met_none rfl) (fun h_ H_ => exd_assign (v := .bool (decide (((t.length : Nat) : Int) ≤ 40))) rfl) rfl ?_
    refine rl_end ?_
    refine fl_ret Tryd.func76 rfl (vs := [.bool (decide (((t.length : Nat) : Int) ≤ 40))]) (fun h_ H_ => ⟨.bool (decide (((t.length : Nat) : Int) ≤ 40)), _, rfl, rfl, rfl⟩) (v := .bool (decide (((t.length : Nat) : Int) ≤ 40))) rfl ?_
    exact fun h_ H_ => K _ _ ⟨by first | rw [decide_eq_false (text_low (k := k) (by omega) ‹_›)] | rw [decide_eq_false (text_high (k := k) (by omega) ‹_›)] | rw [text_end (by omega) hs], H_.kept⟩
end Go.Proofs.YtiinpnlfdeiloaaDoor
namespace Go.Proofs.YtiinpnlfdeiloaaDoor
open Go.X Go.X.Cent Go.Conc
set_option maxRecDepth 10000

theorem c75 (h : Heap) (t : By) (ht : t.length ≤ 2 ^ 60) : CallsX Tryd.prog .lone 75 #[sv t] h fun v h' => v = .bool (badT t) ∧ Keep h h' := by
  refine calls_intro (Φ := fun h_ => St h [] (fun _ => none) h_ []) Tryd.func75 rfl (tm := [_, _, _, _, _, _]) rfl ?_ (St.start h _ (fun _ _ e => by cases e))
  intro c₀ cs Stop K
  refine fl_seq ?_
  refine rl_start ?_
  refine rl_det (met_none rfl) (fun h_ H_ => exd_assign (v := .bool (false)) rfl) rfl ?_
  refine rl_end ?_
  refine fl_seq ?_
  refine rl_start ?_
  refine rl_det (met_none rfl) (fun h_ H_ => exd_move (v := sv t) rfl) rfl ?_
  refine rl_calld (met_none rfl) (first := []) (cap := []) rfl rfl fC76 (fun h_ H_ => c76 _ t (by omega)) (tm' := [_,_,_,_,_,_]) rfl ?_
  refine rl_det (met_none rfl) (fun h_ H_ => exd_not rfl) rfl ?_
  refine rl_det (met_none rfl) (fun h_ H_ => exd_assign (v := .bool (!(decide (isText t)))) rfl) rfl ?_
  refine rl_end ?_
  refine fl_ret Tryd.func75 rfl (vs := [.bool (!(decide (isText t)))]) (fun h_ H_ => ⟨.bool (!(decide (isText t))), _, rfl, rfl, rfl⟩) (v := .bool (!(decide (isText t)))) rfl ?_
  exact fun h_ H_ => K _ _ ⟨rfl, H_.kept⟩
theorem c93 (h : Heap) (p : PHeap) (hp : Per p h) (fv : Value) (a : Option Addr) (n c : Nat) (ts : List By) (T : Strs p a n ts) (hn : n ≤ 2 ^ 60) (q : By → Bool) (hf : ∀ h, Per p h → ∀ i, i < n → CallV Tryd.prog .lone fv [sv (ts.getD i [])] h fun v h' => v = .bool (q (ts.getD i [])) ∧ Keep h h') : CallsX Tryd.prog .lone 93 #[.slice a n c, fv] h fun v h' => v = .int .i64 (idxT q ts) ∧ Keep h h' := by
  refine calls_intro (Φ := fun h_ => St h [] p h_ []) Tryd.func93 rfl (tm := [_, _, _, _, _, _, _, _, _, _, _, _, _, _, _, _, _, _, _]) rfl ?_ (St.start h _ hp)
  intro c₀ cs Stop K
  refine fl_seq ?_
  refine rl_start ?_
  refine rl_det (met_none rfl) (fun h_ H_ => exd_assign (v := .int .i64 0) rfl) (tm' := _::_::_::_::_::_) rfl ?_
  refine rl_end ?_
  refine fl_seq ?_
  refine fl_seq ?_
  refine rl_start ?_
  refine rl_det (met_none rfl) (fun h_ H_ => exd_move (v := .slice a n c) rfl) rfl ?_
  refine rl_det (met_none rfl) (fun h_ H_ => exd_len Tryd.underlying22 rfl) rfl ?_
  refine rl_det (met_none rfl) (fun h_ H_ => exd_move (v := .int .i64 0) rfl) (tm' := _::_::_::_::_::_::_::_::_::_) rfl ?_
  refine rl_end ?_
  refine fl_block ?_
  refine fl_loop (m₀ := n - 0) (fun m_ tm_ h_ => ∃ (k : Nat), m_ = n - k ∧ (∃ y1 : Nat → Value, tm_ = [.slice a n c, fv, undef, undef, (y1 4), (y1 5), .slice a n c, .int .i64 (((n : Nat) : Int)), .int .i64 (((k : Nat) : Int)), (y1 9), (y1 10), (y1 11), (y1 12), (y1 13), (y1 14), (y1 15), (y1 16), (y1 17), (y1 18)]) ∧ (k ≤ n) ∧ (∀ i, i < k → q (ts.getD i []) = false) ∧ St h [] p h_ ([])) (fun h_ H_ => ⟨0, rfl, (y_of rfl), Nat.zero_le _, (fun i hi => absurd hi (Nat.not_lt_zero i)), H_⟩) ?_
  intro m_ tm_ IH2
  refine rs_ex fun k => rs_and fun hm_ => rs_and fun ht_ => rs_and fun hk => rs_and fun hs => ?_
  subst hm_; obtain ⟨y1, ht_⟩ := ht_; subst ht_
  refine fl_seq ?_
  refine rl_start ?_
  refine rl_det (met_none rfl) (fun h_ H_ => exd_lss rfl rfl) rfl ?_
  refine rl_end ?_
  refine fl_seq ?_
  by_cases cc3 : ((k : Nat) : Int) < ((n : Nat) : Int)
  · refine fl_then rfl (decide_eq_true cc3) ?_
    refine fl_skip ?_
    refine fl_seq ?_
    refine fl_block ?_
    refine fl_seq ?_
    refine rl_start ?_
    refine rl_det (met_none rfl) (fun h_ H_ => exd_move (v := .int .i64 (((k : Nat) : Int))) rfl) rfl ?_
    refine rl_det (met_none rfl) (fun h_ H_ => exd_assign (v := .int .i64 (((k : Nat) : Int))) rfl) (tm' := _::_::_::_::_::_::_) rfl ?_
    refine rl_end ?_
    refine fl_seq ?_
    refine rl_start ?_
    refine rl_det (met_none rfl) (fun h_ H_ => exd_move (v := fv) rfl) rfl ?_
    refine rl_det (met_none rfl) (fun h_ H_ => exd_move (v := .slice a n c) rfl) rfl ?_
    refine rl_det (met_none rfl) (fun h_ H_ => exd_move (v := .int .i64 (((k : Nat) : Int))) rfl) (tm' := [_,_,_,_,_,_,_,_,_,_,_,_,_,_,_,_,_,_,_]) rfl ?_
    refine rl_det (met_none rfl) (fun h_ H_ => exd_indexAddrN (i := k) Tryd.underlying22 tS9 (sl_ne a n c (T.ne (by omega))) rfl (by omega)) rfl ?_
    refine rl_det (met_none rfl) (fun h_ H_ => exd_load_per H_ tA9 rfl (v := sv (ts.getD k [])) (T.get (by omega))) rfl ?_
    refine rl_callvd (met_none rfl) rfl (vs := [sv (ts.getD k [])]) rfl (fun h_ H_ => hf h_ H_.per k (show k < n by omega)) (tm' := [_,_,_,_,_,_,_,_,_,_,_,_,_,_,_,_,_,_,_]) rfl ?_
    refine rl_end ?_
    rcases bcases ((q (ts.getD k []))) with cc4 | cc4
    · refine fl_then rfl cc4 ?_
      refine fl_seq ?_
      refine rl_start ?_
      refine rl_det (met_none rfl) (fun h_ H_ => exd_move (v := .int .i64 (((k : Nat) : Int))) rfl) rfl ?_
      refine rl_det (met_none rfl) (fun h_ H_ => exd_assign (v := .int .i64 (((k : Nat) : Int))) rfl) rfl ?_
      refine rl_end ?_
      refine fl_ret Tryd.func93 rfl (vs := [.int .i64 (((k : Nat) : Int))]) (fun h_ H_ => ⟨.int .i64 (((k : Nat) : Int)), _, rfl, rfl, rfl⟩) (v := .int .i64 (((k : Nat) : Int))) rfl ?_
      have hl := T.len
      exact fun h_ H_ => K _ _ ⟨by first | (rw [idxT_some (k := k) (by omega) ‹_› hs]) | (rw [idxT_none (fun i hi => hs i (by omega))]), H_.kept⟩
    · refine fl_else rfl cc4 ?_
      refine fl_skip ?_
      refine fl_inBlock ?_
      refine rl_start ?_
      refine rl_det (met_none rfl) (fun h_ H_ => exd_add rfl rfl (n := ((k + 1 : Nat) : Int)) (wr (by omega))) (tm' := [_,_,_,_,_,_,_,_,_,_,_,_,_,_,_,_,_,_,_]) rfl ?_
      refine rl_det (met_none rfl) (fun h_ H_ => exd_move (v := .int .i64 (((k + 1 : Nat) : Int))) rfl) rfl ?_
      refine rl_end ?_
      exact fun h_ H_ => IH2 _ _ (by omega) h_ ⟨k + 1, rfl, (y_of rfl), (by omega), (upto_step hs ‹_›), H_⟩
  · refine fl_else rfl (decide_eq_false cc3) ?_
    refine fl_exit rfl ?_
    refine fl_seq ?_
    refine rl_start ?_
    refine rl_det (met_none rfl) (fun h_ H_ => exd_assign (v := .int .i64 (-1)) rfl) rfl ?_
    refine rl_end ?_
    refine fl_ret Tryd.func93 rfl (vs := [.int .i64 (-1)]) (fun h_ H_ => ⟨.int .i64 (-1), _, rfl, rfl, rfl⟩) (v := .int .i64 (-1)) rfl ?_
    have hl := T.len
    exact fun h_ H_ => K _ _ ⟨by first | (rw [idxT_some (k := k) (by omega) ‹_› hs]) | (rw [idxT_none (fun i hi => hs i (by omega))]), H_.kept⟩
theorem c74 (h : Heap) (p : PHeap) (hp : Per p h) (fv : Value) (a : Option Addr) (n c : Nat) (ts : List By) (T : Strs p a n ts) (hn : n ≤ 2 ^ 60) (q : By → Bool) (hf : ∀ h, Per p h → ∀ i, i < n → CallV Tryd.prog .lone fv [sv (ts.getD i [])] h fun v h' => v = .bool (q (ts.getD i [])) ∧ Keep h h') : CallsX Tryd.prog .lone 74 #[.slice a n c, fv] h fun v h' => v = .bool (decide (0 ≤ idxT q ts)) ∧ Keep h h' := by
  refine calls_intro (Φ := fun h_ => St h [] p h_ []) Tryd.func74 rfl (tm := [_, _, _, _, _, _, _, _, _]) rfl ?_ (St.start h _ hp)
  intro c₀ cs Stop K
  refine fl_seq ?_
  refine rl_start ?_
  refine rl_det (met_none rfl) (fun h_ H_ => exd_assign (v := .bool (false)) rfl) (tm' := _::_::_::_::_::_) rfl ?_
  refine rl_end ?_
  refine fl_seq ?_
  refine rl_start ?_
  refine rl_det (met_none rfl) (fun h_ H_ => exd_move (v := .slice a n c) rfl) rfl ?_
  refine rl_det (met_none rfl) (fun h_ H_ => exd_move (v := fv) rfl) rfl ?_
  refine rl_calld (met_none rfl) (first := []) (cap := []) rfl rfl fC93 (fun h_ H_ => c93 _ _ (fun b_ o_ e_ => H_.per b_ o_ e_) fv _ _ _ _ T (by omega) q hf) (tm' := [_,_,_,_,_,_,_,_,_]) rfl ?_
  refine rl_det (met_none rfl) (fun h_ H_ => exd_geq rfl rfl) rfl ?_
  refine rl_det (met_none rfl) (fun h_ H_ => exd_assign (v := .bool (decide (0 ≤ idxT q ts))) rfl) rfl ?_
  refine rl_end ?_
  refine fl_ret Tryd.func74 rfl (vs := [.bool (decide (0 ≤ idxT q ts))]) (fun h_ H_ => ⟨.bool (decide (0 ≤ idxT q ts)), _, rfl, rfl, rfl⟩) (v := .bool (decide (0 ≤ idxT q ts))) rfl ?_
  exact fun h_ H_ => K _ _ ⟨rfl, H_.kept⟩
theorem c57 (h : Heap) (p : PHeap) (hp : Per p h) (a : Option Addr) (n c : Nat) (ts : List By) (T : Strs p a n ts) (hn : n ≤ 2 ^ 60) (ht : ∀ i, i < n → (ts.getD i []).length ≤ 2 ^ 60) : CallsX Tryd.prog .lone 57 #[.slice a n c] h fun v h' => v = .int .i64 (chkT ts) ∧ Keep h h' := by
  refine calls_intro (Φ := fun h_ => St h [] p h_ []) Tryd.func57 rfl (tm := [_, _, _, _, _, _, _, _]) rfl ?_ (St.start h _ hp)
  intro c₀ cs Stop K
  refine fl_seq ?_
  refine rl_start ?_
  refine rl_det (met_none rfl) (fun h_ H_ => exd_assign (v := .int .i64 0) rfl) (tm' := _::_::_::_) rfl ?_
  refine rl_end ?_
  refine fl_seq ?_
  refine fl_seq ?_
  refine rl_start ?_
  refine rl_det (met_none rfl) (fun h_ H_ => exd_move (v := .slice a n c) rfl) rfl ?_
  refine rl_det (met_none rfl) (fun h_ H_ => exd_len Tryd.underlying22 rfl) rfl ?_
  refine rl_det (met_none rfl) (fun h_ H_ => exd_gtr rfl rfl) (tm' := [_,_,_,_,_,_,_,_]) rfl ?_
  refine rl_end ?_
  by_cases cc1 : 20 < ((n : Nat) : Int)
  · refine fl_then rfl (decide_eq_true cc1) ?_
    refine fl_seq ?_
    refine rl_start ?_
    refine rl_det (met_none rfl) (fun h_ H_ => exd_assign (v := .int .i64 2) rfl) rfl ?_
    refine rl_end ?_
    refine fl_ret Tryd.func57 rfl (vs := [.int .i64 2]) (fun h_ H_ => ⟨.int .i64 2, _, rfl, rfl, rfl⟩) (v := .int .i64 2) rfl ?_
    have hl := T.len
    exact fun h_ H_ => K _ _ ⟨by unfold chkT; first | (rw [if_pos (by omega)]) | (rw [if_neg (by omega), if_pos ‹_›]) | (rw [if_neg (by omega), if_neg ‹_›]), H_.kept⟩
  · refine fl_else rfl (decide_eq_false cc1) ?_
    refine fl_skip ?_
    refine fl_seq ?_
    refine fl_seq ?_
    refine rl_start ?_
    refine rl_det (met_none rfl) (fun h_ H_ => exd_move (v := .slice a n c) rfl) rfl ?_
    refine rl_calld (met_none rfl) (first := []) (cap := []) rfl rfl fC74 (fun h_ H_ => c74 _ _ (fun b_ o_ e_ => H_.per b_ o_ e_) (.func (.func 75) #[] #[]) _ _ _ _ T (by omega) badT (fun h_ hp_ i_ hi_ => callv_of fC75 (c75 _ _ (ht i_ hi_)))) (tm' := [_,_,_,_,_,_,_,_]) rfl ?_
    refine rl_end ?_
    by_cases cc2 : 0 ≤ idxT badT ts
    · refine fl_then rfl (decide_eq_true cc2) ?_
      refine fl_seq ?_
      refine rl_start ?_
      refine rl_det (met_none rfl) (fun h_ H_ => exd_assign (v := .int .i64 1) rfl) rfl ?_
      refine rl_end ?_
      refine fl_ret Tryd.func57 rfl (vs := [.int .i64 1]) (fun h_ H_ => ⟨.int .i64 1, _, rfl, rfl, rfl⟩) (v := .int .i64 1) rfl ?_
      have hl := T.len
      exact fun h_ H_ => K _ _ ⟨by unfold chkT; first | (rw [if_pos (by omega)]) | (rw [if_neg (by omega), if_pos ‹_›]) | (rw [if_neg (by omega), if_neg ‹_›]), H_.kept⟩
    · refine fl_else rfl (decide_eq_false cc2) ?_
      refine fl_skip ?_
      refine fl_seq ?_
      refine rl_start ?_
      refine rl_det (met_none rfl) (fun h_ H_ => exd_assign (v := .int .i64 0) rfl) rfl ?_
      refine rl_end ?_
      refine fl_ret Tryd.func57 rfl (vs := [.int .i64 0]) (fun h_ H_ => ⟨.int .i64 0, _, rfl, rfl, rfl⟩) (v := .int .i64 0) rfl ?_
      have hl := T.len
      exact fun h_ H_ => K _ _ ⟨by unfold chkT; first | (rw [if_pos (by omega)]) | (rw [if_neg (by omega), if_pos ‹_›]) | (rw [if_neg (by omega), if_neg ‹_›]), H_.kept⟩
end Go.Proofs.YtiinpnlfdeiloaaDoor
namespace Go.Proofs.YtiinpnlfdeiloaaDoor
open Go.X Go.X.Cent Go.Conc
set_option maxRecDepth 10000
set_option synthInstance.maxSize 2000
set_option synthInstance.maxHeartbeats 400000

theorem c94 (md : Md) (h h₀ : Heap) (B₀ : List Nat) (p : PHeap) (yv : Value) (bS : Nat) (s : By) (E : List Pie) (X₀ : Pcs) (hs : s.length ≤ 2 ^ 30) (I : List Pie → Pcs → Prop) (hE₀ : encS [[]] s = E) (hI0 : I [] X₀)
    (hy : ∀ out x h A X, out ++ [x] <+: E → I out X → St h₀ B₀ p h (A ++ (X ++ [])) → CallV Tryd.prog md yv [.agg #[.int .i64 x.1, .int .i64 x.2]] h fun v h' => ∃ X', v = .bool true ∧ I (out ++ [x]) X' ∧ St h₀ B₀ p h' (A ++ (X' ++ []))) (s₀ : St h₀ B₀ p h (([(bS, .cells #[sv s] 9 (0, 0))] : Pcs) ++ (X₀ ++ []))) : CallsX Tryd.prog md 94 #[yv, .pointer (some ⟨bS, 0, none⟩)] h fun _ h' => ∃ X', I E X' ∧ St h₀ B₀ p h' X' := by
  refine calls_intro (Φ := fun h_ => St h₀ B₀ p h_ (([(bS, .cells #[sv s] 9 (0, 0))] : Pcs) ++ (X₀ ++ []))) Tryd.func94 rfl (tm := [_, _, _, _, _, _, _, _, _, _, _, _, _, _, _, _, _, _, _, _, _, _, _, _, _, _, _, _, _, _, _, _, _, _, _, _, _, _, _, _, _, _, _, _, _, _, _, _, _, _, _, _, _, _, _, _, _, _, _, _]) rfl ?_ s₀
  intro c₀ cs Stop K
  refine fl_seq ?_
  refine rl_start ?_
  refine rl_makeMap (met_none rfl) fun b1 => rl_own (L' := ([(b1, .map #[] 0), (bS, .cells #[sv s] 9 (0, 0))] : Pcs) ++ (X₀ ++ [])) rfl ?_
  refine rl_mapNew (z := 0) (key := ([] : List UInt8)) (.inr rfl) (met_none rfl) Tryd.underlying103 Tryd.underlying9 (i := 0) rfl MapO.nil rfl rfl rfl rfl fun ob2 o3 => rl_own (L' := ([(b1, ob2), (bS, .cells #[sv s] 9 (0, 0))] : Pcs) ++ (X₀ ++ [])) rfl ?_
  refine rl_det (met_none rfl) (fun h_ H_ => exd_move (v := .map (some b1)) rfl) rfl ?_
  refine rl_det (met_none rfl) (fun h_ H_ => exd_assign (v := .map (some b1)) rfl) (tm' := _::_::_::_::_) rfl ?_
  refine rl_end ?_
  refine fl_block ?_
  refine fl_loop (m₀ := s.length) (fun m_ tm_ h_ => ∃ (ph : List By) (rest : By) (out : List Pie) (X : Pcs) (o : Obj), m_ = rest.length ∧ (∃ y4 : Nat → Value, tm_ = [yv, .pointer (some ⟨bS, 0, none⟩), undef, .map (some b1), (y4 4), (y4 5), (y4 6), (y4 7), .map (some b1), .map (some b1), (y4 10), (y4 11), (y4 12), (y4 13), (y4 14), (y4 15), (y4 16), (y4 17), (y4 18), (y4 19), (y4 20), (y4 21), (y4 22), (y4 23), (y4 24), (y4 25), (y4 26), (y4 27), (y4 28), (y4 29), (y4 30), (y4 31), (y4 32), (y4 33), (y4 34), (y4 35), (y4 36), (y4 37), (y4 38), (y4 39), (y4 40), (y4 41), (y4 42), (y4 43), (y4 44), (y4 45), (y4 46), (y4 47), (y4 48), (y4 49), (y4 50), (y4 51), (y4 52), (y4 53), (y4 54), (y4 55), (y4 56), (y4 57), (y4 58), (y4 59)]) ∧ (out ++ encS ph rest = E) ∧ (Phr ph) ∧ (MapO (mapFrom 0 ph) o) ∧ (I out X) ∧ (rest.length ≤ 2 ^ 30) ∧ St h₀ B₀ p h_ (([(b1, o), (bS, .cells #[sv rest] 9 (0, 0))] : Pcs) ++ (X ++ []))) (fun h_ H_ => ⟨[[]], s, [], X₀, _, rfl, (y_of rfl), hE₀, Phr.one, o3, hI0, hs, H_⟩) ?_
  intro m_ tm_ IH5
  refine rs_ex fun ph => rs_ex fun rest => rs_ex fun out => rs_ex fun X => rs_ex fun o => rs_and fun hm_ => rs_and fun ht_ => rs_and fun hE => rs_and fun hP => rs_and fun hM => rs_and fun hI => rs_and fun hr => ?_
  subst hm_; obtain ⟨y4, ht_⟩ := ht_; subst ht_
  refine fl_seq ?_
  refine fl_seq ?_
  refine rl_start ?_
  refine rl_det (met_none rfl) (fun h_ H_ => exd_load_own H_ tA9 rfl (i := 1) rfl (v := sv rest) rfl) rfl ?_
  refine rl_det (met_none rfl) (fun h_ H_ => exd_neqS (l := rest) (m := ([] : List UInt8)) rfl rfl) rfl ?_
  refine rl_end ?_
  by_cases cc6 : rest = ([] : List UInt8)
  · refine fl_else rfl (not_f (decide_eq_true cc6)) ?_
    refine fl_exit rfl ?_
    refine fl_fall Tryd.func94 rfl (vs := []) (fun h_ H_ => rfl) (v := .tuple #[]) rfl ?_
    have hr0 : rest = [] := ‹rest = []›
    obtain rfl : out = E := by rw [hr0, encS_nil, List.append_nil] at hE; exact hE
    exact fun h_ H_ => K _ _ ⟨_, hI, by simpa using H_.dropA⟩
  · refine fl_then rfl (not_t (decide_eq_false cc6)) ?_
    refine fl_skip ?_
    refine fl_block ?_
    refine fl_seq ?_
    have hne := List.length_pos_iff.2 ‹¬ rest = []›
    refine rl_start ?_
    refine rl_det (met_none rfl) (fun h_ H_ => exd_assign (v := .int .i64 0) rfl) (tm' := _::_::_::_::_::_) rfl ?_
    refine rl_end ?_
    refine fl_seq ?_
    refine fl_block ?_
    refine fl_loop (m₀ := rest.length - 0) (fun m_ tm_ h_ => ∃ (k : Nat), m_ = rest.length - k ∧ (∃ y7 : Nat → Value, tm_ = [yv, .pointer (some ⟨bS, 0, none⟩), undef, .map (some b1), .int .i64 (((k : Nat) : Int)), (y7 5), (y7 6), (y4 7), .map (some b1), .map (some b1), sv rest, .bool (!decide (rest = ([] : List UInt8))), (y7 12), (y7 13), (y7 14), (y7 15), (y7 16), (y7 17), (y7 18), (y7 19), (y7 20), (y7 21), (y7 22), (y7 23), (y7 24), (y7 25), (y7 26), (y7 27), (y7 28), (y4 29), (y4 30), (y4 31), (y4 32), (y4 33), (y4 34), (y4 35), (y4 36), (y4 37), (y4 38), (y4 39), (y4 40), (y4 41), (y4 42), (y4 43), (y4 44), (y4 45), (y4 46), (y4 47), (y4 48), (y4 49), (y4 50), (y4 51), (y4 52), (y4 53), (y4 54), (y4 55), (y4 56), (y4 57), (y4 58), (y4 59)]) ∧ (k ≤ rest.length) ∧ (∀ i, i ≤ k → rest.take i ∈ ph) ∧ St h₀ B₀ p h_ (([(b1, o), (bS, .cells #[sv rest] 9 (0, 0))] : Pcs) ++ (X ++ []))) (fun h_ H_ => ⟨0, rfl, (y_of rfl), Nat.zero_le _, (fun i hi => by obtain rfl : i = 0 := (by omega); simpa using hP.mem), H_⟩) ?_
    intro m_ tm_ IH8
    refine rs_ex fun k => rs_and fun hm_ => rs_and fun ht_ => rs_and fun hk => rs_and fun hpk => ?_
    subst hm_; obtain ⟨y7, ht_⟩ := ht_; subst ht_
    refine fl_seq ?_
    refine fl_seq ?_
    refine rl_start ?_
    refine rl_det (met_none rfl) (fun h_ H_ => exd_move (v := .int .i64 (((k : Nat) : Int))) rfl) rfl ?_
    refine rl_det (met_none rfl) (fun h_ H_ => exd_load_own H_ tA9 rfl (i := 1) rfl (v := sv rest) rfl) rfl ?_
    refine rl_det (met_none rfl) (fun h_ H_ => exd_lenS (l := rest) Tryd.underlying9 rfl) (tm' := _::_::_::_::_::_::_::_::_::_::_::_::_::_::_::_) rfl ?_
    refine rl_det (met_none rfl) (fun h_ H_ => exd_lss rfl rfl) rfl ?_
    refine rl_end ?_
    by_cases cc9 : ((k : Nat) : Int) < ((rest.length : Nat) : Int)
    · refine fl_then rfl (decide_eq_true cc9) ?_
      refine fl_skip ?_
      refine fl_block ?_
      refine fl_seq ?_
      refine fl_seq ?_
      refine rl_start ?_
      refine rl_det (met_none rfl) (fun h_ H_ => exd_move (v := .map (some b1)) rfl) rfl ?_
      refine rl_det (met_none rfl) (fun h_ H_ => exd_load_own H_ tA9 rfl (i := 1) rfl (v := sv rest) rfl) (tm' := _::_::_::_::_::_::_::_::_::_::_::_::_::_::_::_::_::_::_::_) rfl ?_
      refine rl_det (met_none rfl) (fun h_ H_ => exd_move (v := .int .i64 (((k : Nat) : Int))) rfl) rfl ?_
      refine rl_det (met_none rfl) (fun h_ H_ => exd_add rfl rfl (n := ((k + 1 : Nat) : Int)) (wr (by omega))) rfl ?_
      refine rl_det (met_none rfl) (fun h_ H_ => exd_takeS (l := rest) (r := k + 1) Tryd.underlying9 rfl (.nat (z := k + 1) _ rfl) (by omega)) (tm' := _::_::_::_::_::_::_::_::_::_::_::_::_::_::_::_::_::_::_::_::_::_::_) rfl ?_
      refine rl_det (met_none rfl) (fun h_ H_ => exd_lookup H_ (i := 0) rfl hM Tryd.underlying103 Tryd.underlying9 tZ3 rfl rfl (v := .tuple #[.int .i64 ((findM (mapFrom 0 ph) (rest.take (k + 1))).getD 0), .bool ((findM (mapFrom 0 ph) (rest.take (k + 1))).isSome)]) rfl) rfl ?_
      refine rl_det (met_none rfl) (fun h_ H_ => exd_move (v := .tuple #[.int .i64 ((findM (mapFrom 0 ph) (rest.take (k + 1))).getD 0), .bool ((findM (mapFrom 0 ph) (rest.take (k + 1))).isSome)]) rfl) rfl ?_
      refine rl_det (met_none rfl) (fun h_ H_ => exd_extract rfl (v := .int .i64 ((findM (mapFrom 0 ph) (rest.take (k + 1))).getD 0)) rfl) (tm' := _::_::_::_::_::_::_::_::_::_::_::_::_::_::_::_::_::_::_::_::_::_::_::_::_) rfl ?_
      refine rl_det (met_none rfl) (fun h_ H_ => exd_extract rfl (v := .bool ((findM (mapFrom 0 ph) (rest.take (k + 1))).isSome)) rfl) rfl ?_
      refine rl_det (met_none rfl) (fun h_ H_ => exd_assign (v := .int .i64 ((findM (mapFrom 0 ph) (rest.take (k + 1))).getD 0)) rfl) rfl ?_
      refine rl_det (met_none rfl) (fun h_ H_ => exd_assign (v := .bool ((findM (mapFrom 0 ph) (rest.take (k + 1))).isSome)) rfl) (tm' := _::_::_::_::_::_::_::_) rfl ?_
      refine rl_end ?_
      refine fl_seq ?_
      refine rl_start ?_
      refine rl_det (met_none rfl) (fun h_ H_ => exd_move (v := .bool ((findM (mapFrom 0 ph) (rest.take (k + 1))).isSome)) rfl) rfl ?_
      refine rl_det (met_none rfl) (fun h_ H_ => exd_not rfl) rfl ?_
      refine rl_end ?_
      rcases bcases ((findM (mapFrom 0 ph) (rest.take (k + 1))).isSome) with cc10 | cc10
      · refine fl_else rfl (not_f cc10) ?_
        refine fl_skip ?_
        refine rl_start ?_
        refine rl_det (met_none rfl) (fun h_ H_ => exd_move (v := .int .i64 (((k : Nat) : Int))) rfl) (tm' := _::_::_::_::_::_::_::_::_::_::_::_::_::_::_::_::_::_::_::_::_::_::_::_::_::_::_::_::_) rfl ?_
        refine rl_det (met_none rfl) (fun h_ H_ => exd_add rfl rfl (n := ((k + 1 : Nat) : Int)) (wr (by omega))) rfl ?_
        refine rl_det (met_none rfl) (fun h_ H_ => exd_assign (v := .int .i64 (((k + 1 : Nat) : Int))) rfl) rfl ?_
        refine rl_end ?_
        refine fl_inBlock ?_
        exact fun h_ H_ => IH8 _ _ (by omega) h_ ⟨k + 1, rfl, (y_of rfl), (by omega), (upto_mem hpk (nfS ‹_›)), H_⟩
      · refine fl_then rfl (not_t cc10) ?_
        refine fl_exit rfl ?_
        refine fl_seq ?_
        have hlp : lp ph rest = k := lp_found hP.mem hk hpk (by first | exact fun hl_ => absurd hl_ (by omega) | exact fun _ => nf ‹_›)
        refine rl_start ?_
        refine rl_det (met_none rfl) (fun h_ H_ => exd_move (v := .map (some b1)) rfl) (tm' := _::_::_::_::_::_::_::_::_::_::_::_::_::_::_::_::_::_::_::_::_::_::_::_::_::_::_::_::_::_::_) rfl ?_
        refine rl_det (met_none rfl) (fun h_ H_ => exd_load_own H_ tA9 rfl (i := 1) rfl (v := sv rest) rfl) rfl ?_
        refine rl_det (met_none rfl) (fun h_ H_ => exd_move (v := .int .i64 (((k : Nat) : Int))) rfl) rfl ?_
        refine rl_det (met_none rfl) (fun h_ H_ => exd_takeS (l := rest) (r := k) Tryd.underlying9 rfl (.nat (z := k) _ rfl) (by omega)) (tm' := _::_::_::_::_::_::_::_::_::_::_::_::_::_::_::_::_::_::_::_::_::_::_::_::_::_::_::_::_::_::_::_::_::_) rfl ?_
        refine rl_det (met_none rfl) (fun h_ H_ => exd_lookup H_ (i := 0) rfl hM Tryd.underlying103 Tryd.underlying9 tZ3 rfl rfl (v := .int .i64 ((findM (mapFrom 0 ph) (rest.take k)).getD 0)) rfl) rfl ?_
        refine rl_det (met_none rfl) (fun h_ H_ => exd_build tZ60 tP60 (vs := [(0, .int .i64 ((findM (mapFrom 0 ph) (rest.take k)).getD 0)), (1, .int .i64 (-1))]) rfl (cells := #[.int .i64 ((findM (mapFrom 0 ph) (rest.take k)).getD 0), .int .i64 (-1)]) rfl) rfl ?_
        refine rl_alloc (met_none rfl) tZ60 rfl fun b11 => rl_own (L' := ([(b11, .cells #[.int .i64 0, .int .i64 0] 60 (0, 0)), (b1, o), (bS, .cells #[sv rest] 9 (0, 0))] : Pcs) ++ (X ++ [])) rfl ?_
        refine rl_norm (tm' := _::_::_::_::_::_::_::_::_) rfl ?_
        refine rl_store (met_none rfl) tS60 rfl (v := .agg #[.int .i64 ((findM (mapFrom 0 ph) (rest.take k)).getD 0), .int .i64 (-1)]) rfl (i := 0) rfl rfl rfl (Nat.le_of_ble_eq_true rfl) (cs2 := [.int .i64 ((findM (mapFrom 0 ph) (rest.take k)).getD 0), .int .i64 (-1)]) rfl (rl_own (L' := ([(b11, .cells #[.int .i64 ((findM (mapFrom 0 ph) (rest.take k)).getD 0), .int .i64 (-1)] 60 (0, 0)), (b1, o), (bS, .cells #[sv rest] 9 (0, 0))] : Pcs) ++ (X ++ [])) rfl ?_)
        refine rl_end ?_
        refine fl_seq ?_
        refine fl_seq ?_
        refine rl_start ?_
        refine rl_det (met_none rfl) (fun h_ H_ => exd_move (v := .int .i64 (((k : Nat) : Int))) rfl) rfl ?_
        refine rl_det (met_none rfl) (fun h_ H_ => exd_load_own H_ tA9 rfl (i := 2) rfl (v := sv rest) rfl) rfl ?_
        refine rl_det (met_none rfl) (fun h_ H_ => exd_lenS (l := rest) Tryd.underlying9 rfl) (tm' := _::_::_::_::_::_::_::_::_::_::_::_::_::_::_::_::_::_::_::_::_::_::_::_::_::_::_::_::_::_::_::_::_::_::_::_::_::_::_) rfl ?_
        refine rl_det (met_none rfl) (fun h_ H_ => exd_lss rfl rfl) rfl ?_
        refine rl_end ?_
        refine fl_then rfl (decide_eq_true cc9) ?_
        refine fl_seq ?_
        refine rl_start ?_
        refine rl_det (met_none rfl) (fun h_ H_ => exd_load_own H_ tA9 rfl (i := 2) rfl (v := sv rest) rfl) rfl ?_
        refine rl_det (met_none rfl) (fun h_ H_ => exd_move (v := .int .i64 (((k : Nat) : Int))) rfl) (tm' := [_,_,_,_,_,_,_,_,_,_,_,_,_,_,_,_,_,_,_,_,_,_,_,_,_,_,_,_,_,_,_,_,_,_,_,_,_,_,_,_,_,_,_,_,_,_,_,_,_,_,_,_,_,_,_,_,_,_,_,_]) rfl ?_
        refine rl_det (met_none rfl) (fun h_ H_ => exd_indexSN (l := rest) (i := k) Tryd.underlying9 rfl rfl (by omega)) rfl ?_
        refine rl_det (met_none rfl) (fun h_ H_ => exd_conv ⟨_, Tryd.underlying5⟩ Tryd.underlying3 rfl (n := (((rest.getD k 0).toNat : Nat) : Int)) (wrB _)) rfl ?_
        refine rl_det (met_none rfl) (fun h_ H_ => exd_fieldAddr tF60_1 rfl (a' := ⟨b11, 1, none⟩) rfl) (tm' := [_,_,_,_,_,_,_,_,_,_,_,_,_,_,_,_,_,_,_,_,_,_,_,_,_,_,_,_,_,_,_,_,_,_,_,_,_,_,_,_,_,_,_,_,_,_,_,_,_,_,_,_,_,_,_,_,_,_,_,_]) rfl ?_
        refine rl_store (met_none rfl) tS3 rfl (v := .int .i64 ((((rest.getD k 0).toNat : Nat) : Int))) rfl (i := 0) rfl rfl rfl (Nat.le_of_ble_eq_true rfl) (cs2 := [.int .i64 ((findM (mapFrom 0 ph) (rest.take k)).getD 0), .int .i64 ((((rest.getD k 0).toNat : Nat) : Int))]) rfl (rl_own (L' := ([(b11, .cells #[.int .i64 ((findM (mapFrom 0 ph) (rest.take k)).getD 0), .int .i64 ((((rest.getD k 0).toNat : Nat) : Int))] 60 (0, 0)), (b1, o), (bS, .cells #[sv rest] 9 (0, 0))] : Pcs) ++ (X ++ [])) rfl ?_)
        refine rl_end ?_
        refine fl_seq ?_
        refine fl_drawn2 7 [] mixed (by kernel_rfl) (Nat.le_of_ble_eq_true rfl) ?_
        refine swr_det (met_none rfl) (fun h_ H_ => exd_move (v := .map (some b1)) rfl) rfl ?_
        refine swr_det (met_none rfl) (fun h_ H_ => exd_load_own H_ tA9 rfl (i := 2) rfl (v := sv rest) rfl) (tm' := [_,_,_,_,_,_,_,_,_,_,_,_,_,_,_,_,_,_,_,_,_,_,_,_,_,_,_,_,_,_,_,_,_,_,_,_,_,_,_,_,_,_,_,_,_,_,_,_,_,_,_,_,_,_,_,_,_,_,_,_]) rfl ?_
        refine swr_det (met_none rfl) (fun h_ H_ => exd_move (v := .int .i64 (((k : Nat) : Int))) rfl) rfl ?_
        refine swr_det (met_none rfl) (fun h_ H_ => exd_add rfl rfl (n := ((k + 1 : Nat) : Int)) (wr (by omega))) (tm' := [_,_,_,_,_,_,_,_,_,_,_,_,_,_,_,_,_,_,_,_,_,_,_,_,_,_,_,_,_,_,_,_,_,_,_,_,_,_,_,_,_,_,_,_,_,_,_,_,_,_,_,_,_,_,_,_,_,_,_,_]) rfl ?_
        refine swr_det (met_none rfl) (fun h_ H_ => exd_takeS (l := rest) (r := k + 1) Tryd.underlying9 rfl (.nat (z := k + 1) _ rfl) (by omega)) rfl ?_
        refine swr_det (met_none rfl) (fun h_ H_ => exd_move (v := .map (some b1)) rfl) (tm' := [_,_,_,_,_,_,_,_,_,_,_,_,_,_,_,_,_,_,_,_,_,_,_,_,_,_,_,_,_,_,_,_,_,_,_,_,_,_,_,_,_,_,_,_,_,_,_,_,_,_,_,_,_,_,_,_,_,_,_,_]) rfl ?_
        refine swr_det (met_none rfl) (fun h_ H_ => exd_lenM H_ (i := 1) rfl hM Tryd.underlying103 rfl) rfl ?_
        refine swr_nil rfl ?_
        refine rl_mapNew (z := (((mapFrom 0 ph).length : Nat) : Int)) (key := rest.take (k + 1)) (.inl rfl) (met_none rfl) Tryd.underlying103 Tryd.underlying9 (i := 1) rfl hM rfl rfl rfl (nfN ‹_›) fun ob12 o13 => rl_own (L' := ([(b11, .cells #[.int .i64 ((findM (mapFrom 0 ph) (rest.take k)).getD 0), .int .i64 ((((rest.getD k 0).toNat : Nat) : Int))] 60 (0, 0)), (b1, ob12), (bS, .cells #[sv rest] 9 (0, 0))] : Pcs) ++ (X ++ [])) rfl ?_
        refine rl_end ?_
        refine rl_start ?_
        refine rl_det (met_none rfl) (fun h_ H_ => exd_move (v := .int .i64 (((k : Nat) : Int))) rfl) rfl ?_
        refine rl_det (met_none rfl) (fun h_ H_ => exd_add rfl rfl (n := ((k + 1 : Nat) : Int)) (wr (by omega))) (tm' := [_,_,_,_,_,_,_,_,_,_,_,_,_,_,_,_,_,_,_,_,_,_,_,_,_,_,_,_,_,_,_,_,_,_,_,_,_,_,_,_,_,_,_,_,_,_,_,_,_,_,_,_,_,_,_,_,_,_,_,_]) rfl ?_
        refine rl_det (met_none rfl) (fun h_ H_ => exd_assign (v := .int .i64 (((k + 1 : Nat) : Int))) rfl) rfl ?_
        refine rl_end ?_
        refine fl_seq ?_
        have hx := enc_more' hlp hP.mem (show k < rest.length by omega)
        refine rl_start ?_
        refine rl_det (met_none rfl) (fun h_ H_ => exd_load_own H_ tA9 rfl (i := 2) rfl (v := sv rest) rfl) rfl ?_
        refine rl_det (met_none rfl) (fun h_ H_ => exd_move (v := .int .i64 (((k + 1 : Nat) : Int))) rfl) (tm' := [_,_,_,_,_,_,_,_,_,_,_,_,_,_,_,_,_,_,_,_,_,_,_,_,_,_,_,_,_,_,_,_,_,_,_,_,_,_,_,_,_,_,_,_,_,_,_,_,_,_,_,_,_,_,_,_,_,_,_,_]) rfl ?_
        refine rl_det (met_none rfl) (fun h_ H_ => exd_dropS (l := rest) (a := k + 1) Tryd.underlying9 rfl (.nat (z := k + 1) _ rfl) (by omega)) rfl ?_
        refine rl_store (met_none rfl) tS9 rfl (v := sv (rest.drop (k + 1))) rfl (i := 2) rfl rfl rfl (Nat.le_of_ble_eq_true rfl) (cs2 := [sv (rest.drop (k + 1))]) rfl (rl_own (L' := ([(b11, .cells #[.int .i64 ((findM (mapFrom 0 ph) (rest.take k)).getD 0), .int .i64 ((((rest.getD k 0).toNat : Nat) : Int))] 60 (0, 0)), (b1, ob12), (bS, .cells #[sv (rest.drop (k + 1))] 9 (0, 0))] : Pcs) ++ (X ++ [])) rfl ?_)
        refine rl_end ?_
        refine fl_seq ?_
        refine rl_start ?_
        refine rl_det (met_none rfl) (fun h_ H_ => exd_move (v := yv) rfl) rfl ?_
        refine rl_det (met_none rfl) (fun h_ H_ => exd_loadN_own H_ tA60 tS60 rfl (i := 0) rfl (vs := [.int .i64 ((findM (mapFrom 0 ph) (rest.take k)).getD 0), .int .i64 ((((rest.getD k 0).toNat : Nat) : Int))]) rfl rfl) (tm' := [_,_,_,_,_,_,_,_,_,_,_,_,_,_,_,_,_,_,_,_,_,_,_,_,_,_,_,_,_,_,_,_,_,_,_,_,_,_,_,_,_,_,_,_,_,_,_,_,_,_,_,_,_,_,_,_,_,_,_,_]) rfl ?_
        refine rl_callv (met_none rfl) rfl (vs := [.agg #[.int .i64 ((findM (mapFrom 0 ph) (rest.take k)).getD 0), .int .i64 ((((rest.getD k 0).toNat : Nat) : Int))]]) rfl (R := fun v_ h_ => ∃ X_, v_ = .bool true ∧ I (out ++ [((findM (mapFrom 0 ph) (rest.take k)).getD 0, (((rest.getD k 0).toNat : Nat) : Int))]) X_ ∧ St h₀ B₀ p h_ (([(b11, .cells #[.int .i64 ((findM (mapFrom 0 ph) (rest.take k)).getD 0), .int .i64 ((((rest.getD k 0).toNat : Nat) : Int))] 60 (0, 0)), (b1, ob12), (bS, .cells #[sv (rest.drop (k + 1))] 9 (0, 0))] : Pcs) ++ (X_ ++ []))) (fun h_ H_ => hy out ((findM (mapFrom 0 ph) (rest.take k)).getD 0, (((rest.getD k 0).toNat : Nat) : Int)) h_ _ _ (hE ▸ hx ▸ pre_one _ _ _) hI H_) fun v_ => ?_
        refine rl_ex fun X14 => rl_and fun ev_ => rl_and fun hI15 => ?_
        subst ev_
        refine rl_det (met_none rfl) (fun h_ H_ => exd_not rfl) rfl ?_
        refine rl_end ?_
        refine fl_else rfl (not_f rfl) ?_
        refine fl_skip ?_
        refine fl_inBlock ?_
        exact fun h_ H_ => IH5 _ _ (by simp only [List.length_drop]; omega) h_ ⟨(ph ++ [rest.take (k + 1)]), (rest.drop (k + 1)), (out ++ [((findM (mapFrom 0 ph) (rest.take k)).getD 0, (((rest.getD k 0).toNat : Nat) : Int))]), X14, _, rfl, (y_of rfl), (by rw [List.append_assoc, List.singleton_append, ← hx]; exact hE), (by have h_ := hP.snoc (s := rest) (by omega); rwa [hlp] at h_), (mapO_snoc o13), hI15, (by simp only [List.length_drop]; omega), H_.drop⟩
    · refine fl_else rfl (decide_eq_false cc9) ?_
      refine fl_exit rfl ?_
      refine fl_seq ?_
      have hlp : lp ph rest = k := lp_found hP.mem hk hpk (by first | exact fun hl_ => absurd hl_ (by omega) | exact fun _ => nf ‹_›)
      refine rl_start ?_
      refine rl_det (met_none rfl) (fun h_ H_ => exd_move (v := .map (some b1)) rfl) (tm' := _::_::_::_::_::_::_::_::_::_::_::_::_::_::_::_::_::_::_::_::_::_::_::_::_::_::_::_::_::_::_) rfl ?_
      refine rl_det (met_none rfl) (fun h_ H_ => exd_load_own H_ tA9 rfl (i := 1) rfl (v := sv rest) rfl) rfl ?_
      refine rl_det (met_none rfl) (fun h_ H_ => exd_move (v := .int .i64 (((k : Nat) : Int))) rfl) rfl ?_
      refine rl_det (met_none rfl) (fun h_ H_ => exd_takeS (l := rest) (r := k) Tryd.underlying9 rfl (.nat (z := k) _ rfl) (by omega)) (tm' := _::_::_::_::_::_::_::_::_::_::_::_::_::_::_::_::_::_::_::_::_::_::_::_::_::_::_::_::_::_::_::_::_::_) rfl ?_
      refine rl_det (met_none rfl) (fun h_ H_ => exd_lookup H_ (i := 0) rfl hM Tryd.underlying103 Tryd.underlying9 tZ3 rfl rfl (v := .int .i64 ((findM (mapFrom 0 ph) (rest.take k)).getD 0)) rfl) rfl ?_
      refine rl_det (met_none rfl) (fun h_ H_ => exd_build tZ60 tP60 (vs := [(0, .int .i64 ((findM (mapFrom 0 ph) (rest.take k)).getD 0)), (1, .int .i64 (-1))]) rfl (cells := #[.int .i64 ((findM (mapFrom 0 ph) (rest.take k)).getD 0), .int .i64 (-1)]) rfl) rfl ?_
      refine rl_alloc (met_none rfl) tZ60 rfl fun b16 => rl_own (L' := ([(b16, .cells #[.int .i64 0, .int .i64 0] 60 (0, 0)), (b1, o), (bS, .cells #[sv rest] 9 (0, 0))] : Pcs) ++ (X ++ [])) rfl ?_
      refine rl_norm (tm' := _::_::_::_::_::_::_::_::_) rfl ?_
      refine rl_store (met_none rfl) tS60 rfl (v := .agg #[.int .i64 ((findM (mapFrom 0 ph) (rest.take k)).getD 0), .int .i64 (-1)]) rfl (i := 0) rfl rfl rfl (Nat.le_of_ble_eq_true rfl) (cs2 := [.int .i64 ((findM (mapFrom 0 ph) (rest.take k)).getD 0), .int .i64 (-1)]) rfl (rl_own (L' := ([(b16, .cells #[.int .i64 ((findM (mapFrom 0 ph) (rest.take k)).getD 0), .int .i64 (-1)] 60 (0, 0)), (b1, o), (bS, .cells #[sv rest] 9 (0, 0))] : Pcs) ++ (X ++ [])) rfl ?_)
      refine rl_end ?_
      refine fl_seq ?_
      refine fl_seq ?_
      refine rl_start ?_
      refine rl_det (met_none rfl) (fun h_ H_ => exd_move (v := .int .i64 (((k : Nat) : Int))) rfl) rfl ?_
      refine rl_det (met_none rfl) (fun h_ H_ => exd_load_own H_ tA9 rfl (i := 2) rfl (v := sv rest) rfl) rfl ?_
      refine rl_det (met_none rfl) (fun h_ H_ => exd_lenS (l := rest) Tryd.underlying9 rfl) (tm' := _::_::_::_::_::_::_::_::_::_::_::_::_::_::_::_::_::_::_::_::_::_::_::_::_::_::_::_::_::_::_::_::_::_::_::_::_::_::_) rfl ?_
      refine rl_det (met_none rfl) (fun h_ H_ => exd_lss rfl rfl) rfl ?_
      refine rl_end ?_
      refine fl_else rfl (decide_eq_false cc9) ?_
      refine fl_skip ?_
      refine fl_seq ?_
      have hx := enc_last' hlp hP.mem (List.length_pos_iff.1 hne) (show ¬ k < rest.length by omega)
      refine rl_start ?_
      refine rl_det (met_none rfl) (fun h_ H_ => exd_load_own H_ tA9 rfl (i := 2) rfl (v := sv rest) rfl) rfl ?_
      refine rl_det (met_none rfl) (fun h_ H_ => exd_move (v := .int .i64 (((k : Nat) : Int))) rfl) (tm' := [_,_,_,_,_,_,_,_,_,_,_,_,_,_,_,_,_,_,_,_,_,_,_,_,_,_,_,_,_,_,_,_,_,_,_,_,_,_,_,_,_,_,_,_,_,_,_,_,_,_,_,_,_,_,_,_,_,_,_,_]) rfl ?_
      refine rl_det (met_none rfl) (fun h_ H_ => exd_dropS (l := rest) (a := k) Tryd.underlying9 rfl (.nat (z := k) _ rfl) (by omega)) rfl ?_
      refine rl_store (met_none rfl) tS9 rfl (v := sv (rest.drop k)) rfl (i := 2) rfl rfl rfl (Nat.le_of_ble_eq_true rfl) (cs2 := [sv (rest.drop k)]) rfl (rl_own (L' := ([(b16, .cells #[.int .i64 ((findM (mapFrom 0 ph) (rest.take k)).getD 0), .int .i64 (-1)] 60 (0, 0)), (b1, o), (bS, .cells #[sv (rest.drop k)] 9 (0, 0))] : Pcs) ++ (X ++ [])) rfl ?_)
      refine rl_end ?_
      refine fl_seq ?_
      refine rl_start ?_
      refine rl_det (met_none rfl) (fun h_ H_ => exd_move (v := yv) rfl) rfl ?_
      refine rl_det (met_none rfl) (fun h_ H_ => exd_loadN_own H_ tA60 tS60 rfl (i := 0) rfl (vs := [.int .i64 ((findM (mapFrom 0 ph) (rest.take k)).getD 0), .int .i64 (-1)]) rfl rfl) (tm' := [_,_,_,_,_,_,_,_,_,_,_,_,_,_,_,_,_,_,_,_,_,_,_,_,_,_,_,_,_,_,_,_,_,_,_,_,_,_,_,_,_,_,_,_,_,_,_,_,_,_,_,_,_,_,_,_,_,_,_,_]) rfl ?_
      refine rl_callv (met_none rfl) rfl (vs := [.agg #[.int .i64 ((findM (mapFrom 0 ph) (rest.take k)).getD 0), .int .i64 (-1)]]) rfl (R := fun v_ h_ => ∃ X_, v_ = .bool true ∧ I (out ++ [((findM (mapFrom 0 ph) (rest.take k)).getD 0, (-1))]) X_ ∧ St h₀ B₀ p h_ (([(b16, .cells #[.int .i64 ((findM (mapFrom 0 ph) (rest.take k)).getD 0), .int .i64 (-1)] 60 (0, 0)), (b1, o), (bS, .cells #[sv (rest.drop k)] 9 (0, 0))] : Pcs) ++ (X_ ++ []))) (fun h_ H_ => hy out ((findM (mapFrom 0 ph) (rest.take k)).getD 0, (-1)) h_ _ _ (hE ▸ hx ▸ pre_one _ _ _) hI H_) fun v_ => ?_
      refine rl_ex fun X17 => rl_and fun ev_ => rl_and fun hI18 => ?_
      subst ev_
      refine rl_det (met_none rfl) (fun h_ H_ => exd_not rfl) rfl ?_
      refine rl_end ?_
      refine fl_else rfl (not_f rfl) ?_
      refine fl_skip ?_
      refine fl_inBlock ?_
      exact fun h_ H_ => IH5 _ _ (by simp only [List.length_drop]; omega) h_ ⟨ph, (rest.drop k), (out ++ [((findM (mapFrom 0 ph) (rest.take k)).getD 0, (-1))]), X17, _, rfl, (y_of rfl), (by rw [List.append_assoc, List.singleton_append, ← hx]; exact hE), hP, hM, hI18, (by simp only [List.length_drop]; omega), H_.drop⟩
end Go.Proofs.YtiinpnlfdeiloaaDoor
namespace Go.Proofs.YtiinpnlfdeiloaaDoor
open Go.X Go.X.Cent Go.Conc
set_option maxRecDepth 10000
set_option synthInstance.maxSize 2000
set_option synthInstance.maxHeartbeats 400000

theorem c96 (md : Md) (h h₀ : Heap) (B₀ : List Nat) (p : PHeap) (bS : Nat) (s : By) (X₀ : Pcs) (hs : s.length ≤ 2 ^ 30) (s₀ : St h₀ B₀ p h (([(bS, .cells #[sv s] 9 (0, 0))] : Pcs) ++ (X₀ ++ []))) : CallsX Tryd.prog md 96 #[.slice none 0 0, .func (.func 94) #[] #[.pointer (some ⟨bS, 0, none⟩)]] h fun v_ h' => ∃ w X1, v_ = w ∧ OwnS 60 2 w (pies (encS [[]] s)) X1 ∧ St h₀ B₀ p h' (X1 ++ (X₀ ++ [])) := by
  refine calls_intro (Φ := fun h_ => St h₀ B₀ p h_ (([(bS, .cells #[sv s] 9 (0, 0))] : Pcs) ++ (X₀ ++ []))) Tryd.func96 rfl (tm := [_, _, _, _, _, _, _, _, _, _, _, _, _]) rfl ?_ s₀
  intro c₀ cs Stop K
  refine fl_seq ?_
  refine rl_start ?_
  refine rl_box (met_none rfl) (v := .slice none 0 0) rfl fun b1 => rl_own (L' := ([(b1, .cells #[.slice none 0 0] 49 (0, 0)), (bS, .cells #[sv s] 9 (0, 0))] : Pcs) ++ (X₀ ++ [])) rfl ?_
  refine rl_det (met_none rfl) (fun h_ H_ => exd_assign (v := .slice none 0 0) rfl) rfl ?_
  refine rl_end ?_
  refine fl_seq ?_
  refine fl_seq ?_
  refine rl_start ?_
  refine rl_det (met_none rfl) (fun h_ H_ => exd_move (v := .func (.func 94) #[] #[.pointer (some ⟨bS, 0, none⟩)]) rfl) (tm' := _::_::_::_::_::_::_::_) rfl ?_
  refine rl_end ?_
  refine fl_block ?_
  refine fl_range (R := fun r_ l_ lp_ _ h_ => ∃ X_, (∃ w : Value, ∃ X1 : Pcs, X_ = ([(l_, .loop lp_), (r_, .deferred (some [])), (b1, .cells #[w] 49 (0, 0))] : Pcs) ++ (X1 ++ (X₀ ++ [])) ∧ (OwnS 60 2 w (pies (encS [[]] s)) X1)) ∧ St h₀ B₀ p h_ X_) ?_ ?_
  · intro r_ l_ lp_ h_ hlp_ s_
    show CallV _ md (.func (.func 94) ([] : List Value).toArray ([.pointer (some ⟨bS, 0, none⟩)] : List Value).toArray) _ h_ _
    refine callv_of fC94 ?_
    refine c94 md _ _ _ _ (.func (.yield l_) #[] #[]) bS s (encS [[]] s) _ hs (fun rd_ X_ => ∃ w : Value, ∃ X1 : Pcs, X_ = ([(l_, .loop lp_), (r_, .deferred (some [])), (b1, .cells #[w] 49 (0, 0))] : Pcs) ++ (X1 ++ (X₀ ++ [])) ∧ (OwnS 60 2 w (pies rd_) X1)) rfl ⟨_, [], rfl, (OwnS.empty _ _)⟩ ?_ (St.lend s_ (i := 3) rfl rfl)
    intro rd_ x_ h_ Z_ X_ hi_ hI_ s_
    obtain ⟨w, X1, rfl, o1⟩ := hI_
    refine callv_round (Φ := fun h_ => St h₀ B₀ p h_ (([(l_, .loop lp_), (r_, .deferred (some [])), (b1, .cells #[w] 49 (0, 0))] : Pcs) ++ (X1 ++ (X₀ ++ (Z_ ++ []))))) (s_.rot.at (i := 0) rfl) hlp_ rfl (tm' := [.slice none 0 0, .func (.func 94) #[] #[.pointer (some ⟨bS, 0, none⟩)], .pointer (some ⟨b1, 0, none⟩), undef, .slice none 0 0, undef, .func (.func 94) #[] #[.pointer (some ⟨bS, 0, none⟩)], .agg #[.int .i64 (x_.1), .int .i64 (x_.2)], undef, undef, undef, undef, undef]) rfl ?_ (by simpa using s_.rot)
    intro c₁ cs₁ Stop₁ K₁
    have hi2 := pre_len hi_
    have hi3 := encS_len (ph := [[]]) (s := s)
    refine rl_start ?_
    refine rl_alloc (met_none rfl) tZ60 rfl fun b2 => rl_own (L' := ([(b2, .cells #[.int .i64 0, .int .i64 0] 60 (0, 0)), (l_, .loop lp_), (r_, .deferred (some [])), (b1, .cells #[w] 49 (0, 0))] : Pcs) ++ (X1 ++ (X₀ ++ (Z_ ++ [])))) rfl ?_
    refine rl_store (met_none rfl) tS60 rfl (v := .agg #[.int .i64 (x_.1), .int .i64 (x_.2)]) rfl (i := 0) rfl rfl rfl (Nat.le_of_ble_eq_true rfl) (cs2 := [.int .i64 (x_.1), .int .i64 (x_.2)]) rfl (rl_own (L' := ([(b2, .cells #[.int .i64 (x_.1), .int .i64 (x_.2)] 60 (0, 0)), (l_, .loop lp_), (r_, .deferred (some [])), (b1, .cells #[w] 49 (0, 0))] : Pcs) ++ (X1 ++ (X₀ ++ (Z_ ++ [])))) rfl ?_)
    refine rl_end ?_
    refine fl_begin (i := 1) rfl (by rw [hlp_]; rfl) ?_
    refine rs_own (L' := ([(b2, .cells #[.int .i64 (x_.1), .int .i64 (x_.2)] 60 (0, 0)), (l_, .loop { lp_ with state := .busy }), (r_, .deferred (some [])), (b1, .cells #[w] 49 (0, 0))] : Pcs) ++ (X1 ++ (X₀ ++ (Z_ ++ [])))) rfl ?_
    refine fl_block ?_
    refine rl_start ?_
    refine rl_det (met_none rfl) (fun h_ H_ => exd_load_own H_ tA49 rfl (i := 3) rfl (v := w) rfl) rfl ?_
    refine rl_det (met_none rfl) (fun h_ H_ => exd_loadN_own H_ tA60 tS60 rfl (i := 0) rfl (vs := [.int .i64 (x_.1), .int .i64 (x_.2)]) rfl rfl) (tm' := [_,_,_,_,_,_,_,_,_,_,_,_,_]) rfl ?_
    refine rl_buildO ([(b2, .cells #[.int .i64 (x_.1), .int .i64 (x_.2)] 60 (0, 0)), (l_, .loop { lp_ with state := .busy }), (r_, .deferred (some [])), (b1, .cells #[w] 49 (0, 0))] : Pcs) (met_none rfl) Tryd.underlying49 tS60 tZ60 (Nat.le_of_ble_eq_true rfl) (vs := [(0, .agg #[.int .i64 (x_.1), .int .i64 (x_.2)])]) rfl rfl (es := [[.int .i64 (x_.1), .int .i64 (x_.2)]]) rfl rfl rfl fun v3 X4 o5 => ?_
    refine rl_perm (List.Perm.append_left _ (List.perm_append_comm_assoc _ _ _)) ?_
    refine rl_own (L' := ([(b2, .cells #[.int .i64 (x_.1), .int .i64 (x_.2)] 60 (0, 0)), (l_, .loop { lp_ with state := .busy }), (r_, .deferred (some [])), (b1, .cells #[w] 49 (0, 0))] : Pcs) ++ (X1 ++ (X4 ++ (X₀ ++ (Z_ ++ []))))) rfl ?_
    refine rl_appendO ([(b2, .cells #[.int .i64 (x_.1), .int .i64 (x_.2)] 60 (0, 0)), (l_, .loop { lp_ with state := .busy }), (r_, .deferred (some [])), (b1, .cells #[w] 49 (0, 0))] : Pcs) X1 X4 (met_none rfl) Tryd.underlying49 tS60 tZ60 rfl tB60 Tryd.underlying49 rfl rfl o1 o5 (ones_of rfl) (by rw [pies_length]; simp only [List.length_cons, List.length_nil]; omega) (by decide) fun v6 X7 o8 => ?_
    refine rl_store1 (met_none rfl) tS49 rfl (v := v6) rfl o8.one (i := 3) rfl (Nat.succ_le_iff.1 (Nat.le_of_ble_eq_true rfl)) (cs2 := [v6]) rfl (rl_own (L' := ([(b2, .cells #[.int .i64 (x_.1), .int .i64 (x_.2)] 60 (0, 0)), (l_, .loop { lp_ with state := .busy }), (r_, .deferred (some [])), (b1, .cells #[v6] 49 (0, 0))] : Pcs) ++ (X7 ++ (X₀ ++ (Z_ ++ [])))) rfl ?_)
    refine rl_end ?_
    refine fl_inBlock ?_
    refine fl_rend (i := 1) rfl (lp' := lp_) (by rw [hlp_]; rfl) ?_
    refine rs_own (L' := ([(b2, .cells #[.int .i64 (x_.1), .int .i64 (x_.2)] 60 (0, 0)), (l_, .loop lp_), (r_, .deferred (some [])), (b1, .cells #[v6] 49 (0, 0))] : Pcs) ++ (X7 ++ (X₀ ++ (Z_ ++ [])))) rfl ?_
    exact fun h_ H_ => K₁ _ _ ⟨([(l_, .loop lp_), (r_, .deferred (some [])), (b1, .cells #[v6] 49 (0, 0))] : Pcs) ++ (X7 ++ (X₀ ++ [])), rfl, ⟨v6, X7, rfl, (o8.as (pies_snoc rd_ x_))⟩, St.rot' (by simpa using (H_.drop))⟩
  · intro r_ l_ lp_ v_ hlp_
    refine rs_ex fun X_ => rs_and fun hIJ_ => ?_
    obtain ⟨w, X1, rfl, o1⟩ := hIJ_
    · refine fl_endNone (i := 0) rfl (by rw [hlp_]; simp [loopOf]) (by rw [hlp_]; rfl) ?_
      refine rs_own (L' := ([(l_, .loop { lp_ with state := .exhausted }), (r_, .deferred (some [])), (b1, .cells #[w] 49 (0, 0))] : Pcs) ++ (X1 ++ (X₀ ++ []))) rfl ?_
      refine fl_inBlock ?_
      refine fl_seq ?_
      refine rl_start ?_
      refine rl_det (met_none rfl) (fun h_ H_ => exd_load_own H_ tA49 rfl (i := 2) rfl (v := w) rfl) (tm' := [_,_,_,_,_,_,_,_,_,_,_,_,_]) rfl ?_
      refine rl_det (met_none rfl) (fun h_ H_ => exd_assign (v := w) rfl) rfl ?_
      refine rl_end ?_
      refine fl_retD (i := 1) Tryd.func96 rfl rfl (vs := [w]) (fun h_ H_ => ⟨w, _, rfl, rfl, rfl⟩) (v := w) rfl ?_
      refine rs_own (L' := ([(l_, .loop { lp_ with state := .exhausted }), (r_, .deferred none), (b1, .cells #[w] 49 (0, 0))] : Pcs) ++ (X1 ++ (X₀ ++ []))) rfl ?_
      exact fun h_ H_ => K _ _ ⟨_, _, rfl, o1, by simpa using H_.dropA⟩
theorem c80 (md : Md) (h h₀ : Heap) (B₀ : List Nat) (p : PHeap) (bS : Nat) (s : By) (X₀ : Pcs) (hs : s.length ≤ 2 ^ 30) (s₀ : St h₀ B₀ p h (([(bS, .cells #[sv s] 9 (0, 0))] : Pcs) ++ (X₀ ++ []))) : CallsX Tryd.prog md 80 #[.func (.func 94) #[] #[.pointer (some ⟨bS, 0, none⟩)]] h fun v_ h' => ∃ w X1, v_ = w ∧ OwnS 60 2 w (pies (encS [[]] s)) X1 ∧ St h₀ B₀ p h' (X1 ++ (X₀ ++ [])) := by
  refine calls_intro (Φ := fun h_ => St h₀ B₀ p h_ (([(bS, .cells #[sv s] 9 (0, 0))] : Pcs) ++ (X₀ ++ []))) Tryd.func80 rfl (tm := [_, _, _, _, _]) rfl ?_ s₀
  intro c₀ cs Stop K
  refine fl_seq ?_
  refine rl_start ?_
  refine rl_det (met_none rfl) (fun h_ H_ => exd_assign (v := .slice none 0 0) rfl) rfl ?_
  refine rl_end ?_
  refine fl_seq ?_
  refine rl_start ?_
  refine rl_det (met_none rfl) (fun h_ H_ => exd_move (v := .func (.func 94) #[] #[.pointer (some ⟨bS, 0, none⟩)]) rfl) (tm' := [_,_,_,_,_]) rfl ?_
  refine rl_call (met_none rfl) (first := []) (cap := []) rfl rfl fC96 (fun h_ H_ => c96 md _ _ _ _ bS s X₀ hs H_) ?_
  refine fun v_ => rl_ex fun w1 => rl_ex fun X2 => rl_and fun ev_ => rl_and fun o3 => ?_
  have ev_ := ev_.symm; subst ev_
  refine rl_own (L' := ([] : Pcs) ++ (X2 ++ (X₀ ++ []))) (by simp) ?_
  refine rl_det (met_none rfl) (fun h_ H_ => exd_assign (v := w1) rfl) rfl ?_
  refine rl_end ?_
  refine fl_ret Tryd.func80 rfl (vs := [w1]) (fun h_ H_ => ⟨w1, _, rfl, rfl, rfl⟩) (v := w1) rfl ?_
  exact fun h_ H_ => K _ _ ⟨_, _, rfl, o3, by simpa using H_⟩
theorem c77 (md : Md) (h : Heap) (s : By) : CallsX Tryd.prog md 77 #[sv s] h fun v h' => ∃ b : Nat, v = .func (.func 94) #[] #[.pointer (some ⟨b, 0, none⟩)] ∧ New h h' [(b, .cells #[sv s] 9 (0, 0))] := by
  refine calls_intro (Φ := fun h_ => St h [] (fun _ => none) h_ []) Tryd.func77 rfl (tm := [_, _, _, _]) rfl ?_ (St.start h _ (fun _ _ e => by cases e))
  intro c₀ cs Stop K
  refine fl_seq ?_
  refine rl_start ?_
  refine rl_box (met_none rfl) (v := sv s) rfl fun b1 => rl_own (L' := [(b1, .cells #[sv s] 9 (0, 0))]) rfl ?_
  refine rl_norm (tm' := _::_::_) rfl ?_
  refine rl_det (met_none rfl) (fun h_ H_ => exd_assign (v := .nilFunc) rfl) rfl ?_
  refine rl_end ?_
  refine fl_seq ?_
  refine rl_start ?_
  refine rl_det (met_none rfl) (fun h_ H_ => exd_makeFunc (a := []) (b := [.pointer (some ⟨b1, 0, none⟩)]) rfl rfl) rfl ?_
  refine rl_det (met_none rfl) (fun h_ H_ => exd_assign (v := .func (.func 94) #[] #[.pointer (some ⟨b1, 0, none⟩)]) rfl) (tm' := [_,_,_,_]) rfl ?_
  refine rl_end ?_
  refine fl_ret Tryd.func77 rfl (vs := [.func (.func 94) #[] #[.pointer (some ⟨b1, 0, none⟩)]]) (fun h_ H_ => ⟨.func (.func 94) #[] #[.pointer (some ⟨b1, 0, none⟩)], _, rfl, rfl, rfl⟩) (v := .func (.func 94) #[] #[.pointer (some ⟨b1, 0, none⟩)]) rfl ?_
  exact fun h_ H_ => K _ _ ⟨_, rfl, H_.new⟩
end Go.Proofs.YtiinpnlfdeiloaaDoor
