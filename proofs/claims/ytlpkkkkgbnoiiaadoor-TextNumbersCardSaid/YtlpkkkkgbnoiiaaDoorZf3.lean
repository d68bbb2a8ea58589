/- Show formats and Read parses numbers as the reference does, and Read inverts Show for numbers from 0 on, for every text and all numbers that the guards let in. -/
import Derived.Shelf.Lays
import Derived.Shelf.LaysC
import Derived.Shelf.LaysM
import Derived.Shelf.Strings.BuilderX
import Derived.KernelRfl
import Derived.Test.YtlpkkkkgbnoiiaaDoorProg
import Derived.Shelf.Strconv.Itoa3
import Derived.Shelf.Unicode.DecodeAny
import Derived.Shelf.Spec.TrailingZeros
import Derived.Test.YtlpkkkkgbnoiiaaDoorRows
import Derived.Lib.LaidU8T
import Derived.Lib.LaidTab
import Derived.Shelf.Vars
import Derived.Stop.LaidErr
import Derived.RangeFuncNested
import Derived.RangeFuncBound
import Derived.RangeFuncCalls
import Derived.RangeFuncLeaves
import Derived.RangeFuncBox
import Derived.Shelf.Abstract
import Derived.Shelf.RegionOpen
import Derived.WalkKit
import Derived.OwnWalkIn
import Derived.TacticsInMore
import Derived.LoopNIn
import Derived.LoopIn
import Derived.Laws.IdiomStrings
import Derived.Laws.BitsLemmas
import Derived.Shelf.Strings.BuilderK
import Derived.Shelf.Strings.BuilderRune
import Derived.Shelf.Strings.OnBuilder
import Derived.Shelf.Small.Strs
import Derived.Shelf.Strings.Prefix
import Derived.Shelf.Strings.Shaped
import Derived.Shelf.Strconv.Lower
import Derived.Lib.Strings
import Derived.Lib.Walk
import Derived.Lib.ConvBytes
import Derived.Lib.ParseIntBMem
import Derived.Lib.Hide
import Derived.Laws.Strings3
import Derived.Laws.Closers25
import Derived.Laws.Closers25b
import Derived.BigCall
import Derived.BigGuard
import Derived.Shelf.Strconv.ToErrorRange
import Derived.Lib.ItoaMem
import Derived.Lib.ItoaLen
import Derived.Test.YtlpkkkkgbnoiiaaDoorTie
import Derived.Test.YtlpkkkkgbnoiiaaDoorCards
import Derived.Deep.DeepHandedRow
import Derived.ProofKit
import Derived.SizedLaws
import Derived.OpenShut
import Derived.ShutString
import Derived.ChangeOld
import Derived.Below
import Derived.SevenTiedAt
import Derived.Test.YtlpkkkkgbnoiiaaDoorZf2
section
namespace Go.Proofs
open Go.Shelf
set_option maxRecDepth 100000
def Tryd.ren : Go.Shelf.Ren := ⟨fun | 0 => 0 | 1 => 1 | 2 => 2 | 99 => 35 | 119 => 52 | 129 => 81 | 137 => 50 | 145 => 36 | 166 => 32 | 167 => 31 | 168 => 38 | 169 => 34 | 171 => 43 | 173 => 47 | 197 => 29 | 205 => 79 | 206 => 48 | 217 => 61 | 219 => 60 | 220 => 49 | 224 => 75 | 225 => 74 | 240 => 46 | 242 => 53 | 243 => 57 | 245 => 56 | 246 => 59 | 260 => 45 | 266 => 77 | 267 => 76 | 276 => 58 | 278 => 62 | 279 => 66 | 280 => 67 | 281 => 68 | 282 => 69 | 283 => 70 | 284 => 71 | 285 => 72 | 286 => 73 | 287 => 55 | 314 => 85 | 316 => 78 | 317 => 80 | 318 => 82 | 319 => 83 | 320 => 84 | 321 => 64 | 322 => 65 | 337 => 86 | 338 => 87 | 347 => 88 | 348 => 89 | 349 => 90 | 350 => 91 | 351 => 92 | 352 => 93 | 353 => 94 | 354 => 95 | 355 => 96 | 356 => 97 | 357 => 98 | 358 => 99 | 359 => 100 | 360 => 101 | 361 => 102 | 362 => 103 | 363 => 106 | 364 => 104 | 365 => 105 | 366 => 107 | 367 => 117 | n => n, fun | 0 => 0 | 1 => 1 | 2 => 2 | 3 => 3 | 4 => 4 | 5 => 5 | 6 => 6 | 7 => 7 | 8 => 8 | 9 => 9 | 10 => 10 | 11 => 11 | 12 => 12 | 13 => 13 | 14 => 14 | 15 => 15 | 16 => 16 | 17 => 17 | 18 => 18 | 19 => 19 | 20 => 20 | 21 => 21 | 22 => 36 | 27 => 90 | 37 => 52 | 40 => 78 | 46 => 84 | 47 => 111 | 48 => 92 | 51 => 91 | 52 => 117 | 53 => 69 | 54 => 99 | 55 => 75 | 59 => 62 | 60 => 63 | 69 => 32 | 70 => 51 | 71 => 53 | 72 => 54 | 74 => 55 | 75 => 56 | 76 => 58 | 77 => 59 | 78 => 57 | 79 => 66 | 80 => 61 | 81 => 125 | 83 => 45 | 84 => 73 | 104 => 22 | 105 => 49 | 106 => 50 | 108 => 106 | 111 => 110 | 114 => 103 | 119 => 83 | 126 => 79 | 127 => 74 | 128 => 82 | 131 => 37 | 137 => 85 | 138 => 86 | 139 => 87 | 143 => 114 | 144 => 115 | 145 => 116 | 146 => 112 | 151 => 113 | 164 => 88 | 165 => 89 | 167 => 93 | 168 => 95 | 169 => 96 | 170 => 97 | 171 => 98 | 172 => 100 | 173 => 101 | 174 => 102 | 175 => 70 | 176 => 71 | 209 => 104 | 210 => 105 | 211 => 107 | 212 => 108 | 213 => 109 | 214 => 94 | 229 => 76 | 232 => 118 | 233 => 119 | 238 => 120 | 239 => 121 | 240 => 122 | 241 => 123 | 242 => 124 | 243 => 126 | 244 => 127 | 245 => 128 | 246 => 129 | 247 => 130 | 248 => 131 | 249 => 132 | n => n, fun | 1 => 2 | 3 => 0 | 4 => 1 | 15 => 3 | 16 => 4 | 17 => 5 | 18 => 6 | 19 => 7 | n => n⟩
theorem Tryd.ly166 : Go.Proofs.Lays.n166 Tryd.prog Tryd.ren := {
  mixed := by kernel_rfl
  f166 := Tryd.func32.trans (congrArg some (by kernel_rfl))
  f240 := Tryd.func46.trans (congrArg some (by kernel_rfl))
  f276 := Tryd.func58.trans (congrArg some (by kernel_rfl))
  t0 := Tryd.underlying0
  a0 := Tryd.isAgg0
  z0 := Tryd.sizeOf0
  v0 := Tryd.zeroValue0
  t3 := Tryd.underlying3
  a3 := Tryd.isAgg3
  z3 := Tryd.sizeOf3
  v3 := Tryd.zeroValue3
  t4 := Tryd.underlying4
  a4 := Tryd.isAgg4
  z4 := Tryd.sizeOf4
  v4 := Tryd.zeroValue4
  t9 := Tryd.underlying9
  a9 := Tryd.isAgg9
  z9 := Tryd.sizeOf9
  v9 := Tryd.zeroValue9
  t20 := Tryd.underlying20
  a20 := Tryd.isAgg20
  z20 := Tryd.sizeOf20
  v20 := Tryd.zeroValue20
  t37 := Tryd.underlying52
  a37 := Tryd.isAgg52
  z37 := Tryd.sizeOf52
  v37 := Tryd.zeroValue52
  t70 := Tryd.underlying51
  a70 := Tryd.isAgg51
  z70 := Tryd.sizeOf51
  v70 := Tryd.zeroValue51
  t72 := Tryd.underlying54
  a72 := Tryd.isAgg54
  z72 := Tryd.sizeOf54
  v72 := Tryd.zeroValue54
  t75 := Tryd.underlying56
  a75 := Tryd.isAgg56
  z75 := Tryd.sizeOf56
  v75 := Tryd.zeroValue56
  t164 := Tryd.underlying88
  a164 := Tryd.isAgg88
  z164 := Tryd.sizeOf88
  v164 := Tryd.zeroValue88 }
theorem Tryd.ly167 : Go.Proofs.Lays.n167 Tryd.prog Tryd.ren := {
  mixed := by kernel_rfl
  f167 := Tryd.func31.trans (congrArg some (by kernel_rfl))
  f240 := Tryd.func46.trans (congrArg some (by kernel_rfl))
  f276 := Tryd.func58.trans (congrArg some (by kernel_rfl))
  t0 := Tryd.underlying0
  a0 := Tryd.isAgg0
  z0 := Tryd.sizeOf0
  v0 := Tryd.zeroValue0
  t4 := Tryd.underlying4
  a4 := Tryd.isAgg4
  z4 := Tryd.sizeOf4
  v4 := Tryd.zeroValue4
  t5 := Tryd.underlying5
  a5 := Tryd.isAgg5
  z5 := Tryd.sizeOf5
  v5 := Tryd.zeroValue5
  t9 := Tryd.underlying9
  a9 := Tryd.isAgg9
  z9 := Tryd.sizeOf9
  v9 := Tryd.zeroValue9
  t20 := Tryd.underlying20
  a20 := Tryd.isAgg20
  z20 := Tryd.sizeOf20
  v20 := Tryd.zeroValue20
  t37 := Tryd.underlying52
  a37 := Tryd.isAgg52
  z37 := Tryd.sizeOf52
  v37 := Tryd.zeroValue52
  t70 := Tryd.underlying51
  a70 := Tryd.isAgg51
  z70 := Tryd.sizeOf51
  v70 := Tryd.zeroValue51
  t72 := Tryd.underlying54
  a72 := Tryd.isAgg54
  z72 := Tryd.sizeOf54
  v72 := Tryd.zeroValue54
  t75 := Tryd.underlying56
  a75 := Tryd.isAgg56
  z75 := Tryd.sizeOf56
  v75 := Tryd.zeroValue56
  t164 := Tryd.underlying88
  a164 := Tryd.isAgg88
  z164 := Tryd.sizeOf88
  v164 := Tryd.zeroValue88 }
theorem Tryd.ly168 : Go.Proofs.Lays.n168 Tryd.prog Tryd.ren := {
  mixed := by kernel_rfl
  f168 := Tryd.func38.trans (congrArg some (by kernel_rfl))
  f240 := Tryd.func46.trans (congrArg some (by kernel_rfl))
  f242 := Tryd.func53.trans (congrArg some (by kernel_rfl))
  f276 := Tryd.func58.trans (congrArg some (by kernel_rfl))
  f278 := Tryd.func62.trans (congrArg some (by kernel_rfl))
  t0 := Tryd.underlying0
  a0 := Tryd.isAgg0
  z0 := Tryd.sizeOf0
  v0 := Tryd.zeroValue0
  t3 := Tryd.underlying3
  a3 := Tryd.isAgg3
  z3 := Tryd.sizeOf3
  v3 := Tryd.zeroValue3
  t4 := Tryd.underlying4
  a4 := Tryd.isAgg4
  z4 := Tryd.sizeOf4
  v4 := Tryd.zeroValue4
  t5 := Tryd.underlying5
  a5 := Tryd.isAgg5
  z5 := Tryd.sizeOf5
  v5 := Tryd.zeroValue5
  t9 := Tryd.underlying9
  a9 := Tryd.isAgg9
  z9 := Tryd.sizeOf9
  v9 := Tryd.zeroValue9
  t20 := Tryd.underlying20
  a20 := Tryd.isAgg20
  z20 := Tryd.sizeOf20
  v20 := Tryd.zeroValue20
  t21 := Tryd.underlying21
  a21 := Tryd.isAgg21
  z21 := Tryd.sizeOf21
  v21 := Tryd.zeroValue21
  t37 := Tryd.underlying52
  a37 := Tryd.isAgg52
  z37 := Tryd.sizeOf52
  v37 := Tryd.zeroValue52
  t46 := Tryd.underlying84
  a46 := Tryd.isAgg84
  z46 := Tryd.sizeOf84
  v46 := Tryd.zeroValue84
  t51 := Tryd.underlying91
  a51 := Tryd.isAgg91
  z51 := Tryd.sizeOf91
  v51 := Tryd.zeroValue91
  t70 := Tryd.underlying51
  a70 := Tryd.isAgg51
  z70 := Tryd.sizeOf51
  v70 := Tryd.zeroValue51
  t72 := Tryd.underlying54
  a72 := Tryd.isAgg54
  z72 := Tryd.sizeOf54
  v72 := Tryd.zeroValue54
  t75 := Tryd.underlying56
  a75 := Tryd.isAgg56
  z75 := Tryd.sizeOf56
  v75 := Tryd.zeroValue56
  t164 := Tryd.underlying88
  a164 := Tryd.isAgg88
  z164 := Tryd.sizeOf88
  v164 := Tryd.zeroValue88 }
theorem Tryd.ly169 : Go.Proofs.Lays.n169 Tryd.prog Tryd.ren := {
  mixed := by kernel_rfl
  f169 := Tryd.func34.trans (congrArg some (by kernel_rfl))
  t0 := Tryd.underlying0
  a0 := Tryd.isAgg0
  z0 := Tryd.sizeOf0
  v0 := Tryd.zeroValue0
  t3 := Tryd.underlying3
  a3 := Tryd.isAgg3
  z3 := Tryd.sizeOf3
  v3 := Tryd.zeroValue3
  t9 := Tryd.underlying9
  a9 := Tryd.isAgg9
  z9 := Tryd.sizeOf9
  v9 := Tryd.zeroValue9
  t37 := Tryd.underlying52
  a37 := Tryd.isAgg52
  z37 := Tryd.sizeOf52
  v37 := Tryd.zeroValue52
  t70 := Tryd.underlying51
  a70 := Tryd.isAgg51
  z70 := Tryd.sizeOf51
  v70 := Tryd.zeroValue51
  t72 := Tryd.underlying54
  a72 := Tryd.isAgg54
  z72 := Tryd.sizeOf54
  v72 := Tryd.zeroValue54
  t127 := Tryd.underlying74
  a127 := Tryd.isAgg74
  z127 := Tryd.sizeOf74
  v127 := Tryd.zeroValue74 }
theorem Tryd.ly137 : Go.Proofs.Lays.n137 Tryd.prog Tryd.ren := {
  mixed := by kernel_rfl
  f137 := Tryd.func50.trans (congrArg some (by kernel_rfl))
  f217 := Tryd.func61.trans (congrArg some (by kernel_rfl))
  f266 := Tryd.func77.trans (congrArg some (by kernel_rfl))
  t3 := Tryd.underlying3
  a3 := Tryd.isAgg3
  z3 := Tryd.sizeOf3
  v3 := Tryd.zeroValue3
  t5 := Tryd.underlying5
  a5 := Tryd.isAgg5
  z5 := Tryd.sizeOf5
  v5 := Tryd.zeroValue5
  t9 := Tryd.underlying9
  a9 := Tryd.isAgg9
  z9 := Tryd.sizeOf9
  v9 := Tryd.zeroValue9 }
theorem Tryd.ly99 : Go.Proofs.Lays.n99 Tryd.prog Tryd.ren := {
  mixed := by kernel_rfl
  f99 := Tryd.func35.trans (congrArg some (by kernel_rfl))
  f206 := Tryd.func48.trans (congrArg some (by kernel_rfl))
  t3 := Tryd.underlying3
  a3 := Tryd.isAgg3
  z3 := Tryd.sizeOf3
  v3 := Tryd.zeroValue3
  t4 := Tryd.underlying4
  a4 := Tryd.isAgg4
  z4 := Tryd.sizeOf4
  v4 := Tryd.zeroValue4
  t9 := Tryd.underlying9
  a9 := Tryd.isAgg9
  z9 := Tryd.sizeOf9
  v9 := Tryd.zeroValue9 }
theorem Tryd.ly145 : Go.Proofs.Lays.n145 Tryd.prog Tryd.ren := {
  mixed := by kernel_rfl
  f145 := Tryd.func36.trans (congrArg some (by kernel_rfl))
  f217 := Tryd.func61.trans (congrArg some (by kernel_rfl))
  f219 := Tryd.func60.trans (congrArg some (by kernel_rfl))
  f220 := Tryd.func49.trans (congrArg some (by kernel_rfl))
  f224 := Tryd.func75.trans (congrArg some (by kernel_rfl))
  f225 := Tryd.func74.trans (congrArg some (by kernel_rfl))
  f266 := Tryd.func77.trans (congrArg some (by kernel_rfl))
  f267 := Tryd.func76.trans (congrArg some (by kernel_rfl))
  f314 := Tryd.func85.trans (congrArg some (by kernel_rfl))
  t3 := Tryd.underlying3
  a3 := Tryd.isAgg3
  z3 := Tryd.sizeOf3
  v3 := Tryd.zeroValue3
  t4 := Tryd.underlying4
  a4 := Tryd.isAgg4
  z4 := Tryd.sizeOf4
  v4 := Tryd.zeroValue4
  t5 := Tryd.underlying5
  a5 := Tryd.isAgg5
  z5 := Tryd.sizeOf5
  v5 := Tryd.zeroValue5
  t9 := Tryd.underlying9
  a9 := Tryd.isAgg9
  z9 := Tryd.sizeOf9
  v9 := Tryd.zeroValue9
  t46 := Tryd.underlying84
  a46 := Tryd.isAgg84
  z46 := Tryd.sizeOf84
  v46 := Tryd.zeroValue84
  t51 := Tryd.underlying91
  a51 := Tryd.isAgg91
  z51 := Tryd.sizeOf91
  v51 := Tryd.zeroValue91
  t59 := Tryd.underlying62
  a59 := Tryd.isAgg62
  z59 := Tryd.sizeOf62
  v59 := Tryd.zeroValue62
  t146 := Tryd.underlying112
  a146 := Tryd.isAgg112
  z146 := Tryd.sizeOf112
  v146 := Tryd.zeroValue112
  g1 := by kernel_rfl }
theorem Tryd.ly197 : Go.Proofs.Lays.n197 Tryd.prog Tryd.ren := {
  mixed := by kernel_rfl
  f197 := Tryd.func29.trans (congrArg some (by kernel_rfl))
  f260 := Tryd.func45.trans (congrArg some (by kernel_rfl))
  t0 := Tryd.underlying0
  a0 := Tryd.isAgg0
  z0 := Tryd.sizeOf0
  v0 := Tryd.zeroValue0
  t3 := Tryd.underlying3
  a3 := Tryd.isAgg3
  z3 := Tryd.sizeOf3
  v3 := Tryd.zeroValue3
  t4 := Tryd.underlying4
  a4 := Tryd.isAgg4
  z4 := Tryd.sizeOf4
  v4 := Tryd.zeroValue4
  t5 := Tryd.underlying5
  a5 := Tryd.isAgg5
  z5 := Tryd.sizeOf5
  v5 := Tryd.zeroValue5
  t9 := Tryd.underlying9
  a9 := Tryd.isAgg9
  z9 := Tryd.sizeOf9
  v9 := Tryd.zeroValue9
  t21 := Tryd.underlying21
  a21 := Tryd.isAgg21
  z21 := Tryd.sizeOf21
  v21 := Tryd.zeroValue21
  t46 := Tryd.underlying84
  a46 := Tryd.isAgg84
  z46 := Tryd.sizeOf84
  v46 := Tryd.zeroValue84
  t105 := Tryd.underlying49
  a105 := Tryd.isAgg49
  z105 := Tryd.sizeOf49
  v105 := Tryd.zeroValue49
  t119 := Tryd.underlying83
  a119 := Tryd.isAgg83
  z119 := Tryd.sizeOf83
  t138 := Tryd.underlying86
  a138 := Tryd.isAgg86
  z138 := Tryd.sizeOf86
  v138 := Tryd.zeroValue86
  t139 := Tryd.underlying87
  a139 := Tryd.isAgg87
  z139 := Tryd.sizeOf87
  v139 := Tryd.zeroValue87
  g3 := by kernel_rfl
  g4 := by kernel_rfl }
theorem Tryd.ly171M : Go.Proofs.LaysM.n171 Tryd.prog Tryd.ren := {
  mixed := by kernel_rfl
  f129 := Tryd.func81.trans (congrArg some (by kernel_rfl))
  f171 := Tryd.func43.trans (congrArg some (by kernel_rfl))
  f243 := Tryd.func57.trans (congrArg some (by kernel_rfl))
  f246 := Tryd.func59.trans (congrArg some (by kernel_rfl))
  f283 := Tryd.func70.trans (congrArg some (by kernel_rfl))
  f284 := Tryd.func71.trans (congrArg some (by kernel_rfl))
  f285 := Tryd.func72.trans (congrArg some (by kernel_rfl))
  f286 := Tryd.func73.trans (congrArg some (by kernel_rfl))
  f317 := Tryd.func80.trans (congrArg some (by kernel_rfl))
  f318 := Tryd.func82.trans (congrArg some (by kernel_rfl))
  f319 := Tryd.func83.trans (congrArg some (by kernel_rfl))
  f320 := Tryd.func84.trans (congrArg some (by kernel_rfl))
  f337 := Tryd.func86.trans (congrArg some (by kernel_rfl))
  f338 := Tryd.func87.trans (congrArg some (by kernel_rfl))
  t0 := Tryd.underlying0
  a0 := Tryd.isAgg0
  z0 := Tryd.sizeOf0
  v0 := Tryd.zeroValue0
  t2 := Tryd.underlying2
  a2 := Tryd.isAgg2
  z2 := Tryd.sizeOf2
  v2 := Tryd.zeroValue2
  t3 := Tryd.underlying3
  a3 := Tryd.isAgg3
  z3 := Tryd.sizeOf3
  v3 := Tryd.zeroValue3
  t4 := Tryd.underlying4
  a4 := Tryd.isAgg4
  z4 := Tryd.sizeOf4
  v4 := Tryd.zeroValue4
  t5 := Tryd.underlying5
  a5 := Tryd.isAgg5
  z5 := Tryd.sizeOf5
  v5 := Tryd.zeroValue5
  t9 := Tryd.underlying9
  a9 := Tryd.isAgg9
  z9 := Tryd.sizeOf9
  v9 := Tryd.zeroValue9
  t20 := Tryd.underlying20
  a20 := Tryd.isAgg20
  z20 := Tryd.sizeOf20
  v20 := Tryd.zeroValue20
  t37 := Tryd.underlying52
  a37 := Tryd.isAgg52
  z37 := Tryd.sizeOf52
  v37 := Tryd.zeroValue52
  t46 := Tryd.underlying84
  a46 := Tryd.isAgg84
  z46 := Tryd.sizeOf84
  v46 := Tryd.zeroValue84
  t51 := Tryd.underlying91
  a51 := Tryd.isAgg91
  z51 := Tryd.sizeOf91
  v51 := Tryd.zeroValue91
  t53 := Tryd.underlying69
  a53 := Tryd.isAgg69
  z53 := Tryd.sizeOf69
  v53 := Tryd.zeroValue69
  t171 := Tryd.underlying98
  a171 := Tryd.isAgg98
  z171 := Tryd.sizeOf98
  v171 := Tryd.zeroValue98
  t173 := Tryd.underlying101
  a173 := Tryd.isAgg101
  z173 := Tryd.sizeOf101
  v173 := Tryd.zeroValue101
  t212 := Tryd.underlying108
  a212 := Tryd.isAgg108
  z212 := Tryd.sizeOf108
  v212 := Tryd.zeroValue108
  t213 := Tryd.underlying109
  a213 := Tryd.isAgg109
  z213 := Tryd.sizeOf109
  t232 := Tryd.underlying118
  a232 := Tryd.isAgg118
  z232 := Tryd.sizeOf118
  v232 := Tryd.zeroValue118
  t233 := Tryd.underlying119
  a233 := Tryd.isAgg119
  z233 := Tryd.sizeOf119
  v233 := Tryd.zeroValue119
  g17 := by kernel_rfl
  g18 := by kernel_rfl
  g19 := by kernel_rfl
  i0 := by kernel_rfl
  i2 := by kernel_rfl
  i3 := by kernel_rfl
  i4 := by kernel_rfl
  i5 := by kernel_rfl
  i9 := by kernel_rfl
  i20 := by kernel_rfl
  i37 := by kernel_rfl
  i46 := by kernel_rfl
  i51 := by kernel_rfl
  i53 := by kernel_rfl
  i171 := by kernel_rfl
  i173 := by kernel_rfl
  i212 := by kernel_rfl
  i232 := by kernel_rfl
  i233 := by kernel_rfl
  m17 := by kernel_rfl
  m18 := by kernel_rfl
  m19 := by kernel_rfl }
theorem Tryd.ly287 : Go.Proofs.Lays.n287 Tryd.prog Tryd.ren := {
  mixed := by kernel_rfl
  f287 := Tryd.func55.trans (congrArg some (by kernel_rfl))
  f321 := Tryd.func64.trans (congrArg some (by kernel_rfl))
  f322 := Tryd.func65.trans (congrArg some (by kernel_rfl))
  t0 := Tryd.underlying0
  a0 := Tryd.isAgg0
  z0 := Tryd.sizeOf0
  v0 := Tryd.zeroValue0
  t3 := Tryd.underlying3
  a3 := Tryd.isAgg3
  z3 := Tryd.sizeOf3
  v3 := Tryd.zeroValue3
  t4 := Tryd.underlying4
  a4 := Tryd.isAgg4
  z4 := Tryd.sizeOf4
  v4 := Tryd.zeroValue4
  t5 := Tryd.underlying5
  a5 := Tryd.isAgg5
  z5 := Tryd.sizeOf5
  v5 := Tryd.zeroValue5
  t9 := Tryd.underlying9
  a9 := Tryd.isAgg9
  z9 := Tryd.sizeOf9
  v9 := Tryd.zeroValue9
  t21 := Tryd.underlying21
  a21 := Tryd.isAgg21
  z21 := Tryd.sizeOf21
  v21 := Tryd.zeroValue21
  t37 := Tryd.underlying52
  a37 := Tryd.isAgg52
  z37 := Tryd.sizeOf52
  v37 := Tryd.zeroValue52
  t46 := Tryd.underlying84
  a46 := Tryd.isAgg84
  z46 := Tryd.sizeOf84
  v46 := Tryd.zeroValue84
  t53 := Tryd.underlying69
  a53 := Tryd.isAgg69
  z53 := Tryd.sizeOf69
  v53 := Tryd.zeroValue69
  t75 := Tryd.underlying56
  a75 := Tryd.isAgg56
  z75 := Tryd.sizeOf56
  v75 := Tryd.zeroValue56
  t167 := Tryd.underlying93
  a167 := Tryd.isAgg93
  z167 := Tryd.sizeOf93
  v167 := Tryd.zeroValue93 }
theorem Tryd.ly245C : Go.Proofs.LaysC.n245 Tryd.prog Tryd.ren := {
  mixed := by kernel_rfl
  f129 := Tryd.func81.trans (congrArg some (by kernel_rfl))
  f171 := Tryd.func43.trans (congrArg some (by kernel_rfl))
  f205 := Tryd.func79.trans (congrArg some (by kernel_rfl))
  f243 := Tryd.func57.trans (congrArg some (by kernel_rfl))
  f245 := Tryd.func56.trans (congrArg some (by kernel_rfl))
  f246 := Tryd.func59.trans (congrArg some (by kernel_rfl))
  f279 := Tryd.func66.trans (congrArg some (by kernel_rfl))
  f280 := Tryd.func67.trans (congrArg some (by kernel_rfl))
  f281 := Tryd.func68.trans (congrArg some (by kernel_rfl))
  f282 := Tryd.func69.trans (congrArg some (by kernel_rfl))
  f283 := Tryd.func70.trans (congrArg some (by kernel_rfl))
  f284 := Tryd.func71.trans (congrArg some (by kernel_rfl))
  f285 := Tryd.func72.trans (congrArg some (by kernel_rfl))
  f286 := Tryd.func73.trans (congrArg some (by kernel_rfl))
  f316 := Tryd.func78.trans (congrArg some (by kernel_rfl))
  f317 := Tryd.func80.trans (congrArg some (by kernel_rfl))
  f318 := Tryd.func82.trans (congrArg some (by kernel_rfl))
  f319 := Tryd.func83.trans (congrArg some (by kernel_rfl))
  f320 := Tryd.func84.trans (congrArg some (by kernel_rfl))
  f337 := Tryd.func86.trans (congrArg some (by kernel_rfl))
  f338 := Tryd.func87.trans (congrArg some (by kernel_rfl))
  t0 := Tryd.underlying0
  a0 := Tryd.isAgg0
  z0 := Tryd.sizeOf0
  v0 := Tryd.zeroValue0
  t2 := Tryd.underlying2
  a2 := Tryd.isAgg2
  z2 := Tryd.sizeOf2
  v2 := Tryd.zeroValue2
  t3 := Tryd.underlying3
  a3 := Tryd.isAgg3
  z3 := Tryd.sizeOf3
  v3 := Tryd.zeroValue3
  t4 := Tryd.underlying4
  a4 := Tryd.isAgg4
  z4 := Tryd.sizeOf4
  v4 := Tryd.zeroValue4
  t5 := Tryd.underlying5
  a5 := Tryd.isAgg5
  z5 := Tryd.sizeOf5
  v5 := Tryd.zeroValue5
  t9 := Tryd.underlying9
  a9 := Tryd.isAgg9
  z9 := Tryd.sizeOf9
  v9 := Tryd.zeroValue9
  t20 := Tryd.underlying20
  a20 := Tryd.isAgg20
  z20 := Tryd.sizeOf20
  v20 := Tryd.zeroValue20
  t37 := Tryd.underlying52
  a37 := Tryd.isAgg52
  z37 := Tryd.sizeOf52
  v37 := Tryd.zeroValue52
  t46 := Tryd.underlying84
  a46 := Tryd.isAgg84
  z46 := Tryd.sizeOf84
  v46 := Tryd.zeroValue84
  t51 := Tryd.underlying91
  a51 := Tryd.isAgg91
  z51 := Tryd.sizeOf91
  v51 := Tryd.zeroValue91
  t53 := Tryd.underlying69
  a53 := Tryd.isAgg69
  z53 := Tryd.sizeOf69
  v53 := Tryd.zeroValue69
  t75 := Tryd.underlying56
  a75 := Tryd.isAgg56
  z75 := Tryd.sizeOf56
  v75 := Tryd.zeroValue56
  t127 := Tryd.underlying74
  a127 := Tryd.isAgg74
  z127 := Tryd.sizeOf74
  v127 := Tryd.zeroValue74
  t143 := Tryd.underlying114
  a143 := Tryd.isAgg114
  z143 := Tryd.sizeOf114
  v143 := Tryd.zeroValue114
  t145 := Tryd.underlying116
  a145 := Tryd.isAgg116
  z145 := Tryd.sizeOf116
  v145 := Tryd.zeroValue116
  t167 := Tryd.underlying93
  a167 := Tryd.isAgg93
  z167 := Tryd.sizeOf93
  v167 := Tryd.zeroValue93
  t168 := Tryd.underlying95
  a168 := Tryd.isAgg95
  z168 := Tryd.sizeOf95
  v168 := Tryd.zeroValue95
  t171 := Tryd.underlying98
  a171 := Tryd.isAgg98
  z171 := Tryd.sizeOf98
  v171 := Tryd.zeroValue98
  t173 := Tryd.underlying101
  a173 := Tryd.isAgg101
  z173 := Tryd.sizeOf101
  v173 := Tryd.zeroValue101
  t210 := Tryd.underlying105
  a210 := Tryd.isAgg105
  z210 := Tryd.sizeOf105
  v210 := Tryd.zeroValue105
  t212 := Tryd.underlying108
  a212 := Tryd.isAgg108
  z212 := Tryd.sizeOf108
  v212 := Tryd.zeroValue108
  t213 := Tryd.underlying109
  a213 := Tryd.isAgg109
  z213 := Tryd.sizeOf109
  t232 := Tryd.underlying118
  a232 := Tryd.isAgg118
  z232 := Tryd.sizeOf118
  v232 := Tryd.zeroValue118
  t233 := Tryd.underlying119
  a233 := Tryd.isAgg119
  z233 := Tryd.sizeOf119
  v233 := Tryd.zeroValue119
  g15 := by kernel_rfl
  g16 := by kernel_rfl
  g17 := by kernel_rfl
  g18 := by kernel_rfl
  g19 := by kernel_rfl
  t80 := Tryd.underlying61
  a80 := Tryd.isAgg61
  z80 := Tryd.sizeOf61
  v80 := Tryd.zeroValue61
  i0 := by kernel_rfl
  i2 := by kernel_rfl
  i3 := by kernel_rfl
  i4 := by kernel_rfl
  i5 := by kernel_rfl
  i9 := by kernel_rfl
  i20 := by kernel_rfl
  i37 := by kernel_rfl
  i46 := by kernel_rfl
  i51 := by kernel_rfl
  i53 := by kernel_rfl
  i75 := by kernel_rfl
  i80 := by kernel_rfl
  i127 := by kernel_rfl
  i143 := by kernel_rfl
  i145 := by kernel_rfl
  i167 := by kernel_rfl
  i168 := by kernel_rfl
  i171 := by kernel_rfl
  i173 := by kernel_rfl
  i210 := by kernel_rfl
  i212 := by kernel_rfl
  i232 := by kernel_rfl
  i233 := by kernel_rfl
  m15 := by kernel_rfl
  m16 := by kernel_rfl
  m17 := by kernel_rfl
  m18 := by kernel_rfl
  m19 := by kernel_rfl
  c0 := by kernel_rfl
  c2 := by kernel_rfl
  c3 := by kernel_rfl
  c4 := by kernel_rfl
  c5 := by kernel_rfl
  c9 := by kernel_rfl
  c20 := by kernel_rfl
  c37 := by kernel_rfl
  c46 := by kernel_rfl
  c51 := by kernel_rfl
  c53 := by kernel_rfl
  c75 := by kernel_rfl
  c80 := by kernel_rfl
  c127 := by kernel_rfl
  c143 := by kernel_rfl
  c145 := by kernel_rfl
  c167 := by kernel_rfl
  c168 := by kernel_rfl
  c171 := by kernel_rfl
  c173 := by kernel_rfl
  c210 := by kernel_rfl
  c212 := by kernel_rfl
  c213 := by kernel_rfl
  c232 := by kernel_rfl
  c233 := by kernel_rfl }
theorem Tryd.bx : Builder.Extra Tryd.prog Tryd.ren := {
  sizeBuilder := by kernel_rfl
  liesBuilder := by kernel_rfl
  t5 := Tryd.underlying5
  a5 := Tryd.isAgg5
  z5 := Tryd.sizeOf5
  v5 := Tryd.zeroValue5
  infoByte := by kernel_rfl
  cellsByte := by kernel_rfl
  sizeByte := by kernel_rfl
  neB5 := by decide }
end Go.Proofs
end
section
namespace Go.Proofs.YtlpkkkkgbnoiiaaDoor.H
open Go.RowKit Go.Proofs.YtlpkkkkgbnoiiaaDoorW.PrintWords Go.Proofs.YtlpkkkkgbnoiiaaDoorW.PrintLast Go.Proofs.YtlpkkkkgbnoiiaaDoorW.PrintMore
open Go.Maps
set_option linter.unusedVariables false
set_option linter.unusedSimpArgs false
structure GW (w : World) : Prop where
  pow : Lib.TabIs Tryd.prog w "internal/strconv.uint64pow10" .u64 Lib.pow10Tab
  u8 : Lib.Utf8Tabs 0 1 w
  db : TabAt 7 Lib.deBruijn64tab w
  ml : ∃ m : Int, w.cell? ⟨2, 0, none⟩ = some (.int .i64 m)
  er : ∃ (te : TypeId) (pe : Value), w.cell? ⟨4, 0, none⟩ = some (.iface te pe)
theorem var_below {w W : World} {n : String} {g : Nat} (hg : Tryd.prog.globalNamed n = some g) {x : Array Value} (h : w.var? Tryd.prog n = some x) (hb : Below w.heap.size w W) : W.var? Tryd.prog n = some x := by
  unfold World.var? at h ⊢
  rw [hg] at h ⊢
  simp only [Option.bind_some] at h ⊢
  have hlt : g < w.heap.size := by
    rcases Nat.lt_or_ge g w.heap.size with h' | h'
    · exact h'
    · rw [Array.getElem?_eq_none h'] at h; cases h
  rw [hb.block g hlt]
  exact h
theorem cell_below {w W : World} {a : Addr} {v : Value} (h : w.cell? a = some v) (hb : Below w.heap.size w W) : W.cell? a = some v :=
  (hb.cell (World.block_lt_of_cell? w _ h)).trans h
theorem GW.below {w W : World} (h : GW w) (hb : Below w.heap.size w W) : GW W :=
  ⟨var_below (g := 5) (by kernel_rfl) h.pow hb,
   ⟨fun c hc => cell_below (h.u8.1 c hc) hb, fun i hi => ⟨cell_below (h.u8.2 i hi).1 hb, cell_below (h.u8.2 i hi).2 hb⟩⟩,
   fun j hj => cell_below (h.db j hj) hb, h.ml.imp fun m hm => cell_below hm hb,
   h.er.imp fun te h2 => h2.imp fun pe h3 => cell_below h3 hb⟩
end Go.Proofs.YtlpkkkkgbnoiiaaDoor.H
end
section
namespace Go.Proofs.YtlpkkkkgbnoiiaaDoor.H
open Go.RowKit Go.Lib
theorem u8types : U8Types Tryd.prog Tryd.ren := { t5 := Tryd.underlying5, t119 := Tryd.underlying83, t138 := Tryd.underlying86, t139 := Tryd.underlying87 }
theorem u8extra : U8Extra Tryd.prog Tryd.ren := { n3 := by kernel_rfl, n4 := by kernel_rfl, y3 := by kernel_rfl, y4 := by kernel_rfl, c5 := by kernel_rfl, c119 := by kernel_rfl, c138 := by kernel_rfl }
theorem tab_of_reads {P : Program} {W : World} {name : String} {k : IntKind} {zs : List Int} {g : Nat} {t e : TypeId} {n : Nat}
    (hg : P.globalNamed name = some g) (hty : (P.globals[g]?).map (·.type) = some t) (ht : P.underlying t = some (.array n e)) (he : P.underlying e = some (.int k)) (hce : P.cellsOf e = 1) (hct : P.cellsOf t = n)
    (h : VarReads P W name (Lib.tabData k zs)) : Lib.TabIs P W name k zs := by
  obtain ⟨g', t', cs, fuel, p, hg', ht', hvar, hd⟩ := h
  obtain rfl := Option.some.inj (hg.symm.trans hg')
  obtain rfl := Option.some.inj (hty.symm.trans ht')
  unfold Lib.TabIs
  rw [hvar, ← Lib.cells_of_tab ht he hce hct hd]
theorem star_err : "*" ++ "errors.errorString" = "*errors.errorString" := by decide
theorem row_err (u : TypeId) (h : Tryd.prog.typeName? 3 u = some "*errors.errorString") : u = 114 :=
  typeName_ptr_named (nm := "errors.errorString") (by rw [star_err]; kernel_rfl) (by kernel_rfl) (by decide) u (by rw [star_err]; exact h)
theorem err_of_laid {W : World} {text : List UInt8} {r : List (String × DataW Unit)} (h : laidMet Tryd.prog (("strconv.ErrRange", .iface "*errors.errorString" (.ptr (.agg [.lit (.string text)]))) :: r) W) :
    ∃ (te : TypeId) (pe : Value), W.cell? ⟨4, 0, none⟩ = some (.iface te pe) := by
  have hg : Tryd.prog.globalNamed "strconv.ErrRange" = some 4 := by kernel_rfl
  obtain ⟨a0, s0, hv0, -, -, -⟩ := laid_sentinel h hg (by kernel_rfl) Tryd.underlying56 row_err Tryd.underlying114 Tryd.underlying116 rfl rfl Tryd.underlying9 (by kernel_rfl) (by kernel_rfl)
  exact ⟨_, _, by have h0 := World.var?_cell hg hv0 0; simpa using h0⟩
theorem gw_of {W : World} (hsh : W.ShapedOpen Tryd.prog) (h1 : VarReads Tryd.prog W "internal/strconv.uint64pow10" (Lib.tabData .u64 Lib.pow10Tab)) (h2 : VarReads Tryd.prog W "unicode/utf8.first" Lib.firstData) (h3 : VarReads Tryd.prog W "unicode/utf8.acceptRanges" Lib.acceptData)
    (h4 : VarReads Tryd.prog W "math/bits.deBruijn64tab" (Lib.tabData .u8 ((deBruijn64tab.map fun n : Nat => (n : Int)) : List Int)))
    (h5 : ∃ (te : TypeId) (pe : Value), W.cell? ⟨4, 0, none⟩ = some (.iface te pe)) : GW W := by
  refine ⟨tab_of_reads (g := 5) (by kernel_rfl) (by kernel_rfl) Tryd.underlying108 Tryd.underlying69 (by kernel_rfl) (by kernel_rfl) h1, utf8Tabs_of_readsT u8types u8extra h2 h3, ?_, ?_, h5⟩
  · intro j hj
    have h := tab_of_reads (g := 7) (by kernel_rfl) (by kernel_rfl) Tryd.underlying119 Tryd.underlying5 (by kernel_rfl) (by kernel_rfl) h4
    have := Lib.TabIs.cell h (g := 7) (by kernel_rfl) j (by simpa using hj)
    rw [this]
    simp [List.getD_eq_getElem?_getD, List.getElem?_map, List.getElem?_eq_getElem hj]
  · exact cell_of_shapedOpen_int hsh (of_decide_eq_true (by kernel_rfl)) (t := 3) (zero := #[.int .i64 0]) (by kernel_rfl) rfl (by kernel_rfl) (by kernel_rfl) Tryd.underlying3
end Go.Proofs.YtlpkkkkgbnoiiaaDoor.H
end
section
namespace Go.Proofs.YtlpkkkkgbnoiiaaDoor.H
open Go.RowKit
set_option linter.unusedVariables false
set_option linter.unusedSimpArgs false
structure IStep (X : Nat → Prop) (W W' : World) (X' : Nat → Prop) : Prop where
  os : W'.os = W.os
  tape : W'.tape = W.tape
  output : W'.output = W.output
  size : W.heap.size ≤ W'.heap.size
  block : ∀ k, k < W.heap.size → ¬ X k → W'.heap[k]? = W.heap[k]?
  own : ∀ k, X' k → X k ∨ (W.heap.size ≤ k ∧ k < W'.heap.size)
theorem IStep.refl (X : Nat → Prop) (W : World) : IStep X W W X := ⟨rfl, rfl, rfl, Nat.le_refl _, fun _ _ _ => rfl, fun _ h => .inl h⟩
theorem IStep.trans {X Y Z : Nat → Prop} {A B C : World} (h : IStep X A B Y) (g : IStep Y B C Z) : IStep X A C Z :=
  ⟨g.os.trans h.os, g.tape.trans h.tape, g.output.trans h.output, Nat.le_trans h.size g.size,
    fun k hk hx => (g.block k (Nat.lt_of_lt_of_le hk h.size) (fun hy => by rcases h.own k hy with q | q; exact hx q; omega)).trans (h.block k hk hx),
    fun k hk => by
      rcases g.own k hk with q | ⟨q1, q2⟩
      · rcases h.own k q with r | ⟨r1, r2⟩
        · exact .inl r
        · exact .inr ⟨r1, Nat.lt_of_lt_of_le r2 g.size⟩
      · exact .inr ⟨Nat.le_trans h.size q1, q2⟩⟩
theorem IStep.of_below {X : Nat → Prop} {W W' : World} (h : Below W.heap.size W W') : IStep X W W' X :=
  ⟨h.os, h.tape, h.output, h.size, fun k hk _ => h.block k hk, fun _ hx => .inl hx⟩
def xnew (X : Nat → Prop) (W W' : World) : Nat → Prop := fun k => X k ∨ (W.heap.size ≤ k ∧ k < W'.heap.size)
theorem IStep.new {X : Nat → Prop} {W W' : World} (h : Below W.heap.size W W') : IStep X W W' (xnew X W W') :=
  ⟨h.os, h.tape, h.output, h.size, fun k hk _ => h.block k hk, fun _ hx => hx⟩
theorem IStep.at {X : Nat → Prop} {W W' : World} {r : Nat} (hx : X r) (h : W.grownBy W' (some r)) : IStep X W W' X :=
  ⟨h.os, h.tape, h.output, h.size, fun k hk hn => h.block k hk (fun e => hn (by cases e; exact hx)), fun _ h => .inl h⟩
theorem grownBy_put (W : World) (l : Nat) (o : Obj) : W.grownBy (W.putObj l o) (some l) :=
  ⟨rfl, rfl, rfl, by simp, fun k _ hk => World.putObj_heap_other (fun e => hk (by rw [e]))⟩
theorem grownBy_set (W : World) (a : Addr) (v : Value) : W.grownBy (W.setCell a v) (some a.block) :=
  ⟨rfl, rfl, rfl, by simp, fun k _ hk => Below.heap_setCell W a v k (fun e => hk (by rw [e]))⟩
def Abides {β : Type} (J : β → (Nat → Prop) → World → Prop) : Prop := ∀ s X W W' X', J s X W → IStep X W W' X' → J s X' W'
theorem IStep.keep {X X' : Nat → Prop} {W W' : World} (h : IStep X W W' X') {k : Nat} {o : Obj} (hk : W.heap[k]? = some o) (hx : ¬ X k) : W'.heap[k]? = some o :=
  (h.block k (Array.getElem?_eq_some_iff.1 hk).1 hx).trans hk
theorem IStep.keepX {X X' : Nat → Prop} {W W' : World} (h : IStep X W W' X') {k : Nat} (hk : k < W.heap.size) (hx : ¬ X k) : ¬ X' k := fun q => by
  rcases h.own k q with r | r
  · exact hx r
  · omega
theorem IStep.below {X X' : Nat → Prop} {w W W' : World} {B : Nat} (h : IStep X W W' X') (hb : Below B w W) (hx : ∀ k, X k → B ≤ k) (hB : B ≤ w.heap.size) : Below B w W' :=
  ⟨h.os.trans hb.os, h.tape.trans hb.tape, h.output.trans hb.output, Nat.le_trans hb.size h.size,
    fun k hk => (h.block k (by have := hb.size; omega) (fun q => by have := hx k q; omega)).trans (hb.block k hk)⟩
theorem IStep.ge {X X' : Nat → Prop} {W W' : World} {B : Nat} (h : IStep X W W' X') (hx : ∀ k, X k → B ≤ k) (hB : B ≤ W.heap.size) : ∀ k, X' k → B ≤ k := fun k hk => by
  rcases h.own k hk with q | q
  · exact hx k q
  · omega
structure Keeps (Y : Nat → Prop) (W W' : World) : Prop where
  size : W.heap.size ≤ W'.heap.size
  same : ∀ k, Y k → k < W.heap.size → W'.heap[k]? = W.heap[k]?
theorem Keeps.refl (Y : Nat → Prop) (W : World) : Keeps Y W W := ⟨Nat.le_refl _, fun _ _ _ => rfl⟩
theorem Keeps.trans {Y : Nat → Prop} {A B C : World} (h : Keeps Y A B) (g : Keeps Y B C) : Keeps Y A C :=
  ⟨Nat.le_trans h.size g.size, fun k hy hk => (g.same k hy (Nat.lt_of_lt_of_le hk h.size)).trans (h.same k hy hk)⟩
theorem Keeps.of_below {Y : Nat → Prop} {W W' : World} (h : Below W.heap.size W W') : Keeps Y W W' := ⟨h.size, fun k _ hk => h.block k hk⟩
theorem Keeps.of_grown {Y : Nat → Prop} {W W' : World} {r : Option Nat} (h : W.grownBy W' r) (hr : ∀ k, r = some k → ¬ Y k) : Keeps Y W W' :=
  ⟨h.size, fun k hy hk => h.block k hk (fun e => hr k e.symm hy)⟩
theorem Keeps.set {Y : Nat → Prop} (W : World) (a : Addr) (v : Value) (h : ¬ Y a.block) : Keeps Y W (W.setCell a v) := .of_grown (grownBy_set W a v) (fun k e => by cases e; exact h)
theorem Keeps.sub {Y Z : Nat → Prop} {W W' : World} (h : Keeps Y W W') (hz : ∀ k, Z k → Y k) : Keeps Z W W' := ⟨h.size, fun k hk => h.same k (hz k hk)⟩
def Told {α : Type} (Y X : Nat → Prop) (J Jx : List α → (Nat → Prop) → World → Prop) (ys : List α) (W : World) (e : Ending) (W' : World) : Prop :=
  Keeps Y W W' ∧ ((e = .returned (.bool true) ∧ J ys X W') ∨ (e = .returned (.bool false) ∧ Jx ys X W'))
def Ended {α : Type} (J Jx : List α → (Nat → Prop) → World → Prop) (L : List α) (e : Ending) (W' : World) : Prop :=
  (∃ v, e = .returned v) ∧ ((∃ X, (∀ k, X k → k < W'.heap.size) ∧ J L X W') ∨ (∃ pre X, pre <+: L ∧ Jx pre X W'))
def Gives {α : Type} (P : Program) (gf : Nat) (lb : Array Value) (encs : α → Array Value) (K : Nat → Prop) (L : List α) (w0 : World) : Prop :=
  (∀ k, K k → k < w0.heap.size) ∧
  ∀ (l : Nat) (J Jx : List α → (Nat → Prop) → World → Prop) (W : World), Below w0.heap.size w0 W → Abides J → Abides Jx →
    (∀ pre x post X W', L = pre ++ x :: post → J pre X W' → (∀ k, X k → W.heap.size ≤ k ∧ k < W'.heap.size) → W.heap.size ≤ W'.heap.size →
      YieldAt Fence.wide 0 P l (encs x) W' (Told (fun k => X k ∨ K k) X J Jx (pre ++ [x]) W')) →
    J [] (fun _ => False) W →
    CallsIn Fence.wide 0 P gf (#[.func (.yield l) #[] #[]] ++ lb) W (Ended J Jx L)
def bodyEnds {α : Type} (Y X : Nat → Prop) (I : List α → (Nat → Prop) → World → Prop) (Ix : Code → List α → (Nat → Prop) → World → Prop) (ys : List α) (W : World) : Exit → Act → World → Prop
  | .normal, _, W' => Keeps Y W W' ∧ I ys X W'
  | .ret, _, W' => Keeps Y W W' ∧ Ix .ret ys X W'
  | .exit id, _, W' => Keeps Y W W' ∧ Ix (.exit id) ys X W'
  | .goto t, _, W' => Keeps Y W W' ∧ Ix (.goto t) ys X W'
  | .panic _, _, _ => False
  | .outgrown, _, _ => False
theorem wp_range {α : Type} {P : Program} {g : Operand} {ps : Array Tmp} {assign body : Code} {Q : Exit → Act → World → Prop} {a : Act} {w : World}
    {gf : Nat} {lb : Array Value} (hg : a.eval g = .func (.func gf) #[] lb) (eg : ∀ args w, (callFunc gf args).run P w = .ok (.enter gf args) w)
    {encs : α → Array Value} {K : Nat → Prop} {L : List α} {w0 : World} (hseq : Gives P gf lb encs K L w0) (hb0 : Below w0.heap.size w0 w) (hps : ∀ x, (encs x).size = ps.size)
    (I : List α → (Nat → Prop) → World → Prop) (Ix : Code → List α → (Nat → Prop) → World → Prop) (M : List α → α → Act → (Nat → Prop) → World → Prop)
    (hI : Abides I) (hIx : ∀ c, Abides (Ix c)) (hM : ∀ pre x a₁, Abides (fun (_ : Unit) => M pre x a₁)) (h0 : I [] (fun _ => False) w)
    (hassign : ∀ (l : Nat) (pre : List α) (x : α) (post : List α) (X : Nat → Prop) (W : World), L = pre ++ x :: post → I pre X W → (∀ k, X k → w.heap.size ≤ k ∧ k < W.heap.size) →
      assign.wpIn (Fence.wide.inRound l) 0 P (Exit.then (fun a₁ W₁ => Keeps (fun k => X k ∨ K k) W W₁ ∧ M pre x a₁ X W₁) (fun _ _ _ => False)) { tmps := (ps.zip (encs x)).foldl (fun t (p, v) => t.setIfInBounds p v) a.tmps, defers := [] } W)
    (hbody : ∀ (l : Nat) (pre : List α) (x : α) (post : List α) (a₁ : Act) (X : Nat → Prop) (W : World), L = pre ++ x :: post → M pre x a₁ X W → (∀ k, X k → w.heap.size ≤ k ∧ k < W.heap.size) →
      body.wpIn (Fence.wide.inRound l) 0 P (bodyEnds (fun k => X k ∨ K k) X I Ix (pre ++ [x]) W) a₁ W)
    (hdone : ∀ (X : Nat → Prop) (W : World), I L X W → X w.heap.size → (∀ k, X k → w.heap.size ≤ k ∧ k < W.heap.size) → W.heap[w.heap.size]? = some (.deferred (some [])) → Q .normal { a with defers := { target := .collected w.heap.size, args := #[] } :: a.defers } W)
    (hstop : ∀ (c : Code) (pre : List α) (X : Nat → Prop) (W : World), pre <+: L → Ix c pre X W → X w.heap.size → W.heap[w.heap.size]? = some (.deferred (some [])) → c.wpIn Fence.wide 0 P Q { a with defers := { target := .collected w.heap.size, args := #[] } :: a.defers } W) :
    (Code.rangeFunc g ps assign body).wpIn Fence.wide 0 P Q a w := by
  obtain ⟨hK, hseq⟩ := hseq
  refine wpIn_rangeFunc ?_
  intro fn hfn
  obtain ⟨rec, hrec⟩ : ∃ rec : LoopState → Option Code → Loop, rec = fun st pe => { state := st, pending := pe, fn, tmps := a.tmps, params := ps, assign, body, defers := w.heap.size } := ⟨_, rfl⟩
  obtain ⟨W1, hW1⟩ : ∃ W1, (w.alloc (.deferred (some []))).alloc (.loop (rec .ready none)) = W1 := ⟨_, rfl⟩
  have hL1 : W1.heap[w.heap.size + 1]? = some (.loop (rec .ready none)) := by
    rw [← hW1]; have := World.alloc_heap_new (w.alloc (.deferred (some []))) (.loop (rec .ready none)); rwa [World.size_alloc] at this
  have hD1 : W1.heap[w.heap.size]? = some (.deferred (some [])) := by
    rw [← hW1]; exact (Below.heap_alloc _ _ _ (by simp)).trans (World.alloc_heap_new w _)
  have hs1 : W1.heap.size = w.heap.size + 2 := by rw [← hW1]; simp
  have hbw : Below w.heap.size w W1 := by rw [← hW1]; exact ((Below.refl _ w).alloc (Nat.le_refl _) _).alloc (by simp) _
  have hb1 : Below w0.heap.size w0 W1 := hb0.trans (hbw.mono hb0.size)
  obtain ⟨Z, hZ⟩ : ∃ Z : (Nat → Prop) → Nat → Prop, Z = fun X k => X k ∨ k = w.heap.size ∨ k = w.heap.size + 1 := ⟨_, rfl⟩
  have hI1 : I [] (Z fun _ => False) W1 := hI _ _ _ _ _ h0 ⟨hbw.os, hbw.tape, hbw.output, hbw.size, fun k hk _ => hbw.block k hk, fun k hk => .inr (by rw [hZ] at hk; simp at hk; omega)⟩
  refine ⟨w.heap.size + 1, [{ target := .collected w.heap.size, args := #[] }], W1, { target := .fn (.func gf) lb, args := #[.func (.yield (w.heap.size + 1)) #[] #[]] }, W1, gf,
    #[.func (.yield (w.heap.size + 1)) #[] #[]] ++ lb, W1, ?_, ?_, fun _ _ => trivial, ?_, (fun h => by cases h), ?_⟩
  · rw [← hW1, hrec]; exact run_enterLoop_outer _ _ _ _ _
  · simp only [resolve, hg]
    simp [go_sem]
  · simp [invoke, go_sem, eg]
  have zstep : ∀ {X X' : Nat → Prop} {A B : World}, IStep X A B X' → IStep (Z X) A B (Z X') := fun {X X' A B} h => ⟨h.os, h.tape, h.output, h.size,
    fun k hk hn => h.block k hk (fun q => hn (by rw [hZ]; exact .inl q)), fun k hk => by
      rw [hZ] at hk ⊢
      rcases hk with q | q
      · rcases h.own k q with r | r
        · exact .inl (.inl r)
        · exact .inr r
      · exact .inl (.inr q)⟩
  have zput : ∀ {X : Nat → Prop} (A : World) (o : Obj), IStep (Z X) A (A.putObj (w.heap.size + 1) o) (Z X) := fun A o => IStep.at (by rw [hZ]; exact .inr (.inr rfl)) (grownBy_put A _ o)
  refine (hseq (w.heap.size + 1)
    (fun pre X W => I pre (Z X) W ∧ (¬ X w.heap.size ∧ ¬ X (w.heap.size + 1)) ∧ W.heap[w.heap.size + 1]? = some (.loop (rec .ready none)) ∧ W.heap[w.heap.size]? = some (.deferred (some [])))
    (fun pre X W => ∃ c, Ix c pre (Z X) W ∧ (¬ X w.heap.size ∧ ¬ X (w.heap.size + 1)) ∧ W.heap[w.heap.size + 1]? = some (.loop (rec .done (some c))) ∧ W.heap[w.heap.size]? = some (.deferred (some [])))
    W1 hb1 ?_ ?_ ?_ ⟨hI1, ⟨id, id⟩, hL1, hD1⟩).mono ?_
  · rintro s X A B X' ⟨hi, ⟨hx1, hx2⟩, hl, hd⟩ hst
    exact ⟨hI _ _ _ _ _ hi (zstep hst), ⟨hst.keepX (Array.getElem?_eq_some_iff.1 hd).1 hx1, hst.keepX (Array.getElem?_eq_some_iff.1 hl).1 hx2⟩, hst.keep hl hx2, hst.keep hd hx1⟩
  · rintro s X A B X' ⟨c, hi, ⟨hx1, hx2⟩, hl, hd⟩ hst
    exact ⟨c, hIx c _ _ _ _ _ hi (zstep hst), ⟨hst.keepX (Array.getElem?_eq_some_iff.1 hd).1 hx1, hst.keepX (Array.getElem?_eq_some_iff.1 hl).1 hx2⟩, hst.keep hl hx2, hst.keep hd hx1⟩
  ·
    rintro pre x post X W hL ⟨hi, ⟨hx1, hx2⟩, hl, hd⟩ hXb hWs
    have hlt : w.heap.size + 1 < W.heap.size := (Array.getElem?_eq_some_iff.1 hl).1
    have hy := run_yield (P := P) (args := encs x) hl (by rw [hrec]; exact hps x)
    rw [hrec] at hy
    have hZb : ∀ k, Z X k → w.heap.size ≤ k ∧ k < W.heap.size := fun k hk => by
      rw [hZ] at hk
      rcases hk with q | q | q
      · have := hXb k q; omega
      · omega
      · omega
    have hKl : ¬ K (w.heap.size + 1) := fun q => by have := hK _ q; have := hb0.size; omega
    have hKd : ¬ K w.heap.size := fun q => by have := hK _ q; have := hb0.size; omega
    refine ⟨fn, _, assign, body, hy, roundIn_of_wpIn trivial (wpIn_mono (hassign _ pre x post (Z X) W hL hi hZb) ?_)⟩
    rintro e a₁ W₁ hp
    cases e with
    | normal =>
      obtain ⟨hk1, hm1⟩ := hp
      have hl1 : W₁.heap[w.heap.size + 1]? = some (.loop (rec .ready none)) := (hk1.same _ (.inl (by rw [hZ]; exact .inr (.inr rfl))) hlt).trans hl
      have hlt1 := Nat.lt_of_lt_of_le hlt hk1.size
      refine ⟨_, run_beginRound hl1 (by rw [hrec]), ?_⟩
      have hm2 := hM pre x a₁ () _ _ _ _ hm1 (zput W₁ (.loop { rec .ready none with state := .busy }))
      have hl2 : (W₁.putObj (w.heap.size + 1) (.loop { rec .ready none with state := .busy })).heap[w.heap.size + 1]? = some (.loop { rec .ready none with state := .busy }) := World.putObj_heap_same hlt1
      have hd1 : W₁.heap[w.heap.size]? = some (.deferred (some [])) := (hk1.same _ (.inl (by rw [hZ]; exact .inr (.inl rfl))) (by omega)).trans hd
      have hd2 : (W₁.putObj (w.heap.size + 1) (.loop { rec .ready none with state := .busy })).heap[w.heap.size]? = some (.deferred (some [])) := (World.putObj_heap_other (by omega)).trans hd1
      refine wpIn_mono (hbody _ pre x post a₁ (Z X) _ hL hm2 (fun k hk => ⟨(hZb k hk).1, by have := (hZb k hk).2; have := hk1.size; simp; omega⟩)) ?_
      have fin : ∀ (jump : Option Code) (W3 : World), Keeps (fun k => Z X k ∨ K k) (W₁.putObj (w.heap.size + 1) (.loop { rec .ready none with state := .busy })) W3 →
          (Instr.endRound (w.heap.size + 1) jump).run P W3 = .ok (.bool jump.isNone) (W3.putObj (w.heap.size + 1) (.loop (rec (if jump.isNone then .ready else .done) jump))) ∧
          (W3.putObj (w.heap.size + 1) (.loop (rec (if jump.isNone then .ready else .done) jump))).heap[w.heap.size + 1]? = some (.loop (rec (if jump.isNone then .ready else .done) jump)) ∧
          (W3.putObj (w.heap.size + 1) (.loop (rec (if jump.isNone then .ready else .done) jump))).heap[w.heap.size]? = some (.deferred (some [])) ∧
          Keeps (fun k => X k ∨ K k) W (W3.putObj (w.heap.size + 1) (.loop (rec (if jump.isNone then .ready else .done) jump))) := fun jump W3 hk3 => by
        have hl3 := (hk3.same (w.heap.size + 1) (.inl (by rw [hZ]; exact .inr (.inr rfl))) (by simp; omega)).trans hl2
        have hd3 := (hk3.same w.heap.size (.inl (by rw [hZ]; exact .inr (.inl rfl))) (by simp; omega)).trans hd2
        have := run_endRound (P := P) jump hl3
        rw [hrec] at this ⊢
        refine ⟨this, World.putObj_heap_same (Array.getElem?_eq_some_iff.1 hl3).1, (World.putObj_heap_other (by omega)).trans hd3, ?_⟩
        have hne : ∀ k, (X k ∨ K k) → k ≠ w.heap.size + 1 := fun k hk e => by
          subst e
          rcases hk with q | q
          · exact hx2 q
          · exact hKl q
        have hsub : ∀ k, (X k ∨ K k) → (Z X k ∨ K k) := fun k hk => hk.imp (fun q => by rw [hZ]; exact .inl q) id
        refine (hk1.sub hsub).trans (Keeps.trans (.of_grown (grownBy_put W₁ _ _) (fun k e hk => hne k hk (by cases e; rfl))) (Keeps.trans (hk3.sub hsub) (.of_grown (grownBy_put W3 _ _) (fun k e hk => hne k hk (by cases e; rfl)))))
      rintro e a3 W3 hp
      cases e with
      | normal =>
        obtain ⟨hk3, hi3⟩ := hp
        obtain ⟨hr, hl4, hd4, hk4⟩ := fin none W3 hk3
        exact ⟨_, _, hr, hk4, .inl ⟨rfl, hI _ _ _ _ _ hi3 (zput W3 _), ⟨hx1, hx2⟩, hl4, hd4⟩⟩
      | ret =>
        obtain ⟨hk3, hi3⟩ := hp
        obtain ⟨hr, hl4, hd4, hk4⟩ := fin (some .ret) W3 hk3
        exact ⟨_, _, hr, hk4, .inr ⟨rfl, .ret, hIx _ _ _ _ _ _ hi3 (zput W3 _), ⟨hx1, hx2⟩, hl4, hd4⟩⟩
      | exit id =>
        obtain ⟨hk3, hi3⟩ := hp
        obtain ⟨hr, hl4, hd4, hk4⟩ := fin (some (.exit id)) W3 hk3
        exact ⟨_, _, hr, hk4, .inr ⟨rfl, .exit id, hIx _ _ _ _ _ _ hi3 (zput W3 _), ⟨hx1, hx2⟩, hl4, hd4⟩⟩
      | goto t =>
        obtain ⟨hk3, hi3⟩ := hp
        obtain ⟨hr, hl4, hd4, hk4⟩ := fin (some (.goto t)) W3 hk3
        exact ⟨_, _, hr, hk4, .inr ⟨rfl, .goto t, hIx _ _ _ _ _ _ hi3 (zput W3 _), ⟨hx1, hx2⟩, hl4, hd4⟩⟩
      | panic ch => exact hp.elim
      | outgrown => exact hp.elim
    | ret => exact hp.elim
    | exit id => exact hp.elim
    | goto t => exact hp.elim
    | panic ch => exact hp.elim
    | outgrown => exact hp.elim
  ·
    rintro e W2 ⟨⟨v, rfl⟩, (⟨X, hXb, hi, ⟨hx1, hx2⟩, hl, hd⟩ | ⟨pre, X, hpre, c, hi, ⟨hx1, hx2⟩, hl, hd⟩)⟩
    · refine ⟨none, _, by have := run_endLoop (P := P) hl (by rw [hrec]; simp); rw [hrec] at this; exact this, hdone (fun k => Z X k ∧ w.heap.size ≤ k ∧ k < W2.heap.size) _ ?_ ⟨by rw [hZ]; exact .inr (.inl rfl), Nat.le_refl _, (Array.getElem?_eq_some_iff.1 hd).1⟩ (fun k hk => by simpa using hk.2) ((World.putObj_heap_other (by omega)).trans hd)⟩
      have h2 : ∀ o, I L (fun k => Z X k ∧ w.heap.size ≤ k ∧ k < W2.heap.size) (W2.putObj (w.heap.size + 1) o) := fun o => hI _ _ _ _ _ (hI _ _ _ _ _ hi (zput W2 o)) ⟨rfl, rfl, rfl, Nat.le_refl _, fun _ _ _ => rfl, fun k hk => .inl hk.1⟩
      exact h2 _
    · exact ⟨some c, _, by have := run_endLoop (P := P) hl (by rw [hrec]; simp); rw [hrec] at this; exact this, hstop c pre (Z X) _ hpre (hIx c _ _ _ _ _ hi (zput W2 _)) (by rw [hZ]; exact .inr (.inl rfl)) ((World.putObj_heap_other (by omega)).trans hd)⟩
end Go.Proofs.YtlpkkkkgbnoiiaaDoor.H
end
section
namespace Go.Proofs.YtlpkkkkgbnoiiaaDoor.H
open Go.RowKit Go.Shelf Go.Proofs.YtlpkkkkgbnoiiaaDoorW.PrintWords Go.Proofs.YtlpkkkkgbnoiiaaDoorW.PrintLast Go.Proofs.YtlpkkkkgbnoiiaaDoorW.PrintMore
open Go.Maps
attribute [local go_sem] Oper.semAt_some
set_option linter.unusedVariables false
set_option linter.unusedSimpArgs false
def encSeam (x : Int × Int × Int) : Array Value := #[.int .i64 x.1, .agg #[.int .i64 x.2.1, .int .i64 x.2.2]]
theorem grownBy_iterAt (w : World) (k : Nat) (s : ByteArray) (p : Nat) : w.grownBy (w.iterAt k s p) (some k) :=
  ⟨rfl, rfl, rfl, by rw [Lib.iterAt_size]; exact Nat.le_refl _, fun i hi hk => Lib.iterAt_other w k i s p (fun e => hk (by rw [e]))⟩
def SeamRel (s : ByteArray) (bs bp : Nat) (J : List (Int × Int × Int) → (Nat → Prop) → World → Prop) (wr : World) : Prop :=
  ∃ (pre : List (Int × Int × Int)) (pos fuel : Nat) (line col : Int), pre ++ seamsFrom s fuel pos line col = seamsL s ∧ s.size ≤ pos + fuel ∧ pos ≤ s.size ∧ 1 ≤ line ∧ line ≤ pos + 1 ∧ 1 ≤ col ∧ col ≤ pos + 1 ∧
    wr.heap[bp]? = some (.cells #[.int .i64 line, .int .i64 col] 25 (0, 0)) ∧ wr.heap[bp + 1]? = some (.stringIter s pos) ∧ wr.heap[bs]? = some (.cells #[.string s] 9 (0, 0)) ∧ J pre (fun k => k = bp ∨ k = bp + 1) wr
theorem SeamRel.next {s : ByteArray} {bs bp : Nat} {J : List (Int × Int × Int) → (Nat → Prop) → World → Prop} (hJ : Abides J) {wr W3 W' : World} {pre : List (Int × Int × Int)} {pos f : Nat} {line col line' col' : Int}
    (hit : wr.heap[bp + 1]? = some (.stringIter s pos)) (hp : pos < s.size) (hfu : s.size ≤ pos + (f + 1)) (hwd : 1 ≤ (Utf8.decode s pos).2) (hwl : pos + (Utf8.decode s pos).2 ≤ s.size)
    (hL : (pre ++ [((pos : Int), line, col)]) ++ seamsFrom s f (pos + (Utf8.decode s pos).2) line' col' = seamsL s) (h1 : 1 ≤ line') (h2 : line' ≤ pos + 2) (h3 : 1 ≤ col') (h4 : col' ≤ pos + 2)
    (hst : IStep (fun k => k = bp ∨ k = bp + 1) W3 W' (fun k => k = bp ∨ k = bp + 1)) (hb : W'.heap[bp]? = some (.cells #[.int .i64 line', .int .i64 col'] 25 (0, 0)))
    (hit' : W'.heap[bp + 1]? = some (.stringIter s (pos + (Utf8.decode s pos).2))) (hbs : W'.heap[bs]? = some (.cells #[.string s] 9 (0, 0))) (hj : J (pre ++ [((pos : Int), line, col)]) (fun k => k = bp ∨ k = bp + 1) W3) :
    SeamRel s bs bp J W' ∧ s.size - W'.iterPos (bp + 1) < s.size - wr.iterPos (bp + 1) := by
  refine ⟨⟨_, pos + (Utf8.decode s pos).2, f, line', col', hL, by omega, by omega, h1, by omega, h3, by omega, hb, hit', hbs, hJ _ _ _ _ _ hj hst⟩, ?_⟩
  simp only [World.iterPos, hit, hit']
  omega
theorem istep_set {X : Nat → Prop} (W : World) (a : Addr) (v : Value) (h : X a.block) : IStep X W (W.setCell a v) X := IStep.at h (grownBy_set W a v)
set_option maxRecDepth 100000 in
set_option maxHeartbeats 4000000 in
theorem seams1_gives (s : ByteArray) (hs : s.size ≤ 140737488355328) (bs : Nat) (w0 : World) (hb : w0.heap[bs]? = some (.cells #[.string s] 9 (0, 0))) :
    Gives Tryd.prog 44 #[.pointer (some ⟨bs, 0, none⟩)] encSeam (fun k => k = bs) (seamsL s) w0 := by
  refine ⟨fun k e => by subst e; exact (Array.getElem?_eq_some_iff.1 hb).1, ?_⟩
  intro l J Jx W hbw hJ hJx hY h0
  refine callsIn_of_wp Tryd.func44 rfl trivial ?_ rfl
  simp only [Tryd.ntmps44, List.size_toArray, List.length_cons, List.length_nil, Nat.reduceAdd, Nat.reduceSub, Array.replicate_succ, Array.replicate_zero, List.push_toArray, List.append_toArray, List.nil_append, List.cons_append]
  have hlt : bs < w0.heap.size := (Array.getElem?_eq_some_iff.1 hb).1
  have hle : w0.heap.size ≤ W.heap.size := hbw.size
  have hbW := (hbw.block bs hlt).trans hb
  have hcs : W.cell? ⟨bs, 0, none⟩ = some (.string s) := (blk_cell hbW 0).trans rfl
  have hbl : bs < W.heap.size := Nat.lt_of_lt_of_le hlt hle
  have hbn : bs ≠ W.heap.size := Nat.ne_of_lt hbl
  have HS := Aside0.mk hs
  have HBW := Aside0.mk hbW
  have HB0 := Aside0.mk hbw
  clear hs hbW hb hbw hlt hle
  gi_wp2
  gi_loopw [4, 5] (fun _ _ wr => SeamRel s bs W.heap.size J wr) (fun _ _ wr => s.size - wr.iterPos (W.heap.size + 1))
  case atStart =>
    refine ⟨[], 0, s.size, 1, 1, rfl, by omega, by omega, by omega, by omega, by omega, by omega, ?_, ?_, ?_, ?_⟩
    · exact blk_alloc (blk_new W _) _
    · have := World.iter_heap (W.alloc (.cells #[.int .i64 1, .int .i64 1] 25)) s 0
      simpa using this
    · exact blk_alloc (blk_alloc HBW.out _) _
    · refine hJ _ _ _ _ _ h0 ⟨rfl, rfl, rfl, ?_, fun k hk _ => ?_, fun k hk => .inr ?_⟩
      · exact (below_alloc (below_alloc (Below.refl W.heap.size W) _) _).size
      · exact (below_alloc (below_alloc (Below.refl W.heap.size W) _) _).block k hk
      · refine ⟨by rcases hk with rfl | rfl <;> omega, ?_⟩
        have := (below_alloc (below_alloc (Below.refl W.heap.size W) (.cells #[.int .i64 1, .int .i64 1] 25)) (.stringIter s 0)).size
        have e2 : ((W.alloc (.cells #[.int .i64 1, .int .i64 1] 25)).iter s 0).heap.size = W.heap.size + 2 := by
          show ((W.heap.push _).push _).size = _
          simp
        rw [e2]
        rcases hk with rfl | rfl <;> omega
  case round =>
    obtain ⟨pre, pos, fuel, line, col, hL, hfu, hpo, hl1, hl2, hc1, hc2, hb1, hit, hbs, hj⟩ := hrel
    have hs2 := HS.out
    have hlt1 : W.heap.size + 1 < wr.heap.size := (Array.getElem?_eq_some_iff.1 hit).1
    by_cases hp : pos < s.size
    · have hnx : ∀ ty, (Instr.next (.pointer (some ⟨W.heap.size + 1, 0, none⟩)) true ty).run Tryd.prog wr = _ := fun ty => Lib.run_next_any_at wr (W.heap.size + 1) s pos ty hit hp
      have hwd := rune_w_pos s pos
      have hwl := rune_w_le s pos hp
      have hd1 := decode_le s pos
      have hit2 := Lib.iterAt_heap wr (W.heap.size + 1) s pos (pos + (Utf8.decode s pos).2) hit
      have hj2 := hJ _ _ _ _ _ hj (IStep.at (r := W.heap.size + 1) (.inr rfl) (grownBy_iterAt wr (W.heap.size + 1) s (pos + (Utf8.decode s pos).2)))
      have hb2 : (wr.iterAt (W.heap.size + 1) s (pos + (Utf8.decode s pos).2)).heap[W.heap.size]? = _ := (Lib.iterAt_other wr (W.heap.size + 1) W.heap.size s _ (by omega)).trans hb1
      have hbs2 : (wr.iterAt (W.heap.size + 1) s (pos + (Utf8.decode s pos).2)).heap[bs]? = _ := (Lib.iterAt_other wr (W.heap.size + 1) bs s _ (by omega)).trans hbs
      have hz2 : W.heap.size + 1 < (wr.iterAt (W.heap.size + 1) s (pos + (Utf8.decode s pos).2)).heap.size := by rw [Lib.iterAt_size]; exact hlt1
      obtain ⟨f, rfl⟩ : ∃ f, fuel = f + 1 := ⟨fuel - 1, by omega⟩
      have hL' : seamsL s = pre ++ ((pos : Int), line, col) :: (if (Utf8.decode s pos).1 = 10 then seamsFrom s f (pos + (Utf8.decode s pos).2) (line + 1) 1 else seamsFrom s f (pos + (Utf8.decode s pos).2) line (col + 1)) := by
        rw [← hL]; simp [seamsFrom, hp]
      obtain ⟨fn, tmps, assign, body, hy, hR⟩ := hY pre _ _ _ _ hL' hj2 (fun k hk => by rcases hk with rfl | rfl <;> omega) (by omega)
      have cz0 : (wr.iterAt (W.heap.size + 1) s (pos + (Utf8.decode s pos).2)).cell? ⟨W.heap.size, 0, none⟩ = some (.int .i64 line) := (blk_cell hb2 0).trans rfl
      have cz1 : (wr.iterAt (W.heap.size + 1) s (pos + (Utf8.decode s pos).2)).cell? ⟨W.heap.size, 1, none⟩ = some (.int .i64 col) := (blk_cell hb2 1).trans rfl
      have HL := Aside0.mk hL'
      have HIT := Aside0.mk hit
      have HIT2 := Aside0.mk hit2
      have HB2 := Aside0.mk hb2
      have HBS2 := Aside0.mk hbs2
      clear hL hL' hit hb1 hbs hj hj2 hit2 hb2 hbs2
      dsimp only [encSeam] at hy
      gi_wp2
      refine ⟨rfl, hR.mono ?_⟩
      rintro e W3 ⟨hk, (⟨rfl, hJ3⟩ | ⟨rfl, hJx3⟩)⟩
      · have hz3 : W.heap.size + 1 < W3.heap.size := Nat.lt_of_lt_of_le hz2 hk.size
        have hb3 := (hk.same W.heap.size (.inl (.inl rfl)) (by omega)).trans HB2.out
        have hit3 := (hk.same (W.heap.size + 1) (.inl (.inr rfl)) (by omega)).trans HIT2.out
        have hbs3 := (hk.same bs (.inr rfl) (by omega)).trans HBS2.out
        have c3z0 : W3.cell? ⟨W.heap.size, 0, none⟩ = some (.int .i64 line) := (blk_cell hb3 0).trans rfl
        have c3z1 : W3.cell? ⟨W.heap.size, 1, none⟩ = some (.int .i64 col) := (blk_cell hb3 1).trans rfl
        have f3z0 := blk_frozen hb3 0
        have f3z1 := blk_frozen hb3 1
        have HB3 := Aside0.mk hb3
        have HIT3 := Aside0.mk hit3
        have HBS3 := Aside0.mk hbs3
        have HJ3 := Aside0.mk hJ3
        have hm : ∀ (u : Value) (p : Nat → Prop), p = (fun k => k = W.heap.size ∨ k = W.heap.size + 1) → True := fun _ _ _ => trivial
        clear hm hb3 hit3 hbs3 hJ3 cz0 cz1
        by_cases h10 : (Utf8.decode s pos).1 = 10
        · have h10b : (((Utf8.decode s pos).1 : Int) == 10) = true := by simp [h10]
          gi_wp2
          have e := HL.out
          rw [if_pos h10] at e
          refine SeamRel.next hJ HIT.out hp hfu hwd hwl (line := line) (col := col) (line' := line + 1) (col' := 1) (by rw [e]; simp) (by omega) (by omega) (by omega) (by omega) (((istep_set _ _ _ (.inl rfl)).trans (istep_set _ _ _ (.inl rfl))).trans (istep_set _ _ _ (.inl rfl))) (blk_put (blk_put (blk_put HB3.out 1 _ rfl) 0 _ rfl) 1 _ rfl) ?_ ?_ HJ3.out
          · exact (Below.heap_setCell _ _ _ _ (by simp)).trans ((Below.heap_setCell _ _ _ _ (by simp)).trans ((Below.heap_setCell _ _ _ _ (by simp)).trans HIT3.out))
          · exact (Below.heap_setCell _ _ _ _ hbn).trans ((Below.heap_setCell _ _ _ _ hbn).trans ((Below.heap_setCell _ _ _ _ hbn).trans HBS3.out))
        · have h10b : (((Utf8.decode s pos).1 : Int) == 10) = false := by simp; omega
          gi_wp2
          have e := HL.out
          rw [if_neg h10] at e
          exact SeamRel.next hJ HIT.out hp hfu hwd hwl (line := line) (col := col) (line' := line) (col' := col + 1) (by rw [e]; simp) hl1 (by omega) (by omega) (by omega) (istep_set _ _ _ (.inl rfl)) (blk_put HB3.out 1 _ rfl)
            ((Below.heap_setCell _ _ _ _ (by simp)).trans HIT3.out) ((Below.heap_setCell _ _ _ _ hbn).trans HBS3.out) HJ3.out
      · gi_wp2
        refine bodyPost_ret (results_none rfl _ _ _) rfl ?_
        exact ⟨⟨_, rfl⟩, .inr ⟨_, _, ⟨_, (List.append_assoc _ _ _).trans HL.out.symm⟩, hJx3⟩⟩
    · have hpe : pos = s.size := by omega
      have hnx : ∀ ty, (Instr.next (.pointer (some ⟨W.heap.size + 1, 0, none⟩)) true ty).run Tryd.prog wr = _ := fun ty => Lib.run_next_end_at wr (W.heap.size + 1) s pos ty hit hp
      rw [seamsFrom_end s fuel pos line col hp] at hL
      obtain ⟨fn, tmps, assign, body, hy, hR⟩ := hY pre _ [] _ _ hL.symm hj (fun k hk => by rcases hk with rfl | rfl <;> omega) (by omega)
      have cz0 : wr.cell? ⟨W.heap.size, 0, none⟩ = some (.int .i64 line) := (blk_cell hb1 0).trans rfl
      have cz1 : wr.cell? ⟨W.heap.size, 1, none⟩ = some (.int .i64 col) := (blk_cell hb1 1).trans rfl
      have czs : wr.cell? ⟨bs, 0, none⟩ = some (.string s) := (blk_cell hbs 0).trans rfl
      have HL := Aside0.mk hL
      clear hL hit hb1 hbs hj hpe hcs
      dsimp only [encSeam] at hy
      gi_wp2
      refine ⟨rfl, hR.mono ?_⟩
      rintro e W3 ⟨hk, (⟨rfl, hJ3⟩ | ⟨rfl, hJx3⟩)⟩
      · gi_wp2
        refine bodyPost_end (results_none rfl _ _ _) rfl ?_
        refine ⟨⟨_, rfl⟩, .inl ⟨(fun k => k = W.heap.size ∨ k = W.heap.size + 1), fun k hk2 => ?_, by rw [HL.out] at hJ3; exact hJ3⟩⟩
        have := hk.size
        rcases hk2 with rfl | rfl <;> omega
      · gi_wp2
        refine bodyPost_end (results_none rfl _ _ _) rfl ?_
        exact ⟨⟨_, rfl⟩, .inr ⟨_, _, ⟨[], by rw [HL.out]; simp⟩, hJx3⟩⟩
end Go.Proofs.YtlpkkkkgbnoiiaaDoor.H
end
section
namespace Go.Proofs.YtlpkkkkgbnoiiaaDoor.H
open Go.RowKit Go.Shelf Go.Proofs.YtlpkkkkgbnoiiaaDoorW.PrintWords Go.Proofs.YtlpkkkkgbnoiiaaDoorW.PrintLast Go.Proofs.YtlpkkkkgbnoiiaaDoorW.PrintMore
open Go.Maps
attribute [local go_sem] Oper.semAt_some
set_option linter.unusedVariables false
set_option linter.unusedSimpArgs false
theorem seams_calls (s : ByteArray) (w : World) : Calls Tryd.prog 28 #[.string s] w fun e w' => e = .returned (.func (.func 44) #[] #[.pointer (some ⟨w.heap.size, 0, none⟩)]) ∧ w' = w.alloc (.cells #[.string s] 9) := by
  go_enter Tryd.func28, Tryd.ntmps28
  go_wp2
  go_ret
  exact ⟨rfl, rfl⟩
def posOf (s : ByteArray) (a : Int) : Int × Int × Bool := match (seamsL s).find? (fun x => x.1 == a) with
  | some x => (x.2.1, x.2.2, true)
  | none => (0, 0, false)
def text_Position.f (a0 : ByteArray) (a1 : Int) : Option (Int × Int × Bool) := if a0.size ≤ 140737488355328 then some (posOf a0 a1) else none
def PosI (w : World) (a : Int) (pre : List (Int × Int × Int)) (X : Nat → Prop) (W : World) : Prop :=
  (∀ x ∈ pre, (x.1 == a) = false) ∧ W.heap[w.heap.size]? = some (.cells #[.int .i64 a] 3 (0, 0)) ∧ W.heap[w.heap.size + 1]? = some (.cells #[.int .i64 0, .int .i64 0] 25 (0, 0)) ∧
    W.heap[w.heap.size + 1 + 1]? = some (.cells #[.bool false] 4 (0, 0)) ∧ Below w.heap.size w W ∧ (∀ k, X k → w.heap.size + 4 ≤ k) ∧ w.heap.size + 4 ≤ W.heap.size
theorem PosI.abides (w : World) (a : Int) : Abides (PosI w a) := fun pre X W W' X' h hs =>
  ⟨h.1, hs.keep h.2.1 (fun q => by have := h.2.2.2.2.2.1 _ q; omega), hs.keep h.2.2.1 (fun q => by have := h.2.2.2.2.2.1 _ q; omega), hs.keep h.2.2.2.1 (fun q => by have := h.2.2.2.2.2.1 _ q; omega),
    hs.below h.2.2.2.2.1 (fun k q => by have := h.2.2.2.2.2.1 _ q; omega) (Nat.le_refl _), hs.ge h.2.2.2.2.2.1 h.2.2.2.2.2.2, Nat.le_trans h.2.2.2.2.2.2 hs.size⟩
def PosX (w : World) (a : Int) (c : Code) (pre : List (Int × Int × Int)) (X : Nat → Prop) (W : World) : Prop :=
  c = .ret ∧ (∃ ys x, pre = ys ++ [x] ∧ (∀ y ∈ ys, (y.1 == a) = false) ∧ (x.1 == a) = true ∧ W.heap[w.heap.size + 1]? = some (.cells #[.int .i64 x.2.1, .int .i64 x.2.2] 25 (0, 0))) ∧
    W.heap[w.heap.size + 1 + 1]? = some (.cells #[.bool true] 4 (0, 0)) ∧ Below w.heap.size w W ∧ (∀ k, X k → w.heap.size + 4 ≤ k) ∧ w.heap.size + 4 ≤ W.heap.size
theorem PosX.abides (w : World) (a : Int) (c : Code) : Abides (PosX w a c) := fun pre X W W' X' h hs =>
  ⟨h.1, by obtain ⟨ys, x, e, h1, h2, h3⟩ := h.2.1; exact ⟨ys, x, e, h1, h2, hs.keep h3 (fun q => by have := h.2.2.2.2.1 _ q; omega)⟩, hs.keep h.2.2.1 (fun q => by have := h.2.2.2.2.1 _ q; omega),
    hs.below h.2.2.2.1 (fun k q => by have := h.2.2.2.2.1 _ q; omega) (Nat.le_refl _), hs.ge h.2.2.2.2.1 h.2.2.2.2.2, Nat.le_trans h.2.2.2.2.2 hs.size⟩
def PosM (w : World) (s : ByteArray) (a : Int) (pre : List (Int × Int × Int)) (x : Int × Int × Int) (a₁ : Act) (X : Nat → Prop) (W : World) : Prop :=
  PosI w a pre X W ∧ ∃ bx, W.heap[bx]? = some (.cells #[.int .i64 x.2.1, .int .i64 x.2.2] 25 (0, 0)) ∧ ¬ X bx ∧ w.heap.size + 4 ≤ bx ∧ a₁ = { tmps := #[.string s, .int .i64 a, undef, .pointer (some ⟨w.heap.size, 0, none⟩), .pointer (some ⟨w.heap.size + 1, 0, none⟩), .pointer (some ⟨w.heap.size + 1 + 1, 0, none⟩), .int .i64 x.1, .pointer (some ⟨bx, 0, none⟩), .string s,
    .func (.func 44) #[] #[.pointer (some ⟨w.heap.size + 1 + 1 + 1, 0, none⟩)], .int .i64 x.1, .agg #[.int .i64 x.2.1, .int .i64 x.2.2], undef, undef, undef, undef, undef], defers := [] }
theorem PosM.abides (w : World) (s : ByteArray) (a : Int) (pre : List (Int × Int × Int)) (x : Int × Int × Int) (a₁ : Act) : Abides (fun (_ : Unit) => PosM w s a pre x a₁) := fun _ X W W' X' h hs => by
  obtain ⟨hI, bx, h1, h2, h3, h4⟩ := h
  exact ⟨PosI.abides w a pre X W W' X' hI hs, bx, hs.keep h1 h2, hs.keepX (Array.getElem?_eq_some_iff.1 h1).1 h2, h3, h4⟩
theorem posOf_some {s : ByteArray} {a : Int} {ys : List (Int × Int × Int)} {x : Int × Int × Int} {post : List (Int × Int × Int)} (hL : seamsL s = ys ++ [x] ++ post) (h : ∀ y ∈ ys, (y.1 == a) = false) (hx : (x.1 == a) = true) : posOf s a = (x.2.1, x.2.2, true) := by
  have : (seamsL s).find? (fun x => x.1 == a) = some x := by
    rw [hL, List.append_assoc, List.find?_append, List.find?_eq_none.2 (fun y hy => by simp [h y hy])]
    simp [hx]
  unfold posOf
  rw [this]
theorem posOf_none {s : ByteArray} {a : Int} (h : ∀ y ∈ seamsL s, (y.1 == a) = false) : posOf s a = (0, 0, false) := by
  unfold posOf
  rw [List.find?_eq_none.2 (fun y hy => by simp [h y hy])]
theorem pos_end {w W : World} {tmps : Array Value} {D : Nat} {l c r1 r2 : Int} {b r3 : Bool} (h2 : W.heap[w.heap.size + 1]? = some (.cells #[.int .i64 l, .int .i64 c] 25 (0, 0))) (h3 : W.heap[w.heap.size + 1 + 1]? = some (.cells #[.bool b] 4 (0, 0)))
    (hD : W.heap[D]? = some (.deferred (some []))) (hB : Below w.heap.size w W) (hd : w.heap.size + 1 + 1 < D) (hr : (l, c, b) = (r1, r2, r3))
    (t4 : tmps[4]? = some (.pointer (some ⟨w.heap.size + 1, 0, none⟩)) := by rfl) (t5 : tmps[5]? = some (.pointer (some ⟨w.heap.size + 1 + 1, 0, none⟩)) := by rfl) :
    bodyPostM Fence.wide 0 Tryd.prog Tryd.f11 (fun e w' => e = .returned (.tuple #[.agg #[.int .i64 r1, .int .i64 r2], .bool r3]) ∧ Below w.heap.size w w') .ret { tmps := tmps, defers := [{ target := .collected D, args := #[] }] } W := by
  obtain ⟨rfl, rfl, rfl⟩ := Prod.mk.injEq .. ▸ (by simpa using hr : l = r1 ∧ c = r2 ∧ b = r3)
  refine ⟨by simp, .inl ⟨_, _, rfl, run_takeDeferred hD, ?_⟩⟩
  have k2 : (W.putObj D (.deferred none)).heap[w.heap.size + 1]? = _ := (World.putObj_heap_other (by omega)).trans h2
  have k3 : (W.putObj D (.deferred none)).heap[w.heap.size + 1 + 1]? = _ := (World.putObj_heap_other (by omega)).trans h3
  have c0 : (W.putObj D (.deferred none)).cell? ⟨w.heap.size + 1, 0, none⟩ = some (.int .i64 l) := (blk_cell k2 0).trans rfl
  have c1 : (W.putObj D (.deferred none)).cell? ⟨w.heap.size + 1, 1, none⟩ = some (.int .i64 c) := (blk_cell k2 1).trans rfl
  have c3 : (W.putObj D (.deferred none)).cell? ⟨w.heap.size + 1 + 1, 0, none⟩ = some (.bool b) := (blk_cell k3 0).trans rfl
  refine ⟨.tuple #[.agg #[.int .i64 l, .int .i64 c], .bool b], ?_, rfl, hB.trans ⟨rfl, rfl, rfl, by simp, fun k hk => World.putObj_heap_other (by omega)⟩⟩
  simp [results, Tryd.f11, go_sem, c0, c1, c3, t4, t5]
set_option maxRecDepth 100000 in
set_option maxHeartbeats 4000000 in
theorem text_Position.calls (a0 : ByteArray) (a1 : Int) (r1 : Int) (r2 : Int) (r3 : Bool) (w : World) (h : text_Position.f a0 a1 = some (r1, r2, r3)) :
    Calls Tryd.prog 11 #[.string a0, .int .i64 a1] w fun e w' => e = .returned (.tuple #[.agg #[.int .i64 r1, .int .i64 r2], .bool r3]) ∧ Below w.heap.size w w' := by
  unfold text_Position.f at h
  split at h
  case isFalse => cases h
  rename_i hs
  have HP := Aside0.mk (Option.some.inj h)
  have HS := Aside0.mk hs
  clear h hs
  refine (callsIn_wide (n := 0)).1 ?_
  refine callsIn_of_wp_marks Tryd.func11 rfl trivial ?_ rfl
  simp only [Tryd.ntmps11, List.size_toArray, List.length_cons, List.length_nil, Nat.reduceAdd, Nat.reduceSub, Array.replicate_succ, Array.replicate_zero, List.push_toArray, List.append_toArray, List.nil_append, List.cons_append]
  gi_wp2_with (refine ⟨trivial, rfl, ?_⟩; refine (callsIn_wide.2 (seams_calls _ _)).mono ?_; rintro e w' ⟨rfl, rfl⟩)
  have hb0 : ((((w.alloc (.cells #[.int .i64 a1] 3)).alloc (.cells #[.int .i64 0, .int .i64 0] 25)).alloc (.cells #[.bool false] 4)).alloc (.cells #[.string a0] 9)).heap[w.heap.size + 1 + 1 + 1]? = some (.cells #[.string a0] 9 (0, 0)) := by
    have := blk_new (((w.alloc (.cells #[.int .i64 a1] 3)).alloc (.cells #[.int .i64 0, .int .i64 0] 25)).alloc (.cells #[.bool false] 4)) (.cells #[.string a0] 9)
    simpa using this
  refine wp_range (gf := 44) (lb := #[.pointer (some ⟨w.heap.size + 1 + 1 + 1, 0, none⟩)]) ?hg (enters_of Tryd.func44 (by kernel_rfl) rfl) (seams1_gives a0 HS.out _ _ hb0) (Below.refl _ _) (fun _ => rfl)
    (PosI w a1) (PosX w a1) (PosM w a0 a1) (PosI.abides w a1) (PosX.abides w a1) ?hM ?h0 ?assign ?body ?done ?stop
  case hg => rfl
  case hM => exact fun pre x a₁ => PosM.abides w a0 a1 pre x a₁
  case h0 =>
    refine ⟨by simp, ?_, ?_, ?_, below_alloc (below_alloc (below_alloc (below_alloc (Below.refl _ _) _) _) _) _, fun k h => h.elim, by simp⟩
    · exact blk_alloc (blk_alloc (blk_alloc (blk_new w _) _) _) _
    · have := blk_alloc (blk_alloc (blk_new (w.alloc (.cells #[.int .i64 a1] 3)) (.cells #[.int .i64 0, .int .i64 0] 25)) (.cells #[.bool false] 4)) (.cells #[.string a0] 9)
      simpa using this
    · have := blk_alloc (blk_new ((w.alloc (.cells #[.int .i64 a1] 3)).alloc (.cells #[.int .i64 0, .int .i64 0] 25)) (.cells #[.bool false] 4)) (.cells #[.string a0] 9)
      simpa using this
  case assign =>
    intro l pre x post X W hL hI hX
    have HI := Aside0.mk hI
    have HX := Aside0.mk hX
    clear hL hI hX
    simp only [encSeam]
    gi_wp2
    have hI' := PosI.abides w a1 pre X W _ X HI.out (IStep.of_below (below_alloc (Below.refl _ _) (.cells #[.int .i64 x.2.1, .int .i64 x.2.2] 25)))
    exact ⟨.of_below (below_alloc (Below.refl _ _) _), hI', W.heap.size, blk_new W _, fun q => by have := (HX.out _ q).2; omega, HI.out.2.2.2.2.2.2, rfl⟩
  case body =>
    rintro l pre x post a₁ X W hL ⟨hI, bx, hbx, hnx, hge, rfl⟩ hX
    have HI := Aside0.mk hI
    obtain ⟨hne, h1, h2, h3, hB, hXg, hsz⟩ := hI
    have c1 : W.cell? ⟨w.heap.size, 0, none⟩ = some (.int .i64 a1) := (blk_cell h1 0).trans rfl
    have c20 : W.cell? ⟨w.heap.size + 1, 0, none⟩ = some (.int .i64 0) := (blk_cell h2 0).trans rfl
    have c21 : W.cell? ⟨w.heap.size + 1, 1, none⟩ = some (.int .i64 0) := (blk_cell h2 1).trans rfl
    have c3 : W.cell? ⟨w.heap.size + 1 + 1, 0, none⟩ = some (.bool false) := (blk_cell h3 0).trans rfl
    have f20 := blk_frozen h2 0
    have f21 := blk_frozen h2 1
    have f3 := blk_frozen h3 0
    have cx0 : W.cell? ⟨bx, 0, none⟩ = some (.int .i64 x.2.1) := (blk_cell hbx 0).trans rfl
    have cx1 : W.cell? ⟨bx, 1, none⟩ = some (.int .i64 x.2.2) := (blk_cell hbx 1).trans rfl
    have HL := Aside0.mk hL
    have HNE := Aside0.mk hne
    have H2 := Aside0.mk h2
    have H3 := Aside0.mk h3
    have HB := Aside0.mk hB
    have HXG := Aside0.mk hXg
    clear hL hne h1 h2 h3 hB hXg hbx hX hb0
    by_cases hx : (x.1 == a1) = true
    · gi_wp2
      have hg := HXG.out
      have e2 := blk_far (blk_put (blk_put H2.out 0 (.int .i64 x.2.1) rfl) 1 (.int .i64 x.2.2) rfl) (p := ⟨w.heap.size + 1 + 1, 0, none⟩) (by simp) (.bool true)
      have e3 := blk_put (blk_far (blk_far H3.out (p := ⟨w.heap.size + 1, 0, none⟩) (by simp) (.int .i64 x.2.1)) (p := ⟨w.heap.size + 1, 1, none⟩) (by simp) (.int .i64 x.2.2)) 0 (.bool true) rfl
      have hk : ∀ k, (X k ∨ k = w.heap.size + 1 + 1 + 1) → k ≠ w.heap.size + 1 ∧ k ≠ w.heap.size + 1 + 1 := fun k hk => by
        rcases hk with q | q
        · have := hg k q; omega
        · omega
      exact ⟨((Keeps.set _ _ _ (fun q => (hk _ q).1 rfl)).trans (Keeps.set _ _ _ (fun q => (hk _ q).1 rfl))).trans (Keeps.set _ _ _ (fun q => (hk _ q).2 rfl)), rfl, ⟨pre, x, rfl, HNE.out, hx, e2⟩, e3,
        ((HB.out.setCell (p := ⟨w.heap.size + 1, 0, none⟩) (by simp) _).setCell (p := ⟨w.heap.size + 1, 1, none⟩) (by simp) _).setCell (p := ⟨w.heap.size + 1 + 1, 0, none⟩) (by simp <;> omega) _, hg, by simpa using hsz⟩
    · replace hx : (x.1 == a1) = false := by simpa using hx
      gi_wp2
      have hi := HI.out
      exact ⟨Keeps.refl _ _, fun y hy => by rcases List.mem_append.1 hy with q | q; exact hi.1 y q; simp at q; subst q; exact hx, hi.2⟩
  case done =>
    rintro X W ⟨hne, h1, h2, h3, hB, hXg, hsz⟩ hXD hXb hD
    have c20 : W.cell? ⟨w.heap.size + 1, 0, none⟩ = some (.int .i64 0) := (blk_cell h2 0).trans rfl
    have c21 : W.cell? ⟨w.heap.size + 1, 1, none⟩ = some (.int .i64 0) := (blk_cell h2 1).trans rfl
    have c3 : W.cell? ⟨w.heap.size + 1 + 1, 0, none⟩ = some (.bool false) := (blk_cell h3 0).trans rfl
    have f20 := blk_frozen h2 0
    have f21 := blk_frozen h2 1
    have f3 := blk_frozen h3 0
    have HNE := Aside0.mk hne
    have H2 := Aside0.mk h2
    have H3 := Aside0.mk h3
    have HD := Aside0.mk hD
    have HB := Aside0.mk hB
    clear hne h2 h3 hD hB h1 hXg hXD hXb hb0
    gi_wp2
    have e2 := blk_far (blk_put (blk_put H2.out 0 (.int .i64 0) rfl) 1 (.int .i64 0) rfl) (p := ⟨w.heap.size + 1 + 1, 0, none⟩) (by simp) (.bool false)
    have e3 := blk_put (blk_far (blk_far H3.out (p := ⟨w.heap.size + 1, 0, none⟩) (by simp) (.int .i64 0)) (p := ⟨w.heap.size + 1, 1, none⟩) (by simp) (.int .i64 0)) 0 (.bool false) rfl
    have hd := (Below.heap_setCell _ ⟨w.heap.size + 1 + 1, 0, none⟩ (.bool false) _ (by simp <;> omega)).trans ((Below.heap_setCell _ ⟨w.heap.size + 1, 1, none⟩ (.int .i64 0) _ (by simp <;> omega)).trans ((Below.heap_setCell _ ⟨w.heap.size + 1, 0, none⟩ (.int .i64 0) _ (by simp <;> omega)).trans HD.out))
    have hb := ((HB.out.setCell (p := ⟨w.heap.size + 1, 0, none⟩) (by simp) (.int .i64 0)).setCell (p := ⟨w.heap.size + 1, 1, none⟩) (by simp) (.int .i64 0)).setCell (p := ⟨w.heap.size + 1 + 1, 0, none⟩) (by simp <;> omega) (.bool false)
    exact pos_end e2 e3 hd hb (by simp <;> omega) ((posOf_none HNE.out).symm.trans HP.out)
  case stop =>
    rintro c pre X W hpre ⟨rfl, ⟨ys, x, e, h1, h2, h3⟩, h4, hB, hXg, hsz⟩ hXD hD
    subst e
    have HPR := Aside0.mk hpre
    have H3 := Aside0.mk h3
    have H4 := Aside0.mk h4
    have HD := Aside0.mk hD
    have HB := Aside0.mk hB
    have HNE := Aside0.mk h1
    clear hpre h3 h4 hD hB h1 hXg hXD hb0
    gi_wp2
    obtain ⟨post, hpost⟩ := HPR.out
    exact pos_end H3.out H4.out HD.out HB.out (by simp <;> omega) ((posOf_some hpost.symm HNE.out h2).symm.trans HP.out)
end Go.Proofs.YtlpkkkkgbnoiiaaDoor.H
end
section
namespace Go.Proofs.YtlpkkkkgbnoiiaaDoor.H
open Go.RowKit Go.Proofs.YtlpkkkkgbnoiiaaDoorW.PrintWords Go.Proofs.YtlpkkkkgbnoiiaaDoorW.PrintLast Go.Proofs.YtlpkkkkgbnoiiaaDoorW.PrintMore
open Go.Maps
set_option linter.unusedVariables false
set_option linter.unusedSimpArgs false
def text_Runes.f (a0 : ByteArray) : Option (List S41) := if a0.size ≤ 4398046511104 then some (runesL a0) else none
theorem decodeGo_tail (s : ByteArray) (pos : Nat) (h : pos < s.size) : Lib.decodeGo (s.extract pos s.size) = Utf8.decode s pos := by
  unfold Lib.decodeGo
  rw [if_neg (by simp; omega), Lib.tail_decode]
  rfl
def RunesRel (s : ByteArray) (w : World) (v : Value) (wr : World) : Prop :=
  ∃ (pos fuel : Nat) (acc : List S41), acc ++ runesFrom s fuel pos = runesL s ∧ s.size ≤ pos + fuel ∧ pos ≤ s.size ∧ acc.length ≤ pos ∧ wr.heap[w.heap.size]? = some (.stringIter s pos) ∧ Below w.heap.size w wr ∧ Kd.R k41 41 wr w.heap.size (fun k => k ≠ w.heap.size) v acc
theorem RunesRel.next {s : ByteArray} {w wr W : World} {pos f : Nat} {acc : List S41} {v : Value} (hp : pos < s.size) (hL : acc ++ runesFrom s (f + 1) pos = runesL s) (hfu : s.size ≤ pos + (f + 1)) (hal : acc.length ≤ pos)
    (hit0 : wr.heap[w.heap.size]? = some (.stringIter s pos)) (hit : W.heap[w.heap.size]? = some (.stringIter s (pos + (Utf8.decode s pos).2))) (hB : Below w.heap.size w W)
    (hR : Kd.R k41 41 W w.heap.size (fun k => k ≠ w.heap.size) v (acc ++ [⟨((Utf8.decode s pos).1 : Int), (pos : Int), ((Utf8.decode s pos).2 : Int)⟩])) :
    RunesRel s w v W ∧ s.size - W.iterPos w.heap.size < s.size - wr.iterPos w.heap.size := by
  have h1 := rune_w_pos s pos
  have h2 := rune_w_le s pos hp
  refine ⟨⟨_, f, _, ?_, by omega, by omega, by simp; omega, hit, hB, hR⟩, ?_⟩
  · rw [← hL]; simp [runesFrom, hp]
  · simp only [World.iterPos, hit0, hit]; omega
set_option maxRecDepth 100000 in
set_option maxHeartbeats 2000000 in
theorem text_Runes.calls (a0 : ByteArray) (r : List (S41)) (w : World) (hgw : GW w) (h : text_Runes.f a0 = some r) :
    Calls Tryd.prog 14 #[.string a0] w fun e w' => ∃ v0_ : Value, e = .returned (v0_) ∧ Kd.R k41 41 w' w.heap.size (fun _ => True) v0_ r ∧ Below w.heap.size w w' := by
  unfold text_Runes.f at h
  split at h
  case isFalse => cases h
  rename_i hs
  have HP := Aside0.mk (Option.some.inj h)
  have HS := Aside0.mk hs
  have HGW := Aside0.mk hgw
  clear h hs hgw
  have hu := Tryd.underlying41
  go_enter Tryd.func14, Tryd.ntmps14
  go_wp2
  go_loopw [3] (fun v wr => RunesRel a0 w v wr) (fun _ wr => a0.size - wr.iterPos w.heap.size)
  case atStart => exact ⟨0, a0.size, [], rfl, by omega, by omega, by simp, World.iter_heap w a0 0, below_alloc (Below.refl _ _) _, Kd.R_nil _ _ _ _ _⟩
  case round =>
    obtain ⟨pos, fuel, acc, hL, hfu, hpo, hal, hit, hB, hR⟩ := hrel
    by_cases hp : pos < a0.size
    · have hnx : ∀ ty, (Instr.next (.pointer (some ⟨w.heap.size, 0, none⟩)) true ty).run Tryd.prog wr = _ := fun ty => Lib.run_next_any_at wr w.heap.size a0 pos ty hit hp
      have hd1 := decode_le a0 pos
      have hit2 := Lib.iterAt_heap wr w.heap.size a0 pos (pos + (Utf8.decode a0 pos).2) hit
      have hb2 := Lib.below_iterAt hB (k := w.heap.size) (Nat.le_refl _) a0 (pos + (Utf8.decode a0 pos).2)
      have hr2 := Kd.R_grown hR (w1 := wr.iterAt w.heap.size a0 (pos + (Utf8.decode a0 pos).2)) (row := some w.heap.size) ⟨rfl, rfl, rfl, by rw [Lib.iterAt_size]; exact Nat.le_refl _, fun i hi hk => Lib.iterAt_other wr w.heap.size i a0 _ (fun e => hk (by rw [e]))⟩ (fun k hk e => hk (by injection e))
      have hgw2 := HGW.out.below hb2
      have hs2 := HS.out
      obtain ⟨f, rfl⟩ : ∃ f, fuel = f + 1 := ⟨fuel - 1, by omega⟩
      have HL := Aside0.mk hL
      have HIT := Aside0.mk hit
      have HIT2 := Aside0.mk hit2
      have HB2 := Aside0.mk hb2
      have HR2 := Aside0.mk hr2
      have HG2 := Aside0.mk hgw2
      have HT := Aside0.mk (decodeGo_tail a0 pos hp)
      have hpi : (pos : Int) ≤ a0.size := by omega
      clear hL hit hit2 hb2 hr2 hgw2 hB hR
      go_wp2_with (first
        | (go_at_call 29; refine (Any.utf8_DecodeRuneInString Tryd.ly197 _ _ HG2.out.u8).mono ?_; rintro e W2 ⟨rfl, hb⟩; have hT := HT.out; rw [hT]; have HB3 := Aside0.mk (below_step HB2.out hb); have HR3 := Aside0.mk (Kd.R_below HR2.out hb); have HIT3 := Aside0.mk (blk_below HIT2.out hb); clear hT hb)
        | ((with_reducible refine gate_builtin (b := .append) (xs := #[.tmp 21, .tmp 26]) rfl ?_); at_builtin; refine Kd.R_append k41 (w0 := w) w.heap.size rfl (.tmp 21) (.tmp 26) 29 41 (.agg #[(.int .i32 0), (.int .i64 0), (.int .i64 0)]) 24 rfl Tryd.underlying29 info41 rfl (by decide) (by omega) u3 acc ⟨((Utf8.decode a0 pos).1 : Int), (pos : Int), ((Utf8.decode a0 pos).2 : Int)⟩ [.int .i32 ((Utf8.decode a0 pos).1 : Int), .int .i64 (pos : Int), .int .i64 ((Utf8.decode a0 pos).2 : Int)] (fun k => k ≠ w.heap.size) (fun _ => False) rfl rfl ?aP (fun _ hk => hk.elim) ?aF ?aO ?aB ?aS ?aL ?_; (case aP => exact k41_mkM _ _ _ (⟨((Utf8.decode a0 pos).1 : Int), (pos : Int), ((Utf8.decode a0 pos).2 : Int)⟩ : S41)); (case aB => exact HB3.out); (case aF => exact (fun k hk e => by have := blk_lt HIT3.out; omega)); (case aO => exact HR3.out); (case aS => exact (below_size HB3.out)); (case aL => omega); intro v121 w8 ho hb hg hat; have HIT8 := Aside0.mk (blk_grown HIT3.out hg (fun e => HR3.out.1 _ e.symm rfl)); have HB8 := Aside0.mk hb; have HR8 := Aside0.mk ho; clear ho hb hg hat))
      go_roundw
      case rel => exact (RunesRel.next hp HL.out hfu hal HIT.out HIT8.out HB8.out HR8.out).1
      case measure => exact (RunesRel.next hp HL.out hfu hal HIT.out HIT8.out HB8.out HR8.out).2
    · have hnx : ∀ ty, (Instr.next (.pointer (some ⟨w.heap.size, 0, none⟩)) true ty).run Tryd.prog wr = _ := fun ty => Lib.run_next_end_at wr w.heap.size a0 pos ty hit hp
      rw [runesFrom_end a0 fuel pos hp, List.append_nil] at hL
      have HB := Aside0.mk hB
      have HR := Aside0.mk hR
      have HL := Aside0.mk hL
      clear hit hB hR hL
      go_wp2
      go_ret
      exact ⟨_, rfl, by rw [← HP.out, ← HL.out]; exact Kd.R_mono HR.out (fun _ _ => trivial), HB.out⟩
end Go.Proofs.YtlpkkkkgbnoiiaaDoor.H
end
section
namespace Go.Proofs.YtlpkkkkgbnoiiaaDoor.H
open Go.RowKit Go.Proofs.YtlpkkkkgbnoiiaaDoorW.PrintWords Go.Proofs.YtlpkkkkgbnoiiaaDoorW.PrintLast Go.Proofs.YtlpkkkkgbnoiiaaDoorW.PrintMore
open Go.Maps
set_option linter.unusedVariables false
set_option linter.unusedSimpArgs false
def hexD (d : Nat) : UInt8 := UInt8.ofNat (if d < 10 then 48 + d else 87 + d)
def hexL : Nat → Nat → List UInt8 → List UInt8
  | 0, u, acc => hexD (u % 16) :: acc
  | f + 1, u, acc => if 16 ≤ u then hexL f (u / 16) (hexD (u % 16) :: acc) else hexD u :: acc
set_option maxRecDepth 100000 in
set_option maxHeartbeats 1000000 in
theorem pow2_calls (w : World) : Calls Tryd.prog 83 #[.int .i64 16] w fun e w' => e = .returned (.bool true) ∧ w' = w := by
  go_enter Tryd.func83, Tryd.ntmps83
  go_wp2
  go_ret
  exact ⟨rfl, rfl⟩
set_option maxRecDepth 100000 in
set_option maxHeartbeats 1000000 in
theorem tz64_calls (w : World) (hdb : w.cell? ⟨7, 15, none⟩ = some (.int .u8 4)) : Calls Tryd.prog 87 #[.int .u64 16] w fun e w' => e = .returned (.int .i64 4) ∧ w' = w := by
  go_enter Tryd.func87, Tryd.ntmps87
  have e1 : bits BinOp.and IntKind.u64 16 (IntKind.u64.wrap (-16)) = 16 := by kernel_rfl
  have e2 : IntKind.u64.wrap (16 * 285870213051353865) = 4573923408821661840 := by kernel_rfl
  go_wp2
  go_ret
  exact ⟨rfl, rfl⟩
set_option maxRecDepth 100000 in
theorem tz_calls (w : World) (hdb : w.cell? ⟨7, 15, none⟩ = some (.int .u8 4)) : Calls Tryd.prog 84 #[.int .u64 16] w fun e w' => e = .returned (.int .i64 4) ∧ w' = w := by
  go_enter Tryd.func84, Tryd.ntmps84
  go_wp2_with (go_at_call 87; refine (tz64_calls _ hdb).mono ?_; rintro e w' ⟨rfl, rfl⟩)
  go_ret
  exact ⟨rfl, rfl⟩
def Row65 (g i : Nat) (acc : List UInt8) (w : World) : Prop :=
  ∃ cs : Array Value, w.heap[g]? = some (.cells cs 109 (0, 0)) ∧ cs.size = 65 ∧ i + acc.length = 65 ∧ (∀ j, j < 65 → ∃ c : Int, cs[j]? = some (.int .u8 c)) ∧ ∀ j (hj : j < acc.length), cs[i + j]? = some (.int .u8 (acc[j].toNat : Int))
theorem Row65.new (w : World) : Row65 w.heap.size 65 [] (w.alloc (.cells (Array.replicate 65 (.int .u8 0)) 109)) :=
  ⟨_, blk_new w _, by simp, rfl, fun j hj => ⟨0, by simp [hj]⟩, fun j hj => by simp at hj⟩
theorem Row65.cell {g i : Nat} {acc : List UInt8} {w : World} (h : Row65 g i acc w) (j : Nat) (hj : j < 65) : ∃ c : Int, w.cell? ⟨g, j, none⟩ = some (.int .u8 c) ∧ w.frozen? ⟨g, j, none⟩ = false := by
  obtain ⟨cs, hb, hs, hl, hall, hacc⟩ := h
  obtain ⟨c, hc⟩ := hall j hj
  exact ⟨c, (blk_cell hb j).trans hc, blk_frozen hb j⟩
theorem Row65.put {g i : Nat} {acc : List UInt8} {w : World} (h : Row65 g (i + 1) acc w) (c : UInt8) : Row65 g i (c :: acc) (w.setCell ⟨g, i, none⟩ (.int .u8 (c.toNat : Int))) := by
  obtain ⟨cs, hb, hs, hl, hall, hacc⟩ := h
  refine ⟨_, blk_put hb i _ rfl, by simp [hs], by simp; omega, fun j hj => ?_, fun j hj => ?_⟩
  · by_cases e : i = j
    · subst e; exact ⟨_, by rw [Array.getElem?_setIfInBounds_self_of_lt (by omega)]⟩
    · rw [Array.getElem?_setIfInBounds_ne e]; exact hall j hj
  · cases j with
    | zero => rw [Nat.add_zero, Array.getElem?_setIfInBounds_self_of_lt (by omega)]; rfl
    | succ j =>
      rw [Array.getElem?_setIfInBounds_ne (by omega)]
      have := hacc j (by simpa using hj)
      rw [show i + (j + 1) = i + 1 + j by omega]
      simpa using this
theorem Row65.read {g i : Nat} {acc : List UInt8} {w : World} (h : Row65 g i acc w) (cap : Nat) : (convert 52 9 (.slice (some ⟨g, i, none⟩) (65 - i) cap)).run Tryd.prog w = .ok (.string ⟨acc.toArray⟩) w := by
  obtain ⟨cs, hb, hs, hl, hall, hacc⟩ := h
  rw [show 65 - i = acc.length by omega]
  refine run_convert_bytes_back w 52 9 5 ⟨g, i, none⟩ cap acc Tryd.underlying52 Tryd.underlying5 Tryd.underlying9 (fun j hj => ?_)
  have : (⟨g, i, none⟩ : Addr).add j = ⟨g, i + j, none⟩ := by cases j <;> simp [Addr.add]
  rw [this, blk_cell hb]
  exact hacc j hj
theorem dig36 (d : Nat) (hd : d < 16) : ∀ h, (⟨#[48, 49, 50, 51, 52, 53, 54, 55, 56, 57, 97, 98, 99, 100, 101, 102, 103, 104, 105, 106, 107, 108, 109, 110, 111, 112, 113, 114, 115, 116, 117, 118, 119, 120, 121, 122]⟩ : ByteArray)[d]'h = hexD d := by
  have H : ∀ d, d < 16 → ∀ h, (⟨#[48, 49, 50, 51, 52, 53, 54, 55, 56, 57, 97, 98, 99, 100, 101, 102, 103, 104, 105, 106, 107, 108, 109, 110, 111, 112, 113, 114, 115, 116, 117, 118, 119, 120, 121, 122]⟩ : ByteArray)[d]'h = hexD d := by decide
  exact H d hd
theorem sl65 (g j : Nat) (hj : j < 65) (W : World) : (Instr.sliceAt 109 (.pointer (some ⟨g, 0, none⟩)) (some (.int .i64 (j : Int))) none none).run Tryd.prog W = .ok (.slice (some ⟨g, j, none⟩) (65 - j) (65 - j)) W := by
  have hal : Tryd.prog.arrayLen 109 = 65 := by simp [Program.arrayLen, Tryd.underlying109]
  rw [run_sliceAt_array_l W 109 ⟨g, 0, none⟩ (by simp [Program.arrayLen, Program.elem, Tryd.underlying109]) .i64 (j : Int) (by omega) (by rw [hal]; omega)]
  rw [hal]
  go_simp
  omega
def FbRel (g u : Nat) (vu vi : Value) (w wr : World) : Prop :=
  ∃ (f v i : Nat) (acc : List UInt8), vu = .int .u64 (v : Int) ∧ vi = .int .i64 (i : Int) ∧ v < 16 ^ (f + 1) ∧ f + 50 ≤ i ∧ i ≤ 65 ∧ f ≤ 14 ∧ hexL f v acc = hexL 14 u [] ∧ Row65 g i acc wr ∧ Below g w wr
theorem fb_and (v : Nat) (h : v < 18446744073709551616) : bits BinOp.and IntKind.u64 (v : Int) 15 = ((v % 16 : Nat) : Int) := by
  have := bits_mask .u64 64 (by decide) (fun n h0 h1 => by simp [IntKind.wrap, IntKind.bits, IntKind.signed]; omega) 4 (by decide) (v : Int) (by omega) (by omega)
  simpa using this
set_option maxRecDepth 100000 in
set_option maxHeartbeats 4000000 in
theorem formatBits_calls (u : Nat) (hu : u < 2147483648) (w : World) (hdb : w.cell? ⟨7, 15, none⟩ = some (.int .u8 4)) :
    Calls Tryd.prog 73 #[.slice none 0 0, .int .u64 (u : Int), .int .i64 16, .bool false, .bool false] w fun e w' => e = .returned (.tuple #[.slice none 0 0, .string ⟨(hexL 14 u []).toArray⟩]) ∧ Below w.heap.size w w' := by
  have HDB := Aside0.mk (cell_below hdb (below_alloc (Below.refl _ w) (.cells (Array.replicate 65 (.int .u8 0)) 109)))
  clear hdb
  go_enter Tryd.func73, Tryd.ntmps73
  go_wp2_with (first
    | (go_at_call 83; refine (pow2_calls _).mono ?_; rintro e w' ⟨rfl, rfl⟩)
    | (go_at_call 84; refine (tz_calls _ ?_).mono ?_; (case _ => exact HDB.out); rintro e w' ⟨rfl, rfl⟩))
  go_loopw [1, 13] (fun vu vi wr => FbRel w.heap.size u vu vi w wr) (fun vu _ _ => (intOf vu).toNat)
  case atStart => exact ⟨14, u, 65, [], rfl, rfl, by omega, by omega, by omega, by omega, rfl, Row65.new w, below_alloc (Below.refl _ _) _⟩
  case round =>
    obtain ⟨f, v, i, acc, rfl, rfl, hv, hi, hi2, hf, hL, hR, hB⟩ := hrel
    have hv64 : v < 18446744073709551616 := by
      have : (16 : Nat) ^ (f + 1) ≤ 16 ^ 15 := Nat.pow_le_pow_right (by omega) (by omega)
      omega
    obtain ⟨c, hc, hfz⟩ := hR.cell (i - 1) (by omega)
    obtain ⟨j, rfl⟩ : ∃ j, i = j + 1 := ⟨i - 1, by omega⟩
    rw [Nat.add_sub_cancel] at hc hfz
    have hd16 : v % 16 < 16 := Nat.mod_lt _ (by omega)
    have hij : ((j + 1 : Nat) : Int) - 1 = (j : Int) := by omega
    have hjn : ((j : Int)).toNat = j := rfl
    have HV := Aside0.mk hv
    have HL := Aside0.mk hL
    have HR := Aside0.mk hR
    have HB := Aside0.mk hB
    clear hv hL hR hB
    by_cases h16 : 16 ≤ v
    · have h16b : decide ((v : Int) ≥ 16) = true := by simp; omega
      have hdg := dig36 (v % 16) (by omega)
      have hand := fb_and v hv64
      go_wp2
      go_roundw
      case rel =>
        have hf1 : 1 ≤ f := by
          have := HV.out
          cases f with
          | zero => omega
          | succ f => omega
        refine ⟨f - 1, v / 16, j, hexD (v % 16) :: acc, by push_cast; rfl, rfl, ?_, by omega, by omega, by omega, ?_, HR.out.put _, HB.out.setCell (p := ⟨w.heap.size, j, none⟩) (Nat.le_refl _) _⟩
        · have := HV.out
          cases f with
          | zero => omega
          | succ f => rw [Nat.pow_succ] at this; simp only [Nat.add_sub_cancel]; omega
        · rw [← HL.out]
          cases f with
          | zero => have := HV.out; omega
          | succ f => simp only [Nat.add_sub_cancel, hexL]; rw [if_pos h16]
      case measure => simp [intOf]; omega
    · have h16b : decide ((v : Int) ≥ 16) = false := by simp; omega
      have hdg := dig36 v (by omega)
      have hsl := sl65 w.heap.size j (by omega)
      have hcv := (HR.out.put (hexD v)).read (65 - j)
      go_wp2
      go_ret2
      have e : hexD v :: acc = hexL 14 u [] := by
        rw [← HL.out]
        cases f with
        | zero => simp only [hexL]; rw [Nat.mod_eq_of_lt (by omega)]
        | succ f => simp only [hexL]; rw [if_neg h16]
      exact ⟨by rw [e]; rfl, HB.out.setCell (p := ⟨w.heap.size, j, none⟩) (Nat.le_refl _) _⟩
set_option maxRecDepth 100000 in
set_option maxHeartbeats 1000000 in
theorem formatInt16_calls (u : Nat) (hu : u < 2147483648) (w : World) (hdb : w.cell? ⟨7, 15, none⟩ = some (.int .u8 4)) :
    Calls Tryd.prog 59 #[.int .i64 (u : Int), .int .i64 16] w fun e w' => e = .returned (.string ⟨(hexL 14 u []).toArray⟩) ∧ Below w.heap.size w w' := by
  have HDB := Aside0.mk hdb
  clear hdb
  go_enter Tryd.func59, Tryd.ntmps59
  go_wp2_with (go_at_call 73; refine (formatBits_calls _ hu _ HDB.out).mono ?_; rintro e w' ⟨rfl, hb⟩)
  go_ret
  exact ⟨rfl, hb⟩
set_option maxRecDepth 100000 in
set_option maxHeartbeats 1000000 in
theorem formatInt16p_calls (u : Nat) (hu : u < 2147483648) (w : World) (hdb : w.cell? ⟨7, 15, none⟩ = some (.int .u8 4)) :
    Calls Tryd.prog 47 #[.int .i64 (u : Int), .int .i64 16] w fun e w' => e = .returned (.string ⟨(hexL 14 u []).toArray⟩) ∧ Below w.heap.size w w' := by
  have HDB := Aside0.mk hdb
  clear hdb
  go_enter Tryd.func47, Tryd.ntmps47
  go_wp2_with (go_at_call 59; refine (formatInt16_calls _ hu _ HDB.out).mono ?_; rintro e w' ⟨rfl, hb⟩)
  go_ret
  exact ⟨rfl, hb⟩
def text_hex.f (n : Int) : Option ByteArray := if 0 ≤ n ∧ n < 2147483648 then some ⟨(hexL 14 n.toNat []).toArray⟩ else none
set_option maxRecDepth 100000 in
theorem text_hex.calls (a0 : Int) (r : ByteArray) (w : World) (hgw : GW w) (h : text_hex.f a0 = some r) :
    Calls Tryd.prog 33 #[.int .i32 a0] w fun e w' => e = .returned (.string r) ∧ Below w.heap.size w w' := by
  unfold text_hex.f at h
  split at h
  case isFalse => cases h
  rename_i hs
  have HP := Aside0.mk (Option.some.inj h)
  obtain ⟨u, rfl⟩ := Int.eq_ofNat_of_zero_le hs.1
  have hu : u < 2147483648 := by omega
  have HDB := Aside0.mk (hgw.db 15 (by decide))
  clear h hs hgw
  go_enter Tryd.func33, Tryd.ntmps33
  go_wp2_with (go_at_call 47; refine (formatInt16p_calls u hu _ HDB.out).mono ?_; rintro e w' ⟨rfl, hb⟩)
  go_ret
  exact ⟨by rw [← HP.out]; rfl, hb⟩
end Go.Proofs.YtlpkkkkgbnoiiaaDoor.H
end
section
namespace Go.Proofs.YtlpkkkkgbnoiiaaDoor.H
open Go.RowKit Go.Proofs.YtlpkkkkgbnoiiaaDoorW.PrintWords Go.Proofs.YtlpkkkkgbnoiiaaDoorW.PrintLast Go.Proofs.YtlpkkkkgbnoiiaaDoorW.PrintMore
open Go.Maps
set_option linter.unusedVariables false
set_option linter.unusedSimpArgs false
def Bd (g : Nat) (acc : List UInt8) (w : World) : Prop := Lib.IsBuilderF 54 5 g g (Lib.byteCells acc) w
theorem Bd.new (w : World) : Bd w.heap.size [] (w.alloc (.cells #[.pointer none, .slice none 0 0] 54)) := .of (Lib.fresh_isBuilder _ _ w)
theorem Bd.lt {g : Nat} {acc : List UInt8} {w : World} (h : Bd g acc w) : g < w.heap.size := by
  rcases h with h | h
  · exact h.lt
  · exact h.lt
theorem bat_below {T e : TypeId} {B b : Nat} {p : Value} {bs : List Value} {w W : World} (h : Lib.BuilderAtF T e B b p bs w) (hb : Below w.heap.size w W) : Lib.BuilderAtF T e B b p bs W := by
  obtain ⟨hB, v, hbk, hown, hne⟩ := h
  exact ⟨hB, v, blk_below hbk hb, hown.kept (grown_of_below hb none) (by cases v.ownBlock <;> simp), hne⟩
theorem Bd.below {g : Nat} {acc : List UInt8} {w W : World} (h : Bd g acc w) (hb : Below w.heap.size w W) : Bd g acc W := by
  rcases h with h | h
  · exact .inl (bat_below h hb)
  · exact .inr (bat_below h hb)
theorem Bd.alloc {g : Nat} {acc : List UInt8} {w : World} (h : Bd g acc w) (o : Obj) : Bd g acc (w.alloc o) := h.below (below_alloc (Below.refl _ _) o)
theorem Bd.drewN {g : Nat} {acc : List UInt8} {w : World} (h : Bd g acc w) (n : Nat) : Bd g acc (w.drewN n) := h.below (pw_below_drewN (Below.refl _ _) n)
theorem Bd.write {g : Nat} {acc : List UInt8} {w : World} (h : Bd g acc w) (s : ByteArray) (hlen : acc.length + s.size ≤ 140737488355328) :
    Calls Tryd.prog 32 #[.pointer (some ⟨g, 0, none⟩), .string s] w fun e w' => e = .returned (.tuple #[.int .i64 s.size, .nilIface]) ∧ Bd g (acc ++ s.data.toList) w' ∧ Below g w w' ∧ Lib.OthersKept 5 (some g) w w' := by
  refine (Any.Builder_WriteString_k Tryd.ly166 Tryd.bx g g _ s w h (by rw [Lib.byteCells_length]; exact hlen) (Nat.le_of_lt h.lt)).mono ?_
  rintro e w' ⟨rfl, h1, h2, h3⟩
  refine ⟨rfl, ?_, h2, h3⟩
  unfold Bd
  rw [Lib.byteCells_append]
  exact Or.inr h1
theorem Bd.string {g : Nat} {acc : List UInt8} {w : World} (h : Bd g acc w) :
    Calls Tryd.prog 34 #[.pointer (some ⟨g, 0, none⟩)] w fun e w' => e = .returned (.string ⟨acc.toArray⟩) ∧ Below g w w' := by
  refine (Any.Builder_String_any_k Tryd.ly169 Tryd.bx g g acc w h (Nat.le_of_lt h.lt)).mono ?_
  rintro e w' ⟨rfl, _, h2, _⟩
  exact ⟨rfl, h2⟩
theorem keep_blk {g k : Nat} {w W : World} {c : Array Value} {T : TypeId} {fz : Nat × Nat} (h : Lib.OthersKept 5 (some g) w W) (hk : w.heap[k]? = some (.cells c T fz)) (hne : k ≠ g) (hT : T ≠ 5) : W.heap[k]? = some (.cells c T fz) :=
  h k _ hk (by simpa using hne) (fun c' fz' e => hT (by injection e))
theorem Bd.byte {g : Nat} {acc : List UInt8} {w : World} (h : Bd g acc w) (c : UInt8) (hlen : acc.length + 1 ≤ 140737488355328) :
    Calls Tryd.prog 31 #[.pointer (some ⟨g, 0, none⟩), .int .u8 c.toNat] w fun e w' => e = .returned .nilIface ∧ Bd g (acc ++ [c]) w' ∧ Below g w w' ∧ Lib.OthersKept 5 (some g) w w' := by
  refine (Any.Builder_WriteByte_k Tryd.ly167 Tryd.bx g g _ c.toNat w h (by rw [Lib.byteCells_length]; exact hlen) (Nat.le_of_lt h.lt)).mono ?_
  rintro e w' ⟨rfl, h1, h2, h3⟩
  refine ⟨rfl, ?_, h2, h3⟩
  unfold Bd
  rw [Lib.byteCells_append]
  exact Or.inr h1
theorem Bd.rune {g : Nat} {acc : List UInt8} {w : World} (h : Bd g acc w) (r : Int) (hr0 : -2147483648 ≤ r) (hr1 : r ≤ 2147483647) (hlen : acc.length + 4 ≤ 140737488355328) :
    Calls Tryd.prog 38 #[.pointer (some ⟨g, 0, none⟩), .int .i32 r] w fun e w' => (∃ n : Int, e = .returned (.tuple #[.int .i64 n, .nilIface])) ∧ Bd g (acc ++ Lib.encodeRune r) w' ∧ Below g w w' ∧ Lib.OthersKept 5 (some g) w w' := by
  refine (Any.Builder_WriteRune_k Tryd.ly168 Tryd.bx g g _ r hr0 hr1 w h (by rw [Lib.byteCells_length]; exact hlen) (Nat.le_of_lt h.lt)).mono ?_
  rintro e w' ⟨rfl, h1, h2, h3⟩
  refine ⟨⟨_, rfl⟩, ?_, h2, h3⟩
  unfold Bd
  rw [Lib.byteCells_append, Lib.byteCells_encodeRune]
  exact Or.inr h1
end Go.Proofs.YtlpkkkkgbnoiiaaDoor.H
end
section
namespace Go.Proofs.YtlpkkkkgbnoiiaaDoor.H
open Go.RowKit Go.Proofs.YtlpkkkkgbnoiiaaDoorW.PrintWords Go.Proofs.YtlpkkkkgbnoiiaaDoorW.PrintLast Go.Proofs.YtlpkkkkgbnoiiaaDoorW.PrintMore
open Go.Maps
set_option linter.unusedVariables false
set_option linter.unusedSimpArgs false
def escOf (s : ByteArray) (x : S41) : List UInt8 :=
  if x.f0 = 65533 ∧ x.f2 = 1 then [92, 120, 123] ++ hexL 14 (s.get! x.f1.toNat).toNat [] ++ [125]
  else if x.f0 = 10 then [92, 110] else if x.f0 = 13 then [92, 114] else if x.f0 = 9 then [92, 116]
  else if x.f0 = 34 ∨ x.f0 = 92 then [92, x.f0.toNat.toUInt8]
  else if x.f0 < 32 ∨ x.f0 > 126 then [92, 117, 123] ++ hexL 14 x.f0.toNat [] ++ [125]
  else [x.f0.toNat.toUInt8]
def quoteB (s : ByteArray) (rs : List S41) : List UInt8 := 34 :: rs.flatMap (escOf s)
def text_Quote.f (a0 : ByteArray) : Option ByteArray := if a0.size ≤ 4398046511104 then some (⟨(quoteB a0 (runesL a0)).toArray⟩ ++ ⟨#[34]⟩) else none
theorem hexL_len (f : Nat) : ∀ u acc, (hexL f u acc).length ≤ f + 1 + acc.length := by
  induction f with
  | zero => intro u acc; simp [hexL]; omega
  | succ f ih =>
    intro u acc
    simp only [hexL]
    split
    · have := ih (u / 16) (hexD (u % 16) :: acc); simp at this; omega
    · simp; omega
theorem escOf_len (s : ByteArray) (x : S41) : (escOf s x).length ≤ 20 := by
  have h1 := hexL_len 14 (s.get! x.f1.toNat).toNat []
  have h2 := hexL_len 14 x.f0.toNat []
  simp only [List.length_nil] at h1 h2
  unfold escOf
  repeat' split
  all_goals simp
  all_goals omega
theorem flatMap_esc_len (s : ByteArray) (rs : List S41) : (rs.flatMap (escOf s)).length ≤ 20 * rs.length := by
  induction rs with
  | nil => simp
  | cons x r ih => have := escOf_len s x; simp only [List.flatMap_cons, List.length_append, List.length_cons]; omega
theorem runesFrom_mem (s : ByteArray) (f : Nat) : ∀ pos, ∀ x ∈ runesFrom s f pos, (0 ≤ x.f0 ∧ x.f0 ≤ 1114111) ∧ 0 ≤ x.f1 ∧ x.f1 < s.size := by
  induction f with
  | zero => intro pos x hx; simp [runesFrom] at hx
  | succ f ih =>
    intro pos x hx
    simp only [runesFrom] at hx
    split at hx
    · rename_i hp
      rcases List.mem_cons.1 hx with rfl | hx
      · have := Lib.rune_le s pos
        exact ⟨⟨by simp, by simp; omega⟩, by simp, by simp; omega⟩
      · exact ih _ x hx
    · simp at hx
theorem runesFrom_len (s : ByteArray) (f : Nat) : ∀ pos, (runesFrom s f pos).length ≤ s.size - pos := by
  induction f with
  | zero => intro pos; simp [runesFrom]
  | succ f ih =>
    intro pos
    simp only [runesFrom]
    split
    · have := ih (pos + (Utf8.decode s pos).2); have := rune_w_pos s pos; simp only [List.length_cons]; omega
    · simp
theorem R_others {α : Type} {d : Kd α} {e base g : Nat} {ok : Nat → Prop} {w W : World} {v : Value} {xs : List α} (h : d.R e w base ok v xs) (hE : d.E = []) (hk : Lib.OthersKept 5 (some g) w W) (hne : e ≠ 5) (hg : g < base) : d.R e W base ok v xs :=
  Kd.R_mono (Kd.R_step (Kd.R_bound h) (fun k hk1 _ => by
    obtain ⟨_, h2, _, q, hq, cs, hc⟩ := hk1
    rw [hE] at hq
    simp only [List.mem_singleton] at hq
    subst hq
    exact (hk k _ hc (fun e_ => by injection e_ with e_; omega) (fun c' fz' e_ => hne (by injection e_))).trans hc.symm)) (fun _ hk1 => hk1.1)
theorem hex_any (n : Int) (h0 : 0 ≤ n) (h1 : n < 2147483648) (w : World) (hgw : GW w) : Calls Tryd.prog 33 #[.int .i32 n] w fun e w' => ∃ hx : ByteArray, e = .returned (.string hx) ∧ Aside0 (hx.data.toList = hexL 14 n.toNat []) ∧ hx.size ≤ 15 ∧ Below w.heap.size w w' := by
  have h := hexL_len 14 n.toNat []
  simp only [List.length_nil] at h
  refine (text_hex.calls n ⟨(hexL 14 n.toNat []).toArray⟩ w hgw (by unfold text_hex.f; rw [if_pos ⟨h0, h1⟩])).mono ?_
  rintro e w' ⟨rfl, hb⟩
  exact ⟨_, rfl, ⟨by simp⟩, by simp [ByteArray.size]; omega, hb⟩
theorem write_len {acc : List UInt8} {s : ByteArray} (h : acc.length ≤ 140737488355000) (hs : s.size ≤ 100) : acc.length + s.size ≤ 140737488355328 := by omega
def QRel (s : ByteArray) (rs : List S41) (w : World) (v vi : Value) (wr : World) : Prop :=
  ∃ k : Nat, k ≤ rs.length ∧ vi = .int .i64 (k : Int) ∧ Bd w.heap.size (quoteB s (rs.take k)) wr ∧ Below w.heap.size w wr ∧ Kd.R k41 41 wr (w.heap.size + 1) (fun _ => True) v rs
theorem QRel.next {s : ByteArray} {rs : List S41} {w W : World} {v : Value} {k : Nat} (hk : k < rs.length) {acc : List UInt8} (hb : Bd w.heap.size acc W) (he : acc = quoteB s (rs.take k) ++ escOf s (rs[k])) (hB : Below w.heap.size w W)
    (hR : Kd.R k41 41 W (w.heap.size + 1) (fun _ => True) v rs) : QRel s rs w v (.int .i64 ((k : Int) + 1)) W := by
  refine ⟨k + 1, hk, by push_cast; rfl, ?_, hB, hR⟩
  rw [he] at hb
  rw [List.take_succ_eq_append_getElem hk]
  have e : quoteB s (rs.take k ++ [rs[k]]) = quoteB s (rs.take k) ++ escOf s rs[k] := by
    unfold quoteB
    rw [List.flatMap_append]
    simp only [List.flatMap_cons, List.flatMap_nil, List.append_nil, List.cons_append]
  rw [e]
  exact hb
set_option maxRecDepth 100000 in
set_option maxHeartbeats 8000000 in
theorem text_Quote.calls (a0 : ByteArray) (r : ByteArray) (w : World) (hgw : GW w) (h : text_Quote.f a0 = some r) :
    Calls Tryd.prog 16 #[.string a0] w fun e w' => e = .returned (.string r) ∧ Below w.heap.size w w' := by
  unfold text_Quote.f at h
  split at h
  case isFalse => cases h
  rename_i hs
  have HP := Aside0.mk (Option.some.inj h)
  have HS := Aside0.mk hs
  have HGW := Aside0.mk hgw
  have HRF := Aside0.mk (show text_Runes.f a0 = some (runesL a0) by unfold text_Runes.f; rw [if_pos hs])
  have HRL := Aside0.mk (show (runesL a0).length ≤ 4398046511104 from Nat.le_trans (runesFrom_len a0 a0.size 0) (by omega))
  have HRM := Aside0.mk (fun x hx => runesFrom_mem a0 a0.size 0 x hx : ∀ x ∈ runesL a0, (0 ≤ x.f0 ∧ x.f0 ≤ 1114111) ∧ 0 ≤ x.f1 ∧ x.f1 < a0.size)
  have HB0 := Aside0.mk (Bd.new w)
  clear h hs hgw
  obtain ⟨rs, hrs⟩ : ∃ rs, runesL a0 = rs := ⟨_, rfl⟩
  rw [hrs] at HP HRF HRL HRM
  clear hrs
  go_enter Tryd.func16, Tryd.ntmps16
  go_wp2_with (first
    | (go_at_call 31; refine (HB0.out.byte 34 (by simp)).mono ?_; rintro e w1 ⟨rfl, hb1, hB1, hO1⟩; have HB1 := Aside0.mk hb1; have HL1 := Aside0.mk ((below_alloc (Below.refl w.heap.size w) _).trans hB1); clear hb1 hB1 hO1)
    | (go_at_call 14; refine (text_Runes.calls a0 rs _ (HGW.out.below HL1.out) HRF.out).mono ?_; rintro e w2 ⟨v, rfl, hR, hb⟩; obtain ⟨A, c, rfl⟩ := Kd.R_slice hR; have HB2 := Aside0.mk (HB1.out.below hb); have HR2 := Aside0.mk (Kd.R_lower hR (show w.heap.size + 1 ≤ w1.heap.size from HB1.out.lt)); have HL2 := Aside0.mk (below_step HL1.out hb); clear hR hb))
  go_loopw [10] (fun v10 wr => QRel a0 rs w (.slice A rs.length c) v10 wr) (fun v10 _ => rs.length - (intOf v10).toNat)
  case atStart => exact ⟨0, Nat.zero_le _, rfl, HB2.out, HL2.out, HR2.out⟩
  case round =>
    obtain ⟨k, hk, rfl, hb, hB, hR⟩ := hrel
    have hn := HRL.out
    by_cases hlt : k < rs.length
    · have hm := HRM.out _ (List.getElem_mem hlt)
      obtain ⟨ad, hA, hx0, hx1, hx2⟩ := at_T41 (Kd.R_reads' hR).2.2 (k : Int) (by omega) (by omega)
      have hrd : rd_T41 rs (k : Int) = rs[k] := by simp [rd_T41, List.getD_eq_getElem?_getD, List.getElem?_eq_getElem hlt]
      rw [hrd] at hx0 hx1 hx2
      simp only [Int.toNat_natCast] at hx0 hx1 hx2
      cases hA
      obtain ⟨⟨f0, f1, f2⟩, hx⟩ : ∃ x, rs[k] = x := ⟨_, rfl⟩
      rw [hx] at hx0 hx1 hx2 hm
      dsimp only at hx0 hx1 hx2 hm
      obtain ⟨⟨m0, m1⟩, m2, m3⟩ := hm
      have HX := Aside0.mk hx
      have HB := Aside0.mk hb
      have HL := Aside0.mk hB
      have HR := Aside0.mk hR
      have hq : (quoteB a0 (rs.take k)).length ≤ 140737488355000 := by
        have h1 := flatMap_esc_len a0 (rs.take k)
        have h2 : (rs.take k).length ≤ k := List.length_take_le _ _
        simp only [quoteB, List.length_cons]; omega
      have HQ := Aside0.mk hq
      clear hx hb hB hR hrd hq
      by_cases t1 : f0 = 65533
      · subst t1
        by_cases t2 : f2 = 1
        · subst t2
          have hby : (a0.get! f1.toNat) = a0[f1.toNat]'(by omega) := get_at a0 f1.toNat (by omega)
          have HBY := Aside0.mk hby
          obtain ⟨c8, hc8⟩ : ∃ c8 : UInt8, (a0[f1.toNat]'(by omega)) = c8 := ⟨_, rfl⟩
          rw [hc8] at HBY
          have hc8' : ∀ h, a0[f1.toNat]'h = c8 := fun _ => hc8
          clear hc8 hby
          have h8 := c8.toNat_lt
          have hwb : wrap32 (c8.toNat : Int) = (c8.toNat : Int) := by unfold wrap32; omega
          go_wp2_with (first
            | (go_at_call 33; refine (hex_any _ ?h1 ?h2 _ ?h3).mono ?_; (case h1 => omega); (case h2 => omega); (case h3 => exact HGW.out.below (below_alloc HL.out _)); rintro e w1 ⟨hx, rfl, HX1, hx2, hb1⟩; have HB1 := Aside0.mk ((HB.out.alloc _).below hb1); have HL1 := Aside0.mk (below_step (below_alloc HL.out _) hb1); have HR1 := Aside0.mk (Kd.R_below (Kd.R_alloc HR.out _) hb1); clear hb1; have hz1 : (9223372036854775807 < 3 + hx.size) = False := eq_false (by omega); have hz2 : (9223372036854775807 < 3 + hx.size + 1) = False := eq_false (by omega))
            | (go_at_call 32; refine (Bd.write HB1.out _ ?h4).mono ?_; (case h4 => exact write_len HQ.out (by first | decide | (simp only [ByteArray.size_append]; show 3 + hx.size + 1 ≤ 100; omega))); rintro e w2 ⟨rfl, hb2, hB2, hO2⟩; have HB2 := Aside0.mk hb2; have HL2 := Aside0.mk (HL1.out.trans hB2); have HR2 := Aside0.mk (R_others HR1.out rfl hO2 (by decide) (Nat.lt_succ_self _)); clear hb2 hB2 hO2))
          go_roundw
          case rel => exact QRel.next hlt HB2.out (by rw [HX.out]; simp [escOf, HX1.out, HBY.out]) HL2.out HR2.out
          case measure => simp [intOf]; omega
        · have t2b : (f2 == 1) = false := by simpa using t2
          go_wp2_with (first
            | (go_at_call 33; refine (hex_any _ ?h1 ?h2 _ ?h3).mono ?_; (case h1 => omega); (case h2 => omega); (case h3 => exact HGW.out.below (below_alloc HL.out _)); rintro e w1 ⟨hx, rfl, HX1, hx2, hb1⟩; have HB1 := Aside0.mk ((HB.out.alloc _).below hb1); have HL1 := Aside0.mk (below_step (below_alloc HL.out _) hb1); have HR1 := Aside0.mk (Kd.R_below (Kd.R_alloc HR.out _) hb1); clear hb1; have hz1 : (9223372036854775807 < 3 + hx.size) = False := eq_false (by omega); have hz2 : (9223372036854775807 < 3 + hx.size + 1) = False := eq_false (by omega))
            | (go_at_call 32; refine (Bd.write HB1.out _ ?h4).mono ?_; (case h4 => exact write_len HQ.out (by first | decide | (simp only [ByteArray.size_append]; show 3 + hx.size + 1 ≤ 100; omega))); rintro e w2 ⟨rfl, hb2, hB2, hO2⟩; have HB2 := Aside0.mk hb2; have HL2 := Aside0.mk (HL1.out.trans hB2); have HR2 := Aside0.mk (R_others HR1.out rfl hO2 (by decide) (Nat.lt_succ_self _)); clear hb2 hB2 hO2))
          go_roundw
          case rel => exact QRel.next hlt HB2.out (by rw [HX.out]; simp [escOf, HX1.out, t2]) HL2.out HR2.out
          case measure => simp [intOf]; omega
      have t1b : (f0 == 65533) = false := by simpa using t1
      by_cases t10 : f0 = 10
      · subst t10
        go_wp2_with (first
          | (go_at_call 32; refine (Bd.write (HB.out.alloc _) _ ?h4).mono ?_; (case h4 => exact write_len HQ.out (by first | decide | (simp only [ByteArray.size_append]; show 3 + hx.size + 1 ≤ 100; omega))); rintro e w1 ⟨rfl, hb1, hB1, hO1⟩; have HB1 := Aside0.mk hb1; have HL1 := Aside0.mk ((below_alloc HL.out _).trans hB1); have HR1 := Aside0.mk (R_others (Kd.R_alloc HR.out _) rfl hO1 (by decide) (Nat.lt_succ_self _)); clear hb1 hB1 hO1))
        go_roundw
        case rel => exact QRel.next hlt HB1.out (by rw [HX.out]; simp [escOf]) HL1.out HR1.out
        case measure => simp [intOf]; omega
      have t10b : (f0 == 10) = false := by simpa using t10
      by_cases t13 : f0 = 13
      · subst t13
        go_wp2_with (first
          | (go_at_call 32; refine (Bd.write (HB.out.alloc _) _ ?h4).mono ?_; (case h4 => exact write_len HQ.out (by first | decide | (simp only [ByteArray.size_append]; show 3 + hx.size + 1 ≤ 100; omega))); rintro e w1 ⟨rfl, hb1, hB1, hO1⟩; have HB1 := Aside0.mk hb1; have HL1 := Aside0.mk ((below_alloc HL.out _).trans hB1); have HR1 := Aside0.mk (R_others (Kd.R_alloc HR.out _) rfl hO1 (by decide) (Nat.lt_succ_self _)); clear hb1 hB1 hO1))
        go_roundw
        case rel => exact QRel.next hlt HB1.out (by rw [HX.out]; simp [escOf]) HL1.out HR1.out
        case measure => simp [intOf]; omega
      have t13b : (f0 == 13) = false := by simpa using t13
      by_cases t9 : f0 = 9
      · subst t9
        go_wp2_with (first
          | (go_at_call 32; refine (Bd.write (HB.out.alloc _) _ ?h4).mono ?_; (case h4 => exact write_len HQ.out (by first | decide | (simp only [ByteArray.size_append]; show 3 + hx.size + 1 ≤ 100; omega))); rintro e w1 ⟨rfl, hb1, hB1, hO1⟩; have HB1 := Aside0.mk hb1; have HL1 := Aside0.mk ((below_alloc HL.out _).trans hB1); have HR1 := Aside0.mk (R_others (Kd.R_alloc HR.out _) rfl hO1 (by decide) (Nat.lt_succ_self _)); clear hb1 hB1 hO1))
        go_roundw
        case rel => exact QRel.next hlt HB1.out (by rw [HX.out]; simp [escOf]) HL1.out HR1.out
        case measure => simp [intOf]; omega
      have t9b : (f0 == 9) = false := by simpa using t9
      by_cases t34 : f0 = 34
      · subst t34
        have tk0 : True := trivial
        go_wp2_with (first
          | (have _u := tk0; clear tk0; go_at_call 31; refine (Bd.byte (HB.out.alloc _) 92 ?h4).mono ?_; (case h4 => have := HQ.out; first | omega | (simp only [List.length_append, List.length_cons, List.length_nil]; omega)); rintro e w1 ⟨rfl, hb1, hB1, hO1⟩; have hOx := Aside0.mk hO1; have HB1 := Aside0.mk hb1; have HL1 := Aside0.mk ((below_alloc HL.out _).trans hB1); have HR1 := Aside0.mk (R_others (Kd.R_alloc HR.out _) rfl hO1 (by decide) (Nat.lt_succ_self _)); clear hb1 hB1 hO1; have hcz := keep_blk (g := w.heap.size) hOx.out (blk_new wr _) (by have := HB.out.lt; omega) (by decide); have hcz0 := (blk_cell hcz 0).trans rfl; have hcz2 := (blk_cell hcz 2).trans rfl; clear hcz)
          | (have _u := hOx; go_at_call 31; refine (Bd.byte HB1.out 34 ?h5).mono ?_; (case h5 => have := HQ.out; first | omega | (simp only [List.length_append, List.length_cons, List.length_nil]; omega)); rintro e w2 ⟨rfl, hb2, hB2, hO2⟩; have HB2 := Aside0.mk hb2; have HL2 := Aside0.mk (HL1.out.trans hB2); have HR2 := Aside0.mk (R_others HR1.out rfl hO2 (by decide) (Nat.lt_succ_self _)); clear hb2 hB2 hO2; clear hOx))
        go_roundw
        case rel => exact QRel.next hlt HB2.out (by rw [HX.out]; simp [escOf]) HL2.out HR2.out
        case measure => simp [intOf]; omega
      have t34b : (f0 == 34) = false := by simpa using t34
      by_cases t92 : f0 = 92
      · subst t92
        have tk0 : True := trivial
        go_wp2_with (first
          | (have _u := tk0; clear tk0; go_at_call 31; refine (Bd.byte (HB.out.alloc _) 92 ?h4).mono ?_; (case h4 => have := HQ.out; first | omega | (simp only [List.length_append, List.length_cons, List.length_nil]; omega)); rintro e w1 ⟨rfl, hb1, hB1, hO1⟩; have hOx := Aside0.mk hO1; have HB1 := Aside0.mk hb1; have HL1 := Aside0.mk ((below_alloc HL.out _).trans hB1); have HR1 := Aside0.mk (R_others (Kd.R_alloc HR.out _) rfl hO1 (by decide) (Nat.lt_succ_self _)); clear hb1 hB1 hO1; have hcz := keep_blk (g := w.heap.size) hOx.out (blk_new wr _) (by have := HB.out.lt; omega) (by decide); have hcz0 := (blk_cell hcz 0).trans rfl; have hcz2 := (blk_cell hcz 2).trans rfl; clear hcz)
          | (have _u := hOx; go_at_call 31; refine (Bd.byte HB1.out 92 ?h5).mono ?_; (case h5 => have := HQ.out; first | omega | (simp only [List.length_append, List.length_cons, List.length_nil]; omega)); rintro e w2 ⟨rfl, hb2, hB2, hO2⟩; have HB2 := Aside0.mk hb2; have HL2 := Aside0.mk (HL1.out.trans hB2); have HR2 := Aside0.mk (R_others HR1.out rfl hO2 (by decide) (Nat.lt_succ_self _)); clear hb2 hB2 hO2; clear hOx))
        go_roundw
        case rel => exact QRel.next hlt HB2.out (by rw [HX.out]; simp [escOf]) HL2.out HR2.out
        case measure => simp [intOf]; omega
      have t92b : (f0 == 92) = false := by simpa using t92
      by_cases l32 : f0 < 32
      · have d1 : decide (f0 < 32) = true := by simpa using l32
        go_wp2_with (first
          | (go_at_call 33; refine (hex_any _ ?h1 ?h2 _ ?h3).mono ?_; (case h1 => omega); (case h2 => omega); (case h3 => exact HGW.out.below (below_alloc HL.out _)); rintro e w1 ⟨hx, rfl, HX1, hx2, hb1⟩; have HB1 := Aside0.mk ((HB.out.alloc _).below hb1); have HL1 := Aside0.mk (below_step (below_alloc HL.out _) hb1); have HR1 := Aside0.mk (Kd.R_below (Kd.R_alloc HR.out _) hb1); clear hb1; have hz1 : (9223372036854775807 < 3 + hx.size) = False := eq_false (by omega); have hz2 : (9223372036854775807 < 3 + hx.size + 1) = False := eq_false (by omega))
          | (go_at_call 32; refine (Bd.write HB1.out _ ?h4).mono ?_; (case h4 => exact write_len HQ.out (by first | decide | (simp only [ByteArray.size_append]; show 3 + hx.size + 1 ≤ 100; omega))); rintro e w2 ⟨rfl, hb2, hB2, hO2⟩; have HB2 := Aside0.mk hb2; have HL2 := Aside0.mk (HL1.out.trans hB2); have HR2 := Aside0.mk (R_others HR1.out rfl hO2 (by decide) (Nat.lt_succ_self _)); clear hb2 hB2 hO2))
        go_roundw
        case rel => exact QRel.next hlt HB2.out (by rw [HX.out]; rw [escOf, if_neg (by simp [t1]), if_neg t10, if_neg t13, if_neg t9, if_neg (by simp [t34, t92]), if_pos (by simp; omega)]; simp [HX1.out]) HL2.out HR2.out
        case measure => simp [intOf]; omega
      by_cases g126 : f0 > 126
      · have d1 : decide (f0 < 32) = false := by simp; omega
        have d2 : decide (f0 > 126) = true := by simp; omega
        go_wp2_with (first
          | (go_at_call 33; refine (hex_any _ ?h1 ?h2 _ ?h3).mono ?_; (case h1 => omega); (case h2 => omega); (case h3 => exact HGW.out.below (below_alloc HL.out _)); rintro e w1 ⟨hx, rfl, HX1, hx2, hb1⟩; have HB1 := Aside0.mk ((HB.out.alloc _).below hb1); have HL1 := Aside0.mk (below_step (below_alloc HL.out _) hb1); have HR1 := Aside0.mk (Kd.R_below (Kd.R_alloc HR.out _) hb1); clear hb1; have hz1 : (9223372036854775807 < 3 + hx.size) = False := eq_false (by omega); have hz2 : (9223372036854775807 < 3 + hx.size + 1) = False := eq_false (by omega))
          | (go_at_call 32; refine (Bd.write HB1.out _ ?h4).mono ?_; (case h4 => exact write_len HQ.out (by first | decide | (simp only [ByteArray.size_append]; show 3 + hx.size + 1 ≤ 100; omega))); rintro e w2 ⟨rfl, hb2, hB2, hO2⟩; have HB2 := Aside0.mk hb2; have HL2 := Aside0.mk (HL1.out.trans hB2); have HR2 := Aside0.mk (R_others HR1.out rfl hO2 (by decide) (Nat.lt_succ_self _)); clear hb2 hB2 hO2))
        go_roundw
        case rel => exact QRel.next hlt HB2.out (by rw [HX.out]; rw [escOf, if_neg (by simp [t1]), if_neg t10, if_neg t13, if_neg t9, if_neg (by simp [t34, t92]), if_pos (by simp; omega)]; simp [HX1.out]) HL2.out HR2.out
        case measure => simp [intOf]; omega
      have d1 : decide (f0 < 32) = false := by simp; omega
      have d2 : decide (f0 > 126) = false := by simp; omega
      have h8 : f0 % 256 = f0 := by omega
      obtain ⟨c8, rfl⟩ : ∃ c8 : UInt8, f0 = (c8.toNat : Int) := ⟨f0.toNat.toUInt8, by simp [Nat.toUInt8]; omega⟩
      go_wp2_with (first
        | (go_at_call 31; refine (Bd.byte (HB.out.alloc _) c8 ?h4).mono ?_; (case h4 => have := HQ.out; first | omega | (simp only [List.length_append, List.length_cons, List.length_nil]; omega)); rintro e w1 ⟨rfl, hb1, hB1, hO1⟩; have HB1 := Aside0.mk hb1; have HL1 := Aside0.mk ((below_alloc HL.out _).trans hB1); have HR1 := Aside0.mk (R_others (Kd.R_alloc HR.out _) rfl hO1 (by decide) (Nat.lt_succ_self _)); clear hb1 hB1 hO1))
      go_roundw
      case rel => exact QRel.next hlt HB1.out (by rw [HX.out]; rw [escOf, if_neg (by simp [t1]), if_neg t10, if_neg t13, if_neg t9, if_neg (by simp [t34, t92]), if_neg (by simp; omega)]; simp) HL1.out HR1.out
      case measure => simp [intOf]; omega
    · have hke : k = rs.length := by omega
      subst hke
      rw [List.take_of_length_le (Nat.le_refl _)] at hb
      have HB := Aside0.mk hb
      have HL := Aside0.mk hB
      clear hb hB hR
      have hq : ((⟨(quoteB a0 rs).toArray⟩ : ByteArray)).size ≤ 140737488355000 := by
        have h1 := flatMap_esc_len a0 rs
        simp only [quoteB, ByteArray.size, List.size_toArray, List.length_cons]; omega
      have hq2 : (9223372036854775807 < ((⟨(quoteB a0 rs).toArray⟩ : ByteArray)).size + 1) = False := by simp; omega
      have hq3 : (9223372036854775807 < (quoteB a0 rs).length + 1) = False := eq_false (by have := hq; simp only [ByteArray.size, List.size_toArray] at this; omega)
      go_wp2_with (go_at_call 34; refine (HB.out.string).mono ?_; rintro e w3 ⟨rfl, hB3⟩; have HL3 := Aside0.mk (HL.out.trans hB3); clear hB3)
      go_ret
      exact ⟨by rw [← HP.out]; rfl, HL3.out⟩
end Go.Proofs.YtlpkkkkgbnoiiaaDoor.H
end
section
namespace Go.Proofs.YtlpkkkkgbnoiiaaDoor.H
open Go.RowKit Go.Proofs.YtlpkkkkgbnoiiaaDoorW.PrintWords Go.Proofs.YtlpkkkkgbnoiiaaDoorW.PrintLast Go.Proofs.YtlpkkkkgbnoiiaaDoorW.PrintMore
open Go.Maps
set_option linter.unusedVariables false
set_option linter.unusedSimpArgs false
theorem below_grow_drewN (w : World) (q : Nat) (os : Array Obj) : Below w.heap.size w (Sort.grow (w.drewN q) os) :=
  ⟨rfl, rfl, rfl, by first | (simp [Sort.grow]; done) | (simp [Sort.grow]; omega), fun i hi => by
    show ((w.drewN q).heap ++ os)[i]? = _
    rw [Array.getElem?_append_left (by show i < w.heap.size; omega)]
    rfl⟩
def text_Show.f (n : Int) : Option ByteArray := if -9223372036854775808 ≤ n ∧ n ≤ 9223372036854775807 then some ⟨(Lib.itoa n).toArray⟩ else none
theorem text_Show.calls (n : Int) (r : ByteArray) (w : World) (hgw : GW w) (h : text_Show.f n = some r) :
    Calls Tryd.prog 26 #[.int .i64 n] w fun e w' => e = .returned (.string r) ∧ Below w.heap.size w w' := by
  unfold text_Show.f at h
  split at h
  case isFalse => cases h
  rename_i hs
  obtain ⟨h0, h1⟩ := hs
  have HP := Aside0.mk (Option.some.inj h)
  have HGW := Aside0.mk hgw
  clear hgw h
  go_enter Tryd.func26, Tryd.ntmps26
  go_wp2_with (go_at_call 43; refine (Any.strconv_Itoa Tryd.ly171M n h0 h1 _ HGW.out.pow).mono ?_; rintro e w' ⟨rfl, k, os, rfl⟩)
  go_ret
  exact ⟨by rw [← HP.out]; rfl, below_grow_drewN _ _ _⟩
end Go.Proofs.YtlpkkkkgbnoiiaaDoor.H
end
section
namespace Go.Proofs.YtlpkkkkgbnoiiaaDoor.H
open Go.RowKit Go.Proofs.YtlpkkkkgbnoiiaaDoorW.PrintWords Go.Proofs.YtlpkkkkgbnoiiaaDoorW.PrintLast Go.Proofs.YtlpkkkkgbnoiiaaDoorW.PrintMore
open Go.Maps
set_option linter.unusedVariables false
set_option linter.unusedSimpArgs false
def strings_IndexByte.f (a0 : ByteArray) (a1 : Int) : Option Int := some (Lib.indexByte a0.data.toList a1.toNat.toUInt8)
theorem strings_IndexByte.calls (a0 : ByteArray) (a1 : Int) (r : Int) (w : World) (h : strings_IndexByte.f a0 a1 = some r) :
    Calls Tryd.prog 50 #[.string a0, .int .u8 a1] w fun e w' => e = .returned (.int .i64 r) ∧ Drawn0 w w' := by
  obtain rfl := Option.some.inj h
  exact (Any.strings_IndexByte Tryd.ly137 a0 a1 w).mono fun e w' ⟨he, hw⟩ => ⟨he, ⟨0, hw⟩⟩
end Go.Proofs.YtlpkkkkgbnoiiaaDoor.H
end
section
namespace Go.Proofs.YtlpkkkkgbnoiiaaDoor.H
open Go.RowKit Go.Proofs.YtlpkkkkgbnoiiaaDoorW.PrintWords Go.Proofs.YtlpkkkkgbnoiiaaDoorW.PrintLast Go.Proofs.YtlpkkkkgbnoiiaaDoorW.PrintMore
attribute [local go_sem] max2_int min2_int max_two min_two max_three min_three max_four min_four
set_option linter.unusedVariables false
set_option linter.unusedSimpArgs false
mutual
def text_braced.j2 : Nat → ByteArray → Int → Int → Int → Option (Int × Int)
 | 0, _, _, _, _ => none
 | k + 1, x0, x1, x6, x8 => if x8 = (x0.size : Int) then (some (0, (-1))) else (if 0 ≤ x8 then (if x8 < (x0.size : Int) then (if (bt x0 x8) = 125 then (if x8 ≤ x1 then (some (0, 0)) else (some (x6, wrap64 (x8 + 1)))) else (some (0, 0))) else (none)) else (none))
def text_braced.l0 : Nat → ByteArray → Int → Int → Int → Int → Option (Int × Int)
 | 0, _, _, _, _, _ => none
 | k + 1, x0, x1, x2, x6, x8 => if x8 < (x0.size : Int) then (text_braced.j1 k x0 x1 x2 x6 x8 (decide (x8 ≤ x2))) else (text_braced.j1 k x0 x1 x2 x6 x8 false)
def text_braced.j1 : Nat → ByteArray → Int → Int → Int → Int → Bool → Option (Int × Int)
 | 0, _, _, _, _, _, _ => none
 | k + 1, x0, x1, x2, x6, x8, x23 => if x23 = true then (if 0 ≤ x8 then (if x8 < (x0.size : Int) then ((strings_IndexByte.f (⟨#[48, 49, 50, 51, 52, 53, 54, 55, 56, 57, 97, 98, 99, 100, 101, 102]⟩ : ByteArray) (bt x0 x8)).bind fun t101 => (if t101 < 0 then (text_braced.j2 k x0 x1 x6 x8) else (text_braced.l0 k x0 x1 x2 (wrap64 ((wrap64 (16 * x6)) + t101)) (wrap64 (x8 + 1))))) else (none)) else (none)) else (text_braced.j2 k x0 x1 x6 x8)
end
def text_braced.f (k : Nat) (a0 : ByteArray) (a1 : Int) (a2 : Int) : Option (Int × Int) := if a0.toList = ([] : List UInt8) then (some (0, (-1))) else (if 0 < (a0.size : Int) then (if (bt a0 0) = 123 then (text_braced.l0 k a0 a1 a2 0 1) else (some (0, 0))) else (none))
theorem text_braced.mono_l : ∀ k, (∀ y0 y1 y2 y3, LeO (text_braced.j2 k y0 y1 y2 y3) (text_braced.j2 (k + 1) y0 y1 y2 y3)) ∧ (∀ y0 y1 y2 y3 y4, LeO (text_braced.l0 k y0 y1 y2 y3 y4) (text_braced.l0 (k + 1) y0 y1 y2 y3 y4)) ∧ (∀ y0 y1 y2 y3 y4 y5, LeO (text_braced.j1 k y0 y1 y2 y3 y4 y5) (text_braced.j1 (k + 1) y0 y1 y2 y3 y4 y5))
 | 0 => ⟨fun _ _ _ _ r h => by simp [text_braced.j2] at h, fun _ _ _ _ _ r h => by simp [text_braced.l0] at h, fun _ _ _ _ _ _ r h => by simp [text_braced.j1] at h⟩
 | k + 1 => by
  (obtain ⟨ih0, ih1, ih2⟩ := text_braced.mono_l k); (refine ⟨?_, ?_, ?_⟩)
  ·intro y0 y1 y2 y3
   unfold text_braced.j2
   repeat' first
   | (with_reducible exact ih0 _ _ _ _)
   | (with_reducible exact ih1 _ _ _ _ _)
   | (with_reducible exact ih2 _ _ _ _ _ _)
   | (with_reducible exact LeO.refl _)
   | (with_reducible exact LeO.none _)
   | (with_reducible refine LeO.ite ?_ ?_)
   | (with_reducible refine LeO.bind ?_ (fun _ => ?_))
   | exact ih0 _ _ _ _
   | exact ih1 _ _ _ _ _
   | exact ih2 _ _ _ _ _ _
   | exact LeO.none _
   | refine LeO.ite ?_ ?_
   | refine LeO.bind ?_ (fun _ => ?_)
  ·intro y0 y1 y2 y3 y4
   unfold text_braced.l0
   repeat' first
   | (with_reducible exact ih0 _ _ _ _)
   | (with_reducible exact ih1 _ _ _ _ _)
   | (with_reducible exact ih2 _ _ _ _ _ _)
   | (with_reducible exact LeO.refl _)
   | (with_reducible exact LeO.none _)
   | (with_reducible refine LeO.ite ?_ ?_)
   | (with_reducible refine LeO.bind ?_ (fun _ => ?_))
   | exact ih0 _ _ _ _
   | exact ih1 _ _ _ _ _
   | exact ih2 _ _ _ _ _ _
   | exact LeO.none _
   | refine LeO.ite ?_ ?_
   | refine LeO.bind ?_ (fun _ => ?_)
  ·intro y0 y1 y2 y3 y4 y5
   unfold text_braced.j1
   repeat' first
   | (with_reducible exact ih0 _ _ _ _)
   | (with_reducible exact ih1 _ _ _ _ _)
   | (with_reducible exact ih2 _ _ _ _ _ _)
   | (with_reducible exact LeO.refl _)
   | (with_reducible exact LeO.none _)
   | (with_reducible refine LeO.ite ?_ ?_)
   | (with_reducible refine LeO.bind ?_ (fun _ => ?_))
   | exact ih0 _ _ _ _
   | exact ih1 _ _ _ _ _
   | exact ih2 _ _ _ _ _ _
   | exact LeO.none _
   | refine LeO.ite ?_ ?_
   | refine LeO.bind ?_ (fun _ => ?_)
theorem text_braced.mono : ∀ a0 a1 a2 k, LeO (text_braced.f k a0 a1 a2) (text_braced.f (k + 1) a0 a1 a2) := by
 (intro a0 a1 a2 k); (obtain ⟨ih0, ih1, ih2⟩ := text_braced.mono_l k); (unfold text_braced.f)
 repeat' first
   | (with_reducible exact ih0 _ _ _ _)
   | (with_reducible exact ih1 _ _ _ _ _)
   | (with_reducible exact ih2 _ _ _ _ _ _)
   | (with_reducible exact LeO.refl _)
   | (with_reducible exact LeO.none _)
   | (with_reducible refine LeO.ite ?_ ?_)
   | (with_reducible refine LeO.bind ?_ (fun _ => ?_))
   | exact ih0 _ _ _ _
   | exact ih1 _ _ _ _ _
   | exact ih2 _ _ _ _ _ _
   | exact LeO.none _
   | refine LeO.ite ?_ ?_
   | refine LeO.bind ?_ (fun _ => ?_)
set_option maxHeartbeats 8000000 in
set_option maxRecDepth 100000 in
theorem text_braced.calls (k : Nat) (a0 : ByteArray) (a1 : Int) (a2 : Int) (r1 : Int) (r2 : Int) (w : World) (h : text_braced.f k a0 a1 a2 = some (r1, r2)) :
  Calls Tryd.prog 51 #[.string a0, .int .i64 a1, .int .i64 a2] w fun e w' => e = .returned (.tuple #[.int .i64 r1, .int .i64 r2]) ∧ Drawn0 w w' := by
 (have H : (if a0.toList = ([] : List UInt8) then (some (0, (-1))) else (if 0 < (a0.size : Int) then (if (bt a0 0) = 123 then (text_braced.l0 k a0 a1 a2 0 1) else (some (0, 0))) else (none))) = some (r1, r2) := h); clear h; (by_cases c4 : a0.toList = ([] : List UInt8))
 ·rw [if_pos c4] at H
  (have c4b0 : (a0.toList == ([] : List UInt8)) = true := beq_iff_eq.mpr c4); (have c4b1 : (a0.toList != ([] : List UInt8)) = false := bne_eq_false_iff_eq.mpr c4); clear c4; (simp only [Option.some.injEq, Prod.mk.injEq] at H); (obtain ⟨rfl, rfl⟩ := H); (go_enter Tryd.func51, Tryd.ntmps51); go_wp2; (go_ret2); (exact ⟨qV, by repeat (first | exact Drawn0.refl _ | apply Drawn0.step)⟩)
 ·rw [if_neg c4] at H
  (have c4b0 : (a0.toList == ([] : List UInt8)) = false := beq_eq_false_iff_ne.mpr c4); (have c4b1 : (a0.toList != ([] : List UInt8)) = true := bne_iff_ne.mpr c4); (by_cases c5 : 0 < (a0.size : Int))
  ·rw [if_pos c5] at H
   (have c5b0 : decide (0 < (a0.size : Int)) = true := decide_eq_true c5); (have c5b1 : decide (0 < a0.size) = true := decide_eq_true (by omega)); clear c5; (by_cases c7 : (bt a0 0) = 123)
   ·rw [if_pos c7] at H
    (have c7b0 : ((bt a0 0) == 123) = true := beq_iff_eq.mpr c7); (have c7b1 : ((bt a0 0) != 123) = false := bne_eq_false_iff_eq.mpr c7); clear c7; (have HC8 := qM H); clear H; (have p6 : 0 ≤ (0 : Int) := (by omega)); (have q6 : 0 < a0.size := (by have : (0 : Int) < (a0.size : Int) := qo qX; omega)); (have hx6 : ∀ h : 0 < a0.size, ((a0[0]'h).toNat : Int) = bt a0 0 := bt_at a0 0); clear p6; (have qi6 : (0 < (a0.size : Int)) = True := eq_true (qo qX)); (replace q6 := eq_true q6); (go_enter Tryd.func51, Tryd.ntmps51); (go_upto_block 0 with (fail)); (go_cut [6, 8] (fun v6 v8 wc => ∃ (kq : Nat) (x6_7 : Int) (x8_7 : Int), v6 = .int .i64 x6_7 ∧ v8 = .int .i64 x8_7 ∧ Aside0 (text_braced.j2 kq a0 a1 x6_7 x8_7 = some (r1, r2)) ∧ Aside0 (kq ≤ k) ∧ Drawn0 w wc))
    case first =>
     (have H := HC8.out); clear HC8; (have H' := qM H); clear H; go_wp2; (go_loopg [6, 8] k (fun kq v6 v8 w' => ∃ (x6_1 : Int) (x8_1 : Int), v6 = .int .i64 x6_1 ∧ v8 = .int .i64 x8_1 ∧ Aside0 (text_braced.l0 kq a0 a1 a2 x6_1 x8_1 = some (r1, r2)) ∧ Aside0 (kq ≤ k) ∧ Drawn0 w w'))
     case atStart => exact ⟨(0), (1), qV, qV, H', ⟨Nat.le_refl _⟩, by repeat (first | exact Drawn0.refl _ | apply Drawn0.step)⟩
     case round =>
      (clear H'); (try clear p2); (try clear c4); (try clear c4b0); (try clear c4b1); (try clear c5); (try clear c5b0); (try clear c5b1); (try clear p6); (try clear q6); (try clear hx6); (try clear qi6); (try clear c7); (try clear c7b0); (try clear c7b1); (try clear p6); (try clear q6); (obtain ⟨x6_1, x8_1, rfl, rfl, HA, HK1, ⟨m1, rfl⟩⟩ := hrel)
      cases gk with
      | zero => exact absurd HA.out (by simp [text_braced.l0])
      | succ k1 =>
       (have H := HA.out); clear HA; (simp only [text_braced.l0] at H); (have HC9 := qM H); clear H; (go_upto_region 6 with (fail)); (go_cut [23] (fun v23 wc => ∃ (kq : Nat) (x23_8 : Bool), v23 = .bool x23_8 ∧ Aside0 (text_braced.j1 kq a0 a1 a2 x6_1 x8_1 x23_8 = some (r1, r2)) ∧ Aside0 (kq ≤ k1) ∧ Drawn0 w wc))
       case first =>
        (have H := HC9.out); clear HC9; (by_cases c10 : x8_1 < (a0.size : Int))
        ·rw [if_pos c10] at H
         (have c10b0 : decide (x8_1 < (a0.size : Int)) = true := decide_eq_true c10); clear c10; ((first | rw [c10b0] | (simp only [i64_w, i32_w]; rw [c10b0]) | skip)); (have H' := qM H); clear H; go_wp2; go_meet
         case rel => exact ⟨_, (decide (x8_1 ≤ a2)), qV, H', ⟨by have := HK1.out; first | omega | exact Nat.le_refl _⟩, by repeat (first | exact Drawn0.refl _ | apply Drawn0.step)⟩
        ·rw [if_neg c10] at H
         (have c10b0 : decide (x8_1 < (a0.size : Int)) = false := decide_eq_false c10); clear c10; ((first | rw [c10b0] | (simp only [i64_w, i32_w]; rw [c10b0]) | skip)); (have H' := qM H); clear H; go_wp2; go_meet
         case rel => exact ⟨_, (false), qV, H', ⟨by have := HK1.out; first | omega | exact Nat.le_refl _⟩, by repeat (first | exact Drawn0.refl _ | apply Drawn0.step)⟩
       case rest =>
        clear HC9; (try clear c1); (try clear p2); (try clear c4); (try clear c4b0); (try clear c4b1); (try clear c5); (try clear c5b0); (try clear c5b1); (try clear p6); (try clear q6); (try clear hx6); (try clear qi6); (try clear c7); (try clear c7b0); (try clear c7b1); (try clear c10); (try clear c10b0); (try clear p2); (try clear p6); (try clear q6); (obtain ⟨kq, x23_8, rfl, HA, HJ8, ⟨mc8, rfl⟩⟩ := hcut)
        cases kq with
        | zero => exact absurd HA.out (by simp [text_braced.j1])
        | succ kj8 =>
         (have H := HA.out); clear HA; (simp only [text_braced.j1] at H); (by_cases c11 : x23_8 = true)
         ·subst c11
          (have H1 : (if 0 ≤ x8_1 then (if x8_1 < (a0.size : Int) then ((strings_IndexByte.f (⟨#[48, 49, 50, 51, 52, 53, 54, 55, 56, 57, 97, 98, 99, 100, 101, 102]⟩ : ByteArray) (bt a0 x8_1)).bind fun t101 => (if t101 < 0 then (text_braced.j2 kj8 a0 a1 x6_1 x8_1) else (text_braced.l0 kj8 a0 a1 a2 (wrap64 ((wrap64 (16 * x6_1)) + t101)) (wrap64 (x8_1 + 1))))) else (none)) else (none)) = some (r1, r2) := by rw [if_pos rfl] at H; exact H); clear H; (have H := H1); clear H1; (by_cases c12 : 0 ≤ x8_1)
          ·rw [if_pos c12] at H
           (have c12b0 : decide (0 ≤ x8_1) = true := decide_eq_true c12); clear c12; (by_cases c13 : x8_1 < (a0.size : Int))
           ·rw [if_pos c13] at H
            (have c13b0 : decide (x8_1 < (a0.size : Int)) = true := decide_eq_true c13); clear c13; (replace H := Option.bind_eq_some_iff.mp H); (obtain ⟨t101, A150, H⟩ := H); (replace H : (if t101 < 0 then (text_braced.j2 kj8 a0 a1 x6_1 x8_1) else (text_braced.l0 kj8 a0 a1 a2 (wrap64 ((wrap64 (16 * x6_1)) + t101)) (wrap64 (x8_1 + 1)))) = some (r1, r2) := H); (have A15 := qM A150); clear A150; (by_cases c16 : t101 < 0)
            ·rw [if_pos c16] at H
             (have c16b0 : decide (t101 < 0) = true := decide_eq_true c16); clear c16; (have H' := qM H); clear H; (have p14 : 0 ≤ (x8_1 : Int) := qo qX); (have q14 : x8_1 < (a0.size : Int) := qo qX); (have hx14 := bt_at a0 x8_1); (replace p14 := eq_true p14); (replace q14 := eq_true q14); (go_wp2_with (first | ((with_reducible refine gate_callee (f := 50) rfl ?_); refine goesL_ (some 29) rfl rfl Tryd.func50 (by kernel_rfl) rfl #[.string (⟨#[48, 49, 50, 51, 52, 53, 54, 55, 56, 57, 97, 98, 99, 100, 101, 102]⟩ : ByteArray), .int .u8 (bt a0 x8_1)] rfl (by (try simp only [List.map_toArray, List.map_cons, List.map_nil]); first | done | rfl | (simp only [List.length_drop, List.length_take]; rfl)) ?_; (with_reducible refine (strings_IndexByte.calls (⟨#[48, 49, 50, 51, 52, 53, 54, 55, 56, 57, 97, 98, 99, 100, 101, 102]⟩ : ByteArray) (bt a0 x8_1) t101 _ A15.out).mono ?_); rintro e w' ⟨rfl, ⟨nd, rfl⟩⟩; refine ⟨_, rfl, ?_⟩))); go_meet
             case rel => exact ⟨_, (x6_1), (x8_1), qV, qV, H', ⟨by have := HK1.out; have := HJ8.out; first | omega | exact Nat.le_refl _⟩, by repeat (first | exact Drawn0.refl _ | apply Drawn0.step)⟩
            ·rw [if_neg c16] at H
             (have c16b0 : decide (t101 < 0) = false := decide_eq_false c16); clear c16; (have H' := qM H); clear H; (have p14 : 0 ≤ (x8_1 : Int) := qo qX); (have q14 : x8_1 < (a0.size : Int) := qo qX); (have hx14 := bt_at a0 x8_1); (replace p14 := eq_true p14); (replace q14 := eq_true q14); (go_wp2_with (first | ((with_reducible refine gate_callee (f := 50) rfl ?_); refine goesL_ (some 29) rfl rfl Tryd.func50 (by kernel_rfl) rfl #[.string (⟨#[48, 49, 50, 51, 52, 53, 54, 55, 56, 57, 97, 98, 99, 100, 101, 102]⟩ : ByteArray), .int .u8 (bt a0 x8_1)] rfl (by (try simp only [List.map_toArray, List.map_cons, List.map_nil]); first | done | rfl | (simp only [List.length_drop, List.length_take]; rfl)) ?_; (with_reducible refine (strings_IndexByte.calls (⟨#[48, 49, 50, 51, 52, 53, 54, 55, 56, 57, 97, 98, 99, 100, 101, 102]⟩ : ByteArray) (bt a0 x8_1) t101 _ A15.out).mono ?_); rintro e w' ⟨rfl, ⟨nd, rfl⟩⟩; refine ⟨_, rfl, ?_⟩))); (go_roundg kj8)
             case measure => have := HK1.out; have := HJ8.out; omega
             case rel => exact ⟨(wrap64 ((wrap64 (16 * x6_1)) + t101)), (wrap64 (x8_1 + 1)), qV, qV, H', ⟨by have := HK1.out; have := HJ8.out; omega⟩, by repeat (first | exact Drawn0.refl _ | apply Drawn0.step)⟩
           ·rw [if_neg c13] at H
            exact absurd H (by simp)
          ·rw [if_neg c12] at H
           exact absurd H (by simp)
         ·replace c11 := Bool.eq_false_iff.mpr c11
          subst c11; (have H1 : (text_braced.j2 kj8 a0 a1 x6_1 x8_1) = some (r1, r2) := by rw [if_neg (show ¬ (false = true) by decide)] at H; exact H); clear H; (have H := H1); clear H1; (have H' := qM H); clear H; go_wp2; go_meet
          case rel => exact ⟨_, (x6_1), (x8_1), qV, qV, H', ⟨by have := HK1.out; have := HJ8.out; first | omega | exact Nat.le_refl _⟩, by repeat (first | exact Drawn0.refl _ | apply Drawn0.step)⟩
    case rest =>
     clear HC8; (try clear c1); (try clear p1); (try clear q1); (try clear hx1); (try clear p2); (try clear c4); (try clear c4b0); (try clear c4b1); (try clear c5); (try clear c5b0); (try clear c5b1); (try clear p6); (try clear q6); (try clear hx6); (try clear qi6); (try clear c7); (try clear c7b0); (try clear c7b1); (try clear c8); (try clear c10); (try clear c10b0); (try clear c11); (try clear c12); (try clear c12b0); (try clear c13); (try clear c13b0); (try clear p14); (try clear q14); (try clear hx14); (try clear c16); (try clear c16b0); (try clear p14); (try clear p2); (try clear p6); (try clear q14); (try clear q6); (obtain ⟨kq, x6_7, x8_7, rfl, rfl, HA, HJ7, ⟨mc7, rfl⟩⟩ := hcut)
     cases kq with
     | zero => exact absurd HA.out (by simp [text_braced.j2])
     | succ kj7 =>
      (have H := HA.out); clear HA; (simp only [text_braced.j2] at H); (by_cases c17 : x8_7 = (a0.size : Int))
      ·rw [if_pos c17] at H
       (have c17b0 : (x8_7 == (a0.size : Int)) = true := beq_iff_eq.mpr c17); (have c17b1 : (x8_7 != (a0.size : Int)) = false := bne_eq_false_iff_eq.mpr c17); clear c17; (simp only [Option.some.injEq, Prod.mk.injEq] at H); (obtain ⟨rfl, rfl⟩ := H); go_wp2; (go_ret2); (exact ⟨qV, by repeat (first | exact Drawn0.refl _ | apply Drawn0.step)⟩)
      ·rw [if_neg c17] at H
       (have c17b0 : (x8_7 == (a0.size : Int)) = false := beq_eq_false_iff_ne.mpr c17); (have c17b1 : (x8_7 != (a0.size : Int)) = true := bne_iff_ne.mpr c17); (by_cases c18 : 0 ≤ x8_7)
       ·rw [if_pos c18] at H
        (have c18b0 : decide (0 ≤ x8_7) = true := decide_eq_true c18); clear c18; (by_cases c19 : x8_7 < (a0.size : Int))
        ·rw [if_pos c19] at H
         (have c19b0 : decide (x8_7 < (a0.size : Int)) = true := decide_eq_true c19); clear c19; (by_cases c21 : (bt a0 x8_7) = 125)
         ·rw [if_pos c21] at H
          (have c21b0 : ((bt a0 x8_7) == 125) = true := beq_iff_eq.mpr c21); (have c21b1 : ((bt a0 x8_7) != 125) = false := bne_eq_false_iff_eq.mpr c21); clear c21; (by_cases c22 : x8_7 ≤ a1)
          ·rw [if_pos c22] at H
           (have c22b0 : decide (x8_7 ≤ a1) = true := decide_eq_true c22); clear c22; (simp only [Option.some.injEq, Prod.mk.injEq] at H); (obtain ⟨rfl, rfl⟩ := H); (have p20 : 0 ≤ (x8_7 : Int) := qo qX); (have q20 : x8_7 < (a0.size : Int) := qo qX); (have hx20 := bt_at a0 x8_7); (replace p20 := eq_true p20); (replace q20 := eq_true q20); go_wp2; (go_ret2); (exact ⟨qV, by repeat (first | exact Drawn0.refl _ | apply Drawn0.step)⟩)
          ·rw [if_neg c22] at H
           (have c22b0 : decide (x8_7 ≤ a1) = false := decide_eq_false c22); clear c22; (simp only [Option.some.injEq, Prod.mk.injEq] at H); (obtain ⟨rfl, rfl⟩ := H); (have p20 : 0 ≤ (x8_7 : Int) := qo qX); (have q20 : x8_7 < (a0.size : Int) := qo qX); (have hx20 := bt_at a0 x8_7); (replace p20 := eq_true p20); (replace q20 := eq_true q20); go_wp2; (go_ret2); (exact ⟨qV, by repeat (first | exact Drawn0.refl _ | apply Drawn0.step)⟩)
         ·rw [if_neg c21] at H
          (have c21b0 : ((bt a0 x8_7) == 125) = false := beq_eq_false_iff_ne.mpr c21); (have c21b1 : ((bt a0 x8_7) != 125) = true := bne_iff_ne.mpr c21); (simp only [Option.some.injEq, Prod.mk.injEq] at H); (obtain ⟨rfl, rfl⟩ := H); (have p20 : 0 ≤ (x8_7 : Int) := qo qX); (have q20 : x8_7 < (a0.size : Int) := qo qX); (have hx20 := bt_at a0 x8_7); (replace p20 := eq_true p20); (replace q20 := eq_true q20); go_wp2; (go_ret2); (exact ⟨qV, by repeat (first | exact Drawn0.refl _ | apply Drawn0.step)⟩)
        ·rw [if_neg c19] at H
         exact absurd H (by simp)
       ·rw [if_neg c18] at H
        exact absurd H (by simp)
   ·rw [if_neg c7] at H
    (have c7b0 : ((bt a0 0) == 123) = false := beq_eq_false_iff_ne.mpr c7); (have c7b1 : ((bt a0 0) != 123) = true := bne_iff_ne.mpr c7); (simp only [Option.some.injEq, Prod.mk.injEq] at H); (obtain ⟨rfl, rfl⟩ := H); (have p6 : 0 ≤ (0 : Int) := (by omega)); (have q6 : 0 < a0.size := (by have : (0 : Int) < (a0.size : Int) := qo qX; omega)); (have hx6 : ∀ h : 0 < a0.size, ((a0[0]'h).toNat : Int) = bt a0 0 := bt_at a0 0); clear p6; (have qi6 : (0 < (a0.size : Int)) = True := eq_true (qo qX)); (replace q6 := eq_true q6); (go_enter Tryd.func51, Tryd.ntmps51); go_wp2; (go_ret2); (exact ⟨qV, by repeat (first | exact Drawn0.refl _ | apply Drawn0.step)⟩)
  ·rw [if_neg c5] at H
   exact absurd H (by simp)
def text_escape.j0 : Nat → ByteArray → Int → Int → Option (ByteArray × Int)
 | 0, _, _, _ => none
 | k + 1, x0, x5, x6 => if 1 ≤ (x0.size : Int) then ((text_braced.f k (x0.extract 1 x0.size) x5 x6).bind fun bt103 => (if bt103.2 < 1 then (some ((⟨#[]⟩ : ByteArray), bt103.2)) else (if x6 = 2 then (some (strOfNums (([(bt103.1) % 256] : List Int)), wrap64 (1 + bt103.2))) else ((utf8_ValidRune.f k (wrap32 (bt103.1))).bind fun t108 => (if t108 = true then (some ((Utf8.encode (wrap32 (bt103.1))), wrap64 (1 + bt103.2))) else (some ((⟨#[]⟩ : ByteArray), 0))))))) else (none)
def text_escape.f (k : Nat) (a0 : ByteArray) : Option (ByteArray × Int) := if a0.toList = ([] : List UInt8) then (some ((⟨#[]⟩ : ByteArray), (-1))) else (if 0 < (a0.size : Int) then ((strings_IndexByte.f (⟨#[34, 92, 110, 114, 116]⟩ : ByteArray) (bt a0 0)).bind fun t102 => (if t102 ≥ 0 then (if 0 ≤ t102 then (if t102 ≤ (wrap64 (t102 + 1)) then (if (wrap64 (t102 + 1)) ≤ 5 then (some ((⟨#[34, 92, 10, 13, 9]⟩ : ByteArray).extract (t102 : Int).toNat ((wrap64 (t102 + 1)) : Int).toNat, 1)) else (none)) else (none)) else (none)) else (if (bt a0 0) = 120 then (text_escape.j0 k a0 2 2) else (if (bt a0 0) = 117 then (text_escape.j0 k a0 1 6) else (some ((⟨#[]⟩ : ByteArray), 0)))))) else (none))
theorem text_escape.mono_l : ∀ k, (∀ y0 y1 y2, LeO (text_escape.j0 k y0 y1 y2) (text_escape.j0 (k + 1) y0 y1 y2))
 | 0 => fun _ _ _ r h => by simp [text_escape.j0] at h
 | k + 1 => by
  have ih0 := text_escape.mono_l k
  ·intro y0 y1 y2
   unfold text_escape.j0
   repeat' first
   | (with_reducible exact ih0 _ _ _)
   | (with_reducible exact text_braced.mono _ _ _ _)
   | (with_reducible exact utf8_ValidRune.mono _ _)
   | (with_reducible exact LeO.refl _)
   | (with_reducible exact LeO.none _)
   | (with_reducible refine LeO.ite ?_ ?_)
   | (with_reducible refine LeO.bind ?_ (fun _ => ?_))
   | exact ih0 _ _ _
   | exact text_braced.mono _ _ _ _
   | exact utf8_ValidRune.mono _ _
   | exact LeO.none _
   | refine LeO.ite ?_ ?_
   | refine LeO.bind ?_ (fun _ => ?_)
theorem text_escape.mono : ∀ a0 k, LeO (text_escape.f k a0) (text_escape.f (k + 1) a0) := by
 (intro a0 k); (have ih0 := text_escape.mono_l k); (unfold text_escape.f)
 repeat' first
   | (with_reducible exact ih0 _ _ _)
   | (with_reducible exact text_braced.mono _ _ _ _)
   | (with_reducible exact utf8_ValidRune.mono _ _)
   | (with_reducible exact LeO.refl _)
   | (with_reducible exact LeO.none _)
   | (with_reducible refine LeO.ite ?_ ?_)
   | (with_reducible refine LeO.bind ?_ (fun _ => ?_))
   | exact ih0 _ _ _
   | exact text_braced.mono _ _ _ _
   | exact utf8_ValidRune.mono _ _
   | exact LeO.none _
   | refine LeO.ite ?_ ?_
   | refine LeO.bind ?_ (fun _ => ?_)
set_option maxHeartbeats 8000000 in
set_option maxRecDepth 100000 in
theorem text_escape.calls (k : Nat) (a0 : ByteArray) (r1 : ByteArray) (r2 : Int) (w : World) (h : text_escape.f k a0 = some (r1, r2)) :
  Calls Tryd.prog 37 #[.string a0] w fun e w' => e = .returned (.tuple #[.string r1, .int .i64 r2]) ∧ Below w.heap.size w w' := by
 (have HB := qM (Below.refl w.heap.size w)); (have H : (if a0.toList = ([] : List UInt8) then (some ((⟨#[]⟩ : ByteArray), (-1))) else (if 0 < (a0.size : Int) then ((strings_IndexByte.f (⟨#[34, 92, 110, 114, 116]⟩ : ByteArray) (bt a0 0)).bind fun t102 => (if t102 ≥ 0 then (if 0 ≤ t102 then (if t102 ≤ (wrap64 (t102 + 1)) then (if (wrap64 (t102 + 1)) ≤ 5 then (some ((⟨#[34, 92, 10, 13, 9]⟩ : ByteArray).extract (t102 : Int).toNat ((wrap64 (t102 + 1)) : Int).toNat, 1)) else (none)) else (none)) else (none)) else (if (bt a0 0) = 120 then (text_escape.j0 k a0 2 2) else (if (bt a0 0) = 117 then (text_escape.j0 k a0 1 6) else (some ((⟨#[]⟩ : ByteArray), 0)))))) else (none))) = some (r1, r2) := h); clear h; (by_cases c2 : a0.toList = ([] : List UInt8))
 ·rw [if_pos c2] at H
  (have c2b0 : (a0.toList == ([] : List UInt8)) = true := beq_iff_eq.mpr c2); (have c2b1 : (a0.toList != ([] : List UInt8)) = false := bne_eq_false_iff_eq.mpr c2); clear c2; (simp only [Option.some.injEq, Prod.mk.injEq] at H); (obtain ⟨rfl, rfl⟩ := H); (go_enter Tryd.func37, Tryd.ntmps37); go_wp2; (go_ret2); (exact ⟨qE, qF⟩)
 ·rw [if_neg c2] at H
  (have c2b0 : (a0.toList == ([] : List UInt8)) = false := beq_eq_false_iff_ne.mpr c2); (have c2b1 : (a0.toList != ([] : List UInt8)) = true := bne_iff_ne.mpr c2); (by_cases c3 : 0 < (a0.size : Int))
  ·rw [if_pos c3] at H
   (have c3b0 : decide (0 < (a0.size : Int)) = true := decide_eq_true c3); (have c3b1 : decide (0 < a0.size) = true := decide_eq_true (by omega)); clear c3; (replace H := Option.bind_eq_some_iff.mp H); (obtain ⟨t102, A50, H⟩ := H); (replace H : (if t102 ≥ 0 then (if 0 ≤ t102 then (if t102 ≤ (wrap64 (t102 + 1)) then (if (wrap64 (t102 + 1)) ≤ 5 then (some ((⟨#[34, 92, 10, 13, 9]⟩ : ByteArray).extract (t102 : Int).toNat ((wrap64 (t102 + 1)) : Int).toNat, 1)) else (none)) else (none)) else (none)) else (if (bt a0 0) = 120 then (text_escape.j0 k a0 2 2) else (if (bt a0 0) = 117 then (text_escape.j0 k a0 1 6) else (some ((⟨#[]⟩ : ByteArray), 0))))) = some (r1, r2) := H); (have A5 := qM A50); clear A50; (by_cases c6 : t102 ≥ 0)
   ·rw [if_pos c6] at H
    (have c6b0 : decide (0 ≤ t102) = true := decide_eq_true c6); clear c6; (by_cases c7 : 0 ≤ t102)
    ·rw [if_pos c7] at H
     (have c7b0 := eq_true c7); (have c7b1 : decide (0 ≤ t102) = true := decide_eq_true c7); clear c7; (by_cases c8 : t102 ≤ (wrap64 (t102 + 1)))
     ·rw [if_pos c8] at H
      (have c8b0 := eq_true c8); (have c8b1 : decide (t102 ≤ (wrap64 (t102 + 1))) = true := decide_eq_true c8); (by_cases c9 : (wrap64 (t102 + 1)) ≤ 5)
      ·rw [if_pos c9] at H
       (have c9b0 := eq_true c9); (have c9b1 : decide ((wrap64 (t102 + 1)) ≤ 5) = true := decide_eq_true c9); (simp only [Option.some.injEq, Prod.mk.injEq] at H); (obtain ⟨rfl, rfl⟩ := H); (have p4 : 0 ≤ (0 : Int) := (by omega)); (have q4 : 0 < a0.size := (by have : (0 : Int) < (a0.size : Int) := qo qX; omega)); (have hx4 : ∀ h : 0 < a0.size, ((a0[0]'h).toNat : Int) = bt a0 0 := bt_at a0 0); clear p4; (have qi4 : (0 < (a0.size : Int)) = True := eq_true (qo qX)); (replace q4 := eq_true q4); (go_enter Tryd.func37, Tryd.ntmps37); (go_wp2_with (first | ((with_reducible refine gate_callee (f := 50) rfl ?_); refine goesL_ (some 13) rfl rfl Tryd.func50 (by kernel_rfl) rfl #[.string (⟨#[34, 92, 110, 114, 116]⟩ : ByteArray), .int .u8 (bt a0 0)] rfl (by (try simp only [List.map_toArray, List.map_cons, List.map_nil]); first | done | rfl | (simp only [List.length_drop, List.length_take]; rfl)) ?_; (with_reducible refine (strings_IndexByte.calls (⟨#[34, 92, 110, 114, 116]⟩ : ByteArray) (bt a0 0) t102 _ A5.out).mono ?_); rintro e w' ⟨rfl, ⟨nd, rfl⟩⟩; refine ⟨_, rfl, ?_⟩))); (go_ret2); (exact ⟨qE, qF⟩)
      ·rw [if_neg c9] at H
       exact absurd H (by simp)
     ·rw [if_neg c8] at H
      exact absurd H (by simp)
    ·rw [if_neg c7] at H
     exact absurd H (by simp)
   ·rw [if_neg c6] at H
    (have c6b0 : decide (0 ≤ t102) = false := decide_eq_false c6); clear c6; (have HC11 := qM H); clear H; (have p4 : 0 ≤ (0 : Int) := (by omega)); (have q4 : 0 < a0.size := (by have : (0 : Int) < (a0.size : Int) := qo qX; omega)); (have hx4 : ∀ h : 0 < a0.size, ((a0[0]'h).toNat : Int) = bt a0 0 := bt_at a0 0); clear p4; (have qi4 : (0 < (a0.size : Int)) = True := eq_true (qo qX)); (replace q4 := eq_true q4); (go_enter Tryd.func37, Tryd.ntmps37)
    go_upto_block 2 with (first | ((with_reducible refine gate_callee (f := 50) rfl ?_); refine goesL_ (some 13) rfl rfl Tryd.func50 (by kernel_rfl) rfl #[.string (⟨#[34, 92, 110, 114, 116]⟩ : ByteArray), .int .u8 (bt a0 0)] rfl (by (try simp only [List.map_toArray, List.map_cons, List.map_nil]); first | done | rfl | (simp only [List.length_drop, List.length_take]; rfl)) ?_; (with_reducible refine (strings_IndexByte.calls (⟨#[34, 92, 110, 114, 116]⟩ : ByteArray) (bt a0 0) t102 _ A5.out).mono ?_); rintro e w' ⟨rfl, ⟨nd, rfl⟩⟩; refine ⟨_, rfl, ?_⟩; have p10 : 0 ≤ (0 : Int) := (by omega); have q10 : 0 < a0.size := (by have : (0 : Int) < (a0.size : Int) := qo qX; omega); have hx10 : ∀ h : 0 < a0.size, ((a0[0]'h).toNat : Int) = bt a0 0 := bt_at a0 0; clear p10; have qi10 : (0 < (a0.size : Int)) = True := eq_true (qo qX); replace q10 := eq_true q10))
    ((try simp only [Act.put, List.setIfInBounds_toArray, List.set_cons_zero, List.set_cons_succ])); (go_cut [5, 6] (fun v5 v6 wc => ∃ (kq : Nat) (x5_10 : Int) (x6_10 : Int), v5 = .int .i64 x5_10 ∧ v6 = .int .i64 x6_10 ∧ Aside0 (text_escape.j0 kq a0 x5_10 x6_10 = some (r1, r2)) ∧ Aside0 (kq ≤ k) ∧ Aside0 (Below w.heap.size w wc)))
    case first =>
     (have H := HC11.out); clear HC11; (by_cases c12 : (bt a0 0) = 120)
     ·rw [if_pos c12] at H
      (have c12b0 : ((bt a0 0) == 120) = true := beq_iff_eq.mpr c12); (have c12b1 : ((bt a0 0) != 120) = false := bne_eq_false_iff_eq.mpr c12); clear c12; ((first | rw [c12b0] | (simp only [i64_w, i32_w]; rw [c12b0]) | skip)); (have H' := qM H); clear H; go_wp2; go_meet
      case rel => exact ⟨_, (2), (2), qV, qV, H', ⟨by first | omega | exact Nat.le_refl _⟩, ⟨qF⟩⟩
     ·rw [if_neg c12] at H
      (have c12b0 : ((bt a0 0) == 120) = false := beq_eq_false_iff_ne.mpr c12); (have c12b1 : ((bt a0 0) != 120) = true := bne_iff_ne.mpr c12); ((first | rw [c12b0] | (simp only [i64_w, i32_w]; rw [c12b0]) | skip)); (by_cases c13 : (bt a0 0) = 117)
      ·rw [if_pos c13] at H
       (have c13b0 : ((bt a0 0) == 117) = true := beq_iff_eq.mpr c13); (have c13b1 : ((bt a0 0) != 117) = false := bne_eq_false_iff_eq.mpr c13); clear c13; (have H' := qM H); clear H; go_wp2; go_meet
       case rel => exact ⟨_, (1), (6), qV, qV, H', ⟨by first | omega | exact Nat.le_refl _⟩, ⟨qF⟩⟩
      ·rw [if_neg c13] at H
       (have c13b0 : ((bt a0 0) == 117) = false := beq_eq_false_iff_ne.mpr c13); (have c13b1 : ((bt a0 0) != 117) = true := bne_iff_ne.mpr c13); (simp only [Option.some.injEq, Prod.mk.injEq] at H); (obtain ⟨rfl, rfl⟩ := H); go_wp2; (go_ret2); (exact ⟨qE, qF⟩)
    case rest =>
     clear HC11; (try clear c1); (try clear p1); (try clear q1); (try clear hx1); (try clear qi1); (try clear c2); (try clear c2b0); (try clear c2b1); (try clear p2); (try clear c3); (try clear c3b0); (try clear c3b1); (try clear p4); (try clear q4); (try clear hx4); (try clear qi4); (try clear c5); (try clear c6); (try clear c6b0); (try clear p6); (try clear c7); (try clear c7b0); (try clear c7b1); (try clear c8); (try clear c8b0); (try clear c8b1); (try clear c9); (try clear c9b0); (try clear c9b1); (try clear p10); (try clear q10); (try clear hx10); (try clear qi10); (try clear c12); (try clear c12b0); (try clear c12b1); (try clear c13); (try clear c13b0); (try clear c13b1); (try clear p10); (try clear p4); (try clear q10); (try clear q4); (obtain ⟨kq, x5_10, x6_10, rfl, rfl, HA, HJ10, HB⟩ := hcut)
     cases kq with
     | zero => exact absurd HA.out (by simp [text_escape.j0])
     | succ kj10 =>
      (have H := HA.out); clear HA; (simp only [text_escape.j0] at H); (by_cases c14 : 1 ≤ (a0.size : Int))
      ·rw [if_pos c14] at H
       (have c14b0 := eq_true c14); (have c14b1 : decide (1 ≤ (a0.size : Int)) = true := decide_eq_true c14); clear c14; (replace H := Option.bind_eq_some_iff.mp H); (obtain ⟨⟨t103, t104⟩, A150, H⟩ := H); (replace H : (if t104 < 1 then (some ((⟨#[]⟩ : ByteArray), t104)) else (if x6_10 = 2 then (some (strOfNums (([(t103) % 256] : List Int)), wrap64 (1 + t104))) else ((utf8_ValidRune.f kj10 (wrap32 (t103))).bind fun t108 => (if t108 = true then (some ((Utf8.encode (wrap32 (t103))), wrap64 (1 + t104))) else (some ((⟨#[]⟩ : ByteArray), 0)))))) = some (r1, r2) := H); (have A15 := qM A150); clear A150; (by_cases c16 : t104 < 1)
       ·rw [if_pos c16] at H
        (have c16b0 : decide (t104 < 1) = true := decide_eq_true c16); clear c16; (simp only [Option.some.injEq, Prod.mk.injEq] at H); (obtain ⟨rfl, rfl⟩ := H); (go_wp2_with (first | ((with_reducible refine gate_callee (f := 51) rfl ?_); refine goesL_ (some 31) rfl rfl Tryd.func51 (by kernel_rfl) rfl #[.string (a0.extract 1 a0.size), .int .i64 x5_10, .int .i64 x6_10] rfl (by (try simp only [List.map_toArray, List.map_cons, List.map_nil]); first | done | rfl | (simp only [List.length_drop, List.length_take]; rfl)) ?_; (with_reducible refine (text_braced.calls kj10 (a0.extract 1 a0.size) x5_10 x6_10 t103 t104 _ A15.out).mono ?_); rintro e w' ⟨rfl, ⟨nd, rfl⟩⟩; refine ⟨_, rfl, ?_⟩))); (go_ret2); (exact ⟨qE, qF⟩)
       ·rw [if_neg c16] at H
        (have c16b0 : decide (t104 < 1) = false := decide_eq_false c16); clear c16; (by_cases c17 : x6_10 = 2)
        ·rw [if_pos c17] at H
         (have c17b0 : (x6_10 == 2) = true := beq_iff_eq.mpr c17); (have c17b1 : (x6_10 != 2) = false := bne_eq_false_iff_eq.mpr c17); clear c17; (obtain ⟨y105, hy105⟩ : ∃ y_ : List Int, y_ = (([(t103) % 256] : List Int)) := ⟨_, rfl⟩); (replace H : (some (strOfNums y105, wrap64 (1 + t104))) = some (r1, r2) := by first | (rw [hy105]; with_reducible exact H) | (have H2_ := (Option.bind_some _ _).symm.trans H; rw [hy105]; with_reducible exact H2_) | (have H2_ := (Option.bind_some _ _).symm.trans H; with_reducible exact H2_) | with_reducible exact H | (rw [hy105]; exact H) | exact H); (have Ny105 := qM hy105); clear hy105; (simp only [Option.some.injEq, Prod.mk.injEq] at H); (obtain ⟨rfl, rfl⟩ := H)
         go_wp2_with (first | ((with_reducible refine gate_callee (f := 51) rfl ?_); refine goesL_ (some 31) rfl rfl Tryd.func51 (by kernel_rfl) rfl #[.string (a0.extract 1 a0.size), .int .i64 x5_10, .int .i64 x6_10] rfl (by (try simp only [List.map_toArray, List.map_cons, List.map_nil]); first | done | rfl | (simp only [List.length_drop, List.length_take]; rfl)) ?_; (with_reducible refine (text_braced.calls kj10 (a0.extract 1 a0.size) x5_10 x6_10 t103 t104 _ A15.out).mono ?_); rintro e w' ⟨rfl, ⟨nd, rfl⟩⟩; refine ⟨_, rfl, ?_⟩) | ((with_reducible refine gate_dst (N := 41) rfl ?_); refine Kd.R_lit (Kd.int .u8) _ 5 ?hg (N := 41) ?hd (xs := ([(t103) % 256] : List Int)) (inner := [.int .u8 ((t103) % 256)]) (ok := fun _ => True) (okp := fun _ => True) ?hr ?hp (fun _ hk => hk) trivial (Below.refl _ _) (Nat.le_refl _) (by simp) ?_; (case hd => rfl); (case hg => rfl); (case hr => first | (go_simp; done) | (go_simp; rfl)); (case hp => exact (Reps.one (show Kd.M (Kd.int .u8) _ _ _ ((t103) % 256) [.int .u8 ((t103) % 256)] from rfl) (Reps.none _ _))); intro v106 w18 ho19 hb hg_ hnew_; clear hg_ hnew_; (first | rw [← Ny105.out] at ho19 | (simp only [Int.reduceToNat] at ho19; rw [← Ny105.out] at ho19)); have n0_ := qM (Kd.R_lower ho19 (qZ qF)); have n1_ := qM (qP qF hb); clear HB; have HO107 := n0_; have HB := n1_; clear n0_ n1_; clear hb ho19; have hcv20 := own_string (P := Tryd.prog) Tryd.underlying52 Tryd.underlying5 Tryd.underlying9 (Kd.own_of_R HO107.out)))
         (go_ret2); (exact ⟨qE, qF⟩)
        ·rw [if_neg c17] at H
         (have c17b0 : (x6_10 == 2) = false := beq_eq_false_iff_ne.mpr c17); (have c17b1 : (x6_10 != 2) = true := bne_iff_ne.mpr c17); (replace H := Option.bind_eq_some_iff.mp H); (obtain ⟨t108, A210, H⟩ := H); (replace H : (if t108 = true then (some ((Utf8.encode (wrap32 (t103))), wrap64 (1 + t104))) else (some ((⟨#[]⟩ : ByteArray), 0))) = some (r1, r2) := H); (have A21 := qM A210); clear A210; (by_cases c22 : t108 = true)
         ·subst c22
          (have H1 : (some ((Utf8.encode (wrap32 (t103))), wrap64 (1 + t104))) = some (r1, r2) := by rw [if_pos rfl] at H; exact H); clear H; (have H := H1); clear H1; (simp only [Option.some.injEq, Prod.mk.injEq] at H); (obtain ⟨rfl, rfl⟩ := H)
          go_wp2_with (first | ((with_reducible refine gate_callee (f := 51) rfl ?_); refine goesL_ (some 31) rfl rfl Tryd.func51 (by kernel_rfl) rfl #[.string (a0.extract 1 a0.size), .int .i64 x5_10, .int .i64 x6_10] rfl (by (try simp only [List.map_toArray, List.map_cons, List.map_nil]); first | done | rfl | (simp only [List.length_drop, List.length_take]; rfl)) ?_; (with_reducible refine (text_braced.calls kj10 (a0.extract 1 a0.size) x5_10 x6_10 t103 t104 _ A15.out).mono ?_); rintro e w' ⟨rfl, ⟨nd, rfl⟩⟩; refine ⟨_, rfl, ?_⟩) | ((with_reducible refine gate_callee (f := 52) rfl ?_); refine goesL_ (some 47) rfl rfl Tryd.func52 (by kernel_rfl) rfl #[.int .i32 (wrap32 (t103))] rfl (by (try simp only [List.map_toArray, List.map_cons, List.map_nil]); first | done | rfl | (simp only [List.length_drop, List.length_take]; rfl)) ?_; (with_reducible refine (utf8_ValidRune.calls kj10 (wrap32 (t103)) true _ A21.out).mono ?_); rintro e w' ⟨rfl, ⟨nd, rfl⟩⟩; refine ⟨_, rfl, ?_⟩))
          (go_ret2); (exact ⟨qE, qF⟩)
         ·replace c22 := Bool.eq_false_iff.mpr c22
          subst c22; (have H1 : (some ((⟨#[]⟩ : ByteArray), 0)) = some (r1, r2) := by rw [if_neg (show ¬ (false = true) by decide)] at H; exact H); clear H; (have H := H1); clear H1; (simp only [Option.some.injEq, Prod.mk.injEq] at H); (obtain ⟨rfl, rfl⟩ := H)
          go_wp2_with (first | ((with_reducible refine gate_callee (f := 51) rfl ?_); refine goesL_ (some 31) rfl rfl Tryd.func51 (by kernel_rfl) rfl #[.string (a0.extract 1 a0.size), .int .i64 x5_10, .int .i64 x6_10] rfl (by (try simp only [List.map_toArray, List.map_cons, List.map_nil]); first | done | rfl | (simp only [List.length_drop, List.length_take]; rfl)) ?_; (with_reducible refine (text_braced.calls kj10 (a0.extract 1 a0.size) x5_10 x6_10 t103 t104 _ A15.out).mono ?_); rintro e w' ⟨rfl, ⟨nd, rfl⟩⟩; refine ⟨_, rfl, ?_⟩) | ((with_reducible refine gate_callee (f := 52) rfl ?_); refine goesL_ (some 47) rfl rfl Tryd.func52 (by kernel_rfl) rfl #[.int .i32 (wrap32 (t103))] rfl (by (try simp only [List.map_toArray, List.map_cons, List.map_nil]); first | done | rfl | (simp only [List.length_drop, List.length_take]; rfl)) ?_; (with_reducible refine (utf8_ValidRune.calls kj10 (wrap32 (t103)) false _ A21.out).mono ?_); rintro e w' ⟨rfl, ⟨nd, rfl⟩⟩; refine ⟨_, rfl, ?_⟩))
          (go_ret2); (exact ⟨qE, qF⟩)
      ·rw [if_neg c14] at H
       exact absurd H (by simp)
  ·rw [if_neg c3] at H
   exact absurd H (by simp)
end Go.Proofs.YtlpkkkkgbnoiiaaDoor.H
end
section
namespace Go.Proofs.YtlpkkkkgbnoiiaaDoor.H
open Go.RowKit Go.Proofs.YtlpkkkkgbnoiiaaDoorW.PrintWords Go.Proofs.YtlpkkkkgbnoiiaaDoorW.PrintLast Go.Proofs.YtlpkkkkgbnoiiaaDoorW.PrintMore
open Go.Maps
set_option linter.unusedVariables false
set_option linter.unusedSimpArgs false
def text_Unquote.l0 : Nat → ByteArray → List UInt8 → Nat → Option (ByteArray × Int × Int)
  | 0, _, _, _ => none
  | k + 1, line, acc, at' => if at' < line.size then
      (if (Utf8.decode line at').1 = 34 then some (⟨acc.toArray⟩, (at' : Int) + 1, 0)
       else if (Utf8.decode line at').1 = 92 then (text_escape.f k (line.extract (at' + 1) line.size)).bind fun t =>
         if t.2 < 0 then some (⟨#[]⟩, 0, 13) else if t.2 = 0 then some (⟨#[]⟩, 0, 3)
         else if acc.length + t.1.size ≤ 140737488355000 then (if t.2 ≤ 4294967296 then text_Unquote.l0 k line (acc ++ t.1.data.toList) (at' + (1 + t.2.toNat)) else none) else none
       else if (Utf8.decode line at').1 < 32 ∨ (Utf8.decode line at').1 = 127 ∨ ((Utf8.decode line at').1 = 65533 ∧ (Utf8.decode line at').2 = 1) then some (⟨#[]⟩, 0, 3)
       else if acc.length ≤ 140737488355000 then text_Unquote.l0 k line (acc ++ Lib.encodeRune ((Utf8.decode line at').1 : Int)) (at' + (Utf8.decode line at').2) else none)
      else some (⟨#[]⟩, 0, 13)
def lineOf (s : ByteArray) : ByteArray := ⟨(Lib.cut s.data.toList [10]).1.toArray⟩
def text_Unquote.f (k : Nat) (a0 : ByteArray) : Option (ByteArray × Int × Int) :=
  if a0.size < 4294967281 then (if Lib.hasPrefix a0.data.toList [34] = true then text_Unquote.l0 k (lineOf a0) [] 1 else some (⟨#[]⟩, 0, 3)) else none
theorem text_Unquote.mono_l : ∀ k line acc at', LeO (text_Unquote.l0 k line acc at') (text_Unquote.l0 (k + 1) line acc at')
  | 0 => fun _ _ _ r h => by simp [text_Unquote.l0] at h
  | k + 1 => by
    have ih := text_Unquote.mono_l k
    intro line acc at'
    unfold text_Unquote.l0
    repeat' first
      | (with_reducible exact LeO.refl _)
      | (with_reducible exact LeO.none _)
      | exact ih _ _ _
      | exact text_escape.mono _ _
      | (with_reducible refine LeO.ite ?_ ?_)
      | (with_reducible refine LeO.bind ?_ (fun _ => ?_))
      | refine LeO.ite ?_ ?_
      | refine LeO.bind ?_ (fun _ => ?_)
theorem text_Unquote.mono : ∀ a0 k, LeO (text_Unquote.f k a0) (text_Unquote.f (k + 1) a0) := by
  intro a0 k
  unfold text_Unquote.f
  refine LeO.ite (LeO.ite (text_Unquote.mono_l _ _ _ _) (LeO.refl _)) (LeO.none _)
theorem lineOf_size (s : ByteArray) : (lineOf s).size ≤ s.size := by
  unfold lineOf Lib.cut
  split
  · simp only [ByteArray.size, List.size_toArray, List.length_take]
    have : s.data.toList.length = s.data.size := Array.length_toList
    omega
  · simp only [ByteArray.size, List.size_toArray]
    exact Nat.le_of_eq Array.length_toList
def URel (k : Nat) (r : ByteArray × Int × Int) (line : ByteArray) (w : World) (v9 : Value) (wr : World) : Prop :=
  ∃ (kq at' : Nat) (acc : List UInt8), v9 = .int .i64 (at' : Int) ∧ at' ≤ 9000000000 ∧ text_Unquote.l0 kq line acc at' = some r ∧ Bd w.heap.size acc wr ∧ Below w.heap.size w wr
theorem ret_three {s s' : ByteArray} {a b a' b' : Int} (h : (s, a, b) = (s', a', b')) : Ending.returned (.tuple #[.string s, .int .i64 a, .int .i64 b]) = .returned (.tuple #[.string s', .int .i64 a', .int .i64 b']) := by
  obtain ⟨rfl, rfl, rfl⟩ : s = s' ∧ a = a' ∧ b = b' := by simpa using h
  rfl
set_option maxRecDepth 100000 in
set_option maxHeartbeats 8000000 in
theorem text_Unquote.calls (k : Nat) (a0 : ByteArray) (r1 : ByteArray) (r2 : Int) (r3 : Int) (w : World) (hgw : GW w) (h : text_Unquote.f k a0 = some (r1, r2, r3)) :
    Calls Tryd.prog 17 #[.string a0] w fun e w' => e = .returned (.tuple #[.string r1, .int .i64 r2, .int .i64 r3]) ∧ Below w.heap.size w w' := by
  unfold text_Unquote.f at h
  split at h
  case isFalse => cases h
  rename_i hs
  have HS := Aside0.mk hs
  obtain ⟨m, hm⟩ := hgw.ml
  have HM := Aside0.mk hm
  have HGW := Aside0.mk hgw
  clear hm hgw
  by_cases hp : Lib.hasPrefix a0.data.toList [34] = true
  · rw [if_pos hp] at h
    have H := Aside0.mk h
    have hsz := Nat.le_trans (lineOf_size a0) (Nat.le_of_lt hs)
    have hline : (⟨(Lib.cut a0.data.toList [10]).1.toArray⟩ : ByteArray) = lineOf a0 := rfl
    obtain ⟨line, hl⟩ : ∃ line, lineOf a0 = line := ⟨_, rfl⟩
    rw [hl] at H hsz hline
    clear h hs hl
    go_enter Tryd.func17, Tryd.ntmps17
    go_wp2_with (first
      | (go_at_call 35; refine (Any.strings_HasPrefix Tryd.ly99 _ _ _).mono ?_; rintro e w1 ⟨rfl, hw1⟩; obtain rfl : w = w1 := hw1.symm; simp only [hp])
      | (go_at_call 36; refine (Any.strings_Cut Tryd.ly145 _ _ m _ HS.out HM.out).mono ?_; rintro e w1 ⟨rfl, nq, rfl⟩; rw [hline]))
    go_loopw [9] (fun v9 wr => URel k (r1, r2, r3) line w v9 wr) (fun v9 _ => line.size - (intOf v9).toNat)
    case atStart => exact ⟨k, 1, [], rfl, by omega, H.out, (show Bd w.heap.size [] ((w.drewN nq).alloc _) from Bd.new (w.drewN nq)), below_alloc (pw_below_drewN (Below.refl _ _) _) _⟩
    case round =>
      obtain ⟨kq, p, acc, rfl, hp9, hK, hb, hB⟩ := hrel
      have HB := Aside0.mk hb
      have HL := Aside0.mk hB
      have HG := Aside0.mk (HGW.out.below hB)
      clear hb hB
      cases kq with
      | zero => exact absurd hK (by simp [text_Unquote.l0])
      | succ kq =>
        simp only [text_Unquote.l0] at hK
        by_cases hlt : p < line.size
        · rw [if_pos hlt] at hK
          have hd := Lib.rune_le line p
          have hw1 := rune_w_pos line p
          have hw2 := rune_w_le line p hlt
          have HT := Aside0.mk (decodeGo_tail line p hlt)
          obtain ⟨rr, hrr⟩ : ∃ rr, (Utf8.decode line p).1 = rr := ⟨_, rfl⟩
          obtain ⟨nn, hnn⟩ : ∃ nn, (Utf8.decode line p).2 = nn := ⟨_, rfl⟩
          have hdec : Utf8.decode line p = (rr, nn) := by rw [← hrr, ← hnn]
          have HT2 := Aside0.mk (HT.out.trans hdec)
          rw [hrr] at hd
          rw [hnn] at hw1 hw2
          simp only [hrr, hnn] at hK
          clear hrr hnn hdec HT
          have HK := Aside0.mk hK
          clear hK
          by_cases h34 : rr = 34
          · subst h34
            go_wp2_with (first
              | (go_at_call 29; refine (Any.utf8_DecodeRuneInString Tryd.ly197 _ _ HG.out.u8).mono ?_; rintro e W2 ⟨rfl, hb⟩; have hT := HT2.out; rw [hT]; have HB1 := Aside0.mk (HB.out.below hb); have HL1 := Aside0.mk (below_step HL.out hb); clear hT hb)
              | (go_at_call 34; refine (Bd.string HB1.out).mono ?_; rintro e w3 ⟨rfl, hB3⟩; have HL3 := Aside0.mk (HL1.out.trans hB3); clear hB3))
            have hK := HK.out
            simp only [if_true] at hK
            go_ret3
            exact ⟨ret_three (Option.some.inj hK), HL3.out⟩
          have h34b : ((rr : Int) == 34) = false := by simp; omega
          by_cases h92 : rr = 92
          · subst h92
            have hK := HK.out
            rw [if_neg (by decide), if_pos rfl] at hK
            clear HK
            obtain ⟨⟨t1, t2⟩, hE, hK⟩ := Option.bind_eq_some_iff.mp hK
            have HE := Aside0.mk hE
            have HK := Aside0.mk hK
            clear hE hK
            by_cases c1 : t2 < 0
            · go_wp2_with (first
                | (go_at_call 29; refine (Any.utf8_DecodeRuneInString Tryd.ly197 _ _ HG.out.u8).mono ?_; rintro e W2 ⟨rfl, hb⟩; have hT := HT2.out; rw [hT]; have HB1 := Aside0.mk (HB.out.below hb); have HL1 := Aside0.mk (below_step HL.out hb); clear hT hb)
                | (go_at_call 37; refine (text_escape.calls kq _ t1 t2 _ HE.out).mono ?_; rintro e w3 ⟨rfl, hB3⟩; have HL3 := Aside0.mk (below_step HL1.out hB3); clear hB3))
              have hK := HK.out
              rw [if_pos c1] at hK
              go_ret3
              exact ⟨ret_three (Option.some.inj hK), HL3.out⟩
            have c1b : decide (t2 < 0) = false := by simpa using c1
            by_cases c2 : t2 = 0
            · subst c2
              go_wp2_with (first
                | (go_at_call 29; refine (Any.utf8_DecodeRuneInString Tryd.ly197 _ _ HG.out.u8).mono ?_; rintro e W2 ⟨rfl, hb⟩; have hT := HT2.out; rw [hT]; have HB1 := Aside0.mk (HB.out.below hb); have HL1 := Aside0.mk (below_step HL.out hb); clear hT hb)
                | (go_at_call 37; refine (text_escape.calls kq _ t1 0 _ HE.out).mono ?_; rintro e w3 ⟨rfl, hB3⟩; have HL3 := Aside0.mk (below_step HL1.out hB3); clear hB3))
              have hK := HK.out
              rw [if_neg (by decide)] at hK
              simp only [if_true] at hK
              go_ret3
              exact ⟨ret_three (Option.some.inj hK), HL3.out⟩
            have c2b : (t2 == 0) = false := by simpa using c2
            have hK := HK.out
            dsimp only at hK
            rw [if_neg c1, if_neg c2] at hK
            clear HK
            by_cases c3 : acc.length + t1.size ≤ 140737488355000
            · rw [if_pos c3] at hK
              by_cases c4 : t2 ≤ 4294967296
              · rw [if_pos c4] at hK
                have HK := Aside0.mk hK
                have C3 := Aside0.mk c3
                clear hK c3
                go_wp2_with (first
                  | (go_at_call 29; refine (Any.utf8_DecodeRuneInString Tryd.ly197 _ _ HG.out.u8).mono ?_; rintro e W2 ⟨rfl, hb⟩; have hT := HT2.out; rw [hT]; have HB1 := Aside0.mk (HB.out.below hb); have HL1 := Aside0.mk (below_step HL.out hb); clear hT hb)
                  | (go_at_call 37; refine (text_escape.calls kq _ t1 t2 _ HE.out).mono ?_; rintro e w3 ⟨rfl, hB3⟩; have HL3 := Aside0.mk (below_step HL1.out hB3); have HB3 := Aside0.mk (HB1.out.below hB3); clear hB3) | (go_at_call 32; refine (Bd.write HB3.out _ ?h4).mono ?_; (case h4 => have := C3.out; omega); rintro e w4 ⟨rfl, hb4, hB4, hO4⟩; have HB4 := Aside0.mk hb4; have HL4 := Aside0.mk (HL3.out.trans hB4); clear hb4 hB4 hO4))
                go_roundw
                case rel => exact ⟨kq, p + (1 + t2.toNat), _, by congr 1; omega, by omega, HK.out, HB4.out, HL4.out⟩
                case measure => simp [intOf]; omega
              · rw [if_neg c4] at hK; cases hK
            · rw [if_neg c3] at hK; cases hK
          have h92b : ((rr : Int) == 92) = false := by simp; omega
          by_cases hbad : rr < 32 ∨ rr = 127 ∨ (rr = 65533 ∧ nn = 1)
          · have hK := HK.out
            rw [if_neg h34, if_neg h92, if_pos hbad] at hK
            clear HK
            have HK := Aside0.mk (Option.some.inj hK)
            clear hK
            by_cases d1 : rr < 32
            · have d1b : decide ((rr : Int) < 32) = true := by simp; omega
              go_wp2_with (first
                | (go_at_call 29; refine (Any.utf8_DecodeRuneInString Tryd.ly197 _ _ HG.out.u8).mono ?_; rintro e W2 ⟨rfl, hb⟩; have hT := HT2.out; rw [hT]; have HB1 := Aside0.mk (HB.out.below hb); have HL1 := Aside0.mk (below_step HL.out hb); clear hT hb)
                | fail)
              go_ret3
              exact ⟨ret_three HK.out, HL1.out⟩
            have d1b : decide ((rr : Int) < 32) = false := by simp; omega
            by_cases d2 : rr = 127
            · subst d2
              go_wp2_with (first
                | (go_at_call 29; refine (Any.utf8_DecodeRuneInString Tryd.ly197 _ _ HG.out.u8).mono ?_; rintro e W2 ⟨rfl, hb⟩; have hT := HT2.out; rw [hT]; have HB1 := Aside0.mk (HB.out.below hb); have HL1 := Aside0.mk (below_step HL.out hb); clear hT hb)
                | fail)
              go_ret3
              exact ⟨ret_three HK.out, HL1.out⟩
            have d2b : ((rr : Int) == 127) = false := by simp; omega
            obtain ⟨rfl, rfl⟩ : rr = 65533 ∧ nn = 1 := by omega
            go_wp2_with (first
              | (go_at_call 29; refine (Any.utf8_DecodeRuneInString Tryd.ly197 _ _ HG.out.u8).mono ?_; rintro e W2 ⟨rfl, hb⟩; have hT := HT2.out; rw [hT]; have HB1 := Aside0.mk (HB.out.below hb); have HL1 := Aside0.mk (below_step HL.out hb); clear hT hb)
              | fail)
            go_ret3
            exact ⟨ret_three HK.out, HL1.out⟩
          · have hK := HK.out
            rw [if_neg h34, if_neg h92, if_neg hbad] at hK
            clear HK
            by_cases c3 : acc.length ≤ 140737488355000
            · rw [if_pos c3] at hK
              have HK := Aside0.mk hK
              have C3 := Aside0.mk c3
              clear hK c3
              have d1b : decide ((rr : Int) < 32) = false := by simp; omega
              have d2b : ((rr : Int) == 127) = false := by simp; omega
              by_cases d3 : rr = 65533
              · have d4b : ((nn : Int) == 1) = false := by simp; omega
                subst d3
                go_wp2_with (first
                  | (go_at_call 29; refine (Any.utf8_DecodeRuneInString Tryd.ly197 _ _ HG.out.u8).mono ?_; rintro e W2 ⟨rfl, hb⟩; have hT := HT2.out; rw [hT]; have HB1 := Aside0.mk (HB.out.below hb); have HL1 := Aside0.mk (below_step HL.out hb); clear hT hb)
                  | (go_at_call 38; refine (Bd.rune HB1.out _ ?h2 ?h3 ?h4).mono ?_; (case h2 => omega); (case h3 => omega); (case h4 => have := C3.out; omega); rintro e w4 ⟨⟨n4, rfl⟩, hb4, hB4, hO4⟩; have HB4 := Aside0.mk hb4; have HL4 := Aside0.mk (HL1.out.trans hB4); clear hb4 hB4 hO4))
                go_roundw
                case rel => exact ⟨kq, p + nn, _, by push_cast; rfl, by omega, HK.out, HB4.out, HL4.out⟩
                case measure => simp [intOf]; omega
              · have d3b : ((rr : Int) == 65533) = false := by simp; omega
                go_wp2_with (first
                  | (go_at_call 29; refine (Any.utf8_DecodeRuneInString Tryd.ly197 _ _ HG.out.u8).mono ?_; rintro e W2 ⟨rfl, hb⟩; have hT := HT2.out; rw [hT]; have HB1 := Aside0.mk (HB.out.below hb); have HL1 := Aside0.mk (below_step HL.out hb); clear hT hb)
                  | (go_at_call 38; refine (Bd.rune HB1.out _ ?h2 ?h3 ?h4).mono ?_; (case h2 => omega); (case h3 => omega); (case h4 => have := C3.out; omega); rintro e w4 ⟨⟨n4, rfl⟩, hb4, hB4, hO4⟩; have HB4 := Aside0.mk hb4; have HL4 := Aside0.mk (HL1.out.trans hB4); clear hb4 hB4 hO4))
                go_roundw
                case rel => exact ⟨kq, p + nn, _, by push_cast; rfl, by omega, HK.out, HB4.out, HL4.out⟩
                case measure => simp [intOf]; omega
            · rw [if_neg c3] at hK; cases hK
        · rw [if_neg hlt] at hK
          have HK := Aside0.mk (Option.some.inj hK)
          clear hK
          go_wp2
          go_ret3
          exact ⟨ret_three HK.out, HL.out⟩
  · rw [if_neg hp] at h
    have HK := Aside0.mk (Option.some.inj h)
    clear h
    replace hp : Lib.hasPrefix a0.data.toList [34] = false := by simpa using hp
    go_enter Tryd.func17, Tryd.ntmps17
    go_wp2_with (first
      | (go_at_call 35; refine (Any.strings_HasPrefix Tryd.ly99 _ _ _).mono ?_; rintro e w1 ⟨rfl, hw1⟩; obtain rfl : w = w1 := hw1.symm; simp only [hp]))
    go_ret3
    exact ⟨ret_three HK.out, Below.refl _ _⟩
end Go.Proofs.YtlpkkkkgbnoiiaaDoor.H
end
section
namespace Go.Proofs.YtlpkkkkgbnoiiaaDoor.H
open Go.RowKit Go.Proofs.YtlpkkkkgbnoiiaaDoorW.PrintWords Go.Proofs.YtlpkkkkgbnoiiaaDoorW.PrintLast Go.Proofs.YtlpkkkkgbnoiiaaDoorW.PrintMore
attribute [local go_sem] max2_int min2_int max_two min_two max_three min_three max_four min_four
set_option linter.unusedVariables false
set_option linter.unusedSimpArgs false
attribute [local go_sem high] eqA25
def arboristlaw01_knows.f (k : Nat)  : Option (Bool) := (text_Position.f (⟨#[97, 98, 10, 99]⟩ : ByteArray) 3).bind fun bt109 => ((text_Unquote.f k (⟨#[34, 92, 117, 123, 101, 57, 125, 34, 32, 120]⟩ : ByteArray)).bind fun bt113 => (if bt109.2.2 = true then (if (bt109.1 == 2 && (bt109.2.1 == 1)) = true then ((text_Quote.f (⟨#[97, 34, 10]⟩ : ByteArray)).bind fun t116 => (if t116.toList = ([34, 97, 92, 34, 92, 110, 34] : List UInt8) then (if bt113.1.toList = ([195, 169] : List UInt8) then (if bt113.2.1 = 8 then (if bt113.2.2 = 0 then ((text_Show.f (-7)).bind fun t117 => (some (t117.toList == ([45, 55] : List UInt8)))) else (none)) else (none)) else (none)) else (none))) else (none)) else (none)))
theorem arboristlaw01_knows.mono : ∀ k, LeO (arboristlaw01_knows.f k ) (arboristlaw01_knows.f (k + 1) ) := by
 (intro  k); (unfold arboristlaw01_knows.f)
 repeat' first
   | (with_reducible exact text_Unquote.mono _ _)
   | (with_reducible exact LeO.refl _)
   | (with_reducible exact LeO.none _)
   | (with_reducible refine LeO.ite ?_ ?_)
   | (with_reducible refine LeO.bind ?_ (fun _ => ?_))
   | exact text_Unquote.mono _ _
   | exact LeO.none _
   | refine LeO.ite ?_ ?_
   | refine LeO.bind ?_ (fun _ => ?_)
set_option maxHeartbeats 8000000 in
set_option maxRecDepth 100000 in
theorem arboristlaw01_knows.calls (k : Nat)  (r : Bool) (w : World) (hgw : GW w) (h : arboristlaw01_knows.f k  = some r) :
  Calls Tryd.prog 10 #[] w fun e w' => e = .returned (.bool r) ∧ Below w.heap.size w w' := by
 (have HGW := qM hgw); clear hgw; (have hu25 := Tryd.underlying25); (have HB := qM (Below.refl w.heap.size w)); (have H : ((text_Position.f (⟨#[97, 98, 10, 99]⟩ : ByteArray) 3).bind fun bt109 => ((text_Unquote.f k (⟨#[34, 92, 117, 123, 101, 57, 125, 34, 32, 120]⟩ : ByteArray)).bind fun bt113 => (if bt109.2.2 = true then (if (bt109.1 == 2 && (bt109.2.1 == 1)) = true then ((text_Quote.f (⟨#[97, 34, 10]⟩ : ByteArray)).bind fun t116 => (if t116.toList = ([34, 97, 92, 34, 92, 110, 34] : List UInt8) then (if bt113.1.toList = ([195, 169] : List UInt8) then (if bt113.2.1 = 8 then (if bt113.2.2 = 0 then ((text_Show.f (-7)).bind fun t117 => (some (t117.toList == ([45, 55] : List UInt8)))) else (none)) else (none)) else (none)) else (none))) else (none)) else (none)))) = some r := h); clear h; (replace H := Option.bind_eq_some_iff.mp H); (obtain ⟨⟨t109, t110, t111⟩, A10, H⟩ := H); (replace H : ((text_Unquote.f k (⟨#[34, 92, 117, 123, 101, 57, 125, 34, 32, 120]⟩ : ByteArray)).bind fun bt113 => (if t111 = true then (if (t109 == 2 && (t110 == 1)) = true then ((text_Quote.f (⟨#[97, 34, 10]⟩ : ByteArray)).bind fun t116 => (if t116.toList = ([34, 97, 92, 34, 92, 110, 34] : List UInt8) then (if bt113.1.toList = ([195, 169] : List UInt8) then (if bt113.2.1 = 8 then (if bt113.2.2 = 0 then ((text_Show.f (-7)).bind fun t117 => (some (t117.toList == ([45, 55] : List UInt8)))) else (none)) else (none)) else (none)) else (none))) else (none)) else (none))) = some r := H); (have A1 := qM A10); clear A10; (replace H := Option.bind_eq_some_iff.mp H); (obtain ⟨⟨t113, t114, t115⟩, A20, H⟩ := H); (replace H : (if t111 = true then (if (t109 == 2 && (t110 == 1)) = true then ((text_Quote.f (⟨#[97, 34, 10]⟩ : ByteArray)).bind fun t116 => (if t116.toList = ([34, 97, 92, 34, 92, 110, 34] : List UInt8) then (if t113.toList = ([195, 169] : List UInt8) then (if t114 = 8 then (if t115 = 0 then ((text_Show.f (-7)).bind fun t117 => (some (t117.toList == ([45, 55] : List UInt8)))) else (none)) else (none)) else (none)) else (none))) else (none)) else (none)) = some r := H); (have A2 := qM A20); clear A20; (by_cases c3 : t111 = true)
 ·subst c3
  (have H1 : (if (t109 == 2 && (t110 == 1)) = true then ((text_Quote.f (⟨#[97, 34, 10]⟩ : ByteArray)).bind fun t116 => (if t116.toList = ([34, 97, 92, 34, 92, 110, 34] : List UInt8) then (if t113.toList = ([195, 169] : List UInt8) then (if t114 = 8 then (if t115 = 0 then ((text_Show.f (-7)).bind fun t117 => (some (t117.toList == ([45, 55] : List UInt8)))) else (none)) else (none)) else (none)) else (none))) else (none)) = some r := by rw [if_pos rfl] at H; exact H); clear H; (have H := H1); clear H1; (by_cases c4 : (t109 == 2 && (t110 == 1)) = true)
  ·rw [if_pos c4] at H
   (have c4b0 : (t109 == 2 && (t110 == 1)) = true := c4); ((try (have c4b1 : decide (t109 = 2 && (t110 == 1)) = true := by simpa using c4))); ((try (have c4b2 : (t109 == 2 && (t110 == 1)) = true := by simpa using c4))); clear c4; (replace H := Option.bind_eq_some_iff.mp H); (obtain ⟨t116, A50, H⟩ := H); (replace H : (if t116.toList = ([34, 97, 92, 34, 92, 110, 34] : List UInt8) then (if t113.toList = ([195, 169] : List UInt8) then (if t114 = 8 then (if t115 = 0 then ((text_Show.f (-7)).bind fun t117 => (some (t117.toList == ([45, 55] : List UInt8)))) else (none)) else (none)) else (none)) else (none)) = some r := H); (have A5 := qM A50); clear A50; (by_cases c6 : t116.toList = ([34, 97, 92, 34, 92, 110, 34] : List UInt8))
   ·rw [if_pos c6] at H
    (have c6b0 : (t116.toList == ([34, 97, 92, 34, 92, 110, 34] : List UInt8)) = true := beq_iff_eq.mpr c6); (have c6b1 : (t116.toList != ([34, 97, 92, 34, 92, 110, 34] : List UInt8)) = false := bne_eq_false_iff_eq.mpr c6); clear c6; (by_cases c7 : t113.toList = ([195, 169] : List UInt8))
    ·rw [if_pos c7] at H
     (have c7b0 : (t113.toList == ([195, 169] : List UInt8)) = true := beq_iff_eq.mpr c7); (have c7b1 : (t113.toList != ([195, 169] : List UInt8)) = false := bne_eq_false_iff_eq.mpr c7); clear c7; (by_cases c8 : t114 = 8)
     ·rw [if_pos c8] at H
      (have c8b0 : (t114 == 8) = true := beq_iff_eq.mpr c8); (have c8b1 : (t114 != 8) = false := bne_eq_false_iff_eq.mpr c8); clear c8; (by_cases c9 : t115 = 0)
      ·rw [if_pos c9] at H
       (have c9b0 : (t115 == 0) = true := beq_iff_eq.mpr c9); (have c9b1 : (t115 != 0) = false := bne_eq_false_iff_eq.mpr c9); clear c9; (replace H := Option.bind_eq_some_iff.mp H); (obtain ⟨t117, A100, H⟩ := H); (replace H : (some (t117.toList == ([45, 55] : List UInt8))) = some r := H); (have A10 := qM A100); clear A100; (obtain rfl := Option.some.inj H); (go_enter Tryd.func10, Tryd.ntmps10)
       go_wp2_with (first | ((with_reducible refine gate_callee (f := 11) rfl ?_); refine goesL_ (some 7) rfl rfl Tryd.func11 (by kernel_rfl) rfl #[.string (⟨#[97, 98, 10, 99]⟩ : ByteArray), .int .i64 3] rfl (by (try simp only [List.map_toArray, List.map_cons, List.map_nil]); first | done | rfl | (simp only [List.length_drop, List.length_take]; rfl)) ?_; (with_reducible refine (text_Position.calls (⟨#[97, 98, 10, 99]⟩ : ByteArray) 3 t109 t110 true _ A1.out).mono ?_); rintro e w11 ⟨rfl, hb⟩; refine ⟨_, rfl, ?_⟩; have n0_ := qM (qP qF hb); clear HB; have HB := n0_; clear n0_; (try clear hb); (try clear hb2); (try clear hk); (try clear hi)) | ((with_reducible refine gate_dst (N := 1) rfl ?_); refine box_event ?hg (N := 1) ?hd (cs := #[.int .i64 0, .int .i64 0]) (t := 25) ?hr ?_; (case hd => rfl); (case hg => rfl); (case hr => first | (go_simp; done) | (go_simp; rfl)); intro gb112 hg w12 hbox hb; have n0_ := qM (qP qF hb); have n1_ := qM (hbox); have n2_ := qM ((by rw [hg]; exact (qZ qF) : w.heap.size ≤ gb112)); have n3_ := qM ((by rw [hg]; exact (qZ qF) : w.heap.size ≤ gb112)); clear HB; have HB := n0_; have BK112 := n1_; have GW112 := n2_; have GE112 := n3_; clear n0_ n1_ n2_ n3_; clear hb hbox hg; obtain ⟨hcz13_0, hcz13_1, hfz13_0, hfz13_1⟩ := bx2 BK112.out) | ((with_reducible refine gate_callee (f := 17) rfl ?_); refine goesL_ (some 11) rfl rfl Tryd.func17 (by kernel_rfl) rfl #[.string (⟨#[34, 92, 117, 123, 101, 57, 125, 34, 32, 120]⟩ : ByteArray)] rfl (by (try simp only [List.map_toArray, List.map_cons, List.map_nil]); first | done | rfl | (simp only [List.length_drop, List.length_take]; rfl)) ?_; (with_reducible refine (text_Unquote.calls k (⟨#[34, 92, 117, 123, 101, 57, 125, 34, 32, 120]⟩ : ByteArray) t113 t114 t115 _ ?side1 A2.out).mono ?_); (case side1 => exact GW.below HGW.out qF); rintro e w14 ⟨rfl, hb⟩; refine ⟨_, rfl, ?_⟩; have n0_ := qM (qb (g := gb112) (o := .cells #[.int .i64 t109, .int .i64 t110] 25 (0, 0)) (by (with_reducible repeat (first | refine qn ?_ _ | refine qd ?_ | refine qa ?_ _)); refine blk_put (cs := #[.int .i64 t109, .int .i64 0]) ?_ 1 _ rfl; (with_reducible repeat (first | refine qn ?_ _ | refine qd ?_ | refine qa ?_ _)); refine blk_put (cs := #[.int .i64 0, .int .i64 0]) ?_ 0 _ rfl; (with_reducible repeat (first | refine qn ?_ _ | refine qd ?_ | refine qa ?_ _)); exact BK112.out) hb); have n1_ := qM (qP qF hb); clear BK112; clear HB; have BK112 := n0_; have HB := n1_; clear n0_ n1_; (try clear hb); (try clear hb2); (try clear hk); (try clear hi); obtain ⟨hcz15_0, hcz15_1, hfz15_0, hfz15_1⟩ := bx2 BK112.out) | (go_at_call 16; (with_reducible refine (text_Quote.calls (⟨#[97, 34, 10]⟩ : ByteArray) t116 _ ?side1 A5.out).mono ?_); (case side1 => exact GW.below HGW.out qF); rintro e w16 ⟨rfl, hb⟩; have n0_ := qM (qb (g := gb112) qK hb); have n1_ := qM (qP qF hb); clear BK112; clear HB; have BK112 := n0_; have HB := n1_; clear n0_ n1_; (try clear hb); (try clear hb2); (try clear hk); (try clear hi)) | (go_at_call 26; (with_reducible refine (text_Show.calls (-7) t117 _ ?side1 A10.out).mono ?_); (case side1 => exact GW.below HGW.out qF); rintro e w17 ⟨rfl, hb⟩; have n0_ := qM (qb (g := gb112) qK hb); have n1_ := qM (qP qF hb); clear BK112; clear HB; have BK112 := n0_; have HB := n1_; clear n0_ n1_; (try clear hb); (try clear hb2); (try clear hk); (try clear hi)))
       (go_ret); (exact ⟨qE, qF⟩)
      ·rw [if_neg c9] at H
       exact absurd H (by simp)
     ·rw [if_neg c8] at H
      exact absurd H (by simp)
    ·rw [if_neg c7] at H
     exact absurd H (by simp)
   ·rw [if_neg c6] at H
    exact absurd H (by simp)
  ·rw [if_neg c4] at H
   exact absurd H (by simp)
 ·replace c3 := Bool.eq_false_iff.mpr c3
  subst c3; (have H1 : (none) = some r := by rw [if_neg (show ¬ (false = true) by decide)] at H; exact H); clear H; (have H := H1); clear H1; (exact absurd H (by simp))
end Go.Proofs.YtlpkkkkgbnoiiaaDoor.H
end
section
namespace Go.Proofs.YtlpkkkkgbnoiiaaDoor.H
open Go.RowKit Go.Proofs.YtlpkkkkgbnoiiaaDoorW.PrintWords Go.Proofs.YtlpkkkkgbnoiiaaDoorW.PrintLast Go.Proofs.YtlpkkkkgbnoiiaaDoorW.PrintMore
set_option linter.unusedVariables false
set_option linter.unusedSimpArgs false
theorem wrap_id {n : Int} (h0 : -9223372036854775808 ≤ n) (h1 : n ≤ 9223372036854775807) : wrap64 n = n := by
  unfold wrap64
  omega
theorem wf_i64 {n : Int} (h : (Lit.int .i64 n).wf = true) : -9223372036854775808 ≤ n ∧ n ≤ 9223372036854775807 := bounds_i64 h
section
set_option maxRecDepth 100000
theorem knows_true : arboristlaw01_knows.f 30 = some true := by
  simp only [arboristlaw01_knows.f, ByteArray.toList_eq]
  kernel_rfl
end
theorem drop_cons {α : Type} {l r : List α} {i : Nat} {x : α} (h : l.drop i = x :: r) : i < l.length ∧ l.drop (i + 1) = r ∧ ∀ z, l.getD i z = x := by
  have hi : i < l.length := by
    rcases Nat.lt_or_ge i l.length with q | q
    · exact q
    · rw [List.drop_of_length_le q] at h; cases h
  rw [List.drop_eq_getElem_cons hi] at h
  injection h with h1 h2
  exact ⟨hi, h2, fun z => by simp [List.getD_eq_getElem?_getD, List.getElem?_eq_getElem hi, h1]⟩
theorem drop_nil {α : Type} {l : List α} {i : Nat} (h : l.drop i = []) : l.length ≤ i := by
  simpa using h
end Go.Proofs.YtlpkkkkgbnoiiaaDoor.H
end
section
namespace Go.Proofs.YtlpkkkkgbnoiiaaDoor.H
open Go.RowKit Go.Proofs.YtlpkkkkgbnoiiaaDoorW.PrintWords Go.Proofs.YtlpkkkkgbnoiiaaDoorW.PrintLast Go.Proofs.YtlpkkkkgbnoiiaaDoorW.PrintMore
set_option linter.unusedVariables false
set_option linter.unusedSimpArgs false
def ba (l : List UInt8) : ByteArray := ⟨l.toArray⟩
theorem ba_app (a b : List UInt8) : ba a ++ ba b = ba (a ++ b) := ba_ext (by simp [ba])
theorem ba_size (l : List UInt8) : (ba l).size = l.length := by simp [ba, ByteArray.size]
theorem ba_list (l : List UInt8) : (ba l).data.toList = l := by simp [ba]
theorem ba_of (s : ByteArray) : s = ba s.data.toList := ba_ext (by simp [ba])
end Go.Proofs.YtlpkkkkgbnoiiaaDoor.H
end
section
namespace Go.Proofs.YtlpkkkkgbnoiiaaDoor.H
open Go.RowKit Go.Proofs.YtlpkkkkgbnoiiaaDoorW.PrintWords Go.Proofs.YtlpkkkkgbnoiiaaDoorW.PrintLast Go.Proofs.YtlpkkkkgbnoiiaaDoorW.PrintMore
set_option linter.unusedVariables false
set_option linter.unusedSimpArgs false
theorem bt_ba {l : List UInt8} {i : Nat} {c : UInt8} {t : List UInt8} (h : l.drop i = c :: t) : i < (ba l).size ∧ bt (ba l) (i : Int) = (c.toNat : Int) := by
  obtain ⟨hi, _, hg⟩ := drop_cons h
  have hs : i < (ba l).size := by rw [ba_size]; exact hi
  refine ⟨hs, ?_⟩
  unfold bt
  rw [dif_pos (by simpa using hs)]
  have hl := List.getElem?_eq_getElem hi
  have : l[i] = c := by
    have h0 := hg 0
    rw [List.getD_eq_getElem?_getD, hl] at h0
    exact h0
  simp only [Int.toNat_natCast]
  rw [← this]
  rfl
theorem wrap_nat (a : Nat) (h : a ≤ 4294967296) : wrap64 (a : Int) = (a : Int) := wrap_id (by omega) (by omega)
end Go.Proofs.YtlpkkkkgbnoiiaaDoor.H
end
section
namespace Go.Proofs.YtlpkkkkgbnoiiaaDoor.H
open Go Go.Proofs Go.Shelf Go.RowKit
variable {P : Program} {ρ : Ren}
set_option maxHeartbeats 32000000 in
set_option maxRecDepth 100000 in
theorem inner_digits63 (L : Lays.n287 P ρ) (t : ByteArray) (hne : t.size ≠ 0) (hmax : t.size ≤ 9223372036854775806) (hdigs : ∀ c ∈ t.data.toList, 48 ≤ c.toNat ∧ c.toNat ≤ 57) (w : World) :
    Calls P (ρ.f 287) #[.string t, .int .i64 10, .int .i64 63] w fun e w' => e = .returned (Lib.uintTupleM (ρ.t 167) 9223372036854775807 (Lib.parseUintM 9223372036854775807 0 t.data.toList)) ∧ w' = Lib.bytesWorld w (ρ.t 5) t := by
  have mixed := L.mixed
  have t9 := L.t9; have a9 := L.a9; have z9 := L.z9; have v9 := L.v9
  have t3 := L.t3; have a3 := L.a3; have z3 := L.z3; have v3 := L.v3
  have t53 := L.t53; have a53 := L.a53; have z53 := L.z53; have v53 := L.v53
  have t75 := L.t75; have a75 := L.a75; have z75 := L.z75; have v75 := L.v75
  have t4 := L.t4; have a4 := L.a4; have z4 := L.z4; have v4 := L.v4
  have t167 := L.t167; have a167 := L.a167; have z167 := L.z167; have v167 := L.v167
  have t5 := L.t5; have a5 := L.a5; have z5 := L.z5; have v5 := L.v5
  have t46 := L.t46; have a46 := L.a46; have z46 := L.z46; have v46 := L.v46
  have t37 := L.t37; have a37 := L.a37; have z37 := L.z37; have v37 := L.v37
  have t0 := L.t0; have a0 := L.a0; have z0 := L.z0; have v0 := L.v0
  have e321 : ∀ args w, (callFunc (ρ.f 321) args).run P w = .ok (.enter (ρ.f 321) args) w := enters_of L.f321 (by kernel_rfl) rfl
  have hemp : t.toList.isEmpty = false := by
    rw [← decide_eq_emptyBytes]
    exact decide_eq_false (fun h => hne (by rw [h]; rfl))
  have hcv := Lib.run_convert_string_bytes (P := P) w (ρ.t 9) (ρ.t 37) (ρ.t 5) t (u := .string) L.t9 L.t37 L.t5
  have hB : ∀ j, j < t.size → (Lib.bytesWorld w (ρ.t 5) t).cell? ⟨w.heap.size, j, none⟩ = some (.int .u8 (t.data.toList.getD j 0).toNat) := fun j hj => Lib.bytesWorld_cell w (ρ.t 5) t j hj
  obtain ⟨W1, hW1⟩ : ∃ W1, W1 = Lib.bytesWorld w (ρ.t 5) t := ⟨_, rfl⟩
  rw [← hW1] at hcv hB ⊢
  clear hW1
  obtain ⟨bs, hL⟩ : ∃ bs, bs = t.data.toList := ⟨_, rfl⟩
  have hLn : bs.length = t.size := by rw [hL, Lib.size_eq]
  rw [← hL] at hB hdigs ⊢
  clear hL
  have hmv : IntKind.u64.wrap (IntKind.u64.wrap 9223372036854775808 - 1) = 9223372036854775807 := by
    rw [IntKind.wrap_u64, IntKind.wrap_u64]
    decide
  go_enter L.f287, Body.n287_ntmps ρ
  go_wp2
  go_loop [12, 13, 101] (fun vu vn vi => ∃ (k acc : Nat) (a : Int), vu = .bool false ∧ vn = .int .u64 a ∧ vi = .int .i64 k ∧ k ≤ t.size ∧ Hid (a = (acc : Int) ∧ acc ≤ 9223372036854775807 ∧ Lib.parseUintM 9223372036854775807 0 bs = Lib.parseUintM 9223372036854775807 acc (bs.drop k)))
    (fun _ _ vi => t.size - (intOf vi).toNat)
  case atStart => exact ⟨0, 0, 0, rfl, rfl, rfl, by omega, rfl, by omega, rfl⟩
  case round =>
    obtain ⟨k, acc, a, rfl, rfl, rfl, hk, hh⟩ := hrel
    obtain ⟨ha, hacc, hdec⟩ := hh.out
    clear hh
    have a0 : 0 ≤ a := by omega
    have a1 : a ≤ 9223372036854775807 := by omega
    by_cases hkn : k < t.size
    · have hc := hB k hkn
      have hdrop : bs.drop k = bs[k]'(by omega) :: bs.drop (k + 1) := List.drop_eq_getElem_cons (by omega)
      have hget : bs.getD k 0 = bs[k]'(by omega) := by simp [List.getD, List.getElem?_eq_getElem (show k < bs.length by omega)]
      have hdg := hdigs (bs[k]'(by omega)) (List.getElem_mem _)
      rw [hdrop] at hdec
      rw [hget] at hc
      generalize bs[k]'(by omega) = c at hc hdec hdg
      have hc256 : c.toNat < 256 := c.toNat_lt
      clear hB hdrop hget hdigs
      obtain ⟨hd0, hd1⟩ := hdg
      by_cases hcut : 1844674407370955162 ≤ acc
      · have hF : Lib.parseUintM 9223372036854775807 acc (c :: bs.drop (k + 1)) = .range := by simp [Lib.parseUintM, hd0, hd1, hcut]
        rw [hF] at hdec
        have icut : 1844674407370955162 ≤ a := by omega
        clear hcut hacc hF ha
        go_wp2
        go_ret2
        exact ⟨rfl, rfl⟩
      · by_cases hov : 9223372036854775807 < acc * 10 + (c.toNat - 48)
        · have hF : Lib.parseUintM 9223372036854775807 acc (c :: bs.drop (k + 1)) = .range := by simp [Lib.parseUintM, hd0, hd1, hcut, hov]
          rw [hF] at hdec
          have icut : a < 1844674407370955162 := by omega
          have iov : 9223372036854775807 < a * 10 + ((c.toNat : Int) - 48) := by omega
          by_cases hbig : a * 10 + ((c.toNat : Int) - 48) < 18446744073709551616
          · clear hcut hacc hF hov ha
            go_wp2
            go_ret2
            exact ⟨rfl, rfl⟩
          · have ibig : 18446744073709551616 ≤ a * 10 + ((c.toNat : Int) - 48) := by omega
            have hwr : IntKind.u64.wrap (a * 10 + ((c.toNat : Int) - 48)) = a * 10 + ((c.toNat : Int) - 48) - 18446744073709551616 := by
              rw [IntKind.wrap_u64]
              omega
            clear hcut hacc hF hov ha hbig iov
            go_wp2
            go_ret2
            exact ⟨rfl, rfl⟩
        · have hF : Lib.parseUintM 9223372036854775807 acc (c :: bs.drop (k + 1)) = Lib.parseUintM 9223372036854775807 (acc * 10 + (c.toNat - 48)) (bs.drop (k + 1)) := by simp [Lib.parseUintM, hd0, hd1, hcut, hov]
          have HN : Hid (a * 10 + ((c.toNat : Int) - 48) = ((acc * 10 + (c.toNat - 48) : Nat) : Int) ∧ acc * 10 + (c.toNat - 48) ≤ 9223372036854775807 ∧ Lib.parseUintM 9223372036854775807 0 bs = Lib.parseUintM 9223372036854775807 (acc * 10 + (c.toNat - 48)) (bs.drop (k + 1))) := Lib.hid ⟨by omega, by omega, hdec.trans hF⟩
          have icut : a < 1844674407370955162 := by omega
          have iov : a * 10 + ((c.toNat : Int) - 48) ≤ 9223372036854775807 := by omega
          clear hcut hacc hF hov hdec ha
          go_wp2
          refine ⟨⟨k + 1, acc * 10 + (c.toNat - 48), a * 10 + ((c.toNat : Int) - 48), rfl, (by first | rfl | (congr 1; omega)), (by first | rfl | (congr 1; omega)), by omega, HN⟩, by simp [intOf]; omega⟩
    · have hkk : k = t.size := by omega
      subst hkk
      have hF : Lib.parseUintM 9223372036854775807 acc (bs.drop t.size) = .ok acc := by rw [List.drop_eq_nil_of_le (by omega)]; rfl
      rw [hF] at hdec
      subst ha
      clear hacc hF a0 a1
      go_wp2
      go_ret2
      exact ⟨rfl, rfl⟩
end Go.Proofs.YtlpkkkkgbnoiiaaDoor.H
end
section
namespace Go.Proofs.YtlpkkkkgbnoiiaaDoor.H
open Go.RowKit Go.Proofs.YtlpkkkkgbnoiiaaDoorW.PrintWords Go.Proofs.YtlpkkkkgbnoiiaaDoorW.PrintLast Go.Proofs.YtlpkkkkgbnoiiaaDoorW.PrintMore
open Go.Maps
set_option linter.unusedVariables false
set_option linter.unusedSimpArgs false
def text_Read.f (a0 : ByteArray) (a1 : Int) : Option (Int × Int) := if a0.size ≤ 1000000 then some (readV a0.data.toList a1) else none
set_option maxRecDepth 100000 in
set_option maxHeartbeats 4000000 in
theorem pub63_ok (t : ByteArray) (hne : t.size ≠ 0) (hlim : t.size ≤ 1000000) (hd : ∀ c ∈ t.data.toList, 48 ≤ c.toNat ∧ c.toNat ≤ 57) (n : Int) (hn : (valL 0 t.data.toList : Int) = n) (hle : valL 0 t.data.toList ≤ 9223372036854775807) (w : World) :
    Calls Tryd.prog 42 #[.string t, .int .i64 10, .int .i64 63] w fun e w' => e = .returned (.tuple #[.int .u64 n, .nilIface]) ∧ Below w.heap.size w w' := by
  have hI := inner_digits63 Tryd.ly287 t hne (by omega) hd w
  rw [parse_val _ (by decide) _ hd _ (Nat.zero_le _), if_neg (Nat.not_lt.2 hle)] at hI
  have hI : Calls Tryd.prog 55 #[.string t, .int .i64 10, .int .i64 63] w fun e w' => e = .returned (.tuple #[.int .u64 n, .nilIface]) ∧ w' = Lib.bytesWorld w 5 t := hn ▸ hI
  clear hn hle
  go_enter Tryd.func42, Tryd.ntmps42
  go_wp2_with (go_at_call 55; refine hI.mono ?_; rintro e W1 ⟨rfl, rfl⟩)
  go_ret2
  exact ⟨rfl, below_bytesWorld _ _ _⟩
set_option maxRecDepth 100000 in
set_option maxHeartbeats 4000000 in
theorem pub63_range (t : ByteArray) (hne : t.size ≠ 0) (hlim : t.size ≤ 1000000) (hd : ∀ c ∈ t.data.toList, 48 ≤ c.toNat ∧ c.toNat ≤ 57) (hgt : 9223372036854775807 < valL 0 t.data.toList) (te : TypeId) (pe : Value) (w : World) (hv : w.cell? ⟨4, 0, none⟩ = some (.iface te pe)) :
    Calls Tryd.prog 42 #[.string t, .int .i64 10, .int .i64 63] w fun e w' => (∃ (T : TypeId) (N : Nat), e = .returned (.tuple #[.int .u64 9223372036854775807, .iface T (.pointer (some ⟨N, 0, none⟩))])) ∧ Below w.heap.size w w' := by
  have hI := inner_digits63 Tryd.ly287 t hne (by omega) hd w
  rw [parse_val _ (by decide) _ hd _ (Nat.zero_le _), if_pos hgt] at hI
  have hI : Calls Tryd.prog 55 #[.string t, .int .i64 10, .int .i64 63] w fun e w' => e = .returned (.tuple #[.int .u64 9223372036854775807, .iface (Tryd.ren.t 167) (.int .i64 1)]) ∧ w' = Lib.bytesWorld w 5 t := hI
  clear hgt
  go_enter Tryd.func42, Tryd.ntmps42
  go_wp2_with (go_at_call 55; refine hI.mono ?_; rintro e W1 ⟨rfl, rfl⟩)
  have hb1 := below_bytesWorld w 5 t
  have hv1 := cell_below hv hb1
  generalize Lib.bytesWorld w 5 t = W1 at hb1 hv1 ⊢
  go_wp2_with (go_at_call 56; refine (Any.strconv_toError_range Tryd.ly245C ⟨#[80, 97, 114, 115, 101, 85, 105, 110, 116]⟩ t 10 63 (.iface te pe) _ (by omega) ?_ (Or.inr ⟨_, _, rfl⟩)).mono ?_)
  · exact hv1
  rintro e W2 ⟨N, rfl, h1, h2, h3⟩
  go_wp2
  go_ret2
  exact ⟨⟨_, N, rfl⟩, hb1.trans (h3.mono hb1.size)⟩
theorem char_at (a0 : ByteArray) (c : UInt8) (l : List UInt8) (h : a0.data.toList = c :: l) : bt a0 0 = (c.toNat : Int) := by
  have hl : a0.data.toList.length = a0.size := Array.length_toList
  have hs : 0 < a0.size := by rw [← hl, h]; simp
  have := bt_at a0 0 hs
  rw [← this]
  have e : a0.data.toList[0]'(by rw [h]; simp) = c := by simp [h]
  rw [← e]; rfl
set_option maxRecDepth 100000 in
set_option maxHeartbeats 8000000 in
theorem text_Read.calls (a0 : ByteArray) (a1 : Int) (r1 r2 : Int) (w : World) (hgw : GW w) (h : text_Read.f a0 a1 = some (r1, r2)) :
    Calls Tryd.prog 24 #[.string a0, .int .i64 a1] w fun e w' => e = .returned (.tuple #[.int .i64 r1, .int .i64 r2]) ∧ Below w.heap.size w w' := by
  unfold text_Read.f at h
  split at h
  case isFalse => cases h
  rename_i hs
  have HP := Aside0.mk (Option.some.inj h)
  have HGW := Aside0.mk hgw
  clear h hgw
  have hcv := fun W : World => Lib.run_convert_string_bytes (P := Tryd.prog) W 9 52 5 a0 Tryd.underlying9 Tryd.underlying52 Tryd.underlying5
  have HBW := Aside0.mk (below_bytesWorld w 5 a0)
  have HCE := Aside0.mk (fun j hj => Lib.bytesWorld_cell w 5 a0 j hj)
  have hlen : a0.data.toList.length = a0.size := Array.length_toList
  have HLEN := Aside0.mk hlen
  rcases hl : a0.data.toList with _ | ⟨c0, l0⟩
  · have e1 : a0.toList = [] := by rw [ByteArray.toList_eq]; exact hl
    have e2 : a0.toList.isEmpty = true := by rw [e1]; rfl
    have hv : readV a0.data.toList a1 = (0, 3) := by rw [hl]; rfl
    have HV := Aside0.mk (hv.symm.trans HP.out)
    clear hv HP hcv hlen hl
    obtain ⟨rfl, rfl⟩ : (0 : Int) = r1 ∧ (3 : Int) = r2 := by have := HV.out; rw [Prod.mk.injEq] at this; exact this
    go_enter Tryd.func24, Tryd.ntmps24
    go_wp2
    go_ret2
    exact ⟨rfl, by first | exact Below.refl _ _ | exact below_alloc _ _⟩
  have hc0 := Aside0.mk (char_at a0 c0 l0 hl)
  have HL := Aside0.mk hl
  have hpos : 0 < a0.size := by rw [← hlen, hl]; simp
  have e1 : (a0.toList == ([] : List UInt8)) = false := by rw [ByteArray.toList_eq, hl]; rfl
  have e2 : a0.toList.isEmpty = false := by rw [ByteArray.toList_eq, hl]; rfl
  clear hlen hl
  have hx0 : ∀ h : 0 < a0.size, ((a0[0]'h).toNat : Int) = bt a0 0 := bt_at a0 0
  rw [hc0.out] at hx0
  have h8 := c0.toNat_lt
  by_cases hbad : 1 < a0.size ∧ c0.toNat = 48
  · obtain ⟨b1, b2⟩ := hbad
    have hv : readV a0.data.toList a1 = (0, 3) := by
      have hne : a0.data.toList ≠ [] := by rw [HL.out]; simp
      unfold readV
      rw [if_neg hne, if_pos ⟨by rw [HLEN.out]; exact b1, by rw [HL.out]; exact UInt8.toNat_inj.1 b2⟩]
    have HV := Aside0.mk (hv.symm.trans HP.out)
    clear hv HP hcv
    obtain ⟨rfl, rfl⟩ : (0 : Int) = r1 ∧ (3 : Int) = r2 := by have := HV.out; rw [Prod.mk.injEq] at this; exact this
    have b1b : decide ((a0.size : Int) > 1) = true := by simp; omega
    have b2b : ((c0.toNat : Int) == 48) = true := by simp; omega
    go_enter Tryd.func24, Tryd.ntmps24
    go_wp2
    go_ret2
    exact ⟨rfl, by first | exact Below.refl _ _ | exact below_alloc _ _⟩
  have HNB : Aside0 (readV a0.data.toList a1 = if a0.data.toList.all digB1 = true then (if 9223372036854775807 < valL 0 a0.data.toList then (0, 2) else if (valL 0 a0.data.toList : Int) > a1 then (0, 2) else ((valL 0 a0.data.toList : Int), 0)) else (0, 3)) := ⟨by
    have hne : a0.data.toList ≠ [] := by rw [HL.out]; simp
    conv => lhs; unfold readV
    rw [if_neg hne, if_neg]
    rintro ⟨q1, q2⟩
    rw [HLEN.out] at q1
    rw [HL.out] at q2
    exact hbad ⟨q1, by rw [show c0 = 48 from q2]; rfl⟩⟩
  have hsp : (decide ((a0.size : Int) > 1) = false) ∨ (decide ((a0.size : Int) > 1) = true ∧ ((c0.toNat : Int) == 48) = false) := by
    by_cases q : 1 < a0.size
    · exact .inr ⟨by simp; omega, by simp; omega⟩
    · exact .inl (by simp; omega)
  clear hbad
  rcases hsp with b1b | ⟨b1b, b2b⟩
  all_goals (
    go_enter Tryd.func24, Tryd.ntmps24
    go_wp2
    obtain ⟨W, hW⟩ : ∃ W, Lib.bytesWorld w 5 a0 = W := ⟨_, rfl⟩
    rw [hW] at HBW HCE ⊢
    clear hcv hW
    go_loop [25] (fun v => ∃ k : Nat, k ≤ a0.size ∧ v = .int .i64 (k : Int) ∧ Aside0 (a0.data.toList.all digB1 = (a0.data.toList.drop k).all digB1)) (fun v => a0.size - (intOf v).toNat)
    case atStart => exact ⟨0, Nat.zero_le _, rfl, ⟨rfl⟩⟩
    case round =>
      obtain ⟨k, hk, rfl, HN⟩ := hrel
      by_cases hlt : k < a0.size
      · have hc := HCE.out k hlt
        have hdr := drop_byte a0 k hlt
        obtain ⟨c, hcc⟩ : ∃ c, a0.data.toList.getD k 0 = c := ⟨_, rfl⟩
        rw [hcc] at hc hdr
        clear hcc
        have HN2 := Aside0.mk (HN.out.trans (show _ = (digB1 c && (a0.data.toList.drop (k + 1)).all digB1) by rw [hdr]; rfl))
        clear hdr HN
        have h9 := c.toNat_lt
        by_cases d1 : c.toNat < 48
        · have d1b : decide ((c.toNat : Int) < 48) = true := by simp; omega
          have hv : readV a0.data.toList a1 = (0, 3) := by rw [HNB.out, HN2.out, if_neg]; simp [digB1]; omega
          have HV := Aside0.mk (hv.symm.trans HP.out)
          clear hv
          obtain ⟨rfl, rfl⟩ : (0 : Int) = r1 ∧ (3 : Int) = r2 := by have := HV.out; rw [Prod.mk.injEq] at this; exact this
          go_wp2
          go_ret2
          exact ⟨rfl, HBW.out⟩
        have d1b : decide ((c.toNat : Int) < 48) = false := by simp; omega
        by_cases d2 : c.toNat > 57
        · have d2b : decide ((c.toNat : Int) > 57) = true := by simp; omega
          have hv : readV a0.data.toList a1 = (0, 3) := by rw [HNB.out, HN2.out, if_neg]; simp [digB1]; omega
          have HV := Aside0.mk (hv.symm.trans HP.out)
          clear hv
          obtain ⟨rfl, rfl⟩ : (0 : Int) = r1 ∧ (3 : Int) = r2 := by have := HV.out; rw [Prod.mk.injEq] at this; exact this
          go_wp2
          go_ret2
          exact ⟨rfl, HBW.out⟩
        have d2b : decide ((c.toNat : Int) > 57) = false := by simp; omega
        have HN3 := Aside0.mk (HN2.out.trans (show _ = (a0.data.toList.drop (k + 1)).all digB1 by rw [show digB1 c = true by simp [digB1]; omega, Bool.true_and]))
        clear HN2
        go_wp2
        go_round
        case rel => exact ⟨k + 1, hlt, by push_cast; rfl, HN3⟩
        case measure => simp [intOf]; omega
      · have hke : k = a0.size := by omega
        subst hke
        have HA := Aside0.mk (HN.out.trans (show _ = true by rw [List.drop_of_length_le (by rw [HLEN.out]; exact Nat.le_refl _)]; rfl))
        clear HN
        have HD := Aside0.mk (all_digs HA.out)
        have hne : a0.size ≠ 0 := by omega
        by_cases hbig : 9223372036854775807 < valL 0 a0.data.toList
        · have hv : readV a0.data.toList a1 = (0, 2) := by rw [HNB.out, if_pos HA.out, if_pos hbig]
          have HV := Aside0.mk (hv.symm.trans HP.out)
          have HBIG := Aside0.mk hbig
          clear hv hbig
          obtain ⟨rfl, rfl⟩ : (0 : Int) = r1 ∧ (2 : Int) = r2 := by have := HV.out; rw [Prod.mk.injEq] at this; exact this
          obtain ⟨te, pe, hte⟩ := HGW.out.er
          have HER := Aside0.mk (cell_below hte HBW.out)
          clear hte
          go_wp2_with (go_at_call 42; refine (pub63_range a0 hne hs HD.out HBIG.out te pe _ HER.out).mono ?_; rintro e w' ⟨⟨T, N, rfl⟩, hb⟩)
          have HB2 := Aside0.mk hb
          clear hb
          go_wp2
          go_ret2
          exact ⟨rfl, HBW.out.trans (HB2.out.mono HBW.out.size)⟩
        · obtain ⟨n, hn⟩ : ∃ n : Int, (valL 0 a0.data.toList : Int) = n := ⟨_, rfl⟩
          have hle : valL 0 a0.data.toList ≤ 9223372036854775807 := Nat.not_lt.1 hbig
          have n0 : 0 ≤ n := by omega
          have n1 : n ≤ 9223372036854775807 := by omega
          have hv : readV a0.data.toList a1 = if n > a1 then (0, 2) else (n, 0) := by rw [HNB.out, if_pos HA.out, if_neg hbig, hn]
          have HLE := Aside0.mk hle
          have HN4 := Aside0.mk hn
          clear hbig hle hn
          have hwr : IntKind.i64.wrap n = n := by rw [IntKind.wrap_i64]; omega
          by_cases hgt : n > a1
          · have hgtb : decide (n > a1) = true := by simpa using hgt
            rw [if_pos hgt] at hv
            have HV := Aside0.mk (hv.symm.trans HP.out)
            clear hv
            obtain ⟨rfl, rfl⟩ : (0 : Int) = r1 ∧ (2 : Int) = r2 := by have := HV.out; rw [Prod.mk.injEq] at this; exact this
            go_wp2_with (go_at_call 42; refine (pub63_ok a0 hne hs HD.out n HN4.out HLE.out _).mono ?_; rintro e w' ⟨rfl, hb⟩)
            have HB2 := Aside0.mk hb
            clear hb
            go_wp2
            go_ret2
            exact ⟨rfl, HBW.out.trans (HB2.out.mono HBW.out.size)⟩
          · have hgtb : decide (n > a1) = false := by simpa using hgt
            rw [if_neg hgt] at hv
            have HV := Aside0.mk (hv.symm.trans HP.out)
            clear hv
            obtain ⟨rfl, rfl⟩ : n = r1 ∧ (0 : Int) = r2 := by have := HV.out; rw [Prod.mk.injEq] at this; exact this
            go_wp2_with (go_at_call 42; refine (pub63_ok a0 hne hs HD.out n HN4.out HLE.out _).mono ?_; rintro e w' ⟨rfl, hb⟩)
            have HB2 := Aside0.mk hb
            clear hb
            go_wp2
            go_ret2
            exact ⟨rfl, HBW.out.trans (HB2.out.mono HBW.out.size)⟩)
end Go.Proofs.YtlpkkkkgbnoiiaaDoor.H
end
section
namespace Go.Proofs.YtlpkkkkgbnoiiaaDoor.H
open Go.RowKit Go.Proofs.YtlpkkkkgbnoiiaaDoorW.PrintWords Go.Proofs.YtlpkkkkgbnoiiaaDoorW.PrintLast Go.Proofs.YtlpkkkkgbnoiiaaDoorW.PrintMore
attribute [local go_sem] max2_int min2_int max_two min_two max_three min_three max_four min_four
set_option linter.unusedVariables false
set_option linter.unusedSimpArgs false
def arboristlaw01_TextNumbers.j0 : Nat → Int → Bool → Option (Bool)
 | 0, _, _ => none
 | k + 1, x1, x43 => if x43 = true then (some false) else ((text_Show.f x1).bind fun t261 => ((text_Read.f t261 x1).bind fun bt262 => (if x1 < 0 then ((arboristlaw01_knows.f k).bind fun t264 => (some t264)) else (if bt262.1 = x1 then (if bt262.2 = 0 then ((arboristlaw01_knows.f k).bind fun t265 => (some t265)) else (some false)) else (some false)))))
def arboristlaw01_TextNumbers.f (k : Nat) (a0 : ByteArray) (a1 : Int) (a2 : Int) : Option (Bool) := (arboristlaw01_few.f a0).bind fun t253 => (if t253 = true then ((text_Read.f a0 a2).bind fun bt255 => ((arboristref01_Read.f k a0 a2).bind fun bt257 => (if bt255.1 = bt257.1 then (if bt255.2 = bt257.2 then ((text_Show.f a1).bind fun t259 => ((arboristref01_Show.f k a1).bind fun t260 => (arboristlaw01_TextNumbers.j0 k a1 (t259.toList != t260.toList)))) else (arboristlaw01_TextNumbers.j0 k a1 true)) else (arboristlaw01_TextNumbers.j0 k a1 true)))) else ((arboristlaw01_knows.f k).bind fun t254 => (some t254)))
set_option maxHeartbeats 8000000 in
set_option maxRecDepth 100000 in
theorem arboristlaw01_TextNumbers.calls (k : Nat) (a0 : ByteArray) (a1 : Int) (a2 : Int) (r : Bool) (w : World) (hgw : GW w) (h : arboristlaw01_TextNumbers.f k a0 a1 a2 = some r) :
  Calls Tryd.prog 8 #[.string a0, .int .i64 a1, .int .i64 a2] w fun e w' => e = .returned (.bool r) ∧ Below w.heap.size w w' := by
 (have HGW := qM hgw); clear hgw; (have HB := qM (Below.refl w.heap.size w)); (have H : ((arboristlaw01_few.f a0).bind fun t253 => (if t253 = true then ((text_Read.f a0 a2).bind fun bt255 => ((arboristref01_Read.f k a0 a2).bind fun bt257 => (if bt255.1 = bt257.1 then (if bt255.2 = bt257.2 then ((text_Show.f a1).bind fun t259 => ((arboristref01_Show.f k a1).bind fun t260 => (arboristlaw01_TextNumbers.j0 k a1 (t259.toList != t260.toList)))) else (arboristlaw01_TextNumbers.j0 k a1 true)) else (arboristlaw01_TextNumbers.j0 k a1 true)))) else ((arboristlaw01_knows.f k).bind fun t254 => (some t254)))) = some r := h); clear h; (replace H := Option.bind_eq_some_iff.mp H); (obtain ⟨t253, A40, H⟩ := H); (replace H : (if t253 = true then ((text_Read.f a0 a2).bind fun bt255 => ((arboristref01_Read.f k a0 a2).bind fun bt257 => (if bt255.1 = bt257.1 then (if bt255.2 = bt257.2 then ((text_Show.f a1).bind fun t259 => ((arboristref01_Show.f k a1).bind fun t260 => (arboristlaw01_TextNumbers.j0 k a1 (t259.toList != t260.toList)))) else (arboristlaw01_TextNumbers.j0 k a1 true)) else (arboristlaw01_TextNumbers.j0 k a1 true)))) else ((arboristlaw01_knows.f k).bind fun t254 => (some t254))) = some r := H); (have A4 := qM A40); clear A40; (by_cases c5 : t253 = true)
 ·subst c5
  (have H1 : ((text_Read.f a0 a2).bind fun bt255 => ((arboristref01_Read.f k a0 a2).bind fun bt257 => (if bt255.1 = bt257.1 then (if bt255.2 = bt257.2 then ((text_Show.f a1).bind fun t259 => ((arboristref01_Show.f k a1).bind fun t260 => (arboristlaw01_TextNumbers.j0 k a1 (t259.toList != t260.toList)))) else (arboristlaw01_TextNumbers.j0 k a1 true)) else (arboristlaw01_TextNumbers.j0 k a1 true)))) = some r := by rw [if_pos rfl] at H; exact H); clear H; (have H := H1); clear H1; (replace H := Option.bind_eq_some_iff.mp H); (obtain ⟨⟨t255, t256⟩, A60, H⟩ := H); (replace H : ((arboristref01_Read.f k a0 a2).bind fun bt257 => (if t255 = bt257.1 then (if t256 = bt257.2 then ((text_Show.f a1).bind fun t259 => ((arboristref01_Show.f k a1).bind fun t260 => (arboristlaw01_TextNumbers.j0 k a1 (t259.toList != t260.toList)))) else (arboristlaw01_TextNumbers.j0 k a1 true)) else (arboristlaw01_TextNumbers.j0 k a1 true))) = some r := H); (have A6 := qM A60); clear A60; (replace H := Option.bind_eq_some_iff.mp H); (obtain ⟨⟨t257, t258⟩, A70, H⟩ := H); (replace H : (if t255 = t257 then (if t256 = t258 then ((text_Show.f a1).bind fun t259 => ((arboristref01_Show.f k a1).bind fun t260 => (arboristlaw01_TextNumbers.j0 k a1 (t259.toList != t260.toList)))) else (arboristlaw01_TextNumbers.j0 k a1 true)) else (arboristlaw01_TextNumbers.j0 k a1 true)) = some r := H); (have A7 := qM A70); clear A70; (have HC8 := qM H); clear H; (go_enter Tryd.func8, Tryd.ntmps8)
  go_upto_region 5 with (first | ((with_reducible refine gate_callee (f := 9) rfl ?_); refine goesL_ (some 14) rfl rfl Tryd.func9 (by kernel_rfl) rfl #[.string a0] rfl (by (try simp only [List.map_toArray, List.map_cons, List.map_nil]); first | done | rfl | (simp only [List.length_drop, List.length_take]; rfl)) ?_; (with_reducible refine (arboristlaw01_few.calls a0 true _ A4.out).mono ?_); rintro e w' ⟨rfl, ⟨nd, rfl⟩⟩; refine ⟨_, rfl, ?_⟩) | ((with_reducible refine gate_callee (f := 24) rfl ?_); refine goesL_ (some 20) rfl rfl Tryd.func24 (by kernel_rfl) rfl #[.string a0, .int .i64 a2] rfl (by (try simp only [List.map_toArray, List.map_cons, List.map_nil]); first | done | rfl | (simp only [List.length_drop, List.length_take]; rfl)) ?_; (with_reducible refine (text_Read.calls a0 a2 t255 t256 _ ?side1 A6.out).mono ?_); (case side1 => exact GW.below HGW.out qF); rintro e w9 ⟨rfl, hb⟩; refine ⟨_, rfl, ?_⟩; have n0_ := qM (qP qF hb); clear HB; have HB := n0_; clear n0_; (try clear hb); (try clear hb2); (try clear hk); (try clear hi)) | ((with_reducible refine gate_callee (f := 25) rfl ?_); refine goesL_ (some 26) rfl rfl Tryd.func25 (by kernel_rfl) rfl #[.string a0, .int .i64 a2] rfl (by (try simp only [List.map_toArray, List.map_cons, List.map_nil]); first | done | rfl | (simp only [List.length_drop, List.length_take]; rfl)) ?_; (with_reducible refine (arboristref01_Read.calls k a0 a2 t257 t258 _ A7.out).mono ?_); rintro e w' ⟨rfl, ⟨nd, rfl⟩⟩; refine ⟨_, rfl, ?_⟩))
  ((try simp only [Act.put, List.setIfInBounds_toArray, List.set_cons_zero, List.set_cons_succ])); (go_cut [43] (fun v43 wc => ∃ (kq : Nat) (x43_7 : Bool), v43 = .bool x43_7 ∧ Aside0 (arboristlaw01_TextNumbers.j0 kq a1 x43_7 = some r) ∧ Aside0 (kq ≤ k) ∧ Aside0 (Below w.heap.size w wc)))
  case first =>
   (have H := HC8.out); clear HC8; (by_cases c10 : t255 = t257)
   ·rw [if_pos c10] at H
    (have c10b0 : (t255 == t257) = true := beq_iff_eq.mpr c10); (have c10b1 : (t255 != t257) = false := bne_eq_false_iff_eq.mpr c10); clear c10; ((first | rw [c10b0] | (simp only [i64_w, i32_w]; rw [c10b0]) | skip)); (by_cases c11 : t256 = t258)
    ·rw [if_pos c11] at H
     (have c11b0 : (t256 == t258) = true := beq_iff_eq.mpr c11); (have c11b1 : (t256 != t258) = false := bne_eq_false_iff_eq.mpr c11); clear c11; (replace H := Option.bind_eq_some_iff.mp H); (obtain ⟨t259, A120, H⟩ := H); (replace H : ((arboristref01_Show.f k a1).bind fun t260 => (arboristlaw01_TextNumbers.j0 k a1 (t259.toList != t260.toList))) = some r := H); (have A12 := qM A120); clear A120; (replace H := Option.bind_eq_some_iff.mp H); (obtain ⟨t260, A130, H⟩ := H); (replace H : (arboristlaw01_TextNumbers.j0 k a1 (t259.toList != t260.toList)) = some r := H); (have A13 := qM A130); clear A130; (have H' := qM H); clear H
     go_wp2_with (first | (go_at_call 26; (with_reducible refine (text_Show.calls a1 t259 _ ?side1 A12.out).mono ?_); (case side1 => exact GW.below HGW.out qF); rintro e w14 ⟨rfl, hb⟩; have n0_ := qM (qP qF hb); clear HB; have HB := n0_; clear n0_; (try clear hb); (try clear hb2); (try clear hk); (try clear hi)) | (go_at_call 27; (with_reducible refine (arboristref01_Show.calls k a1 t260 _ A13.out).mono ?_); rintro e w15 ⟨rfl, hb⟩; have n0_ := qM (qP qF hb); clear HB; have HB := n0_; clear n0_; (try clear hb); (try clear hb2); (try clear hk); (try clear hi)))
     go_meet
     case rel => exact ⟨_, ((t259.toList != t260.toList)), qV, H', ⟨by first | omega | exact Nat.le_refl _⟩, ⟨qF⟩⟩
    ·rw [if_neg c11] at H
     (have c11b0 : (t256 == t258) = false := beq_eq_false_iff_ne.mpr c11); (have c11b1 : (t256 != t258) = true := bne_iff_ne.mpr c11); (have H' := qM H); clear H; go_wp2; go_meet
     case rel => exact ⟨_, (true), qV, H', ⟨by first | omega | exact Nat.le_refl _⟩, ⟨qF⟩⟩
   ·rw [if_neg c10] at H
    (have c10b0 : (t255 == t257) = false := beq_eq_false_iff_ne.mpr c10); (have c10b1 : (t255 != t257) = true := bne_iff_ne.mpr c10); ((first | rw [c10b0] | (simp only [i64_w, i32_w]; rw [c10b0]) | skip)); (have H' := qM H); clear H; go_wp2; go_meet
    case rel => exact ⟨_, (true), qV, H', ⟨by first | omega | exact Nat.le_refl _⟩, ⟨qF⟩⟩
  case rest =>
   clear HC8; (try clear c1); (try clear c2); (try clear p2); (try clear c5); (try clear c8); (try clear c9); (try clear c10); (try clear c10b0); (try clear c10b1); (try clear c11); (try clear c11b0); (try clear c11b1); (obtain ⟨kq, x43_7, rfl, HA, HJ7, HB⟩ := hcut)
   cases kq with
   | zero => exact absurd HA.out (by simp [arboristlaw01_TextNumbers.j0])
   | succ kj7 =>
    (have H := HA.out); clear HA; (simp only [arboristlaw01_TextNumbers.j0] at H); (by_cases c16 : x43_7 = true)
    ·subst c16
     (have H1 : (some false) = some r := by rw [if_pos rfl] at H; exact H); clear H; (have H := H1); clear H1; (obtain rfl := Option.some.inj H); go_wp2; (go_ret); (exact ⟨qE, qF⟩)
    ·replace c16 := Bool.eq_false_iff.mpr c16
     subst c16; (have H1 : ((text_Show.f a1).bind fun t261 => ((text_Read.f t261 a1).bind fun bt262 => (if a1 < 0 then ((arboristlaw01_knows.f kj7).bind fun t264 => (some t264)) else (if bt262.1 = a1 then (if bt262.2 = 0 then ((arboristlaw01_knows.f kj7).bind fun t265 => (some t265)) else (some false)) else (some false))))) = some r := by rw [if_neg (show ¬ (false = true) by decide)] at H; exact H); clear H; (have H := H1); clear H1; (replace H := Option.bind_eq_some_iff.mp H); (obtain ⟨t261, A170, H⟩ := H); (replace H : ((text_Read.f t261 a1).bind fun bt262 => (if a1 < 0 then ((arboristlaw01_knows.f kj7).bind fun t264 => (some t264)) else (if bt262.1 = a1 then (if bt262.2 = 0 then ((arboristlaw01_knows.f kj7).bind fun t265 => (some t265)) else (some false)) else (some false)))) = some r := H); (have A17 := qM A170); clear A170; (replace H := Option.bind_eq_some_iff.mp H); (obtain ⟨⟨t262, t263⟩, A180, H⟩ := H); (replace H : (if a1 < 0 then ((arboristlaw01_knows.f kj7).bind fun t264 => (some t264)) else (if t262 = a1 then (if t263 = 0 then ((arboristlaw01_knows.f kj7).bind fun t265 => (some t265)) else (some false)) else (some false))) = some r := H); (have A18 := qM A180); clear A180; (by_cases c19 : a1 < 0)
     ·rw [if_pos c19] at H
      (have c19b0 : decide (a1 < 0) = true := decide_eq_true c19); clear c19; (replace H := Option.bind_eq_some_iff.mp H); (obtain ⟨t264, A200, H⟩ := H); (replace H : (some t264) = some r := H); (have A20 := qM A200); clear A200; (obtain rfl := Option.some.inj H)
      go_wp2_with (first | ((with_reducible refine gate_callee (f := 26) rfl ?_); refine goesL_ (some 46) rfl rfl Tryd.func26 (by kernel_rfl) rfl #[.int .i64 a1] rfl (by (try simp only [List.map_toArray, List.map_cons, List.map_nil]); first | done | rfl | (simp only [List.length_drop, List.length_take]; rfl)) ?_; (with_reducible refine (text_Show.calls a1 t261 _ ?side1 A17.out).mono ?_); (case side1 => exact GW.below HGW.out qF); rintro e w21 ⟨rfl, hb⟩; refine ⟨_, rfl, ?_⟩; have n0_ := qM (qP qF hb); clear HB; have HB := n0_; clear n0_; (try clear hb); (try clear hb2); (try clear hk); (try clear hi)) | ((with_reducible refine gate_callee (f := 24) rfl ?_); refine goesL_ (some 48) rfl rfl Tryd.func24 (by kernel_rfl) rfl #[.string t261, .int .i64 a1] rfl (by (try simp only [List.map_toArray, List.map_cons, List.map_nil]); first | done | rfl | (simp only [List.length_drop, List.length_take]; rfl)) ?_; (with_reducible refine (text_Read.calls t261 a1 t262 t263 _ ?side1 A18.out).mono ?_); (case side1 => exact GW.below HGW.out qF); rintro e w22 ⟨rfl, hb⟩; refine ⟨_, rfl, ?_⟩; have n0_ := qM (qP qF hb); clear HB; have HB := n0_; clear n0_; (try clear hb); (try clear hb2); (try clear hk); (try clear hi)) | (go_at_call 10; (with_reducible refine (arboristlaw01_knows.calls kj7  t264 _ ?side1 A20.out).mono ?_); (case side1 => exact GW.below HGW.out qF); rintro e w23 ⟨rfl, hb⟩; have n0_ := qM (qP qF hb); clear HB; have HB := n0_; clear n0_; (try clear hb); (try clear hb2); (try clear hk); (try clear hi)))
      (go_ret); (exact ⟨qE, qF⟩)
     ·rw [if_neg c19] at H
      (have c19b0 : decide (a1 < 0) = false := decide_eq_false c19); clear c19; (by_cases c24 : t262 = a1)
      ·rw [if_pos c24] at H
       (have c24b0 : (t262 == a1) = true := beq_iff_eq.mpr c24); (have c24b1 : (t262 != a1) = false := bne_eq_false_iff_eq.mpr c24); clear c24; (by_cases c25 : t263 = 0)
       ·rw [if_pos c25] at H
        (have c25b0 : (t263 == 0) = true := beq_iff_eq.mpr c25); (have c25b1 : (t263 != 0) = false := bne_eq_false_iff_eq.mpr c25); clear c25; (replace H := Option.bind_eq_some_iff.mp H); (obtain ⟨t265, A260, H⟩ := H); (replace H : (some t265) = some r := H); (have A26 := qM A260); clear A260; (obtain rfl := Option.some.inj H)
        go_wp2_with (first | ((with_reducible refine gate_callee (f := 26) rfl ?_); refine goesL_ (some 46) rfl rfl Tryd.func26 (by kernel_rfl) rfl #[.int .i64 a1] rfl (by (try simp only [List.map_toArray, List.map_cons, List.map_nil]); first | done | rfl | (simp only [List.length_drop, List.length_take]; rfl)) ?_; (with_reducible refine (text_Show.calls a1 t261 _ ?side1 A17.out).mono ?_); (case side1 => exact GW.below HGW.out qF); rintro e w27 ⟨rfl, hb⟩; refine ⟨_, rfl, ?_⟩; have n0_ := qM (qP qF hb); clear HB; have HB := n0_; clear n0_; (try clear hb); (try clear hb2); (try clear hk); (try clear hi)) | ((with_reducible refine gate_callee (f := 24) rfl ?_); refine goesL_ (some 48) rfl rfl Tryd.func24 (by kernel_rfl) rfl #[.string t261, .int .i64 a1] rfl (by (try simp only [List.map_toArray, List.map_cons, List.map_nil]); first | done | rfl | (simp only [List.length_drop, List.length_take]; rfl)) ?_; (with_reducible refine (text_Read.calls t261 a1 t262 t263 _ ?side1 A18.out).mono ?_); (case side1 => exact GW.below HGW.out qF); rintro e w28 ⟨rfl, hb⟩; refine ⟨_, rfl, ?_⟩; have n0_ := qM (qP qF hb); clear HB; have HB := n0_; clear n0_; (try clear hb); (try clear hb2); (try clear hk); (try clear hi)) | (go_at_call 10; (with_reducible refine (arboristlaw01_knows.calls kj7  t265 _ ?side1 A26.out).mono ?_); (case side1 => exact GW.below HGW.out qF); rintro e w29 ⟨rfl, hb⟩; have n0_ := qM (qP qF hb); clear HB; have HB := n0_; clear n0_; (try clear hb); (try clear hb2); (try clear hk); (try clear hi)))
        (go_ret); (exact ⟨qE, qF⟩)
       ·rw [if_neg c25] at H
        (have c25b0 : (t263 == 0) = false := beq_eq_false_iff_ne.mpr c25); (have c25b1 : (t263 != 0) = true := bne_iff_ne.mpr c25); (obtain rfl := Option.some.inj H)
        go_wp2_with (first | ((with_reducible refine gate_callee (f := 26) rfl ?_); refine goesL_ (some 46) rfl rfl Tryd.func26 (by kernel_rfl) rfl #[.int .i64 a1] rfl (by (try simp only [List.map_toArray, List.map_cons, List.map_nil]); first | done | rfl | (simp only [List.length_drop, List.length_take]; rfl)) ?_; (with_reducible refine (text_Show.calls a1 t261 _ ?side1 A17.out).mono ?_); (case side1 => exact GW.below HGW.out qF); rintro e w30 ⟨rfl, hb⟩; refine ⟨_, rfl, ?_⟩; have n0_ := qM (qP qF hb); clear HB; have HB := n0_; clear n0_; (try clear hb); (try clear hb2); (try clear hk); (try clear hi)) | ((with_reducible refine gate_callee (f := 24) rfl ?_); refine goesL_ (some 48) rfl rfl Tryd.func24 (by kernel_rfl) rfl #[.string t261, .int .i64 a1] rfl (by (try simp only [List.map_toArray, List.map_cons, List.map_nil]); first | done | rfl | (simp only [List.length_drop, List.length_take]; rfl)) ?_; (with_reducible refine (text_Read.calls t261 a1 t262 t263 _ ?side1 A18.out).mono ?_); (case side1 => exact GW.below HGW.out qF); rintro e w31 ⟨rfl, hb⟩; refine ⟨_, rfl, ?_⟩; have n0_ := qM (qP qF hb); clear HB; have HB := n0_; clear n0_; (try clear hb); (try clear hb2); (try clear hk); (try clear hi)))
        (go_ret); (exact ⟨qE, qF⟩)
      ·rw [if_neg c24] at H
       (have c24b0 : (t262 == a1) = false := beq_eq_false_iff_ne.mpr c24); (have c24b1 : (t262 != a1) = true := bne_iff_ne.mpr c24); (obtain rfl := Option.some.inj H)
       go_wp2_with (first | ((with_reducible refine gate_callee (f := 26) rfl ?_); refine goesL_ (some 46) rfl rfl Tryd.func26 (by kernel_rfl) rfl #[.int .i64 a1] rfl (by (try simp only [List.map_toArray, List.map_cons, List.map_nil]); first | done | rfl | (simp only [List.length_drop, List.length_take]; rfl)) ?_; (with_reducible refine (text_Show.calls a1 t261 _ ?side1 A17.out).mono ?_); (case side1 => exact GW.below HGW.out qF); rintro e w32 ⟨rfl, hb⟩; refine ⟨_, rfl, ?_⟩; have n0_ := qM (qP qF hb); clear HB; have HB := n0_; clear n0_; (try clear hb); (try clear hb2); (try clear hk); (try clear hi)) | ((with_reducible refine gate_callee (f := 24) rfl ?_); refine goesL_ (some 48) rfl rfl Tryd.func24 (by kernel_rfl) rfl #[.string t261, .int .i64 a1] rfl (by (try simp only [List.map_toArray, List.map_cons, List.map_nil]); first | done | rfl | (simp only [List.length_drop, List.length_take]; rfl)) ?_; (with_reducible refine (text_Read.calls t261 a1 t262 t263 _ ?side1 A18.out).mono ?_); (case side1 => exact GW.below HGW.out qF); rintro e w33 ⟨rfl, hb⟩; refine ⟨_, rfl, ?_⟩; have n0_ := qM (qP qF hb); clear HB; have HB := n0_; clear n0_; (try clear hb); (try clear hb2); (try clear hk); (try clear hi)))
       (go_ret); (exact ⟨qE, qF⟩)
 ·replace c5 := Bool.eq_false_iff.mpr c5
  subst c5; (have H1 : ((arboristlaw01_knows.f k).bind fun t254 => (some t254)) = some r := by rw [if_neg (show ¬ (false = true) by decide)] at H; exact H); clear H; (have H := H1); clear H1; (replace H := Option.bind_eq_some_iff.mp H); (obtain ⟨t254, A340, H⟩ := H); (replace H : (some t254) = some r := H); (have A34 := qM A340); clear A340; (obtain rfl := Option.some.inj H); (go_enter Tryd.func8, Tryd.ntmps8)
  go_wp2_with (first | ((with_reducible refine gate_callee (f := 9) rfl ?_); refine goesL_ (some 14) rfl rfl Tryd.func9 (by kernel_rfl) rfl #[.string a0] rfl (by (try simp only [List.map_toArray, List.map_cons, List.map_nil]); first | done | rfl | (simp only [List.length_drop, List.length_take]; rfl)) ?_; (with_reducible refine (arboristlaw01_few.calls a0 false _ A4.out).mono ?_); rintro e w' ⟨rfl, ⟨nd, rfl⟩⟩; refine ⟨_, rfl, ?_⟩) | ((with_reducible refine gate_callee (f := 10) rfl ?_); refine goesL_ (some 16) rfl rfl Tryd.func10 (by kernel_rfl) rfl #[] rfl (by (try simp only [List.map_toArray, List.map_cons, List.map_nil]); first | done | rfl | (simp only [List.length_drop, List.length_take]; rfl)) ?_; (with_reducible refine (arboristlaw01_knows.calls k  t254 _ ?side1 A34.out).mono ?_); (case side1 => exact GW.below HGW.out qF); rintro e w35 ⟨rfl, hb⟩; refine ⟨_, rfl, ?_⟩; have n0_ := qM (qP qF hb); clear HB; have HB := n0_; clear n0_; (try clear hb); (try clear hb2); (try clear hk); (try clear hi)))
  (go_ret); (exact ⟨qE, qF⟩)
end Go.Proofs.YtlpkkkkgbnoiiaaDoor.H
end
section
namespace Go.Proofs.YtlpkkkkgbnoiiaaDoor.H
open Go.RowKit Go.Proofs.YtlpkkkkgbnoiiaaDoorW.PrintWords Go.Proofs.YtlpkkkkgbnoiiaaDoorW.PrintLast Go.Proofs.YtlpkkkkgbnoiiaaDoorW.PrintMore
set_option linter.unusedVariables false
set_option linter.unusedSimpArgs false
theorem nxt (i : Nat) (h : i ≤ 4294967295) : wrap64 ((i : Int) + 1) = ((i + 1 : Nat) : Int) := (congrArg wrap64 (by push_cast; rfl)).trans (wrap_nat (i + 1) (by omega))
theorem u64_id (n : Nat) (h : n < 18446744073709551616) : IntKind.u64.wrap (n : Int) = (n : Int) := by rw [IntKind.wrap_u64]; omega
theorem pow18 {i : Nat} (h : i ≤ 18) : 10 ^ i ≤ 1000000000000000000 := Nat.le_trans (Nat.pow_le_pow_right (by decide) h) (by decide)
theorem rread_l1 (l : List UInt8) (hd : ∀ c ∈ l, 48 ≤ c.toNat ∧ c.toNat ≤ 57) (h19 : l.length ≤ 19) (a1 : Int) (h0 : 0 ≤ a1) (h1 : a1 ≤ 9223372036854775807) : ∀ (r : List UInt8) (i acc : Nat), l.drop i = r → i ≤ l.length → acc < 10 ^ i →
    Ends (fun k => arboristref01_Read.l1 k (ba l) a1 (acc : Int) (i : Int)) (if (valL acc r : Int) > a1 then (0, 2) else ((valL acc r : Int), 0)) := by
  have hz : (ba l).size = l.length := ba_size l
  have hua : IntKind.u64.wrap a1 = a1 := by rw [IntKind.wrap_u64]; omega
  intro r
  induction r with
  | nil =>
    intro i acc hr hi ha
    have := drop_nil hr
    refine Ends.step (fun k => arboristref01_Read.l1.eq_2 ..) (Ends.neg (by omega) ?_)
    rw [hua]
    show Ends _ (if (acc : Int) > a1 then (0, 2) else ((acc : Int), 0))
    by_cases q : (acc : Int) > a1
    · exact (Ends.pos q (Ends.const _)).val (by rw [if_pos q])
    · exact (Ends.neg q (Ends.const _)).val (by rw [if_neg q, wrap_id (by omega) (by omega)])
  | cons c r ih =>
    intro i acc hr hi ha
    obtain ⟨hlt, hr2, _⟩ := drop_cons hr
    obtain ⟨hb1, hb2⟩ := bt_ba hr
    have hc := hd c (List.mem_of_mem_drop (by rw [hr]; exact List.mem_cons_self))
    have hp := pow18 (show i ≤ 18 by omega)
    have hps : 10 ^ (i + 1) = 10 ^ i * 10 := Nat.pow_succ ..
    refine Ends.step (fun k => arboristref01_Read.l1.eq_2 ..) (Ends.pos (by omega) (Ends.pos (by omega) ?_))
    have e1 : IntKind.u64.wrap (IntKind.u64.wrap (10 * (acc : Int)) + (bt (ba l) (i : Int) - 48) % 256) = ((acc * 10 + (c.toNat - 48) : Nat) : Int) := by
      rw [hb2, IntKind.wrap_u64, IntKind.wrap_u64]; omega
    rw [e1, nxt i (by omega)]
    exact ih (i + 1) (acc * 10 + (c.toNat - 48)) hr2 hlt (by rw [hps]; omega)
theorem rread_l0 (l : List UInt8) (hl : l.length ≤ 1000000) (a1 : Int) (v : Int × Int) : ∀ (r : List UInt8) (i : Nat), l.drop i = r → i ≤ l.length → (r.all digB1 = true → Ends (fun k => arboristref01_Read.l0 k (ba l) a1 (l.length : Int)) v) → (r.all digB1 = false → v = (0, 3)) →
    Ends (fun k => arboristref01_Read.l0 k (ba l) a1 (i : Int)) v := by
  have hz : (ba l).size = l.length := ba_size l
  intro r
  induction r with
  | nil =>
    intro i hr hi h1 h2
    have := drop_nil hr
    obtain rfl : i = l.length := by omega
    exact h1 rfl
  | cons c r ih =>
    intro i hr hi h1 h2
    obtain ⟨hlt, hr2, _⟩ := drop_cons hr
    obtain ⟨hb1, hb2⟩ := bt_ba hr
    refine Ends.step (fun k => arboristref01_Read.l0.eq_2 ..) (Ends.pos (by omega) (Ends.pos (by omega) ?_))
    rw [hb2, nxt i (by omega)]
    rw [List.all_cons] at h1 h2
    by_cases d1 : c.toNat < 48
    · have hn : digB1 c = false := by simp [digB1]; omega
      exact Ends.pos (by omega) ((Ends.const _).val (h2 (by rw [hn, Bool.false_and])).symm)
    refine Ends.neg (by omega) ?_
    by_cases d2 : c.toNat > 57
    · have hn : digB1 c = false := by simp [digB1]; omega
      exact Ends.pos (by omega) ((Ends.const _).val (h2 (by rw [hn, Bool.false_and])).symm)
    have hy : digB1 c = true := by simp [digB1]; omega
    rw [hy, Bool.true_and] at h1 h2
    exact Ends.neg (by omega) (ih (i + 1) hr2 hlt h1 h2)
theorem rread_ends (l : List UInt8) (hl : l.length ≤ 1000000) (a1 : Int) (w1 : (Lit.int .i64 a1).wf = true) : Ends (fun k => arboristref01_Read.f k (ba l) a1) (readV l a1) := by
  have hz : (ba l).size = l.length := ba_size l
  obtain ⟨b1, b2⟩ := wf_i64 w1
  have hj : ∀ (c : UInt8) (t : List UInt8), l = c :: t → ¬ (1 < l.length ∧ l.headD 0 = 48) → Ends (fun k => arboristref01_Read.j0 k (ba l) a1 false) (readV l a1) := fun c t hlc hh => by
    have hne : l ≠ [] := by rw [hlc]; simp
    have hv : readV l a1 = if l.all digB1 = true then (if 9223372036854775807 < valL 0 l then (0, 2) else if (valL 0 l : Int) > a1 then (0, 2) else ((valL 0 l : Int), 0)) else (0, 3) := by
      conv => lhs; unfold readV
      rw [if_neg hne, if_neg hh]
    refine Ends.step (fun k => arboristref01_Read.j0.eq_2 ..) (Ends.neg (by simp) ?_)
    refine rread_l0 l hl a1 _ l 0 rfl (by omega) (fun ha => ?_) (fun ha => by rw [hv, if_neg (by rw [ha]; simp)])
    rw [hv, if_pos ha]
    have hd := all_digs ha
    have hj2 : Ends (fun k => arboristref01_Read.j2 k (ba l) a1 true) (0, 2) := Ends.step (fun k => arboristref01_Read.j2.eq_2 ..) (Ends.pos rfl (Ends.const _))
    refine Ends.step (fun k => arboristref01_Read.l0.eq_2 ..) (Ends.neg (by omega) ?_)
    by_cases hneg : a1 < 0
    · refine Ends.pos hneg (hj2.val ?_)
      rw [if_pos (show (valL 0 l : Int) > a1 by omega)]
      split <;> rfl
    refine Ends.neg hneg ?_
    by_cases h19 : l.length ≤ 19
    · rw [decide_eq_false (show ¬ (((ba l).size : Int) > 19) by omega)]
      refine Ends.step (fun k => arboristref01_Read.j2.eq_2 ..) (Ends.neg (by simp) ?_)
      refine (rread_l1 l hd h19 a1 (by omega) b2 l 0 0 rfl (by omega) (by decide)).val ?_
      by_cases hM : 9223372036854775807 < valL 0 l
      · rw [if_pos hM, if_pos (show (valL 0 l : Int) > a1 by omega)]
      · rw [if_neg hM]
    · rw [decide_eq_true (show ((ba l).size : Int) > 19 by omega)]
      refine hj2.val ?_
      have h1 : 1 < l.length := by omega
      have hc : 49 ≤ c.toNat := by
        have hc1 := hd c (by rw [hlc]; exact List.mem_cons_self)
        have hc2 : c.toNat ≠ 48 := fun q => hh ⟨h1, by rw [hlc]; exact UInt8.toNat_inj.1 q⟩
        omega
      have hlong := valL_long c t hc
      rw [← hlc] at hlong
      have ht : 19 ≤ t.length := by rw [hlc, List.length_cons] at h19; omega
      have hp : 10 ^ 19 ≤ 10 ^ t.length := Nat.pow_le_pow_right (by decide) ht
      have h10 : (10 : Nat) ^ 19 = 10000000000000000000 := by decide
      rw [h10] at hp
      rw [if_pos (show 9223372036854775807 < valL 0 l by omega)]
  unfold arboristref01_Read.f
  have hj0 : Ends (fun k => arboristref01_Read.j0 k (ba l) a1 true) (0, 3) := Ends.step (fun k => arboristref01_Read.j0.eq_2 ..) (Ends.pos rfl (Ends.const _))
  rcases hlc : l with _ | ⟨c, t⟩
  · exact Ends.pos (by simp [ByteArray.toList_eq, ba]) (by rw [hlc] at hj0; exact hj0)
  · have hbt := (bt_ba (l := c :: t) (i := 0) rfl).2
    have hbt : bt (ba (c :: t)) 0 = (c.toNat : Int) := hbt
    have hz2 : (ba (c :: t)).size = t.length + 1 := ba_size (c :: t)
    refine Ends.neg (by simp [ByteArray.toList_eq, ba]) (Ends.pos (by omega) ?_)
    rw [hbt]
    rw [hlc] at hj hj0
    by_cases h48 : c.toNat = 48
    · refine Ends.pos (by omega) ?_
      by_cases h1 : 0 < t.length
      · rw [decide_eq_true (show ((ba (c :: t)).size : Int) > 1 by omega)]
        refine hj0.val ?_
        unfold readV
        rw [if_neg (by simp), if_pos ⟨by rw [List.length_cons]; omega, UInt8.toNat_inj.1 h48⟩]
      · rw [decide_eq_false (show ¬ (((ba (c :: t)).size : Int) > 1) by omega)]
        exact hj c t rfl (fun q => by have := q.1; rw [List.length_cons] at this; omega)
    · exact Ends.neg (by omega) (hj c t rfl (fun q => h48 (by have h2 : c = 48 := q.2; rw [h2]; rfl)))
theorem str_dig (q : Nat) (hq : q < 10) : strOfNums [IntKind.u64.wrap (48 + (q : Int)) % 256] = ba [UInt8.ofNat (48 + q)] := by
  have e : IntKind.u64.wrap (48 + (q : Int)) % 256 = ((48 + q : Nat) : Int) := by rw [IntKind.wrap_u64]; omega
  rw [e]
  rfl
theorem rshow_l0 (h : List UInt8) (hh : h.length ≤ 10) : ∀ (u : Nat) (s : List UInt8), u < 18446744073709551616 → s.length ≤ 1000 → Ends (fun k => arboristref01_Show.l0 k (u : Int) (ba h) (ba s)) (ba (h ++ Lib.decDigits u ++ s)) := by
  have key : ∀ (d u : Nat), u < 10 ^ (d + 1) → ∀ (s : List UInt8), u < 18446744073709551616 → s.length + d ≤ 100000 → Ends (fun k => arboristref01_Show.l0 k (u : Int) (ba h) (ba s)) (ba (h ++ Lib.decDigits u ++ s)) := by
    have fin : ∀ (u : Nat), u < 10 → ∀ (s : List UInt8), s.length ≤ 100000 → Ends (fun k => arboristref01_Show.l0 k (u : Int) (ba h) (ba s)) (ba (h ++ Lib.decDigits u ++ s)) := fun u hu s hs => by
      refine Ends.step (fun k => arboristref01_Show.l0.eq_2 ..) (Ends.neg (by omega) ?_)
      simp only [Option.bind_some]
      rw [str_dig u hu, ba_app, ba_app, Lib.decDigits, dif_pos hu]
      exact Ends.pos (by rw [ba_size, ba_size]; simp; omega) (Ends.pos (by rw [ba_size, ba_size]; simp; omega) (Ends.const _))
    intro d
    induction d with
    | zero => intro u hu s h1 h2; exact fin u (by simpa using hu) s (by omega)
    | succ d ih =>
      intro u hu s h1 h2
      by_cases h10 : u < 10
      · exact fin u h10 s (by omega)
      have e1 : Int.tdiv (u : Int) 10 = ((u / 10 : Nat) : Int) := by rw [Int.tdiv_eq_ediv_of_nonneg (by omega)]; omega
      have e2 : Int.tmod (u : Int) 10 = ((u % 10 : Nat) : Int) := by rw [Int.tmod_eq_emod_of_nonneg (by omega)]; omega
      have hp : 10 ^ (d + 1 + 1) = 10 ^ (d + 1) * 10 := Nat.pow_succ ..
      have g := ih (u / 10) (by rw [hp] at hu; omega) (UInt8.ofNat (48 + u % 10) :: s) (by omega) (by rw [List.length_cons]; omega)
      refine Ends.step (fun k => arboristref01_Show.l0.eq_2 ..) (Ends.pos (by omega) ?_)
      simp only [Option.bind_some]
      rw [e1, e2, str_dig (u % 10) (by omega), u64_id (u / 10) (by omega), ba_app]
      refine Ends.pos (by rw [ba_size, ba_size]; simp; omega) ?_
      refine g.val ?_
      conv => rhs; rw [Lib.decDigits, dif_neg h10]
      simp
  intro u s hu hs
  exact key 19 u (by omega) s hu (by omega)
theorem rshow_ends (n : Int) (h0 : -9223372036854775808 ≤ n) (h1 : n ≤ 9223372036854775807) : Ends (fun k => arboristref01_Show.f k n) (ba (Lib.itoa n)) := by
  unfold arboristref01_Show.f
  have hj : ∀ (h : List UInt8), h.length ≤ 10 → ∀ u : Nat, u < 18446744073709551616 → Ends (fun k => arboristref01_Show.j0 k (u : Int) (ba h)) (ba (h ++ Lib.decDigits u)) := fun h hh u hu => by
    refine Ends.step (fun k => arboristref01_Show.j0.eq_2 ..) ?_
    have := rshow_l0 h hh u [] hu (by simp)
    rw [List.append_nil] at this
    exact this
  by_cases hn : n < 0
  · refine Ends.pos hn ?_
    have e : IntKind.u64.wrap (-(IntKind.u64.wrap n)) = ((n.natAbs : Nat) : Int) := by rw [IntKind.wrap_u64, IntKind.wrap_u64]; omega
    rw [e]
    refine (hj [45] (by decide) n.natAbs (by omega)).val ?_
    unfold Lib.itoa
    rw [if_pos hn]; rfl
  · refine Ends.neg hn ?_
    have e : IntKind.u64.wrap n = ((n.toNat : Nat) : Int) := by rw [IntKind.wrap_u64]; omega
    rw [e]
    refine (hj [] (by decide) n.toNat (by omega)).val ?_
    unfold Lib.itoa
    rw [if_neg hn]; rfl
theorem knows1_ends : Ends (fun k => (arboristlaw01_knows.f k).bind fun t => some t) true := Ends.bind (g := fun _ t => some t) (Ends.of_mono (fun k => arboristlaw01_knows.mono k) ⟨30, knows_true⟩) (Ends.const _)
theorem Pure.TextNumbers (a0 : ByteArray) (a1 a2 : Int) (w0 : a0.size ≤ reachBytes) (w1 : (Lit.int .i64 a1).wf = true) (w2 : (Lit.int .i64 a2).wf = true) : ∃ k, arboristlaw01_TextNumbers.f k a0 a1 a2 = some true := by
  refine Ends.get (g := fun k => arboristlaw01_TextNumbers.f k a0 a1 a2) ?_
  obtain ⟨b1, b2⟩ := wf_i64 w1
  unfold arboristlaw01_TextNumbers.f arboristlaw01_few.f
  refine Ends.bind0 rfl ?_
  by_cases h3 : a0.size ≤ 300
  case neg => exact Ends.neg (by simp; omega) knows1_ends
  refine Ends.pos (by simp; omega) ?_
  have hl : a0.data.toList.length = a0.size := Array.length_toList
  have hr := rread_ends a0.data.toList (by omega) a2 w2
  rw [← ba_of a0] at hr
  have hread : text_Read.f a0 a2 = some (readV a0.data.toList a2) := by unfold text_Read.f; rw [if_pos (by omega)]
  have hshow : text_Show.f a1 = some (ba (Lib.itoa a1)) := by unfold text_Show.f; rw [if_pos ⟨b1, b2⟩]; rfl
  have hlen := Lib.itoa_length_le a1 b1 b2
  refine Ends.bind0 hread (Ends.bind hr (Ends.pos rfl (Ends.pos rfl (Ends.bind0 hshow (Ends.bind (rshow_ends a1 b1 b2) ?_)))))
  rw [show ((ba (Lib.itoa a1)).toList != (ba (Lib.itoa a1)).toList) = false by simp]
  refine Ends.step (fun k => arboristlaw01_TextNumbers.j0.eq_2 ..) (Ends.neg (by simp) (Ends.bind0 hshow ?_))
  have hback : text_Read.f (ba (Lib.itoa a1)) a1 = some (readV (Lib.itoa a1) a1) := by unfold text_Read.f; rw [if_pos (by rw [ba_size]; omega), ba_list]
  refine Ends.bind0 hback ?_
  by_cases hn : a1 < 0
  · exact Ends.pos hn knows1_ends
  refine Ends.neg hn ?_
  obtain ⟨u, rfl⟩ := Int.eq_ofNat_of_zero_le (show 0 ≤ a1 by omega)
  rw [Lib.itoa_nonneg, read_dec u (by omega)]
  exact Ends.pos rfl (Ends.pos rfl knows1_ends)
end Go.Proofs.YtlpkkkkgbnoiiaaDoor.H
end
section
namespace Go.Proofs.YtlpkkkkgbnoiiaaDoor.H.textNumbers
open Go.ChangeShapes Go.WideShapes Go.ChangeAt Go.RowKit Go.Proofs.YtlpkkkkgbnoiiaaDoorW.PrintWords Go.Proofs.YtlpkkkkgbnoiiaaDoorW.PrintLast Go.Proofs.YtlpkkkkgbnoiiaaDoorW.PrintMore
open Go.ChangeMaps (open_string shut_string)
set_option linter.unusedVariables false
set_option linter.unusedSimpArgs false
theorem own : ownKnob Tryd.prog.godebug = none := by kernel_rfl
theorem laidOut : laidOutB Tryd.prog = true := by kernel_rfl
noncomputable def low : Nat := (World.holding Tryd.prog default ⟨#[], #[], []⟩).heap.size
noncomputable def laidWorld (os : Os) : World := { World.holding Tryd.prog os ⟨#[.cells #[.string ⟨#[118, 97, 108, 117, 101, 32, 111, 117, 116, 32, 111, 102, 32, 114, 97, 110, 103, 101]⟩] 116, .cells #[.string ⟨#[105, 110, 118, 97, 108, 105, 100, 32, 115, 121, 110, 116, 97, 120]⟩] 116], #[], []⟩ with heap := ((((((((World.holding Tryd.prog os ⟨#[.cells #[.string ⟨#[118, 97, 108, 117, 101, 32, 111, 117, 116, 32, 111, 102, 32, 114, 97, 110, 103, 101]⟩] 116, .cells #[.string ⟨#[105, 110, 118, 97, 108, 105, 100, 32, 115, 121, 110, 116, 97, 120]⟩] 116], #[], []⟩).heap).modify 6 (fun | .cells _ t frozen => .cells (([0, 1, 28, 2, 29, 14, 24, 3, 30, 22, 20, 15, 25, 17, 4, 8, 31, 27, 13, 23, 21, 19, 16, 7, 26, 12, 18, 6, 11, 5, 10, 9] : List Int).map fun z => Value.int .u8 z).toArray t frozen | o => o)).modify 7 (fun | .cells _ t frozen => .cells (([0, 1, 56, 2, 57, 49, 28, 3, 61, 58, 42, 50, 38, 29, 17, 4, 62, 47, 59, 36, 45, 43, 51, 22, 53, 39, 33, 30, 24, 18, 12, 5, 63, 55, 48, 27, 60, 41, 37, 16, 46, 35, 44, 21, 52, 32, 23, 11, 54, 26, 40, 15, 34, 20, 31, 10, 25, 14, 19, 9, 13, 8, 7, 6] : List Int).map fun z => Value.int .u8 z).toArray t frozen | o => o)).modify 5 (fun | .cells _ t frozen => .cells (([1, 10, 100, 1000, 10000, 100000, 1000000, 10000000, 100000000, 1000000000, 10000000000, 100000000000, 1000000000000, 10000000000000, 100000000000000, 1000000000000000, 10000000000000000, 100000000000000000, 1000000000000000000, 10000000000000000000] : List Int).map fun z => Value.int .u64 z).toArray t frozen | o => o)).modify 1 (fun | .cells _ t frozen => .cells (([128, 191, 160, 191, 128, 159, 144, 191, 128, 143, 0, 0, 0, 0, 0, 0, 0, 0, 0, 0, 0, 0, 0, 0, 0, 0, 0, 0, 0, 0, 0, 0] : List Int).map fun z => Value.int .u8 z).toArray t frozen | o => o)).modify 4 (fun | .cells _ t frozen => .cells #[.iface 114 (.pointer (some ⟨low + 0, 0, none⟩))] t frozen | o => o)).modify 3 (fun | .cells _ t frozen => .cells #[.iface 114 (.pointer (some ⟨low + 1, 0, none⟩))] t frozen | o => o)).modify 0 (fun | .cells _ t frozen => .cells (([240, 240, 240, 240, 240, 240, 240, 240, 240, 240, 240, 240, 240, 240, 240, 240, 240, 240, 240, 240, 240, 240, 240, 240, 240, 240, 240, 240, 240, 240, 240, 240, 240, 240, 240, 240, 240, 240, 240, 240, 240, 240, 240, 240, 240, 240, 240, 240, 240, 240, 240, 240, 240, 240, 240, 240, 240, 240, 240, 240, 240, 240, 240, 240, 240, 240, 240, 240, 240, 240, 240, 240, 240, 240, 240, 240, 240, 240, 240, 240, 240, 240, 240, 240, 240, 240, 240, 240, 240, 240, 240, 240, 240, 240, 240, 240, 240, 240, 240, 240, 240, 240, 240, 240, 240, 240, 240, 240, 240, 240, 240, 240, 240, 240, 240, 240, 240, 240, 240, 240, 240, 240, 240, 240, 240, 240, 240, 240, 241, 241, 241, 241, 241, 241, 241, 241, 241, 241, 241, 241, 241, 241, 241, 241, 241, 241, 241, 241, 241, 241, 241, 241, 241, 241, 241, 241, 241, 241, 241, 241, 241, 241, 241, 241, 241, 241, 241, 241, 241, 241, 241, 241, 241, 241, 241, 241, 241, 241, 241, 241, 241, 241, 241, 241, 241, 241, 241, 241, 241, 241, 241, 241, 241, 241, 2, 2, 2, 2, 2, 2, 2, 2, 2, 2, 2, 2, 2, 2, 2, 2, 2, 2, 2, 2, 2, 2, 2, 2, 2, 2, 2, 2, 2, 2, 19, 3, 3, 3, 3, 3, 3, 3, 3, 3, 3, 3, 3, 35, 3, 3, 52, 4, 4, 4, 68, 241, 241, 241, 241, 241, 241, 241, 241, 241, 241, 241] : List Int).map fun z => Value.int .u8 z).toArray t frozen | o => o) }
set_option maxRecDepth 100000 in
theorem laid_met (os : Os) (args : Array Value) : laidMet Tryd.prog Rows.textNumbersRow.laid ((laidWorld os).forCall (fun _ _ => 0) ⟨#[], args, []⟩).memory := laidMet_of_run' 8 (by kernel_rfl) (by kernel_rfl)
set_option maxRecDepth 100000 in
theorem witness_row (os : Os) {H : Type} (enc : TypeId × Value → H) :
    (OpenSpec.ofChange Rows.textNumbersSpec).preRow enc Tryd.prog Tryd.f8 Rows.textNumbersRow.domain false Rows.textNumbersRow.laid ((laidWorld os).forCall (fun _ _ => 0) ⟨#[], #[.string ⟨#[]⟩, .int .i64 0, .int .i64 0], []⟩).memory #[.string ⟨#[]⟩, .int .i64 0, .int .i64 0] := by
  have hw : (DataW.whole enc Tryd.prog ((laidWorld os).forCall (fun _ _ => 0) ⟨#[], #[.string ⟨#[]⟩, .int .i64 0, .int .i64 0], []⟩).memory Tryd.f8.params.toList (OpenSpec.ofChange Rows.textNumbersSpec).vars false (#[.string ⟨#[]⟩, .int .i64 0, .int .i64 0] : Array Value).toList 8).map (fun x => (x.1, x.2.1)) =
      some ([.lit (.string []), .lit (.int .i64 0), .lit (.int .i64 0)], []) := by kernel_rfl
  obtain ⟨⟨x1, x2, x3⟩, hx, hx1⟩ := Option.map_eq_some_iff.1 hw
  simp only [Prod.mk.injEq] at hx1
  obtain ⟨rfl, rfl⟩ := hx1
  exact OpenSpec.preRow_of_cond 8 hx (by kernel_rfl) (fun k hk => by cases hk) (by kernel_rfl) (laid_met os _)
set_option maxRecDepth 100000 in
set_option maxHeartbeats 2000000 in
theorem lifted (os : Os) (started : os.Started) (H : Type) (enc : TypeId × Value → H) (F : Stop.Interp) :
    ReturnsInHanded {} Tryd.checked os 8 .any ((OpenSpec.ofChange Rows.textNumbersSpec).preRow enc Tryd.prog Tryd.f8 Rows.textNumbersRow.domain false Rows.textNumbersRow.laid) (((OpenSpec.ofChange Rows.textNumbersSpec).at F).post enc Tryd.prog Tryd.f8 false true false false) := by
  refine returnsInHanded_of_row (C := Tryd.checked) (s := (OpenSpec.ofChange Rows.textNumbersSpec)) own started (by kernel_rfl) Tryd.func8
    (witness_row_at (enc := enc) (C := Tryd.checked) false (laidWorld os) #[.string ⟨#[]⟩, .int .i64 0, .int .i64 0] rfl (by kernel_rfl) (by kernel_rfl) (by kernel_rfl) (witness_row os enc)) ?_
  intro W base args ds gs before hval0 hW _ hcond0 hsz0 hL hsh _
  have hsz : (DataW.weightsEach Tryd.prog (Tryd.f8.params.toList ++ (OpenSpec.ofChange Rows.textNumbersSpec).bare.plain.varTypes Tryd.prog) (ds ++ gs)).all (· ≤ reachBytes) = true := hsz0
  have hval : ∀ (j : Nat) t v, Tryd.f8.params[j]? = some t → args[j]? = some v → Value.okWide Tryd.prog W .any base t v := hval0
  have hW' := hW
  obtain ⟨p, q, hA0, hV0, rfl, _, _⟩ := hW
  have hA : DataW.TrodAll enc Tryd.prog W 0 (fun _ => true) true Tryd.f8.params.toList args.toList ds p := hA0
  rw [Tryd.params8] at hA hval hsz
  obtain ⟨v0, vs0, d0, ds0, p0, q0, hargs, rfl, rfl, h0, r0⟩ := trodAll_cons hA
  obtain ⟨v1, vs1, d1, ds1, p1, q1, rfl, rfl, rfl, h1, r1⟩ := trodAll_cons r0
  obtain ⟨v2, vs2, d2, ds2, p2, q2, rfl, rfl, rfl, h2, r2⟩ := trodAll_cons r1
  obtain ⟨rfl, rfl, rfl⟩ := trodAll_nil r2
  obtain rfl : args = #[v0, v1, v2] := by cases args; simp_all
  obtain ⟨rfl, rfl⟩ := trodVars_none hV0
  have hlt : ∀ x ∈ p0 ++ (p1 ++ (p2 ++ ([]))), x.block < W.heap.size := fun x hx => by simpa using hW'.lt x (by simpa using hx)
  obtain ⟨a0, rfl, rfl, rfl, y0⟩ := open_string Tryd.underlying9 (hval 0 9 v0 rfl rfl) h0
  have w0 : a0.size ≤ reachBytes := by
    have z := sized_string hsz (j := 0) (t := 9) rfl rfl
    rw [Array.length_toList] at z
    exact z
  obtain ⟨a1, rfl, rfl, rfl, w1⟩ := open_int Tryd.underlying3 (hval 1 3 v1 rfl rfl) h1
  obtain ⟨a2, rfl, rfl, rfl, w2⟩ := open_int Tryd.underlying3 (hval 2 3 v2 rfl rfl) h2
  have hgw : GW W := gw_of hsh (Go.Lib.laidMet.reads hL (List.Mem.tail _ (List.Mem.tail _ (List.Mem.head _)))) (Go.Lib.laidMet.reads hL (List.Mem.tail _ (List.Mem.tail _ (List.Mem.tail _ (List.Mem.tail _ (List.Mem.tail _ (List.Mem.tail _ (List.Mem.head _)))))))) (Go.Lib.laidMet.reads hL (List.Mem.tail _ (List.Mem.tail _ (List.Mem.tail _ (List.Mem.head _))))) (Go.Lib.laidMet.reads hL (List.Mem.tail _ (List.Mem.head _))) (err_of_laid (hL.tail.tail.tail.tail))
  clear hcond0 hsz0 hA0 hV0 hval0
  obtain ⟨k, hf⟩ := Pure.TextNumbers a0 a1 a2 w0 w1 w2
  refine (arboristlaw01_TextNumbers.calls k a0 a1 a2 true W hgw  hf).mono fun e W' ⟨he, bel⟩ => ?_
  subst he
  exact ⟨_, rfl, _, _, _, [], _, [], hW', trodAll_mk1 (shut_bool Tryd.underlying4 _), (trodAll_cons_mk (shut_string Tryd.underlying9 y0) (trodAll_cons_mk (shut_int Tryd.underlying3 w1) (trodAll_cons_mk (shut_int Tryd.underlying3 w2) trodAll_mk0))), rfl, bel.frame _, fun h => by cases h⟩
set_option maxRecDepth 100000 in
theorem holds : Rows.textNumbersRow.holds Tryd.pinned (OpenSpec.ofChange Rows.textNumbersSpec) :=
  OpenClaim.holds_of_cond 8 Tryd.f8 rfl rfl rfl rfl rfl rfl rfl ⟨rfl, rfl, rfl, rfl, rfl⟩ rfl rfl rfl rfl rfl (by kernel_rfl) Tryd.func8 (by kernel_rfl)
    (of_decide_eq_true (by kernel_rfl)) (by unfold Func.isWrapper; first | (rw [if_pos (by decide +kernel)]; kernel_rfl) | (rw [if_neg (by decide +kernel)]; exact ⟨rfl, rfl⟩))
    (fun os started H enc _ F0 => by rw [OpenClaim.pre_eq_preRow]; exact lifted os started H enc F0)
set_option maxRecDepth 100000 in
theorem card : Rows.TextNumbersCardSaid :=
  Claim7.holds_tied_plain_at .later [] [.data, .data, .data, .data, .sentinel, .sentinel, .pinned] true (true, "0b77c90d436c12ae215bfe48c6d0b7fadb20b1335639e9f4dd3ac8050ecbc431") true
    holds (fun _ h => by cases h) (by kernel_rfl) (fun _ h => by cases h) textNumbers_row_tie rfl ⟨rfl, rfl⟩ (by kernel_rfl) rfl
    (fun f fn hf hfn => by
      obtain rfl : f = 8 := Option.some.inj ((show Tryd.prog.funcNamed "arborist/arboristlaw01.TextNumbers" = some 8 by kernel_rfl).symm.trans hf) |>.symm
      obtain rfl : fn = Tryd.f8 := (Option.some.inj (Tryd.func8.symm.trans hfn)).symm
      exact ⟨by kernel_rfl, fun j t ht => by
        rw [Tryd.params8] at ht
        rcases j with _ | j
        · obtain rfl : t = 9 := by simpa using ht.symm
          kernel_rfl
        rcases j with _ | j
        · obtain rfl : t = 3 := by simpa using ht.symm
          kernel_rfl
        rcases j with _ | j
        · obtain rfl : t = 3 := by simpa using ht.symm
          kernel_rfl
        · simp at ht⟩)
    (by kernel_rfl)
#print axioms card
end Go.Proofs.YtlpkkkkgbnoiiaaDoor.H.textNumbers
namespace Go.Proofs.YtlpkkkkgbnoiiaaDoor
theorem textNumbers_card : Rows.TextNumbersCardSaid := H.textNumbers.card
#print axioms textNumbers_card
end Go.Proofs.YtlpkkkkgbnoiiaaDoor
end
