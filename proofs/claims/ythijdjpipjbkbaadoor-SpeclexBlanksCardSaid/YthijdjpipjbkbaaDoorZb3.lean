/- A part (3 of 5) of this proof: A space or a comment line that is inserted before a token which follows no # does not change the tokens that Scan returns, for every text, number and choice that the guards let in. -/
import Derived.Shelf.Lays
import Derived.Shelf.Strings.BuilderX
import Derived.KernelRfl
import Derived.Test.YthijdjpipjbkbaaDoorProg
import Derived.Shelf.Strconv.Itoa3
import Derived.Shelf.Unicode.DecodeAny
import Derived.Shelf.Spec.TrailingZeros
import Derived.Test.YthijdjpipjbkbaaDoorRows
import Derived.Lib.LaidU8T
import Derived.Lib.LaidTab
import Derived.Shelf.Vars
import Derived.Laws.IdiomStrings
import Derived.Laws.BitsLemmas
import Derived.Shelf.Strings.BuilderK
import Derived.Shelf.Strings.BuilderRune
import Derived.Shelf.Strings.OnBuilder
import Derived.Laws.RangeString
import Derived.Laws.RangeAny
import Derived.RangeFuncNested
import Derived.RangeFuncBound
import Derived.RangeFuncCalls
import Derived.RangeFuncLeaves
import Derived.RangeFuncBox
import Derived.Shelf.Abstract
import Derived.Shelf.RegionOpen
import Derived.WalkKit
import Derived.OwnWalkIn
import Derived.TacticsInMore
import Derived.LoopNIn
import Derived.LoopIn
import Derived.Deep.WholeRow
import Derived.Laws.ResultCell
import Derived.Lib.SlBytesConst
import Derived.Deep.LoopGhost
import Derived.Shelf.Small.Strs
import Derived.Shelf.Strings.FuncGrows
import Derived.Shelf.Strings.SlTrimAscii
import Derived.Shelf.Strings.Prefix
import Derived.Shelf.Strings.Shaped
import Derived.Stop.FmtQuoteTie
import Derived.Lib.MapLaws
import Derived.Test.YthijdjpipjbkbaaDoorZb2
section
namespace Go.Proofs
open Go.Shelf
set_option maxRecDepth 100000
def Tryd.ren : Go.Shelf.Ren := ⟨fun | 0 => 0 | 1 => 1 | 2 => 2 | 99 => 52 | 119 => 72 | 120 => 77 | 129 => 89 | 137 => 16 | 145 => 53 | 151 => 66 | 152 => 76 | 160 => 27 | 166 => 21 | 167 => 20 | 168 => 56 | 169 => 23 | 173 => 61 | 197 => 54 | 206 => 68 | 217 => 25 | 219 => 78 | 220 => 69 | 224 => 85 | 225 => 86 | 227 => 47 | 228 => 65 | 231 => 45 | 232 => 46 | 233 => 48 | 234 => 49 | 235 => 50 | 236 => 51 | 240 => 38 | 242 => 73 | 246 => 75 | 260 => 70 | 266 => 42 | 267 => 87 | 271 => 67 | 276 => 60 | 278 => 79 | 283 => 81 | 284 => 82 | 285 => 83 | 286 => 84 | 314 => 93 | 315 => 64 | 317 => 88 | 318 => 90 | 319 => 91 | 320 => 92 | 337 => 94 | 338 => 95 | 347 => 96 | 348 => 97 | 349 => 98 | 350 => 99 | 351 => 100 | 352 => 101 | 353 => 102 | 354 => 103 | 355 => 104 | 356 => 105 | 357 => 106 | 358 => 107 | 359 => 108 | 360 => 109 | 361 => 110 | 362 => 111 | 366 => 112 | 367 => 121 | n => n, fun | 0 => 0 | 1 => 1 | 2 => 2 | 3 => 3 | 4 => 4 | 5 => 5 | 6 => 6 | 7 => 7 | 8 => 8 | 9 => 9 | 10 => 10 | 11 => 11 | 12 => 12 | 13 => 13 | 14 => 14 | 15 => 15 | 16 => 16 | 17 => 17 | 18 => 18 | 19 => 19 | 20 => 20 | 21 => 21 | 22 => 77 | 23 => 59 | 27 => 100 | 31 => 87 | 37 => 47 | 40 => 69 | 41 => 40 | 46 => 101 | 47 => 119 | 48 => 106 | 51 => 105 | 52 => 122 | 53 => 109 | 54 => 110 | 55 => 41 | 59 => 78 | 60 => 79 | 63 => 93 | 64 => 99 | 69 => 55 | 70 => 46 | 71 => 48 | 72 => 49 | 74 => 50 | 75 => 51 | 76 => 53 | 77 => 54 | 78 => 52 | 79 => 84 | 80 => 56 | 81 => 130 | 83 => 107 | 84 => 90 | 103 => 58 | 104 => 33 | 105 => 80 | 106 => 81 | 111 => 118 | 114 => 114 | 115 => 71 | 116 => 72 | 117 => 73 | 118 => 74 | 119 => 38 | 122 => 70 | 123 => 75 | 124 => 76 | 126 => 96 | 127 => 67 | 137 => 102 | 138 => 103 | 139 => 104 | 146 => 120 | 151 => 121 | 155 => 92 | 164 => 88 | 165 => 89 | 171 => 108 | 172 => 111 | 173 => 112 | 174 => 113 | 211 => 115 | 212 => 116 | 213 => 117 | 229 => 94 | 232 => 123 | 233 => 124 | 238 => 125 | 239 => 126 | 240 => 127 | 241 => 128 | 242 => 129 | 243 => 131 | 244 => 132 | 245 => 133 | 246 => 134 | 247 => 135 | 248 => 136 | 249 => 137 | n => n, fun | 1 => 1 | 3 => 2 | 4 => 3 | 17 => 4 | 18 => 5 | 19 => 6 | n => n⟩
theorem Tryd.ly166 : Go.Proofs.Lays.n166 Tryd.prog Tryd.ren := {
  mixed := by kernel_rfl
  f166 := Tryd.func21.trans (congrArg some (by kernel_rfl))
  f240 := Tryd.func38.trans (congrArg some (by kernel_rfl))
  f276 := Tryd.func60.trans (congrArg some (by kernel_rfl))
  t0 := Tryd.underlying0
  a0 := Tryd.isAgg0
  z0 := Tryd.sizeOf0
  v0 := Tryd.zeroValue0
  t3 := Tryd.underlying3
  a3 := Tryd.isAgg3
  z3 := Tryd.sizeOf3
  v3 := Tryd.zeroValue3
  t4 := Tryd.underlying4
  a4 := Tryd.isAgg4
  z4 := Tryd.sizeOf4
  v4 := Tryd.zeroValue4
  t9 := Tryd.underlying9
  a9 := Tryd.isAgg9
  z9 := Tryd.sizeOf9
  v9 := Tryd.zeroValue9
  t20 := Tryd.underlying20
  a20 := Tryd.isAgg20
  z20 := Tryd.sizeOf20
  v20 := Tryd.zeroValue20
  t37 := Tryd.underlying47
  a37 := Tryd.isAgg47
  z37 := Tryd.sizeOf47
  v37 := Tryd.zeroValue47
  t70 := Tryd.underlying46
  a70 := Tryd.isAgg46
  z70 := Tryd.sizeOf46
  v70 := Tryd.zeroValue46
  t72 := Tryd.underlying49
  a72 := Tryd.isAgg49
  z72 := Tryd.sizeOf49
  v72 := Tryd.zeroValue49
  t75 := Tryd.underlying51
  a75 := Tryd.isAgg51
  z75 := Tryd.sizeOf51
  v75 := Tryd.zeroValue51
  t164 := Tryd.underlying88
  a164 := Tryd.isAgg88
  z164 := Tryd.sizeOf88
  v164 := Tryd.zeroValue88 }
theorem Tryd.ly167 : Go.Proofs.Lays.n167 Tryd.prog Tryd.ren := {
  mixed := by kernel_rfl
  f167 := Tryd.func20.trans (congrArg some (by kernel_rfl))
  f240 := Tryd.func38.trans (congrArg some (by kernel_rfl))
  f276 := Tryd.func60.trans (congrArg some (by kernel_rfl))
  t0 := Tryd.underlying0
  a0 := Tryd.isAgg0
  z0 := Tryd.sizeOf0
  v0 := Tryd.zeroValue0
  t4 := Tryd.underlying4
  a4 := Tryd.isAgg4
  z4 := Tryd.sizeOf4
  v4 := Tryd.zeroValue4
  t5 := Tryd.underlying5
  a5 := Tryd.isAgg5
  z5 := Tryd.sizeOf5
  v5 := Tryd.zeroValue5
  t9 := Tryd.underlying9
  a9 := Tryd.isAgg9
  z9 := Tryd.sizeOf9
  v9 := Tryd.zeroValue9
  t20 := Tryd.underlying20
  a20 := Tryd.isAgg20
  z20 := Tryd.sizeOf20
  v20 := Tryd.zeroValue20
  t37 := Tryd.underlying47
  a37 := Tryd.isAgg47
  z37 := Tryd.sizeOf47
  v37 := Tryd.zeroValue47
  t70 := Tryd.underlying46
  a70 := Tryd.isAgg46
  z70 := Tryd.sizeOf46
  v70 := Tryd.zeroValue46
  t72 := Tryd.underlying49
  a72 := Tryd.isAgg49
  z72 := Tryd.sizeOf49
  v72 := Tryd.zeroValue49
  t75 := Tryd.underlying51
  a75 := Tryd.isAgg51
  z75 := Tryd.sizeOf51
  v75 := Tryd.zeroValue51
  t164 := Tryd.underlying88
  a164 := Tryd.isAgg88
  z164 := Tryd.sizeOf88
  v164 := Tryd.zeroValue88 }
theorem Tryd.ly168 : Go.Proofs.Lays.n168 Tryd.prog Tryd.ren := {
  mixed := by kernel_rfl
  f168 := Tryd.func56.trans (congrArg some (by kernel_rfl))
  f240 := Tryd.func38.trans (congrArg some (by kernel_rfl))
  f242 := Tryd.func73.trans (congrArg some (by kernel_rfl))
  f276 := Tryd.func60.trans (congrArg some (by kernel_rfl))
  f278 := Tryd.func79.trans (congrArg some (by kernel_rfl))
  t0 := Tryd.underlying0
  a0 := Tryd.isAgg0
  z0 := Tryd.sizeOf0
  v0 := Tryd.zeroValue0
  t3 := Tryd.underlying3
  a3 := Tryd.isAgg3
  z3 := Tryd.sizeOf3
  v3 := Tryd.zeroValue3
  t4 := Tryd.underlying4
  a4 := Tryd.isAgg4
  z4 := Tryd.sizeOf4
  v4 := Tryd.zeroValue4
  t5 := Tryd.underlying5
  a5 := Tryd.isAgg5
  z5 := Tryd.sizeOf5
  v5 := Tryd.zeroValue5
  t9 := Tryd.underlying9
  a9 := Tryd.isAgg9
  z9 := Tryd.sizeOf9
  v9 := Tryd.zeroValue9
  t20 := Tryd.underlying20
  a20 := Tryd.isAgg20
  z20 := Tryd.sizeOf20
  v20 := Tryd.zeroValue20
  t21 := Tryd.underlying21
  a21 := Tryd.isAgg21
  z21 := Tryd.sizeOf21
  v21 := Tryd.zeroValue21
  t37 := Tryd.underlying47
  a37 := Tryd.isAgg47
  z37 := Tryd.sizeOf47
  v37 := Tryd.zeroValue47
  t46 := Tryd.underlying101
  a46 := Tryd.isAgg101
  z46 := Tryd.sizeOf101
  v46 := Tryd.zeroValue101
  t51 := Tryd.underlying105
  a51 := Tryd.isAgg105
  z51 := Tryd.sizeOf105
  v51 := Tryd.zeroValue105
  t70 := Tryd.underlying46
  a70 := Tryd.isAgg46
  z70 := Tryd.sizeOf46
  v70 := Tryd.zeroValue46
  t72 := Tryd.underlying49
  a72 := Tryd.isAgg49
  z72 := Tryd.sizeOf49
  v72 := Tryd.zeroValue49
  t75 := Tryd.underlying51
  a75 := Tryd.isAgg51
  z75 := Tryd.sizeOf51
  v75 := Tryd.zeroValue51
  t164 := Tryd.underlying88
  a164 := Tryd.isAgg88
  z164 := Tryd.sizeOf88
  v164 := Tryd.zeroValue88 }
theorem Tryd.ly169 : Go.Proofs.Lays.n169 Tryd.prog Tryd.ren := {
  mixed := by kernel_rfl
  f169 := Tryd.func23.trans (congrArg some (by kernel_rfl))
  t0 := Tryd.underlying0
  a0 := Tryd.isAgg0
  z0 := Tryd.sizeOf0
  v0 := Tryd.zeroValue0
  t3 := Tryd.underlying3
  a3 := Tryd.isAgg3
  z3 := Tryd.sizeOf3
  v3 := Tryd.zeroValue3
  t9 := Tryd.underlying9
  a9 := Tryd.isAgg9
  z9 := Tryd.sizeOf9
  v9 := Tryd.zeroValue9
  t37 := Tryd.underlying47
  a37 := Tryd.isAgg47
  z37 := Tryd.sizeOf47
  v37 := Tryd.zeroValue47
  t70 := Tryd.underlying46
  a70 := Tryd.isAgg46
  z70 := Tryd.sizeOf46
  v70 := Tryd.zeroValue46
  t72 := Tryd.underlying49
  a72 := Tryd.isAgg49
  z72 := Tryd.sizeOf49
  v72 := Tryd.zeroValue49
  t127 := Tryd.underlying67
  a127 := Tryd.isAgg67
  z127 := Tryd.sizeOf67
  v127 := Tryd.zeroValue67 }
theorem Tryd.ly137 : Go.Proofs.Lays.n137 Tryd.prog Tryd.ren := {
  mixed := by kernel_rfl
  f137 := Tryd.func16.trans (congrArg some (by kernel_rfl))
  f217 := Tryd.func25.trans (congrArg some (by kernel_rfl))
  f266 := Tryd.func42.trans (congrArg some (by kernel_rfl))
  t3 := Tryd.underlying3
  a3 := Tryd.isAgg3
  z3 := Tryd.sizeOf3
  v3 := Tryd.zeroValue3
  t5 := Tryd.underlying5
  a5 := Tryd.isAgg5
  z5 := Tryd.sizeOf5
  v5 := Tryd.zeroValue5
  t9 := Tryd.underlying9
  a9 := Tryd.isAgg9
  z9 := Tryd.sizeOf9
  v9 := Tryd.zeroValue9 }
theorem Tryd.ly99 : Go.Proofs.Lays.n99 Tryd.prog Tryd.ren := {
  mixed := by kernel_rfl
  f99 := Tryd.func52.trans (congrArg some (by kernel_rfl))
  f206 := Tryd.func68.trans (congrArg some (by kernel_rfl))
  t3 := Tryd.underlying3
  a3 := Tryd.isAgg3
  z3 := Tryd.sizeOf3
  v3 := Tryd.zeroValue3
  t4 := Tryd.underlying4
  a4 := Tryd.isAgg4
  z4 := Tryd.sizeOf4
  v4 := Tryd.zeroValue4
  t9 := Tryd.underlying9
  a9 := Tryd.isAgg9
  z9 := Tryd.sizeOf9
  v9 := Tryd.zeroValue9 }
theorem Tryd.ly145 : Go.Proofs.Lays.n145 Tryd.prog Tryd.ren := {
  mixed := by kernel_rfl
  f145 := Tryd.func53.trans (congrArg some (by kernel_rfl))
  f217 := Tryd.func25.trans (congrArg some (by kernel_rfl))
  f219 := Tryd.func78.trans (congrArg some (by kernel_rfl))
  f220 := Tryd.func69.trans (congrArg some (by kernel_rfl))
  f224 := Tryd.func85.trans (congrArg some (by kernel_rfl))
  f225 := Tryd.func86.trans (congrArg some (by kernel_rfl))
  f266 := Tryd.func42.trans (congrArg some (by kernel_rfl))
  f267 := Tryd.func87.trans (congrArg some (by kernel_rfl))
  f314 := Tryd.func93.trans (congrArg some (by kernel_rfl))
  t3 := Tryd.underlying3
  a3 := Tryd.isAgg3
  z3 := Tryd.sizeOf3
  v3 := Tryd.zeroValue3
  t4 := Tryd.underlying4
  a4 := Tryd.isAgg4
  z4 := Tryd.sizeOf4
  v4 := Tryd.zeroValue4
  t5 := Tryd.underlying5
  a5 := Tryd.isAgg5
  z5 := Tryd.sizeOf5
  v5 := Tryd.zeroValue5
  t9 := Tryd.underlying9
  a9 := Tryd.isAgg9
  z9 := Tryd.sizeOf9
  v9 := Tryd.zeroValue9
  t46 := Tryd.underlying101
  a46 := Tryd.isAgg101
  z46 := Tryd.sizeOf101
  v46 := Tryd.zeroValue101
  t51 := Tryd.underlying105
  a51 := Tryd.isAgg105
  z51 := Tryd.sizeOf105
  v51 := Tryd.zeroValue105
  t59 := Tryd.underlying78
  a59 := Tryd.isAgg78
  z59 := Tryd.sizeOf78
  v59 := Tryd.zeroValue78
  t146 := Tryd.underlying120
  a146 := Tryd.isAgg120
  z146 := Tryd.sizeOf120
  v146 := Tryd.zeroValue120
  g1 := by kernel_rfl }
theorem Tryd.ly197 : Go.Proofs.Lays.n197 Tryd.prog Tryd.ren := {
  mixed := by kernel_rfl
  f197 := Tryd.func54.trans (congrArg some (by kernel_rfl))
  f260 := Tryd.func70.trans (congrArg some (by kernel_rfl))
  t0 := Tryd.underlying0
  a0 := Tryd.isAgg0
  z0 := Tryd.sizeOf0
  v0 := Tryd.zeroValue0
  t3 := Tryd.underlying3
  a3 := Tryd.isAgg3
  z3 := Tryd.sizeOf3
  v3 := Tryd.zeroValue3
  t4 := Tryd.underlying4
  a4 := Tryd.isAgg4
  z4 := Tryd.sizeOf4
  v4 := Tryd.zeroValue4
  t5 := Tryd.underlying5
  a5 := Tryd.isAgg5
  z5 := Tryd.sizeOf5
  v5 := Tryd.zeroValue5
  t9 := Tryd.underlying9
  a9 := Tryd.isAgg9
  z9 := Tryd.sizeOf9
  v9 := Tryd.zeroValue9
  t21 := Tryd.underlying21
  a21 := Tryd.isAgg21
  z21 := Tryd.sizeOf21
  v21 := Tryd.zeroValue21
  t46 := Tryd.underlying101
  a46 := Tryd.isAgg101
  z46 := Tryd.sizeOf101
  v46 := Tryd.zeroValue101
  t105 := Tryd.underlying80
  a105 := Tryd.isAgg80
  z105 := Tryd.sizeOf80
  v105 := Tryd.zeroValue80
  t119 := Tryd.underlying38
  a119 := Tryd.isAgg38
  z119 := Tryd.sizeOf38
  t138 := Tryd.underlying103
  a138 := Tryd.isAgg103
  z138 := Tryd.sizeOf103
  v138 := Tryd.zeroValue103
  t139 := Tryd.underlying104
  a139 := Tryd.isAgg104
  z139 := Tryd.sizeOf104
  v139 := Tryd.zeroValue104
  g3 := by kernel_rfl
  g4 := by kernel_rfl }
theorem Tryd.ly160 : Go.Proofs.Lays.n160 Tryd.prog Tryd.ren := {
  mixed := by kernel_rfl
  f119 := Tryd.func72.trans (congrArg some (by kernel_rfl))
  f120 := Tryd.func77.trans (congrArg some (by kernel_rfl))
  f137 := Tryd.func16.trans (congrArg some (by kernel_rfl))
  f151 := Tryd.func66.trans (congrArg some (by kernel_rfl))
  f152 := Tryd.func76.trans (congrArg some (by kernel_rfl))
  f160 := Tryd.func27.trans (congrArg some (by kernel_rfl))
  f197 := Tryd.func54.trans (congrArg some (by kernel_rfl))
  f217 := Tryd.func25.trans (congrArg some (by kernel_rfl))
  f224 := Tryd.func85.trans (congrArg some (by kernel_rfl))
  f225 := Tryd.func86.trans (congrArg some (by kernel_rfl))
  f227 := Tryd.func47.trans (congrArg some (by kernel_rfl))
  f228 := Tryd.func65.trans (congrArg some (by kernel_rfl))
  f231 := Tryd.func45.trans (congrArg some (by kernel_rfl))
  f232 := Tryd.func46.trans (congrArg some (by kernel_rfl))
  f233 := Tryd.func48.trans (congrArg some (by kernel_rfl))
  f234 := Tryd.func49.trans (congrArg some (by kernel_rfl))
  f235 := Tryd.func50.trans (congrArg some (by kernel_rfl))
  f236 := Tryd.func51.trans (congrArg some (by kernel_rfl))
  f260 := Tryd.func70.trans (congrArg some (by kernel_rfl))
  f266 := Tryd.func42.trans (congrArg some (by kernel_rfl))
  f271 := Tryd.func67.trans (congrArg some (by kernel_rfl))
  t0 := Tryd.underlying0
  a0 := Tryd.isAgg0
  z0 := Tryd.sizeOf0
  v0 := Tryd.zeroValue0
  t3 := Tryd.underlying3
  a3 := Tryd.isAgg3
  z3 := Tryd.sizeOf3
  v3 := Tryd.zeroValue3
  t4 := Tryd.underlying4
  a4 := Tryd.isAgg4
  z4 := Tryd.sizeOf4
  v4 := Tryd.zeroValue4
  t5 := Tryd.underlying5
  a5 := Tryd.isAgg5
  z5 := Tryd.sizeOf5
  v5 := Tryd.zeroValue5
  t9 := Tryd.underlying9
  a9 := Tryd.isAgg9
  z9 := Tryd.sizeOf9
  v9 := Tryd.zeroValue9
  t21 := Tryd.underlying21
  a21 := Tryd.isAgg21
  z21 := Tryd.sizeOf21
  v21 := Tryd.zeroValue21
  t46 := Tryd.underlying101
  a46 := Tryd.isAgg101
  z46 := Tryd.sizeOf101
  v46 := Tryd.zeroValue101
  t105 := Tryd.underlying80
  a105 := Tryd.isAgg80
  z105 := Tryd.sizeOf80
  v105 := Tryd.zeroValue80
  t116 := Tryd.underlying72
  a116 := Tryd.isAgg72
  z116 := Tryd.sizeOf72
  t117 := Tryd.underlying73
  a117 := Tryd.isAgg73
  z117 := Tryd.sizeOf73
  v117 := Tryd.zeroValue73
  t119 := Tryd.underlying38
  a119 := Tryd.isAgg38
  z119 := Tryd.sizeOf38
  t124 := Tryd.underlying76
  a124 := Tryd.isAgg76
  z124 := Tryd.sizeOf76
  v124 := Tryd.zeroValue76
  t138 := Tryd.underlying103
  a138 := Tryd.isAgg103
  z138 := Tryd.sizeOf103
  v138 := Tryd.zeroValue103
  t139 := Tryd.underlying104
  a139 := Tryd.isAgg104
  z139 := Tryd.sizeOf104
  v139 := Tryd.zeroValue104
  g3 := by kernel_rfl
  g4 := by kernel_rfl }
theorem Tryd.ly315 : Go.Proofs.Lays.n315 Tryd.prog Tryd.ren := {
  mixed := by kernel_rfl
  f315 := Tryd.func64.trans (congrArg some (by kernel_rfl))
  t0 := Tryd.underlying0
  a0 := Tryd.isAgg0
  z0 := Tryd.sizeOf0
  v0 := Tryd.zeroValue0
  t3 := Tryd.underlying3
  a3 := Tryd.isAgg3
  z3 := Tryd.sizeOf3
  v3 := Tryd.zeroValue3
  t4 := Tryd.underlying4
  a4 := Tryd.isAgg4
  z4 := Tryd.sizeOf4
  v4 := Tryd.zeroValue4
  t9 := Tryd.underlying9
  a9 := Tryd.isAgg9
  z9 := Tryd.sizeOf9
  v9 := Tryd.zeroValue9
  t21 := Tryd.underlying21
  a21 := Tryd.isAgg21
  z21 := Tryd.sizeOf21
  v21 := Tryd.zeroValue21
  t40 := Tryd.underlying69
  a40 := Tryd.isAgg69
  z40 := Tryd.sizeOf69
  v40 := Tryd.zeroValue69 }
theorem Tryd.bx : Builder.Extra Tryd.prog Tryd.ren := {
  sizeBuilder := by kernel_rfl
  liesBuilder := by kernel_rfl
  t5 := Tryd.underlying5
  a5 := Tryd.isAgg5
  z5 := Tryd.sizeOf5
  v5 := Tryd.zeroValue5
  infoByte := by kernel_rfl
  cellsByte := by kernel_rfl
  sizeByte := by kernel_rfl
  neB5 := by decide }
end Go.Proofs
end
section
namespace Go.Proofs.YthijdjpipjbkbaaDoor.H
open Go.RowKit Go.Proofs.YthijdjpipjbkbaaDoorW.PrintWords Go.Proofs.YthijdjpipjbkbaaDoorW.PrintLast Go.Proofs.YthijdjpipjbkbaaDoorW.PrintMore
open Go.Maps
set_option linter.unusedVariables false
set_option linter.unusedSimpArgs false
def wordsL : List ByteArray := [⟨#[37, 109, 111, 100, 101]⟩, ⟨#[37, 116, 111, 107, 101, 110]⟩, ⟨#[37, 115, 107, 105, 112]⟩, ⟨#[37, 119, 111, 114, 100]⟩, ⟨#[37, 108, 101, 102, 116]⟩, ⟨#[37, 114, 105, 103, 104, 116]⟩, ⟨#[37, 110, 111, 110]⟩, ⟨#[37, 111, 110, 108, 121]⟩, ⟨#[37, 115, 116, 97, 114, 116]⟩, ⟨#[37, 112, 114, 101, 99]⟩]
def wordAt (i : Nat) : ByteArray := wordsL.getD i ⟨#[]⟩
structure GW (w : World) : Prop where
  pow : Lib.TabIs Tryd.prog w "internal/strconv.uint64pow10" .u64 Lib.pow10Tab
  u8 : Lib.Utf8Tabs 2 3 w
  db : TabAt 6 Lib.deBruijn64tab w
  ml : ∃ m : Int, w.cell? ⟨1, 0, none⟩ = some (.int .i64 m)
  words : ∀ i, i < 10 → w.cell? ⟨0, i, none⟩ = some (.string (wordAt i))
theorem var_below {w W : World} {n : String} {g : Nat} (hg : Tryd.prog.globalNamed n = some g) {x : Array Value} (h : w.var? Tryd.prog n = some x) (hb : Below w.heap.size w W) : W.var? Tryd.prog n = some x := by
  unfold World.var? at h ⊢
  rw [hg] at h ⊢
  simp only [Option.bind_some] at h ⊢
  have hlt : g < w.heap.size := by
    rcases Nat.lt_or_ge g w.heap.size with h' | h'
    · exact h'
    · rw [Array.getElem?_eq_none h'] at h; cases h
  rw [hb.block g hlt]
  exact h
theorem cell_below {w W : World} {a : Addr} {v : Value} (h : w.cell? a = some v) (hb : Below w.heap.size w W) : W.cell? a = some v :=
  (hb.cell (World.block_lt_of_cell? w _ h)).trans h
theorem GW.below {w W : World} (h : GW w) (hb : Below w.heap.size w W) : GW W :=
  ⟨var_below (g := 4) (by kernel_rfl) h.pow hb,
   ⟨fun c hc => cell_below (h.u8.1 c hc) hb, fun i hi => ⟨cell_below (h.u8.2 i hi).1 hb, cell_below (h.u8.2 i hi).2 hb⟩⟩,
   fun j hj => cell_below (h.db j hj) hb, h.ml.imp fun m hm => cell_below hm hb, fun i hi => cell_below (h.words i hi) hb⟩
end Go.Proofs.YthijdjpipjbkbaaDoor.H
end
section
namespace Go.Proofs.YthijdjpipjbkbaaDoor.H
open Go.RowKit Go.Lib
theorem u8types : U8Types Tryd.prog Tryd.ren := { t5 := Tryd.underlying5, t119 := Tryd.underlying38, t138 := Tryd.underlying103, t139 := Tryd.underlying104 }
theorem u8extra : U8Extra Tryd.prog Tryd.ren := { n3 := by kernel_rfl, n4 := by kernel_rfl, y3 := by kernel_rfl, y4 := by kernel_rfl, c5 := by kernel_rfl, c119 := by kernel_rfl, c138 := by kernel_rfl }
theorem tab_of_reads {P : Program} {W : World} {name : String} {k : IntKind} {zs : List Int} {g : Nat} {t e : TypeId} {n : Nat}
    (hg : P.globalNamed name = some g) (hty : (P.globals[g]?).map (·.type) = some t) (ht : P.underlying t = some (.array n e)) (he : P.underlying e = some (.int k)) (hce : P.cellsOf e = 1) (hct : P.cellsOf t = n)
    (h : VarReads P W name (Lib.tabData k zs)) : Lib.TabIs P W name k zs := by
  obtain ⟨g', t', cs, fuel, p, hg', ht', hvar, hd⟩ := h
  obtain rfl := Option.some.inj (hg.symm.trans hg')
  obtain rfl := Option.some.inj (hty.symm.trans ht')
  unfold Lib.TabIs
  rw [hvar, ← Lib.cells_of_tab ht he hce hct hd]
theorem words_of {W : World} (h : VarReads Tryd.prog W "arborist/speclex.words" Rows.laid_arborist_speclex_words) (i : Nat) (hi : i < 10) : W.cell? ⟨0, i, none⟩ = some (.string (wordAt i)) := by
  obtain ⟨g, t, cs, fuel, p, hg, hty, hvar, hd⟩ := h
  obtain rfl := Option.some.inj (show some 0 = some g from (show Tryd.prog.globalNamed "arborist/speclex.words" = some 0 by kernel_rfl).symm.trans hg)
  obtain rfl := Option.some.inj (show some 85 = some t from (show (Tryd.prog.globals[0]?).map (·.type) = some 85 by kernel_rfl).symm.trans hty)
  obtain ⟨fuel', d, q, hdi, he⟩ := array_elem (n := 10) (e := 9) Tryd.underlying85 hd i hi
  rw [show Tryd.prog.cellsOf 9 = 1 by kernel_rfl] at he
  obtain ⟨s, hcs, hx, _⟩ := DataW.trod_string Tryd.underlying9 he
  have e0 := congrArg (·[0]?) hcs
  simp only [List.getElem?_take, List.getElem?_drop] at e0
  rw [World.var?_cell hg hvar i, ← Array.getElem?_toList]
  have e1 : cs.toList[i]? = some (.string s) := by simpa using e0
  rw [e1]
  have e2 : d = .lit (.string s.data.toList) := congrArg Prod.fst hx
  rw [e2] at hdi
  have H : ∀ i : Fin 10, ([[37, 109, 111, 100, 101], [37, 116, 111, 107, 101, 110], [37, 115, 107, 105, 112], [37, 119, 111, 114, 100], [37, 108, 101, 102, 116], [37, 114, 105, 103, 104, 116], [37, 110, 111, 110], [37, 111, 110, 108, 121], [37, 115, 116, 97, 114, 116], [37, 112, 114, 101, 99]] : List (List UInt8))[(i : Nat)]? = some (wordAt i).data.toList := by decide
  have H2 : (([[37, 109, 111, 100, 101], [37, 116, 111, 107, 101, 110], [37, 115, 107, 105, 112], [37, 119, 111, 114, 100], [37, 108, 101, 102, 116], [37, 114, 105, 103, 104, 116], [37, 110, 111, 110], [37, 111, 110, 108, 121], [37, 115, 116, 97, 114, 116], [37, 112, 114, 101, 99]] : List (List UInt8)).map fun l => (DataW.lit (.string l) : DataW Unit))[i]? = some (.lit (.string s.data.toList)) := hdi
  rw [List.getElem?_map, H ⟨i, hi⟩] at H2
  simp only [Option.map_some, Option.some.injEq, DataW.lit.injEq, Lit.string.injEq] at H2
  exact congrArg (fun x => some (Value.string x)) (ba_ext H2.symm)
theorem gw_of {W : World} (hsh : W.ShapedOpen Tryd.prog) (h1 : VarReads Tryd.prog W "internal/strconv.uint64pow10" (Lib.tabData .u64 Lib.pow10Tab)) (h2 : VarReads Tryd.prog W "unicode/utf8.first" Lib.firstData) (h3 : VarReads Tryd.prog W "unicode/utf8.acceptRanges" Lib.acceptData)
    (h4 : VarReads Tryd.prog W "math/bits.deBruijn64tab" (Lib.tabData .u8 ((deBruijn64tab.map fun n : Nat => (n : Int)) : List Int)))
    (h5 : VarReads Tryd.prog W "arborist/speclex.words" Rows.laid_arborist_speclex_words) : GW W := by
  refine ⟨tab_of_reads (g := 4) (by kernel_rfl) (by kernel_rfl) Tryd.underlying116 Tryd.underlying109 (by kernel_rfl) (by kernel_rfl) h1, utf8Tabs_of_readsT u8types u8extra h2 h3, ?_, ?_, ?_⟩
  · intro j hj
    have h := tab_of_reads (g := 6) (by kernel_rfl) (by kernel_rfl) Tryd.underlying124 Tryd.underlying5 (by kernel_rfl) (by kernel_rfl) h4
    have := Lib.TabIs.cell h (g := 6) (by kernel_rfl) j (by simpa using hj)
    rw [this]
    simp [List.getD_eq_getElem?_getD, List.getElem?_map, List.getElem?_eq_getElem hj]
  · exact cell_of_shapedOpen_int hsh (of_decide_eq_true (by kernel_rfl)) (t := 3) (zero := #[.int .i64 0]) (by kernel_rfl) rfl (by kernel_rfl) (by kernel_rfl) Tryd.underlying3
  · exact words_of h5
end Go.Proofs.YthijdjpipjbkbaaDoor.H
end
section
namespace Go.Proofs.YthijdjpipjbkbaaDoor.H
open Go.RowKit Go.Proofs.YthijdjpipjbkbaaDoorW.PrintWords Go.Proofs.YthijdjpipjbkbaaDoorW.PrintLast Go.Proofs.YthijdjpipjbkbaaDoorW.PrintMore
open Go.Maps
set_option linter.unusedVariables false
set_option linter.unusedSimpArgs false
def text_Runes.f (a0 : ByteArray) : Option (List S65) := if a0.size ≤ 4398046511104 then some (runesL a0) else none
theorem decodeGo_tail (s : ByteArray) (pos : Nat) (h : pos < s.size) : Lib.decodeGo (s.extract pos s.size) = Utf8.decode s pos := by
  unfold Lib.decodeGo
  rw [if_neg (by simp; omega), Lib.tail_decode]
  rfl
def RunesRel (s : ByteArray) (w : World) (v : Value) (wr : World) : Prop :=
  ∃ (pos fuel : Nat) (acc : List S65), acc ++ runesFrom s fuel pos = runesL s ∧ s.size ≤ pos + fuel ∧ pos ≤ s.size ∧ acc.length ≤ pos ∧ wr.heap[w.heap.size]? = some (.stringIter s pos) ∧ Below w.heap.size w wr ∧ Kd.R k65 65 wr w.heap.size (fun k => k ≠ w.heap.size) v acc
theorem RunesRel.next {s : ByteArray} {w wr W : World} {pos f : Nat} {acc : List S65} {v : Value} (hp : pos < s.size) (hL : acc ++ runesFrom s (f + 1) pos = runesL s) (hfu : s.size ≤ pos + (f + 1)) (hal : acc.length ≤ pos)
    (hit0 : wr.heap[w.heap.size]? = some (.stringIter s pos)) (hit : W.heap[w.heap.size]? = some (.stringIter s (pos + (Utf8.decode s pos).2))) (hB : Below w.heap.size w W)
    (hR : Kd.R k65 65 W w.heap.size (fun k => k ≠ w.heap.size) v (acc ++ [⟨((Utf8.decode s pos).1 : Int), (pos : Int), ((Utf8.decode s pos).2 : Int)⟩])) :
    RunesRel s w v W ∧ s.size - W.iterPos w.heap.size < s.size - wr.iterPos w.heap.size := by
  have h1 := rune_w_pos s pos
  have h2 := rune_w_le s pos hp
  refine ⟨⟨_, f, _, ?_, by omega, by omega, by simp; omega, hit, hB, hR⟩, ?_⟩
  · rw [← hL]; simp [runesFrom, hp]
  · simp only [World.iterPos, hit0, hit]; omega
set_option maxRecDepth 100000 in
set_option maxHeartbeats 2000000 in
theorem text_Runes.calls (a0 : ByteArray) (r : List (S65)) (w : World) (hgw : GW w) (h : text_Runes.f a0 = some r) :
    Calls Tryd.prog 39 #[.string a0] w fun e w' => ∃ v0_ : Value, e = .returned (v0_) ∧ Kd.R k65 65 w' w.heap.size (fun _ => True) v0_ r ∧ Below w.heap.size w w' := by
  unfold text_Runes.f at h
  split at h
  case isFalse => cases h
  rename_i hs
  have HP := Aside0.mk (Option.some.inj h)
  have HS := Aside0.mk hs
  have HGW := Aside0.mk hgw
  clear h hs hgw
  have hu := Tryd.underlying65
  go_enter Tryd.func39, Tryd.ntmps39
  go_wp2
  go_loopw [3] (fun v wr => RunesRel a0 w v wr) (fun _ wr => a0.size - wr.iterPos w.heap.size)
  case atStart => exact ⟨0, a0.size, [], rfl, by omega, by omega, by simp, World.iter_heap w a0 0, below_alloc (Below.refl _ _) _, Kd.R_nil _ _ _ _ _⟩
  case round =>
    obtain ⟨pos, fuel, acc, hL, hfu, hpo, hal, hit, hB, hR⟩ := hrel
    by_cases hp : pos < a0.size
    · have hnx : ∀ ty, (Instr.next (.pointer (some ⟨w.heap.size, 0, none⟩)) true ty).run Tryd.prog wr = _ := fun ty => Lib.run_next_any_at wr w.heap.size a0 pos ty hit hp
      have hd1 := decode_le a0 pos
      have hit2 := Lib.iterAt_heap wr w.heap.size a0 pos (pos + (Utf8.decode a0 pos).2) hit
      have hb2 := Lib.below_iterAt hB (k := w.heap.size) (Nat.le_refl _) a0 (pos + (Utf8.decode a0 pos).2)
      have hr2 := Kd.R_grown hR (w1 := wr.iterAt w.heap.size a0 (pos + (Utf8.decode a0 pos).2)) (row := some w.heap.size) ⟨rfl, rfl, rfl, by rw [Lib.iterAt_size]; exact Nat.le_refl _, fun i hi hk => Lib.iterAt_other wr w.heap.size i a0 _ (fun e => hk (by rw [e]))⟩ (fun k hk e => hk (by injection e))
      have hgw2 := HGW.out.below hb2
      have hs2 := HS.out
      obtain ⟨f, rfl⟩ : ∃ f, fuel = f + 1 := ⟨fuel - 1, by omega⟩
      have HL := Aside0.mk hL
      have HIT := Aside0.mk hit
      have HIT2 := Aside0.mk hit2
      have HB2 := Aside0.mk hb2
      have HR2 := Aside0.mk hr2
      have HG2 := Aside0.mk hgw2
      have HT := Aside0.mk (decodeGo_tail a0 pos hp)
      have hpi : (pos : Int) ≤ a0.size := by omega
      clear hL hit hit2 hb2 hr2 hgw2 hB hR
      go_wp2_with (first
        | (go_at_call 54; refine (Any.utf8_DecodeRuneInString Tryd.ly197 _ _ HG2.out.u8).mono ?_; rintro e W2 ⟨rfl, hb⟩; have hT := HT.out; rw [hT]; have HB3 := Aside0.mk (below_step HB2.out hb); have HR3 := Aside0.mk (Kd.R_below HR2.out hb); have HIT3 := Aside0.mk (blk_below HIT2.out hb); clear hT hb)
        | ((with_reducible refine gate_builtin (b := .append) (xs := #[.tmp 21, .tmp 26]) rfl ?_); at_builtin; refine Kd.R_append k65 (w0 := w) w.heap.size rfl (.tmp 21) (.tmp 26) 62 65 (.agg #[(.int .i32 0), (.int .i64 0), (.int .i64 0)]) 24 rfl Tryd.underlying62 info65 rfl (by decide) (by omega) u3 acc ⟨((Utf8.decode a0 pos).1 : Int), (pos : Int), ((Utf8.decode a0 pos).2 : Int)⟩ [.int .i32 ((Utf8.decode a0 pos).1 : Int), .int .i64 (pos : Int), .int .i64 ((Utf8.decode a0 pos).2 : Int)] (fun k => k ≠ w.heap.size) (fun _ => False) rfl rfl ?aP (fun _ hk => hk.elim) ?aF ?aO ?aB ?aS ?aL ?_; (case aP => exact k65_mkM _ _ _ (⟨((Utf8.decode a0 pos).1 : Int), (pos : Int), ((Utf8.decode a0 pos).2 : Int)⟩ : S65)); (case aB => exact HB3.out); (case aF => exact (fun k hk e => by have := blk_lt HIT3.out; omega)); (case aO => exact HR3.out); (case aS => exact (below_size HB3.out)); (case aL => omega); intro v121 w8 ho hb hg hat; have HIT8 := Aside0.mk (blk_grown HIT3.out hg (fun e => HR3.out.1 _ e.symm rfl)); have HB8 := Aside0.mk hb; have HR8 := Aside0.mk ho; clear ho hb hg hat))
      go_roundw
      case rel => exact (RunesRel.next hp HL.out hfu hal HIT.out HIT8.out HB8.out HR8.out).1
      case measure => exact (RunesRel.next hp HL.out hfu hal HIT.out HIT8.out HB8.out HR8.out).2
    · have hnx : ∀ ty, (Instr.next (.pointer (some ⟨w.heap.size, 0, none⟩)) true ty).run Tryd.prog wr = _ := fun ty => Lib.run_next_end_at wr w.heap.size a0 pos ty hit hp
      rw [runesFrom_end a0 fuel pos hp, List.append_nil] at hL
      have HB := Aside0.mk hB
      have HR := Aside0.mk hR
      have HL := Aside0.mk hL
      clear hit hB hR hL
      go_wp2
      go_ret
      exact ⟨_, rfl, by rw [← HP.out, ← HL.out]; exact Kd.R_mono HR.out (fun _ _ => trivial), HB.out⟩
end Go.Proofs.YthijdjpipjbkbaaDoor.H
end
section
namespace Go.Proofs.YthijdjpipjbkbaaDoor.H
open Go.RowKit Go.Proofs.YthijdjpipjbkbaaDoorW.PrintWords Go.Proofs.YthijdjpipjbkbaaDoorW.PrintLast Go.Proofs.YthijdjpipjbkbaaDoorW.PrintMore
open Go.Maps
set_option linter.unusedVariables false
set_option linter.unusedSimpArgs false
def hexD (d : Nat) : UInt8 := UInt8.ofNat (if d < 10 then 48 + d else 87 + d)
def hexL : Nat → Nat → List UInt8 → List UInt8
  | 0, u, acc => hexD (u % 16) :: acc
  | f + 1, u, acc => if 16 ≤ u then hexL f (u / 16) (hexD (u % 16) :: acc) else hexD u :: acc
set_option maxRecDepth 100000 in
set_option maxHeartbeats 1000000 in
theorem pow2_calls (w : World) : Calls Tryd.prog 91 #[.int .i64 16] w fun e w' => e = .returned (.bool true) ∧ w' = w := by
  go_enter Tryd.func91, Tryd.ntmps91
  go_wp2
  go_ret
  exact ⟨rfl, rfl⟩
set_option maxRecDepth 100000 in
set_option maxHeartbeats 1000000 in
theorem tz64_calls (w : World) (hdb : w.cell? ⟨6, 15, none⟩ = some (.int .u8 4)) : Calls Tryd.prog 95 #[.int .u64 16] w fun e w' => e = .returned (.int .i64 4) ∧ w' = w := by
  go_enter Tryd.func95, Tryd.ntmps95
  have e1 : bits BinOp.and IntKind.u64 16 (IntKind.u64.wrap (-16)) = 16 := by kernel_rfl
  have e2 : IntKind.u64.wrap (16 * 285870213051353865) = 4573923408821661840 := by kernel_rfl
  go_wp2
  go_ret
  exact ⟨rfl, rfl⟩
set_option maxRecDepth 100000 in
theorem tz_calls (w : World) (hdb : w.cell? ⟨6, 15, none⟩ = some (.int .u8 4)) : Calls Tryd.prog 92 #[.int .u64 16] w fun e w' => e = .returned (.int .i64 4) ∧ w' = w := by
  go_enter Tryd.func92, Tryd.ntmps92
  go_wp2_with (go_at_call 95; refine (tz64_calls _ hdb).mono ?_; rintro e w' ⟨rfl, rfl⟩)
  go_ret
  exact ⟨rfl, rfl⟩
def Row65 (g i : Nat) (acc : List UInt8) (w : World) : Prop :=
  ∃ cs : Array Value, w.heap[g]? = some (.cells cs 117 (0, 0)) ∧ cs.size = 65 ∧ i + acc.length = 65 ∧ (∀ j, j < 65 → ∃ c : Int, cs[j]? = some (.int .u8 c)) ∧ ∀ j (hj : j < acc.length), cs[i + j]? = some (.int .u8 (acc[j].toNat : Int))
theorem Row65.new (w : World) : Row65 w.heap.size 65 [] (w.alloc (.cells (Array.replicate 65 (.int .u8 0)) 117)) :=
  ⟨_, blk_new w _, by simp, rfl, fun j hj => ⟨0, by simp [hj]⟩, fun j hj => by simp at hj⟩
theorem Row65.cell {g i : Nat} {acc : List UInt8} {w : World} (h : Row65 g i acc w) (j : Nat) (hj : j < 65) : ∃ c : Int, w.cell? ⟨g, j, none⟩ = some (.int .u8 c) ∧ w.frozen? ⟨g, j, none⟩ = false := by
  obtain ⟨cs, hb, hs, hl, hall, hacc⟩ := h
  obtain ⟨c, hc⟩ := hall j hj
  exact ⟨c, (blk_cell hb j).trans hc, blk_frozen hb j⟩
theorem Row65.put {g i : Nat} {acc : List UInt8} {w : World} (h : Row65 g (i + 1) acc w) (c : UInt8) : Row65 g i (c :: acc) (w.setCell ⟨g, i, none⟩ (.int .u8 (c.toNat : Int))) := by
  obtain ⟨cs, hb, hs, hl, hall, hacc⟩ := h
  refine ⟨_, blk_put hb i _ rfl, by simp [hs], by simp; omega, fun j hj => ?_, fun j hj => ?_⟩
  · by_cases e : i = j
    · subst e; exact ⟨_, by rw [Array.getElem?_setIfInBounds_self_of_lt (by omega)]⟩
    · rw [Array.getElem?_setIfInBounds_ne e]; exact hall j hj
  · cases j with
    | zero => rw [Nat.add_zero, Array.getElem?_setIfInBounds_self_of_lt (by omega)]; rfl
    | succ j =>
      rw [Array.getElem?_setIfInBounds_ne (by omega)]
      have := hacc j (by simpa using hj)
      rw [show i + (j + 1) = i + 1 + j by omega]
      simpa using this
theorem Row65.read {g i : Nat} {acc : List UInt8} {w : World} (h : Row65 g i acc w) (cap : Nat) : (convert 47 9 (.slice (some ⟨g, i, none⟩) (65 - i) cap)).run Tryd.prog w = .ok (.string ⟨acc.toArray⟩) w := by
  obtain ⟨cs, hb, hs, hl, hall, hacc⟩ := h
  rw [show 65 - i = acc.length by omega]
  refine run_convert_bytes_back w 47 9 5 ⟨g, i, none⟩ cap acc Tryd.underlying47 Tryd.underlying5 Tryd.underlying9 (fun j hj => ?_)
  have : (⟨g, i, none⟩ : Addr).add j = ⟨g, i + j, none⟩ := by cases j <;> simp [Addr.add]
  rw [this, blk_cell hb]
  exact hacc j hj
theorem dig36 (d : Nat) (hd : d < 16) : ∀ h, (⟨#[48, 49, 50, 51, 52, 53, 54, 55, 56, 57, 97, 98, 99, 100, 101, 102, 103, 104, 105, 106, 107, 108, 109, 110, 111, 112, 113, 114, 115, 116, 117, 118, 119, 120, 121, 122]⟩ : ByteArray)[d]'h = hexD d := by
  have H : ∀ d, d < 16 → ∀ h, (⟨#[48, 49, 50, 51, 52, 53, 54, 55, 56, 57, 97, 98, 99, 100, 101, 102, 103, 104, 105, 106, 107, 108, 109, 110, 111, 112, 113, 114, 115, 116, 117, 118, 119, 120, 121, 122]⟩ : ByteArray)[d]'h = hexD d := by decide
  exact H d hd
theorem sl65 (g j : Nat) (hj : j < 65) (W : World) : (Instr.sliceAt 117 (.pointer (some ⟨g, 0, none⟩)) (some (.int .i64 (j : Int))) none none).run Tryd.prog W = .ok (.slice (some ⟨g, j, none⟩) (65 - j) (65 - j)) W := by
  have hal : Tryd.prog.arrayLen 117 = 65 := by simp [Program.arrayLen, Tryd.underlying117]
  rw [run_sliceAt_array_l W 117 ⟨g, 0, none⟩ (by simp [Program.arrayLen, Program.elem, Tryd.underlying117]) .i64 (j : Int) (by omega) (by rw [hal]; omega)]
  rw [hal]
  go_simp
  omega
def FbRel (g u : Nat) (vu vi : Value) (w wr : World) : Prop :=
  ∃ (f v i : Nat) (acc : List UInt8), vu = .int .u64 (v : Int) ∧ vi = .int .i64 (i : Int) ∧ v < 16 ^ (f + 1) ∧ f + 50 ≤ i ∧ i ≤ 65 ∧ f ≤ 14 ∧ hexL f v acc = hexL 14 u [] ∧ Row65 g i acc wr ∧ Below g w wr
theorem fb_and (v : Nat) (h : v < 18446744073709551616) : bits BinOp.and IntKind.u64 (v : Int) 15 = ((v % 16 : Nat) : Int) := by
  have := bits_mask .u64 64 (by decide) (fun n h0 h1 => by simp [IntKind.wrap, IntKind.bits, IntKind.signed]; omega) 4 (by decide) (v : Int) (by omega) (by omega)
  simpa using this
set_option maxRecDepth 100000 in
set_option maxHeartbeats 4000000 in
theorem formatBits_calls (u : Nat) (hu : u < 2147483648) (w : World) (hdb : w.cell? ⟨6, 15, none⟩ = some (.int .u8 4)) :
    Calls Tryd.prog 84 #[.slice none 0 0, .int .u64 (u : Int), .int .i64 16, .bool false, .bool false] w fun e w' => e = .returned (.tuple #[.slice none 0 0, .string ⟨(hexL 14 u []).toArray⟩]) ∧ Below w.heap.size w w' := by
  have HDB := Aside0.mk (cell_below hdb (below_alloc (Below.refl _ w) (.cells (Array.replicate 65 (.int .u8 0)) 117)))
  clear hdb
  go_enter Tryd.func84, Tryd.ntmps84
  go_wp2_with (first
    | (go_at_call 91; refine (pow2_calls _).mono ?_; rintro e w' ⟨rfl, rfl⟩)
    | (go_at_call 92; refine (tz_calls _ ?_).mono ?_; (case _ => exact HDB.out); rintro e w' ⟨rfl, rfl⟩))
  go_loopw [1, 13] (fun vu vi wr => FbRel w.heap.size u vu vi w wr) (fun vu _ _ => (intOf vu).toNat)
  case atStart => exact ⟨14, u, 65, [], rfl, rfl, by omega, by omega, by omega, by omega, rfl, Row65.new w, below_alloc (Below.refl _ _) _⟩
  case round =>
    obtain ⟨f, v, i, acc, rfl, rfl, hv, hi, hi2, hf, hL, hR, hB⟩ := hrel
    have hv64 : v < 18446744073709551616 := by
      have : (16 : Nat) ^ (f + 1) ≤ 16 ^ 15 := Nat.pow_le_pow_right (by omega) (by omega)
      omega
    obtain ⟨c, hc, hfz⟩ := hR.cell (i - 1) (by omega)
    obtain ⟨j, rfl⟩ : ∃ j, i = j + 1 := ⟨i - 1, by omega⟩
    rw [Nat.add_sub_cancel] at hc hfz
    have hd16 : v % 16 < 16 := Nat.mod_lt _ (by omega)
    have hij : ((j + 1 : Nat) : Int) - 1 = (j : Int) := by omega
    have hjn : ((j : Int)).toNat = j := rfl
    have HV := Aside0.mk hv
    have HL := Aside0.mk hL
    have HR := Aside0.mk hR
    have HB := Aside0.mk hB
    clear hv hL hR hB
    by_cases h16 : 16 ≤ v
    · have h16b : decide ((v : Int) ≥ 16) = true := by simp; omega
      have hdg := dig36 (v % 16) (by omega)
      have hand := fb_and v hv64
      go_wp2
      go_roundw
      case rel =>
        have hf1 : 1 ≤ f := by
          have := HV.out
          cases f with
          | zero => omega
          | succ f => omega
        refine ⟨f - 1, v / 16, j, hexD (v % 16) :: acc, by push_cast; rfl, rfl, ?_, by omega, by omega, by omega, ?_, HR.out.put _, HB.out.setCell (p := ⟨w.heap.size, j, none⟩) (Nat.le_refl _) _⟩
        · have := HV.out
          cases f with
          | zero => omega
          | succ f => rw [Nat.pow_succ] at this; simp only [Nat.add_sub_cancel]; omega
        · rw [← HL.out]
          cases f with
          | zero => have := HV.out; omega
          | succ f => simp only [Nat.add_sub_cancel, hexL]; rw [if_pos h16]
      case measure => simp [intOf]; omega
    · have h16b : decide ((v : Int) ≥ 16) = false := by simp; omega
      have hdg := dig36 v (by omega)
      have hsl := sl65 w.heap.size j (by omega)
      have hcv := (HR.out.put (hexD v)).read (65 - j)
      go_wp2
      go_ret2
      have e : hexD v :: acc = hexL 14 u [] := by
        rw [← HL.out]
        cases f with
        | zero => simp only [hexL]; rw [Nat.mod_eq_of_lt (by omega)]
        | succ f => simp only [hexL]; rw [if_neg h16]
      exact ⟨by rw [e]; rfl, HB.out.setCell (p := ⟨w.heap.size, j, none⟩) (Nat.le_refl _) _⟩
set_option maxRecDepth 100000 in
set_option maxHeartbeats 1000000 in
theorem formatInt16_calls (u : Nat) (hu : u < 2147483648) (w : World) (hdb : w.cell? ⟨6, 15, none⟩ = some (.int .u8 4)) :
    Calls Tryd.prog 75 #[.int .i64 (u : Int), .int .i64 16] w fun e w' => e = .returned (.string ⟨(hexL 14 u []).toArray⟩) ∧ Below w.heap.size w w' := by
  have HDB := Aside0.mk hdb
  clear hdb
  go_enter Tryd.func75, Tryd.ntmps75
  go_wp2_with (go_at_call 84; refine (formatBits_calls _ hu _ HDB.out).mono ?_; rintro e w' ⟨rfl, hb⟩)
  go_ret
  exact ⟨rfl, hb⟩
set_option maxRecDepth 100000 in
set_option maxHeartbeats 1000000 in
theorem formatInt16p_calls (u : Nat) (hu : u < 2147483648) (w : World) (hdb : w.cell? ⟨6, 15, none⟩ = some (.int .u8 4)) :
    Calls Tryd.prog 61 #[.int .i64 (u : Int), .int .i64 16] w fun e w' => e = .returned (.string ⟨(hexL 14 u []).toArray⟩) ∧ Below w.heap.size w w' := by
  have HDB := Aside0.mk hdb
  clear hdb
  go_enter Tryd.func61, Tryd.ntmps61
  go_wp2_with (go_at_call 75; refine (formatInt16_calls _ hu _ HDB.out).mono ?_; rintro e w' ⟨rfl, hb⟩)
  go_ret
  exact ⟨rfl, hb⟩
def text_hex.f (n : Int) : Option ByteArray := if 0 ≤ n ∧ n < 2147483648 then some ⟨(hexL 14 n.toNat []).toArray⟩ else none
set_option maxRecDepth 100000 in
theorem text_hex.calls (a0 : Int) (r : ByteArray) (w : World) (hgw : GW w) (h : text_hex.f a0 = some r) :
    Calls Tryd.prog 40 #[.int .i32 a0] w fun e w' => e = .returned (.string r) ∧ Below w.heap.size w w' := by
  unfold text_hex.f at h
  split at h
  case isFalse => cases h
  rename_i hs
  have HP := Aside0.mk (Option.some.inj h)
  obtain ⟨u, rfl⟩ := Int.eq_ofNat_of_zero_le hs.1
  have hu : u < 2147483648 := by omega
  have HDB := Aside0.mk (hgw.db 15 (by decide))
  clear h hs hgw
  go_enter Tryd.func40, Tryd.ntmps40
  go_wp2_with (go_at_call 61; refine (formatInt16p_calls u hu _ HDB.out).mono ?_; rintro e w' ⟨rfl, hb⟩)
  go_ret
  exact ⟨by rw [← HP.out]; rfl, hb⟩
end Go.Proofs.YthijdjpipjbkbaaDoor.H
end
section
namespace Go.Proofs.YthijdjpipjbkbaaDoor.H
open Go.RowKit Go.Proofs.YthijdjpipjbkbaaDoorW.PrintWords Go.Proofs.YthijdjpipjbkbaaDoorW.PrintLast Go.Proofs.YthijdjpipjbkbaaDoorW.PrintMore
open Go.Maps
set_option linter.unusedVariables false
set_option linter.unusedSimpArgs false
def Bd (g : Nat) (acc : List UInt8) (w : World) : Prop := Lib.IsBuilderF 49 5 g g (Lib.byteCells acc) w
theorem Bd.new (w : World) : Bd w.heap.size [] (w.alloc (.cells #[.pointer none, .slice none 0 0] 49)) := .of (Lib.fresh_isBuilder _ _ w)
theorem Bd.lt {g : Nat} {acc : List UInt8} {w : World} (h : Bd g acc w) : g < w.heap.size := by
  rcases h with h | h
  · exact h.lt
  · exact h.lt
theorem bat_below {T e : TypeId} {B b : Nat} {p : Value} {bs : List Value} {w W : World} (h : Lib.BuilderAtF T e B b p bs w) (hb : Below w.heap.size w W) : Lib.BuilderAtF T e B b p bs W := by
  obtain ⟨hB, v, hbk, hown, hne⟩ := h
  exact ⟨hB, v, blk_below hbk hb, hown.kept (grown_of_below hb none) (by cases v.ownBlock <;> simp), hne⟩
theorem Bd.below {g : Nat} {acc : List UInt8} {w W : World} (h : Bd g acc w) (hb : Below w.heap.size w W) : Bd g acc W := by
  rcases h with h | h
  · exact .inl (bat_below h hb)
  · exact .inr (bat_below h hb)
theorem Bd.alloc {g : Nat} {acc : List UInt8} {w : World} (h : Bd g acc w) (o : Obj) : Bd g acc (w.alloc o) := h.below (below_alloc (Below.refl _ _) o)
theorem Bd.drewN {g : Nat} {acc : List UInt8} {w : World} (h : Bd g acc w) (n : Nat) : Bd g acc (w.drewN n) := h.below (pw_below_drewN (Below.refl _ _) n)
theorem Bd.write {g : Nat} {acc : List UInt8} {w : World} (h : Bd g acc w) (s : ByteArray) (hlen : acc.length + s.size ≤ 140737488355328) :
    Calls Tryd.prog 21 #[.pointer (some ⟨g, 0, none⟩), .string s] w fun e w' => e = .returned (.tuple #[.int .i64 s.size, .nilIface]) ∧ Bd g (acc ++ s.data.toList) w' ∧ Below g w w' ∧ Lib.OthersKept 5 (some g) w w' := by
  refine (Any.Builder_WriteString_k Tryd.ly166 Tryd.bx g g _ s w h (by rw [Lib.byteCells_length]; exact hlen) (Nat.le_of_lt h.lt)).mono ?_
  rintro e w' ⟨rfl, h1, h2, h3⟩
  refine ⟨rfl, ?_, h2, h3⟩
  unfold Bd
  rw [Lib.byteCells_append]
  exact Or.inr h1
theorem Bd.string {g : Nat} {acc : List UInt8} {w : World} (h : Bd g acc w) :
    Calls Tryd.prog 23 #[.pointer (some ⟨g, 0, none⟩)] w fun e w' => e = .returned (.string ⟨acc.toArray⟩) ∧ Below g w w' := by
  refine (Any.Builder_String_any_k Tryd.ly169 Tryd.bx g g acc w h (Nat.le_of_lt h.lt)).mono ?_
  rintro e w' ⟨rfl, _, h2, _⟩
  exact ⟨rfl, h2⟩
theorem keep_blk {g k : Nat} {w W : World} {c : Array Value} {T : TypeId} {fz : Nat × Nat} (h : Lib.OthersKept 5 (some g) w W) (hk : w.heap[k]? = some (.cells c T fz)) (hne : k ≠ g) (hT : T ≠ 5) : W.heap[k]? = some (.cells c T fz) :=
  h k _ hk (by simpa using hne) (fun c' fz' e => hT (by injection e))
theorem Bd.byte {g : Nat} {acc : List UInt8} {w : World} (h : Bd g acc w) (c : UInt8) (hlen : acc.length + 1 ≤ 140737488355328) :
    Calls Tryd.prog 20 #[.pointer (some ⟨g, 0, none⟩), .int .u8 c.toNat] w fun e w' => e = .returned .nilIface ∧ Bd g (acc ++ [c]) w' ∧ Below g w w' ∧ Lib.OthersKept 5 (some g) w w' := by
  refine (Any.Builder_WriteByte_k Tryd.ly167 Tryd.bx g g _ c.toNat w h (by rw [Lib.byteCells_length]; exact hlen) (Nat.le_of_lt h.lt)).mono ?_
  rintro e w' ⟨rfl, h1, h2, h3⟩
  refine ⟨rfl, ?_, h2, h3⟩
  unfold Bd
  rw [Lib.byteCells_append]
  exact Or.inr h1
theorem Bd.rune {g : Nat} {acc : List UInt8} {w : World} (h : Bd g acc w) (r : Int) (hr0 : -2147483648 ≤ r) (hr1 : r ≤ 2147483647) (hlen : acc.length + 4 ≤ 140737488355328) :
    Calls Tryd.prog 56 #[.pointer (some ⟨g, 0, none⟩), .int .i32 r] w fun e w' => (∃ n : Int, e = .returned (.tuple #[.int .i64 n, .nilIface])) ∧ Bd g (acc ++ Lib.encodeRune r) w' ∧ Below g w w' ∧ Lib.OthersKept 5 (some g) w w' := by
  refine (Any.Builder_WriteRune_k Tryd.ly168 Tryd.bx g g _ r hr0 hr1 w h (by rw [Lib.byteCells_length]; exact hlen) (Nat.le_of_lt h.lt)).mono ?_
  rintro e w' ⟨rfl, h1, h2, h3⟩
  refine ⟨⟨_, rfl⟩, ?_, h2, h3⟩
  unfold Bd
  rw [Lib.byteCells_append, Lib.byteCells_encodeRune]
  exact Or.inr h1
end Go.Proofs.YthijdjpipjbkbaaDoor.H
end
section
namespace Go.Proofs.YthijdjpipjbkbaaDoor.H
open Go.RowKit Go.Proofs.YthijdjpipjbkbaaDoorW.PrintWords Go.Proofs.YthijdjpipjbkbaaDoorW.PrintLast Go.Proofs.YthijdjpipjbkbaaDoorW.PrintMore
open Go.Maps
set_option linter.unusedVariables false
set_option linter.unusedSimpArgs false
def escOf (s : ByteArray) (x : S65) : List UInt8 :=
  if x.f0 = 65533 ∧ x.f2 = 1 then [92, 120, 123] ++ hexL 14 (s.get! x.f1.toNat).toNat [] ++ [125]
  else if x.f0 = 10 then [92, 110] else if x.f0 = 13 then [92, 114] else if x.f0 = 9 then [92, 116]
  else if x.f0 = 34 ∨ x.f0 = 92 then [92, x.f0.toNat.toUInt8]
  else if x.f0 < 32 ∨ x.f0 > 126 then [92, 117, 123] ++ hexL 14 x.f0.toNat [] ++ [125]
  else [x.f0.toNat.toUInt8]
def quoteB (s : ByteArray) (rs : List S65) : List UInt8 := 34 :: rs.flatMap (escOf s)
def text_Quote.f (a0 : ByteArray) : Option ByteArray := if a0.size ≤ 4398046511104 then some (⟨(quoteB a0 (runesL a0)).toArray⟩ ++ ⟨#[34]⟩) else none
theorem hexL_len (f : Nat) : ∀ u acc, (hexL f u acc).length ≤ f + 1 + acc.length := by
  induction f with
  | zero => intro u acc; simp [hexL]; omega
  | succ f ih =>
    intro u acc
    simp only [hexL]
    split
    · have := ih (u / 16) (hexD (u % 16) :: acc); simp at this; omega
    · simp; omega
theorem escOf_len (s : ByteArray) (x : S65) : (escOf s x).length ≤ 20 := by
  have h1 := hexL_len 14 (s.get! x.f1.toNat).toNat []
  have h2 := hexL_len 14 x.f0.toNat []
  simp only [List.length_nil] at h1 h2
  unfold escOf
  repeat' split
  all_goals simp
  all_goals omega
theorem flatMap_esc_len (s : ByteArray) (rs : List S65) : (rs.flatMap (escOf s)).length ≤ 20 * rs.length := by
  induction rs with
  | nil => simp
  | cons x r ih => have := escOf_len s x; simp only [List.flatMap_cons, List.length_append, List.length_cons]; omega
theorem runesFrom_mem (s : ByteArray) (f : Nat) : ∀ pos, ∀ x ∈ runesFrom s f pos, (0 ≤ x.f0 ∧ x.f0 ≤ 1114111) ∧ 0 ≤ x.f1 ∧ x.f1 < s.size := by
  induction f with
  | zero => intro pos x hx; simp [runesFrom] at hx
  | succ f ih =>
    intro pos x hx
    simp only [runesFrom] at hx
    split at hx
    · rename_i hp
      rcases List.mem_cons.1 hx with rfl | hx
      · have := Lib.rune_le s pos
        exact ⟨⟨by simp, by simp; omega⟩, by simp, by simp; omega⟩
      · exact ih _ x hx
    · simp at hx
theorem runesFrom_len (s : ByteArray) (f : Nat) : ∀ pos, (runesFrom s f pos).length ≤ s.size - pos := by
  induction f with
  | zero => intro pos; simp [runesFrom]
  | succ f ih =>
    intro pos
    simp only [runesFrom]
    split
    · have := ih (pos + (Utf8.decode s pos).2); have := rune_w_pos s pos; simp only [List.length_cons]; omega
    · simp
theorem R_others {α : Type} {d : Kd α} {e base g : Nat} {ok : Nat → Prop} {w W : World} {v : Value} {xs : List α} (h : d.R e w base ok v xs) (hE : d.E = []) (hk : Lib.OthersKept 5 (some g) w W) (hne : e ≠ 5) (hg : g < base) : d.R e W base ok v xs :=
  Kd.R_mono (Kd.R_step (Kd.R_bound h) (fun k hk1 _ => by
    obtain ⟨_, h2, _, q, hq, cs, hc⟩ := hk1
    rw [hE] at hq
    simp only [List.mem_singleton] at hq
    subst hq
    exact (hk k _ hc (fun e_ => by injection e_ with e_; omega) (fun c' fz' e_ => hne (by injection e_))).trans hc.symm)) (fun _ hk1 => hk1.1)
theorem hex_any (n : Int) (h0 : 0 ≤ n) (h1 : n < 2147483648) (w : World) (hgw : GW w) : Calls Tryd.prog 40 #[.int .i32 n] w fun e w' => ∃ hx : ByteArray, e = .returned (.string hx) ∧ Aside0 (hx.data.toList = hexL 14 n.toNat []) ∧ hx.size ≤ 15 ∧ Below w.heap.size w w' := by
  have h := hexL_len 14 n.toNat []
  simp only [List.length_nil] at h
  refine (text_hex.calls n ⟨(hexL 14 n.toNat []).toArray⟩ w hgw (by unfold text_hex.f; rw [if_pos ⟨h0, h1⟩])).mono ?_
  rintro e w' ⟨rfl, hb⟩
  exact ⟨_, rfl, ⟨by simp⟩, by simp [ByteArray.size]; omega, hb⟩
theorem write_len {acc : List UInt8} {s : ByteArray} (h : acc.length ≤ 140737488355000) (hs : s.size ≤ 100) : acc.length + s.size ≤ 140737488355328 := by omega
def QRel (s : ByteArray) (rs : List S65) (w : World) (v vi : Value) (wr : World) : Prop :=
  ∃ k : Nat, k ≤ rs.length ∧ vi = .int .i64 (k : Int) ∧ Bd w.heap.size (quoteB s (rs.take k)) wr ∧ Below w.heap.size w wr ∧ Kd.R k65 65 wr (w.heap.size + 1) (fun _ => True) v rs
theorem QRel.next {s : ByteArray} {rs : List S65} {w W : World} {v : Value} {k : Nat} (hk : k < rs.length) {acc : List UInt8} (hb : Bd w.heap.size acc W) (he : acc = quoteB s (rs.take k) ++ escOf s (rs[k])) (hB : Below w.heap.size w W)
    (hR : Kd.R k65 65 W (w.heap.size + 1) (fun _ => True) v rs) : QRel s rs w v (.int .i64 ((k : Int) + 1)) W := by
  refine ⟨k + 1, hk, by push_cast; rfl, ?_, hB, hR⟩
  rw [he] at hb
  rw [List.take_succ_eq_append_getElem hk]
  have e : quoteB s (rs.take k ++ [rs[k]]) = quoteB s (rs.take k) ++ escOf s rs[k] := by
    unfold quoteB
    rw [List.flatMap_append]
    simp only [List.flatMap_cons, List.flatMap_nil, List.append_nil, List.cons_append]
  rw [e]
  exact hb
set_option maxRecDepth 100000 in
set_option maxHeartbeats 8000000 in
theorem text_Quote.calls (a0 : ByteArray) (r : ByteArray) (w : World) (hgw : GW w) (h : text_Quote.f a0 = some r) :
    Calls Tryd.prog 22 #[.string a0] w fun e w' => e = .returned (.string r) ∧ Below w.heap.size w w' := by
  unfold text_Quote.f at h
  split at h
  case isFalse => cases h
  rename_i hs
  have HP := Aside0.mk (Option.some.inj h)
  have HS := Aside0.mk hs
  have HGW := Aside0.mk hgw
  have HRF := Aside0.mk (show text_Runes.f a0 = some (runesL a0) by unfold text_Runes.f; rw [if_pos hs])
  have HRL := Aside0.mk (show (runesL a0).length ≤ 4398046511104 from Nat.le_trans (runesFrom_len a0 a0.size 0) (by omega))
  have HRM := Aside0.mk (fun x hx => runesFrom_mem a0 a0.size 0 x hx : ∀ x ∈ runesL a0, (0 ≤ x.f0 ∧ x.f0 ≤ 1114111) ∧ 0 ≤ x.f1 ∧ x.f1 < a0.size)
  have HB0 := Aside0.mk (Bd.new w)
  clear h hs hgw
  obtain ⟨rs, hrs⟩ : ∃ rs, runesL a0 = rs := ⟨_, rfl⟩
  rw [hrs] at HP HRF HRL HRM
  clear hrs
  go_enter Tryd.func22, Tryd.ntmps22
  go_wp2_with (first
    | (go_at_call 20; refine (HB0.out.byte 34 (by simp)).mono ?_; rintro e w1 ⟨rfl, hb1, hB1, hO1⟩; have HB1 := Aside0.mk hb1; have HL1 := Aside0.mk ((below_alloc (Below.refl w.heap.size w) _).trans hB1); clear hb1 hB1 hO1)
    | (go_at_call 39; refine (text_Runes.calls a0 rs _ (HGW.out.below HL1.out) HRF.out).mono ?_; rintro e w2 ⟨v, rfl, hR, hb⟩; obtain ⟨A, c, rfl⟩ := Kd.R_slice hR; have HB2 := Aside0.mk (HB1.out.below hb); have HR2 := Aside0.mk (Kd.R_lower hR (show w.heap.size + 1 ≤ w1.heap.size from HB1.out.lt)); have HL2 := Aside0.mk (below_step HL1.out hb); clear hR hb))
  go_loopw [10] (fun v10 wr => QRel a0 rs w (.slice A rs.length c) v10 wr) (fun v10 _ => rs.length - (intOf v10).toNat)
  case atStart => exact ⟨0, Nat.zero_le _, rfl, HB2.out, HL2.out, HR2.out⟩
  case round =>
    obtain ⟨k, hk, rfl, hb, hB, hR⟩ := hrel
    have hn := HRL.out
    by_cases hlt : k < rs.length
    · have hm := HRM.out _ (List.getElem_mem hlt)
      obtain ⟨ad, hA, hx0, hx1, hx2⟩ := at_T65 (Kd.R_reads' hR).2.2 (k : Int) (by omega) (by omega)
      have hrd : rd_T65 rs (k : Int) = rs[k] := by simp [rd_T65, List.getD_eq_getElem?_getD, List.getElem?_eq_getElem hlt]
      rw [hrd] at hx0 hx1 hx2
      simp only [Int.toNat_natCast] at hx0 hx1 hx2
      cases hA
      obtain ⟨⟨f0, f1, f2⟩, hx⟩ : ∃ x, rs[k] = x := ⟨_, rfl⟩
      rw [hx] at hx0 hx1 hx2 hm
      dsimp only at hx0 hx1 hx2 hm
      obtain ⟨⟨m0, m1⟩, m2, m3⟩ := hm
      have HX := Aside0.mk hx
      have HB := Aside0.mk hb
      have HL := Aside0.mk hB
      have HR := Aside0.mk hR
      have hq : (quoteB a0 (rs.take k)).length ≤ 140737488355000 := by
        have h1 := flatMap_esc_len a0 (rs.take k)
        have h2 : (rs.take k).length ≤ k := List.length_take_le _ _
        simp only [quoteB, List.length_cons]; omega
      have HQ := Aside0.mk hq
      clear hx hb hB hR hrd hq
      by_cases t1 : f0 = 65533
      · subst t1
        by_cases t2 : f2 = 1
        · subst t2
          have hby : (a0.get! f1.toNat) = a0[f1.toNat]'(by omega) := get_at a0 f1.toNat (by omega)
          have HBY := Aside0.mk hby
          obtain ⟨c8, hc8⟩ : ∃ c8 : UInt8, (a0[f1.toNat]'(by omega)) = c8 := ⟨_, rfl⟩
          rw [hc8] at HBY
          have hc8' : ∀ h, a0[f1.toNat]'h = c8 := fun _ => hc8
          clear hc8 hby
          have h8 := c8.toNat_lt
          have hwb : wrap32 (c8.toNat : Int) = (c8.toNat : Int) := by unfold wrap32; omega
          go_wp2_with (first
            | (go_at_call 40; refine (hex_any _ ?h1 ?h2 _ ?h3).mono ?_; (case h1 => omega); (case h2 => omega); (case h3 => exact HGW.out.below (below_alloc HL.out _)); rintro e w1 ⟨hx, rfl, HX1, hx2, hb1⟩; have HB1 := Aside0.mk ((HB.out.alloc _).below hb1); have HL1 := Aside0.mk (below_step (below_alloc HL.out _) hb1); have HR1 := Aside0.mk (Kd.R_below (Kd.R_alloc HR.out _) hb1); clear hb1; have hz1 : (9223372036854775807 < 3 + hx.size) = False := eq_false (by omega); have hz2 : (9223372036854775807 < 3 + hx.size + 1) = False := eq_false (by omega))
            | (go_at_call 21; refine (Bd.write HB1.out _ ?h4).mono ?_; (case h4 => exact write_len HQ.out (by first | decide | (simp only [ByteArray.size_append]; show 3 + hx.size + 1 ≤ 100; omega))); rintro e w2 ⟨rfl, hb2, hB2, hO2⟩; have HB2 := Aside0.mk hb2; have HL2 := Aside0.mk (HL1.out.trans hB2); have HR2 := Aside0.mk (R_others HR1.out rfl hO2 (by decide) (Nat.lt_succ_self _)); clear hb2 hB2 hO2))
          go_roundw
          case rel => exact QRel.next hlt HB2.out (by rw [HX.out]; simp [escOf, HX1.out, HBY.out]) HL2.out HR2.out
          case measure => simp [intOf]; omega
        · have t2b : (f2 == 1) = false := by simpa using t2
          go_wp2_with (first
            | (go_at_call 40; refine (hex_any _ ?h1 ?h2 _ ?h3).mono ?_; (case h1 => omega); (case h2 => omega); (case h3 => exact HGW.out.below (below_alloc HL.out _)); rintro e w1 ⟨hx, rfl, HX1, hx2, hb1⟩; have HB1 := Aside0.mk ((HB.out.alloc _).below hb1); have HL1 := Aside0.mk (below_step (below_alloc HL.out _) hb1); have HR1 := Aside0.mk (Kd.R_below (Kd.R_alloc HR.out _) hb1); clear hb1; have hz1 : (9223372036854775807 < 3 + hx.size) = False := eq_false (by omega); have hz2 : (9223372036854775807 < 3 + hx.size + 1) = False := eq_false (by omega))
            | (go_at_call 21; refine (Bd.write HB1.out _ ?h4).mono ?_; (case h4 => exact write_len HQ.out (by first | decide | (simp only [ByteArray.size_append]; show 3 + hx.size + 1 ≤ 100; omega))); rintro e w2 ⟨rfl, hb2, hB2, hO2⟩; have HB2 := Aside0.mk hb2; have HL2 := Aside0.mk (HL1.out.trans hB2); have HR2 := Aside0.mk (R_others HR1.out rfl hO2 (by decide) (Nat.lt_succ_self _)); clear hb2 hB2 hO2))
          go_roundw
          case rel => exact QRel.next hlt HB2.out (by rw [HX.out]; simp [escOf, HX1.out, t2]) HL2.out HR2.out
          case measure => simp [intOf]; omega
      have t1b : (f0 == 65533) = false := by simpa using t1
      by_cases t10 : f0 = 10
      · subst t10
        go_wp2_with (first
          | (go_at_call 21; refine (Bd.write (HB.out.alloc _) _ ?h4).mono ?_; (case h4 => exact write_len HQ.out (by first | decide | (simp only [ByteArray.size_append]; show 3 + hx.size + 1 ≤ 100; omega))); rintro e w1 ⟨rfl, hb1, hB1, hO1⟩; have HB1 := Aside0.mk hb1; have HL1 := Aside0.mk ((below_alloc HL.out _).trans hB1); have HR1 := Aside0.mk (R_others (Kd.R_alloc HR.out _) rfl hO1 (by decide) (Nat.lt_succ_self _)); clear hb1 hB1 hO1))
        go_roundw
        case rel => exact QRel.next hlt HB1.out (by rw [HX.out]; simp [escOf]) HL1.out HR1.out
        case measure => simp [intOf]; omega
      have t10b : (f0 == 10) = false := by simpa using t10
      by_cases t13 : f0 = 13
      · subst t13
        go_wp2_with (first
          | (go_at_call 21; refine (Bd.write (HB.out.alloc _) _ ?h4).mono ?_; (case h4 => exact write_len HQ.out (by first | decide | (simp only [ByteArray.size_append]; show 3 + hx.size + 1 ≤ 100; omega))); rintro e w1 ⟨rfl, hb1, hB1, hO1⟩; have HB1 := Aside0.mk hb1; have HL1 := Aside0.mk ((below_alloc HL.out _).trans hB1); have HR1 := Aside0.mk (R_others (Kd.R_alloc HR.out _) rfl hO1 (by decide) (Nat.lt_succ_self _)); clear hb1 hB1 hO1))
        go_roundw
        case rel => exact QRel.next hlt HB1.out (by rw [HX.out]; simp [escOf]) HL1.out HR1.out
        case measure => simp [intOf]; omega
      have t13b : (f0 == 13) = false := by simpa using t13
      by_cases t9 : f0 = 9
      · subst t9
        go_wp2_with (first
          | (go_at_call 21; refine (Bd.write (HB.out.alloc _) _ ?h4).mono ?_; (case h4 => exact write_len HQ.out (by first | decide | (simp only [ByteArray.size_append]; show 3 + hx.size + 1 ≤ 100; omega))); rintro e w1 ⟨rfl, hb1, hB1, hO1⟩; have HB1 := Aside0.mk hb1; have HL1 := Aside0.mk ((below_alloc HL.out _).trans hB1); have HR1 := Aside0.mk (R_others (Kd.R_alloc HR.out _) rfl hO1 (by decide) (Nat.lt_succ_self _)); clear hb1 hB1 hO1))
        go_roundw
        case rel => exact QRel.next hlt HB1.out (by rw [HX.out]; simp [escOf]) HL1.out HR1.out
        case measure => simp [intOf]; omega
      have t9b : (f0 == 9) = false := by simpa using t9
      by_cases t34 : f0 = 34
      · subst t34
        have tk0 : True := trivial
        go_wp2_with (first
          | (have _u := tk0; clear tk0; go_at_call 20; refine (Bd.byte (HB.out.alloc _) 92 ?h4).mono ?_; (case h4 => have := HQ.out; first | omega | (simp only [List.length_append, List.length_cons, List.length_nil]; omega)); rintro e w1 ⟨rfl, hb1, hB1, hO1⟩; have hOx := Aside0.mk hO1; have HB1 := Aside0.mk hb1; have HL1 := Aside0.mk ((below_alloc HL.out _).trans hB1); have HR1 := Aside0.mk (R_others (Kd.R_alloc HR.out _) rfl hO1 (by decide) (Nat.lt_succ_self _)); clear hb1 hB1 hO1; have hcz := keep_blk (g := w.heap.size) hOx.out (blk_new wr _) (by have := HB.out.lt; omega) (by decide); have hcz0 := (blk_cell hcz 0).trans rfl; have hcz2 := (blk_cell hcz 2).trans rfl; clear hcz)
          | (have _u := hOx; go_at_call 20; refine (Bd.byte HB1.out 34 ?h5).mono ?_; (case h5 => have := HQ.out; first | omega | (simp only [List.length_append, List.length_cons, List.length_nil]; omega)); rintro e w2 ⟨rfl, hb2, hB2, hO2⟩; have HB2 := Aside0.mk hb2; have HL2 := Aside0.mk (HL1.out.trans hB2); have HR2 := Aside0.mk (R_others HR1.out rfl hO2 (by decide) (Nat.lt_succ_self _)); clear hb2 hB2 hO2; clear hOx))
        go_roundw
        case rel => exact QRel.next hlt HB2.out (by rw [HX.out]; simp [escOf]) HL2.out HR2.out
        case measure => simp [intOf]; omega
      have t34b : (f0 == 34) = false := by simpa using t34
      by_cases t92 : f0 = 92
      · subst t92
        have tk0 : True := trivial
        go_wp2_with (first
          | (have _u := tk0; clear tk0; go_at_call 20; refine (Bd.byte (HB.out.alloc _) 92 ?h4).mono ?_; (case h4 => have := HQ.out; first | omega | (simp only [List.length_append, List.length_cons, List.length_nil]; omega)); rintro e w1 ⟨rfl, hb1, hB1, hO1⟩; have hOx := Aside0.mk hO1; have HB1 := Aside0.mk hb1; have HL1 := Aside0.mk ((below_alloc HL.out _).trans hB1); have HR1 := Aside0.mk (R_others (Kd.R_alloc HR.out _) rfl hO1 (by decide) (Nat.lt_succ_self _)); clear hb1 hB1 hO1; have hcz := keep_blk (g := w.heap.size) hOx.out (blk_new wr _) (by have := HB.out.lt; omega) (by decide); have hcz0 := (blk_cell hcz 0).trans rfl; have hcz2 := (blk_cell hcz 2).trans rfl; clear hcz)
          | (have _u := hOx; go_at_call 20; refine (Bd.byte HB1.out 92 ?h5).mono ?_; (case h5 => have := HQ.out; first | omega | (simp only [List.length_append, List.length_cons, List.length_nil]; omega)); rintro e w2 ⟨rfl, hb2, hB2, hO2⟩; have HB2 := Aside0.mk hb2; have HL2 := Aside0.mk (HL1.out.trans hB2); have HR2 := Aside0.mk (R_others HR1.out rfl hO2 (by decide) (Nat.lt_succ_self _)); clear hb2 hB2 hO2; clear hOx))
        go_roundw
        case rel => exact QRel.next hlt HB2.out (by rw [HX.out]; simp [escOf]) HL2.out HR2.out
        case measure => simp [intOf]; omega
      have t92b : (f0 == 92) = false := by simpa using t92
      by_cases l32 : f0 < 32
      · have d1 : decide (f0 < 32) = true := by simpa using l32
        go_wp2_with (first
          | (go_at_call 40; refine (hex_any _ ?h1 ?h2 _ ?h3).mono ?_; (case h1 => omega); (case h2 => omega); (case h3 => exact HGW.out.below (below_alloc HL.out _)); rintro e w1 ⟨hx, rfl, HX1, hx2, hb1⟩; have HB1 := Aside0.mk ((HB.out.alloc _).below hb1); have HL1 := Aside0.mk (below_step (below_alloc HL.out _) hb1); have HR1 := Aside0.mk (Kd.R_below (Kd.R_alloc HR.out _) hb1); clear hb1; have hz1 : (9223372036854775807 < 3 + hx.size) = False := eq_false (by omega); have hz2 : (9223372036854775807 < 3 + hx.size + 1) = False := eq_false (by omega))
          | (go_at_call 21; refine (Bd.write HB1.out _ ?h4).mono ?_; (case h4 => exact write_len HQ.out (by first | decide | (simp only [ByteArray.size_append]; show 3 + hx.size + 1 ≤ 100; omega))); rintro e w2 ⟨rfl, hb2, hB2, hO2⟩; have HB2 := Aside0.mk hb2; have HL2 := Aside0.mk (HL1.out.trans hB2); have HR2 := Aside0.mk (R_others HR1.out rfl hO2 (by decide) (Nat.lt_succ_self _)); clear hb2 hB2 hO2))
        go_roundw
        case rel => exact QRel.next hlt HB2.out (by rw [HX.out]; rw [escOf, if_neg (by simp [t1]), if_neg t10, if_neg t13, if_neg t9, if_neg (by simp [t34, t92]), if_pos (by simp; omega)]; simp [HX1.out]) HL2.out HR2.out
        case measure => simp [intOf]; omega
      by_cases g126 : f0 > 126
      · have d1 : decide (f0 < 32) = false := by simp; omega
        have d2 : decide (f0 > 126) = true := by simp; omega
        go_wp2_with (first
          | (go_at_call 40; refine (hex_any _ ?h1 ?h2 _ ?h3).mono ?_; (case h1 => omega); (case h2 => omega); (case h3 => exact HGW.out.below (below_alloc HL.out _)); rintro e w1 ⟨hx, rfl, HX1, hx2, hb1⟩; have HB1 := Aside0.mk ((HB.out.alloc _).below hb1); have HL1 := Aside0.mk (below_step (below_alloc HL.out _) hb1); have HR1 := Aside0.mk (Kd.R_below (Kd.R_alloc HR.out _) hb1); clear hb1; have hz1 : (9223372036854775807 < 3 + hx.size) = False := eq_false (by omega); have hz2 : (9223372036854775807 < 3 + hx.size + 1) = False := eq_false (by omega))
          | (go_at_call 21; refine (Bd.write HB1.out _ ?h4).mono ?_; (case h4 => exact write_len HQ.out (by first | decide | (simp only [ByteArray.size_append]; show 3 + hx.size + 1 ≤ 100; omega))); rintro e w2 ⟨rfl, hb2, hB2, hO2⟩; have HB2 := Aside0.mk hb2; have HL2 := Aside0.mk (HL1.out.trans hB2); have HR2 := Aside0.mk (R_others HR1.out rfl hO2 (by decide) (Nat.lt_succ_self _)); clear hb2 hB2 hO2))
        go_roundw
        case rel => exact QRel.next hlt HB2.out (by rw [HX.out]; rw [escOf, if_neg (by simp [t1]), if_neg t10, if_neg t13, if_neg t9, if_neg (by simp [t34, t92]), if_pos (by simp; omega)]; simp [HX1.out]) HL2.out HR2.out
        case measure => simp [intOf]; omega
      have d1 : decide (f0 < 32) = false := by simp; omega
      have d2 : decide (f0 > 126) = false := by simp; omega
      have h8 : f0 % 256 = f0 := by omega
      obtain ⟨c8, rfl⟩ : ∃ c8 : UInt8, f0 = (c8.toNat : Int) := ⟨f0.toNat.toUInt8, by simp [Nat.toUInt8]; omega⟩
      go_wp2_with (first
        | (go_at_call 20; refine (Bd.byte (HB.out.alloc _) c8 ?h4).mono ?_; (case h4 => have := HQ.out; first | omega | (simp only [List.length_append, List.length_cons, List.length_nil]; omega)); rintro e w1 ⟨rfl, hb1, hB1, hO1⟩; have HB1 := Aside0.mk hb1; have HL1 := Aside0.mk ((below_alloc HL.out _).trans hB1); have HR1 := Aside0.mk (R_others (Kd.R_alloc HR.out _) rfl hO1 (by decide) (Nat.lt_succ_self _)); clear hb1 hB1 hO1))
      go_roundw
      case rel => exact QRel.next hlt HB1.out (by rw [HX.out]; rw [escOf, if_neg (by simp [t1]), if_neg t10, if_neg t13, if_neg t9, if_neg (by simp [t34, t92]), if_neg (by simp; omega)]; simp) HL1.out HR1.out
      case measure => simp [intOf]; omega
    · have hke : k = rs.length := by omega
      subst hke
      rw [List.take_of_length_le (Nat.le_refl _)] at hb
      have HB := Aside0.mk hb
      have HL := Aside0.mk hB
      clear hb hB hR
      have hq : ((⟨(quoteB a0 rs).toArray⟩ : ByteArray)).size ≤ 140737488355000 := by
        have h1 := flatMap_esc_len a0 rs
        simp only [quoteB, ByteArray.size, List.size_toArray, List.length_cons]; omega
      have hq2 : (9223372036854775807 < ((⟨(quoteB a0 rs).toArray⟩ : ByteArray)).size + 1) = False := by simp; omega
      have hq3 : (9223372036854775807 < (quoteB a0 rs).length + 1) = False := eq_false (by have := hq; simp only [ByteArray.size, List.size_toArray] at this; omega)
      go_wp2_with (go_at_call 23; refine (HB.out.string).mono ?_; rintro e w3 ⟨rfl, hB3⟩; have HL3 := Aside0.mk (HL.out.trans hB3); clear hB3)
      go_ret
      exact ⟨by rw [← HP.out]; rfl, HL3.out⟩
end Go.Proofs.YthijdjpipjbkbaaDoor.H
end
section
namespace Go.Proofs.YthijdjpipjbkbaaDoor.H
open Go.RowKit Go.Proofs.YthijdjpipjbkbaaDoorW.PrintWords Go.Proofs.YthijdjpipjbkbaaDoorW.PrintLast Go.Proofs.YthijdjpipjbkbaaDoorW.PrintMore
set_option linter.unusedVariables false
set_option linter.unusedSimpArgs false
theorem wrap_id {n : Int} (h0 : -9223372036854775808 ≤ n) (h1 : n ≤ 9223372036854775807) : wrap64 n = n := by
  unfold wrap64
  omega
theorem drop_cons {α : Type} {l r : List α} {i : Nat} {x : α} (h : l.drop i = x :: r) : i < l.length ∧ l.drop (i + 1) = r ∧ ∀ z, l.getD i z = x := by
  have hi : i < l.length := by
    rcases Nat.lt_or_ge i l.length with q | q
    · exact q
    · rw [List.drop_of_length_le q] at h; cases h
  rw [List.drop_eq_getElem_cons hi] at h
  injection h with h1 h2
  exact ⟨hi, h2, fun z => by simp [List.getD_eq_getElem?_getD, List.getElem?_eq_getElem hi, h1]⟩
theorem drop_nil {α : Type} {l : List α} {i : Nat} (h : l.drop i = []) : l.length ≤ i := by
  simpa using h
theorem wrap_nat (a : Nat) (h : a ≤ 4294967296) : wrap64 (a : Int) = (a : Int) := wrap_id (by omega) (by omega)
theorem one_tail (s : ByteArray) (pos : Nat) (h : pos < s.size) : arboristref01_one.f (s.extract pos s.size) = some (((Utf8.decode s pos).1 : Int), ((Utf8.decode s pos).2 : Int)) := by
  unfold arboristref01_one.f oneOf
  rw [if_neg (by simp; omega), Lib.tail_decode]
  rfl
end Go.Proofs.YthijdjpipjbkbaaDoor.H
end
section
namespace Go.Proofs.YthijdjpipjbkbaaDoor.H
open Go.RowKit Go.Proofs.YthijdjpipjbkbaaDoorW.PrintWords Go.Proofs.YthijdjpipjbkbaaDoorW.PrintLast Go.Proofs.YthijdjpipjbkbaaDoorW.PrintMore
set_option linter.unusedVariables false
set_option linter.unusedSimpArgs false
def ba (l : List UInt8) : ByteArray := ⟨l.toArray⟩
theorem ba_app (a b : List UInt8) : ba a ++ ba b = ba (a ++ b) := ba_ext (by simp [ba])
theorem ba_size (l : List UInt8) : (ba l).size = l.length := by simp [ba, ByteArray.size]
theorem ba_list (l : List UInt8) : (ba l).data.toList = l := by simp [ba]
theorem ba_of (s : ByteArray) : s = ba s.data.toList := ba_ext (by simp [ba])
end Go.Proofs.YthijdjpipjbkbaaDoor.H
end
section
namespace Go.Proofs.YthijdjpipjbkbaaDoor.H
open Go.RowKit Go.Proofs.YthijdjpipjbkbaaDoorW.PrintWords Go.Proofs.YthijdjpipjbkbaaDoorW.PrintLast Go.Proofs.YthijdjpipjbkbaaDoorW.PrintMore
set_option linter.unusedVariables false
set_option linter.unusedSimpArgs false
theorem byte_drop (s : ByteArray) (pos : Nat) (h : pos < s.size) : s.data.toList.drop pos = s[pos]'h :: s.data.toList.drop (pos + 1) := by
  have h2 : pos < s.data.toList.length := by simpa using h
  rw [List.drop_eq_getElem_cons h2]
  rfl
theorem rune_ascii {s : ByteArray} {pos : Nat} (h : pos < s.size) (ha : (Utf8.decode s pos).1 < 128) : Utf8.decode s pos = ((s[pos]'h).toNat, 1) ∧ (s[pos]'h).toNat < 128 := by
  have hb : (s[pos]'h).toNat < 128 := by
    rcases Nat.lt_or_ge (s[pos]'h).toNat 128 with q | q
    · exact q
    · have := (decode_high s pos h q).1; omega
  exact ⟨decode_ascii s pos h hb, hb⟩
end Go.Proofs.YthijdjpipjbkbaaDoor.H
end
section
namespace Go.Proofs.YthijdjpipjbkbaaDoor.H
open Go.RowKit
set_option linter.unusedVariables false
set_option linter.unusedSimpArgs false
structure IStep (X : Nat → Prop) (W W' : World) (X' : Nat → Prop) : Prop where
  os : W'.os = W.os
  tape : W'.tape = W.tape
  output : W'.output = W.output
  size : W.heap.size ≤ W'.heap.size
  block : ∀ k, k < W.heap.size → ¬ X k → W'.heap[k]? = W.heap[k]?
  own : ∀ k, X' k → X k ∨ (W.heap.size ≤ k ∧ k < W'.heap.size)
theorem IStep.refl (X : Nat → Prop) (W : World) : IStep X W W X := ⟨rfl, rfl, rfl, Nat.le_refl _, fun _ _ _ => rfl, fun _ h => .inl h⟩
theorem IStep.trans {X Y Z : Nat → Prop} {A B C : World} (h : IStep X A B Y) (g : IStep Y B C Z) : IStep X A C Z :=
  ⟨g.os.trans h.os, g.tape.trans h.tape, g.output.trans h.output, Nat.le_trans h.size g.size,
    fun k hk hx => (g.block k (Nat.lt_of_lt_of_le hk h.size) (fun hy => by rcases h.own k hy with q | q; exact hx q; omega)).trans (h.block k hk hx),
    fun k hk => by
      rcases g.own k hk with q | ⟨q1, q2⟩
      · rcases h.own k q with r | ⟨r1, r2⟩
        · exact .inl r
        · exact .inr ⟨r1, Nat.lt_of_lt_of_le r2 g.size⟩
      · exact .inr ⟨Nat.le_trans h.size q1, q2⟩⟩
theorem IStep.of_below {X : Nat → Prop} {W W' : World} (h : Below W.heap.size W W') : IStep X W W' X :=
  ⟨h.os, h.tape, h.output, h.size, fun k hk _ => h.block k hk, fun _ hx => .inl hx⟩
def xnew (X : Nat → Prop) (W W' : World) : Nat → Prop := fun k => X k ∨ (W.heap.size ≤ k ∧ k < W'.heap.size)
theorem IStep.new {X : Nat → Prop} {W W' : World} (h : Below W.heap.size W W') : IStep X W W' (xnew X W W') :=
  ⟨h.os, h.tape, h.output, h.size, fun k hk _ => h.block k hk, fun _ hx => hx⟩
theorem IStep.at {X : Nat → Prop} {W W' : World} {r : Nat} (hx : X r) (h : W.grownBy W' (some r)) : IStep X W W' X :=
  ⟨h.os, h.tape, h.output, h.size, fun k hk hn => h.block k hk (fun e => hn (by cases e; exact hx)), fun _ h => .inl h⟩
theorem grownBy_set (W : World) (a : Addr) (v : Value) : W.grownBy (W.setCell a v) (some a.block) :=
  ⟨rfl, rfl, rfl, by simp, fun k _ hk => Below.heap_setCell W a v k (fun e => hk (by rw [e]))⟩
theorem IStep.below {X X' : Nat → Prop} {w W W' : World} {B : Nat} (h : IStep X W W' X') (hb : Below B w W) (hx : ∀ k, X k → B ≤ k) (hB : B ≤ w.heap.size) : Below B w W' :=
  ⟨h.os.trans hb.os, h.tape.trans hb.tape, h.output.trans hb.output, Nat.le_trans hb.size h.size,
    fun k hk => (h.block k (by have := hb.size; omega) (fun q => by have := hx k q; omega)).trans (hb.block k hk)⟩
structure Keeps (Y : Nat → Prop) (W W' : World) : Prop where
  size : W.heap.size ≤ W'.heap.size
  same : ∀ k, Y k → k < W.heap.size → W'.heap[k]? = W.heap[k]?
theorem Keeps.refl (Y : Nat → Prop) (W : World) : Keeps Y W W := ⟨Nat.le_refl _, fun _ _ _ => rfl⟩
theorem Keeps.trans {Y : Nat → Prop} {A B C : World} (h : Keeps Y A B) (g : Keeps Y B C) : Keeps Y A C :=
  ⟨Nat.le_trans h.size g.size, fun k hy hk => (g.same k hy (Nat.lt_of_lt_of_le hk h.size)).trans (h.same k hy hk)⟩
theorem Keeps.of_below {Y : Nat → Prop} {W W' : World} (h : Below W.heap.size W W') : Keeps Y W W' := ⟨h.size, fun k _ hk => h.block k hk⟩
theorem Keeps.of_grown {Y : Nat → Prop} {W W' : World} {r : Option Nat} (h : W.grownBy W' r) (hr : ∀ k, r = some k → ¬ Y k) : Keeps Y W W' :=
  ⟨h.size, fun k hy hk => h.block k hk (fun e => hr k e.symm hy)⟩
theorem Keeps.set {Y : Nat → Prop} (W : World) (a : Addr) (v : Value) (h : ¬ Y a.block) : Keeps Y W (W.setCell a v) := .of_grown (grownBy_set W a v) (fun k e => by cases e; exact h)
end Go.Proofs.YthijdjpipjbkbaaDoor.H
end
section
namespace Go.Proofs.YthijdjpipjbkbaaDoor.H
open Go.RowKit Go.Proofs.YthijdjpipjbkbaaDoorW.PrintWords Go.Proofs.YthijdjpipjbkbaaDoorW.PrintLast Go.Proofs.YthijdjpipjbkbaaDoorW.PrintMore
open Go.Maps
set_option linter.unusedVariables false
set_option linter.unusedSimpArgs false
def letB (c : Nat) : Bool := (97 ≤ c && c ≤ 122) || (65 ≤ c && c ≤ 90) || c == 95
def cls1 (c : Nat) : Nat := if letB c then 1 else if 48 ≤ c ∧ c ≤ 57 then 2 else 0
def signL : List Nat := [61, 124, 59, 58, 40, 41, 63, 42, 43, 44]
def spaceL : List Nat := [32, 9, 10, 13]
def cls (c : Nat) : Nat := if c = 35 then 8 else if c = 37 then 5 else if c = 47 then 4 else if c = 34 then 3 else if c ∈ spaceL then 7 else if c ∈ signL then 6 else cls1 c
set_option maxRecDepth 100000 in
theorem letter_val (c : Nat) (h : c < 256) : speclex_letter.f (c : Int) = some (letB c) := by
  have H : ∀ c : Fin 256, speclex_letter.f ((c : Nat) : Int) = some (letB c) := by decide
  exact H ⟨c, h⟩
def tabOf (f : Nat → Nat) : Array Value := ((List.range 256).map fun c => Value.int .u8 (f c : Int)).toArray
theorem tabOf_size (f : Nat → Nat) : (tabOf f).size = 256 := by simp [tabOf]
theorem tabOf_at (f : Nat → Nat) (c : Nat) (h : c < 256) : (tabOf f)[c]? = some (.int .u8 (f c : Int)) := by simp [tabOf, h]
theorem tabOf_one (f : Nat → Nat) : (tabOf f).all (·.oneCell') = true := by
  rw [Array.all_eq_true']
  intro x hx
  simp only [tabOf, List.mem_toArray, List.mem_map] at hx
  obtain ⟨c, _, rfl⟩ := hx
  rfl
theorem tabOf_set (f : Nat → Nat) (c v : Nat) (h : c < 256) : (tabOf f).setIfInBounds c (.int .u8 (v : Int)) = tabOf (fun d => if d = c then v else f d) := by
  apply Array.ext_getElem?
  intro i
  by_cases hi : i < 256
  · rw [tabOf_at _ i hi]
    by_cases e : c = i
    · subst e; rw [Array.getElem?_setIfInBounds_self_of_lt (by rw [tabOf_size]; omega), if_pos rfl]
    · rw [Array.getElem?_setIfInBounds_ne e, tabOf_at f i hi, if_neg (fun q => e q.symm)]
  · rw [Array.getElem?_eq_none (by simp [tabOf_size]; omega), Array.getElem?_eq_none (by rw [tabOf_size]; omega)]
theorem tabOf_ext {f h : Nat → Nat} (e : ∀ c, c < 256 → f c = h c) : tabOf f = tabOf h := by
  unfold tabOf
  congr 1
  exact List.map_congr_left fun c hc => by rw [e c (by simpa using hc)]
def RowT (g : Nat) (f : Nat → Nat) (w : World) : Prop := w.heap[g]? = some (.cells (tabOf f) 38 (0, 0))
theorem RowT.cell {g : Nat} {f : Nat → Nat} {w : World} (h : RowT g f w) (c : Nat) (hc : c < 256) : w.cell? ⟨g, c, none⟩ = some (.int .u8 (f c : Int)) ∧ w.frozen? ⟨g, c, none⟩ = false := ⟨(blk_cell h c).trans (tabOf_at f c hc), blk_frozen h c⟩
theorem RowT.put {g : Nat} {f : Nat → Nat} {w : World} (h : RowT g f w) (c v : Nat) (hc : c < 256) : RowT g (fun d => if d = c then v else f d) (w.setCell ⟨g, c, none⟩ (.int .u8 (v : Int))) := by
  have := blk_put h c (.int .u8 (v : Int)) rfl
  rw [tabOf_set f c v hc] at this
  exact this
theorem RowT.ext {g : Nat} {f h : Nat → Nat} {w : World} (hf : RowT g f w) (e : ∀ c, c < 256 → f c = h c) : RowT g h w := by
  unfold RowT at hf ⊢
  rw [← tabOf_ext e]; exact hf
theorem tabOf_zero : tabOf (fun _ => 0) = Array.replicate 256 (.int .u8 0) := by
  apply Array.ext_getElem?
  intro i
  by_cases hi : i < 256
  · rw [tabOf_at _ i hi]; simp [hi]
  · rw [Array.getElem?_eq_none (by rw [tabOf_size]; omega), Array.getElem?_eq_none (by simp; omega)]
theorem RowT.of_zero {g : Nat} {w : World} (h : w.heap[g]? = some (.cells (Array.replicate 256 (.int .u8 0)) 38 (0, 0))) : RowT g (fun _ => 0) w := by
  unfold RowT
  rw [tabOf_zero]; exact h
theorem RowT.zero (w : World) : RowT w.heap.size (fun _ => 0) (w.alloc (.cells (Array.replicate 256 (.int .u8 0)) 38)) := by
  exact RowT.of_zero (blk_new w _)
theorem RowT.below {g : Nat} {f : Nat → Nat} {w W : World} (h : RowT g f w) (hb : Below w.heap.size w W) : RowT g f W := blk_below h hb
def BytesT (g : Nat) (l : List Nat) (w : World) : Prop := w.heap[g]? = some (.cells (l.map fun c : Nat => Value.int .u8 (c : Int)).toArray 5 (l.length, l.length + 1))
theorem BytesT.new (w : World) (l : List Nat) : BytesT w.heap.size l (w.alloc (.cells (l.map fun c : Nat => Value.int .u8 (c : Int)).toArray 5 (l.length, l.length + 1))) := heap_alloc_last w _
theorem BytesT.cell {g : Nat} {l : List Nat} {w : World} (h : BytesT g l w) (i : Nat) (hi : i < l.length) : w.cell? ⟨g, i, none⟩ = some (.int .u8 (l[i] : Int)) := by
  rw [cell_of_row w g i _ _ _ h]; simp [hi]
theorem BytesT.set {g b : Nat} {l : List Nat} {w : World} (h : BytesT g l w) (hb : b ≠ g) (i : Nat) (v : Value) : BytesT g l (w.setCell ⟨b, i, none⟩ v) := (Below.heap_setCell w ⟨b, i, none⟩ v g (fun e => hb e.symm)).trans h
theorem info256 : (Tryd.prog.info? 38).map (fun i => (i.zero, i.size)) = some (some (.agg (Array.replicate 256 (.int .u8 0))), 256) := by kernel_rfl
def c1 (k c : Nat) : Nat := if c < k then cls1 c else 0
def c2 (k c : Nat) : Nat := if c ∈ signL.take k then 6 else cls1 c
def c3 (k c : Nat) : Nat := if c ∈ spaceL.take k then 7 else c2 10 c
def c4 (c : Nat) : Nat := if c = 35 then 8 else if c = 37 then 5 else if c = 47 then 4 else if c = 34 then 3 else c3 4 c
theorem c4_eq (c : Nat) (hc : c < 256) : c4 c = cls c := by
  unfold c4 cls c3 c2
  rfl
theorem RowT.load {g : Nat} {f : Nat → Nat} {w : World} (h : RowT g f w) : (do let x ← Instr.loadAt 38 (.pointer (some ⟨g, 0, none⟩)); pure (Next.value x)).run Tryd.prog w = .ok (.value (.agg (tabOf f))) w := by
  have := run_loadVar_row (P := Tryd.prog) w g 38 38 (tabOf f) (0, 0) _ h Tryd.underlying38 rfl (by rw [tabOf_size]; exact (zero_of_info info256).2)
  simp only [Instr.loadAt, Instr.sureAddr, Sem.run_bind, Sem.run_pure, Result.andThen, this]
theorem RowT.store {g : Nat} {f : Nat → Nat} {w : World} (h : RowT g f w) (k : Nat → Nat) : (do Instr.storeAt 38 (.pointer (some ⟨g, 0, none⟩)) (.agg (tabOf k)); pure Next.skip).run Tryd.prog w = .ok .skip (w.setRow g (tabOf k)) := by
  have := run_storeVar_row (P := Tryd.prog) w g 38 38 (tabOf f) (tabOf k) h (by rw [tabOf_size]; exact (zero_of_info info256).2) (by rw [tabOf_size, tabOf_size]) (tabOf_one k)
  simp only [Instr.storeAt, Instr.sureAddr, Sem.run_bind, Sem.run_pure, Result.andThen, this]
theorem results_cell1 {fn : Func} {p : Tmp} {ty : TypeId} (h : fn.results = #[.cell p ty]) (tmps : Array Value) (P : Program) (w : World) :
    (results fn tmps).run P w = ((asAddr (tmps.getD p undef)).run P w).andThen fun a w₁ => (loadVar ty a).run P w₁ := by
  simp only [results, h]
  simp [Sem.run_bind, Result.andThen]
theorem RowT.setRow {g : Nat} {f : Nat → Nat} {w : World} (h : RowT g f w) (k : Nat → Nat) : RowT g k (w.setRow g (tabOf k)) := setRow_heap w g _ _ _ _ h
theorem below_setRow {b : Nat} {w W : World} (h : Below b w W) {g : Nat} (hg : b ≤ g) (cs : Array Value) : Below b w (W.setRow g cs) :=
  ⟨h.os, h.tape, h.output, by have := h.size; simpa [World.setRow] using this, fun k hk => (setRow_other W g k cs (by omega)).trans (h.block k hk)⟩
theorem begins_ret {w W : World} {a : Act} (h : RowT w.heap.size cls W) (hb : Below w.heap.size w W) (ht : a.tmps[0]? = some (.pointer (some ⟨w.heap.size, 0, none⟩))) (hd : a.defers = []) :
    bodyPost Tryd.prog Tryd.f14 (fun e w' => e = .returned (.agg (tabOf cls)) ∧ Below w.heap.size w w') .ret a W := by
  have hld := run_loadVar_row (P := Tryd.prog) W w.heap.size 38 38 (tabOf cls) (0, 0) _ h Tryd.underlying38 rfl (by rw [tabOf_size]; exact (zero_of_info info256).2)
  have h0 : a.tmps.getD 0 undef = .pointer (some ⟨w.heap.size, 0, none⟩) := by rw [Array.getD_eq_getD_getElem?, ht]; rfl
  refine bodyPost_ret (v := .agg (tabOf cls)) ?_ hd ⟨rfl, hb⟩
  rw [results_cell1 rfl, h0]
  simp only [asAddr, Sem.run_pure, Result.andThen]
  exact hld
set_option maxRecDepth 100000 in
set_option maxHeartbeats 4000000 in
theorem speclex_begins.calls (w : World) : Calls Tryd.prog 14 #[] w fun e w' => e = .returned (.agg (tabOf cls)) ∧ Below w.heap.size w w' := by
  have hzv := (zero_of_info info256).1
  have kc := fun (w : World) (C : Array Value) (n c : Nat) => Lib.run_convert_bytes_const (P := Tryd.prog) w 47 5 C n c Tryd.underlying47 Tryd.underlying5
  go_enter Tryd.func14, Tryd.ntmps14
  go_wp2
  go_loopw [6] (fun v wr => ∃ k : Nat, v = .int .i64 (k : Int) ∧ k ≤ 256 ∧ RowT w.heap.size (c1 k) wr ∧ Below w.heap.size w wr) (fun v _ => 256 - (intOf v).toNat)
  case atStart => exact ⟨0, rfl, by omega, (RowT.zero w).ext (fun c _ => rfl), below_alloc (Below.refl _ _) _⟩
  case round =>
    obtain ⟨k, rfl, hk, hR, hB⟩ := hrel
    by_cases hlt : k < 256
    · have hki : (k : Int) < 256 := by omega
      obtain ⟨hc, hf⟩ := hR.cell k hlt
      have HR := Aside0.mk hR
      have HB := Aside0.mk hB
      clear hR hB
      have nx : ∀ {W : World} (v : Nat), RowT w.heap.size (c1 k) W → v = cls1 k → RowT w.heap.size (c1 (k + 1)) (W.setCell ⟨w.heap.size, k, none⟩ (.int .u8 (v : Int))) := fun v h e => (h.put k v hlt).ext fun c _ => by
        unfold c1
        by_cases q : c = k
        · subst q; rw [if_pos rfl, if_pos (by omega), e]
        · rw [if_neg q]; by_cases q2 : c < k
          · rw [if_pos q2, if_pos (by omega)]
          · rw [if_neg q2, if_neg (by omega)]
      have nx0 : ∀ {W : World}, RowT w.heap.size (c1 k) W → cls1 k = 0 → RowT w.heap.size (c1 (k + 1)) W := fun h e => h.ext fun c _ => by
        unfold c1
        by_cases q : c = k
        · subst q; rw [if_neg (by omega), if_pos (by omega), e]
        · by_cases q2 : c < k
          · rw [if_pos q2, if_pos (by omega)]
          · rw [if_neg q2, if_neg (by omega)]
      have NX := Aside0.mk @nx
      have NX0 := Aside0.mk @nx0
      clear nx nx0
      have hlv := letter_val k hlt
      cases hl : letB k with
      | true =>
        rw [hl] at hlv
        have e1 : cls1 k = 1 := by unfold cls1; rw [hl]; rfl
        go_wp2_with (go_at_call 15; refine (speclex_letter.calls _ _ _ hlv).mono ?_; rintro e w' ⟨rfl, q, rfl⟩)
        go_roundw
        case rel => exact ⟨k + 1, rfl, by omega, NX.out 1 (HR.out.below (pw_below_drewN (Below.refl _ _) q)) e1.symm, (pw_below_drewN HB.out q).setCell (by simp) _⟩
        case measure => simp [intOf]; omega
      | false =>
        rw [hl] at hlv
        by_cases h48 : 48 ≤ k
        · by_cases h57 : k ≤ 57
          · have e1 : cls1 k = 2 := by unfold cls1; rw [hl, if_neg (by simp), if_pos ⟨h48, h57⟩]
            have d48 : decide ((48 : Int) ≤ (k : Int)) = true := decide_eq_true (by omega)
            have d57 : decide ((k : Int) ≤ 57) = true := decide_eq_true (by omega)
            go_wp2_with (go_at_call 15; refine (speclex_letter.calls _ _ _ hlv).mono ?_; rintro e w' ⟨rfl, q, rfl⟩)
            go_roundw
            case rel => exact ⟨k + 1, rfl, by omega, NX.out 2 (HR.out.below (pw_below_drewN (Below.refl _ _) q)) e1.symm, (pw_below_drewN HB.out q).setCell (by simp) _⟩
            case measure => simp [intOf]; omega
          · have e1 : cls1 k = 0 := by unfold cls1; rw [hl, if_neg (by simp), if_neg (by omega)]
            have d48 : decide ((48 : Int) ≤ (k : Int)) = true := decide_eq_true (by omega)
            have d57 : decide ((k : Int) ≤ 57) = false := decide_eq_false (by omega)
            go_wp2_with (go_at_call 15; refine (speclex_letter.calls _ _ _ hlv).mono ?_; rintro e w' ⟨rfl, q, rfl⟩)
            go_roundw
            case rel => exact ⟨k + 1, rfl, by omega, NX0.out (HR.out.below (pw_below_drewN (Below.refl _ _) q)) e1, pw_below_drewN HB.out q⟩
            case measure => simp [intOf]; omega
        · have e1 : cls1 k = 0 := by unfold cls1; rw [hl, if_neg (by simp), if_neg (by omega)]
          have d48 : decide ((48 : Int) ≤ (k : Int)) = false := decide_eq_false (by omega)
          go_wp2_with (go_at_call 15; refine (speclex_letter.calls _ _ _ hlv).mono ?_; rintro e w' ⟨rfl, q, rfl⟩)
          go_roundw
          case rel => exact ⟨k + 1, rfl, by omega, NX0.out (HR.out.below (pw_below_drewN (Below.refl _ _) q)) e1, pw_below_drewN HB.out q⟩
          case measure => simp [intOf]; omega
    · obtain rfl : k = 256 := by omega
      have HR := Aside0.mk (hR.ext (h := c2 0) (fun c hc => by unfold c1 c2; rw [if_pos hc]; simp))
      have HB := Aside0.mk hB
      clear hR hB
      have hgl2 : w.heap.size ≠ wr.heap.size := by have := (Array.getElem?_eq_some_iff.1 HR.out).1; omega
      go_wp2
      go_loopw [28] (fun v wx => ∃ i : Nat, v = .int .i64 (i : Int) ∧ i ≤ 10 ∧ RowT w.heap.size (c2 i) wx ∧ BytesT wr.heap.size signL wx ∧ Below w.heap.size w wx) (fun v _ => 10 - (intOf v).toNat)
      case atStart => exact ⟨0, rfl, by omega, HR.out.below (below_alloc (Below.refl _ _) _), BytesT.new wr signL, below_alloc HB.out _⟩
      case round =>
        obtain ⟨i, rfl, hi, hR2, hT2, hB2⟩ := hrel
        by_cases h10 : i < 10
        · have hii : (i : Int) < 10 := by omega
          have hcb := hT2.cell i h10
          obtain ⟨x, hx⟩ : ∃ x, signL[i]'h10 = x := ⟨_, rfl⟩
          have hx256 : x < 256 := by
            have : ∀ j : Fin 10, signL[j] < 256 := by decide
            have := this ⟨i, h10⟩; simp only [Fin.getElem_fin] at this; omega
          rw [hx] at hcb
          obtain ⟨hc, hf⟩ := hR2.cell x hx256
          have HR2 := Aside0.mk hR2
          have HT2 := Aside0.mk hT2
          have HB2 := Aside0.mk hB2
          have hxi : (x : Int) < 256 := by omega
          have HX := Aside0.mk hx
          clear hR2 hT2 hB2 hx
          go_wp2
          go_roundw
          case rel =>
            refine ⟨i + 1, rfl, by omega, (HR2.out.put x 6 hx256).ext (fun c _ => ?_), HT2.out.set hgl2 _ _, HB2.out.setCell (by simp) _⟩
            unfold c2
            rw [List.take_add_one, List.getElem?_eq_getElem h10, HX.out]
            by_cases q : c = x
            · rw [if_pos q, if_pos (by simp [q])]
            · rw [if_neg q]
              simp [q]
          case measure => simp [intOf]; omega
        · obtain rfl : i = 10 := by omega
          have HR2 := Aside0.mk (hR2.ext (h := c3 0) (fun c hc => by unfold c3; simp))
          have HB2 := Aside0.mk hB2
          clear hR2 hT2 hB2
          have hgl3 : w.heap.size ≠ wr.heap.size := by have := (Array.getElem?_eq_some_iff.1 HR2.out).1; omega
          go_wp2
          go_loopw [38] (fun v wx => ∃ i : Nat, v = .int .i64 (i : Int) ∧ i ≤ 4 ∧ RowT w.heap.size (c3 i) wx ∧ BytesT wr.heap.size spaceL wx ∧ Below w.heap.size w wx) (fun v _ => 4 - (intOf v).toNat)
          case atStart => exact ⟨0, rfl, by omega, HR2.out.below (below_alloc (Below.refl _ _) _), BytesT.new wr spaceL, below_alloc HB2.out _⟩
          case round =>
            obtain ⟨i, rfl, hi, hR2, hT2, hB2⟩ := hrel
            by_cases h10 : i < 4
            · have hii : (i : Int) < 4 := by omega
              have hcb := hT2.cell i h10
              obtain ⟨x, hx⟩ : ∃ x, spaceL[i]'h10 = x := ⟨_, rfl⟩
              have hx256 : x < 256 := by
                have : ∀ j : Fin 4, spaceL[j] < 256 := by decide
                have := this ⟨i, h10⟩; simp only [Fin.getElem_fin] at this; omega
              rw [hx] at hcb
              obtain ⟨hc, hf⟩ := hR2.cell x hx256
              have HR2 := Aside0.mk hR2
              have HT2 := Aside0.mk hT2
              have HB2 := Aside0.mk hB2
              have hxi : (x : Int) < 256 := by omega
              have HX := Aside0.mk hx
              clear hR2 hT2 hB2 hx
              go_wp2
              go_roundw
              case rel =>
                refine ⟨i + 1, rfl, by omega, (HR2.out.put x 7 hx256).ext (fun c _ => ?_), HT2.out.set hgl3 _ _, HB2.out.setCell (by simp) _⟩
                unfold c3
                rw [List.take_add_one, List.getElem?_eq_getElem h10, HX.out]
                by_cases q : c = x
                · rw [if_pos q, if_pos (by simp [q])]
                · rw [if_neg q]
                  simp [q]
              case measure => simp [intOf]; omega
            · obtain rfl : i = 4 := by omega
              obtain ⟨k1, f1⟩ := hR2.cell 34 (by omega)
              obtain ⟨k2, f2⟩ := hR2.cell 47 (by omega)
              obtain ⟨k3, f3⟩ := hR2.cell 37 (by omega)
              obtain ⟨k4, f4⟩ := hR2.cell 35 (by omega)
              have HR2 := Aside0.mk hR2
              have HB2 := Aside0.mk hB2
              clear hR2 hT2 hB2
              have goal0 : ∀ W : World, RowT w.heap.size c4 W → Below w.heap.size w W → RowT w.heap.size cls W ∧ Below w.heap.size w W := fun W h1 h2 => ⟨h1.ext fun c hc => c4_eq c hc, h2⟩
              have HG := Aside0.mk goal0
              clear goal0
              go_wp2_with (first
                | ((with_reducible refine gate_dst (N := 49) rfl ?_); obtain ⟨hr5, hb5⟩ := HG.out _ ((((HR2.out.put 34 3 (by omega)).put 47 4 (by omega)).put 37 5 (by omega)).put 35 8 (by omega)) ((((HB2.out.setCell (by simp) _).setCell (by simp) _).setCell (by simp) _).setCell (by simp) _); have HR5 := Aside0.mk hr5; have HB5 := Aside0.mk hb5; clear hr5 hb5; refine Kd.event_run (v := .agg (tabOf cls)) rfl (RowT.load HR5.out) ?_)
                | ((with_reducible refine gate_store (t := 38) (p := 0) (v := .tmp 49) rfl ?_); refine store_event rfl rfl rfl (RowT.store HR5.out cls) ?_; rintro _ rfl; have HR6 := Aside0.mk (RowT.setRow HR5.out cls); have HB6 := Aside0.mk (below_setRow HB5.out (g := w.heap.size) (Nat.le_refl _) (tabOf cls))))
              (try simp only [Exit.inBlock, Exit.then])
              exact begins_ret HR6.out HB6.out rfl rfl
end Go.Proofs.YthijdjpipjbkbaaDoor.H
end
section
namespace Go.Proofs.YthijdjpipjbkbaaDoor.H
open Go.RowKit Go.Shelf Go.Proofs.YthijdjpipjbkbaaDoorW.PrintWords Go.Proofs.YthijdjpipjbkbaaDoorW.PrintLast Go.Proofs.YthijdjpipjbkbaaDoorW.PrintMore
open Go.Maps
set_option linter.unusedVariables false
set_option linter.unusedSimpArgs false
def tokB (m : S32) : List UInt8 := if m.f0 = 2 then quoteB m.f1 (runesL m.f1) ++ [34] else if m.f0 = 3 then 47 :: (m.f1.data.toList ++ [47]) else m.f1.data.toList
def glue (p : S32) : Bool := decide (p.f0 = 6) && decide (p.f1.toList = [35])
def sepB : Option S32 → List UInt8
  | none => []
  | some p => if glue p then [] else [32]
def showFrom : Option S32 → List S32 → List UInt8
  | _, [] => []
  | p, m :: r => sepB p ++ tokB m ++ showFrom (some m) r
def smallToks (l : List S32) : Bool := decide (l.length ≤ 65536) && l.all fun m => decide (m.f1.size ≤ 1048576)
def speclex_Show.f (l : List S32) : Option ByteArray := if smallToks l = true then some ⟨(showFrom none l).toArray⟩ else none
def prevOf (l : List S32) (k : Nat) : Option S32 := if k = 0 then none else l[k - 1]?
theorem tokB_len (m : S32) (h : m.f1.size ≤ 1048576) : (tokB m).length ≤ 20971523 := by
  have h1 : ∀ rs : List S65, (rs.flatMap (escOf m.f1)).length ≤ 20 * rs.length := by
    intro rs
    induction rs with
    | nil => simp
    | cons x r ih => have := escOf_len m.f1 x; simp only [List.flatMap_cons, List.length_append, List.length_cons]; omega
  have h2 := h1 (runesL m.f1)
  have h3 : (runesL m.f1).length ≤ m.f1.size := by have := runesFrom_len m.f1 m.f1.size 0; simpa [runesL] using this
  have h4 : m.f1.data.toList.length = m.f1.size := by rw [Array.length_toList]; rfl
  unfold tokB quoteB
  split
  · simp only [List.length_append, List.length_cons, List.length_nil]; omega
  · split
    · simp only [List.length_append, List.length_cons, List.length_nil]; omega
    · omega
theorem showFrom_len (l : List S32) (h : ∀ m ∈ l, m.f1.size ≤ 1048576) : ∀ p, (showFrom p l).length ≤ 20971524 * l.length := by
  induction l with
  | nil => intro p; simp [showFrom]
  | cons m r ih =>
    intro p
    have h1 := tokB_len m (h m List.mem_cons_self)
    have h2 := ih (fun x hx => h x (List.mem_cons_of_mem _ hx)) (some m)
    have h3 : (sepB p).length ≤ 1 := by unfold sepB; split <;> (try split) <;> simp
    simp only [showFrom, List.length_append, List.length_cons]; omega
theorem showFrom_snoc (l : List S32) (m : S32) : ∀ p, showFrom p (l ++ [m]) = showFrom p l ++ (sepB (match l.getLast? with | some x => some x | none => p) ++ tokB m) := by
  induction l with
  | nil => intro p; simp [showFrom]
  | cons x r ih =>
    intro p
    rw [List.cons_append]
    simp only [showFrom]
    rw [ih (some x)]
    have : (match (x :: r).getLast? with | some y => some y | none => p) = (match r.getLast? with | some y => some y | none => some x) := by
      cases r with
      | nil => rfl
      | cons y s => rw [List.getLast?_cons_cons]; cases h : (y :: s).getLast? with
        | none => simp at h
        | some z => rfl
    rw [this]
    simp only [List.append_assoc]
theorem showFrom_take (l : List S32) (k : Nat) (h : k < l.length) : showFrom none (l.take (k + 1)) = showFrom none (l.take k) ++ (sepB (prevOf l k) ++ tokB l[k]) := by
  rw [List.take_succ_eq_append_getElem h, showFrom_snoc]
  congr 2
  cases k with
  | zero => simp [prevOf]
  | succ j =>
    have : (l.take (j + 1)).getLast? = some l[j] := by
      rw [List.take_succ_eq_append_getElem (by omega), List.getLast?_append]; simp
    rw [this]
    unfold prevOf
    rw [if_neg (by omega), Nat.add_sub_cancel, List.getElem?_eq_getElem (by omega)]
set_option maxRecDepth 100000 in
set_option maxHeartbeats 8000000 in
theorem speclex_Show.calls (A0 : Option Addr) (c0 : Nat) (l0 : List S32) (r : ByteArray) (w : World) (hgw : GW w) (hr0 : Kd.C k32 w A0 l0.length l0) (hc0 : l0.length ≤ c0) (h : speclex_Show.f l0 = some r) :
    Calls Tryd.prog 12 #[.slice A0 l0.length c0] w fun e w' => e = .returned (.string r) ∧ Below w.heap.size w w' := by
  have HGW := Aside0.mk hgw
  have HR0 := Aside0.mk hr0
  clear hgw hr0
  have hu32 := Tryd.underlying32
  unfold speclex_Show.f at h
  split at h
  case isFalse => cases h
  rename_i hsm
  have HP := Aside0.mk (Option.some.inj h)
  clear h
  obtain ⟨hn, hall⟩ : l0.length ≤ 65536 ∧ ∀ m ∈ l0, m.f1.size ≤ 1048576 := by
    unfold smallToks at hsm
    simpa [List.all_eq_true] using hsm
  have HALL := Aside0.mk hall
  clear hsm hall
  have HB0 := Aside0.mk (Bd.new w)
  go_enter Tryd.func12, Tryd.ntmps12
  go_wp2
  go_loopw [8] (fun v8 wr => ∃ k : Nat, v8 = .int .i64 (k : Int) ∧ k ≤ l0.length ∧ Aside0 (Bd w.heap.size (showFrom none (l0.take k)) wr) ∧ Aside0 (Below w.heap.size w wr)) (fun v8 _ => l0.length - (intOf v8).toNat)
  case atStart => exact ⟨0, rfl, Nat.zero_le _, ⟨by simpa [showFrom] using HB0.out⟩, ⟨below_alloc (Below.refl _ _) _⟩⟩
  case round =>
    obtain ⟨k, rfl, hk, HB, HL⟩ := hrel
    by_cases hlt : k < l0.length
    case neg =>
      obtain rfl : k = l0.length := by omega
      have hs := HB.out.string
      rw [List.take_length] at hs
      go_wp2_with (go_at_call 23; refine hs.mono ?_; rintro e w1 ⟨rfl, hb⟩)
      go_ret
      exact ⟨by rw [← HP.out]; rfl, HL.out.trans hb⟩
    have hki : (k : Int) < (l0.length : Int) := by omega
    have HS := Aside0.mk (showFrom_take l0 k hlt)
    have hlen := showFrom_len (l0.take k) (fun m hm => HALL.out m (List.mem_of_mem_take hm)) none
    have htl : (l0.take k).length ≤ 65536 := by rw [List.length_take]; omega
    obtain ⟨acc, hacc⟩ : ∃ acc, showFrom none (l0.take k) = acc := ⟨_, rfl⟩
    rw [hacc] at HB HS hlen
    have haccl : acc.length ≤ 1400000000000 := by omega
    have HACC := Aside0.mk haccl
    clear hlen htl hacc haccl
    have hC := Kd.C_below HR0.out HL.out
    obtain ⟨ad, rfl, hx0, hx1, hx2⟩ := at_T32 hC (k : Int) (by omega) (by omega)
    have hrd : rd_T32 l0 (k : Int) = l0[k] := by simp [rd_T32, List.getD_eq_getElem?_getD, List.getElem?_eq_getElem hlt]
    rw [hrd] at hx0 hx1 hx2
    simp only [Int.toNat_natCast] at hx0 hx1 hx2
    have hm := HALL.out _ (List.getElem_mem hlt)
    have htok := tokB_len _ hm
    obtain ⟨⟨f0, f1, f2⟩, hx⟩ : ∃ x, l0[k] = x := ⟨_, rfl⟩
    rw [hx] at hx0 hx1 hx2 hm HS htok
    dsimp only at hx0 hx1 hx2 hm
    clear hx hrd hC
    have HM := Aside0.mk hm
    have HTOK := Aside0.mk htok
    clear hm htok
    rcases Nat.eq_zero_or_pos k with hk0 | hk0
    · subst hk0
      have e0 : ad.add (0 * 3) = ad := by rw [Nat.zero_mul]; cases ad; simp [Addr.add]
      rw [e0] at hx0 hx1 hx2
      have HSV := Aside0.mk (show sepB (prevOf l0 0) = [] from rfl)
      by_cases h2 : f0 = 2
      · have b2 : (f0 == 2) = true := beq_iff_eq.mpr h2
        have HTK := Aside0.mk (show tokB ⟨f0, f1, f2⟩ = quoteB f1 (runesL f1) ++ [34] by unfold tokB; rw [if_pos h2])
        have HQ := Aside0.mk (show text_Quote.f f1 = some (⟨(quoteB f1 (runesL f1)).toArray⟩ ++ ⟨#[34]⟩) by unfold text_Quote.f; rw [if_pos (by have := HM.out; omega)])
        obtain ⟨qs, hqs⟩ : ∃ qs : ByteArray, (⟨(quoteB f1 (runesL f1)).toArray⟩ ++ ⟨#[34]⟩ : ByteArray) = qs := ⟨_, rfl⟩
        have HQD := Aside0.mk (show qs.data.toList = tokB ⟨f0, f1, f2⟩ by rw [HTK.out, ← hqs, ByteArray.data_append]; simp)
        have hql : qs.data.toList.length = qs.size := by rw [Array.length_toList]; rfl
        have HQL := Aside0.mk (show qs.size ≤ 20971523 by rw [← hql, HQD.out]; exact HTOK.out)
        rw [hqs] at HQ
        clear hqs HTK h2 hql
        go_wp2_with (first
          | ((with_reducible refine gate_dst (N := 5) rfl ?_); refine box_event ?hg (N := 5) ?hd (cs := #[.int .i64 0, .string (⟨#[]⟩ : ByteArray), .int .i64 0]) (t := 32) ?hr ?_; (case hd => rfl); (case hg => rfl); (case hr => first | (go_simp; done) | (go_simp; rfl)); intro gb hg w2 hbox hb; have BK := Aside0.mk hbox; have GB := Aside0.mk hg; have HB2 := Aside0.mk hb; clear hbox hb hg; have z0 : w2.cell? ⟨gb, 0, none⟩ = some (.int .i64 0) := (blk_cell BK.out 0).trans rfl; have z1 : w2.cell? ⟨gb, 1, none⟩ = some (.string (⟨#[]⟩ : ByteArray)) := (blk_cell BK.out 1).trans rfl; have z2 : w2.cell? ⟨gb, 2, none⟩ = some (.int .i64 0) := (blk_cell BK.out 2).trans rfl; have y0 := blk_frozen BK.out 0; have y1 := blk_frozen BK.out 1; have y2 := blk_frozen BK.out 2)
          | ((with_reducible refine gate_store (t := 32) (p := 5) (v := .tmp 12) rfl ?_); refine store_event rfl rfl rfl (w1 := (((w2.setCell ⟨gb, 0, none⟩ (.int .i64 f0)).setCell ⟨gb, 1, none⟩ (.string f1)).setCell ⟨gb, 2, none⟩ (.int .i64 f2))) ?hr ?_; (case hr => first | (go_simp; done) | (go_simp; rfl)); intro w3 hw3; have BK3 := Aside0.mk (show w3.heap[gb]? = some (.cells #[.int .i64 f0, .string f1, .int .i64 f2] 32 (0, 0)) from hw3 ▸ blk_put (cs := #[.int .i64 f0, .string f1, .int .i64 0]) (blk_put (cs := #[.int .i64 f0, .string (⟨#[]⟩ : ByteArray), .int .i64 0]) (blk_put (cs := #[.int .i64 0, .string (⟨#[]⟩ : ByteArray), .int .i64 0]) BK.out 0 _ rfl) 1 _ rfl) 2 _ rfl); have hb3 : Below wr.heap.size wr w3 := hw3 ▸ below_set (below_set (below_set HB2.out (Nat.le_of_eq GB.out.symm)) (Nat.le_of_eq GB.out.symm)) (Nat.le_of_eq GB.out.symm); have HB3 := Aside0.mk (HB.out.below hb3); have HL3 := Aside0.mk (below_step HL.out hb3); have GNE := Aside0.mk (show gb ≠ w.heap.size by have := HB.out.lt; have := GB.out; omega); clear hw3 hb3 z0 z1 z2 y0 y1 y2; have m0 : w3.cell? ⟨gb, 0, none⟩ = some (.int .i64 f0) := (blk_cell BK3.out 0).trans rfl; have m1 : w3.cell? ⟨gb, 1, none⟩ = some (.string f1) := (blk_cell BK3.out 1).trans rfl)
          | (go_at_call 22; refine (text_Quote.calls f1 _ _ (HGW.out.below HL3.out) HQ.out).mono ?_; rintro e w5 ⟨rfl, hb⟩; have HB5 := Aside0.mk (HB3.out.below hb); have HL5 := Aside0.mk (below_step HL3.out hb); clear hb)
          | (go_at_call 21; refine (HB5.out.write _ (by have := HQL.out; have := HACC.out; (try simp only [List.length_append, List.length_cons, List.length_nil]); omega)).mono ?_; rintro e w6 ⟨rfl, hb1, hB1, hO1⟩; have HB6 := Aside0.mk hb1; have HL6 := Aside0.mk (HL5.out.trans hB1); clear hb1 hB1 hO1))
        go_roundw
        case measure => simp [intOf]; omega
        case rel => exact ⟨0 + 1, rfl, by omega, ⟨by rw [HS.out, HSV.out, ← HQD.out]; simpa using HB6.out⟩, ⟨HL6.out⟩⟩
      by_cases h3 : f0 = 3
      · have b2 : (f0 == 2) = false := beq_eq_false_iff_ne.mpr h2
        have b3 : (f0 == 3) = true := beq_iff_eq.mpr h3
        have HQD := Aside0.mk (show (((⟨#[47]⟩ : ByteArray) ++ f1) ++ (⟨#[47]⟩ : ByteArray)).data.toList = tokB ⟨f0, f1, f2⟩ by unfold tokB; rw [if_neg h2, if_pos h3, ByteArray.data_append, ByteArray.data_append]; simp)
        have HQL := Aside0.mk (show (((⟨#[47]⟩ : ByteArray) ++ f1) ++ (⟨#[47]⟩ : ByteArray)).size ≤ 20971523 by rw [ByteArray.size_append, ByteArray.size_append]; have : (⟨#[47]⟩ : ByteArray).size = 1 := rfl; have := HM.out; omega)
        clear h2 h3
        have hm3 := HM.out
        go_wp2_with (first
          | ((with_reducible refine gate_dst (N := 5) rfl ?_); refine box_event ?hg (N := 5) ?hd (cs := #[.int .i64 0, .string (⟨#[]⟩ : ByteArray), .int .i64 0]) (t := 32) ?hr ?_; (case hd => rfl); (case hg => rfl); (case hr => first | (go_simp; done) | (go_simp; rfl)); intro gb hg w2 hbox hb; have BK := Aside0.mk hbox; have GB := Aside0.mk hg; have HB2 := Aside0.mk hb; clear hbox hb hg; have z0 : w2.cell? ⟨gb, 0, none⟩ = some (.int .i64 0) := (blk_cell BK.out 0).trans rfl; have z1 : w2.cell? ⟨gb, 1, none⟩ = some (.string (⟨#[]⟩ : ByteArray)) := (blk_cell BK.out 1).trans rfl; have z2 : w2.cell? ⟨gb, 2, none⟩ = some (.int .i64 0) := (blk_cell BK.out 2).trans rfl; have y0 := blk_frozen BK.out 0; have y1 := blk_frozen BK.out 1; have y2 := blk_frozen BK.out 2)
          | ((with_reducible refine gate_store (t := 32) (p := 5) (v := .tmp 12) rfl ?_); refine store_event rfl rfl rfl (w1 := (((w2.setCell ⟨gb, 0, none⟩ (.int .i64 f0)).setCell ⟨gb, 1, none⟩ (.string f1)).setCell ⟨gb, 2, none⟩ (.int .i64 f2))) ?hr ?_; (case hr => first | (go_simp; done) | (go_simp; rfl)); intro w3 hw3; have BK3 := Aside0.mk (show w3.heap[gb]? = some (.cells #[.int .i64 f0, .string f1, .int .i64 f2] 32 (0, 0)) from hw3 ▸ blk_put (cs := #[.int .i64 f0, .string f1, .int .i64 0]) (blk_put (cs := #[.int .i64 f0, .string (⟨#[]⟩ : ByteArray), .int .i64 0]) (blk_put (cs := #[.int .i64 0, .string (⟨#[]⟩ : ByteArray), .int .i64 0]) BK.out 0 _ rfl) 1 _ rfl) 2 _ rfl); have hb3 : Below wr.heap.size wr w3 := hw3 ▸ below_set (below_set (below_set HB2.out (Nat.le_of_eq GB.out.symm)) (Nat.le_of_eq GB.out.symm)) (Nat.le_of_eq GB.out.symm); have HB3 := Aside0.mk (HB.out.below hb3); have HL3 := Aside0.mk (below_step HL.out hb3); have GNE := Aside0.mk (show gb ≠ w.heap.size by have := HB.out.lt; have := GB.out; omega); clear hw3 hb3 z0 z1 z2 y0 y1 y2; have m0 : w3.cell? ⟨gb, 0, none⟩ = some (.int .i64 f0) := (blk_cell BK3.out 0).trans rfl; have m1 : w3.cell? ⟨gb, 1, none⟩ = some (.string f1) := (blk_cell BK3.out 1).trans rfl)
          | (go_at_call 21; refine (HB3.out.write _ (by have := HQL.out; have := HACC.out; (try simp only [List.length_append, List.length_cons, List.length_nil]); omega)).mono ?_; rintro e w6 ⟨rfl, hb1, hB1, hO1⟩; have HB6 := Aside0.mk hb1; have HL6 := Aside0.mk (HL3.out.trans hB1); clear hb1 hB1 hO1))
        go_roundw
        case measure => simp [intOf]; omega
        case rel => exact ⟨0 + 1, rfl, by omega, ⟨by rw [HS.out, HSV.out, ← HQD.out]; simpa using HB6.out⟩, ⟨HL6.out⟩⟩
      · have b2 : (f0 == 2) = false := beq_eq_false_iff_ne.mpr h2
        have b3 : (f0 == 3) = false := beq_eq_false_iff_ne.mpr h3
        have HQD := Aside0.mk (show f1.data.toList = tokB ⟨f0, f1, f2⟩ by unfold tokB; rw [if_neg h2, if_neg h3])
        have HQL := Aside0.mk (show f1.size ≤ 20971523 by have := HM.out; omega)
        clear h2 h3
        go_wp2_with (first
          | ((with_reducible refine gate_dst (N := 5) rfl ?_); refine box_event ?hg (N := 5) ?hd (cs := #[.int .i64 0, .string (⟨#[]⟩ : ByteArray), .int .i64 0]) (t := 32) ?hr ?_; (case hd => rfl); (case hg => rfl); (case hr => first | (go_simp; done) | (go_simp; rfl)); intro gb hg w2 hbox hb; have BK := Aside0.mk hbox; have GB := Aside0.mk hg; have HB2 := Aside0.mk hb; clear hbox hb hg; have z0 : w2.cell? ⟨gb, 0, none⟩ = some (.int .i64 0) := (blk_cell BK.out 0).trans rfl; have z1 : w2.cell? ⟨gb, 1, none⟩ = some (.string (⟨#[]⟩ : ByteArray)) := (blk_cell BK.out 1).trans rfl; have z2 : w2.cell? ⟨gb, 2, none⟩ = some (.int .i64 0) := (blk_cell BK.out 2).trans rfl; have y0 := blk_frozen BK.out 0; have y1 := blk_frozen BK.out 1; have y2 := blk_frozen BK.out 2)
          | ((with_reducible refine gate_store (t := 32) (p := 5) (v := .tmp 12) rfl ?_); refine store_event rfl rfl rfl (w1 := (((w2.setCell ⟨gb, 0, none⟩ (.int .i64 f0)).setCell ⟨gb, 1, none⟩ (.string f1)).setCell ⟨gb, 2, none⟩ (.int .i64 f2))) ?hr ?_; (case hr => first | (go_simp; done) | (go_simp; rfl)); intro w3 hw3; have BK3 := Aside0.mk (show w3.heap[gb]? = some (.cells #[.int .i64 f0, .string f1, .int .i64 f2] 32 (0, 0)) from hw3 ▸ blk_put (cs := #[.int .i64 f0, .string f1, .int .i64 0]) (blk_put (cs := #[.int .i64 f0, .string (⟨#[]⟩ : ByteArray), .int .i64 0]) (blk_put (cs := #[.int .i64 0, .string (⟨#[]⟩ : ByteArray), .int .i64 0]) BK.out 0 _ rfl) 1 _ rfl) 2 _ rfl); have hb3 : Below wr.heap.size wr w3 := hw3 ▸ below_set (below_set (below_set HB2.out (Nat.le_of_eq GB.out.symm)) (Nat.le_of_eq GB.out.symm)) (Nat.le_of_eq GB.out.symm); have HB3 := Aside0.mk (HB.out.below hb3); have HL3 := Aside0.mk (below_step HL.out hb3); have GNE := Aside0.mk (show gb ≠ w.heap.size by have := HB.out.lt; have := GB.out; omega); clear hw3 hb3 z0 z1 z2 y0 y1 y2; have m0 : w3.cell? ⟨gb, 0, none⟩ = some (.int .i64 f0) := (blk_cell BK3.out 0).trans rfl; have m1 : w3.cell? ⟨gb, 1, none⟩ = some (.string f1) := (blk_cell BK3.out 1).trans rfl)
          | (go_at_call 21; refine (HB3.out.write _ (by have := HQL.out; have := HACC.out; (try simp only [List.length_append, List.length_cons, List.length_nil]); omega)).mono ?_; rintro e w6 ⟨rfl, hb1, hB1, hO1⟩; have HB6 := Aside0.mk hb1; have HL6 := Aside0.mk (HL3.out.trans hB1); clear hb1 hB1 hO1))
        go_roundw
        case measure => simp [intOf]; omega
        case rel => exact ⟨0 + 1, rfl, by omega, ⟨by rw [HS.out, HSV.out, ← HQD.out]; simpa using HB6.out⟩, ⟨HL6.out⟩⟩
    obtain ⟨j, rfl⟩ : ∃ j, k = j + 1 := ⟨k - 1, by omega⟩
    clear hk0
    have hprd : rd_T32 l0 (j : Int) = l0[j]'(by omega) := by simp [rd_T32, List.getD_eq_getElem?_getD, List.getElem?_eq_getElem (show j < l0.length by omega)]
    have hpv : prevOf l0 (j + 1) = some (l0[j]'(by omega)) := by unfold prevOf; rw [if_neg (by omega), Nat.add_sub_cancel, List.getElem?_eq_getElem (by omega)]
    obtain ⟨⟨p0, p1, p2⟩, hp⟩ : ∃ x, l0[j]'(by omega) = x := ⟨_, rfl⟩
    rw [hp] at hprd hpv
    have PRD := Aside0.mk hprd
    clear hprd hp
    by_cases hp6 : p0 = 6
    · have b6 : (p0 != 6) = false := bne_eq_false_iff_eq.mpr hp6
      have b60 : (p0 == 6) = true := beq_iff_eq.mpr hp6
      by_cases hpt : p1.toList = [35]
      · have b7 : (p1.toList == [35]) = true := by simpa using hpt
        have b70 : (p1.toList != [35]) = false := by simpa using hpt
        have HSV := Aside0.mk (show sepB (prevOf l0 (j + 1)) = [] by rw [hpv]; unfold sepB glue; simp [hp6, hpt])
        clear hpv hp6 hpt
        by_cases h2 : f0 = 2
        · have b2 : (f0 == 2) = true := beq_iff_eq.mpr h2
          have HTK := Aside0.mk (show tokB ⟨f0, f1, f2⟩ = quoteB f1 (runesL f1) ++ [34] by unfold tokB; rw [if_pos h2])
          have HQ := Aside0.mk (show text_Quote.f f1 = some (⟨(quoteB f1 (runesL f1)).toArray⟩ ++ ⟨#[34]⟩) by unfold text_Quote.f; rw [if_pos (by have := HM.out; omega)])
          obtain ⟨qs, hqs⟩ : ∃ qs : ByteArray, (⟨(quoteB f1 (runesL f1)).toArray⟩ ++ ⟨#[34]⟩ : ByteArray) = qs := ⟨_, rfl⟩
          have HQD := Aside0.mk (show qs.data.toList = tokB ⟨f0, f1, f2⟩ by rw [HTK.out, ← hqs, ByteArray.data_append]; simp)
          have hql : qs.data.toList.length = qs.size := by rw [Array.length_toList]; rfl
          have HQL := Aside0.mk (show qs.size ≤ 20971523 by rw [← hql, HQD.out]; exact HTOK.out)
          rw [hqs] at HQ
          clear hqs HTK h2 hql
          go_wp2_with (first
            | ((with_reducible refine gate_dst (N := 5) rfl ?_); refine box_event ?hg (N := 5) ?hd (cs := #[.int .i64 0, .string (⟨#[]⟩ : ByteArray), .int .i64 0]) (t := 32) ?hr ?_; (case hd => rfl); (case hg => rfl); (case hr => first | (go_simp; done) | (go_simp; rfl)); intro gb hg w2 hbox hb; have BK := Aside0.mk hbox; have GB := Aside0.mk hg; have HB2 := Aside0.mk hb; clear hbox hb hg; have z0 : w2.cell? ⟨gb, 0, none⟩ = some (.int .i64 0) := (blk_cell BK.out 0).trans rfl; have z1 : w2.cell? ⟨gb, 1, none⟩ = some (.string (⟨#[]⟩ : ByteArray)) := (blk_cell BK.out 1).trans rfl; have z2 : w2.cell? ⟨gb, 2, none⟩ = some (.int .i64 0) := (blk_cell BK.out 2).trans rfl; have y0 := blk_frozen BK.out 0; have y1 := blk_frozen BK.out 1; have y2 := blk_frozen BK.out 2)
            | ((with_reducible refine gate_store (t := 32) (p := 5) (v := .tmp 12) rfl ?_); refine store_event rfl rfl rfl (w1 := (((w2.setCell ⟨gb, 0, none⟩ (.int .i64 f0)).setCell ⟨gb, 1, none⟩ (.string f1)).setCell ⟨gb, 2, none⟩ (.int .i64 f2))) ?hr ?_; (case hr => first | (go_simp; done) | (go_simp; rfl)); intro w3 hw3; have BK3 := Aside0.mk (show w3.heap[gb]? = some (.cells #[.int .i64 f0, .string f1, .int .i64 f2] 32 (0, 0)) from hw3 ▸ blk_put (cs := #[.int .i64 f0, .string f1, .int .i64 0]) (blk_put (cs := #[.int .i64 f0, .string (⟨#[]⟩ : ByteArray), .int .i64 0]) (blk_put (cs := #[.int .i64 0, .string (⟨#[]⟩ : ByteArray), .int .i64 0]) BK.out 0 _ rfl) 1 _ rfl) 2 _ rfl); have hb3 : Below wr.heap.size wr w3 := hw3 ▸ below_set (below_set (below_set HB2.out (Nat.le_of_eq GB.out.symm)) (Nat.le_of_eq GB.out.symm)) (Nat.le_of_eq GB.out.symm); have HB3 := Aside0.mk (HB.out.below hb3); have HL3 := Aside0.mk (below_step HL.out hb3); have GNE := Aside0.mk (show gb ≠ w.heap.size by have := HB.out.lt; have := GB.out; omega); clear hw3 hb3 z0 z1 z2 y0 y1 y2; have m0 : w3.cell? ⟨gb, 0, none⟩ = some (.int .i64 f0) := (blk_cell BK3.out 0).trans rfl; have m1 : w3.cell? ⟨gb, 1, none⟩ = some (.string f1) := (blk_cell BK3.out 1).trans rfl; have hC3 := Kd.C_below HR0.out HL3.out; obtain ⟨ad3, ha3, px0, px1, px2⟩ := at_T32 hC3 (j : Int) (by omega) (by omega); cases ha3; simp only [Int.toNat_natCast] at px0 px1 px2; rw [PRD.out] at px0 px1; clear hC3 px2)
            | (go_at_call 22; refine (text_Quote.calls f1 _ _ (HGW.out.below HL3.out) HQ.out).mono ?_; rintro e w5 ⟨rfl, hb⟩; have HB5 := Aside0.mk (HB3.out.below hb); have HL5 := Aside0.mk (below_step HL3.out hb); clear hb)
            | (go_at_call 21; refine (HB5.out.write _ (by have := HQL.out; have := HACC.out; (try simp only [List.length_append, List.length_cons, List.length_nil]); omega)).mono ?_; rintro e w6 ⟨rfl, hb1, hB1, hO1⟩; have HB6 := Aside0.mk hb1; have HL6 := Aside0.mk (HL5.out.trans hB1); clear hb1 hB1 hO1))
          go_roundw
          case measure => simp [intOf]; omega
          case rel => exact ⟨j + 1 + 1, rfl, by omega, ⟨by rw [HS.out, HSV.out, ← HQD.out]; simpa using HB6.out⟩, ⟨HL6.out⟩⟩
        by_cases h3 : f0 = 3
        · have b2 : (f0 == 2) = false := beq_eq_false_iff_ne.mpr h2
          have b3 : (f0 == 3) = true := beq_iff_eq.mpr h3
          have HQD := Aside0.mk (show (((⟨#[47]⟩ : ByteArray) ++ f1) ++ (⟨#[47]⟩ : ByteArray)).data.toList = tokB ⟨f0, f1, f2⟩ by unfold tokB; rw [if_neg h2, if_pos h3, ByteArray.data_append, ByteArray.data_append]; simp)
          have HQL := Aside0.mk (show (((⟨#[47]⟩ : ByteArray) ++ f1) ++ (⟨#[47]⟩ : ByteArray)).size ≤ 20971523 by rw [ByteArray.size_append, ByteArray.size_append]; have : (⟨#[47]⟩ : ByteArray).size = 1 := rfl; have := HM.out; omega)
          clear h2 h3
          have hm3 := HM.out
          go_wp2_with (first
            | ((with_reducible refine gate_dst (N := 5) rfl ?_); refine box_event ?hg (N := 5) ?hd (cs := #[.int .i64 0, .string (⟨#[]⟩ : ByteArray), .int .i64 0]) (t := 32) ?hr ?_; (case hd => rfl); (case hg => rfl); (case hr => first | (go_simp; done) | (go_simp; rfl)); intro gb hg w2 hbox hb; have BK := Aside0.mk hbox; have GB := Aside0.mk hg; have HB2 := Aside0.mk hb; clear hbox hb hg; have z0 : w2.cell? ⟨gb, 0, none⟩ = some (.int .i64 0) := (blk_cell BK.out 0).trans rfl; have z1 : w2.cell? ⟨gb, 1, none⟩ = some (.string (⟨#[]⟩ : ByteArray)) := (blk_cell BK.out 1).trans rfl; have z2 : w2.cell? ⟨gb, 2, none⟩ = some (.int .i64 0) := (blk_cell BK.out 2).trans rfl; have y0 := blk_frozen BK.out 0; have y1 := blk_frozen BK.out 1; have y2 := blk_frozen BK.out 2)
            | ((with_reducible refine gate_store (t := 32) (p := 5) (v := .tmp 12) rfl ?_); refine store_event rfl rfl rfl (w1 := (((w2.setCell ⟨gb, 0, none⟩ (.int .i64 f0)).setCell ⟨gb, 1, none⟩ (.string f1)).setCell ⟨gb, 2, none⟩ (.int .i64 f2))) ?hr ?_; (case hr => first | (go_simp; done) | (go_simp; rfl)); intro w3 hw3; have BK3 := Aside0.mk (show w3.heap[gb]? = some (.cells #[.int .i64 f0, .string f1, .int .i64 f2] 32 (0, 0)) from hw3 ▸ blk_put (cs := #[.int .i64 f0, .string f1, .int .i64 0]) (blk_put (cs := #[.int .i64 f0, .string (⟨#[]⟩ : ByteArray), .int .i64 0]) (blk_put (cs := #[.int .i64 0, .string (⟨#[]⟩ : ByteArray), .int .i64 0]) BK.out 0 _ rfl) 1 _ rfl) 2 _ rfl); have hb3 : Below wr.heap.size wr w3 := hw3 ▸ below_set (below_set (below_set HB2.out (Nat.le_of_eq GB.out.symm)) (Nat.le_of_eq GB.out.symm)) (Nat.le_of_eq GB.out.symm); have HB3 := Aside0.mk (HB.out.below hb3); have HL3 := Aside0.mk (below_step HL.out hb3); have GNE := Aside0.mk (show gb ≠ w.heap.size by have := HB.out.lt; have := GB.out; omega); clear hw3 hb3 z0 z1 z2 y0 y1 y2; have m0 : w3.cell? ⟨gb, 0, none⟩ = some (.int .i64 f0) := (blk_cell BK3.out 0).trans rfl; have m1 : w3.cell? ⟨gb, 1, none⟩ = some (.string f1) := (blk_cell BK3.out 1).trans rfl; have hC3 := Kd.C_below HR0.out HL3.out; obtain ⟨ad3, ha3, px0, px1, px2⟩ := at_T32 hC3 (j : Int) (by omega) (by omega); cases ha3; simp only [Int.toNat_natCast] at px0 px1 px2; rw [PRD.out] at px0 px1; clear hC3 px2)
            | (go_at_call 21; refine (HB3.out.write _ (by have := HQL.out; have := HACC.out; (try simp only [List.length_append, List.length_cons, List.length_nil]); omega)).mono ?_; rintro e w6 ⟨rfl, hb1, hB1, hO1⟩; have HB6 := Aside0.mk hb1; have HL6 := Aside0.mk (HL3.out.trans hB1); clear hb1 hB1 hO1))
          go_roundw
          case measure => simp [intOf]; omega
          case rel => exact ⟨j + 1 + 1, rfl, by omega, ⟨by rw [HS.out, HSV.out, ← HQD.out]; simpa using HB6.out⟩, ⟨HL6.out⟩⟩
        · have b2 : (f0 == 2) = false := beq_eq_false_iff_ne.mpr h2
          have b3 : (f0 == 3) = false := beq_eq_false_iff_ne.mpr h3
          have HQD := Aside0.mk (show f1.data.toList = tokB ⟨f0, f1, f2⟩ by unfold tokB; rw [if_neg h2, if_neg h3])
          have HQL := Aside0.mk (show f1.size ≤ 20971523 by have := HM.out; omega)
          clear h2 h3
          go_wp2_with (first
            | ((with_reducible refine gate_dst (N := 5) rfl ?_); refine box_event ?hg (N := 5) ?hd (cs := #[.int .i64 0, .string (⟨#[]⟩ : ByteArray), .int .i64 0]) (t := 32) ?hr ?_; (case hd => rfl); (case hg => rfl); (case hr => first | (go_simp; done) | (go_simp; rfl)); intro gb hg w2 hbox hb; have BK := Aside0.mk hbox; have GB := Aside0.mk hg; have HB2 := Aside0.mk hb; clear hbox hb hg; have z0 : w2.cell? ⟨gb, 0, none⟩ = some (.int .i64 0) := (blk_cell BK.out 0).trans rfl; have z1 : w2.cell? ⟨gb, 1, none⟩ = some (.string (⟨#[]⟩ : ByteArray)) := (blk_cell BK.out 1).trans rfl; have z2 : w2.cell? ⟨gb, 2, none⟩ = some (.int .i64 0) := (blk_cell BK.out 2).trans rfl; have y0 := blk_frozen BK.out 0; have y1 := blk_frozen BK.out 1; have y2 := blk_frozen BK.out 2)
            | ((with_reducible refine gate_store (t := 32) (p := 5) (v := .tmp 12) rfl ?_); refine store_event rfl rfl rfl (w1 := (((w2.setCell ⟨gb, 0, none⟩ (.int .i64 f0)).setCell ⟨gb, 1, none⟩ (.string f1)).setCell ⟨gb, 2, none⟩ (.int .i64 f2))) ?hr ?_; (case hr => first | (go_simp; done) | (go_simp; rfl)); intro w3 hw3; have BK3 := Aside0.mk (show w3.heap[gb]? = some (.cells #[.int .i64 f0, .string f1, .int .i64 f2] 32 (0, 0)) from hw3 ▸ blk_put (cs := #[.int .i64 f0, .string f1, .int .i64 0]) (blk_put (cs := #[.int .i64 f0, .string (⟨#[]⟩ : ByteArray), .int .i64 0]) (blk_put (cs := #[.int .i64 0, .string (⟨#[]⟩ : ByteArray), .int .i64 0]) BK.out 0 _ rfl) 1 _ rfl) 2 _ rfl); have hb3 : Below wr.heap.size wr w3 := hw3 ▸ below_set (below_set (below_set HB2.out (Nat.le_of_eq GB.out.symm)) (Nat.le_of_eq GB.out.symm)) (Nat.le_of_eq GB.out.symm); have HB3 := Aside0.mk (HB.out.below hb3); have HL3 := Aside0.mk (below_step HL.out hb3); have GNE := Aside0.mk (show gb ≠ w.heap.size by have := HB.out.lt; have := GB.out; omega); clear hw3 hb3 z0 z1 z2 y0 y1 y2; have m0 : w3.cell? ⟨gb, 0, none⟩ = some (.int .i64 f0) := (blk_cell BK3.out 0).trans rfl; have m1 : w3.cell? ⟨gb, 1, none⟩ = some (.string f1) := (blk_cell BK3.out 1).trans rfl; have hC3 := Kd.C_below HR0.out HL3.out; obtain ⟨ad3, ha3, px0, px1, px2⟩ := at_T32 hC3 (j : Int) (by omega) (by omega); cases ha3; simp only [Int.toNat_natCast] at px0 px1 px2; rw [PRD.out] at px0 px1; clear hC3 px2)
            | (go_at_call 21; refine (HB3.out.write _ (by have := HQL.out; have := HACC.out; (try simp only [List.length_append, List.length_cons, List.length_nil]); omega)).mono ?_; rintro e w6 ⟨rfl, hb1, hB1, hO1⟩; have HB6 := Aside0.mk hb1; have HL6 := Aside0.mk (HL3.out.trans hB1); clear hb1 hB1 hO1))
          go_roundw
          case measure => simp [intOf]; omega
          case rel => exact ⟨j + 1 + 1, rfl, by omega, ⟨by rw [HS.out, HSV.out, ← HQD.out]; simpa using HB6.out⟩, ⟨HL6.out⟩⟩
      · have b7 : (p1.toList == [35]) = false := by simpa using hpt
        have b70 : (p1.toList != [35]) = true := by simpa using hpt
        have HSV := Aside0.mk (show sepB (prevOf l0 (j + 1)) = [32] by rw [hpv]; unfold sepB glue; simp [hpt])
        clear hpv hp6 hpt
        by_cases h2 : f0 = 2
        · have b2 : (f0 == 2) = true := beq_iff_eq.mpr h2
          have HTK := Aside0.mk (show tokB ⟨f0, f1, f2⟩ = quoteB f1 (runesL f1) ++ [34] by unfold tokB; rw [if_pos h2])
          have HQ := Aside0.mk (show text_Quote.f f1 = some (⟨(quoteB f1 (runesL f1)).toArray⟩ ++ ⟨#[34]⟩) by unfold text_Quote.f; rw [if_pos (by have := HM.out; omega)])
          obtain ⟨qs, hqs⟩ : ∃ qs : ByteArray, (⟨(quoteB f1 (runesL f1)).toArray⟩ ++ ⟨#[34]⟩ : ByteArray) = qs := ⟨_, rfl⟩
          have HQD := Aside0.mk (show qs.data.toList = tokB ⟨f0, f1, f2⟩ by rw [HTK.out, ← hqs, ByteArray.data_append]; simp)
          have hql : qs.data.toList.length = qs.size := by rw [Array.length_toList]; rfl
          have HQL := Aside0.mk (show qs.size ≤ 20971523 by rw [← hql, HQD.out]; exact HTOK.out)
          rw [hqs] at HQ
          clear hqs HTK h2 hql
          go_wp2_with (first
            | ((with_reducible refine gate_dst (N := 5) rfl ?_); refine box_event ?hg (N := 5) ?hd (cs := #[.int .i64 0, .string (⟨#[]⟩ : ByteArray), .int .i64 0]) (t := 32) ?hr ?_; (case hd => rfl); (case hg => rfl); (case hr => first | (go_simp; done) | (go_simp; rfl)); intro gb hg w2 hbox hb; have BK := Aside0.mk hbox; have GB := Aside0.mk hg; have HB2 := Aside0.mk hb; clear hbox hb hg; have z0 : w2.cell? ⟨gb, 0, none⟩ = some (.int .i64 0) := (blk_cell BK.out 0).trans rfl; have z1 : w2.cell? ⟨gb, 1, none⟩ = some (.string (⟨#[]⟩ : ByteArray)) := (blk_cell BK.out 1).trans rfl; have z2 : w2.cell? ⟨gb, 2, none⟩ = some (.int .i64 0) := (blk_cell BK.out 2).trans rfl; have y0 := blk_frozen BK.out 0; have y1 := blk_frozen BK.out 1; have y2 := blk_frozen BK.out 2)
            | ((with_reducible refine gate_store (t := 32) (p := 5) (v := .tmp 12) rfl ?_); refine store_event rfl rfl rfl (w1 := (((w2.setCell ⟨gb, 0, none⟩ (.int .i64 f0)).setCell ⟨gb, 1, none⟩ (.string f1)).setCell ⟨gb, 2, none⟩ (.int .i64 f2))) ?hr ?_; (case hr => first | (go_simp; done) | (go_simp; rfl)); intro w3 hw3; have BK3 := Aside0.mk (show w3.heap[gb]? = some (.cells #[.int .i64 f0, .string f1, .int .i64 f2] 32 (0, 0)) from hw3 ▸ blk_put (cs := #[.int .i64 f0, .string f1, .int .i64 0]) (blk_put (cs := #[.int .i64 f0, .string (⟨#[]⟩ : ByteArray), .int .i64 0]) (blk_put (cs := #[.int .i64 0, .string (⟨#[]⟩ : ByteArray), .int .i64 0]) BK.out 0 _ rfl) 1 _ rfl) 2 _ rfl); have hb3 : Below wr.heap.size wr w3 := hw3 ▸ below_set (below_set (below_set HB2.out (Nat.le_of_eq GB.out.symm)) (Nat.le_of_eq GB.out.symm)) (Nat.le_of_eq GB.out.symm); have HB3 := Aside0.mk (HB.out.below hb3); have HL3 := Aside0.mk (below_step HL.out hb3); have GNE := Aside0.mk (show gb ≠ w.heap.size by have := HB.out.lt; have := GB.out; omega); clear hw3 hb3 z0 z1 z2 y0 y1 y2; have m0 : w3.cell? ⟨gb, 0, none⟩ = some (.int .i64 f0) := (blk_cell BK3.out 0).trans rfl; have m1 : w3.cell? ⟨gb, 1, none⟩ = some (.string f1) := (blk_cell BK3.out 1).trans rfl; have hC3 := Kd.C_below HR0.out HL3.out; obtain ⟨ad3, ha3, px0, px1, px2⟩ := at_T32 hC3 (j : Int) (by omega) (by omega); cases ha3; simp only [Int.toNat_natCast] at px0 px1 px2; rw [PRD.out] at px0 px1; clear hC3 px2)
            | (go_at_call 20; refine (HB3.out.byte 32 (by have := HACC.out; omega)).mono ?_; rintro e w4 ⟨rfl, hb1, hB1, hO1⟩; have HB4 := Aside0.mk hb1; have HL4 := Aside0.mk (HL3.out.trans hB1); have BK4 := Aside0.mk (keep_blk hO1 BK3.out GNE.out (by decide)); clear hb1 hB1 hO1; have n0 : w4.cell? ⟨gb, 0, none⟩ = some (.int .i64 f0) := (blk_cell BK4.out 0).trans rfl; have n1 : w4.cell? ⟨gb, 1, none⟩ = some (.string f1) := (blk_cell BK4.out 1).trans rfl)
            | (go_at_call 22; refine (text_Quote.calls f1 _ _ (HGW.out.below HL4.out) HQ.out).mono ?_; rintro e w5 ⟨rfl, hb⟩; have HB5 := Aside0.mk (HB4.out.below hb); have HL5 := Aside0.mk (below_step HL4.out hb); clear hb)
            | (go_at_call 21; refine (HB5.out.write _ (by have := HQL.out; have := HACC.out; (try simp only [List.length_append, List.length_cons, List.length_nil]); omega)).mono ?_; rintro e w6 ⟨rfl, hb1, hB1, hO1⟩; have HB6 := Aside0.mk hb1; have HL6 := Aside0.mk (HL5.out.trans hB1); clear hb1 hB1 hO1))
          go_roundw
          case measure => simp [intOf]; omega
          case rel => exact ⟨j + 1 + 1, rfl, by omega, ⟨by rw [HS.out, HSV.out, ← HQD.out]; simpa using HB6.out⟩, ⟨HL6.out⟩⟩
        by_cases h3 : f0 = 3
        · have b2 : (f0 == 2) = false := beq_eq_false_iff_ne.mpr h2
          have b3 : (f0 == 3) = true := beq_iff_eq.mpr h3
          have HQD := Aside0.mk (show (((⟨#[47]⟩ : ByteArray) ++ f1) ++ (⟨#[47]⟩ : ByteArray)).data.toList = tokB ⟨f0, f1, f2⟩ by unfold tokB; rw [if_neg h2, if_pos h3, ByteArray.data_append, ByteArray.data_append]; simp)
          have HQL := Aside0.mk (show (((⟨#[47]⟩ : ByteArray) ++ f1) ++ (⟨#[47]⟩ : ByteArray)).size ≤ 20971523 by rw [ByteArray.size_append, ByteArray.size_append]; have : (⟨#[47]⟩ : ByteArray).size = 1 := rfl; have := HM.out; omega)
          clear h2 h3
          have hm3 := HM.out
          go_wp2_with (first
            | ((with_reducible refine gate_dst (N := 5) rfl ?_); refine box_event ?hg (N := 5) ?hd (cs := #[.int .i64 0, .string (⟨#[]⟩ : ByteArray), .int .i64 0]) (t := 32) ?hr ?_; (case hd => rfl); (case hg => rfl); (case hr => first | (go_simp; done) | (go_simp; rfl)); intro gb hg w2 hbox hb; have BK := Aside0.mk hbox; have GB := Aside0.mk hg; have HB2 := Aside0.mk hb; clear hbox hb hg; have z0 : w2.cell? ⟨gb, 0, none⟩ = some (.int .i64 0) := (blk_cell BK.out 0).trans rfl; have z1 : w2.cell? ⟨gb, 1, none⟩ = some (.string (⟨#[]⟩ : ByteArray)) := (blk_cell BK.out 1).trans rfl; have z2 : w2.cell? ⟨gb, 2, none⟩ = some (.int .i64 0) := (blk_cell BK.out 2).trans rfl; have y0 := blk_frozen BK.out 0; have y1 := blk_frozen BK.out 1; have y2 := blk_frozen BK.out 2)
            | ((with_reducible refine gate_store (t := 32) (p := 5) (v := .tmp 12) rfl ?_); refine store_event rfl rfl rfl (w1 := (((w2.setCell ⟨gb, 0, none⟩ (.int .i64 f0)).setCell ⟨gb, 1, none⟩ (.string f1)).setCell ⟨gb, 2, none⟩ (.int .i64 f2))) ?hr ?_; (case hr => first | (go_simp; done) | (go_simp; rfl)); intro w3 hw3; have BK3 := Aside0.mk (show w3.heap[gb]? = some (.cells #[.int .i64 f0, .string f1, .int .i64 f2] 32 (0, 0)) from hw3 ▸ blk_put (cs := #[.int .i64 f0, .string f1, .int .i64 0]) (blk_put (cs := #[.int .i64 f0, .string (⟨#[]⟩ : ByteArray), .int .i64 0]) (blk_put (cs := #[.int .i64 0, .string (⟨#[]⟩ : ByteArray), .int .i64 0]) BK.out 0 _ rfl) 1 _ rfl) 2 _ rfl); have hb3 : Below wr.heap.size wr w3 := hw3 ▸ below_set (below_set (below_set HB2.out (Nat.le_of_eq GB.out.symm)) (Nat.le_of_eq GB.out.symm)) (Nat.le_of_eq GB.out.symm); have HB3 := Aside0.mk (HB.out.below hb3); have HL3 := Aside0.mk (below_step HL.out hb3); have GNE := Aside0.mk (show gb ≠ w.heap.size by have := HB.out.lt; have := GB.out; omega); clear hw3 hb3 z0 z1 z2 y0 y1 y2; have m0 : w3.cell? ⟨gb, 0, none⟩ = some (.int .i64 f0) := (blk_cell BK3.out 0).trans rfl; have m1 : w3.cell? ⟨gb, 1, none⟩ = some (.string f1) := (blk_cell BK3.out 1).trans rfl; have hC3 := Kd.C_below HR0.out HL3.out; obtain ⟨ad3, ha3, px0, px1, px2⟩ := at_T32 hC3 (j : Int) (by omega) (by omega); cases ha3; simp only [Int.toNat_natCast] at px0 px1 px2; rw [PRD.out] at px0 px1; clear hC3 px2)
            | (go_at_call 20; refine (HB3.out.byte 32 (by have := HACC.out; omega)).mono ?_; rintro e w4 ⟨rfl, hb1, hB1, hO1⟩; have HB4 := Aside0.mk hb1; have HL4 := Aside0.mk (HL3.out.trans hB1); have BK4 := Aside0.mk (keep_blk hO1 BK3.out GNE.out (by decide)); clear hb1 hB1 hO1; have n0 : w4.cell? ⟨gb, 0, none⟩ = some (.int .i64 f0) := (blk_cell BK4.out 0).trans rfl; have n1 : w4.cell? ⟨gb, 1, none⟩ = some (.string f1) := (blk_cell BK4.out 1).trans rfl)
            | (go_at_call 21; refine (HB4.out.write _ (by have := HQL.out; have := HACC.out; (try simp only [List.length_append, List.length_cons, List.length_nil]); omega)).mono ?_; rintro e w6 ⟨rfl, hb1, hB1, hO1⟩; have HB6 := Aside0.mk hb1; have HL6 := Aside0.mk (HL4.out.trans hB1); clear hb1 hB1 hO1))
          go_roundw
          case measure => simp [intOf]; omega
          case rel => exact ⟨j + 1 + 1, rfl, by omega, ⟨by rw [HS.out, HSV.out, ← HQD.out]; simpa using HB6.out⟩, ⟨HL6.out⟩⟩
        · have b2 : (f0 == 2) = false := beq_eq_false_iff_ne.mpr h2
          have b3 : (f0 == 3) = false := beq_eq_false_iff_ne.mpr h3
          have HQD := Aside0.mk (show f1.data.toList = tokB ⟨f0, f1, f2⟩ by unfold tokB; rw [if_neg h2, if_neg h3])
          have HQL := Aside0.mk (show f1.size ≤ 20971523 by have := HM.out; omega)
          clear h2 h3
          go_wp2_with (first
            | ((with_reducible refine gate_dst (N := 5) rfl ?_); refine box_event ?hg (N := 5) ?hd (cs := #[.int .i64 0, .string (⟨#[]⟩ : ByteArray), .int .i64 0]) (t := 32) ?hr ?_; (case hd => rfl); (case hg => rfl); (case hr => first | (go_simp; done) | (go_simp; rfl)); intro gb hg w2 hbox hb; have BK := Aside0.mk hbox; have GB := Aside0.mk hg; have HB2 := Aside0.mk hb; clear hbox hb hg; have z0 : w2.cell? ⟨gb, 0, none⟩ = some (.int .i64 0) := (blk_cell BK.out 0).trans rfl; have z1 : w2.cell? ⟨gb, 1, none⟩ = some (.string (⟨#[]⟩ : ByteArray)) := (blk_cell BK.out 1).trans rfl; have z2 : w2.cell? ⟨gb, 2, none⟩ = some (.int .i64 0) := (blk_cell BK.out 2).trans rfl; have y0 := blk_frozen BK.out 0; have y1 := blk_frozen BK.out 1; have y2 := blk_frozen BK.out 2)
            | ((with_reducible refine gate_store (t := 32) (p := 5) (v := .tmp 12) rfl ?_); refine store_event rfl rfl rfl (w1 := (((w2.setCell ⟨gb, 0, none⟩ (.int .i64 f0)).setCell ⟨gb, 1, none⟩ (.string f1)).setCell ⟨gb, 2, none⟩ (.int .i64 f2))) ?hr ?_; (case hr => first | (go_simp; done) | (go_simp; rfl)); intro w3 hw3; have BK3 := Aside0.mk (show w3.heap[gb]? = some (.cells #[.int .i64 f0, .string f1, .int .i64 f2] 32 (0, 0)) from hw3 ▸ blk_put (cs := #[.int .i64 f0, .string f1, .int .i64 0]) (blk_put (cs := #[.int .i64 f0, .string (⟨#[]⟩ : ByteArray), .int .i64 0]) (blk_put (cs := #[.int .i64 0, .string (⟨#[]⟩ : ByteArray), .int .i64 0]) BK.out 0 _ rfl) 1 _ rfl) 2 _ rfl); have hb3 : Below wr.heap.size wr w3 := hw3 ▸ below_set (below_set (below_set HB2.out (Nat.le_of_eq GB.out.symm)) (Nat.le_of_eq GB.out.symm)) (Nat.le_of_eq GB.out.symm); have HB3 := Aside0.mk (HB.out.below hb3); have HL3 := Aside0.mk (below_step HL.out hb3); have GNE := Aside0.mk (show gb ≠ w.heap.size by have := HB.out.lt; have := GB.out; omega); clear hw3 hb3 z0 z1 z2 y0 y1 y2; have m0 : w3.cell? ⟨gb, 0, none⟩ = some (.int .i64 f0) := (blk_cell BK3.out 0).trans rfl; have m1 : w3.cell? ⟨gb, 1, none⟩ = some (.string f1) := (blk_cell BK3.out 1).trans rfl; have hC3 := Kd.C_below HR0.out HL3.out; obtain ⟨ad3, ha3, px0, px1, px2⟩ := at_T32 hC3 (j : Int) (by omega) (by omega); cases ha3; simp only [Int.toNat_natCast] at px0 px1 px2; rw [PRD.out] at px0 px1; clear hC3 px2)
            | (go_at_call 20; refine (HB3.out.byte 32 (by have := HACC.out; omega)).mono ?_; rintro e w4 ⟨rfl, hb1, hB1, hO1⟩; have HB4 := Aside0.mk hb1; have HL4 := Aside0.mk (HL3.out.trans hB1); have BK4 := Aside0.mk (keep_blk hO1 BK3.out GNE.out (by decide)); clear hb1 hB1 hO1; have n0 : w4.cell? ⟨gb, 0, none⟩ = some (.int .i64 f0) := (blk_cell BK4.out 0).trans rfl; have n1 : w4.cell? ⟨gb, 1, none⟩ = some (.string f1) := (blk_cell BK4.out 1).trans rfl)
            | (go_at_call 21; refine (HB4.out.write _ (by have := HQL.out; have := HACC.out; (try simp only [List.length_append, List.length_cons, List.length_nil]); omega)).mono ?_; rintro e w6 ⟨rfl, hb1, hB1, hO1⟩; have HB6 := Aside0.mk hb1; have HL6 := Aside0.mk (HL4.out.trans hB1); clear hb1 hB1 hO1))
          go_roundw
          case measure => simp [intOf]; omega
          case rel => exact ⟨j + 1 + 1, rfl, by omega, ⟨by rw [HS.out, HSV.out, ← HQD.out]; simpa using HB6.out⟩, ⟨HL6.out⟩⟩
    · have b6 : (p0 != 6) = true := bne_iff_ne.mpr hp6
      have b60 : (p0 == 6) = false := beq_eq_false_iff_ne.mpr hp6
      have HSV := Aside0.mk (show sepB (prevOf l0 (j + 1)) = [32] by rw [hpv]; unfold sepB glue; simp [hp6])
      clear hpv hp6
      by_cases h2 : f0 = 2
      · have b2 : (f0 == 2) = true := beq_iff_eq.mpr h2
        have HTK := Aside0.mk (show tokB ⟨f0, f1, f2⟩ = quoteB f1 (runesL f1) ++ [34] by unfold tokB; rw [if_pos h2])
        have HQ := Aside0.mk (show text_Quote.f f1 = some (⟨(quoteB f1 (runesL f1)).toArray⟩ ++ ⟨#[34]⟩) by unfold text_Quote.f; rw [if_pos (by have := HM.out; omega)])
        obtain ⟨qs, hqs⟩ : ∃ qs : ByteArray, (⟨(quoteB f1 (runesL f1)).toArray⟩ ++ ⟨#[34]⟩ : ByteArray) = qs := ⟨_, rfl⟩
        have HQD := Aside0.mk (show qs.data.toList = tokB ⟨f0, f1, f2⟩ by rw [HTK.out, ← hqs, ByteArray.data_append]; simp)
        have hql : qs.data.toList.length = qs.size := by rw [Array.length_toList]; rfl
        have HQL := Aside0.mk (show qs.size ≤ 20971523 by rw [← hql, HQD.out]; exact HTOK.out)
        rw [hqs] at HQ
        clear hqs HTK h2 hql
        go_wp2_with (first
          | ((with_reducible refine gate_dst (N := 5) rfl ?_); refine box_event ?hg (N := 5) ?hd (cs := #[.int .i64 0, .string (⟨#[]⟩ : ByteArray), .int .i64 0]) (t := 32) ?hr ?_; (case hd => rfl); (case hg => rfl); (case hr => first | (go_simp; done) | (go_simp; rfl)); intro gb hg w2 hbox hb; have BK := Aside0.mk hbox; have GB := Aside0.mk hg; have HB2 := Aside0.mk hb; clear hbox hb hg; have z0 : w2.cell? ⟨gb, 0, none⟩ = some (.int .i64 0) := (blk_cell BK.out 0).trans rfl; have z1 : w2.cell? ⟨gb, 1, none⟩ = some (.string (⟨#[]⟩ : ByteArray)) := (blk_cell BK.out 1).trans rfl; have z2 : w2.cell? ⟨gb, 2, none⟩ = some (.int .i64 0) := (blk_cell BK.out 2).trans rfl; have y0 := blk_frozen BK.out 0; have y1 := blk_frozen BK.out 1; have y2 := blk_frozen BK.out 2)
          | ((with_reducible refine gate_store (t := 32) (p := 5) (v := .tmp 12) rfl ?_); refine store_event rfl rfl rfl (w1 := (((w2.setCell ⟨gb, 0, none⟩ (.int .i64 f0)).setCell ⟨gb, 1, none⟩ (.string f1)).setCell ⟨gb, 2, none⟩ (.int .i64 f2))) ?hr ?_; (case hr => first | (go_simp; done) | (go_simp; rfl)); intro w3 hw3; have BK3 := Aside0.mk (show w3.heap[gb]? = some (.cells #[.int .i64 f0, .string f1, .int .i64 f2] 32 (0, 0)) from hw3 ▸ blk_put (cs := #[.int .i64 f0, .string f1, .int .i64 0]) (blk_put (cs := #[.int .i64 f0, .string (⟨#[]⟩ : ByteArray), .int .i64 0]) (blk_put (cs := #[.int .i64 0, .string (⟨#[]⟩ : ByteArray), .int .i64 0]) BK.out 0 _ rfl) 1 _ rfl) 2 _ rfl); have hb3 : Below wr.heap.size wr w3 := hw3 ▸ below_set (below_set (below_set HB2.out (Nat.le_of_eq GB.out.symm)) (Nat.le_of_eq GB.out.symm)) (Nat.le_of_eq GB.out.symm); have HB3 := Aside0.mk (HB.out.below hb3); have HL3 := Aside0.mk (below_step HL.out hb3); have GNE := Aside0.mk (show gb ≠ w.heap.size by have := HB.out.lt; have := GB.out; omega); clear hw3 hb3 z0 z1 z2 y0 y1 y2; have m0 : w3.cell? ⟨gb, 0, none⟩ = some (.int .i64 f0) := (blk_cell BK3.out 0).trans rfl; have m1 : w3.cell? ⟨gb, 1, none⟩ = some (.string f1) := (blk_cell BK3.out 1).trans rfl; have hC3 := Kd.C_below HR0.out HL3.out; obtain ⟨ad3, ha3, px0, px1, px2⟩ := at_T32 hC3 (j : Int) (by omega) (by omega); cases ha3; simp only [Int.toNat_natCast] at px0 px1 px2; rw [PRD.out] at px0 px1; clear hC3 px2)
          | (go_at_call 20; refine (HB3.out.byte 32 (by have := HACC.out; omega)).mono ?_; rintro e w4 ⟨rfl, hb1, hB1, hO1⟩; have HB4 := Aside0.mk hb1; have HL4 := Aside0.mk (HL3.out.trans hB1); have BK4 := Aside0.mk (keep_blk hO1 BK3.out GNE.out (by decide)); clear hb1 hB1 hO1; have n0 : w4.cell? ⟨gb, 0, none⟩ = some (.int .i64 f0) := (blk_cell BK4.out 0).trans rfl; have n1 : w4.cell? ⟨gb, 1, none⟩ = some (.string f1) := (blk_cell BK4.out 1).trans rfl)
          | (go_at_call 22; refine (text_Quote.calls f1 _ _ (HGW.out.below HL4.out) HQ.out).mono ?_; rintro e w5 ⟨rfl, hb⟩; have HB5 := Aside0.mk (HB4.out.below hb); have HL5 := Aside0.mk (below_step HL4.out hb); clear hb)
          | (go_at_call 21; refine (HB5.out.write _ (by have := HQL.out; have := HACC.out; (try simp only [List.length_append, List.length_cons, List.length_nil]); omega)).mono ?_; rintro e w6 ⟨rfl, hb1, hB1, hO1⟩; have HB6 := Aside0.mk hb1; have HL6 := Aside0.mk (HL5.out.trans hB1); clear hb1 hB1 hO1))
        go_roundw
        case measure => simp [intOf]; omega
        case rel => exact ⟨j + 1 + 1, rfl, by omega, ⟨by rw [HS.out, HSV.out, ← HQD.out]; simpa using HB6.out⟩, ⟨HL6.out⟩⟩
      by_cases h3 : f0 = 3
      · have b2 : (f0 == 2) = false := beq_eq_false_iff_ne.mpr h2
        have b3 : (f0 == 3) = true := beq_iff_eq.mpr h3
        have HQD := Aside0.mk (show (((⟨#[47]⟩ : ByteArray) ++ f1) ++ (⟨#[47]⟩ : ByteArray)).data.toList = tokB ⟨f0, f1, f2⟩ by unfold tokB; rw [if_neg h2, if_pos h3, ByteArray.data_append, ByteArray.data_append]; simp)
        have HQL := Aside0.mk (show (((⟨#[47]⟩ : ByteArray) ++ f1) ++ (⟨#[47]⟩ : ByteArray)).size ≤ 20971523 by rw [ByteArray.size_append, ByteArray.size_append]; have : (⟨#[47]⟩ : ByteArray).size = 1 := rfl; have := HM.out; omega)
        clear h2 h3
        have hm3 := HM.out
        go_wp2_with (first
          | ((with_reducible refine gate_dst (N := 5) rfl ?_); refine box_event ?hg (N := 5) ?hd (cs := #[.int .i64 0, .string (⟨#[]⟩ : ByteArray), .int .i64 0]) (t := 32) ?hr ?_; (case hd => rfl); (case hg => rfl); (case hr => first | (go_simp; done) | (go_simp; rfl)); intro gb hg w2 hbox hb; have BK := Aside0.mk hbox; have GB := Aside0.mk hg; have HB2 := Aside0.mk hb; clear hbox hb hg; have z0 : w2.cell? ⟨gb, 0, none⟩ = some (.int .i64 0) := (blk_cell BK.out 0).trans rfl; have z1 : w2.cell? ⟨gb, 1, none⟩ = some (.string (⟨#[]⟩ : ByteArray)) := (blk_cell BK.out 1).trans rfl; have z2 : w2.cell? ⟨gb, 2, none⟩ = some (.int .i64 0) := (blk_cell BK.out 2).trans rfl; have y0 := blk_frozen BK.out 0; have y1 := blk_frozen BK.out 1; have y2 := blk_frozen BK.out 2)
          | ((with_reducible refine gate_store (t := 32) (p := 5) (v := .tmp 12) rfl ?_); refine store_event rfl rfl rfl (w1 := (((w2.setCell ⟨gb, 0, none⟩ (.int .i64 f0)).setCell ⟨gb, 1, none⟩ (.string f1)).setCell ⟨gb, 2, none⟩ (.int .i64 f2))) ?hr ?_; (case hr => first | (go_simp; done) | (go_simp; rfl)); intro w3 hw3; have BK3 := Aside0.mk (show w3.heap[gb]? = some (.cells #[.int .i64 f0, .string f1, .int .i64 f2] 32 (0, 0)) from hw3 ▸ blk_put (cs := #[.int .i64 f0, .string f1, .int .i64 0]) (blk_put (cs := #[.int .i64 f0, .string (⟨#[]⟩ : ByteArray), .int .i64 0]) (blk_put (cs := #[.int .i64 0, .string (⟨#[]⟩ : ByteArray), .int .i64 0]) BK.out 0 _ rfl) 1 _ rfl) 2 _ rfl); have hb3 : Below wr.heap.size wr w3 := hw3 ▸ below_set (below_set (below_set HB2.out (Nat.le_of_eq GB.out.symm)) (Nat.le_of_eq GB.out.symm)) (Nat.le_of_eq GB.out.symm); have HB3 := Aside0.mk (HB.out.below hb3); have HL3 := Aside0.mk (below_step HL.out hb3); have GNE := Aside0.mk (show gb ≠ w.heap.size by have := HB.out.lt; have := GB.out; omega); clear hw3 hb3 z0 z1 z2 y0 y1 y2; have m0 : w3.cell? ⟨gb, 0, none⟩ = some (.int .i64 f0) := (blk_cell BK3.out 0).trans rfl; have m1 : w3.cell? ⟨gb, 1, none⟩ = some (.string f1) := (blk_cell BK3.out 1).trans rfl; have hC3 := Kd.C_below HR0.out HL3.out; obtain ⟨ad3, ha3, px0, px1, px2⟩ := at_T32 hC3 (j : Int) (by omega) (by omega); cases ha3; simp only [Int.toNat_natCast] at px0 px1 px2; rw [PRD.out] at px0 px1; clear hC3 px2)
          | (go_at_call 20; refine (HB3.out.byte 32 (by have := HACC.out; omega)).mono ?_; rintro e w4 ⟨rfl, hb1, hB1, hO1⟩; have HB4 := Aside0.mk hb1; have HL4 := Aside0.mk (HL3.out.trans hB1); have BK4 := Aside0.mk (keep_blk hO1 BK3.out GNE.out (by decide)); clear hb1 hB1 hO1; have n0 : w4.cell? ⟨gb, 0, none⟩ = some (.int .i64 f0) := (blk_cell BK4.out 0).trans rfl; have n1 : w4.cell? ⟨gb, 1, none⟩ = some (.string f1) := (blk_cell BK4.out 1).trans rfl)
          | (go_at_call 21; refine (HB4.out.write _ (by have := HQL.out; have := HACC.out; (try simp only [List.length_append, List.length_cons, List.length_nil]); omega)).mono ?_; rintro e w6 ⟨rfl, hb1, hB1, hO1⟩; have HB6 := Aside0.mk hb1; have HL6 := Aside0.mk (HL4.out.trans hB1); clear hb1 hB1 hO1))
        go_roundw
        case measure => simp [intOf]; omega
        case rel => exact ⟨j + 1 + 1, rfl, by omega, ⟨by rw [HS.out, HSV.out, ← HQD.out]; simpa using HB6.out⟩, ⟨HL6.out⟩⟩
      · have b2 : (f0 == 2) = false := beq_eq_false_iff_ne.mpr h2
        have b3 : (f0 == 3) = false := beq_eq_false_iff_ne.mpr h3
        have HQD := Aside0.mk (show f1.data.toList = tokB ⟨f0, f1, f2⟩ by unfold tokB; rw [if_neg h2, if_neg h3])
        have HQL := Aside0.mk (show f1.size ≤ 20971523 by have := HM.out; omega)
        clear h2 h3
        go_wp2_with (first
          | ((with_reducible refine gate_dst (N := 5) rfl ?_); refine box_event ?hg (N := 5) ?hd (cs := #[.int .i64 0, .string (⟨#[]⟩ : ByteArray), .int .i64 0]) (t := 32) ?hr ?_; (case hd => rfl); (case hg => rfl); (case hr => first | (go_simp; done) | (go_simp; rfl)); intro gb hg w2 hbox hb; have BK := Aside0.mk hbox; have GB := Aside0.mk hg; have HB2 := Aside0.mk hb; clear hbox hb hg; have z0 : w2.cell? ⟨gb, 0, none⟩ = some (.int .i64 0) := (blk_cell BK.out 0).trans rfl; have z1 : w2.cell? ⟨gb, 1, none⟩ = some (.string (⟨#[]⟩ : ByteArray)) := (blk_cell BK.out 1).trans rfl; have z2 : w2.cell? ⟨gb, 2, none⟩ = some (.int .i64 0) := (blk_cell BK.out 2).trans rfl; have y0 := blk_frozen BK.out 0; have y1 := blk_frozen BK.out 1; have y2 := blk_frozen BK.out 2)
          | ((with_reducible refine gate_store (t := 32) (p := 5) (v := .tmp 12) rfl ?_); refine store_event rfl rfl rfl (w1 := (((w2.setCell ⟨gb, 0, none⟩ (.int .i64 f0)).setCell ⟨gb, 1, none⟩ (.string f1)).setCell ⟨gb, 2, none⟩ (.int .i64 f2))) ?hr ?_; (case hr => first | (go_simp; done) | (go_simp; rfl)); intro w3 hw3; have BK3 := Aside0.mk (show w3.heap[gb]? = some (.cells #[.int .i64 f0, .string f1, .int .i64 f2] 32 (0, 0)) from hw3 ▸ blk_put (cs := #[.int .i64 f0, .string f1, .int .i64 0]) (blk_put (cs := #[.int .i64 f0, .string (⟨#[]⟩ : ByteArray), .int .i64 0]) (blk_put (cs := #[.int .i64 0, .string (⟨#[]⟩ : ByteArray), .int .i64 0]) BK.out 0 _ rfl) 1 _ rfl) 2 _ rfl); have hb3 : Below wr.heap.size wr w3 := hw3 ▸ below_set (below_set (below_set HB2.out (Nat.le_of_eq GB.out.symm)) (Nat.le_of_eq GB.out.symm)) (Nat.le_of_eq GB.out.symm); have HB3 := Aside0.mk (HB.out.below hb3); have HL3 := Aside0.mk (below_step HL.out hb3); have GNE := Aside0.mk (show gb ≠ w.heap.size by have := HB.out.lt; have := GB.out; omega); clear hw3 hb3 z0 z1 z2 y0 y1 y2; have m0 : w3.cell? ⟨gb, 0, none⟩ = some (.int .i64 f0) := (blk_cell BK3.out 0).trans rfl; have m1 : w3.cell? ⟨gb, 1, none⟩ = some (.string f1) := (blk_cell BK3.out 1).trans rfl; have hC3 := Kd.C_below HR0.out HL3.out; obtain ⟨ad3, ha3, px0, px1, px2⟩ := at_T32 hC3 (j : Int) (by omega) (by omega); cases ha3; simp only [Int.toNat_natCast] at px0 px1 px2; rw [PRD.out] at px0 px1; clear hC3 px2)
          | (go_at_call 20; refine (HB3.out.byte 32 (by have := HACC.out; omega)).mono ?_; rintro e w4 ⟨rfl, hb1, hB1, hO1⟩; have HB4 := Aside0.mk hb1; have HL4 := Aside0.mk (HL3.out.trans hB1); have BK4 := Aside0.mk (keep_blk hO1 BK3.out GNE.out (by decide)); clear hb1 hB1 hO1; have n0 : w4.cell? ⟨gb, 0, none⟩ = some (.int .i64 f0) := (blk_cell BK4.out 0).trans rfl; have n1 : w4.cell? ⟨gb, 1, none⟩ = some (.string f1) := (blk_cell BK4.out 1).trans rfl)
          | (go_at_call 21; refine (HB4.out.write _ (by have := HQL.out; have := HACC.out; (try simp only [List.length_append, List.length_cons, List.length_nil]); omega)).mono ?_; rintro e w6 ⟨rfl, hb1, hB1, hO1⟩; have HB6 := Aside0.mk hb1; have HL6 := Aside0.mk (HL4.out.trans hB1); clear hb1 hB1 hO1))
        go_roundw
        case measure => simp [intOf]; omega
        case rel => exact ⟨j + 1 + 1, rfl, by omega, ⟨by rw [HS.out, HSV.out, ← HQD.out]; simpa using HB6.out⟩, ⟨HL6.out⟩⟩
end Go.Proofs.YthijdjpipjbkbaaDoor.H
end
section
namespace Go.Proofs.YthijdjpipjbkbaaDoor.H
open Go.RowKit Go.Proofs.YthijdjpipjbkbaaDoorW.PrintWords Go.Proofs.YthijdjpipjbkbaaDoorW.PrintLast Go.Proofs.YthijdjpipjbkbaaDoorW.PrintMore
set_option linter.unusedVariables false
set_option linter.unusedSimpArgs false
theorem rdS (l : List S32) (i : Nat) (h : i < l.length) : rd_T32 l (i : Int) = l[i] := by simp [rd_T32, List.getD_eq_getElem?_getD, h]
theorem next_nat (i : Nat) (h : i ≤ 4294967295) : wrap64 ((i : Int) + 1) = ((i + 1 : Nat) : Int) := (congrArg wrap64 (by push_cast; rfl)).trans (wrap_nat (i + 1) (by omega))
end Go.Proofs.YthijdjpipjbkbaaDoor.H
end
section
namespace Go.Proofs.YthijdjpipjbkbaaDoor.H
open Go.RowKit Go.Proofs.YthijdjpipjbkbaaDoorW.PrintWords Go.Proofs.YthijdjpipjbkbaaDoorW.PrintLast Go.Proofs.YthijdjpipjbkbaaDoorW.PrintMore
open Go.Maps
set_option linter.unusedVariables false
set_option linter.unusedSimpArgs false
def strings_IndexByte.f (a0 : ByteArray) (a1 : Int) : Option Int := some (Lib.indexByte a0.data.toList a1.toNat.toUInt8)
theorem strings_IndexByte.calls (a0 : ByteArray) (a1 : Int) (r : Int) (w : World) (h : strings_IndexByte.f a0 a1 = some r) :
    Calls Tryd.prog 16 #[.string a0, .int .u8 a1] w fun e w' => e = .returned (.int .i64 r) ∧ Drawn0 w w' := by
  obtain rfl := Option.some.inj h
  exact (Any.strings_IndexByte Tryd.ly137 a0 a1 w).mono fun e w' ⟨he, hw⟩ => ⟨he, ⟨0, hw⟩⟩
end Go.Proofs.YthijdjpipjbkbaaDoor.H
end
section
namespace Go.Proofs.YthijdjpipjbkbaaDoor.H
open Go.RowKit Go.Shelf Go.Proofs.YthijdjpipjbkbaaDoorW.PrintWords Go.Proofs.YthijdjpipjbkbaaDoorW.PrintLast Go.Proofs.YthijdjpipjbkbaaDoorW.PrintMore
open Go.Maps
set_option linter.unusedVariables false
set_option linter.unusedSimpArgs false
def wordB (c : Nat) : Bool := letB c || (48 ≤ c && c ≤ 57)
def noWord (c : Nat) : Bool := decide (127 < c) || !wordB c
def runLen (l : List UInt8) : Nat := (l.takeWhile fun c => wordB c.toNat).length
def speclex_run.f (a0 : ByteArray) : Option Int := some (runLen a0.data.toList : Int)
set_option maxRecDepth 100000 in
set_option maxHeartbeats 1000000 in
theorem run1_calls (x : Nat) (hx : x ≤ 1114111) (w : World) : Calls Tryd.prog 44 #[.int .i32 (x : Int)] w fun e w' => e = .returned (.bool (noWord x)) ∧ Below w.heap.size w w' := by
  by_cases h : 127 < x
  · have e : noWord x = true := by unfold noWord; rw [decide_eq_true h]; rfl
    have h1 : decide ((127 : Int) < (x : Int)) = true := decide_eq_true (by omega)
    rw [e]
    go_enter Tryd.func44, Tryd.ntmps44
    go_wp2
    go_ret
    exact ⟨rfl, Below.refl _ _⟩
  · have h1 : decide ((127 : Int) < (x : Int)) = false := decide_eq_false (by omega)
    have hlv := letter_val x (by omega)
    cases hl : letB x with
    | true =>
      have e : noWord x = false := by unfold noWord wordB; rw [decide_eq_false h, hl]; rfl
      rw [e]
      rw [hl] at hlv
      have h2 : ((x : Int)) < 256 := by omega
      go_enter Tryd.func44, Tryd.ntmps44
      go_wp2_with (go_at_call 15; refine (speclex_letter.calls _ _ _ hlv).mono ?_; rintro e w' ⟨rfl, q, rfl⟩)
      go_ret
      exact ⟨rfl, pw_below_drewN (Below.refl _ _) _⟩
    | false =>
      rw [hl] at hlv
      have e : noWord x = !(decide (48 ≤ x) && decide (x ≤ 57)) := by unfold noWord wordB; rw [decide_eq_false h, hl, Bool.false_or, Bool.false_or]
      have h2 : ((x : Int)) < 256 := by omega
      by_cases h48 : x < 48
      · have d1 : decide ((x : Int) < 48) = true := decide_eq_true (by omega)
        have e2 : noWord x = true := by rw [e, decide_eq_false (by omega : ¬ 48 ≤ x)]; rfl
        rw [e2]
        go_enter Tryd.func44, Tryd.ntmps44
        go_wp2_with (go_at_call 15; refine (speclex_letter.calls _ _ _ hlv).mono ?_; rintro e w' ⟨rfl, q, rfl⟩)
        go_ret
        exact ⟨rfl, pw_below_drewN (Below.refl _ _) _⟩
      · have d1 : decide ((x : Int) < 48) = false := decide_eq_false (by omega)
        by_cases h57 : 57 < x
        · have d2 : decide ((57 : Int) < (x : Int)) = true := decide_eq_true (by omega)
          have e2 : noWord x = true := by rw [e, decide_eq_false (by omega : ¬ x ≤ 57), Bool.and_false]; rfl
          rw [e2]
          go_enter Tryd.func44, Tryd.ntmps44
          go_wp2_with (go_at_call 15; refine (speclex_letter.calls _ _ _ hlv).mono ?_; rintro e w' ⟨rfl, q, rfl⟩)
          go_ret
          exact ⟨rfl, pw_below_drewN (Below.refl _ _) _⟩
        · have d2 : decide ((57 : Int) < (x : Int)) = false := decide_eq_false (by omega)
          have e2 : noWord x = false := by rw [e, decide_eq_true (by omega : 48 ≤ x), decide_eq_true (by omega : x ≤ 57)]; rfl
          rw [e2]
          go_enter Tryd.func44, Tryd.ntmps44
          go_wp2_with (go_at_call 15; refine (speclex_letter.calls _ _ _ hlv).mono ?_; rintro e w' ⟨rfl, q, rfl⟩)
          go_ret
          exact ⟨rfl, pw_below_drewN (Below.refl _ _) _⟩
theorem run1_pred (w : World) : PredGrows Tryd.prog 44 #[] noWord w := fun W x hx _ => run1_calls x hx W
theorem indexFunc_calls (s : ByteArray) (w : World) : Calls Tryd.prog 64 #[.string s, .func (.func 44) #[] #[], .bool true] w fun e w' => e = .returned (.int .i64 (Lib.idxFunc noWord true s)) ∧ Below w.heap.size w w' :=
  Any.strings_indexFunc_grows Tryd.ly315 44 #[] (enters_of Tryd.func44 (by kernel_rfl) rfl) noWord true s w (run1_pred w)
set_option maxRecDepth 100000 in
theorem IndexFunc_calls (s : ByteArray) (w : World) : Calls Tryd.prog 43 #[.string s, .func (.func 44) #[] #[]] w fun e w' => e = .returned (.int .i64 (Lib.idxFunc noWord true s)) ∧ Below w.heap.size w w' := by
  go_enter Tryd.func43, Tryd.ntmps43
  go_wp2_with (go_at_call 64; refine (indexFunc_calls _ _).mono ?_; rintro e w' ⟨rfl, hb⟩)
  go_ret
  exact ⟨rfl, hb⟩
theorem wordB_high {c : Nat} (h : 128 ≤ c) : wordB c = false := by
  unfold wordB letB
  rw [decide_eq_false (by omega : ¬ c ≤ 122), decide_eq_false (by omega : ¬ c ≤ 90), decide_eq_false (by omega : ¬ c ≤ 57), show (c == 95) = false by simp; omega]
  simp
theorem run_from (s : ByteArray) : ∀ (f pos : Nat), s.size ≤ pos + f → pos ≤ s.size → (if Lib.idxFuncFrom noWord true s f pos < 0 then (s.size : Int) else Lib.idxFuncFrom noWord true s f pos) = ((pos + runLen (s.data.toList.drop pos) : Nat) : Int) := by
  intro f
  have hend : ∀ pos, s.size ≤ pos → pos ≤ s.size → ((s.size : Int)) = ((pos + runLen (s.data.toList.drop pos) : Nat) : Int) := by
    intro pos h1 h2
    rw [List.drop_of_length_le (by rw [Array.length_toList]; exact h1)]
    simp [runLen]; omega
  induction f with
  | zero => intro pos h1 h2; rw [Lib.idxFuncFrom_end _ _ _ _ _ (by omega), if_pos (by omega)]; exact hend pos (by omega) h2
  | succ f ih =>
    intro pos h1 h2
    by_cases hp : pos < s.size
    · have hd : s.data.toList.drop pos = s[pos]'hp :: s.data.toList.drop (pos + 1) := by
        rw [List.drop_eq_getElem_cons (by rw [Array.length_toList]; exact hp)]; rfl
      have hrl : runLen (s.data.toList.drop pos) = if wordB (s[pos]'hp).toNat then runLen (s.data.toList.drop (pos + 1)) + 1 else 0 := by
        rw [hd]; unfold runLen; rw [List.takeWhile_cons]; split <;> simp
      simp only [Lib.idxFuncFrom, if_pos hp]
      rcases Nat.lt_or_ge (s[pos]'hp).toNat 128 with q | q
      · rw [decode_ascii s pos hp q]
        have e : noWord (s[pos]'hp).toNat = !wordB (s[pos]'hp).toNat := by unfold noWord; rw [decide_eq_false (by omega)]; rfl
        simp only [e]
        cases hw : wordB (s[pos]'hp).toNat with
        | true =>
          rw [hrl, hw, if_pos rfl]
          simp only [Bool.not_true, Bool.false_eq_true, if_false]
          rw [ih (pos + 1) (by omega) (by omega)]; omega
        | false =>
          rw [hrl, hw]
          simp only [Bool.not_false, if_true, Bool.false_eq_true, if_false]
          rw [if_neg (by omega)]; rfl
      · have e : noWord (Utf8.decode s pos).1 = true := by
          have := (decode_high s pos hp q).1
          unfold noWord; rw [decide_eq_true (by omega)]; rfl
        rw [if_pos e, hrl, wordB_high q, if_neg (by omega), if_neg (by simp)]; rfl
    · rw [Lib.idxFuncFrom_end _ _ _ _ _ hp, if_pos (by omega)]; exact hend pos (by omega) h2
set_option maxRecDepth 100000 in
theorem speclex_run.calls (a0 : ByteArray) (r : Int) (w : World) (h : speclex_run.f a0 = some r) :
    Calls Tryd.prog 26 #[.string a0] w fun e w' => e = .returned (.int .i64 r) ∧ Below w.heap.size w w' := by
  obtain rfl := Option.some.inj h
  have hrf := run_from a0 a0.size 0 (by omega) (by omega)
  rw [Nat.zero_add, List.drop_zero] at hrf
  change (if Lib.idxFunc noWord true a0 < 0 then (a0.size : Int) else Lib.idxFunc noWord true a0) = _ at hrf
  rw [← hrf]
  obtain ⟨n, hn⟩ : ∃ n, Lib.idxFunc noWord true a0 = n := ⟨_, rfl⟩
  have hcI := IndexFunc_calls a0 w
  rw [hn] at hcI ⊢
  clear hrf hn
  by_cases hneg : n < 0
  · have d : decide (n < 0) = true := decide_eq_true hneg
    rw [if_pos hneg]
    clear hneg
    go_enter Tryd.func26, Tryd.ntmps26
    go_wp2_with (go_at_call 43; refine hcI.mono ?_; rintro e w' ⟨rfl, hb⟩)
    go_ret
    exact ⟨rfl, hb⟩
  · have d : decide (n < 0) = false := decide_eq_false hneg
    rw [if_neg hneg]
    clear hneg
    go_enter Tryd.func26, Tryd.ntmps26
    go_wp2_with (go_at_call 43; refine hcI.mono ?_; rintro e w' ⟨rfl, hb⟩)
    go_ret
    exact ⟨rfl, hb⟩
end Go.Proofs.YthijdjpipjbkbaaDoor.H
end
section
namespace Go.Proofs.YthijdjpipjbkbaaDoor.H
open Go.RowKit Go.Shelf Go.Proofs.YthijdjpipjbkbaaDoorW.PrintWords Go.Proofs.YthijdjpipjbkbaaDoorW.PrintLast Go.Proofs.YthijdjpipjbkbaaDoorW.PrintMore
open Go.Maps
set_option linter.unusedVariables false
set_option linter.unusedSimpArgs false
def speclex_word.f (a0 : ByteArray) : Option Bool := some (wordsL.any fun w => w.toList == a0.toList)
theorem ix_words (W : World) (i : Nat) (hi : i < 10) : (Instr.index 85 (.agg #[Value.string (wordAt 0), Value.string (wordAt 1), Value.string (wordAt 2), Value.string (wordAt 3), Value.string (wordAt 4), Value.string (wordAt 5), Value.string (wordAt 6), Value.string (wordAt 7), Value.string (wordAt 8), Value.string (wordAt 9)]) (.int .i64 (i : Int))).run Tryd.prog W = .ok (.string (wordAt i)) W := by
  have e : (#[Value.string (wordAt 0), Value.string (wordAt 1), Value.string (wordAt 2), Value.string (wordAt 3), Value.string (wordAt 4), Value.string (wordAt 5), Value.string (wordAt 6), Value.string (wordAt 7), Value.string (wordAt 8), Value.string (wordAt 9)] : Array Value) = (wordsL.map Value.string).toArray := rfl
  have h : wordsL[i]? = some (wordAt i) := by unfold wordAt; rw [List.getD_eq_getElem?_getD, List.getElem?_eq_getElem (by exact hi)]; rfl
  have hi2 : (i : Int) < 10 := by omega
  rw [e]
  simp [Instr.index, run_underlying Tryd.underlying85, asIntOf, part, hi, hi2, h, Result.andThen]
set_option maxRecDepth 100000 in
set_option maxHeartbeats 1000000 in
theorem speclex_word.calls (a0 : ByteArray) (r : Bool) (w : World) (hgw : GW w) (h : speclex_word.f a0 = some r) :
    Calls Tryd.prog 30 #[.string a0] w fun e w' => e = .returned (.bool r) ∧ Below w.heap.size w w' := by
  have hr := Option.some.inj h
  clear h
  have hc := hgw.words
  have c0 := hc 0 (by omega)
  have c1 := hc 1 (by omega)
  have c2 := hc 2 (by omega)
  have c3 := hc 3 (by omega)
  have c4 := hc 4 (by omega)
  have c5 := hc 5 (by omega)
  have c6 := hc 6 (by omega)
  have c7 := hc 7 (by omega)
  have c8 := hc 8 (by omega)
  have c9 := hc 9 (by omega)
  clear hc hgw
  go_enter Tryd.func30, Tryd.ntmps30
  go_wp2
  go_loopw [6] (fun v wx => ∃ i : Nat, v = .int .i64 (i : Int) ∧ i ≤ 10 ∧ wx = w ∧ (wordsL.drop i).any (fun w => w.toList == a0.toList) = r) (fun v _ => 10 - (intOf v).toNat)
  case atStart => exact ⟨0, rfl, by omega, rfl, hr⟩
  case round =>
    obtain ⟨i, rfl, hi, hwx, hrr⟩ := hrel
    have HW := Aside0.mk hwx
    clear hwx c0 c1 c2 c3 c4 c5 c6 c7 c8 c9
    by_cases h10 : i < 10
    · have hix := ix_words wr i h10
      have hii : (i : Int) < 10 := by omega
      have hd : wordsL.drop i = wordAt i :: wordsL.drop (i + 1) := by rw [List.drop_eq_getElem_cons (by exact h10)]; unfold wordAt; rw [List.getD_eq_getElem?_getD, List.getElem?_eq_getElem (by exact h10)]; rfl
      rw [hd, List.any_cons] at hrr
      have HRR := Aside0.mk hrr
      obtain ⟨x, hx⟩ : ∃ x, wordAt i = x := ⟨_, rfl⟩
      rw [hx] at hix HRR
      clear hx hd hrr
      by_cases he : x.toList = a0.toList
      · have hb : (x.toList == a0.toList) = true := by simpa using he
        go_wp2
        go_ret
        refine ⟨?_, HW.out ▸ Below.refl _ _⟩
        have := HRR.out
        rw [he] at this
        simp at this
        rw [← this]; rfl
      · have hb : (x.toList == a0.toList) = false := by simpa using he
        go_wp2
        go_roundw
        case rel =>
          refine ⟨i + 1, rfl, by omega, HW.out, ?_⟩
          have := HRR.out
          rw [show (x.toList == a0.toList) = false by simpa using he, Bool.false_or] at this
          exact this
        case measure => simp [intOf]; omega
    · obtain rfl : i = 10 := by omega
      have hrf : r = false := by rw [← hrr]; rfl
      clear hrr
      subst hrf
      go_wp2
      go_ret
      exact ⟨rfl, HW.out ▸ Below.refl _ _⟩
end Go.Proofs.YthijdjpipjbkbaaDoor.H
end
section
namespace Go.Proofs.YthijdjpipjbkbaaDoor.H
open Go.RowKit Go.Shelf Go.Proofs.YthijdjpipjbkbaaDoorW.PrintWords Go.Proofs.YthijdjpipjbkbaaDoorW.PrintLast Go.Proofs.YthijdjpipjbkbaaDoorW.PrintMore
open Go.Maps
set_option linter.unusedVariables false
set_option linter.unusedSimpArgs false
def digitsS : ByteArray := ⟨#[48, 49, 50, 51, 52, 53, 54, 55, 56, 57]⟩
def strings_Trim.f (a0 a1 : ByteArray) : Option ByteArray := if a1 = digitsS then (if a0.size ≤ 9223372036854775807 then some ⟨(Lib.trimS a0.data.toList digitsS.data.toList).toArray⟩ else none) else none
theorem strings_Trim.calls (a0 a1 : ByteArray) (r : ByteArray) (w : World) (h : strings_Trim.f a0 a1 = some r) :
    Calls Tryd.prog 27 #[.string a0, .string a1] w fun e w' => e = .returned (.string r) ∧ Below w.heap.size w w' := by
  unfold strings_Trim.f at h
  split at h
  case isFalse => cases h
  rename_i h1
  subst h1
  split at h
  case isFalse => cases h
  rename_i h2
  obtain rfl := Option.some.inj h
  exact Any.strings_Trim_laid Tryd.ly160 (by kernel_rfl) a0 digitsS w h2 (by decide) (ascii_of_all (by decide))
end Go.Proofs.YthijdjpipjbkbaaDoor.H
end
section
namespace Go.Proofs.YthijdjpipjbkbaaDoor.H
open Go.RowKit Go.Proofs.YthijdjpipjbkbaaDoorW.PrintWords Go.Proofs.YthijdjpipjbkbaaDoorW.PrintLast Go.Proofs.YthijdjpipjbkbaaDoorW.PrintMore
attribute [local go_sem] max2_int min2_int max_two min_two max_three min_three max_four min_four
set_option linter.unusedVariables false
set_option linter.unusedSimpArgs false
mutual
def text_braced.j2 : Nat → ByteArray → Int → Int → Int → Option (Int × Int)
 | 0, _, _, _, _ => none
 | k + 1, x0, x1, x6, x8 => if x8 = (x0.size : Int) then (some (0, (-1))) else (if 0 ≤ x8 then (if x8 < (x0.size : Int) then (if (bt x0 x8) = 125 then (if x8 ≤ x1 then (some (0, 0)) else (some (x6, wrap64 (x8 + 1)))) else (some (0, 0))) else (none)) else (none))
def text_braced.l0 : Nat → ByteArray → Int → Int → Int → Int → Option (Int × Int)
 | 0, _, _, _, _, _ => none
 | k + 1, x0, x1, x2, x6, x8 => if x8 < (x0.size : Int) then (text_braced.j1 k x0 x1 x2 x6 x8 (decide (x8 ≤ x2))) else (text_braced.j1 k x0 x1 x2 x6 x8 false)
def text_braced.j1 : Nat → ByteArray → Int → Int → Int → Int → Bool → Option (Int × Int)
 | 0, _, _, _, _, _, _ => none
 | k + 1, x0, x1, x2, x6, x8, x23 => if x23 = true then (if 0 ≤ x8 then (if x8 < (x0.size : Int) then ((strings_IndexByte.f (⟨#[48, 49, 50, 51, 52, 53, 54, 55, 56, 57, 97, 98, 99, 100, 101, 102]⟩ : ByteArray) (bt x0 x8)).bind fun t101 => (if t101 < 0 then (text_braced.j2 k x0 x1 x6 x8) else (text_braced.l0 k x0 x1 x2 (wrap64 ((wrap64 (16 * x6)) + t101)) (wrap64 (x8 + 1))))) else (none)) else (none)) else (text_braced.j2 k x0 x1 x6 x8)
end
def text_braced.f (k : Nat) (a0 : ByteArray) (a1 : Int) (a2 : Int) : Option (Int × Int) := if a0.toList = ([] : List UInt8) then (some (0, (-1))) else (if 0 < (a0.size : Int) then (if (bt a0 0) = 123 then (text_braced.l0 k a0 a1 a2 0 1) else (some (0, 0))) else (none))
theorem text_braced.mono_l : ∀ k, (∀ y0 y1 y2 y3, LeO (text_braced.j2 k y0 y1 y2 y3) (text_braced.j2 (k + 1) y0 y1 y2 y3)) ∧ (∀ y0 y1 y2 y3 y4, LeO (text_braced.l0 k y0 y1 y2 y3 y4) (text_braced.l0 (k + 1) y0 y1 y2 y3 y4)) ∧ (∀ y0 y1 y2 y3 y4 y5, LeO (text_braced.j1 k y0 y1 y2 y3 y4 y5) (text_braced.j1 (k + 1) y0 y1 y2 y3 y4 y5))
 | 0 => ⟨fun _ _ _ _ r h => by simp [text_braced.j2] at h, fun _ _ _ _ _ r h => by simp [text_braced.l0] at h, fun _ _ _ _ _ _ r h => by simp [text_braced.j1] at h⟩
 | k + 1 => by
  (obtain ⟨ih0, ih1, ih2⟩ := text_braced.mono_l k); (refine ⟨?_, ?_, ?_⟩)
  ·intro y0 y1 y2 y3
   unfold text_braced.j2
   repeat' first
   | (with_reducible exact ih0 _ _ _ _)
   | (with_reducible exact ih1 _ _ _ _ _)
   | (with_reducible exact ih2 _ _ _ _ _ _)
   | (with_reducible exact LeO.refl _)
   | (with_reducible exact LeO.none _)
   | (with_reducible refine LeO.ite ?_ ?_)
   | (with_reducible refine LeO.bind ?_ (fun _ => ?_))
   | exact ih0 _ _ _ _
   | exact ih1 _ _ _ _ _
   | exact ih2 _ _ _ _ _ _
   | exact LeO.none _
   | refine LeO.ite ?_ ?_
   | refine LeO.bind ?_ (fun _ => ?_)
  ·intro y0 y1 y2 y3 y4
   unfold text_braced.l0
   repeat' first
   | (with_reducible exact ih0 _ _ _ _)
   | (with_reducible exact ih1 _ _ _ _ _)
   | (with_reducible exact ih2 _ _ _ _ _ _)
   | (with_reducible exact LeO.refl _)
   | (with_reducible exact LeO.none _)
   | (with_reducible refine LeO.ite ?_ ?_)
   | (with_reducible refine LeO.bind ?_ (fun _ => ?_))
   | exact ih0 _ _ _ _
   | exact ih1 _ _ _ _ _
   | exact ih2 _ _ _ _ _ _
   | exact LeO.none _
   | refine LeO.ite ?_ ?_
   | refine LeO.bind ?_ (fun _ => ?_)
  ·intro y0 y1 y2 y3 y4 y5
   unfold text_braced.j1
   repeat' first
   | (with_reducible exact ih0 _ _ _ _)
   | (with_reducible exact ih1 _ _ _ _ _)
   | (with_reducible exact ih2 _ _ _ _ _ _)
   | (with_reducible exact LeO.refl _)
   | (with_reducible exact LeO.none _)
   | (with_reducible refine LeO.ite ?_ ?_)
   | (with_reducible refine LeO.bind ?_ (fun _ => ?_))
   | exact ih0 _ _ _ _
   | exact ih1 _ _ _ _ _
   | exact ih2 _ _ _ _ _ _
   | exact LeO.none _
   | refine LeO.ite ?_ ?_
   | refine LeO.bind ?_ (fun _ => ?_)
theorem text_braced.mono : ∀ a0 a1 a2 k, LeO (text_braced.f k a0 a1 a2) (text_braced.f (k + 1) a0 a1 a2) := by
 (intro a0 a1 a2 k); (obtain ⟨ih0, ih1, ih2⟩ := text_braced.mono_l k); (unfold text_braced.f)
 repeat' first
   | (with_reducible exact ih0 _ _ _ _)
   | (with_reducible exact ih1 _ _ _ _ _)
   | (with_reducible exact ih2 _ _ _ _ _ _)
   | (with_reducible exact LeO.refl _)
   | (with_reducible exact LeO.none _)
   | (with_reducible refine LeO.ite ?_ ?_)
   | (with_reducible refine LeO.bind ?_ (fun _ => ?_))
   | exact ih0 _ _ _ _
   | exact ih1 _ _ _ _ _
   | exact ih2 _ _ _ _ _ _
   | exact LeO.none _
   | refine LeO.ite ?_ ?_
   | refine LeO.bind ?_ (fun _ => ?_)
set_option maxHeartbeats 8000000 in
set_option maxRecDepth 100000 in
theorem text_braced.calls (k : Nat) (a0 : ByteArray) (a1 : Int) (a2 : Int) (r1 : Int) (r2 : Int) (w : World) (h : text_braced.f k a0 a1 a2 = some (r1, r2)) :
  Calls Tryd.prog 71 #[.string a0, .int .i64 a1, .int .i64 a2] w fun e w' => e = .returned (.tuple #[.int .i64 r1, .int .i64 r2]) ∧ Drawn0 w w' := by
 (have H : (if a0.toList = ([] : List UInt8) then (some (0, (-1))) else (if 0 < (a0.size : Int) then (if (bt a0 0) = 123 then (text_braced.l0 k a0 a1 a2 0 1) else (some (0, 0))) else (none))) = some (r1, r2) := h); clear h; (by_cases c4 : a0.toList = ([] : List UInt8))
 ·rw [if_pos c4] at H
  (have c4b0 : (a0.toList == ([] : List UInt8)) = true := beq_iff_eq.mpr c4); (have c4b1 : (a0.toList != ([] : List UInt8)) = false := bne_eq_false_iff_eq.mpr c4); clear c4; (simp only [Option.some.injEq, Prod.mk.injEq] at H); (obtain ⟨rfl, rfl⟩ := H); (go_enter Tryd.func71, Tryd.ntmps71); go_wp2; (go_ret2); (exact ⟨qV, by repeat (first | exact Drawn0.refl _ | apply Drawn0.step)⟩)
 ·rw [if_neg c4] at H
  (have c4b0 : (a0.toList == ([] : List UInt8)) = false := beq_eq_false_iff_ne.mpr c4); (have c4b1 : (a0.toList != ([] : List UInt8)) = true := bne_iff_ne.mpr c4); (by_cases c5 : 0 < (a0.size : Int))
  ·rw [if_pos c5] at H
   (have c5b0 : decide (0 < (a0.size : Int)) = true := decide_eq_true c5); (have c5b1 : decide (0 < a0.size) = true := decide_eq_true (by omega)); clear c5; (by_cases c7 : (bt a0 0) = 123)
   ·rw [if_pos c7] at H
    (have c7b0 : ((bt a0 0) == 123) = true := beq_iff_eq.mpr c7); (have c7b1 : ((bt a0 0) != 123) = false := bne_eq_false_iff_eq.mpr c7); clear c7; (have HC8 := qM H); clear H; (have p6 : 0 ≤ (0 : Int) := (by omega)); (have q6 : 0 < a0.size := (by have : (0 : Int) < (a0.size : Int) := qo qX; omega)); (have hx6 : ∀ h : 0 < a0.size, ((a0[0]'h).toNat : Int) = bt a0 0 := bt_at a0 0); clear p6; (have qi6 : (0 < (a0.size : Int)) = True := eq_true (qo qX)); (replace q6 := eq_true q6); (go_enter Tryd.func71, Tryd.ntmps71); (go_upto_block 0 with (fail)); (go_cut [6, 8] (fun v6 v8 wc => ∃ (kq : Nat) (x6_7 : Int) (x8_7 : Int), v6 = .int .i64 x6_7 ∧ v8 = .int .i64 x8_7 ∧ Aside0 (text_braced.j2 kq a0 a1 x6_7 x8_7 = some (r1, r2)) ∧ Aside0 (kq ≤ k) ∧ Drawn0 w wc))
    case first =>
     (have H := HC8.out); clear HC8; (have H' := qM H); clear H; go_wp2; (go_loopg [6, 8] k (fun kq v6 v8 w' => ∃ (x6_1 : Int) (x8_1 : Int), v6 = .int .i64 x6_1 ∧ v8 = .int .i64 x8_1 ∧ Aside0 (text_braced.l0 kq a0 a1 a2 x6_1 x8_1 = some (r1, r2)) ∧ Aside0 (kq ≤ k) ∧ Drawn0 w w'))
     case atStart => exact ⟨(0), (1), qV, qV, H', ⟨Nat.le_refl _⟩, by repeat (first | exact Drawn0.refl _ | apply Drawn0.step)⟩
     case round =>
      (clear H'); (try clear p2); (try clear c4); (try clear c4b0); (try clear c4b1); (try clear c5); (try clear c5b0); (try clear c5b1); (try clear p6); (try clear q6); (try clear hx6); (try clear qi6); (try clear c7); (try clear c7b0); (try clear c7b1); (try clear p6); (try clear q6); (obtain ⟨x6_1, x8_1, rfl, rfl, HA, HK1, ⟨m1, rfl⟩⟩ := hrel)
      cases gk with
      | zero => exact absurd HA.out (by simp [text_braced.l0])
      | succ k1 =>
       (have H := HA.out); clear HA; (simp only [text_braced.l0] at H); (have HC9 := qM H); clear H; (go_upto_region 6 with (fail)); (go_cut [23] (fun v23 wc => ∃ (kq : Nat) (x23_8 : Bool), v23 = .bool x23_8 ∧ Aside0 (text_braced.j1 kq a0 a1 a2 x6_1 x8_1 x23_8 = some (r1, r2)) ∧ Aside0 (kq ≤ k1) ∧ Drawn0 w wc))
       case first =>
        (have H := HC9.out); clear HC9; (by_cases c10 : x8_1 < (a0.size : Int))
        ·rw [if_pos c10] at H
         (have c10b0 : decide (x8_1 < (a0.size : Int)) = true := decide_eq_true c10); clear c10; ((first | rw [c10b0] | (simp only [i64_w, i32_w]; rw [c10b0]) | skip)); (have H' := qM H); clear H; go_wp2; go_meet
         case rel => exact ⟨_, (decide (x8_1 ≤ a2)), qV, H', ⟨by have := HK1.out; first | omega | exact Nat.le_refl _⟩, by repeat (first | exact Drawn0.refl _ | apply Drawn0.step)⟩
        ·rw [if_neg c10] at H
         (have c10b0 : decide (x8_1 < (a0.size : Int)) = false := decide_eq_false c10); clear c10; ((first | rw [c10b0] | (simp only [i64_w, i32_w]; rw [c10b0]) | skip)); (have H' := qM H); clear H; go_wp2; go_meet
         case rel => exact ⟨_, (false), qV, H', ⟨by have := HK1.out; first | omega | exact Nat.le_refl _⟩, by repeat (first | exact Drawn0.refl _ | apply Drawn0.step)⟩
       case rest =>
        clear HC9; (try clear c1); (try clear p2); (try clear c4); (try clear c4b0); (try clear c4b1); (try clear c5); (try clear c5b0); (try clear c5b1); (try clear p6); (try clear q6); (try clear hx6); (try clear qi6); (try clear c7); (try clear c7b0); (try clear c7b1); (try clear c10); (try clear c10b0); (try clear p2); (try clear p6); (try clear q6); (obtain ⟨kq, x23_8, rfl, HA, HJ8, ⟨mc8, rfl⟩⟩ := hcut)
        cases kq with
        | zero => exact absurd HA.out (by simp [text_braced.j1])
        | succ kj8 =>
         (have H := HA.out); clear HA; (simp only [text_braced.j1] at H); (by_cases c11 : x23_8 = true)
         ·subst c11
          (have H1 : (if 0 ≤ x8_1 then (if x8_1 < (a0.size : Int) then ((strings_IndexByte.f (⟨#[48, 49, 50, 51, 52, 53, 54, 55, 56, 57, 97, 98, 99, 100, 101, 102]⟩ : ByteArray) (bt a0 x8_1)).bind fun t101 => (if t101 < 0 then (text_braced.j2 kj8 a0 a1 x6_1 x8_1) else (text_braced.l0 kj8 a0 a1 a2 (wrap64 ((wrap64 (16 * x6_1)) + t101)) (wrap64 (x8_1 + 1))))) else (none)) else (none)) = some (r1, r2) := by rw [if_pos rfl] at H; exact H); clear H; (have H := H1); clear H1; (by_cases c12 : 0 ≤ x8_1)
          ·rw [if_pos c12] at H
           (have c12b0 : decide (0 ≤ x8_1) = true := decide_eq_true c12); clear c12; (by_cases c13 : x8_1 < (a0.size : Int))
           ·rw [if_pos c13] at H
            (have c13b0 : decide (x8_1 < (a0.size : Int)) = true := decide_eq_true c13); clear c13; (replace H := Option.bind_eq_some_iff.mp H); (obtain ⟨t101, A150, H⟩ := H); (replace H : (if t101 < 0 then (text_braced.j2 kj8 a0 a1 x6_1 x8_1) else (text_braced.l0 kj8 a0 a1 a2 (wrap64 ((wrap64 (16 * x6_1)) + t101)) (wrap64 (x8_1 + 1)))) = some (r1, r2) := H); (have A15 := qM A150); clear A150; (by_cases c16 : t101 < 0)
            ·rw [if_pos c16] at H
             (have c16b0 : decide (t101 < 0) = true := decide_eq_true c16); clear c16; (have H' := qM H); clear H; (have p14 : 0 ≤ (x8_1 : Int) := qo qX); (have q14 : x8_1 < (a0.size : Int) := qo qX); (have hx14 := bt_at a0 x8_1); (replace p14 := eq_true p14); (replace q14 := eq_true q14); (go_wp2_with (first | ((with_reducible refine gate_callee (f := 16) rfl ?_); refine goesL_ (some 29) rfl rfl Tryd.func16 (by kernel_rfl) rfl #[.string (⟨#[48, 49, 50, 51, 52, 53, 54, 55, 56, 57, 97, 98, 99, 100, 101, 102]⟩ : ByteArray), .int .u8 (bt a0 x8_1)] rfl (by (try simp only [List.map_toArray, List.map_cons, List.map_nil]); first | done | rfl | (simp only [List.length_drop, List.length_take]; rfl)) ?_; (with_reducible refine (strings_IndexByte.calls (⟨#[48, 49, 50, 51, 52, 53, 54, 55, 56, 57, 97, 98, 99, 100, 101, 102]⟩ : ByteArray) (bt a0 x8_1) t101 _ A15.out).mono ?_); rintro e w' ⟨rfl, ⟨nd, rfl⟩⟩; refine ⟨_, rfl, ?_⟩))); go_meet
             case rel => exact ⟨_, (x6_1), (x8_1), qV, qV, H', ⟨by have := HK1.out; have := HJ8.out; first | omega | exact Nat.le_refl _⟩, by repeat (first | exact Drawn0.refl _ | apply Drawn0.step)⟩
            ·rw [if_neg c16] at H
             (have c16b0 : decide (t101 < 0) = false := decide_eq_false c16); clear c16; (have H' := qM H); clear H; (have p14 : 0 ≤ (x8_1 : Int) := qo qX); (have q14 : x8_1 < (a0.size : Int) := qo qX); (have hx14 := bt_at a0 x8_1); (replace p14 := eq_true p14); (replace q14 := eq_true q14); (go_wp2_with (first | ((with_reducible refine gate_callee (f := 16) rfl ?_); refine goesL_ (some 29) rfl rfl Tryd.func16 (by kernel_rfl) rfl #[.string (⟨#[48, 49, 50, 51, 52, 53, 54, 55, 56, 57, 97, 98, 99, 100, 101, 102]⟩ : ByteArray), .int .u8 (bt a0 x8_1)] rfl (by (try simp only [List.map_toArray, List.map_cons, List.map_nil]); first | done | rfl | (simp only [List.length_drop, List.length_take]; rfl)) ?_; (with_reducible refine (strings_IndexByte.calls (⟨#[48, 49, 50, 51, 52, 53, 54, 55, 56, 57, 97, 98, 99, 100, 101, 102]⟩ : ByteArray) (bt a0 x8_1) t101 _ A15.out).mono ?_); rintro e w' ⟨rfl, ⟨nd, rfl⟩⟩; refine ⟨_, rfl, ?_⟩))); (go_roundg kj8)
             case measure => have := HK1.out; have := HJ8.out; omega
             case rel => exact ⟨(wrap64 ((wrap64 (16 * x6_1)) + t101)), (wrap64 (x8_1 + 1)), qV, qV, H', ⟨by have := HK1.out; have := HJ8.out; omega⟩, by repeat (first | exact Drawn0.refl _ | apply Drawn0.step)⟩
           ·rw [if_neg c13] at H
            exact absurd H (by simp)
          ·rw [if_neg c12] at H
           exact absurd H (by simp)
         ·replace c11 := Bool.eq_false_iff.mpr c11
          subst c11; (have H1 : (text_braced.j2 kj8 a0 a1 x6_1 x8_1) = some (r1, r2) := by rw [if_neg (show ¬ (false = true) by decide)] at H; exact H); clear H; (have H := H1); clear H1; (have H' := qM H); clear H; go_wp2; go_meet
          case rel => exact ⟨_, (x6_1), (x8_1), qV, qV, H', ⟨by have := HK1.out; have := HJ8.out; first | omega | exact Nat.le_refl _⟩, by repeat (first | exact Drawn0.refl _ | apply Drawn0.step)⟩
    case rest =>
     clear HC8; (try clear c1); (try clear p1); (try clear q1); (try clear hx1); (try clear p2); (try clear c4); (try clear c4b0); (try clear c4b1); (try clear c5); (try clear c5b0); (try clear c5b1); (try clear p6); (try clear q6); (try clear hx6); (try clear qi6); (try clear c7); (try clear c7b0); (try clear c7b1); (try clear c8); (try clear c10); (try clear c10b0); (try clear c11); (try clear c12); (try clear c12b0); (try clear c13); (try clear c13b0); (try clear p14); (try clear q14); (try clear hx14); (try clear c16); (try clear c16b0); (try clear p14); (try clear p2); (try clear p6); (try clear q14); (try clear q6); (obtain ⟨kq, x6_7, x8_7, rfl, rfl, HA, HJ7, ⟨mc7, rfl⟩⟩ := hcut)
     cases kq with
     | zero => exact absurd HA.out (by simp [text_braced.j2])
     | succ kj7 =>
      (have H := HA.out); clear HA; (simp only [text_braced.j2] at H); (by_cases c17 : x8_7 = (a0.size : Int))
      ·rw [if_pos c17] at H
       (have c17b0 : (x8_7 == (a0.size : Int)) = true := beq_iff_eq.mpr c17); (have c17b1 : (x8_7 != (a0.size : Int)) = false := bne_eq_false_iff_eq.mpr c17); clear c17; (simp only [Option.some.injEq, Prod.mk.injEq] at H); (obtain ⟨rfl, rfl⟩ := H); go_wp2; (go_ret2); (exact ⟨qV, by repeat (first | exact Drawn0.refl _ | apply Drawn0.step)⟩)
      ·rw [if_neg c17] at H
       (have c17b0 : (x8_7 == (a0.size : Int)) = false := beq_eq_false_iff_ne.mpr c17); (have c17b1 : (x8_7 != (a0.size : Int)) = true := bne_iff_ne.mpr c17); (by_cases c18 : 0 ≤ x8_7)
       ·rw [if_pos c18] at H
        (have c18b0 : decide (0 ≤ x8_7) = true := decide_eq_true c18); clear c18; (by_cases c19 : x8_7 < (a0.size : Int))
        ·rw [if_pos c19] at H
         (have c19b0 : decide (x8_7 < (a0.size : Int)) = true := decide_eq_true c19); clear c19; (by_cases c21 : (bt a0 x8_7) = 125)
         ·rw [if_pos c21] at H
          (have c21b0 : ((bt a0 x8_7) == 125) = true := beq_iff_eq.mpr c21); (have c21b1 : ((bt a0 x8_7) != 125) = false := bne_eq_false_iff_eq.mpr c21); clear c21; (by_cases c22 : x8_7 ≤ a1)
          ·rw [if_pos c22] at H
           (have c22b0 : decide (x8_7 ≤ a1) = true := decide_eq_true c22); clear c22; (simp only [Option.some.injEq, Prod.mk.injEq] at H); (obtain ⟨rfl, rfl⟩ := H); (have p20 : 0 ≤ (x8_7 : Int) := qo qX); (have q20 : x8_7 < (a0.size : Int) := qo qX); (have hx20 := bt_at a0 x8_7); (replace p20 := eq_true p20); (replace q20 := eq_true q20); go_wp2; (go_ret2); (exact ⟨qV, by repeat (first | exact Drawn0.refl _ | apply Drawn0.step)⟩)
          ·rw [if_neg c22] at H
           (have c22b0 : decide (x8_7 ≤ a1) = false := decide_eq_false c22); clear c22; (simp only [Option.some.injEq, Prod.mk.injEq] at H); (obtain ⟨rfl, rfl⟩ := H); (have p20 : 0 ≤ (x8_7 : Int) := qo qX); (have q20 : x8_7 < (a0.size : Int) := qo qX); (have hx20 := bt_at a0 x8_7); (replace p20 := eq_true p20); (replace q20 := eq_true q20); go_wp2; (go_ret2); (exact ⟨qV, by repeat (first | exact Drawn0.refl _ | apply Drawn0.step)⟩)
         ·rw [if_neg c21] at H
          (have c21b0 : ((bt a0 x8_7) == 125) = false := beq_eq_false_iff_ne.mpr c21); (have c21b1 : ((bt a0 x8_7) != 125) = true := bne_iff_ne.mpr c21); (simp only [Option.some.injEq, Prod.mk.injEq] at H); (obtain ⟨rfl, rfl⟩ := H); (have p20 : 0 ≤ (x8_7 : Int) := qo qX); (have q20 : x8_7 < (a0.size : Int) := qo qX); (have hx20 := bt_at a0 x8_7); (replace p20 := eq_true p20); (replace q20 := eq_true q20); go_wp2; (go_ret2); (exact ⟨qV, by repeat (first | exact Drawn0.refl _ | apply Drawn0.step)⟩)
        ·rw [if_neg c19] at H
         exact absurd H (by simp)
       ·rw [if_neg c18] at H
        exact absurd H (by simp)
   ·rw [if_neg c7] at H
    (have c7b0 : ((bt a0 0) == 123) = false := beq_eq_false_iff_ne.mpr c7); (have c7b1 : ((bt a0 0) != 123) = true := bne_iff_ne.mpr c7); (simp only [Option.some.injEq, Prod.mk.injEq] at H); (obtain ⟨rfl, rfl⟩ := H); (have p6 : 0 ≤ (0 : Int) := (by omega)); (have q6 : 0 < a0.size := (by have : (0 : Int) < (a0.size : Int) := qo qX; omega)); (have hx6 : ∀ h : 0 < a0.size, ((a0[0]'h).toNat : Int) = bt a0 0 := bt_at a0 0); clear p6; (have qi6 : (0 < (a0.size : Int)) = True := eq_true (qo qX)); (replace q6 := eq_true q6); (go_enter Tryd.func71, Tryd.ntmps71); go_wp2; (go_ret2); (exact ⟨qV, by repeat (first | exact Drawn0.refl _ | apply Drawn0.step)⟩)
  ·rw [if_neg c5] at H
   exact absurd H (by simp)
def text_escape.j0 : Nat → ByteArray → Int → Int → Option (ByteArray × Int)
 | 0, _, _, _ => none
 | k + 1, x0, x5, x6 => if 1 ≤ (x0.size : Int) then ((text_braced.f k (x0.extract 1 x0.size) x5 x6).bind fun bt103 => (if bt103.2 < 1 then (some ((⟨#[]⟩ : ByteArray), bt103.2)) else (if x6 = 2 then (some (strOfNums (([(bt103.1) % 256] : List Int)), wrap64 (1 + bt103.2))) else ((utf8_ValidRune.f k (wrap32 (bt103.1))).bind fun t108 => (if t108 = true then (some ((Utf8.encode (wrap32 (bt103.1))), wrap64 (1 + bt103.2))) else (some ((⟨#[]⟩ : ByteArray), 0))))))) else (none)
def text_escape.f (k : Nat) (a0 : ByteArray) : Option (ByteArray × Int) := if a0.toList = ([] : List UInt8) then (some ((⟨#[]⟩ : ByteArray), (-1))) else (if 0 < (a0.size : Int) then ((strings_IndexByte.f (⟨#[34, 92, 110, 114, 116]⟩ : ByteArray) (bt a0 0)).bind fun t102 => (if t102 ≥ 0 then (if 0 ≤ t102 then (if t102 ≤ (wrap64 (t102 + 1)) then (if (wrap64 (t102 + 1)) ≤ 5 then (some ((⟨#[34, 92, 10, 13, 9]⟩ : ByteArray).extract (t102 : Int).toNat ((wrap64 (t102 + 1)) : Int).toNat, 1)) else (none)) else (none)) else (none)) else (if (bt a0 0) = 120 then (text_escape.j0 k a0 2 2) else (if (bt a0 0) = 117 then (text_escape.j0 k a0 1 6) else (some ((⟨#[]⟩ : ByteArray), 0)))))) else (none))
theorem text_escape.mono_l : ∀ k, (∀ y0 y1 y2, LeO (text_escape.j0 k y0 y1 y2) (text_escape.j0 (k + 1) y0 y1 y2))
 | 0 => fun _ _ _ r h => by simp [text_escape.j0] at h
 | k + 1 => by
  have ih0 := text_escape.mono_l k
  ·intro y0 y1 y2
   unfold text_escape.j0
   repeat' first
   | (with_reducible exact ih0 _ _ _)
   | (with_reducible exact text_braced.mono _ _ _ _)
   | (with_reducible exact utf8_ValidRune.mono _ _)
   | (with_reducible exact LeO.refl _)
   | (with_reducible exact LeO.none _)
   | (with_reducible refine LeO.ite ?_ ?_)
   | (with_reducible refine LeO.bind ?_ (fun _ => ?_))
   | exact ih0 _ _ _
   | exact text_braced.mono _ _ _ _
   | exact utf8_ValidRune.mono _ _
   | exact LeO.none _
   | refine LeO.ite ?_ ?_
   | refine LeO.bind ?_ (fun _ => ?_)
theorem text_escape.mono : ∀ a0 k, LeO (text_escape.f k a0) (text_escape.f (k + 1) a0) := by
 (intro a0 k); (have ih0 := text_escape.mono_l k); (unfold text_escape.f)
 repeat' first
   | (with_reducible exact ih0 _ _ _)
   | (with_reducible exact text_braced.mono _ _ _ _)
   | (with_reducible exact utf8_ValidRune.mono _ _)
   | (with_reducible exact LeO.refl _)
   | (with_reducible exact LeO.none _)
   | (with_reducible refine LeO.ite ?_ ?_)
   | (with_reducible refine LeO.bind ?_ (fun _ => ?_))
   | exact ih0 _ _ _
   | exact text_braced.mono _ _ _ _
   | exact utf8_ValidRune.mono _ _
   | exact LeO.none _
   | refine LeO.ite ?_ ?_
   | refine LeO.bind ?_ (fun _ => ?_)
set_option maxHeartbeats 8000000 in
set_option maxRecDepth 100000 in
theorem text_escape.calls (k : Nat) (a0 : ByteArray) (r1 : ByteArray) (r2 : Int) (w : World) (h : text_escape.f k a0 = some (r1, r2)) :
  Calls Tryd.prog 55 #[.string a0] w fun e w' => e = .returned (.tuple #[.string r1, .int .i64 r2]) ∧ Below w.heap.size w w' := by
 (have HB := qM (Below.refl w.heap.size w)); (have H : (if a0.toList = ([] : List UInt8) then (some ((⟨#[]⟩ : ByteArray), (-1))) else (if 0 < (a0.size : Int) then ((strings_IndexByte.f (⟨#[34, 92, 110, 114, 116]⟩ : ByteArray) (bt a0 0)).bind fun t102 => (if t102 ≥ 0 then (if 0 ≤ t102 then (if t102 ≤ (wrap64 (t102 + 1)) then (if (wrap64 (t102 + 1)) ≤ 5 then (some ((⟨#[34, 92, 10, 13, 9]⟩ : ByteArray).extract (t102 : Int).toNat ((wrap64 (t102 + 1)) : Int).toNat, 1)) else (none)) else (none)) else (none)) else (if (bt a0 0) = 120 then (text_escape.j0 k a0 2 2) else (if (bt a0 0) = 117 then (text_escape.j0 k a0 1 6) else (some ((⟨#[]⟩ : ByteArray), 0)))))) else (none))) = some (r1, r2) := h); clear h; (by_cases c2 : a0.toList = ([] : List UInt8))
 ·rw [if_pos c2] at H
  (have c2b0 : (a0.toList == ([] : List UInt8)) = true := beq_iff_eq.mpr c2); (have c2b1 : (a0.toList != ([] : List UInt8)) = false := bne_eq_false_iff_eq.mpr c2); clear c2; (simp only [Option.some.injEq, Prod.mk.injEq] at H); (obtain ⟨rfl, rfl⟩ := H); (go_enter Tryd.func55, Tryd.ntmps55); go_wp2; (go_ret2); (exact ⟨qE, qF⟩)
 ·rw [if_neg c2] at H
  (have c2b0 : (a0.toList == ([] : List UInt8)) = false := beq_eq_false_iff_ne.mpr c2); (have c2b1 : (a0.toList != ([] : List UInt8)) = true := bne_iff_ne.mpr c2); (by_cases c3 : 0 < (a0.size : Int))
  ·rw [if_pos c3] at H
   (have c3b0 : decide (0 < (a0.size : Int)) = true := decide_eq_true c3); (have c3b1 : decide (0 < a0.size) = true := decide_eq_true (by omega)); clear c3; (replace H := Option.bind_eq_some_iff.mp H); (obtain ⟨t102, A50, H⟩ := H); (replace H : (if t102 ≥ 0 then (if 0 ≤ t102 then (if t102 ≤ (wrap64 (t102 + 1)) then (if (wrap64 (t102 + 1)) ≤ 5 then (some ((⟨#[34, 92, 10, 13, 9]⟩ : ByteArray).extract (t102 : Int).toNat ((wrap64 (t102 + 1)) : Int).toNat, 1)) else (none)) else (none)) else (none)) else (if (bt a0 0) = 120 then (text_escape.j0 k a0 2 2) else (if (bt a0 0) = 117 then (text_escape.j0 k a0 1 6) else (some ((⟨#[]⟩ : ByteArray), 0))))) = some (r1, r2) := H); (have A5 := qM A50); clear A50; (by_cases c6 : t102 ≥ 0)
   ·rw [if_pos c6] at H
    (have c6b0 : decide (0 ≤ t102) = true := decide_eq_true c6); clear c6; (by_cases c7 : 0 ≤ t102)
    ·rw [if_pos c7] at H
     (have c7b0 := eq_true c7); (have c7b1 : decide (0 ≤ t102) = true := decide_eq_true c7); clear c7; (by_cases c8 : t102 ≤ (wrap64 (t102 + 1)))
     ·rw [if_pos c8] at H
      (have c8b0 := eq_true c8); (have c8b1 : decide (t102 ≤ (wrap64 (t102 + 1))) = true := decide_eq_true c8); (by_cases c9 : (wrap64 (t102 + 1)) ≤ 5)
      ·rw [if_pos c9] at H
       (have c9b0 := eq_true c9); (have c9b1 : decide ((wrap64 (t102 + 1)) ≤ 5) = true := decide_eq_true c9); (simp only [Option.some.injEq, Prod.mk.injEq] at H); (obtain ⟨rfl, rfl⟩ := H); (have p4 : 0 ≤ (0 : Int) := (by omega)); (have q4 : 0 < a0.size := (by have : (0 : Int) < (a0.size : Int) := qo qX; omega)); (have hx4 : ∀ h : 0 < a0.size, ((a0[0]'h).toNat : Int) = bt a0 0 := bt_at a0 0); clear p4; (have qi4 : (0 < (a0.size : Int)) = True := eq_true (qo qX)); (replace q4 := eq_true q4); (go_enter Tryd.func55, Tryd.ntmps55); (go_wp2_with (first | ((with_reducible refine gate_callee (f := 16) rfl ?_); refine goesL_ (some 13) rfl rfl Tryd.func16 (by kernel_rfl) rfl #[.string (⟨#[34, 92, 110, 114, 116]⟩ : ByteArray), .int .u8 (bt a0 0)] rfl (by (try simp only [List.map_toArray, List.map_cons, List.map_nil]); first | done | rfl | (simp only [List.length_drop, List.length_take]; rfl)) ?_; (with_reducible refine (strings_IndexByte.calls (⟨#[34, 92, 110, 114, 116]⟩ : ByteArray) (bt a0 0) t102 _ A5.out).mono ?_); rintro e w' ⟨rfl, ⟨nd, rfl⟩⟩; refine ⟨_, rfl, ?_⟩))); (go_ret2); (exact ⟨qE, qF⟩)
      ·rw [if_neg c9] at H
       exact absurd H (by simp)
     ·rw [if_neg c8] at H
      exact absurd H (by simp)
    ·rw [if_neg c7] at H
     exact absurd H (by simp)
   ·rw [if_neg c6] at H
    (have c6b0 : decide (0 ≤ t102) = false := decide_eq_false c6); clear c6; (have HC11 := qM H); clear H; (have p4 : 0 ≤ (0 : Int) := (by omega)); (have q4 : 0 < a0.size := (by have : (0 : Int) < (a0.size : Int) := qo qX; omega)); (have hx4 : ∀ h : 0 < a0.size, ((a0[0]'h).toNat : Int) = bt a0 0 := bt_at a0 0); clear p4; (have qi4 : (0 < (a0.size : Int)) = True := eq_true (qo qX)); (replace q4 := eq_true q4); (go_enter Tryd.func55, Tryd.ntmps55)
    go_upto_block 2 with (first | ((with_reducible refine gate_callee (f := 16) rfl ?_); refine goesL_ (some 13) rfl rfl Tryd.func16 (by kernel_rfl) rfl #[.string (⟨#[34, 92, 110, 114, 116]⟩ : ByteArray), .int .u8 (bt a0 0)] rfl (by (try simp only [List.map_toArray, List.map_cons, List.map_nil]); first | done | rfl | (simp only [List.length_drop, List.length_take]; rfl)) ?_; (with_reducible refine (strings_IndexByte.calls (⟨#[34, 92, 110, 114, 116]⟩ : ByteArray) (bt a0 0) t102 _ A5.out).mono ?_); rintro e w' ⟨rfl, ⟨nd, rfl⟩⟩; refine ⟨_, rfl, ?_⟩; have p10 : 0 ≤ (0 : Int) := (by omega); have q10 : 0 < a0.size := (by have : (0 : Int) < (a0.size : Int) := qo qX; omega); have hx10 : ∀ h : 0 < a0.size, ((a0[0]'h).toNat : Int) = bt a0 0 := bt_at a0 0; clear p10; have qi10 : (0 < (a0.size : Int)) = True := eq_true (qo qX); replace q10 := eq_true q10))
    ((try simp only [Act.put, List.setIfInBounds_toArray, List.set_cons_zero, List.set_cons_succ])); (go_cut [5, 6] (fun v5 v6 wc => ∃ (kq : Nat) (x5_10 : Int) (x6_10 : Int), v5 = .int .i64 x5_10 ∧ v6 = .int .i64 x6_10 ∧ Aside0 (text_escape.j0 kq a0 x5_10 x6_10 = some (r1, r2)) ∧ Aside0 (kq ≤ k) ∧ Aside0 (Below w.heap.size w wc)))
    case first =>
     (have H := HC11.out); clear HC11; (by_cases c12 : (bt a0 0) = 120)
     ·rw [if_pos c12] at H
      (have c12b0 : ((bt a0 0) == 120) = true := beq_iff_eq.mpr c12); (have c12b1 : ((bt a0 0) != 120) = false := bne_eq_false_iff_eq.mpr c12); clear c12; ((first | rw [c12b0] | (simp only [i64_w, i32_w]; rw [c12b0]) | skip)); (have H' := qM H); clear H; go_wp2; go_meet
      case rel => exact ⟨_, (2), (2), qV, qV, H', ⟨by first | omega | exact Nat.le_refl _⟩, ⟨qF⟩⟩
     ·rw [if_neg c12] at H
      (have c12b0 : ((bt a0 0) == 120) = false := beq_eq_false_iff_ne.mpr c12); (have c12b1 : ((bt a0 0) != 120) = true := bne_iff_ne.mpr c12); ((first | rw [c12b0] | (simp only [i64_w, i32_w]; rw [c12b0]) | skip)); (by_cases c13 : (bt a0 0) = 117)
      ·rw [if_pos c13] at H
       (have c13b0 : ((bt a0 0) == 117) = true := beq_iff_eq.mpr c13); (have c13b1 : ((bt a0 0) != 117) = false := bne_eq_false_iff_eq.mpr c13); clear c13; (have H' := qM H); clear H; go_wp2; go_meet
       case rel => exact ⟨_, (1), (6), qV, qV, H', ⟨by first | omega | exact Nat.le_refl _⟩, ⟨qF⟩⟩
      ·rw [if_neg c13] at H
       (have c13b0 : ((bt a0 0) == 117) = false := beq_eq_false_iff_ne.mpr c13); (have c13b1 : ((bt a0 0) != 117) = true := bne_iff_ne.mpr c13); (simp only [Option.some.injEq, Prod.mk.injEq] at H); (obtain ⟨rfl, rfl⟩ := H); go_wp2; (go_ret2); (exact ⟨qE, qF⟩)
    case rest =>
     clear HC11; (try clear c1); (try clear p1); (try clear q1); (try clear hx1); (try clear qi1); (try clear c2); (try clear c2b0); (try clear c2b1); (try clear p2); (try clear c3); (try clear c3b0); (try clear c3b1); (try clear p4); (try clear q4); (try clear hx4); (try clear qi4); (try clear c5); (try clear c6); (try clear c6b0); (try clear p6); (try clear c7); (try clear c7b0); (try clear c7b1); (try clear c8); (try clear c8b0); (try clear c8b1); (try clear c9); (try clear c9b0); (try clear c9b1); (try clear p10); (try clear q10); (try clear hx10); (try clear qi10); (try clear c12); (try clear c12b0); (try clear c12b1); (try clear c13); (try clear c13b0); (try clear c13b1); (try clear p10); (try clear p4); (try clear q10); (try clear q4); (obtain ⟨kq, x5_10, x6_10, rfl, rfl, HA, HJ10, HB⟩ := hcut)
     cases kq with
     | zero => exact absurd HA.out (by simp [text_escape.j0])
     | succ kj10 =>
      (have H := HA.out); clear HA; (simp only [text_escape.j0] at H); (by_cases c14 : 1 ≤ (a0.size : Int))
      ·rw [if_pos c14] at H
       (have c14b0 := eq_true c14); (have c14b1 : decide (1 ≤ (a0.size : Int)) = true := decide_eq_true c14); clear c14; (replace H := Option.bind_eq_some_iff.mp H); (obtain ⟨⟨t103, t104⟩, A150, H⟩ := H); (replace H : (if t104 < 1 then (some ((⟨#[]⟩ : ByteArray), t104)) else (if x6_10 = 2 then (some (strOfNums (([(t103) % 256] : List Int)), wrap64 (1 + t104))) else ((utf8_ValidRune.f kj10 (wrap32 (t103))).bind fun t108 => (if t108 = true then (some ((Utf8.encode (wrap32 (t103))), wrap64 (1 + t104))) else (some ((⟨#[]⟩ : ByteArray), 0)))))) = some (r1, r2) := H); (have A15 := qM A150); clear A150; (by_cases c16 : t104 < 1)
       ·rw [if_pos c16] at H
        (have c16b0 : decide (t104 < 1) = true := decide_eq_true c16); clear c16; (simp only [Option.some.injEq, Prod.mk.injEq] at H); (obtain ⟨rfl, rfl⟩ := H); (go_wp2_with (first | ((with_reducible refine gate_callee (f := 71) rfl ?_); refine goesL_ (some 31) rfl rfl Tryd.func71 (by kernel_rfl) rfl #[.string (a0.extract 1 a0.size), .int .i64 x5_10, .int .i64 x6_10] rfl (by (try simp only [List.map_toArray, List.map_cons, List.map_nil]); first | done | rfl | (simp only [List.length_drop, List.length_take]; rfl)) ?_; (with_reducible refine (text_braced.calls kj10 (a0.extract 1 a0.size) x5_10 x6_10 t103 t104 _ A15.out).mono ?_); rintro e w' ⟨rfl, ⟨nd, rfl⟩⟩; refine ⟨_, rfl, ?_⟩))); (go_ret2); (exact ⟨qE, qF⟩)
       ·rw [if_neg c16] at H
        (have c16b0 : decide (t104 < 1) = false := decide_eq_false c16); clear c16; (by_cases c17 : x6_10 = 2)
        ·rw [if_pos c17] at H
         (have c17b0 : (x6_10 == 2) = true := beq_iff_eq.mpr c17); (have c17b1 : (x6_10 != 2) = false := bne_eq_false_iff_eq.mpr c17); clear c17; (obtain ⟨y105, hy105⟩ : ∃ y_ : List Int, y_ = (([(t103) % 256] : List Int)) := ⟨_, rfl⟩); (replace H : (some (strOfNums y105, wrap64 (1 + t104))) = some (r1, r2) := by first | (rw [hy105]; with_reducible exact H) | (have H2_ := (Option.bind_some _ _).symm.trans H; rw [hy105]; with_reducible exact H2_) | (have H2_ := (Option.bind_some _ _).symm.trans H; with_reducible exact H2_) | with_reducible exact H | (rw [hy105]; exact H) | exact H); (have Ny105 := qM hy105); clear hy105; (simp only [Option.some.injEq, Prod.mk.injEq] at H); (obtain ⟨rfl, rfl⟩ := H)
         go_wp2_with (first | ((with_reducible refine gate_callee (f := 71) rfl ?_); refine goesL_ (some 31) rfl rfl Tryd.func71 (by kernel_rfl) rfl #[.string (a0.extract 1 a0.size), .int .i64 x5_10, .int .i64 x6_10] rfl (by (try simp only [List.map_toArray, List.map_cons, List.map_nil]); first | done | rfl | (simp only [List.length_drop, List.length_take]; rfl)) ?_; (with_reducible refine (text_braced.calls kj10 (a0.extract 1 a0.size) x5_10 x6_10 t103 t104 _ A15.out).mono ?_); rintro e w' ⟨rfl, ⟨nd, rfl⟩⟩; refine ⟨_, rfl, ?_⟩) | ((with_reducible refine gate_dst (N := 41) rfl ?_); refine Kd.R_lit (Kd.int .u8) _ 5 ?hg (N := 41) ?hd (xs := ([(t103) % 256] : List Int)) (inner := [.int .u8 ((t103) % 256)]) (ok := fun _ => True) (okp := fun _ => True) ?hr ?hp (fun _ hk => hk) trivial (Below.refl _ _) (Nat.le_refl _) (by simp) ?_; (case hd => rfl); (case hg => rfl); (case hr => first | (go_simp; done) | (go_simp; rfl)); (case hp => exact (Reps.one (show Kd.M (Kd.int .u8) _ _ _ ((t103) % 256) [.int .u8 ((t103) % 256)] from rfl) (Reps.none _ _))); intro v106 w18 ho19 hb hg_ hnew_; clear hg_ hnew_; (first | rw [← Ny105.out] at ho19 | (simp only [Int.reduceToNat] at ho19; rw [← Ny105.out] at ho19)); have n0_ := qM (Kd.R_lower ho19 (qZ qF)); have n1_ := qM (qP qF hb); clear HB; have HO107 := n0_; have HB := n1_; clear n0_ n1_; clear hb ho19; have hcv20 := own_string (P := Tryd.prog) Tryd.underlying47 Tryd.underlying5 Tryd.underlying9 (Kd.own_of_R HO107.out)))
         (go_ret2); (exact ⟨qE, qF⟩)
        ·rw [if_neg c17] at H
         (have c17b0 : (x6_10 == 2) = false := beq_eq_false_iff_ne.mpr c17); (have c17b1 : (x6_10 != 2) = true := bne_iff_ne.mpr c17); (replace H := Option.bind_eq_some_iff.mp H); (obtain ⟨t108, A210, H⟩ := H); (replace H : (if t108 = true then (some ((Utf8.encode (wrap32 (t103))), wrap64 (1 + t104))) else (some ((⟨#[]⟩ : ByteArray), 0))) = some (r1, r2) := H); (have A21 := qM A210); clear A210; (by_cases c22 : t108 = true)
         ·subst c22
          (have H1 : (some ((Utf8.encode (wrap32 (t103))), wrap64 (1 + t104))) = some (r1, r2) := by rw [if_pos rfl] at H; exact H); clear H; (have H := H1); clear H1; (simp only [Option.some.injEq, Prod.mk.injEq] at H); (obtain ⟨rfl, rfl⟩ := H)
          go_wp2_with (first | ((with_reducible refine gate_callee (f := 71) rfl ?_); refine goesL_ (some 31) rfl rfl Tryd.func71 (by kernel_rfl) rfl #[.string (a0.extract 1 a0.size), .int .i64 x5_10, .int .i64 x6_10] rfl (by (try simp only [List.map_toArray, List.map_cons, List.map_nil]); first | done | rfl | (simp only [List.length_drop, List.length_take]; rfl)) ?_; (with_reducible refine (text_braced.calls kj10 (a0.extract 1 a0.size) x5_10 x6_10 t103 t104 _ A15.out).mono ?_); rintro e w' ⟨rfl, ⟨nd, rfl⟩⟩; refine ⟨_, rfl, ?_⟩) | ((with_reducible refine gate_callee (f := 72) rfl ?_); refine goesL_ (some 47) rfl rfl Tryd.func72 (by kernel_rfl) rfl #[.int .i32 (wrap32 (t103))] rfl (by (try simp only [List.map_toArray, List.map_cons, List.map_nil]); first | done | rfl | (simp only [List.length_drop, List.length_take]; rfl)) ?_; (with_reducible refine (utf8_ValidRune.calls kj10 (wrap32 (t103)) true _ A21.out).mono ?_); rintro e w' ⟨rfl, ⟨nd, rfl⟩⟩; refine ⟨_, rfl, ?_⟩))
          (go_ret2); (exact ⟨qE, qF⟩)
         ·replace c22 := Bool.eq_false_iff.mpr c22
          subst c22; (have H1 : (some ((⟨#[]⟩ : ByteArray), 0)) = some (r1, r2) := by rw [if_neg (show ¬ (false = true) by decide)] at H; exact H); clear H; (have H := H1); clear H1; (simp only [Option.some.injEq, Prod.mk.injEq] at H); (obtain ⟨rfl, rfl⟩ := H)
          go_wp2_with (first | ((with_reducible refine gate_callee (f := 71) rfl ?_); refine goesL_ (some 31) rfl rfl Tryd.func71 (by kernel_rfl) rfl #[.string (a0.extract 1 a0.size), .int .i64 x5_10, .int .i64 x6_10] rfl (by (try simp only [List.map_toArray, List.map_cons, List.map_nil]); first | done | rfl | (simp only [List.length_drop, List.length_take]; rfl)) ?_; (with_reducible refine (text_braced.calls kj10 (a0.extract 1 a0.size) x5_10 x6_10 t103 t104 _ A15.out).mono ?_); rintro e w' ⟨rfl, ⟨nd, rfl⟩⟩; refine ⟨_, rfl, ?_⟩) | ((with_reducible refine gate_callee (f := 72) rfl ?_); refine goesL_ (some 47) rfl rfl Tryd.func72 (by kernel_rfl) rfl #[.int .i32 (wrap32 (t103))] rfl (by (try simp only [List.map_toArray, List.map_cons, List.map_nil]); first | done | rfl | (simp only [List.length_drop, List.length_take]; rfl)) ?_; (with_reducible refine (utf8_ValidRune.calls kj10 (wrap32 (t103)) false _ A21.out).mono ?_); rintro e w' ⟨rfl, ⟨nd, rfl⟩⟩; refine ⟨_, rfl, ?_⟩))
          (go_ret2); (exact ⟨qE, qF⟩)
      ·rw [if_neg c14] at H
       exact absurd H (by simp)
  ·rw [if_neg c3] at H
   exact absurd H (by simp)
end Go.Proofs.YthijdjpipjbkbaaDoor.H
end
section
namespace Go.Proofs.YthijdjpipjbkbaaDoor.H
open Go.RowKit Go.Proofs.YthijdjpipjbkbaaDoorW.PrintWords Go.Proofs.YthijdjpipjbkbaaDoorW.PrintLast Go.Proofs.YthijdjpipjbkbaaDoorW.PrintMore
open Go.Maps
set_option linter.unusedVariables false
set_option linter.unusedSimpArgs false
def text_Unquote.l0 : Nat → ByteArray → List UInt8 → Nat → Option (ByteArray × Int × Int)
  | 0, _, _, _ => none
  | k + 1, line, acc, at' => if at' < line.size then
      (if (Utf8.decode line at').1 = 34 then some (⟨acc.toArray⟩, (at' : Int) + 1, 0)
       else if (Utf8.decode line at').1 = 92 then (text_escape.f k (line.extract (at' + 1) line.size)).bind fun t =>
         if t.2 < 0 then some (⟨#[]⟩, 0, 13) else if t.2 = 0 then some (⟨#[]⟩, 0, 3)
         else if acc.length + t.1.size ≤ 140737488355000 then (if t.2 ≤ 4294967296 then text_Unquote.l0 k line (acc ++ t.1.data.toList) (at' + (1 + t.2.toNat)) else none) else none
       else if (Utf8.decode line at').1 < 32 ∨ (Utf8.decode line at').1 = 127 ∨ ((Utf8.decode line at').1 = 65533 ∧ (Utf8.decode line at').2 = 1) then some (⟨#[]⟩, 0, 3)
       else if acc.length ≤ 140737488355000 then text_Unquote.l0 k line (acc ++ Lib.encodeRune ((Utf8.decode line at').1 : Int)) (at' + (Utf8.decode line at').2) else none)
      else some (⟨#[]⟩, 0, 13)
def lineOf (s : ByteArray) : ByteArray := ⟨(Lib.cut s.data.toList [10]).1.toArray⟩
def text_Unquote.f (k : Nat) (a0 : ByteArray) : Option (ByteArray × Int × Int) :=
  if a0.size < 4294967281 then (if Lib.hasPrefix a0.data.toList [34] = true then text_Unquote.l0 k (lineOf a0) [] 1 else some (⟨#[]⟩, 0, 3)) else none
theorem text_Unquote.mono_l : ∀ k line acc at', LeO (text_Unquote.l0 k line acc at') (text_Unquote.l0 (k + 1) line acc at')
  | 0 => fun _ _ _ r h => by simp [text_Unquote.l0] at h
  | k + 1 => by
    have ih := text_Unquote.mono_l k
    intro line acc at'
    unfold text_Unquote.l0
    repeat' first
      | (with_reducible exact LeO.refl _)
      | (with_reducible exact LeO.none _)
      | exact ih _ _ _
      | exact text_escape.mono _ _
      | (with_reducible refine LeO.ite ?_ ?_)
      | (with_reducible refine LeO.bind ?_ (fun _ => ?_))
      | refine LeO.ite ?_ ?_
      | refine LeO.bind ?_ (fun _ => ?_)
theorem text_Unquote.mono : ∀ a0 k, LeO (text_Unquote.f k a0) (text_Unquote.f (k + 1) a0) := by
  intro a0 k
  unfold text_Unquote.f
  refine LeO.ite (LeO.ite (text_Unquote.mono_l _ _ _ _) (LeO.refl _)) (LeO.none _)
theorem lineOf_size (s : ByteArray) : (lineOf s).size ≤ s.size := by
  unfold lineOf Lib.cut
  split
  · simp only [ByteArray.size, List.size_toArray, List.length_take]
    have : s.data.toList.length = s.data.size := Array.length_toList
    omega
  · simp only [ByteArray.size, List.size_toArray]
    exact Nat.le_of_eq Array.length_toList
def URel (k : Nat) (r : ByteArray × Int × Int) (line : ByteArray) (w : World) (v9 : Value) (wr : World) : Prop :=
  ∃ (kq at' : Nat) (acc : List UInt8), v9 = .int .i64 (at' : Int) ∧ at' ≤ 9000000000 ∧ text_Unquote.l0 kq line acc at' = some r ∧ Bd w.heap.size acc wr ∧ Below w.heap.size w wr
theorem ret_three {s s' : ByteArray} {a b a' b' : Int} (h : (s, a, b) = (s', a', b')) : Ending.returned (.tuple #[.string s, .int .i64 a, .int .i64 b]) = .returned (.tuple #[.string s', .int .i64 a', .int .i64 b']) := by
  obtain ⟨rfl, rfl, rfl⟩ : s = s' ∧ a = a' ∧ b = b' := by simpa using h
  rfl
set_option maxRecDepth 100000 in
set_option maxHeartbeats 8000000 in
theorem text_Unquote.calls (k : Nat) (a0 : ByteArray) (r1 : ByteArray) (r2 : Int) (r3 : Int) (w : World) (hgw : GW w) (h : text_Unquote.f k a0 = some (r1, r2, r3)) :
    Calls Tryd.prog 28 #[.string a0] w fun e w' => e = .returned (.tuple #[.string r1, .int .i64 r2, .int .i64 r3]) ∧ Below w.heap.size w w' := by
  unfold text_Unquote.f at h
  split at h
  case isFalse => cases h
  rename_i hs
  have HS := Aside0.mk hs
  obtain ⟨m, hm⟩ := hgw.ml
  have HM := Aside0.mk hm
  have HGW := Aside0.mk hgw
  clear hm hgw
  by_cases hp : Lib.hasPrefix a0.data.toList [34] = true
  · rw [if_pos hp] at h
    have H := Aside0.mk h
    have hsz := Nat.le_trans (lineOf_size a0) (Nat.le_of_lt hs)
    have hline : (⟨(Lib.cut a0.data.toList [10]).1.toArray⟩ : ByteArray) = lineOf a0 := rfl
    obtain ⟨line, hl⟩ : ∃ line, lineOf a0 = line := ⟨_, rfl⟩
    rw [hl] at H hsz hline
    clear h hs hl
    go_enter Tryd.func28, Tryd.ntmps28
    go_wp2_with (first
      | (go_at_call 52; refine (Any.strings_HasPrefix Tryd.ly99 _ _ _).mono ?_; rintro e w1 ⟨rfl, hw1⟩; obtain rfl : w = w1 := hw1.symm; simp only [hp])
      | (go_at_call 53; refine (Any.strings_Cut Tryd.ly145 _ _ m _ HS.out HM.out).mono ?_; rintro e w1 ⟨rfl, nq, rfl⟩; rw [hline]))
    go_loopw [9] (fun v9 wr => URel k (r1, r2, r3) line w v9 wr) (fun v9 _ => line.size - (intOf v9).toNat)
    case atStart => exact ⟨k, 1, [], rfl, by omega, H.out, (show Bd w.heap.size [] ((w.drewN nq).alloc _) from Bd.new (w.drewN nq)), below_alloc (pw_below_drewN (Below.refl _ _) _) _⟩
    case round =>
      obtain ⟨kq, p, acc, rfl, hp9, hK, hb, hB⟩ := hrel
      have HB := Aside0.mk hb
      have HL := Aside0.mk hB
      have HG := Aside0.mk (HGW.out.below hB)
      clear hb hB
      cases kq with
      | zero => exact absurd hK (by simp [text_Unquote.l0])
      | succ kq =>
        simp only [text_Unquote.l0] at hK
        by_cases hlt : p < line.size
        · rw [if_pos hlt] at hK
          have hd := Lib.rune_le line p
          have hw1 := rune_w_pos line p
          have hw2 := rune_w_le line p hlt
          have HT := Aside0.mk (decodeGo_tail line p hlt)
          obtain ⟨rr, hrr⟩ : ∃ rr, (Utf8.decode line p).1 = rr := ⟨_, rfl⟩
          obtain ⟨nn, hnn⟩ : ∃ nn, (Utf8.decode line p).2 = nn := ⟨_, rfl⟩
          have hdec : Utf8.decode line p = (rr, nn) := by rw [← hrr, ← hnn]
          have HT2 := Aside0.mk (HT.out.trans hdec)
          rw [hrr] at hd
          rw [hnn] at hw1 hw2
          simp only [hrr, hnn] at hK
          clear hrr hnn hdec HT
          have HK := Aside0.mk hK
          clear hK
          by_cases h34 : rr = 34
          · subst h34
            go_wp2_with (first
              | (go_at_call 54; refine (Any.utf8_DecodeRuneInString Tryd.ly197 _ _ HG.out.u8).mono ?_; rintro e W2 ⟨rfl, hb⟩; have hT := HT2.out; rw [hT]; have HB1 := Aside0.mk (HB.out.below hb); have HL1 := Aside0.mk (below_step HL.out hb); clear hT hb)
              | (go_at_call 23; refine (Bd.string HB1.out).mono ?_; rintro e w3 ⟨rfl, hB3⟩; have HL3 := Aside0.mk (HL1.out.trans hB3); clear hB3))
            have hK := HK.out
            simp only [if_true] at hK
            go_ret3
            exact ⟨ret_three (Option.some.inj hK), HL3.out⟩
          have h34b : ((rr : Int) == 34) = false := by simp; omega
          by_cases h92 : rr = 92
          · subst h92
            have hK := HK.out
            rw [if_neg (by decide), if_pos rfl] at hK
            clear HK
            obtain ⟨⟨t1, t2⟩, hE, hK⟩ := Option.bind_eq_some_iff.mp hK
            have HE := Aside0.mk hE
            have HK := Aside0.mk hK
            clear hE hK
            by_cases c1 : t2 < 0
            · go_wp2_with (first
                | (go_at_call 54; refine (Any.utf8_DecodeRuneInString Tryd.ly197 _ _ HG.out.u8).mono ?_; rintro e W2 ⟨rfl, hb⟩; have hT := HT2.out; rw [hT]; have HB1 := Aside0.mk (HB.out.below hb); have HL1 := Aside0.mk (below_step HL.out hb); clear hT hb)
                | (go_at_call 55; refine (text_escape.calls kq _ t1 t2 _ HE.out).mono ?_; rintro e w3 ⟨rfl, hB3⟩; have HL3 := Aside0.mk (below_step HL1.out hB3); clear hB3))
              have hK := HK.out
              rw [if_pos c1] at hK
              go_ret3
              exact ⟨ret_three (Option.some.inj hK), HL3.out⟩
            have c1b : decide (t2 < 0) = false := by simpa using c1
            by_cases c2 : t2 = 0
            · subst c2
              go_wp2_with (first
                | (go_at_call 54; refine (Any.utf8_DecodeRuneInString Tryd.ly197 _ _ HG.out.u8).mono ?_; rintro e W2 ⟨rfl, hb⟩; have hT := HT2.out; rw [hT]; have HB1 := Aside0.mk (HB.out.below hb); have HL1 := Aside0.mk (below_step HL.out hb); clear hT hb)
                | (go_at_call 55; refine (text_escape.calls kq _ t1 0 _ HE.out).mono ?_; rintro e w3 ⟨rfl, hB3⟩; have HL3 := Aside0.mk (below_step HL1.out hB3); clear hB3))
              have hK := HK.out
              rw [if_neg (by decide)] at hK
              simp only [if_true] at hK
              go_ret3
              exact ⟨ret_three (Option.some.inj hK), HL3.out⟩
            have c2b : (t2 == 0) = false := by simpa using c2
            have hK := HK.out
            dsimp only at hK
            rw [if_neg c1, if_neg c2] at hK
            clear HK
            by_cases c3 : acc.length + t1.size ≤ 140737488355000
            · rw [if_pos c3] at hK
              by_cases c4 : t2 ≤ 4294967296
              · rw [if_pos c4] at hK
                have HK := Aside0.mk hK
                have C3 := Aside0.mk c3
                clear hK c3
                go_wp2_with (first
                  | (go_at_call 54; refine (Any.utf8_DecodeRuneInString Tryd.ly197 _ _ HG.out.u8).mono ?_; rintro e W2 ⟨rfl, hb⟩; have hT := HT2.out; rw [hT]; have HB1 := Aside0.mk (HB.out.below hb); have HL1 := Aside0.mk (below_step HL.out hb); clear hT hb)
                  | (go_at_call 55; refine (text_escape.calls kq _ t1 t2 _ HE.out).mono ?_; rintro e w3 ⟨rfl, hB3⟩; have HL3 := Aside0.mk (below_step HL1.out hB3); have HB3 := Aside0.mk (HB1.out.below hB3); clear hB3) | (go_at_call 21; refine (Bd.write HB3.out _ ?h4).mono ?_; (case h4 => have := C3.out; omega); rintro e w4 ⟨rfl, hb4, hB4, hO4⟩; have HB4 := Aside0.mk hb4; have HL4 := Aside0.mk (HL3.out.trans hB4); clear hb4 hB4 hO4))
                go_roundw
                case rel => exact ⟨kq, p + (1 + t2.toNat), _, by congr 1; omega, by omega, HK.out, HB4.out, HL4.out⟩
                case measure => simp [intOf]; omega
              · rw [if_neg c4] at hK; cases hK
            · rw [if_neg c3] at hK; cases hK
          have h92b : ((rr : Int) == 92) = false := by simp; omega
          by_cases hbad : rr < 32 ∨ rr = 127 ∨ (rr = 65533 ∧ nn = 1)
          · have hK := HK.out
            rw [if_neg h34, if_neg h92, if_pos hbad] at hK
            clear HK
            have HK := Aside0.mk (Option.some.inj hK)
            clear hK
            by_cases d1 : rr < 32
            · have d1b : decide ((rr : Int) < 32) = true := by simp; omega
              go_wp2_with (first
                | (go_at_call 54; refine (Any.utf8_DecodeRuneInString Tryd.ly197 _ _ HG.out.u8).mono ?_; rintro e W2 ⟨rfl, hb⟩; have hT := HT2.out; rw [hT]; have HB1 := Aside0.mk (HB.out.below hb); have HL1 := Aside0.mk (below_step HL.out hb); clear hT hb)
                | fail)
              go_ret3
              exact ⟨ret_three HK.out, HL1.out⟩
            have d1b : decide ((rr : Int) < 32) = false := by simp; omega
            by_cases d2 : rr = 127
            · subst d2
              go_wp2_with (first
                | (go_at_call 54; refine (Any.utf8_DecodeRuneInString Tryd.ly197 _ _ HG.out.u8).mono ?_; rintro e W2 ⟨rfl, hb⟩; have hT := HT2.out; rw [hT]; have HB1 := Aside0.mk (HB.out.below hb); have HL1 := Aside0.mk (below_step HL.out hb); clear hT hb)
                | fail)
              go_ret3
              exact ⟨ret_three HK.out, HL1.out⟩
            have d2b : ((rr : Int) == 127) = false := by simp; omega
            obtain ⟨rfl, rfl⟩ : rr = 65533 ∧ nn = 1 := by omega
            go_wp2_with (first
              | (go_at_call 54; refine (Any.utf8_DecodeRuneInString Tryd.ly197 _ _ HG.out.u8).mono ?_; rintro e W2 ⟨rfl, hb⟩; have hT := HT2.out; rw [hT]; have HB1 := Aside0.mk (HB.out.below hb); have HL1 := Aside0.mk (below_step HL.out hb); clear hT hb)
              | fail)
            go_ret3
            exact ⟨ret_three HK.out, HL1.out⟩
          · have hK := HK.out
            rw [if_neg h34, if_neg h92, if_neg hbad] at hK
            clear HK
            by_cases c3 : acc.length ≤ 140737488355000
            · rw [if_pos c3] at hK
              have HK := Aside0.mk hK
              have C3 := Aside0.mk c3
              clear hK c3
              have d1b : decide ((rr : Int) < 32) = false := by simp; omega
              have d2b : ((rr : Int) == 127) = false := by simp; omega
              by_cases d3 : rr = 65533
              · have d4b : ((nn : Int) == 1) = false := by simp; omega
                subst d3
                go_wp2_with (first
                  | (go_at_call 54; refine (Any.utf8_DecodeRuneInString Tryd.ly197 _ _ HG.out.u8).mono ?_; rintro e W2 ⟨rfl, hb⟩; have hT := HT2.out; rw [hT]; have HB1 := Aside0.mk (HB.out.below hb); have HL1 := Aside0.mk (below_step HL.out hb); clear hT hb)
                  | (go_at_call 56; refine (Bd.rune HB1.out _ ?h2 ?h3 ?h4).mono ?_; (case h2 => omega); (case h3 => omega); (case h4 => have := C3.out; omega); rintro e w4 ⟨⟨n4, rfl⟩, hb4, hB4, hO4⟩; have HB4 := Aside0.mk hb4; have HL4 := Aside0.mk (HL1.out.trans hB4); clear hb4 hB4 hO4))
                go_roundw
                case rel => exact ⟨kq, p + nn, _, by push_cast; rfl, by omega, HK.out, HB4.out, HL4.out⟩
                case measure => simp [intOf]; omega
              · have d3b : ((rr : Int) == 65533) = false := by simp; omega
                go_wp2_with (first
                  | (go_at_call 54; refine (Any.utf8_DecodeRuneInString Tryd.ly197 _ _ HG.out.u8).mono ?_; rintro e W2 ⟨rfl, hb⟩; have hT := HT2.out; rw [hT]; have HB1 := Aside0.mk (HB.out.below hb); have HL1 := Aside0.mk (below_step HL.out hb); clear hT hb)
                  | (go_at_call 56; refine (Bd.rune HB1.out _ ?h2 ?h3 ?h4).mono ?_; (case h2 => omega); (case h3 => omega); (case h4 => have := C3.out; omega); rintro e w4 ⟨⟨n4, rfl⟩, hb4, hB4, hO4⟩; have HB4 := Aside0.mk hb4; have HL4 := Aside0.mk (HL1.out.trans hB4); clear hb4 hB4 hO4))
                go_roundw
                case rel => exact ⟨kq, p + nn, _, by push_cast; rfl, by omega, HK.out, HB4.out, HL4.out⟩
                case measure => simp [intOf]; omega
            · rw [if_neg c3] at hK; cases hK
        · rw [if_neg hlt] at hK
          have HK := Aside0.mk (Option.some.inj hK)
          clear hK
          go_wp2
          go_ret3
          exact ⟨ret_three HK.out, HL.out⟩
  · rw [if_neg hp] at h
    have HK := Aside0.mk (Option.some.inj h)
    clear h
    replace hp : Lib.hasPrefix a0.data.toList [34] = false := by simpa using hp
    go_enter Tryd.func28, Tryd.ntmps28
    go_wp2_with (first
      | (go_at_call 52; refine (Any.strings_HasPrefix Tryd.ly99 _ _ _).mono ?_; rintro e w1 ⟨rfl, hw1⟩; obtain rfl : w = w1 := hw1.symm; simp only [hp]))
    go_ret3
    exact ⟨ret_three HK.out, Below.refl _ _⟩
end Go.Proofs.YthijdjpipjbkbaaDoor.H
end
section
namespace Go.Proofs.YthijdjpipjbkbaaDoor.H
open Go.RowKit Go.Proofs.YthijdjpipjbkbaaDoorW.PrintWords Go.Proofs.YthijdjpipjbkbaaDoorW.PrintLast Go.Proofs.YthijdjpipjbkbaaDoorW.PrintMore
attribute [local go_sem] max2_int min2_int max_two min_two max_three min_three max_four min_four
set_option linter.unusedVariables false
set_option linter.unusedSimpArgs false
def speclex_one.f (k : Nat) (a0 : ByteArray) (a1 : Int) : Option (Int × ByteArray × Int × Int × Int) := if a1 = 1 then ((speclex_run.f a0).bind fun t110 => (if 0 ≤ t110 then (if t110 ≤ (a0.size : Int) then (some (1, a0.extract 0 (t110 : Int).toNat, 0, t110, 0)) else (none)) else (none))) else (if a1 = 2 then ((speclex_run.f a0).bind fun t111 => (if t111 > 1 then (if 0 < (a0.size : Int) then (if (bt a0 0) = 48 then (some (0, (⟨#[]⟩ : ByteArray), 0, 0, 14)) else (if 0 ≤ t111 then (if t111 ≤ (a0.size : Int) then ((strings_Trim.f (a0.extract 0 (t111 : Int).toNat) (⟨#[48, 49, 50, 51, 52, 53, 54, 55, 56, 57]⟩ : ByteArray)).bind fun t112 => (if t112.toList = ([] : List UInt8) then (some (4, a0.extract 0 (t111 : Int).toNat, 0, t111, 0)) else (some (0, (⟨#[]⟩ : ByteArray), 0, 0, 14)))) else (none)) else (none))) else (none)) else (if 0 ≤ t111 then (if t111 ≤ (a0.size : Int) then ((strings_Trim.f (a0.extract 0 (t111 : Int).toNat) (⟨#[48, 49, 50, 51, 52, 53, 54, 55, 56, 57]⟩ : ByteArray)).bind fun t113 => (if t113.toList = ([] : List UInt8) then (some (4, a0.extract 0 (t111 : Int).toNat, 0, t111, 0)) else (some (0, (⟨#[]⟩ : ByteArray), 0, 0, 14)))) else (none)) else (none)))) else (if a1 = 3 then ((text_Unquote.f k a0).bind fun bt114 => (some (2, bt114.1, 0, bt114.2.1, bt114.2.2))) else (if a1 = 4 then ((speclex_term.f k a0).bind fun t117 => (if t117 = 0 then (some (0, (⟨#[]⟩ : ByteArray), 0, 0, 13)) else (if 1 ≤ (wrap64 (t117 - 1)) then (if (wrap64 (t117 - 1)) ≤ (a0.size : Int) then (some (3, a0.extract 1 ((wrap64 (t117 - 1)) : Int).toNat, 0, t117, 0)) else (none)) else (none)))) else (if a1 = 5 then (if 1 ≤ (a0.size : Int) then ((speclex_run.f (a0.extract 1 a0.size)).bind fun t118 => (if 0 ≤ (wrap64 (1 + t118)) then (if (wrap64 (1 + t118)) ≤ (a0.size : Int) then ((speclex_word.f (a0.extract 0 ((wrap64 (1 + t118)) : Int).toNat)).bind fun t119 => (if t119 = true then (some (5, a0.extract 0 ((wrap64 (1 + t118)) : Int).toNat, 0, wrap64 (1 + t118), 0)) else (if 0 ≤ 1 then (some (6, a0.extract 0 1, 0, 1, 0)) else (none)))) else (none)) else (none))) else (none)) else (if a1 = 0 then (some (0, (⟨#[]⟩ : ByteArray), 0, 0, 12)) else (if 0 ≤ 1 then (if 1 ≤ (a0.size : Int) then (some (6, a0.extract 0 1, 0, 1, 0)) else (none)) else (none)))))))
theorem speclex_one.mono : ∀ a0 a1 k, LeO (speclex_one.f k a0 a1) (speclex_one.f (k + 1) a0 a1) := by
 (intro a0 a1 k); (unfold speclex_one.f)
 repeat' first
   | (with_reducible exact speclex_term.mono _ _)
   | (with_reducible exact text_Unquote.mono _ _)
   | (with_reducible exact LeO.refl _)
   | (with_reducible exact LeO.none _)
   | (with_reducible refine LeO.ite ?_ ?_)
   | (with_reducible refine LeO.bind ?_ (fun _ => ?_))
   | exact speclex_term.mono _ _
   | exact text_Unquote.mono _ _
   | exact LeO.none _
   | refine LeO.ite ?_ ?_
   | refine LeO.bind ?_ (fun _ => ?_)
set_option maxHeartbeats 8000000 in
set_option maxRecDepth 100000 in
theorem speclex_one.calls (k : Nat) (a0 : ByteArray) (a1 : Int) (r1 : Int) (r2 : ByteArray) (r3 : Int) (r4 : Int) (r5 : Int) (w : World) (hgw : GW w) (h : speclex_one.f k a0 a1 = some (r1, r2, r3, r4, r5)) :
  Calls Tryd.prog 17 #[.string a0, .int .u8 a1] w fun e w' => e = .returned (.tuple #[.agg #[.int .i64 r1, .string r2, .int .i64 r3], .int .i64 r4, .int .i64 r5]) ∧ Below w.heap.size w w' := by
 (have HGW := qM hgw); clear hgw; (have hu32 := Tryd.underlying32); (have HB := qM (Below.refl w.heap.size w))
 have H : (if a1 = 1 then ((speclex_run.f a0).bind fun t110 => (if 0 ≤ t110 then (if t110 ≤ (a0.size : Int) then (some (1, a0.extract 0 (t110 : Int).toNat, 0, t110, 0)) else (none)) else (none))) else (if a1 = 2 then ((speclex_run.f a0).bind fun t111 => (if t111 > 1 then (if 0 < (a0.size : Int) then (if (bt a0 0) = 48 then (some (0, (⟨#[]⟩ : ByteArray), 0, 0, 14)) else (if 0 ≤ t111 then (if t111 ≤ (a0.size : Int) then ((strings_Trim.f (a0.extract 0 (t111 : Int).toNat) (⟨#[48, 49, 50, 51, 52, 53, 54, 55, 56, 57]⟩ : ByteArray)).bind fun t112 => (if t112.toList = ([] : List UInt8) then (some (4, a0.extract 0 (t111 : Int).toNat, 0, t111, 0)) else (some (0, (⟨#[]⟩ : ByteArray), 0, 0, 14)))) else (none)) else (none))) else (none)) else (if 0 ≤ t111 then (if t111 ≤ (a0.size : Int) then ((strings_Trim.f (a0.extract 0 (t111 : Int).toNat) (⟨#[48, 49, 50, 51, 52, 53, 54, 55, 56, 57]⟩ : ByteArray)).bind fun t113 => (if t113.toList = ([] : List UInt8) then (some (4, a0.extract 0 (t111 : Int).toNat, 0, t111, 0)) else (some (0, (⟨#[]⟩ : ByteArray), 0, 0, 14)))) else (none)) else (none)))) else (if a1 = 3 then ((text_Unquote.f k a0).bind fun bt114 => (some (2, bt114.1, 0, bt114.2.1, bt114.2.2))) else (if a1 = 4 then ((speclex_term.f k a0).bind fun t117 => (if t117 = 0 then (some (0, (⟨#[]⟩ : ByteArray), 0, 0, 13)) else (if 1 ≤ (wrap64 (t117 - 1)) then (if (wrap64 (t117 - 1)) ≤ (a0.size : Int) then (some (3, a0.extract 1 ((wrap64 (t117 - 1)) : Int).toNat, 0, t117, 0)) else (none)) else (none)))) else (if a1 = 5 then (if 1 ≤ (a0.size : Int) then ((speclex_run.f (a0.extract 1 a0.size)).bind fun t118 => (if 0 ≤ (wrap64 (1 + t118)) then (if (wrap64 (1 + t118)) ≤ (a0.size : Int) then ((speclex_word.f (a0.extract 0 ((wrap64 (1 + t118)) : Int).toNat)).bind fun t119 => (if t119 = true then (some (5, a0.extract 0 ((wrap64 (1 + t118)) : Int).toNat, 0, wrap64 (1 + t118), 0)) else (if 0 ≤ 1 then (some (6, a0.extract 0 1, 0, 1, 0)) else (none)))) else (none)) else (none))) else (none)) else (if a1 = 0 then (some (0, (⟨#[]⟩ : ByteArray), 0, 0, 12)) else (if 0 ≤ 1 then (if 1 ≤ (a0.size : Int) then (some (6, a0.extract 0 1, 0, 1, 0)) else (none)) else (none)))))))) = some (r1, r2, r3, r4, r5) := h
 clear h; (by_cases c3 : a1 = 1)
 ·rw [if_pos c3] at H
  (have c3b0 : (a1 == 1) = true := beq_iff_eq.mpr c3); (have c3b1 : (a1 != 1) = false := bne_eq_false_iff_eq.mpr c3); clear c3; (replace H := Option.bind_eq_some_iff.mp H); (obtain ⟨t110, A40, H⟩ := H); (replace H : (if 0 ≤ t110 then (if t110 ≤ (a0.size : Int) then (some (1, a0.extract 0 (t110 : Int).toNat, 0, t110, 0)) else (none)) else (none)) = some (r1, r2, r3, r4, r5) := H); (have A4 := qM A40); clear A40; (by_cases c5 : 0 ≤ t110)
  ·rw [if_pos c5] at H
   (have c5b0 := eq_true c5); (have c5b1 : decide (0 ≤ t110) = true := decide_eq_true c5); clear c5; (by_cases c6 : t110 ≤ (a0.size : Int))
   ·rw [if_pos c6] at H
    (have c6b0 := eq_true c6); (have c6b1 : decide (t110 ≤ (a0.size : Int)) = true := decide_eq_true c6); clear c6; (simp only [Option.some.injEq, Prod.mk.injEq] at H); (obtain ⟨rfl, rfl, rfl, rfl, rfl⟩ := H); (go_enter Tryd.func17, Tryd.ntmps17)
    go_wp2_with (first | ((with_reducible refine gate_dst (N := 4) rfl ?_); refine box_event ?hg (N := 4) ?hd (cs := #[.int .i64 0, .string (⟨#[]⟩ : ByteArray), .int .i64 0]) (t := 32) ?hr ?_; (case hd => rfl); (case hg => rfl); (case hr => first | (go_simp; done) | (go_simp; rfl)); intro gb109 hg w7 hbox hb; have n0_ := qM (qP qF hb); have n1_ := qM (hbox); have n2_ := qM ((by rw [hg]; exact (qZ qF) : w.heap.size ≤ gb109)); have n3_ := qM ((by rw [hg]; exact (qZ qF) : w.heap.size ≤ gb109)); clear HB; have HB := n0_; have BK109 := n1_; have GW109 := n2_; have GE109 := n3_; clear n0_ n1_ n2_ n3_; clear hb hbox hg) | ((with_reducible refine gate_callee (f := 26) rfl ?_); refine goesL_ (some 14) rfl rfl Tryd.func26 (by kernel_rfl) rfl #[.string a0] rfl (by (try simp only [List.map_toArray, List.map_cons, List.map_nil]); first | done | rfl | (simp only [List.length_drop, List.length_take]; rfl)) ?_; (with_reducible refine (speclex_run.calls a0 t110 _ A4.out).mono ?_); rintro e w8 ⟨rfl, hb⟩; refine ⟨_, rfl, ?_⟩; have n0_ := qM (qb (g := gb109) qK hb); have n1_ := qM (qP qF hb); clear BK109; clear HB; have BK109 := n0_; have HB := n1_; clear n0_ n1_; (try clear hb); (try clear hb2); (try clear hk); (try clear hi); obtain ⟨hcz9_0, hcz9_1, hcz9_2, hfz9_0, hfz9_1, hfz9_2⟩ := bx3 BK109.out))
    refine bodyPost_ret (results_ctt rfl _ _ gb109 32 #[.int .i64 1, .string (a0.extract 0 (t110 : Int).toNat), .int .i64 0] (0, 0) _ rfl (by (with_reducible repeat (first | refine qn ?_ _ | refine qd ?_ | refine qa ?_ _)); refine blk_put (cs := #[.int .i64 1, .string (a0.extract 0 (t110 : Int).toNat), .int .i64 0]) ?_ 2 _ rfl; (with_reducible repeat (first | refine qn ?_ _ | refine qd ?_ | refine qa ?_ _)); refine blk_put (cs := #[.int .i64 1, .string (⟨#[]⟩ : ByteArray), .int .i64 0]) ?_ 1 _ rfl; (with_reducible repeat (first | refine qn ?_ _ | refine qd ?_ | refine qa ?_ _)); refine blk_put (cs := #[.int .i64 0, .string (⟨#[]⟩ : ByteArray), .int .i64 0]) ?_ 0 _ rfl; (with_reducible repeat (first | refine qn ?_ _ | refine qd ?_ | refine qa ?_ _)); exact BK109.out) Tryd.underlying32 rfl (by kernel_rfl)) rfl ?_
    exact ⟨qE, qF⟩
   ·rw [if_neg c6] at H
    exact absurd H (by simp)
  ·rw [if_neg c5] at H
   exact absurd H (by simp)
 ·rw [if_neg c3] at H
  (have c3b0 : (a1 == 1) = false := beq_eq_false_iff_ne.mpr c3); (have c3b1 : (a1 != 1) = true := bne_iff_ne.mpr c3); (by_cases c10 : a1 = 2)
  ·rw [if_pos c10] at H
   (have c10b0 : (a1 == 2) = true := beq_iff_eq.mpr c10); (have c10b1 : (a1 != 2) = false := bne_eq_false_iff_eq.mpr c10); clear c10; (replace H := Option.bind_eq_some_iff.mp H); (obtain ⟨t111, A110, H⟩ := H)
   replace H : (if t111 > 1 then (if 0 < (a0.size : Int) then (if (bt a0 0) = 48 then (some (0, (⟨#[]⟩ : ByteArray), 0, 0, 14)) else (if 0 ≤ t111 then (if t111 ≤ (a0.size : Int) then ((strings_Trim.f (a0.extract 0 (t111 : Int).toNat) (⟨#[48, 49, 50, 51, 52, 53, 54, 55, 56, 57]⟩ : ByteArray)).bind fun t112 => (if t112.toList = ([] : List UInt8) then (some (4, a0.extract 0 (t111 : Int).toNat, 0, t111, 0)) else (some (0, (⟨#[]⟩ : ByteArray), 0, 0, 14)))) else (none)) else (none))) else (none)) else (if 0 ≤ t111 then (if t111 ≤ (a0.size : Int) then ((strings_Trim.f (a0.extract 0 (t111 : Int).toNat) (⟨#[48, 49, 50, 51, 52, 53, 54, 55, 56, 57]⟩ : ByteArray)).bind fun t113 => (if t113.toList = ([] : List UInt8) then (some (4, a0.extract 0 (t111 : Int).toNat, 0, t111, 0)) else (some (0, (⟨#[]⟩ : ByteArray), 0, 0, 14)))) else (none)) else (none))) = some (r1, r2, r3, r4, r5) := H
   (have A11 := qM A110); clear A110; (by_cases c12 : t111 > 1)
   ·rw [if_pos c12] at H
    (have c12b0 : decide (1 < t111) = true := decide_eq_true c12); clear c12; (by_cases c13 : 0 < (a0.size : Int))
    ·rw [if_pos c13] at H
     (have c13b0 : decide (0 < (a0.size : Int)) = true := decide_eq_true c13); (have c13b1 : decide (0 < a0.size) = true := decide_eq_true (by omega)); clear c13; (by_cases c15 : (bt a0 0) = 48)
     ·rw [if_pos c15] at H
      (have c15b0 : ((bt a0 0) == 48) = true := beq_iff_eq.mpr c15); (have c15b1 : ((bt a0 0) != 48) = false := bne_eq_false_iff_eq.mpr c15); clear c15; (simp only [Option.some.injEq, Prod.mk.injEq] at H); (obtain ⟨rfl, rfl, rfl, rfl, rfl⟩ := H); (go_enter Tryd.func17, Tryd.ntmps17)
      go_wp2_with (first | ((with_reducible refine gate_dst (N := 4) rfl ?_); refine box_event ?hg (N := 4) ?hd (cs := #[.int .i64 0, .string (⟨#[]⟩ : ByteArray), .int .i64 0]) (t := 32) ?hr ?_; (case hd => rfl); (case hg => rfl); (case hr => first | (go_simp; done) | (go_simp; rfl)); intro gb109 hg w16 hbox hb; have n0_ := qM (qP qF hb); have n1_ := qM (hbox); have n2_ := qM ((by rw [hg]; exact (qZ qF) : w.heap.size ≤ gb109)); have n3_ := qM ((by rw [hg]; exact (qZ qF) : w.heap.size ≤ gb109)); clear HB; have HB := n0_; have BK109 := n1_; have GW109 := n2_; have GE109 := n3_; clear n0_ n1_ n2_ n3_; clear hb hbox hg) | ((with_reducible refine gate_callee (f := 26) rfl ?_); refine goesL_ (some 23) rfl rfl Tryd.func26 (by kernel_rfl) rfl #[.string a0] rfl (by (try simp only [List.map_toArray, List.map_cons, List.map_nil]); first | done | rfl | (simp only [List.length_drop, List.length_take]; rfl)) ?_; (with_reducible refine (speclex_run.calls a0 t111 _ A11.out).mono ?_); rintro e w17 ⟨rfl, hb⟩; refine ⟨_, rfl, ?_⟩; have n0_ := qM (qb (g := gb109) qK hb); have n1_ := qM (qP qF hb); clear BK109; clear HB; have BK109 := n0_; have HB := n1_; clear n0_ n1_; (try clear hb); (try clear hb2); (try clear hk); (try clear hi); have p14 : 0 ≤ (0 : Int) := (by omega); have q14 : 0 < a0.size := (by have : (0 : Int) < (a0.size : Int) := qo qX; omega); have hx14 : ∀ h : 0 < a0.size, ((a0[0]'h).toNat : Int) = bt a0 0 := bt_at a0 0; clear p14; have qi14 : (0 < (a0.size : Int)) = True := eq_true (qo qX); replace q14 := eq_true q14; obtain ⟨hcz18_0, hcz18_1, hcz18_2, hfz18_0, hfz18_1, hfz18_2⟩ := bx3 BK109.out))
      refine bodyPost_ret (results_ctt rfl _ _ gb109 32 #[.int .i64 0, .string (⟨#[]⟩ : ByteArray), .int .i64 0] (0, 0) _ rfl (by (with_reducible repeat (first | refine qn ?_ _ | refine qd ?_ | refine qa ?_ _)); refine blk_put (cs := #[.int .i64 0, .string (⟨#[]⟩ : ByteArray), .int .i64 0]) ?_ 2 _ rfl; (with_reducible repeat (first | refine qn ?_ _ | refine qd ?_ | refine qa ?_ _)); refine blk_put (cs := #[.int .i64 0, .string (⟨#[]⟩ : ByteArray), .int .i64 0]) ?_ 1 _ rfl; (with_reducible repeat (first | refine qn ?_ _ | refine qd ?_ | refine qa ?_ _)); refine blk_put (cs := #[.int .i64 0, .string (⟨#[]⟩ : ByteArray), .int .i64 0]) ?_ 0 _ rfl; (with_reducible repeat (first | refine qn ?_ _ | refine qd ?_ | refine qa ?_ _)); exact BK109.out) Tryd.underlying32 rfl (by kernel_rfl)) rfl ?_
      exact ⟨qE, qF⟩
     ·rw [if_neg c15] at H
      (have c15b0 : ((bt a0 0) == 48) = false := beq_eq_false_iff_ne.mpr c15); (have c15b1 : ((bt a0 0) != 48) = true := bne_iff_ne.mpr c15); (by_cases c19 : 0 ≤ t111)
      ·rw [if_pos c19] at H
       (have c19b0 := eq_true c19); (have c19b1 : decide (0 ≤ t111) = true := decide_eq_true c19); clear c19; (by_cases c20 : t111 ≤ (a0.size : Int))
       ·rw [if_pos c20] at H
        (have c20b0 := eq_true c20); (have c20b1 : decide (t111 ≤ (a0.size : Int)) = true := decide_eq_true c20); clear c20; (replace H := Option.bind_eq_some_iff.mp H); (obtain ⟨t112, A210, H⟩ := H); (replace H : (if t112.toList = ([] : List UInt8) then (some (4, a0.extract 0 (t111 : Int).toNat, 0, t111, 0)) else (some (0, (⟨#[]⟩ : ByteArray), 0, 0, 14))) = some (r1, r2, r3, r4, r5) := H); (have A21 := qM A210); clear A210; (by_cases c22 : t112.toList = ([] : List UInt8))
        ·rw [if_pos c22] at H
         (have c22b0 : (t112.toList == ([] : List UInt8)) = true := beq_iff_eq.mpr c22); (have c22b1 : (t112.toList != ([] : List UInt8)) = false := bne_eq_false_iff_eq.mpr c22); clear c22; (have c23b0 := eq_true (qo qX : 0 ≤ t111)); (have c24b0 := eq_true (qo qX : t111 ≤ (a0.size : Int))); (simp only [Option.some.injEq, Prod.mk.injEq] at H); (obtain ⟨rfl, rfl, rfl, rfl, rfl⟩ := H); (go_enter Tryd.func17, Tryd.ntmps17)
         go_wp2_with (first | ((with_reducible refine gate_dst (N := 4) rfl ?_); refine box_event ?hg (N := 4) ?hd (cs := #[.int .i64 0, .string (⟨#[]⟩ : ByteArray), .int .i64 0]) (t := 32) ?hr ?_; (case hd => rfl); (case hg => rfl); (case hr => first | (go_simp; done) | (go_simp; rfl)); intro gb109 hg w25 hbox hb; have n0_ := qM (qP qF hb); have n1_ := qM (hbox); have n2_ := qM ((by rw [hg]; exact (qZ qF) : w.heap.size ≤ gb109)); have n3_ := qM ((by rw [hg]; exact (qZ qF) : w.heap.size ≤ gb109)); clear HB; have HB := n0_; have BK109 := n1_; have GW109 := n2_; have GE109 := n3_; clear n0_ n1_ n2_ n3_; clear hb hbox hg) | ((with_reducible refine gate_callee (f := 26) rfl ?_); refine goesL_ (some 23) rfl rfl Tryd.func26 (by kernel_rfl) rfl #[.string a0] rfl (by (try simp only [List.map_toArray, List.map_cons, List.map_nil]); first | done | rfl | (simp only [List.length_drop, List.length_take]; rfl)) ?_; (with_reducible refine (speclex_run.calls a0 t111 _ A11.out).mono ?_); rintro e w26 ⟨rfl, hb⟩; refine ⟨_, rfl, ?_⟩; have n0_ := qM (qb (g := gb109) qK hb); have n1_ := qM (qP qF hb); clear BK109; clear HB; have BK109 := n0_; have HB := n1_; clear n0_ n1_; (try clear hb); (try clear hb2); (try clear hk); (try clear hi); have p14 : 0 ≤ (0 : Int) := (by omega); have q14 : 0 < a0.size := (by have : (0 : Int) < (a0.size : Int) := qo qX; omega); have hx14 : ∀ h : 0 < a0.size, ((a0[0]'h).toNat : Int) = bt a0 0 := bt_at a0 0; clear p14; have qi14 : (0 < (a0.size : Int)) = True := eq_true (qo qX); replace q14 := eq_true q14) | (go_at_call 27; (with_reducible refine (strings_Trim.calls (a0.extract 0 (t111 : Int).toNat) (⟨#[48, 49, 50, 51, 52, 53, 54, 55, 56, 57]⟩ : ByteArray) t112 _ A21.out).mono ?_); rintro e w27 ⟨rfl, hb⟩; have n0_ := qM (qb (g := gb109) qK hb); have n1_ := qM (qP qF hb); clear BK109; clear HB; have BK109 := n0_; have HB := n1_; clear n0_ n1_; (try clear hb); (try clear hb2); (try clear hk); (try clear hi); obtain ⟨hcz28_0, hcz28_1, hcz28_2, hfz28_0, hfz28_1, hfz28_2⟩ := bx3 BK109.out))
         refine bodyPost_ret (results_ctt rfl _ _ gb109 32 #[.int .i64 4, .string (a0.extract 0 (t111 : Int).toNat), .int .i64 0] (0, 0) _ rfl (by (with_reducible repeat (first | refine qn ?_ _ | refine qd ?_ | refine qa ?_ _)); refine blk_put (cs := #[.int .i64 4, .string (a0.extract 0 (t111 : Int).toNat), .int .i64 0]) ?_ 2 _ rfl; (with_reducible repeat (first | refine qn ?_ _ | refine qd ?_ | refine qa ?_ _)); refine blk_put (cs := #[.int .i64 4, .string (⟨#[]⟩ : ByteArray), .int .i64 0]) ?_ 1 _ rfl; (with_reducible repeat (first | refine qn ?_ _ | refine qd ?_ | refine qa ?_ _)); refine blk_put (cs := #[.int .i64 0, .string (⟨#[]⟩ : ByteArray), .int .i64 0]) ?_ 0 _ rfl; (with_reducible repeat (first | refine qn ?_ _ | refine qd ?_ | refine qa ?_ _)); exact BK109.out) Tryd.underlying32 rfl (by kernel_rfl)) rfl ?_
         exact ⟨qE, qF⟩
        ·rw [if_neg c22] at H
         (have c22b0 : (t112.toList == ([] : List UInt8)) = false := beq_eq_false_iff_ne.mpr c22); (have c22b1 : (t112.toList != ([] : List UInt8)) = true := bne_iff_ne.mpr c22); (simp only [Option.some.injEq, Prod.mk.injEq] at H); (obtain ⟨rfl, rfl, rfl, rfl, rfl⟩ := H); (go_enter Tryd.func17, Tryd.ntmps17)
         go_wp2_with (first | ((with_reducible refine gate_dst (N := 4) rfl ?_); refine box_event ?hg (N := 4) ?hd (cs := #[.int .i64 0, .string (⟨#[]⟩ : ByteArray), .int .i64 0]) (t := 32) ?hr ?_; (case hd => rfl); (case hg => rfl); (case hr => first | (go_simp; done) | (go_simp; rfl)); intro gb109 hg w29 hbox hb; have n0_ := qM (qP qF hb); have n1_ := qM (hbox); have n2_ := qM ((by rw [hg]; exact (qZ qF) : w.heap.size ≤ gb109)); have n3_ := qM ((by rw [hg]; exact (qZ qF) : w.heap.size ≤ gb109)); clear HB; have HB := n0_; have BK109 := n1_; have GW109 := n2_; have GE109 := n3_; clear n0_ n1_ n2_ n3_; clear hb hbox hg) | ((with_reducible refine gate_callee (f := 26) rfl ?_); refine goesL_ (some 23) rfl rfl Tryd.func26 (by kernel_rfl) rfl #[.string a0] rfl (by (try simp only [List.map_toArray, List.map_cons, List.map_nil]); first | done | rfl | (simp only [List.length_drop, List.length_take]; rfl)) ?_; (with_reducible refine (speclex_run.calls a0 t111 _ A11.out).mono ?_); rintro e w30 ⟨rfl, hb⟩; refine ⟨_, rfl, ?_⟩; have n0_ := qM (qb (g := gb109) qK hb); have n1_ := qM (qP qF hb); clear BK109; clear HB; have BK109 := n0_; have HB := n1_; clear n0_ n1_; (try clear hb); (try clear hb2); (try clear hk); (try clear hi); have p14 : 0 ≤ (0 : Int) := (by omega); have q14 : 0 < a0.size := (by have : (0 : Int) < (a0.size : Int) := qo qX; omega); have hx14 : ∀ h : 0 < a0.size, ((a0[0]'h).toNat : Int) = bt a0 0 := bt_at a0 0; clear p14; have qi14 : (0 < (a0.size : Int)) = True := eq_true (qo qX); replace q14 := eq_true q14) | (go_at_call 27; (with_reducible refine (strings_Trim.calls (a0.extract 0 (t111 : Int).toNat) (⟨#[48, 49, 50, 51, 52, 53, 54, 55, 56, 57]⟩ : ByteArray) t112 _ A21.out).mono ?_); rintro e w31 ⟨rfl, hb⟩; have n0_ := qM (qb (g := gb109) qK hb); have n1_ := qM (qP qF hb); clear BK109; clear HB; have BK109 := n0_; have HB := n1_; clear n0_ n1_; (try clear hb); (try clear hb2); (try clear hk); (try clear hi); obtain ⟨hcz32_0, hcz32_1, hcz32_2, hfz32_0, hfz32_1, hfz32_2⟩ := bx3 BK109.out))
         refine bodyPost_ret (results_ctt rfl _ _ gb109 32 #[.int .i64 0, .string (⟨#[]⟩ : ByteArray), .int .i64 0] (0, 0) _ rfl (by (with_reducible repeat (first | refine qn ?_ _ | refine qd ?_ | refine qa ?_ _)); refine blk_put (cs := #[.int .i64 0, .string (⟨#[]⟩ : ByteArray), .int .i64 0]) ?_ 2 _ rfl; (with_reducible repeat (first | refine qn ?_ _ | refine qd ?_ | refine qa ?_ _)); refine blk_put (cs := #[.int .i64 0, .string (⟨#[]⟩ : ByteArray), .int .i64 0]) ?_ 1 _ rfl; (with_reducible repeat (first | refine qn ?_ _ | refine qd ?_ | refine qa ?_ _)); refine blk_put (cs := #[.int .i64 0, .string (⟨#[]⟩ : ByteArray), .int .i64 0]) ?_ 0 _ rfl; (with_reducible repeat (first | refine qn ?_ _ | refine qd ?_ | refine qa ?_ _)); exact BK109.out) Tryd.underlying32 rfl (by kernel_rfl)) rfl ?_
         exact ⟨qE, qF⟩
       ·rw [if_neg c20] at H
        exact absurd H (by simp)
      ·rw [if_neg c19] at H
       exact absurd H (by simp)
    ·rw [if_neg c13] at H
     exact absurd H (by simp)
   ·rw [if_neg c12] at H
    (have c12b0 : decide (1 < t111) = false := decide_eq_false c12); clear c12; (by_cases c33 : 0 ≤ t111)
    ·rw [if_pos c33] at H
     (have c33b0 := eq_true c33); (have c33b1 : decide (0 ≤ t111) = true := decide_eq_true c33); clear c33; (by_cases c34 : t111 ≤ (a0.size : Int))
     ·rw [if_pos c34] at H
      (have c34b0 := eq_true c34); (have c34b1 : decide (t111 ≤ (a0.size : Int)) = true := decide_eq_true c34); clear c34; (replace H := Option.bind_eq_some_iff.mp H); (obtain ⟨t113, A350, H⟩ := H); (replace H : (if t113.toList = ([] : List UInt8) then (some (4, a0.extract 0 (t111 : Int).toNat, 0, t111, 0)) else (some (0, (⟨#[]⟩ : ByteArray), 0, 0, 14))) = some (r1, r2, r3, r4, r5) := H); (have A35 := qM A350); clear A350; (by_cases c36 : t113.toList = ([] : List UInt8))
      ·rw [if_pos c36] at H
       (have c36b0 : (t113.toList == ([] : List UInt8)) = true := beq_iff_eq.mpr c36); (have c36b1 : (t113.toList != ([] : List UInt8)) = false := bne_eq_false_iff_eq.mpr c36); clear c36; (have c37b0 := eq_true (qo qX : 0 ≤ t111)); (have c38b0 := eq_true (qo qX : t111 ≤ (a0.size : Int))); (simp only [Option.some.injEq, Prod.mk.injEq] at H); (obtain ⟨rfl, rfl, rfl, rfl, rfl⟩ := H); (go_enter Tryd.func17, Tryd.ntmps17)
       go_wp2_with (first | ((with_reducible refine gate_dst (N := 4) rfl ?_); refine box_event ?hg (N := 4) ?hd (cs := #[.int .i64 0, .string (⟨#[]⟩ : ByteArray), .int .i64 0]) (t := 32) ?hr ?_; (case hd => rfl); (case hg => rfl); (case hr => first | (go_simp; done) | (go_simp; rfl)); intro gb109 hg w39 hbox hb; have n0_ := qM (qP qF hb); have n1_ := qM (hbox); have n2_ := qM ((by rw [hg]; exact (qZ qF) : w.heap.size ≤ gb109)); have n3_ := qM ((by rw [hg]; exact (qZ qF) : w.heap.size ≤ gb109)); clear HB; have HB := n0_; have BK109 := n1_; have GW109 := n2_; have GE109 := n3_; clear n0_ n1_ n2_ n3_; clear hb hbox hg) | ((with_reducible refine gate_callee (f := 26) rfl ?_); refine goesL_ (some 23) rfl rfl Tryd.func26 (by kernel_rfl) rfl #[.string a0] rfl (by (try simp only [List.map_toArray, List.map_cons, List.map_nil]); first | done | rfl | (simp only [List.length_drop, List.length_take]; rfl)) ?_; (with_reducible refine (speclex_run.calls a0 t111 _ A11.out).mono ?_); rintro e w40 ⟨rfl, hb⟩; refine ⟨_, rfl, ?_⟩; have n0_ := qM (qb (g := gb109) qK hb); have n1_ := qM (qP qF hb); clear BK109; clear HB; have BK109 := n0_; have HB := n1_; clear n0_ n1_; (try clear hb); (try clear hb2); (try clear hk); (try clear hi)) | (go_at_call 27; (with_reducible refine (strings_Trim.calls (a0.extract 0 (t111 : Int).toNat) (⟨#[48, 49, 50, 51, 52, 53, 54, 55, 56, 57]⟩ : ByteArray) t113 _ A35.out).mono ?_); rintro e w41 ⟨rfl, hb⟩; have n0_ := qM (qb (g := gb109) qK hb); have n1_ := qM (qP qF hb); clear BK109; clear HB; have BK109 := n0_; have HB := n1_; clear n0_ n1_; (try clear hb); (try clear hb2); (try clear hk); (try clear hi); obtain ⟨hcz42_0, hcz42_1, hcz42_2, hfz42_0, hfz42_1, hfz42_2⟩ := bx3 BK109.out))
       refine bodyPost_ret (results_ctt rfl _ _ gb109 32 #[.int .i64 4, .string (a0.extract 0 (t111 : Int).toNat), .int .i64 0] (0, 0) _ rfl (by (with_reducible repeat (first | refine qn ?_ _ | refine qd ?_ | refine qa ?_ _)); refine blk_put (cs := #[.int .i64 4, .string (a0.extract 0 (t111 : Int).toNat), .int .i64 0]) ?_ 2 _ rfl; (with_reducible repeat (first | refine qn ?_ _ | refine qd ?_ | refine qa ?_ _)); refine blk_put (cs := #[.int .i64 4, .string (⟨#[]⟩ : ByteArray), .int .i64 0]) ?_ 1 _ rfl; (with_reducible repeat (first | refine qn ?_ _ | refine qd ?_ | refine qa ?_ _)); refine blk_put (cs := #[.int .i64 0, .string (⟨#[]⟩ : ByteArray), .int .i64 0]) ?_ 0 _ rfl; (with_reducible repeat (first | refine qn ?_ _ | refine qd ?_ | refine qa ?_ _)); exact BK109.out) Tryd.underlying32 rfl (by kernel_rfl)) rfl ?_
       exact ⟨qE, qF⟩
      ·rw [if_neg c36] at H
       (have c36b0 : (t113.toList == ([] : List UInt8)) = false := beq_eq_false_iff_ne.mpr c36); (have c36b1 : (t113.toList != ([] : List UInt8)) = true := bne_iff_ne.mpr c36); (simp only [Option.some.injEq, Prod.mk.injEq] at H); (obtain ⟨rfl, rfl, rfl, rfl, rfl⟩ := H); (go_enter Tryd.func17, Tryd.ntmps17)
       go_wp2_with (first | ((with_reducible refine gate_dst (N := 4) rfl ?_); refine box_event ?hg (N := 4) ?hd (cs := #[.int .i64 0, .string (⟨#[]⟩ : ByteArray), .int .i64 0]) (t := 32) ?hr ?_; (case hd => rfl); (case hg => rfl); (case hr => first | (go_simp; done) | (go_simp; rfl)); intro gb109 hg w43 hbox hb; have n0_ := qM (qP qF hb); have n1_ := qM (hbox); have n2_ := qM ((by rw [hg]; exact (qZ qF) : w.heap.size ≤ gb109)); have n3_ := qM ((by rw [hg]; exact (qZ qF) : w.heap.size ≤ gb109)); clear HB; have HB := n0_; have BK109 := n1_; have GW109 := n2_; have GE109 := n3_; clear n0_ n1_ n2_ n3_; clear hb hbox hg) | ((with_reducible refine gate_callee (f := 26) rfl ?_); refine goesL_ (some 23) rfl rfl Tryd.func26 (by kernel_rfl) rfl #[.string a0] rfl (by (try simp only [List.map_toArray, List.map_cons, List.map_nil]); first | done | rfl | (simp only [List.length_drop, List.length_take]; rfl)) ?_; (with_reducible refine (speclex_run.calls a0 t111 _ A11.out).mono ?_); rintro e w44 ⟨rfl, hb⟩; refine ⟨_, rfl, ?_⟩; have n0_ := qM (qb (g := gb109) qK hb); have n1_ := qM (qP qF hb); clear BK109; clear HB; have BK109 := n0_; have HB := n1_; clear n0_ n1_; (try clear hb); (try clear hb2); (try clear hk); (try clear hi)) | (go_at_call 27; (with_reducible refine (strings_Trim.calls (a0.extract 0 (t111 : Int).toNat) (⟨#[48, 49, 50, 51, 52, 53, 54, 55, 56, 57]⟩ : ByteArray) t113 _ A35.out).mono ?_); rintro e w45 ⟨rfl, hb⟩; have n0_ := qM (qb (g := gb109) qK hb); have n1_ := qM (qP qF hb); clear BK109; clear HB; have BK109 := n0_; have HB := n1_; clear n0_ n1_; (try clear hb); (try clear hb2); (try clear hk); (try clear hi); obtain ⟨hcz46_0, hcz46_1, hcz46_2, hfz46_0, hfz46_1, hfz46_2⟩ := bx3 BK109.out))
       refine bodyPost_ret (results_ctt rfl _ _ gb109 32 #[.int .i64 0, .string (⟨#[]⟩ : ByteArray), .int .i64 0] (0, 0) _ rfl (by (with_reducible repeat (first | refine qn ?_ _ | refine qd ?_ | refine qa ?_ _)); refine blk_put (cs := #[.int .i64 0, .string (⟨#[]⟩ : ByteArray), .int .i64 0]) ?_ 2 _ rfl; (with_reducible repeat (first | refine qn ?_ _ | refine qd ?_ | refine qa ?_ _)); refine blk_put (cs := #[.int .i64 0, .string (⟨#[]⟩ : ByteArray), .int .i64 0]) ?_ 1 _ rfl; (with_reducible repeat (first | refine qn ?_ _ | refine qd ?_ | refine qa ?_ _)); refine blk_put (cs := #[.int .i64 0, .string (⟨#[]⟩ : ByteArray), .int .i64 0]) ?_ 0 _ rfl; (with_reducible repeat (first | refine qn ?_ _ | refine qd ?_ | refine qa ?_ _)); exact BK109.out) Tryd.underlying32 rfl (by kernel_rfl)) rfl ?_
       exact ⟨qE, qF⟩
     ·rw [if_neg c34] at H
      exact absurd H (by simp)
    ·rw [if_neg c33] at H
     exact absurd H (by simp)
  ·rw [if_neg c10] at H
   (have c10b0 : (a1 == 2) = false := beq_eq_false_iff_ne.mpr c10); (have c10b1 : (a1 != 2) = true := bne_iff_ne.mpr c10); (by_cases c47 : a1 = 3)
   ·rw [if_pos c47] at H
    (have c47b0 : (a1 == 3) = true := beq_iff_eq.mpr c47); (have c47b1 : (a1 != 3) = false := bne_eq_false_iff_eq.mpr c47); clear c47; (replace H := Option.bind_eq_some_iff.mp H); (obtain ⟨⟨t114, t115, t116⟩, A480, H⟩ := H); (replace H : (some (2, t114, 0, t115, t116)) = some (r1, r2, r3, r4, r5) := H); (have A48 := qM A480); clear A480; (simp only [Option.some.injEq, Prod.mk.injEq] at H); (obtain ⟨rfl, rfl, rfl, rfl, rfl⟩ := H); (go_enter Tryd.func17, Tryd.ntmps17)
    go_wp2_with (first | ((with_reducible refine gate_dst (N := 4) rfl ?_); refine box_event ?hg (N := 4) ?hd (cs := #[.int .i64 0, .string (⟨#[]⟩ : ByteArray), .int .i64 0]) (t := 32) ?hr ?_; (case hd => rfl); (case hg => rfl); (case hr => first | (go_simp; done) | (go_simp; rfl)); intro gb109 hg w49 hbox hb; have n0_ := qM (qP qF hb); have n1_ := qM (hbox); have n2_ := qM ((by rw [hg]; exact (qZ qF) : w.heap.size ≤ gb109)); have n3_ := qM ((by rw [hg]; exact (qZ qF) : w.heap.size ≤ gb109)); clear HB; have HB := n0_; have BK109 := n1_; have GW109 := n2_; have GE109 := n3_; clear n0_ n1_ n2_ n3_; clear hb hbox hg) | ((with_reducible refine gate_callee (f := 28) rfl ?_); refine goesL_ (some 48) rfl rfl Tryd.func28 (by kernel_rfl) rfl #[.string a0] rfl (by (try simp only [List.map_toArray, List.map_cons, List.map_nil]); first | done | rfl | (simp only [List.length_drop, List.length_take]; rfl)) ?_; (with_reducible refine (text_Unquote.calls k a0 t114 t115 t116 _ ?side1 A48.out).mono ?_); (case side1 => exact GW.below HGW.out qF); rintro e w50 ⟨rfl, hb⟩; refine ⟨_, rfl, ?_⟩; have n0_ := qM (qb (g := gb109) qK hb); have n1_ := qM (qP qF hb); clear BK109; clear HB; have BK109 := n0_; have HB := n1_; clear n0_ n1_; (try clear hb); (try clear hb2); (try clear hk); (try clear hi); obtain ⟨hcz51_0, hcz51_1, hcz51_2, hfz51_0, hfz51_1, hfz51_2⟩ := bx3 BK109.out))
    refine bodyPost_ret (results_ctt rfl _ _ gb109 32 #[.int .i64 2, .string t114, .int .i64 0] (0, 0) _ rfl (by (with_reducible repeat (first | refine qn ?_ _ | refine qd ?_ | refine qa ?_ _)); refine blk_put (cs := #[.int .i64 2, .string t114, .int .i64 0]) ?_ 2 _ rfl; (with_reducible repeat (first | refine qn ?_ _ | refine qd ?_ | refine qa ?_ _)); refine blk_put (cs := #[.int .i64 2, .string (⟨#[]⟩ : ByteArray), .int .i64 0]) ?_ 1 _ rfl; (with_reducible repeat (first | refine qn ?_ _ | refine qd ?_ | refine qa ?_ _)); refine blk_put (cs := #[.int .i64 0, .string (⟨#[]⟩ : ByteArray), .int .i64 0]) ?_ 0 _ rfl; (with_reducible repeat (first | refine qn ?_ _ | refine qd ?_ | refine qa ?_ _)); exact BK109.out) Tryd.underlying32 rfl (by kernel_rfl)) rfl ?_
    exact ⟨qE, qF⟩
   ·rw [if_neg c47] at H
    (have c47b0 : (a1 == 3) = false := beq_eq_false_iff_ne.mpr c47); (have c47b1 : (a1 != 3) = true := bne_iff_ne.mpr c47); (by_cases c52 : a1 = 4)
    ·rw [if_pos c52] at H
     (have c52b0 : (a1 == 4) = true := beq_iff_eq.mpr c52); (have c52b1 : (a1 != 4) = false := bne_eq_false_iff_eq.mpr c52); clear c52; (replace H := Option.bind_eq_some_iff.mp H); (obtain ⟨t117, A530, H⟩ := H); (replace H : (if t117 = 0 then (some (0, (⟨#[]⟩ : ByteArray), 0, 0, 13)) else (if 1 ≤ (wrap64 (t117 - 1)) then (if (wrap64 (t117 - 1)) ≤ (a0.size : Int) then (some (3, a0.extract 1 ((wrap64 (t117 - 1)) : Int).toNat, 0, t117, 0)) else (none)) else (none))) = some (r1, r2, r3, r4, r5) := H); (have A53 := qM A530); clear A530; (by_cases c54 : t117 = 0)
     ·rw [if_pos c54] at H
      (have c54b0 : (t117 == 0) = true := beq_iff_eq.mpr c54); (have c54b1 : (t117 != 0) = false := bne_eq_false_iff_eq.mpr c54); clear c54; (simp only [Option.some.injEq, Prod.mk.injEq] at H); (obtain ⟨rfl, rfl, rfl, rfl, rfl⟩ := H); (go_enter Tryd.func17, Tryd.ntmps17)
      go_wp2_with (first | ((with_reducible refine gate_dst (N := 4) rfl ?_); refine box_event ?hg (N := 4) ?hd (cs := #[.int .i64 0, .string (⟨#[]⟩ : ByteArray), .int .i64 0]) (t := 32) ?hr ?_; (case hd => rfl); (case hg => rfl); (case hr => first | (go_simp; done) | (go_simp; rfl)); intro gb109 hg w55 hbox hb; have n0_ := qM (qP qF hb); have n1_ := qM (hbox); have n2_ := qM ((by rw [hg]; exact (qZ qF) : w.heap.size ≤ gb109)); have n3_ := qM ((by rw [hg]; exact (qZ qF) : w.heap.size ≤ gb109)); clear HB; have HB := n0_; have BK109 := n1_; have GW109 := n2_; have GE109 := n3_; clear n0_ n1_ n2_ n3_; clear hb hbox hg) | ((with_reducible refine gate_callee (f := 29) rfl ?_); refine goesL_ (some 59) rfl rfl Tryd.func29 (by kernel_rfl) rfl #[.string a0] rfl (by (try simp only [List.map_toArray, List.map_cons, List.map_nil]); first | done | rfl | (simp only [List.length_drop, List.length_take]; rfl)) ?_; (with_reducible refine (speclex_term.calls k a0 t117 _ A53.out).mono ?_); rintro e w' ⟨rfl, ⟨nd, rfl⟩⟩; refine ⟨_, rfl, ?_⟩; (try (rw [drewN_self w55]; generalize hq_ : World.drewN w55 _ = w55; have n0_ : Aside0 (w55.heap[gb109]? = some (.cells #[.int .i64 0, .string (⟨#[]⟩ : ByteArray), .int .i64 0] 32 (0, 0))) := ⟨by rw [← hq_]; exact qK⟩; have n1_ : Aside0 (Below w.heap.size w w55) := ⟨by rw [← hq_]; exact qF⟩; clear BK109 HB hq_; have BK109 := n0_; have HB := n1_; clear n0_ n1_)); obtain ⟨hcz56_0, hcz56_1, hcz56_2, hfz56_0, hfz56_1, hfz56_2⟩ := bx3 BK109.out))
      refine bodyPost_ret (results_ctt rfl _ _ gb109 32 #[.int .i64 0, .string (⟨#[]⟩ : ByteArray), .int .i64 0] (0, 0) _ rfl (by (with_reducible repeat (first | refine qn ?_ _ | refine qd ?_ | refine qa ?_ _)); refine blk_put (cs := #[.int .i64 0, .string (⟨#[]⟩ : ByteArray), .int .i64 0]) ?_ 2 _ rfl; (with_reducible repeat (first | refine qn ?_ _ | refine qd ?_ | refine qa ?_ _)); refine blk_put (cs := #[.int .i64 0, .string (⟨#[]⟩ : ByteArray), .int .i64 0]) ?_ 1 _ rfl; (with_reducible repeat (first | refine qn ?_ _ | refine qd ?_ | refine qa ?_ _)); refine blk_put (cs := #[.int .i64 0, .string (⟨#[]⟩ : ByteArray), .int .i64 0]) ?_ 0 _ rfl; (with_reducible repeat (first | refine qn ?_ _ | refine qd ?_ | refine qa ?_ _)); exact BK109.out) Tryd.underlying32 rfl (by kernel_rfl)) rfl ?_
      exact ⟨qE, qF⟩
     ·rw [if_neg c54] at H
      (have c54b0 : (t117 == 0) = false := beq_eq_false_iff_ne.mpr c54); (have c54b1 : (t117 != 0) = true := bne_iff_ne.mpr c54); (by_cases c57 : 1 ≤ (wrap64 (t117 - 1)))
      ·rw [if_pos c57] at H
       (have c57b0 := eq_true c57); (have c57b1 : decide (1 ≤ (wrap64 (t117 - 1))) = true := decide_eq_true c57); clear c57; (by_cases c58 : (wrap64 (t117 - 1)) ≤ (a0.size : Int))
       ·rw [if_pos c58] at H
        (have c58b0 := eq_true c58); (have c58b1 : decide ((wrap64 (t117 - 1)) ≤ (a0.size : Int)) = true := decide_eq_true c58); clear c58; (simp only [Option.some.injEq, Prod.mk.injEq] at H); (obtain ⟨rfl, rfl, rfl, rfl, rfl⟩ := H); (go_enter Tryd.func17, Tryd.ntmps17)
        go_wp2_with (first | ((with_reducible refine gate_dst (N := 4) rfl ?_); refine box_event ?hg (N := 4) ?hd (cs := #[.int .i64 0, .string (⟨#[]⟩ : ByteArray), .int .i64 0]) (t := 32) ?hr ?_; (case hd => rfl); (case hg => rfl); (case hr => first | (go_simp; done) | (go_simp; rfl)); intro gb109 hg w59 hbox hb; have n0_ := qM (qP qF hb); have n1_ := qM (hbox); have n2_ := qM ((by rw [hg]; exact (qZ qF) : w.heap.size ≤ gb109)); have n3_ := qM ((by rw [hg]; exact (qZ qF) : w.heap.size ≤ gb109)); clear HB; have HB := n0_; have BK109 := n1_; have GW109 := n2_; have GE109 := n3_; clear n0_ n1_ n2_ n3_; clear hb hbox hg) | ((with_reducible refine gate_callee (f := 29) rfl ?_); refine goesL_ (some 59) rfl rfl Tryd.func29 (by kernel_rfl) rfl #[.string a0] rfl (by (try simp only [List.map_toArray, List.map_cons, List.map_nil]); first | done | rfl | (simp only [List.length_drop, List.length_take]; rfl)) ?_; (with_reducible refine (speclex_term.calls k a0 t117 _ A53.out).mono ?_); rintro e w' ⟨rfl, ⟨nd, rfl⟩⟩; refine ⟨_, rfl, ?_⟩; (try (rw [drewN_self w59]; generalize hq_ : World.drewN w59 _ = w59; have n0_ : Aside0 (w59.heap[gb109]? = some (.cells #[.int .i64 0, .string (⟨#[]⟩ : ByteArray), .int .i64 0] 32 (0, 0))) := ⟨by rw [← hq_]; exact qK⟩; have n1_ : Aside0 (Below w.heap.size w w59) := ⟨by rw [← hq_]; exact qF⟩; clear BK109 HB hq_; have BK109 := n0_; have HB := n1_; clear n0_ n1_)); obtain ⟨hcz60_0, hcz60_1, hcz60_2, hfz60_0, hfz60_1, hfz60_2⟩ := bx3 BK109.out))
        refine bodyPost_ret (results_ctt rfl _ _ gb109 32 #[.int .i64 3, .string (a0.extract 1 ((wrap64 (t117 - 1)) : Int).toNat), .int .i64 0] (0, 0) _ rfl (by (with_reducible repeat (first | refine qn ?_ _ | refine qd ?_ | refine qa ?_ _)); refine blk_put (cs := #[.int .i64 3, .string (a0.extract 1 ((wrap64 (t117 - 1)) : Int).toNat), .int .i64 0]) ?_ 2 _ rfl; (with_reducible repeat (first | refine qn ?_ _ | refine qd ?_ | refine qa ?_ _)); refine blk_put (cs := #[.int .i64 3, .string (⟨#[]⟩ : ByteArray), .int .i64 0]) ?_ 1 _ rfl; (with_reducible repeat (first | refine qn ?_ _ | refine qd ?_ | refine qa ?_ _)); refine blk_put (cs := #[.int .i64 0, .string (⟨#[]⟩ : ByteArray), .int .i64 0]) ?_ 0 _ rfl; (with_reducible repeat (first | refine qn ?_ _ | refine qd ?_ | refine qa ?_ _)); exact BK109.out) Tryd.underlying32 rfl (by kernel_rfl)) rfl ?_
        exact ⟨qE, qF⟩
       ·rw [if_neg c58] at H
        exact absurd H (by simp)
      ·rw [if_neg c57] at H
       exact absurd H (by simp)
    ·rw [if_neg c52] at H
     (have c52b0 : (a1 == 4) = false := beq_eq_false_iff_ne.mpr c52); (have c52b1 : (a1 != 4) = true := bne_iff_ne.mpr c52); (by_cases c61 : a1 = 5)
     ·rw [if_pos c61] at H
      (have c61b0 : (a1 == 5) = true := beq_iff_eq.mpr c61); (have c61b1 : (a1 != 5) = false := bne_eq_false_iff_eq.mpr c61); clear c61; (by_cases c62 : 1 ≤ (a0.size : Int))
      ·rw [if_pos c62] at H
       (have c62b0 := eq_true c62); (have c62b1 : decide (1 ≤ (a0.size : Int)) = true := decide_eq_true c62); clear c62; (replace H := Option.bind_eq_some_iff.mp H); (obtain ⟨t118, A630, H⟩ := H); (replace H : (if 0 ≤ (wrap64 (1 + t118)) then (if (wrap64 (1 + t118)) ≤ (a0.size : Int) then ((speclex_word.f (a0.extract 0 ((wrap64 (1 + t118)) : Int).toNat)).bind fun t119 => (if t119 = true then (some (5, a0.extract 0 ((wrap64 (1 + t118)) : Int).toNat, 0, wrap64 (1 + t118), 0)) else (if 0 ≤ 1 then (some (6, a0.extract 0 1, 0, 1, 0)) else (none)))) else (none)) else (none)) = some (r1, r2, r3, r4, r5) := H); (have A63 := qM A630); clear A630; (obtain ⟨ji64, hji64⟩ : ∃ j_ : Int, (wrap64 (1 + t118)) = j_ := ⟨_, rfl⟩); (replace H : (if 0 ≤ (ji64) then (if (ji64) ≤ (a0.size : Int) then ((speclex_word.f (a0.extract 0 ((ji64) : Int).toNat)).bind fun t119 => (if t119 = true then (some (5, a0.extract 0 ((ji64) : Int).toNat, 0, ji64, 0)) else (if 0 ≤ 1 then (some (6, a0.extract 0 1, 0, 1, 0)) else (none)))) else (none)) else (none)) = some (r1, r2, r3, r4, r5) := by first | (rw [hji64] at H; exact H) | (simp only [hji64] at H ⊢; exact H)); ((try rw [hji64] at A63)); (have hji64w : (IntKind.i64.wrap (1 + t118)) = ji64 := (i64_w _).trans hji64); (by_cases c65 : 0 ≤ (ji64))
       ·rw [if_pos c65] at H
        (have c65b0 := eq_true c65); (have c65b1 : decide (0 ≤ (ji64)) = true := decide_eq_true c65); clear c65; (by_cases c66 : (ji64) ≤ (a0.size : Int))
        ·rw [if_pos c66] at H
         (have c66b0 := eq_true c66); (have c66b1 : decide ((ji64) ≤ (a0.size : Int)) = true := decide_eq_true c66); clear c66; (replace H := Option.bind_eq_some_iff.mp H); (obtain ⟨t119, A670, H⟩ := H); (replace H : (if t119 = true then (some (5, a0.extract 0 ((ji64) : Int).toNat, 0, ji64, 0)) else (if 0 ≤ 1 then (some (6, a0.extract 0 1, 0, 1, 0)) else (none))) = some (r1, r2, r3, r4, r5) := H); (have A67 := qM A670); clear A670; (by_cases c68 : t119 = true)
         ·subst c68
          (have H1 : (some (5, a0.extract 0 ((ji64) : Int).toNat, 0, ji64, 0)) = some (r1, r2, r3, r4, r5) := by rw [if_pos rfl] at H; exact H); clear H; (have H := H1); clear H1; (have c69b0 := eq_true (qo qX : 0 ≤ (ji64))); (have c70b0 := eq_true (qo qX : (ji64) ≤ (a0.size : Int))); (simp only [Option.some.injEq, Prod.mk.injEq] at H); (obtain ⟨rfl, rfl, rfl, rfl, rfl⟩ := H); (go_enter Tryd.func17, Tryd.ntmps17)
          go_wp2_with (first | ((with_reducible refine gate_dst (N := 4) rfl ?_); refine box_event ?hg (N := 4) ?hd (cs := #[.int .i64 0, .string (⟨#[]⟩ : ByteArray), .int .i64 0]) (t := 32) ?hr ?_; (case hd => rfl); (case hg => rfl); (case hr => first | (go_simp; done) | (go_simp; rfl)); intro gb109 hg w71 hbox hb; have n0_ := qM (qP qF hb); have n1_ := qM (hbox); have n2_ := qM ((by rw [hg]; exact (qZ qF) : w.heap.size ≤ gb109)); have n3_ := qM ((by rw [hg]; exact (qZ qF) : w.heap.size ≤ gb109)); clear HB; have HB := n0_; have BK109 := n1_; have GW109 := n2_; have GE109 := n3_; clear n0_ n1_ n2_ n3_; clear hb hbox hg) | ((with_reducible refine gate_callee (f := 26) rfl ?_); refine goesL_ (some 73) rfl rfl Tryd.func26 (by kernel_rfl) rfl #[.string (a0.extract 1 a0.size)] rfl (by (try simp only [List.map_toArray, List.map_cons, List.map_nil]); first | done | rfl | (simp only [List.length_drop, List.length_take]; rfl)) ?_; (with_reducible refine (speclex_run.calls (a0.extract 1 a0.size) t118 _ A63.out).mono ?_); rintro e w72 ⟨rfl, hb⟩; refine ⟨_, rfl, ?_⟩; have n0_ := qM (qb (g := gb109) qK hb); have n1_ := qM (qP qF hb); clear BK109; clear HB; have BK109 := n0_; have HB := n1_; clear n0_ n1_; (try clear hb); (try clear hb2); (try clear hk); (try clear hi)) | ((with_reducible refine gate_callee (f := 30) rfl ?_); refine goesL_ (some 78) rfl rfl Tryd.func30 (by kernel_rfl) rfl #[.string (a0.extract 0 ((ji64) : Int).toNat)] rfl (by (try simp only [List.map_toArray, List.map_cons, List.map_nil]); first | done | (simp only [hji64]; rfl) | rfl | (simp only [List.length_drop, List.length_take]; rfl)) ?_; (with_reducible refine (speclex_word.calls (a0.extract 0 ((ji64) : Int).toNat) true _ ?side1 A67.out).mono ?_); (case side1 => exact GW.below HGW.out qF); rintro e w73 ⟨rfl, hb⟩; refine ⟨_, rfl, ?_⟩; have n0_ := qM (qb (g := gb109) qK hb); have n1_ := qM (qP qF hb); clear BK109; clear HB; have BK109 := n0_; have HB := n1_; clear n0_ n1_; (try clear hb); (try clear hb2); (try clear hk); (try clear hi); obtain ⟨hcz74_0, hcz74_1, hcz74_2, hfz74_0, hfz74_1, hfz74_2⟩ := bx3 BK109.out))
          refine bodyPost_ret (results_ctt rfl _ _ gb109 32 #[.int .i64 5, .string (a0.extract 0 ((ji64) : Int).toNat), .int .i64 0] (0, 0) _ rfl (by (with_reducible repeat (first | refine qn ?_ _ | refine qd ?_ | refine qa ?_ _)); refine blk_put (cs := #[.int .i64 5, .string (a0.extract 0 ((ji64) : Int).toNat), .int .i64 0]) ?_ 2 _ rfl; (with_reducible repeat (first | refine qn ?_ _ | refine qd ?_ | refine qa ?_ _)); refine blk_put (cs := #[.int .i64 5, .string (⟨#[]⟩ : ByteArray), .int .i64 0]) ?_ 1 _ rfl; (with_reducible repeat (first | refine qn ?_ _ | refine qd ?_ | refine qa ?_ _)); refine blk_put (cs := #[.int .i64 0, .string (⟨#[]⟩ : ByteArray), .int .i64 0]) ?_ 0 _ rfl; (with_reducible repeat (first | refine qn ?_ _ | refine qd ?_ | refine qa ?_ _)); exact BK109.out) Tryd.underlying32 rfl (by kernel_rfl)) rfl ?_
          exact ⟨by first | rfl | (simp [errW_none, errW_some] <;> rfl) | (simp only [← hji64]; first | rfl | (simp [errW_none, errW_some] <;> rfl)) | (simp [*, errW_none, errW_some] <;> rfl), qF⟩
         ·replace c68 := Bool.eq_false_iff.mpr c68
          subst c68; (have H1 : (if 0 ≤ 1 then (some (6, a0.extract 0 1, 0, 1, 0)) else (none)) = some (r1, r2, r3, r4, r5) := by rw [if_neg (show ¬ (false = true) by decide)] at H; exact H); clear H; (have H := H1); clear H1; (by_cases c75 : 0 ≤ 1)
          ·rw [if_pos c75] at H
           (have c75b0 := eq_true c75); (have c75b1 : decide (0 ≤ 1) = true := decide_eq_true c75); clear c75; (have c76b0 := eq_true (qo qX : 1 ≤ (a0.size : Int))); (simp only [Option.some.injEq, Prod.mk.injEq] at H); (obtain ⟨rfl, rfl, rfl, rfl, rfl⟩ := H); (go_enter Tryd.func17, Tryd.ntmps17)
           go_wp2_with (first | ((with_reducible refine gate_dst (N := 4) rfl ?_); refine box_event ?hg (N := 4) ?hd (cs := #[.int .i64 0, .string (⟨#[]⟩ : ByteArray), .int .i64 0]) (t := 32) ?hr ?_; (case hd => rfl); (case hg => rfl); (case hr => first | (go_simp; done) | (go_simp; rfl)); intro gb109 hg w77 hbox hb; have n0_ := qM (qP qF hb); have n1_ := qM (hbox); have n2_ := qM ((by rw [hg]; exact (qZ qF) : w.heap.size ≤ gb109)); have n3_ := qM ((by rw [hg]; exact (qZ qF) : w.heap.size ≤ gb109)); clear HB; have HB := n0_; have BK109 := n1_; have GW109 := n2_; have GE109 := n3_; clear n0_ n1_ n2_ n3_; clear hb hbox hg) | ((with_reducible refine gate_callee (f := 26) rfl ?_); refine goesL_ (some 73) rfl rfl Tryd.func26 (by kernel_rfl) rfl #[.string (a0.extract 1 a0.size)] rfl (by (try simp only [List.map_toArray, List.map_cons, List.map_nil]); first | done | rfl | (simp only [List.length_drop, List.length_take]; rfl)) ?_; (with_reducible refine (speclex_run.calls (a0.extract 1 a0.size) t118 _ A63.out).mono ?_); rintro e w78 ⟨rfl, hb⟩; refine ⟨_, rfl, ?_⟩; have n0_ := qM (qb (g := gb109) qK hb); have n1_ := qM (qP qF hb); clear BK109; clear HB; have BK109 := n0_; have HB := n1_; clear n0_ n1_; (try clear hb); (try clear hb2); (try clear hk); (try clear hi)) | ((with_reducible refine gate_callee (f := 30) rfl ?_); refine goesL_ (some 78) rfl rfl Tryd.func30 (by kernel_rfl) rfl #[.string (a0.extract 0 ((ji64) : Int).toNat)] rfl (by (try simp only [List.map_toArray, List.map_cons, List.map_nil]); first | done | (simp only [hji64]; rfl) | rfl | (simp only [List.length_drop, List.length_take]; rfl)) ?_; (with_reducible refine (speclex_word.calls (a0.extract 0 ((ji64) : Int).toNat) false _ ?side1 A67.out).mono ?_); (case side1 => exact GW.below HGW.out qF); rintro e w79 ⟨rfl, hb⟩; refine ⟨_, rfl, ?_⟩; have n0_ := qM (qb (g := gb109) qK hb); have n1_ := qM (qP qF hb); clear BK109; clear HB; have BK109 := n0_; have HB := n1_; clear n0_ n1_; (try clear hb); (try clear hb2); (try clear hk); (try clear hi); obtain ⟨hcz80_0, hcz80_1, hcz80_2, hfz80_0, hfz80_1, hfz80_2⟩ := bx3 BK109.out))
           refine bodyPost_ret (results_ctt rfl _ _ gb109 32 #[.int .i64 6, .string (a0.extract 0 1), .int .i64 0] (0, 0) _ rfl (by (with_reducible repeat (first | refine qn ?_ _ | refine qd ?_ | refine qa ?_ _)); refine blk_put (cs := #[.int .i64 6, .string (a0.extract 0 1), .int .i64 0]) ?_ 2 _ rfl; (with_reducible repeat (first | refine qn ?_ _ | refine qd ?_ | refine qa ?_ _)); refine blk_put (cs := #[.int .i64 6, .string (⟨#[]⟩ : ByteArray), .int .i64 0]) ?_ 1 _ rfl; (with_reducible repeat (first | refine qn ?_ _ | refine qd ?_ | refine qa ?_ _)); refine blk_put (cs := #[.int .i64 0, .string (⟨#[]⟩ : ByteArray), .int .i64 0]) ?_ 0 _ rfl; (with_reducible repeat (first | refine qn ?_ _ | refine qd ?_ | refine qa ?_ _)); exact BK109.out) Tryd.underlying32 rfl (by kernel_rfl)) rfl ?_
           exact ⟨by first | rfl | (simp [errW_none, errW_some] <;> rfl) | (simp only [← hji64]; first | rfl | (simp [errW_none, errW_some] <;> rfl)) | (simp [*, errW_none, errW_some] <;> rfl), qF⟩
          ·rw [if_neg c75] at H
           exact absurd H (by simp)
        ·rw [if_neg c66] at H
         exact absurd H (by simp)
       ·rw [if_neg c65] at H
        exact absurd H (by simp)
      ·rw [if_neg c62] at H
       exact absurd H (by simp)
     ·rw [if_neg c61] at H
      (have c61b0 : (a1 == 5) = false := beq_eq_false_iff_ne.mpr c61); (have c61b1 : (a1 != 5) = true := bne_iff_ne.mpr c61); (by_cases c81 : a1 = 0)
      ·rw [if_pos c81] at H
       (have c81b0 : (a1 == 0) = true := beq_iff_eq.mpr c81); (have c81b1 : (a1 != 0) = false := bne_eq_false_iff_eq.mpr c81); clear c81; (simp only [Option.some.injEq, Prod.mk.injEq] at H); (obtain ⟨rfl, rfl, rfl, rfl, rfl⟩ := H); (go_enter Tryd.func17, Tryd.ntmps17)
       go_wp2_with (first | ((with_reducible refine gate_dst (N := 4) rfl ?_); refine box_event ?hg (N := 4) ?hd (cs := #[.int .i64 0, .string (⟨#[]⟩ : ByteArray), .int .i64 0]) (t := 32) ?hr ?_; (case hd => rfl); (case hg => rfl); (case hr => first | (go_simp; done) | (go_simp; rfl)); intro gb109 hg w82 hbox hb; have n0_ := qM (qP qF hb); have n1_ := qM (hbox); have n2_ := qM ((by rw [hg]; exact (qZ qF) : w.heap.size ≤ gb109)); have n3_ := qM ((by rw [hg]; exact (qZ qF) : w.heap.size ≤ gb109)); clear HB; have HB := n0_; have BK109 := n1_; have GW109 := n2_; have GE109 := n3_; clear n0_ n1_ n2_ n3_; clear hb hbox hg; obtain ⟨hcz83_0, hcz83_1, hcz83_2, hfz83_0, hfz83_1, hfz83_2⟩ := bx3 BK109.out))
       refine bodyPost_ret (results_ctt rfl _ _ gb109 32 #[.int .i64 0, .string (⟨#[]⟩ : ByteArray), .int .i64 0] (0, 0) _ rfl (by (with_reducible repeat (first | refine qn ?_ _ | refine qd ?_ | refine qa ?_ _)); refine blk_put (cs := #[.int .i64 0, .string (⟨#[]⟩ : ByteArray), .int .i64 0]) ?_ 2 _ rfl; (with_reducible repeat (first | refine qn ?_ _ | refine qd ?_ | refine qa ?_ _)); refine blk_put (cs := #[.int .i64 0, .string (⟨#[]⟩ : ByteArray), .int .i64 0]) ?_ 1 _ rfl; (with_reducible repeat (first | refine qn ?_ _ | refine qd ?_ | refine qa ?_ _)); refine blk_put (cs := #[.int .i64 0, .string (⟨#[]⟩ : ByteArray), .int .i64 0]) ?_ 0 _ rfl; (with_reducible repeat (first | refine qn ?_ _ | refine qd ?_ | refine qa ?_ _)); exact BK109.out) Tryd.underlying32 rfl (by kernel_rfl)) rfl ?_
       exact ⟨qE, qF⟩
      ·rw [if_neg c81] at H
       (have c81b0 : (a1 == 0) = false := beq_eq_false_iff_ne.mpr c81); (have c81b1 : (a1 != 0) = true := bne_iff_ne.mpr c81); (by_cases c84 : 0 ≤ 1)
       ·rw [if_pos c84] at H
        (have c84b0 := eq_true c84); (have c84b1 : decide (0 ≤ 1) = true := decide_eq_true c84); clear c84; (by_cases c85 : 1 ≤ (a0.size : Int))
        ·rw [if_pos c85] at H
         (have c85b0 := eq_true c85); (have c85b1 : decide (1 ≤ (a0.size : Int)) = true := decide_eq_true c85); clear c85; (simp only [Option.some.injEq, Prod.mk.injEq] at H); (obtain ⟨rfl, rfl, rfl, rfl, rfl⟩ := H); (go_enter Tryd.func17, Tryd.ntmps17)
         go_wp2_with (first | ((with_reducible refine gate_dst (N := 4) rfl ?_); refine box_event ?hg (N := 4) ?hd (cs := #[.int .i64 0, .string (⟨#[]⟩ : ByteArray), .int .i64 0]) (t := 32) ?hr ?_; (case hd => rfl); (case hg => rfl); (case hr => first | (go_simp; done) | (go_simp; rfl)); intro gb109 hg w86 hbox hb; have n0_ := qM (qP qF hb); have n1_ := qM (hbox); have n2_ := qM ((by rw [hg]; exact (qZ qF) : w.heap.size ≤ gb109)); have n3_ := qM ((by rw [hg]; exact (qZ qF) : w.heap.size ≤ gb109)); clear HB; have HB := n0_; have BK109 := n1_; have GW109 := n2_; have GE109 := n3_; clear n0_ n1_ n2_ n3_; clear hb hbox hg; obtain ⟨hcz87_0, hcz87_1, hcz87_2, hfz87_0, hfz87_1, hfz87_2⟩ := bx3 BK109.out))
         refine bodyPost_ret (results_ctt rfl _ _ gb109 32 #[.int .i64 6, .string (a0.extract 0 1), .int .i64 0] (0, 0) _ rfl (by (with_reducible repeat (first | refine qn ?_ _ | refine qd ?_ | refine qa ?_ _)); refine blk_put (cs := #[.int .i64 6, .string (a0.extract 0 1), .int .i64 0]) ?_ 2 _ rfl; (with_reducible repeat (first | refine qn ?_ _ | refine qd ?_ | refine qa ?_ _)); refine blk_put (cs := #[.int .i64 6, .string (⟨#[]⟩ : ByteArray), .int .i64 0]) ?_ 1 _ rfl; (with_reducible repeat (first | refine qn ?_ _ | refine qd ?_ | refine qa ?_ _)); refine blk_put (cs := #[.int .i64 0, .string (⟨#[]⟩ : ByteArray), .int .i64 0]) ?_ 0 _ rfl; (with_reducible repeat (first | refine qn ?_ _ | refine qd ?_ | refine qa ?_ _)); exact BK109.out) Tryd.underlying32 rfl (by kernel_rfl)) rfl ?_
         exact ⟨qE, qF⟩
        ·rw [if_neg c85] at H
         exact absurd H (by simp)
       ·rw [if_neg c84] at H
        exact absurd H (by simp)
end Go.Proofs.YthijdjpipjbkbaaDoor.H
end
section
namespace Go.Proofs.YthijdjpipjbkbaaDoor.H
open Go.RowKit Go.Shelf Go.Proofs.YthijdjpipjbkbaaDoorW.PrintWords Go.Proofs.YthijdjpipjbkbaaDoorW.PrintLast Go.Proofs.YthijdjpipjbkbaaDoorW.PrintMore
open Go.Maps
set_option linter.unusedVariables false
set_option linter.unusedSimpArgs false
def byteAt (s : ByteArray) (i : Nat) : Nat := (bt s (i : Int)).toNat
theorem byteAt_bt (s : ByteArray) (i : Nat) : bt s (i : Int) = (byteAt s i : Int) ∧ byteAt s i < 256 := by
  have := bt_range s (i : Int)
  unfold byteAt
  omega
def isCom (s : ByteArray) (i : Nat) : Bool := cls (byteAt s i) == 8 && (decide (i + 1 = s.size) || !letB (byteAt s (i + 1)))
def nlAt (s : ByteArray) (i : Nat) : Int := Lib.indexByte (s.extract i s.size).data.toList 10
def speclex_Scan.l0 : Nat → ByteArray → List S32 → Nat → Option (List S32 × Int × Int × ByteArray)
  | 0, _, _, _ => none
  | k + 1, s, out, i => if i < s.size then
      (if isCom s i = true then (if nlAt s i < 0 then some (out, 0, 0, ⟨#[]⟩) else if nlAt s i ≤ 4294967296 then speclex_Scan.l0 k s out (i + (nlAt s i).toNat) else none)
       else if cls (byteAt s i) = 7 then speclex_Scan.l0 k s out (i + 1)
       else if out.length = 16384 then some ([], 4, (i : Int), ⟨#[]⟩)
       else if out.length < 4294967296 then (speclex_one.f k (s.extract i s.size) (cls (byteAt s i) : Int)).bind fun t =>
         if t.2.2.2.2 = 0 then (if 0 ≤ t.2.2.2.1 ∧ t.2.2.2.1 ≤ 4294967296 then speclex_Scan.l0 k s (out ++ [⟨t.1, t.2.1, (i : Int)⟩]) (i + t.2.2.2.1.toNat) else none)
         else some ([], t.2.2.2.2, (i : Int), ⟨#[]⟩) else none)
    else some (out, 0, 0, ⟨#[]⟩)
def speclex_Scan.f (k : Nat) (a0 : ByteArray) : Option (List S32 × Int × Int × ByteArray) := if a0.size ≤ 65536 then speclex_Scan.l0 k a0 [] 0 else some ([], 4, 0, ⟨#[]⟩)
theorem speclex_Scan.mono_l : ∀ k s out i, LeO (speclex_Scan.l0 k s out i) (speclex_Scan.l0 (k + 1) s out i)
  | 0, _, _, _ => fun r h => by simp [speclex_Scan.l0] at h
  | k + 1, s, out, i => by
    have ih := speclex_Scan.mono_l k
    unfold speclex_Scan.l0
    repeat' first
      | (with_reducible exact ih _ _ _)
      | (with_reducible exact speclex_one.mono _ _ _)
      | (with_reducible exact LeO.refl _)
      | (with_reducible exact LeO.none _)
      | (with_reducible refine LeO.ite ?_ ?_)
      | (with_reducible refine LeO.bind ?_ (fun _ => ?_))
theorem speclex_Scan.mono : ∀ a0 k, LeO (speclex_Scan.f k a0) (speclex_Scan.f (k + 1) a0) := by
  intro a0 k
  unfold speclex_Scan.f
  exact LeO.ite (speclex_Scan.mono_l _ _ _ _) (LeO.refl _)
structure SC (w : World) (gd gt : Nat) (v : Value) (out : List S32) (W : World) : Prop where
  B : Below w.heap.size w W
  d : ∃ (x0 x1 : Int) (x2 : ByteArray), W.heap[gd]? = some (.cells #[.int .i64 x0, .int .i64 x1, .string x2] 26 (0, 0))
  t : RowT gt cls W
  R : Kd.R k32 32 W w.heap.size (fun _ => True) v out
section
variable {w W W' : World} {gd gt : Nat} {v : Value} {out : List S32}
theorem SC.below (h : SC w gd gt v out W) (hb : Below W.heap.size W W') : SC w gd gt v out W' :=
  ⟨below_step h.B hb, let ⟨x0, x1, x2, hd⟩ := h.d; ⟨x0, x1, x2, blk_below hd hb⟩, h.t.below hb, Kd.R_below h.R hb⟩
theorem SC.ret (h : SC w gd gt v out W) (hgd : w.heap.size ≤ gd) {a : Act} {vv : Value} {r1 : List S32} {r2 r3 : Int} {r4 : ByteArray} (h2 : a.tmps[2]? = some vv) (h3 : a.tmps[3]? = some (.pointer (some ⟨gd, 0, none⟩))) (hd : a.defers = [])
    (hv : (vv = v ∧ r1 = out) ∨ (vv = .slice none 0 0 ∧ r1 = [])) :
    bodyPost Tryd.prog Tryd.f9 (fun e w' => ∃ v0_ : Value, e = .returned (.tuple #[v0_, .agg #[.int .i64 r2, .int .i64 r3, .string r4]]) ∧ Kd.R k32 32 w' w.heap.size (fun _ => True) v0_ r1 ∧ Below w.heap.size w w') .ret a
      (((W.setCell ⟨gd, 0, none⟩ (.int .i64 r2)).setCell ⟨gd, 1, none⟩ (.int .i64 r3)).setCell ⟨gd, 2, none⟩ (.string r4)) := by
  obtain ⟨x0, x1, x2, hD⟩ := h.d
  have hblk : (((W.setCell ⟨gd, 0, none⟩ (.int .i64 r2)).setCell ⟨gd, 1, none⟩ (.int .i64 r3)).setCell ⟨gd, 2, none⟩ (.string r4)).heap[gd]? = some (.cells #[.int .i64 r2, .int .i64 r3, .string r4] 26 (0, 0)) :=
    blk_put (cs := #[.int .i64 r2, .int .i64 r3, .string x2]) (blk_put (cs := #[.int .i64 r2, .int .i64 x1, .string x2]) (blk_put (cs := #[.int .i64 x0, .int .i64 x1, .string x2]) hD 0 _ rfl) 1 _ rfl) 2 _ rfl
  have g3 : a.tmps.getD 3 undef = .pointer (some ⟨gd, 0, none⟩) := by rw [Array.getD_eq_getD_getElem?, h3]; rfl
  have g2 : a.tmps.getD 2 undef = vv := by rw [Array.getD_eq_getD_getElem?, h2]; rfl
  refine bodyPost_ret (results_tc rfl _ _ gd 26 #[.int .i64 r2, .int .i64 r3, .string r4] (0, 0) _ g3 hblk Tryd.underlying26 rfl (by kernel_rfl)) hd ?_
  rw [g2]
  refine ⟨_, rfl, ?_, below_set (below_set (below_set h.B hgd) hgd) hgd⟩
  rcases hv with ⟨rfl, rfl⟩ | ⟨rfl, rfl⟩
  · exact Kd.R_mono (Kd.R_far (p := ⟨gd, 2, none⟩) (Kd.R_far (p := ⟨gd, 1, none⟩) (Kd.R_far (p := ⟨gd, 0, none⟩) (Kd.R_types h.R hD (by decide)) (fun _ hk => hk.2) (.int .i64 r2)) (fun _ hk => hk.2) (.int .i64 r3)) (fun _ hk => hk.2) (.string r4)) (fun _ hk => trivial)
  · exact Kd.R_nil _ _ _ _ _
theorem SC.dcell (h : SC w gd gt v out W) : ∃ (x0 x1 : Int) (x2 : ByteArray), (W.cell? ⟨gd, 0, none⟩ = some (.int .i64 x0) ∧ W.cell? ⟨gd, 1, none⟩ = some (.int .i64 x1) ∧ W.cell? ⟨gd, 2, none⟩ = some (.string x2)) ∧ W.frozen? ⟨gd, 0, none⟩ = false ∧ W.frozen? ⟨gd, 1, none⟩ = false ∧ W.frozen? ⟨gd, 2, none⟩ = false := by
  obtain ⟨x0, x1, x2, hD⟩ := h.d
  exact ⟨x0, x1, x2, ⟨(blk_cell hD 0).trans rfl, (blk_cell hD 1).trans rfl, (blk_cell hD 2).trans rfl⟩, blk_frozen hD 0, blk_frozen hD 1, blk_frozen hD 2⟩
structure SB (w : World) (gd gt gb : Nat) (v : Value) (out : List S32) (W : World) : Prop where
  s : SC w gd gt v out W
  r : Kd.R k32 32 W w.heap.size (fun k => k ≠ gb) v out
  l : w.heap.size ≤ gb
  nd : gd ≠ gb
  nt : gt ≠ gb
theorem SB.set {gb : Nat} (h : SB w gd gt gb v out W) (i : Nat) (u : Value) : SB w gd gt gb v out (W.setCell ⟨gb, i, none⟩ u) :=
  have hr := Kd.R_far (p := ⟨gb, i, none⟩) h.r (fun _ hk => hk) u
  ⟨⟨below_set h.s.B h.l, let ⟨x0, x1, x2, hd⟩ := h.s.d; ⟨x0, x1, x2, blk_far hd (p := ⟨gb, i, none⟩) h.nd u⟩, (Below.heap_setCell W ⟨gb, i, none⟩ u gt h.nt).trans h.s.t, Kd.R_mono hr (fun _ _ => trivial)⟩, hr, h.l, h.nd, h.nt⟩
theorem SB.new (h : SC w gd gt v out W) {gb : Nat} (hg : gb = W.heap.size) (hb : Below W.heap.size W W') : SB w gd gt gb v out W' := by
  obtain ⟨x0, x1, x2, hD⟩ := h.d
  have l1 := blk_lt hD
  have l2 := (Array.getElem?_eq_some_iff.1 h.t).1
  exact ⟨h.below hb, Kd.R_mono (Kd.R_below (Kd.R_elderB h.R gb (by omega)) hb) (fun _ hk => hk.2), by have := h.B.size; omega, by omega, by omega⟩
theorem SC.grown {w1 : World} {v' : Value} {out' : List S32} (h : SC w gd gt v out W) (hg : W.grownBy w1 v.ownBlock) (hb : Below w.heap.size w w1) (hr : Kd.R k32 32 w1 w.heap.size (fun _ => True) v' out') : SC w gd gt v' out' w1 := by
  obtain ⟨x0, x1, x2, hD⟩ := h.d
  exact ⟨hb, ⟨x0, x1, x2, blk_grown hD hg (Kd.R_ne h.R hD (by decide))⟩, blk_grown h.t hg (Kd.R_ne h.R h.t (by decide)), hr⟩
theorem ret0 {a : Act} (hD : W.heap[gd]? = some (.cells #[.int .i64 0, .int .i64 0, .string ⟨#[]⟩] 26 (0, 0))) (hB : Below w.heap.size w W) (hgd : w.heap.size ≤ gd) (h2 : a.tmps[2]? = some (.slice none 0 0)) (h3 : a.tmps[3]? = some (.pointer (some ⟨gd, 0, none⟩))) (hd : a.defers = []) {r2 r3 : Int} {r4 : ByteArray} :
    bodyPost Tryd.prog Tryd.f9 (fun e w' => ∃ v0_ : Value, e = .returned (.tuple #[v0_, .agg #[.int .i64 r2, .int .i64 r3, .string r4]]) ∧ Kd.R k32 32 w' w.heap.size (fun _ => True) v0_ [] ∧ Below w.heap.size w w') .ret a
      (((W.setCell ⟨gd, 0, none⟩ (.int .i64 r2)).setCell ⟨gd, 1, none⟩ (.int .i64 r3)).setCell ⟨gd, 2, none⟩ (.string r4)) := by
  have hblk : (((W.setCell ⟨gd, 0, none⟩ (.int .i64 r2)).setCell ⟨gd, 1, none⟩ (.int .i64 r3)).setCell ⟨gd, 2, none⟩ (.string r4)).heap[gd]? = some (.cells #[.int .i64 r2, .int .i64 r3, .string r4] 26 (0, 0)) :=
    blk_put (cs := #[.int .i64 r2, .int .i64 r3, .string ⟨#[]⟩]) (blk_put (cs := #[.int .i64 r2, .int .i64 0, .string ⟨#[]⟩]) (blk_put (cs := #[.int .i64 0, .int .i64 0, .string ⟨#[]⟩]) hD 0 _ rfl) 1 _ rfl) 2 _ rfl
  have g3 : a.tmps.getD 3 undef = .pointer (some ⟨gd, 0, none⟩) := by rw [Array.getD_eq_getD_getElem?, h3]; rfl
  have g2 : a.tmps.getD 2 undef = .slice none 0 0 := by rw [Array.getD_eq_getD_getElem?, h2]; rfl
  refine bodyPost_ret (results_tc rfl _ _ gd 26 #[.int .i64 r2, .int .i64 r3, .string r4] (0, 0) _ g3 hblk Tryd.underlying26 rfl (by kernel_rfl)) hd ?_
  rw [g2]
  exact ⟨_, rfl, Kd.R_nil _ _ _ _ _, below_set (below_set (below_set hB hgd) hgd) hgd⟩
end
end Go.Proofs.YthijdjpipjbkbaaDoor.H
end
section
namespace Go.Proofs.YthijdjpipjbkbaaDoor.H
open Go.RowKit Go.Proofs.YthijdjpipjbkbaaDoorW.PrintWords Go.Proofs.YthijdjpipjbkbaaDoorW.PrintLast Go.Proofs.YthijdjpipjbkbaaDoorW.PrintMore
set_option linter.unusedVariables false
set_option linter.unusedSimpArgs false
def digB (c : Nat) : Bool := 48 ≤ c && c ≤ 57
section
set_option maxRecDepth 100000
end
theorem wsum (a b : Nat) (h : a + b ≤ 4294967296) : wrap64 ((a : Int) + (b : Int)) = ((a + b : Nat) : Int) := (congrArg wrap64 (by push_cast; rfl)).trans (wrap_nat (a + b) h)
theorem ext_list (s : ByteArray) (i : Nat) : (s.extract i s.size).data.toList = s.data.toList.drop i := by
  rw [ByteArray.data_extract, Array.toList_extract, List.extract_eq_take_drop]
  exact List.take_of_length_le (by rw [List.length_drop, Array.length_toList]; exact Nat.le_refl _)
theorem ext_size (s : ByteArray) (i : Nat) (h : i ≤ s.size) : (s.extract i s.size).size = s.size - i := by simp
theorem byte_cons (s : ByteArray) (i : Nat) (h : i < s.size) : ∃ c : UInt8, s.data.toList.drop i = c :: s.data.toList.drop (i + 1) ∧ c.toNat = byteAt s i := by
  refine ⟨s[i]'h, byte_drop s i h, ?_⟩
  unfold byteAt bt
  rw [dif_pos (by simpa using h)]; rfl
theorem byte_ext (s : ByteArray) (i j : Nat) (h : i + j < s.size) : byteAt (s.extract i s.size) j = byteAt s (i + j) := by
  have h2 : j < (s.extract i s.size).size := by rw [ext_size s i (by omega)]; omega
  obtain ⟨c, hc, hb⟩ := byte_cons _ j h2
  obtain ⟨d, hd, hb2⟩ := byte_cons _ (i + j) h
  rw [ext_list, List.drop_drop] at hc
  rw [hc] at hd
  injection hd with e
  rw [← hb, ← hb2, e]
theorem runLen_cons (c : UInt8) (l : List UInt8) : runLen (c :: l) = if wordB c.toNat then runLen l + 1 else 0 := by
  unfold runLen; rw [List.takeWhile_cons]; split <;> simp
theorem bne10 (B : Nat) : (((B : Int) != 10) : Bool) = (B != 10 : Bool) := by
  by_cases q : B = 10
  · subst q; rfl
  · rw [show (B != 10 : Bool) = true by simpa using q]; simp; omega
end Go.Proofs.YthijdjpipjbkbaaDoor.H
end
section
namespace Go.Proofs.YthijdjpipjbkbaaDoor.H
open Go.RowKit Go.Proofs.YthijdjpipjbkbaaDoorW.PrintWords Go.Proofs.YthijdjpipjbkbaaDoorW.PrintLast Go.Proofs.YthijdjpipjbkbaaDoorW.PrintMore
set_option linter.unusedVariables false
set_option linter.unusedSimpArgs false
theorem bt_ba {l : List UInt8} {i : Nat} {c : UInt8} {t : List UInt8} (h : l.drop i = c :: t) : i < (ba l).size ∧ bt (ba l) (i : Int) = (c.toNat : Int) := by
  obtain ⟨hi, _, hg⟩ := drop_cons h
  have hs : i < (ba l).size := by rw [ba_size]; exact hi
  refine ⟨hs, ?_⟩
  unfold bt
  rw [dif_pos (by simpa using hs)]
  have hl := List.getElem?_eq_getElem hi
  have : l[i] = c := by
    have h0 := hg 0
    rw [List.getD_eq_getElem?_getD, hl] at h0
    exact h0
  simp only [Int.toNat_natCast]
  rw [← this]
  rfl
theorem ba_drop (l : List UInt8) (i : Nat) : (ba l).extract i (ba l).size = ba (l.drop i) := by
  refine ba_ext ?_
  rw [ba_list, ba_size]
  simp only [ba, ByteArray.data_extract]
  simp
  exact List.take_of_length_le (by simp)
end Go.Proofs.YthijdjpipjbkbaaDoor.H
end
section
namespace Go.Proofs.YthijdjpipjbkbaaDoor.H
open Go.RowKit Go.Proofs.YthijdjpipjbkbaaDoorW.PrintWords Go.Proofs.YthijdjpipjbkbaaDoorW.PrintLast Go.Proofs.YthijdjpipjbkbaaDoorW.PrintMore
set_option linter.unusedVariables false
set_option linter.unusedSimpArgs false
theorem nums_back (l : List UInt8) : (Extern.FmtText.nums l).map (fun x => x.toNat.toUInt8) = l := by
  induction l with
  | nil => rfl
  | cons c r ih =>
    unfold Extern.FmtText.nums at ih ⊢
    rw [List.map_cons, List.map_cons, ih]
    congr 1
    simp [Nat.toUInt8]
theorem encode_list (r : Nat) : (Utf8.encode (r : Int)).data.toList = Lib.encodeRune (r : Int) := by
  unfold Lib.encodeRune
  rw [← Extern.FmtText.encode_eq r, nums_back]
theorem encode_ba (r : Nat) : Utf8.encode (r : Int) = ba (Lib.encodeRune (r : Int)) := ba_ext (by rw [encode_list, ba_list])
theorem ib_esc (c : UInt8) (n : Int) (h : Lib.indexByte [34, 92, 110, 114, 116] c = n) : strings_IndexByte.f (⟨#[34, 92, 110, 114, 116]⟩ : ByteArray) (c.toNat : Int) = some n := by
  unfold strings_IndexByte.f
  have e : ((c.toNat : Int)).toNat.toUInt8 = c := by simp [Nat.toUInt8]
  rw [e, ← h]
theorem esc_char (c : UInt8) (i : Nat) (t : List UInt8) (d : UInt8) (hi : i < 5) (h : Lib.indexByte [34, 92, 110, 114, 116] c = (i : Int)) (hd : (⟨#[34, 92, 10, 13, 9]⟩ : ByteArray).extract i (i + 1) = ba [d]) : Ends (fun k => text_escape.f k (ba (c :: t))) (ba [d], 1) := by
  obtain ⟨hs, hb⟩ := bt_ba (l := c :: t) (i := 0) rfl
  have hb' : bt (ba (c :: t)) 0 = (c.toNat : Int) := hb
  have n1 : i + 1 ≤ 4294967296 := by omega
  have i0 : (i : Int) ≥ 0 := by omega
  have i1 : (i : Int) ≤ ((i + 1 : Nat) : Int) := by omega
  have i2 : ((i + 1 : Nat) : Int) ≤ 5 := by omega
  have s0 : 0 < ((ba (c :: t)).size : Int) := by omega
  have ew : wrap64 ((i : Int) + 1) = ((i + 1 : Nat) : Int) := (congrArg wrap64 (by push_cast; rfl)).trans (wrap_nat _ n1)
  have EW := Aside0.mk ew
  clear ew
  unfold text_escape.f
  refine Ends.neg (by rw [ByteArray.toList_eq, ba_list]; simp) (Ends.pos s0 (Ends.bind0 (a := (i : Int)) (by rw [hb']; exact ib_esc c _ h) (Ends.pos i0 (Ends.pos i0 ?_))))
  simp only [EW.out, Int.toNat_natCast, hd]
  exact Ends.pos i1 (Ends.pos i2 (Ends.const _))
theorem valid_ends (r : Nat) (h : r < 55296 ∨ (57343 < r ∧ r ≤ 1114111)) : Ends (fun k => utf8_ValidRune.f k (r : Int)) true := by
  unfold utf8_ValidRune.f
  refine Ends.pos (by omega) (Ends.step (fun k => utf8_ValidRune.j0.eq_2 ..) ?_)
  by_cases q : (r : Int) < 55296
  · exact Ends.pos (by simpa using q) (Ends.const _)
  · exact Ends.neg (by simpa using q) (Ends.pos (by omega) (Ends.pos (by omega) (Ends.const _)))
end Go.Proofs.YthijdjpipjbkbaaDoor.H
end
