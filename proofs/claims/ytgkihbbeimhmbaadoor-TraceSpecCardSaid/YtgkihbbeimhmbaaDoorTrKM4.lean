/- The library's functions on strings: the kit's contracts, laid at this program. -/
import Derived.Test.YtgkihbbeimhmbaaDoorSx36M2
import Derived.Test.YtgkihbbeimhmbaaDoorProg
import Derived.Test.YtgkihbbeimhmbaaDoorTrFM3
import Derived.Test.YtgkihbbeimhmbaaDoorTrLaw2M6
namespace Go.Proofs
open Go.RowKit Go.Shelf
def Tryd.splitA_ren : Go.Shelf.Ren := ⟨fun | 146 => 19 | 221 => 32 | 268 => 39 | 138 => 40 | 143 => 41 | 195 => 54 | 197 => 55 | 218 => 56 | 219 => 57 | 260 => 75 | 217 => 76 | 225 => 61 | 224 => 60 | 267 => 77 | 266 => 87 | 314 => 88 | n => n, fun | 9 => 9 | 31 => 37 | 3 => 3 | 4 => 4 | 0 => 0 | 105 => 81 | 21 => 21 | 5 => 5 | 46 => 86 | 119 => 104 | 139 => 107 | 138 => 106 | 146 => 108 | 51 => 93 | n => n, fun | 1 => 1 | 3 => 2 | 4 => 3 | n => n⟩
theorem Tryd.splitA : Lays.n146 Tryd.prog Tryd.splitA_ren where
  mixed := by kernel_rfl
  f138 := Tryd.func40.trans (congrArg some (by kernel_rfl))
  f143 := Tryd.func41.trans (congrArg some (by kernel_rfl))
  f146 := Tryd.func19.trans (congrArg some (by kernel_rfl))
  f195 := Tryd.func54.trans (congrArg some (by kernel_rfl))
  f197 := Tryd.func55.trans (congrArg some (by kernel_rfl))
  f217 := Tryd.func76.trans (congrArg some (by kernel_rfl))
  f218 := Tryd.func56.trans (congrArg some (by kernel_rfl))
  f219 := Tryd.func57.trans (congrArg some (by kernel_rfl))
  f221 := Tryd.func32.trans (congrArg some (by kernel_rfl))
  f224 := Tryd.func60.trans (congrArg some (by kernel_rfl))
  f225 := Tryd.func61.trans (congrArg some (by kernel_rfl))
  f260 := Tryd.func75.trans (congrArg some (by kernel_rfl))
  f266 := Tryd.func87.trans (congrArg some (by kernel_rfl))
  f267 := Tryd.func77.trans (congrArg some (by kernel_rfl))
  f268 := Tryd.func39.trans (congrArg some (by kernel_rfl))
  f314 := Tryd.func88.trans (congrArg some (by kernel_rfl))
  t0 := Tryd.underlying0
  a0 := Tryd.isAgg0
  z0 := Tryd.sizeOf0
  v0 := Tryd.zeroValue0
  t3 := Tryd.underlying3
  a3 := Tryd.isAgg3
  z3 := Tryd.sizeOf3
  v3 := Tryd.zeroValue3
  t4 := Tryd.underlying4
  a4 := Tryd.isAgg4
  z4 := Tryd.sizeOf4
  v4 := Tryd.zeroValue4
  t5 := Tryd.underlying5
  a5 := Tryd.isAgg5
  z5 := Tryd.sizeOf5
  v5 := Tryd.zeroValue5
  t9 := Tryd.underlying9
  a9 := Tryd.isAgg9
  z9 := Tryd.sizeOf9
  v9 := Tryd.zeroValue9
  t21 := Tryd.underlying21
  a21 := Tryd.isAgg21
  z21 := Tryd.sizeOf21
  v21 := Tryd.zeroValue21
  t31 := Tryd.underlying37
  a31 := Tryd.isAgg37
  z31 := Tryd.sizeOf37
  v31 := Tryd.zeroValue37
  t46 := Tryd.underlying86
  a46 := Tryd.isAgg86
  z46 := Tryd.sizeOf86
  v46 := Tryd.zeroValue86
  t51 := Tryd.underlying93
  a51 := Tryd.isAgg93
  z51 := Tryd.sizeOf93
  v51 := Tryd.zeroValue93
  t105 := Tryd.underlying81
  a105 := Tryd.isAgg81
  z105 := Tryd.sizeOf81
  v105 := Tryd.zeroValue81
  t119 := Tryd.underlying104
  a119 := Tryd.isAgg104
  z119 := Tryd.sizeOf104
  t138 := Tryd.underlying106
  a138 := Tryd.isAgg106
  z138 := Tryd.sizeOf106
  v138 := Tryd.zeroValue106
  t139 := Tryd.underlying107
  a139 := Tryd.isAgg107
  z139 := Tryd.sizeOf107
  v139 := Tryd.zeroValue107
  t146 := Tryd.underlying108
  a146 := Tryd.isAgg108
  z146 := Tryd.sizeOf108
  v146 := Tryd.zeroValue108
  g1 := by kernel_rfl
  g3 := by kernel_rfl
  g4 := by kernel_rfl
def Tryd.trimA_ren : Go.Shelf.Ren := ⟨fun | 160 => 46 | 232 => 63 | 231 => 62 | 227 => 44 | 234 => 65 | 233 => 64 | 236 => 67 | 235 => 66 | 228 => 45 | 271 => 79 | 151 => 78 | 197 => 55 | 120 => 89 | 152 => 42 | 260 => 75 | 137 => 58 | 119 => 59 | 224 => 60 | 225 => 61 | 217 => 76 | 266 => 87 | n => n, fun | 9 => 9 | 4 => 4 | 3 => 3 | 5 => 5 | 117 => 68 | 116 => 67 | 0 => 0 | 124 => 87 | 21 => 21 | 105 => 81 | 46 => 86 | 119 => 104 | 139 => 107 | 138 => 106 | n => n, fun | 3 => 2 | 4 => 3 | n => n⟩
theorem Tryd.trimA : Lays.n160 Tryd.prog Tryd.trimA_ren where
  mixed := by kernel_rfl
  f119 := Tryd.func59.trans (congrArg some (by kernel_rfl))
  f120 := Tryd.func89.trans (congrArg some (by kernel_rfl))
  f137 := Tryd.func58.trans (congrArg some (by kernel_rfl))
  f151 := Tryd.func78.trans (congrArg some (by kernel_rfl))
  f152 := Tryd.func42.trans (congrArg some (by kernel_rfl))
  f160 := Tryd.func46.trans (congrArg some (by kernel_rfl))
  f197 := Tryd.func55.trans (congrArg some (by kernel_rfl))
  f217 := Tryd.func76.trans (congrArg some (by kernel_rfl))
  f224 := Tryd.func60.trans (congrArg some (by kernel_rfl))
  f225 := Tryd.func61.trans (congrArg some (by kernel_rfl))
  f227 := Tryd.func44.trans (congrArg some (by kernel_rfl))
  f228 := Tryd.func45.trans (congrArg some (by kernel_rfl))
  f231 := Tryd.func62.trans (congrArg some (by kernel_rfl))
  f232 := Tryd.func63.trans (congrArg some (by kernel_rfl))
  f233 := Tryd.func64.trans (congrArg some (by kernel_rfl))
  f234 := Tryd.func65.trans (congrArg some (by kernel_rfl))
  f235 := Tryd.func66.trans (congrArg some (by kernel_rfl))
  f236 := Tryd.func67.trans (congrArg some (by kernel_rfl))
  f260 := Tryd.func75.trans (congrArg some (by kernel_rfl))
  f266 := Tryd.func87.trans (congrArg some (by kernel_rfl))
  f271 := Tryd.func79.trans (congrArg some (by kernel_rfl))
  t0 := Tryd.underlying0
  a0 := Tryd.isAgg0
  z0 := Tryd.sizeOf0
  v0 := Tryd.zeroValue0
  t3 := Tryd.underlying3
  a3 := Tryd.isAgg3
  z3 := Tryd.sizeOf3
  v3 := Tryd.zeroValue3
  t4 := Tryd.underlying4
  a4 := Tryd.isAgg4
  z4 := Tryd.sizeOf4
  v4 := Tryd.zeroValue4
  t5 := Tryd.underlying5
  a5 := Tryd.isAgg5
  z5 := Tryd.sizeOf5
  v5 := Tryd.zeroValue5
  t9 := Tryd.underlying9
  a9 := Tryd.isAgg9
  z9 := Tryd.sizeOf9
  v9 := Tryd.zeroValue9
  t21 := Tryd.underlying21
  a21 := Tryd.isAgg21
  z21 := Tryd.sizeOf21
  v21 := Tryd.zeroValue21
  t46 := Tryd.underlying86
  a46 := Tryd.isAgg86
  z46 := Tryd.sizeOf86
  v46 := Tryd.zeroValue86
  t105 := Tryd.underlying81
  a105 := Tryd.isAgg81
  z105 := Tryd.sizeOf81
  v105 := Tryd.zeroValue81
  t116 := Tryd.underlying67
  a116 := Tryd.isAgg67
  z116 := Tryd.sizeOf67
  t117 := Tryd.underlying68
  a117 := Tryd.isAgg68
  z117 := Tryd.sizeOf68
  v117 := Tryd.zeroValue68
  t119 := Tryd.underlying104
  a119 := Tryd.isAgg104
  z119 := Tryd.sizeOf104
  t124 := Tryd.underlying87
  a124 := Tryd.isAgg87
  z124 := Tryd.sizeOf87
  v124 := Tryd.zeroValue87
  t138 := Tryd.underlying106
  a138 := Tryd.isAgg106
  z138 := Tryd.sizeOf106
  v138 := Tryd.zeroValue106
  t139 := Tryd.underlying107
  a139 := Tryd.isAgg107
  z139 := Tryd.sizeOf107
  v139 := Tryd.zeroValue107
  g3 := by kernel_rfl
  g4 := by kernel_rfl
def Tryd.idxanyA_ren : Go.Shelf.Ren := ⟨fun | 153 => 33 | 152 => 42 | 226 => 43 | 227 => 44 | 228 => 45 | 137 => 58 | 119 => 59 | 224 => 60 | 225 => 61 | 217 => 76 | 266 => 87 | n => n, fun | 9 => 9 | 3 => 3 | 4 => 4 | 5 => 5 | 21 => 21 | 117 => 68 | 116 => 67 | 0 => 0 | 46 => 86 | 124 => 87 | n => n, fun n => n⟩
theorem Tryd.idxanyA : Lays.n153 Tryd.prog Tryd.idxanyA_ren where
  mixed := by kernel_rfl
  f119 := Tryd.func59.trans (congrArg some (by kernel_rfl))
  f137 := Tryd.func58.trans (congrArg some (by kernel_rfl))
  f152 := Tryd.func42.trans (congrArg some (by kernel_rfl))
  f153 := Tryd.func33.trans (congrArg some (by kernel_rfl))
  f217 := Tryd.func76.trans (congrArg some (by kernel_rfl))
  f224 := Tryd.func60.trans (congrArg some (by kernel_rfl))
  f225 := Tryd.func61.trans (congrArg some (by kernel_rfl))
  f226 := Tryd.func43.trans (congrArg some (by kernel_rfl))
  f227 := Tryd.func44.trans (congrArg some (by kernel_rfl))
  f228 := Tryd.func45.trans (congrArg some (by kernel_rfl))
  f266 := Tryd.func87.trans (congrArg some (by kernel_rfl))
  t0 := Tryd.underlying0
  a0 := Tryd.isAgg0
  z0 := Tryd.sizeOf0
  v0 := Tryd.zeroValue0
  t3 := Tryd.underlying3
  a3 := Tryd.isAgg3
  z3 := Tryd.sizeOf3
  v3 := Tryd.zeroValue3
  t4 := Tryd.underlying4
  a4 := Tryd.isAgg4
  z4 := Tryd.sizeOf4
  v4 := Tryd.zeroValue4
  t5 := Tryd.underlying5
  a5 := Tryd.isAgg5
  z5 := Tryd.sizeOf5
  v5 := Tryd.zeroValue5
  t9 := Tryd.underlying9
  a9 := Tryd.isAgg9
  z9 := Tryd.sizeOf9
  v9 := Tryd.zeroValue9
  t21 := Tryd.underlying21
  a21 := Tryd.isAgg21
  z21 := Tryd.sizeOf21
  v21 := Tryd.zeroValue21
  t46 := Tryd.underlying86
  a46 := Tryd.isAgg86
  z46 := Tryd.sizeOf86
  v46 := Tryd.zeroValue86
  t116 := Tryd.underlying67
  a116 := Tryd.isAgg67
  z116 := Tryd.sizeOf67
  t117 := Tryd.underlying68
  a117 := Tryd.isAgg68
  z117 := Tryd.sizeOf68
  v117 := Tryd.zeroValue68
  t124 := Tryd.underlying87
  a124 := Tryd.isAgg87
  z124 := Tryd.sizeOf87
  v124 := Tryd.zeroValue87
def Tryd.joinA_ren : Go.Shelf.Ren := ⟨fun | 156 => 18 | 165 => 29 | 166 => 30 | 169 => 31 | 240 => 37 | 241 => 38 | 276 => 52 | 277 => 53 | n => n, fun | 31 => 37 | 9 => 9 | 3 => 3 | 4 => 4 | 0 => 0 | 20 => 20 | 72 => 52 | 76 => 56 | 70 => 49 | 37 => 50 | 75 => 55 | 127 => 63 | 164 => 78 | 5 => 5 | 80 => 58 | n => n, fun n => n⟩
theorem Tryd.joinA : Lays.n156 Tryd.prog Tryd.joinA_ren where
  mixed := by kernel_rfl
  f156 := Tryd.func18.trans (congrArg some (by kernel_rfl))
  f165 := Tryd.func29.trans (congrArg some (by kernel_rfl))
  f166 := Tryd.func30.trans (congrArg some (by kernel_rfl))
  f169 := Tryd.func31.trans (congrArg some (by kernel_rfl))
  f240 := Tryd.func37.trans (congrArg some (by kernel_rfl))
  f241 := Tryd.func38.trans (congrArg some (by kernel_rfl))
  f276 := Tryd.func52.trans (congrArg some (by kernel_rfl))
  f277 := Tryd.func53.trans (congrArg some (by kernel_rfl))
  t0 := Tryd.underlying0
  a0 := Tryd.isAgg0
  z0 := Tryd.sizeOf0
  v0 := Tryd.zeroValue0
  t3 := Tryd.underlying3
  a3 := Tryd.isAgg3
  z3 := Tryd.sizeOf3
  v3 := Tryd.zeroValue3
  t4 := Tryd.underlying4
  a4 := Tryd.isAgg4
  z4 := Tryd.sizeOf4
  v4 := Tryd.zeroValue4
  t9 := Tryd.underlying9
  a9 := Tryd.isAgg9
  z9 := Tryd.sizeOf9
  v9 := Tryd.zeroValue9
  t20 := Tryd.underlying20
  a20 := Tryd.isAgg20
  z20 := Tryd.sizeOf20
  v20 := Tryd.zeroValue20
  t31 := Tryd.underlying37
  a31 := Tryd.isAgg37
  z31 := Tryd.sizeOf37
  v31 := Tryd.zeroValue37
  t37 := Tryd.underlying50
  a37 := Tryd.isAgg50
  z37 := Tryd.sizeOf50
  v37 := Tryd.zeroValue50
  t70 := Tryd.underlying49
  a70 := Tryd.isAgg49
  z70 := Tryd.sizeOf49
  v70 := Tryd.zeroValue49
  t72 := Tryd.underlying52
  a72 := Tryd.isAgg52
  z72 := Tryd.sizeOf52
  v72 := Tryd.zeroValue52
  t75 := Tryd.underlying55
  a75 := Tryd.isAgg55
  z75 := Tryd.sizeOf55
  v75 := Tryd.zeroValue55
  t76 := Tryd.underlying56
  a76 := Tryd.isAgg56
  z76 := Tryd.sizeOf56
  v76 := Tryd.zeroValue56
  t127 := Tryd.underlying63
  a127 := Tryd.isAgg63
  z127 := Tryd.sizeOf63
  v127 := Tryd.zeroValue63
  t164 := Tryd.underlying78
  a164 := Tryd.isAgg78
  z164 := Tryd.sizeOf78
  v164 := Tryd.zeroValue78
def Tryd.itoaA_ren : Go.Shelf.Ren := ⟨fun | 171 => 17 | 243 => 28 | 246 => 36 | 283 => 48 | 284 => 49 | 285 => 50 | 286 => 51 | 129 => 71 | 317 => 70 | 318 => 72 | 319 => 73 | 320 => 74 | 337 => 85 | 338 => 86 | n => n, fun | 3 => 3 | 9 => 9 | 2 => 2 | 4 => 4 | 171 => 72 | 0 => 0 | 53 => 73 | 37 => 50 | 5 => 5 | 173 => 76 | 212 => 92 | 51 => 93 | 20 => 20 | 213 => 94 | 46 => 86 | 232 => 116 | 233 => 117 | n => n, fun | 17 => 0 | 18 => 6 | 19 => 7 | n => n⟩
theorem Tryd.itoaA : LaysM.n171 Tryd.prog Tryd.itoaA_ren where
  mixed := by kernel_rfl
  f129 := Tryd.func71.trans (congrArg some (by kernel_rfl))
  f171 := Tryd.func17.trans (congrArg some (by kernel_rfl))
  f243 := Tryd.func28.trans (congrArg some (by kernel_rfl))
  f246 := Tryd.func36.trans (congrArg some (by kernel_rfl))
  f283 := Tryd.func48.trans (congrArg some (by kernel_rfl))
  f284 := Tryd.func49.trans (congrArg some (by kernel_rfl))
  f285 := Tryd.func50.trans (congrArg some (by kernel_rfl))
  f286 := Tryd.func51.trans (congrArg some (by kernel_rfl))
  f317 := Tryd.func70.trans (congrArg some (by kernel_rfl))
  f318 := Tryd.func72.trans (congrArg some (by kernel_rfl))
  f319 := Tryd.func73.trans (congrArg some (by kernel_rfl))
  f320 := Tryd.func74.trans (congrArg some (by kernel_rfl))
  f337 := Tryd.func85.trans (congrArg some (by kernel_rfl))
  f338 := Tryd.func86.trans (congrArg some (by kernel_rfl))
  t0 := Tryd.underlying0
  a0 := Tryd.isAgg0
  z0 := Tryd.sizeOf0
  v0 := Tryd.zeroValue0
  t2 := Tryd.underlying2
  a2 := Tryd.isAgg2
  z2 := Tryd.sizeOf2
  v2 := Tryd.zeroValue2
  t3 := Tryd.underlying3
  a3 := Tryd.isAgg3
  z3 := Tryd.sizeOf3
  v3 := Tryd.zeroValue3
  t4 := Tryd.underlying4
  a4 := Tryd.isAgg4
  z4 := Tryd.sizeOf4
  v4 := Tryd.zeroValue4
  t5 := Tryd.underlying5
  a5 := Tryd.isAgg5
  z5 := Tryd.sizeOf5
  v5 := Tryd.zeroValue5
  t9 := Tryd.underlying9
  a9 := Tryd.isAgg9
  z9 := Tryd.sizeOf9
  v9 := Tryd.zeroValue9
  t20 := Tryd.underlying20
  a20 := Tryd.isAgg20
  z20 := Tryd.sizeOf20
  v20 := Tryd.zeroValue20
  t37 := Tryd.underlying50
  a37 := Tryd.isAgg50
  z37 := Tryd.sizeOf50
  v37 := Tryd.zeroValue50
  t46 := Tryd.underlying86
  a46 := Tryd.isAgg86
  z46 := Tryd.sizeOf86
  v46 := Tryd.zeroValue86
  t51 := Tryd.underlying93
  a51 := Tryd.isAgg93
  z51 := Tryd.sizeOf93
  v51 := Tryd.zeroValue93
  t53 := Tryd.underlying73
  a53 := Tryd.isAgg73
  z53 := Tryd.sizeOf73
  v53 := Tryd.zeroValue73
  t171 := Tryd.underlying72
  a171 := Tryd.isAgg72
  z171 := Tryd.sizeOf72
  v171 := Tryd.zeroValue72
  t173 := Tryd.underlying76
  a173 := Tryd.isAgg76
  z173 := Tryd.sizeOf76
  v173 := Tryd.zeroValue76
  t212 := Tryd.underlying92
  a212 := Tryd.isAgg92
  z212 := Tryd.sizeOf92
  v212 := Tryd.zeroValue92
  t213 := Tryd.underlying94
  a213 := Tryd.isAgg94
  z213 := Tryd.sizeOf94
  t232 := Tryd.underlying116
  a232 := Tryd.isAgg116
  z232 := Tryd.sizeOf116
  v232 := Tryd.zeroValue116
  t233 := Tryd.underlying117
  a233 := Tryd.isAgg117
  z233 := Tryd.sizeOf117
  v233 := Tryd.zeroValue117
  g17 := by kernel_rfl
  g18 := by kernel_rfl
  g19 := by kernel_rfl
  i0 := by kernel_rfl
  i2 := by kernel_rfl
  i3 := by kernel_rfl
  i4 := by kernel_rfl
  i5 := by kernel_rfl
  i9 := by kernel_rfl
  i20 := by kernel_rfl
  i37 := by kernel_rfl
  i46 := by kernel_rfl
  i51 := by kernel_rfl
  i53 := by kernel_rfl
  i171 := by kernel_rfl
  i173 := by kernel_rfl
  i212 := by kernel_rfl
  i232 := by kernel_rfl
  i233 := by kernel_rfl
  m17 := by kernel_rfl
  m18 := by kernel_rfl
  m19 := by kernel_rfl
def Tryd.atoiA_ren : Go.Shelf.Ren := ⟨fun | 172 => 47 | 244 => 68 | 245 => 69 | 247 => 80 | 279 => 81 | 280 => 82 | 281 => 83 | 282 => 84 | 287 => 90 | 316 => 91 | 171 => 17 | 205 => 92 | 321 => 93 | 322 => 94 | 243 => 28 | 246 => 36 | 283 => 48 | 284 => 49 | 285 => 50 | 286 => 51 | 129 => 71 | 317 => 70 | 318 => 72 | 319 => 73 | 320 => 74 | 337 => 85 | 338 => 86 | n => n, fun | 9 => 9 | 3 => 3 | 75 => 55 | 76 => 56 | 4 => 4 | 5 => 5 | 167 => 97 | 37 => 50 | 0 => 0 | 85 => 98 | 2 => 2 | 168 => 100 | 53 => 73 | 175 => 110 | 46 => 86 | 210 => 114 | 127 => 63 | 145 => 121 | 143 => 119 | 21 => 21 | 171 => 72 | 173 => 76 | 212 => 92 | 51 => 93 | 20 => 20 | 213 => 94 | 232 => 116 | 233 => 117 | 80 => 58 | n => n, fun | 15 => 4 | 16 => 5 | 17 => 0 | 18 => 6 | 19 => 7 | n => n⟩
theorem Tryd.atoiA : Lays.n172 Tryd.prog Tryd.atoiA_ren where
  mixed := by kernel_rfl
  f129 := Tryd.func71.trans (congrArg some (by kernel_rfl))
  f171 := Tryd.func17.trans (congrArg some (by kernel_rfl))
  f172 := Tryd.func47.trans (congrArg some (by kernel_rfl))
  f205 := Tryd.func92.trans (congrArg some (by kernel_rfl))
  f243 := Tryd.func28.trans (congrArg some (by kernel_rfl))
  f244 := Tryd.func68.trans (congrArg some (by kernel_rfl))
  f245 := Tryd.func69.trans (congrArg some (by kernel_rfl))
  f246 := Tryd.func36.trans (congrArg some (by kernel_rfl))
  f247 := Tryd.func80.trans (congrArg some (by kernel_rfl))
  f279 := Tryd.func81.trans (congrArg some (by kernel_rfl))
  f280 := Tryd.func82.trans (congrArg some (by kernel_rfl))
  f281 := Tryd.func83.trans (congrArg some (by kernel_rfl))
  f282 := Tryd.func84.trans (congrArg some (by kernel_rfl))
  f283 := Tryd.func48.trans (congrArg some (by kernel_rfl))
  f284 := Tryd.func49.trans (congrArg some (by kernel_rfl))
  f285 := Tryd.func50.trans (congrArg some (by kernel_rfl))
  f286 := Tryd.func51.trans (congrArg some (by kernel_rfl))
  f287 := Tryd.func90.trans (congrArg some (by kernel_rfl))
  f316 := Tryd.func91.trans (congrArg some (by kernel_rfl))
  f317 := Tryd.func70.trans (congrArg some (by kernel_rfl))
  f318 := Tryd.func72.trans (congrArg some (by kernel_rfl))
  f319 := Tryd.func73.trans (congrArg some (by kernel_rfl))
  f320 := Tryd.func74.trans (congrArg some (by kernel_rfl))
  f321 := Tryd.func93.trans (congrArg some (by kernel_rfl))
  f322 := Tryd.func94.trans (congrArg some (by kernel_rfl))
  f337 := Tryd.func85.trans (congrArg some (by kernel_rfl))
  f338 := Tryd.func86.trans (congrArg some (by kernel_rfl))
  t0 := Tryd.underlying0
  a0 := Tryd.isAgg0
  z0 := Tryd.sizeOf0
  v0 := Tryd.zeroValue0
  t2 := Tryd.underlying2
  a2 := Tryd.isAgg2
  z2 := Tryd.sizeOf2
  v2 := Tryd.zeroValue2
  t3 := Tryd.underlying3
  a3 := Tryd.isAgg3
  z3 := Tryd.sizeOf3
  v3 := Tryd.zeroValue3
  t4 := Tryd.underlying4
  a4 := Tryd.isAgg4
  z4 := Tryd.sizeOf4
  v4 := Tryd.zeroValue4
  t5 := Tryd.underlying5
  a5 := Tryd.isAgg5
  z5 := Tryd.sizeOf5
  v5 := Tryd.zeroValue5
  t9 := Tryd.underlying9
  a9 := Tryd.isAgg9
  z9 := Tryd.sizeOf9
  v9 := Tryd.zeroValue9
  t20 := Tryd.underlying20
  a20 := Tryd.isAgg20
  z20 := Tryd.sizeOf20
  v20 := Tryd.zeroValue20
  t21 := Tryd.underlying21
  a21 := Tryd.isAgg21
  z21 := Tryd.sizeOf21
  v21 := Tryd.zeroValue21
  t37 := Tryd.underlying50
  a37 := Tryd.isAgg50
  z37 := Tryd.sizeOf50
  v37 := Tryd.zeroValue50
  t46 := Tryd.underlying86
  a46 := Tryd.isAgg86
  z46 := Tryd.sizeOf86
  v46 := Tryd.zeroValue86
  t51 := Tryd.underlying93
  a51 := Tryd.isAgg93
  z51 := Tryd.sizeOf93
  v51 := Tryd.zeroValue93
  t53 := Tryd.underlying73
  a53 := Tryd.isAgg73
  z53 := Tryd.sizeOf73
  v53 := Tryd.zeroValue73
  t75 := Tryd.underlying55
  a75 := Tryd.isAgg55
  z75 := Tryd.sizeOf55
  v75 := Tryd.zeroValue55
  t76 := Tryd.underlying56
  a76 := Tryd.isAgg56
  z76 := Tryd.sizeOf56
  v76 := Tryd.zeroValue56
  t85 := Tryd.underlying98
  a85 := Tryd.isAgg98
  z85 := Tryd.sizeOf98
  v85 := Tryd.zeroValue98
  t127 := Tryd.underlying63
  a127 := Tryd.isAgg63
  z127 := Tryd.sizeOf63
  v127 := Tryd.zeroValue63
  t143 := Tryd.underlying119
  a143 := Tryd.isAgg119
  z143 := Tryd.sizeOf119
  v143 := Tryd.zeroValue119
  t145 := Tryd.underlying121
  a145 := Tryd.isAgg121
  z145 := Tryd.sizeOf121
  v145 := Tryd.zeroValue121
  t167 := Tryd.underlying97
  a167 := Tryd.isAgg97
  z167 := Tryd.sizeOf97
  v167 := Tryd.zeroValue97
  t168 := Tryd.underlying100
  a168 := Tryd.isAgg100
  z168 := Tryd.sizeOf100
  v168 := Tryd.zeroValue100
  t171 := Tryd.underlying72
  a171 := Tryd.isAgg72
  z171 := Tryd.sizeOf72
  v171 := Tryd.zeroValue72
  t173 := Tryd.underlying76
  a173 := Tryd.isAgg76
  z173 := Tryd.sizeOf76
  v173 := Tryd.zeroValue76
  t175 := Tryd.underlying110
  a175 := Tryd.isAgg110
  z175 := Tryd.sizeOf110
  v175 := Tryd.zeroValue110
  t210 := Tryd.underlying114
  a210 := Tryd.isAgg114
  z210 := Tryd.sizeOf114
  v210 := Tryd.zeroValue114
  t212 := Tryd.underlying92
  a212 := Tryd.isAgg92
  z212 := Tryd.sizeOf92
  v212 := Tryd.zeroValue92
  t213 := Tryd.underlying94
  a213 := Tryd.isAgg94
  z213 := Tryd.sizeOf94
  t232 := Tryd.underlying116
  a232 := Tryd.isAgg116
  z232 := Tryd.sizeOf116
  v232 := Tryd.zeroValue116
  t233 := Tryd.underlying117
  a233 := Tryd.isAgg117
  z233 := Tryd.sizeOf117
  v233 := Tryd.zeroValue117
  g15 := by kernel_rfl
  g16 := by kernel_rfl
  g17 := by kernel_rfl
  g18 := by kernel_rfl
  g19 := by kernel_rfl
end Go.Proofs
namespace Go.Proofs.YtgkihbbeimhmbaaDoor
open Go.Sx Go.RowKit Go.Shelf
/-- what strconv.Itoa reads -/
def TabW (w : World) : Prop := Lib.TabIs Tryd.prog w "internal/strconv.uint64pow10" .u64 Lib.pow10Tab
theorem TabW_st : ∀ w w', Below w.heap.size w w' → TabW w → TabW w' := fun _ _ hb h => tabIs_below hb h
/-- what strings.Split reads -/
def MaxW (w : World) : Prop := ∃ m, w.cell? ⟨Tryd.splitA_ren.g 1, 0, none⟩ = some (.int .i64 m)
theorem MaxW_st : ∀ w w', Below w.heap.size w w' → MaxW w → MaxW w' := fun _ _ hb h => someInt_below hb h
theorem extraJ : Builder.Extra Tryd.prog Tryd.joinA_ren where
  sizeBuilder := by kernel_rfl
  liesBuilder := by kernel_rfl
  t5 := by kernel_rfl
  a5 := fun w => by kernel_rfl
  z5 := fun w => by kernel_rfl
  v5 := fun w => by kernel_rfl
  infoByte := by kernel_rfl
  cellsByte := by kernel_rfl
  sizeByte := by kernel_rfl
  neB5 := by decide
theorem ktrim_ok (s cs : ByteArray) (hy1 : s.size ≤ 9223372036854775807) (hy2 : cs.size < 4294967281 ∧ cs.data.toList.all (fun b => decide (b.toNat < 128)) = true) : Fn0 Tryd.prog 46 [.string s, .string cs] (fun _ => True) (.string (Trc.trimT s cs)) := fn0_trim Tryd.trimA (by kernel_rfl) s cs hy1 hy2
theorem kindexAny_ok (s cs : ByteArray) (hy1 : s.size ≤ 2000000000) (hy2 : cs = (ByteArray.mk #[42, 45])) : Fn0 Tryd.prog 33 [.string s, .string cs] (fun _ => True) (.int .i64 (Trc.cutI s)) := fn0_indexAny Tryd.idxanyA (by kernel_rfl) s cs hy1 hy2
theorem kitoa_ok (n : Int) (hy1 : 0 ≤ n ∧ n ≤ 9223372036854775807) : Fn0 Tryd.prog 17 [.int .i64 n] (fun w => TabW w) (.string (Trc.decS n)) := fn0_itoa Tryd.itoaA n hy1
theorem kjoin_ok (l : List ByteArray) (al : Option Addr) (cl : Nat) (sp : ByteArray) (hy1 : (Trc.joinB l sp).size ≤ 140737488355328) : Fn0 Tryd.prog 18 [.slice al l.length cl, .string sp] (fun w => Rd tStr w al cl l) (.string (Trc.joinB l sp)) := fn0_join Tryd.joinA extraJ l al cl sp hy1
theorem katoi_ok (s : ByteArray) (hy1 : Trc.numOk s.data.toList) : Fn0 Tryd.prog 47 [.string s] (fun _ => True) (.tuple #[.int .i64 (Trc.num s), .nilIface]) := fn0_atoi Tryd.atoiA s hy1
theorem ksplit_ok (s sp : ByteArray) (hy1 : s.size < 4294967281) (hy2 : sp = (ByteArray.mk #[32])) : FnM Tryd.prog 19 [.string s, .string sp] (fun w => MaxW w) (Option Addr × Nat) (fun p => .slice p.1 (Trc.words s).length p.2) (fun p S w => SlO tStr S w p.1 p.2 (Trc.words s)) := by subst hy2; exact fnM_split Tryd.splitA (by kernel_rfl) s hy1
end Go.Proofs.YtgkihbbeimhmbaaDoor

/- The walks, printed by a program from the translation and a specification. -/
namespace Go.Proofs.YtgkihbbeimhmbaaDoor
open Go.Sx Go.RowKit
set_option maxHeartbeats 8000000 in
set_option maxRecDepth 100000 in
theorem key_ok (n : Int) : Fn0 Tryd.prog 27 [.int .i64 n] (fun _ => True) (.bool (Lru.okKey n)) := by
  refine fn0 (nt := 9) (F0 := [(0, .int .i64 n)]) Tryd.func27 rfl Tryd.ntmps27 rfl rfl (fun w0 hpre => ?_)
  refine c_seq ?_
  refine c_region ?_
  refine o_pure (p_assign (v := .bool false) rfl) rfl rfl rfl ?_
  refine o_nil ?_
  refine q_then ?_
  refine c_seq ?_
  refine c_region ?_
  refine o_pure (p_move (v := .int .i64 n) rfl) rfl rfl rfl ?_
  refine o_pure (p_ge (p := n) (q := 0) rfl rfl) rfl rfl rfl ?_
  refine o_pure (p_move (v := .bool (decide (0 ≤ n))) rfl) rfl rfl rfl ?_
  refine o_and (p := 8) 3 (decide (n ≤ 1048576)) ?_ ?_ ?_
  · intro hb1 hk
    simp only [decide_eq_true_eq] at hb1
    refine o_unguard 5 rfl rfl ?_
    refine o_pure (p_move (v := .int .i64 n) rfl) rfl rfl rfl ?_
    refine o_unguard 5 rfl rfl ?_
    refine o_pure (p_le (p := n) (q := 1048576) rfl rfl) rfl rfl rfl ?_
    refine o_pure (p_pick_true (u := .bool (decide (n ≤ 1048576))) rfl rfl) rfl rfl rfl ?_
    exact o_sub (Sub.cons rfl (Sub.skip rfl (Sub.skip rfl (Sub.skip rfl (Sub.skip rfl (Sub.refl _)))))) hk
  · intro hb1 hk
    refine o_guard_no rfl 5 rfl rfl rfl rfl rfl ?_
    refine o_guard_no rfl 5 rfl rfl rfl rfl rfl ?_
    refine o_pure (p_pick_false (v := .bool false) rfl rfl) rfl rfl rfl ?_
    exact o_sub (Sub.cons rfl (Sub.skip rfl (Sub.skip rfl (Sub.skip rfl (Sub.skip rfl (Sub.refl _)))))) hk
  refine o_pure (p_assign (v := .bool (decide (0 ≤ n) && decide (n ≤ 1048576))) rfl) rfl rfl rfl ?_
  refine o_nil ?_
  refine q_then ?_
  refine c_ret ?_
  have hr0 : ((decide (0 ≤ n) && decide (n ≤ 1048576)) : Bool) = (Lru.okKey n) := by
    rfl
  refine q_end0 (v := .bool (decide (0 ≤ n) && decide (n ≤ 1048576))) (rt1 rfl (r_tmp rfl)) (i := 0) rfl ?_
  exact (by have hcc := congrArg (fun (y0 : Bool) => (.bool y0 : Value)) hr0; exact hcc)

set_option maxHeartbeats 8000000 in
set_option maxRecDepth 100000 in
theorem checkTrace1_ok (key : Int) : Fn0 Tryd.prog 26 [.int .i64 key] (fun _ => True) (.bool (!Lru.okKey key)) := by
  refine fn0 (nt := 6) (F0 := [(0, .int .i64 key)]) Tryd.func26 rfl Tryd.ntmps26 rfl rfl (fun w0 hpre => ?_)
  refine c_seq ?_
  refine c_region ?_
  refine o_pure (p_assign (v := .bool false) rfl) rfl rfl rfl ?_
  refine o_nil ?_
  refine q_then ?_
  refine c_seq ?_
  refine c_region ?_
  refine o_pure (p_move (v := .int .i64 key) rfl) rfl rfl rfl ?_
  refine o_call0 (v := .bool (Lru.okKey key)) rfl (key_ok key) hf27 (fun _ _ => trivial) rfl ?_
  refine o_pure (p_not (b := (Lru.okKey key)) rfl) rfl rfl rfl ?_
  refine o_pure (p_assign (v := .bool (!(Lru.okKey key))) rfl) rfl rfl rfl ?_
  refine o_nil ?_
  refine q_then ?_
  refine c_ret ?_
  have hr0 : ((!(Lru.okKey key)) : Bool) = (!Lru.okKey key) := by
    rfl
  refine q_end0 (v := .bool (!(Lru.okKey key))) (rt1 rfl (r_tmp rfl)) (i := 0) rfl ?_
  exact (by have hcc := congrArg (fun (y0 : Bool) => (.bool y0 : Value)) hr0; exact hcc)

set_option maxHeartbeats 8000000 in
set_option maxRecDepth 100000 in
theorem indexFunc_Int_ok (l : List Int) (al : Option Addr) (cl : Nat) (gf : FuncId) (kf : List Value) (f : Int → Bool) (Pf : World → Prop) (stf : ∀ w w', Below w.heap.size w w' → Pf w → Pf w') (okf : ∀ (x : Int), Fn0 Tryd.prog gf (.int .i64 x :: kf) Pf (.bool (f x))) (hpf : HasFn Tryd.prog gf) : Fn0 Tryd.prog 35 [.slice al l.length cl, .func (.func gf) #[] kf.toArray] (fun w => Rd tInt w al cl l ∧ Pf w) (.int .i64 (idxF f l)) := by
  refine fn0 (nt := 19) (F0 := [(0, .slice al l.length cl), (1, .func (.func gf) #[] kf.toArray)]) Tryd.func35 rfl Tryd.ntmps35 rfl rfl (fun w0 hpre => ?_)
  obtain ⟨hl, hf⟩ := hpre
  have hlhl := hl.2.1
  refine c_seq ?_
  refine c_region ?_
  refine o_pure (p_assign (v := .int .i64 0) rfl) rfl rfl rfl ?_
  refine o_nil ?_
  refine q_then ?_
  refine c_seq ?_
  refine c_seq ?_
  refine c_region ?_
  refine o_pure (p_move (v := .slice al l.length cl) rfl) rfl rfl rfl ?_
  refine o_pure (p_len_slice (len := l.length) rfl rfl Tryd.underlying22) rfl rfl rfl ?_
  refine o_pure (p_move (v := .int .i64 0) rfl) rfl rfl rfl ?_
  refine o_nil ?_
  refine q_then ?_
  refine c_block ?_
  refine c_loop (St := Nat)
    (fun k => [(0, .slice al l.length cl), (1, .func (.func gf) #[] kf.toArray), (7, .int .i64 (l.length : Int)), (8, .int .i64 (k : Int))])
    (fun k => [base w0])
    (fun k => k ≤ l.length ∧ ∀ j (h : j < l.length), j < k → f l[j] = false)
    (fun k => l.length - k)
    0 ?_ (Sub.cons rfl (Sub.cons rfl (Sub.cons rfl (Sub.cons rfl (Sub.nil _))))) (fun _ hw => hw) ?_
  · exact ⟨Nat.zero_le _, fun j _ h => absurd h (by omega)⟩
  rintro k hI K hK1
  obtain ⟨hI1, hI2⟩ := hI
  show SC _ _ Tryd.prog 19 w0 _ _ [(0, .slice al l.length cl), (1, .func (.func gf) #[] kf.toArray), (7, .int .i64 (l.length : Int)), (8, .int .i64 (k : Int))] [base w0]
  refine c_seq ?_
  refine c_region ?_
  refine o_pure (p_lt (p := (k : Int)) (q := (l.length : Int)) rfl rfl) rfl rfl rfl ?_
  refine o_nil ?_
  refine q_then ?_
  refine c_seq ?_
  refine c_cond (b := decide ((k : Int) < (l.length : Int))) rfl (fun hc2 => ?_) (fun hc2 => ?_)
  · simp only [decide_eq_true_eq] at hc2
    refine c_skip ?_
    refine q_then ?_
    refine c_seq ?_
    refine c_block ?_
    refine c_seq ?_
    refine c_region ?_
    refine o_pure (p_move (v := .int .i64 (k : Int)) rfl) rfl rfl rfl ?_
    refine o_pure (p_assign (v := .int .i64 (k : Int)) rfl) rfl rfl rfl ?_
    refine o_nil ?_
    refine q_then ?_
    refine c_seq ?_
    refine c_region ?_
    refine o_pure (p_move (v := .func (.func gf) #[] kf.toArray) rfl) rfl rfl rfl ?_
    refine o_pure (p_move (v := .slice al l.length cl) rfl) rfl rfl rfl ?_
    refine o_pure (p_move (v := .int .i64 (k : Int)) rfl) rfl rfl rfl ?_
    refine o_pure (p_indexAddr (L := l) (T := tInt) (i := (k : Int)) rfl rfl (rd_base (i := 0) rfl hl) Tryd.underlying22 sz3 (by omega) (by omega)) rfl rfl rfl ?_
    refine o_pure (p_loadE1 (i := k) (T := tInt) (L := l) (v := .int .i64 (l[k])) rfl (rd_base (i := 0) rfl hl) (by first | assumption | omega) sh3 rfl) rfl rfl rfl ?_
    refine o_call0V (vs := [.int .i64 (l[k])]) (caps := kf) (v := .bool (f (l[k]))) rfl rfl (okf (l[k])) hpf (pre_base (i := 0) rfl stf hf) rfl ?_
    refine o_nil ?_
    refine q_then ?_
    refine c_cond (b := (f (l[k]))) rfl (fun hc3 => ?_) (fun hc3 => ?_)
    · skip
      refine c_seq ?_
      refine c_region ?_
      refine o_pure (p_move (v := .int .i64 (k : Int)) rfl) rfl rfl rfl ?_
      refine o_pure (p_assign (v := .int .i64 (k : Int)) rfl) rfl rfl rfl ?_
      refine o_nil ?_
      refine q_then ?_
      refine c_ret ?_
      refine q_block_ret (q_then_ret (q_then_ret (q_block_ret (q_then_ret ?_))))
      have hr0 : ((k : Int) : Int) = (idxF f l) := by
        first | exact idxF_found (by omega) (by assumption) hI2 | exact idxF_none (fun j h => hI2 j h (by omega))
      refine q_end0 (v := .int .i64 (k : Int)) (rt1 rfl (r_tmp rfl)) (i := 0) rfl ?_
      exact (by have hcc := congrArg (fun (y0 : Int) => (.int .i64 y0 : Value)) hr0; exact hcc)
    · skip
      refine c_skip ?_
      refine q_block_normal (q_then ?_)
      refine c_region ?_
      refine o_pure (p_addb (p := (k : Int)) (q := 1) rfl rfl (by omega)) rfl rfl rfl ?_
      refine o_pure (p_move (v := .int .i64 ((k : Int) + 1)) rfl) rfl rfl rfl ?_
      refine o_nil ?_
      refine q_round hK1 (k + 1) ?_ ?_ ?_ ?_
      · clear hK1
        refine ⟨by omega, fun j h h2 => ?_⟩
        by_cases e : j = k
        · subst e; assumption
        · exact hI2 j h (by omega)
      · (try dsimp only); omega
      · exact Sub.cons rfl (Sub.cons rfl (Sub.cons rfl (Sub.cons rfl (Sub.nil _))))
      · exact fun _ hw => HeapIs.pick hw [0] (by decide) rfl
  · simp only [decide_eq_false_iff_not, Int.not_lt] at hc2
    refine c_exit ?_
    refine q_then_exit (q_then_exit (q_block_exit (q_then ?_)))
    refine c_seq ?_
    refine c_region ?_
    refine o_pure (p_assign (v := .int .i64 (-1)) rfl) rfl rfl rfl ?_
    refine o_nil ?_
    refine q_then ?_
    refine c_ret ?_
    have hr0 : ((-1) : Int) = (idxF f l) := by
      first | exact idxF_found (by omega) (by assumption) hI2 | exact idxF_none (fun j h => hI2 j h (by omega))
    refine q_end0 (v := .int .i64 (-1)) (rt1 rfl (r_tmp rfl)) (i := 0) rfl ?_
    exact (by have hcc := congrArg (fun (y0 : Int) => (.int .i64 y0 : Value)) hr0; exact hcc)

set_option maxHeartbeats 8000000 in
set_option maxRecDepth 100000 in
theorem containsFunc_Int_ok (l : List Int) (al : Option Addr) (cl : Nat) (gf : FuncId) (kf : List Value) (f : Int → Bool) (Pf : World → Prop) (stf : ∀ w w', Below w.heap.size w w' → Pf w → Pf w') (okf : ∀ (x : Int), Fn0 Tryd.prog gf (.int .i64 x :: kf) Pf (.bool (f x))) (hpf : HasFn Tryd.prog gf) : Fn0 Tryd.prog 25 [.slice al l.length cl, .func (.func gf) #[] kf.toArray] (fun w => Rd tInt w al cl l ∧ Pf w) (.bool (l.any f)) := by
  refine fn0 (nt := 9) (F0 := [(0, .slice al l.length cl), (1, .func (.func gf) #[] kf.toArray)]) Tryd.func25 rfl Tryd.ntmps25 rfl rfl (fun w0 hpre => ?_)
  obtain ⟨hl, hf⟩ := hpre
  have hlhl := hl.2.1
  refine c_seq ?_
  refine c_region ?_
  refine o_pure (p_assign (v := .bool false) rfl) rfl rfl rfl ?_
  refine o_nil ?_
  refine q_then ?_
  refine c_seq ?_
  refine c_region ?_
  refine o_pure (p_move (v := .slice al l.length cl) rfl) rfl rfl rfl ?_
  refine o_pure (p_move (v := .func (.func gf) #[] kf.toArray) rfl) rfl rfl rfl ?_
  refine o_call0 (v := .int .i64 (idxF f l)) rfl (indexFunc_Int_ok l al cl gf kf f Pf stf okf hpf) hf35 (fun w hw => ⟨(rd_base (i := 0) rfl hl) w hw, pre_base (i := 0) rfl stf hf w hw⟩) rfl ?_
  refine o_pure (p_ge (p := (idxF f l)) (q := 0) rfl rfl) rfl rfl rfl ?_
  refine o_pure (p_assign (v := .bool (decide (0 ≤ (idxF f l)))) rfl) rfl rfl rfl ?_
  refine o_nil ?_
  refine q_then ?_
  refine c_ret ?_
  have hr0 : (decide (0 ≤ (idxF f l)) : Bool) = (l.any f) := by
    exact (any_idxF f l).symm
  refine q_end0 (v := .bool (decide (0 ≤ (idxF f l)))) (rt1 rfl (r_tmp rfl)) (i := 0) rfl ?_
  exact (by have hcc := congrArg (fun (y0 : Bool) => (.bool y0 : Value)) hr0; exact hcc)

set_option maxHeartbeats 8000000 in
set_option maxRecDepth 100000 in
theorem checkTrace_ok (l : List Int) (al : Option Addr) (cl : Nat) : Fn0 Tryd.prog 15 [.slice al l.length cl] (fun w => Rd tInt w al cl l) (.int .i64 (Lru.trace l)) := by
  refine fn0 (nt := 10) (F0 := [(0, .slice al l.length cl)]) Tryd.func15 rfl Tryd.ntmps15 rfl rfl (fun w0 hpre => ?_)
  have hl := hpre
  have hlhl := hl.2.1
  refine c_seq ?_
  refine c_region ?_
  refine o_pure (p_assign (v := .int .i64 0) rfl) rfl rfl rfl ?_
  refine o_nil ?_
  refine q_then ?_
  refine c_seq ?_
  refine c_block ?_
  refine c_seq ?_
  refine c_region ?_
  refine o_pure (p_move (v := .slice al l.length cl) rfl) rfl rfl rfl ?_
  refine o_pure (p_len_slice (len := l.length) rfl rfl Tryd.underlying22) rfl rfl rfl ?_
  refine o_pure (p_gt (p := (l.length : Int)) (q := 200) rfl rfl) rfl rfl rfl ?_
  refine o_pure (p_assign (v := .bool (decide (200 < (l.length : Int)))) rfl) rfl rfl rfl ?_
  refine o_nil ?_
  refine q_then ?_
  refine c_cond (b := decide (200 < (l.length : Int))) rfl (fun hc1 => ?_) (fun hc1 => ?_)
  · simp only [decide_eq_true_eq] at hc1
    refine c_seq ?_
    refine c_region ?_
    refine o_pure (p_assign (v := .int .i64 2) rfl) rfl rfl rfl ?_
    refine o_nil ?_
    refine q_then ?_
    refine c_ret ?_
    refine q_block_ret (q_then_ret ?_)
    have hr0 : (2 : Int) = (Lru.trace l) := by
      first | exact (Lru.trace_many (by assumption)).symm | exact (Lru.trace_bad (by omega) (by assumption)).symm | exact (Lru.trace_fine (by omega) (by assumption)).symm
    refine q_end0 (v := .int .i64 2) (rt1 rfl (r_tmp rfl)) (i := 0) rfl ?_
    exact (by have hcc := congrArg (fun (y0 : Int) => (.int .i64 y0 : Value)) hr0; exact hcc)
  · simp only [decide_eq_false_iff_not, Int.not_lt] at hc1
    refine c_seq ?_
    refine c_region ?_
    refine o_pure (p_move (v := .slice al l.length cl) rfl) rfl rfl rfl ?_
    refine o_call0 (v := .bool (l.any (fun x : Int => (!Lru.okKey x)))) rfl (containsFunc_Int_ok l al cl 26 [] (fun x => (!Lru.okKey x)) (fun _ => True) (fun _ _ _ h => h) (fun x => checkTrace1_ok x) hf26) hf25 (fun w hw => ⟨(rd_base (i := 0) rfl hl) w hw, trivial⟩) rfl ?_
    refine o_pure (p_assign (v := .bool (l.any (fun x : Int => (!Lru.okKey x)))) rfl) rfl rfl rfl ?_
    refine o_nil ?_
    refine q_then ?_
    refine c_cond (b := (l.any (fun x : Int => (!Lru.okKey x)))) rfl (fun hc2 => ?_) (fun hc2 => ?_)
    · skip
      refine c_seq ?_
      refine c_region ?_
      refine o_pure (p_assign (v := .int .i64 3) rfl) rfl rfl rfl ?_
      refine o_nil ?_
      refine q_then ?_
      refine c_ret ?_
      refine q_block_ret (q_then_ret ?_)
      have hr0 : (3 : Int) = (Lru.trace l) := by
        first | exact (Lru.trace_many (by assumption)).symm | exact (Lru.trace_bad (by omega) (by assumption)).symm | exact (Lru.trace_fine (by omega) (by assumption)).symm
      refine q_end0 (v := .int .i64 3) (rt1 rfl (r_tmp rfl)) (i := 0) rfl ?_
      exact (by have hcc := congrArg (fun (y0 : Int) => (.int .i64 y0 : Value)) hr0; exact hcc)
    · skip
      refine c_skip ?_
      refine q_block_normal (q_then ?_)
      refine c_seq ?_
      refine c_region ?_
      refine o_pure (p_assign (v := .int .i64 0) rfl) rfl rfl rfl ?_
      refine o_nil ?_
      refine q_then ?_
      refine c_ret ?_
      have hr0 : (0 : Int) = (Lru.trace l) := by
        first | exact (Lru.trace_many (by assumption)).symm | exact (Lru.trace_bad (by omega) (by assumption)).symm | exact (Lru.trace_fine (by omega) (by assumption)).symm
      refine q_end0 (v := .int .i64 0) (rt1 rfl (r_tmp rfl)) (i := 0) rfl ?_
      exact (by have hcc := congrArg (fun (y0 : Int) => (.int .i64 y0 : Value)) hr0; exact hcc)

set_option maxHeartbeats 8000000 in
set_option maxRecDepth 100000 in
theorem trun_ok (l : List Int) (al : Option Addr) (cl : Nat) (by_ : Int) (hy1 : l ≠ [] ∧ (∀ k ∈ l, Lru.okKey k = true) ∧ (by_ = 0 ∨ by_ = 1)) : Fn0 Tryd.prog 16 [.slice al l.length cl, .int .i64 by_] (fun w => Rd tInt w al cl l) (.int .i64 (Trc.run by_ l : Int)) := by
  refine fn0 (nt := 27) (F0 := [(0, .slice al l.length cl), (1, .int .i64 by_)]) Tryd.func16 rfl Tryd.ntmps16 rfl rfl (fun w0 hpre => ?_)
  have hl := hpre
  have hlhl := hl.2.1
  refine c_seq ?_
  refine c_region ?_
  refine o_pure (p_assign (v := .int .i64 0) rfl) rfl rfl rfl ?_
  refine o_nil ?_
  refine q_then ?_
  refine c_seq ?_
  refine c_region ?_
  refine o_pure (p_assign (v := .int .i64 1) rfl) rfl rfl rfl ?_
  refine o_nil ?_
  refine q_then ?_
  refine c_seq ?_
  refine c_block ?_
  refine c_loop (St := Nat)
    (fun n => [(0, .slice al l.length cl), (1, .int .i64 by_), (5, .int .i64 (n : Int))])
    (fun n => [base w0])
    (fun n => Trc.RI l by_ n)
    (fun n => l.length - n)
    1 ?_ (Sub.cons rfl (Sub.cons rfl (Sub.cons rfl (Sub.nil _)))) (fun _ hw => hw) ?_
  · exact Trc.RI.start hy1.1 _
  rintro n hI K hK1
  have hn1 := hI.pos
  have hn2 := hI.le
  have hkb := Trc.key_bd (l := l) hy1.2.1 ((n : Int) - 1).toNat
  show SC _ _ Tryd.prog 27 w0 _ _ [(0, .slice al l.length cl), (1, .int .i64 by_), (5, .int .i64 (n : Int))] [base w0]
  refine c_seq ?_
  refine c_seq ?_
  refine c_draw hmix (by kernel_rfl) ?_
  refine w_pure (p_move (v := .int .i64 (n : Int)) rfl) rfl rfl rfl ?_
  refine w_pure (p_move (v := .slice al l.length cl) rfl) rfl rfl rfl ?_
  refine w_pure (p_len_slice (len := l.length) rfl rfl Tryd.underlying22) rfl rfl rfl ?_
  refine w_pure (p_lt (p := (n : Int)) (q := (l.length : Int)) rfl rfl) rfl rfl rfl ?_
  refine w_pure (p_move (v := .bool (decide ((n : Int) < (l.length : Int)))) rfl) rfl rfl rfl ?_
  refine w_and (p := 23) 13 ((l.getD n default) == ((l.getD (((n : Int) - 1).toNat) default) + by_)) ?_ ?_ ?_
  · intro hb2 hk
    simp only [decide_eq_true_eq] at hb2
    refine w_unguard 10 rfl rfl ?_
    refine w_pure (p_move (v := .slice al l.length cl) rfl) rfl rfl rfl ?_
    refine w_unguard 10 rfl rfl ?_
    refine w_pure (p_move (v := .int .i64 (n : Int)) rfl) rfl rfl rfl ?_
    refine w_unguard 10 rfl rfl ?_
    refine w_pure (p_indexAddr (L := l) (T := tInt) (i := (n : Int)) rfl rfl (rd_base (i := 0) rfl hl) Tryd.underlying22 sz3 (by omega) (by omega)) rfl rfl rfl ?_
    refine w_unguard 10 rfl rfl ?_
    refine w_pure (p_loadE1 (i := n) (T := tInt) (L := l) (v := .int .i64 (l.getD n default)) rfl (rd_base (i := 0) rfl hl) (by first | assumption | omega) sh3 (congrArg tInt.enc (getd_at (by first | assumption | omega) default))) rfl rfl rfl ?_
    refine w_unguard 10 rfl rfl ?_
    refine w_pure (p_move (v := .slice al l.length cl) rfl) rfl rfl rfl ?_
    refine w_unguard 10 rfl rfl ?_
    refine w_pure (p_move (v := .int .i64 (n : Int)) rfl) rfl rfl rfl ?_
    refine w_unguard 10 rfl rfl ?_
    refine w_pure (p_subb (p := (n : Int)) (q := 1) rfl rfl (by omega)) rfl rfl rfl ?_
    refine w_unguard 10 rfl rfl ?_
    refine w_pure (p_indexAddr (L := l) (T := tInt) (i := ((n : Int) - 1)) rfl rfl (rd_base (i := 0) rfl hl) Tryd.underlying22 sz3 (by omega) (by omega)) rfl rfl rfl ?_
    refine w_unguard 10 rfl rfl ?_
    refine w_pure (p_loadE1 (i := ((n : Int) - 1).toNat) (T := tInt) (L := l) (v := .int .i64 (l.getD (((n : Int) - 1).toNat) default)) rfl (rd_base (i := 0) rfl hl) (by first | assumption | omega) sh3 (congrArg tInt.enc (getd_at (by first | assumption | omega) default))) rfl rfl rfl ?_
    refine w_unguard 10 rfl rfl ?_
    refine w_pure (p_move (v := .int .i64 by_) rfl) rfl rfl rfl ?_
    refine w_unguard 10 rfl rfl ?_
    refine w_pure (p_addb (p := (l.getD (((n : Int) - 1).toNat) default)) (q := by_) rfl rfl (by omega)) rfl rfl rfl ?_
    refine w_unguard 10 rfl rfl ?_
    refine w_pure (p_eq (p := (l.getD n default)) (q := ((l.getD (((n : Int) - 1).toNat) default) + by_)) rfl rfl) rfl rfl rfl ?_
    refine w_pure (p_pick_true (u := .bool ((l.getD n default) == ((l.getD (((n : Int) - 1).toNat) default) + by_))) rfl rfl) rfl rfl rfl ?_
    exact w_sub (Sub.cons rfl (Sub.skip rfl (Sub.skip rfl (Sub.skip rfl (Sub.skip rfl (Sub.skip rfl (Sub.skip rfl (Sub.skip rfl (Sub.skip rfl (Sub.skip rfl (Sub.skip rfl (Sub.skip rfl (Sub.skip rfl (Sub.skip rfl (Sub.skip rfl (Sub.refl _)))))))))))))))) hk
  · intro hb2 hk
    refine w_guard_no rfl 10 rfl rfl rfl rfl rfl ?_
    refine w_guard_no rfl 10 rfl rfl rfl rfl rfl ?_
    refine w_guard_no rfl 10 rfl rfl rfl rfl rfl ?_
    refine w_guard_no rfl 10 rfl rfl rfl rfl rfl ?_
    refine w_guard_no rfl 10 rfl rfl rfl rfl rfl ?_
    refine w_guard_no rfl 10 rfl rfl rfl rfl rfl ?_
    refine w_guard_no rfl 10 rfl rfl rfl rfl rfl ?_
    refine w_guard_no rfl 10 rfl rfl rfl rfl rfl ?_
    refine w_guard_no rfl 10 rfl rfl rfl rfl rfl ?_
    refine w_guard_no rfl 10 rfl rfl rfl rfl rfl ?_
    refine w_guard_no rfl 10 rfl rfl rfl rfl rfl ?_
    refine w_guard_no rfl 10 rfl rfl rfl rfl rfl ?_
    refine w_pure (p_pick_false (v := .bool false) rfl rfl) rfl rfl rfl ?_
    exact w_sub (Sub.cons rfl (Sub.skip rfl (Sub.skip rfl (Sub.skip rfl (Sub.skip rfl (Sub.skip rfl (Sub.skip rfl (Sub.skip rfl (Sub.skip rfl (Sub.skip rfl (Sub.skip rfl (Sub.skip rfl (Sub.skip rfl (Sub.skip rfl (Sub.skip rfl (Sub.refl _)))))))))))))))) hk
  refine w_nil ?_
  refine q_then ?_
  refine c_cond (b := (decide ((n : Int) < (l.length : Int)) && ((l.getD n default) == ((l.getD (((n : Int) - 1).toNat) default) + by_)))) rfl (fun hc3 => ?_) (fun hc3 => ?_)
  · simp only [Bool.and_eq_true, decide_eq_true_eq, beq_iff_eq] at hc3
    have hst := hc3
    refine c_skip ?_
    refine q_then ?_
    refine c_block ?_
    refine c_region ?_
    refine o_pure (p_move (v := .int .i64 (n : Int)) rfl) rfl rfl rfl ?_
    refine o_pure (p_addb (p := (n : Int)) (q := 1) rfl rfl (by omega)) rfl rfl rfl ?_
    refine o_pure (p_assign (v := .int .i64 ((n : Int) + 1)) rfl) rfl rfl rfl ?_
    refine o_nil ?_
    refine q_block_normal ?_
    refine q_round hK1 (n + 1) ?_ ?_ ?_ ?_
    · clear hK1
      exact hI.next (by omega) hst.2
    · (try dsimp only); omega
    · exact Sub.cons rfl (Sub.cons rfl (Sub.cons rfl (Sub.nil _)))
    · exact fun _ hw => HeapIs.pick hw [0] (by decide) rfl
  · simp only [Bool.and_eq_false_iff, decide_eq_false_iff_not, Int.not_lt, beq_eq_false_iff_ne, ne_eq] at hc3
    have hst := hc3
    refine c_exit ?_
    refine q_then_exit (q_then_exit (q_block_exit (q_then ?_)))
    refine c_seq ?_
    refine c_region ?_
    refine o_pure (p_move (v := .int .i64 (n : Int)) rfl) rfl rfl rfl ?_
    refine o_pure (p_assign (v := .int .i64 (n : Int)) rfl) rfl rfl rfl ?_
    refine o_nil ?_
    refine q_then ?_
    refine c_ret ?_
    have hr0 : ((n : Int) : Int) = (Trc.run by_ l : Int) := by
      exact hI.done hy1.1 hst
    refine q_end0 (v := .int .i64 (n : Int)) (rt1 rfl (r_tmp rfl)) (i := 0) rfl ?_
    exact (by have hcc := congrArg (fun (y0 : Int) => (.int .i64 y0 : Value)) hr0; exact hcc)

set_option maxHeartbeats 8000000 in
set_option maxRecDepth 100000 in
theorem tnumber_ok (s : ByteArray) (hy1 : s.size ≤ 2000000000) : Fn0 Tryd.prog 34 [.string s] (fun _ => True) (.int .i64 (Trc.num s)) := by
  refine fn0 (nt := 33) (F0 := [(0, .string s)]) Tryd.func34 rfl Tryd.ntmps34 rfl rfl (fun w0 hpre => ?_)
  refine c_seq ?_
  refine c_region ?_
  refine o_pure (p_assign (v := .int .i64 0) rfl) rfl rfl rfl ?_
  refine o_nil ?_
  refine q_then ?_
  refine c_seq ?_
  refine c_seq ?_
  refine c_region ?_
  refine o_pure (p_move (v := .string s) rfl) rfl rfl rfl ?_
  refine o_pure (p_eqStr (s := s) (t := (ByteArray.mk #[])) rfl rfl) rfl rfl rfl ?_
  refine o_pure (p_move (v := .bool (decide (s = (ByteArray.mk #[])))) rfl) rfl rfl rfl ?_
  refine o_or (p := 11) 4 (decide (7 < (s.size : Int))) ?_ ?_ ?_
  · intro hb1 hk
    simp only [decide_eq_false_iff_not] at hb1
    refine o_unguard 7 rfl rfl ?_
    refine o_pure (p_move (v := .string s) rfl) rfl rfl rfl ?_
    refine o_unguard 7 rfl rfl ?_
    refine o_pure (p_len_string rfl rfl Tryd.underlying9) rfl rfl rfl ?_
    refine o_unguard 7 rfl rfl ?_
    refine o_pure (p_gt (p := (s.size : Int)) (q := 7) rfl rfl) rfl rfl rfl ?_
    refine o_pure (p_pick_false (v := .bool (decide (7 < (s.size : Int)))) rfl rfl) rfl rfl rfl ?_
    exact o_sub (Sub.cons rfl (Sub.skip rfl (Sub.skip rfl (Sub.skip rfl (Sub.skip rfl (Sub.skip rfl (Sub.refl _))))))) hk
  · intro hb1 hk
    refine o_guard_no rfl 7 rfl rfl rfl rfl rfl ?_
    refine o_guard_no rfl 7 rfl rfl rfl rfl rfl ?_
    refine o_guard_no rfl 7 rfl rfl rfl rfl rfl ?_
    refine o_pure (p_pick_true (u := .bool true) rfl rfl) rfl rfl rfl ?_
    exact o_sub (Sub.cons rfl (Sub.skip rfl (Sub.skip rfl (Sub.skip rfl (Sub.skip rfl (Sub.skip rfl (Sub.refl _))))))) hk
  refine o_pure (p_move (v := .bool (decide (s = (ByteArray.mk #[])) || decide (7 < (s.size : Int)))) rfl) rfl rfl rfl ?_
  refine o_or (p := 21) 9 (decide (1 < (s.size : Int)) && (((byteAt s 0).toNat : Int) == 48)) ?_ ?_ ?_
  · intro hb2 hk
    simp only [Bool.or_eq_false_iff, decide_eq_false_iff_not, Int.not_lt] at hb2
    refine o_unguard 12 rfl rfl ?_
    refine o_pure (p_move (v := .string s) rfl) rfl rfl rfl ?_
    refine o_unguard 12 rfl rfl ?_
    refine o_pure (p_len_string rfl rfl Tryd.underlying9) rfl rfl rfl ?_
    refine o_unguard 12 rfl rfl ?_
    refine o_pure (p_gt (p := (s.size : Int)) (q := 1) rfl rfl) rfl rfl rfl ?_
    refine o_unguard 12 rfl rfl ?_
    refine o_pure (p_move (v := .bool (decide (1 < (s.size : Int)))) rfl) rfl rfl rfl ?_
    refine o_and (p := 20) 4 (((byteAt s 0).toNat : Int) == 48) ?_ ?_ ?_
    · intro hb3 hk
      simp only [decide_eq_true_eq] at hb3
      refine o_unguard 16 rfl rfl ?_
      refine o_pure (p_move (v := .string s) rfl) rfl rfl rfl ?_
      refine o_unguard 16 rfl rfl ?_
      refine o_pure (p_indexStr (z := 0) (i := 0) rfl rfl Tryd.underlying9 rfl (by omega)) rfl rfl rfl ?_
      refine o_unguard 16 rfl rfl ?_
      refine o_pure (p_eq (p := ((byteAt s 0).toNat : Int)) (q := 48) rfl rfl) rfl rfl rfl ?_
      refine o_unguard 12 rfl rfl ?_
      refine o_pure (p_pick_true (u := .bool (((byteAt s 0).toNat : Int) == 48)) rfl rfl) rfl rfl rfl ?_
      exact o_sub (Sub.cons rfl (Sub.skip rfl (Sub.skip rfl (Sub.skip rfl (Sub.skip rfl (Sub.skip rfl (Sub.refl _))))))) hk
    · intro hb3 hk
      refine o_guard_no rfl 16 rfl rfl rfl rfl rfl ?_
      refine o_guard_no rfl 16 rfl rfl rfl rfl rfl ?_
      refine o_guard_no rfl 16 rfl rfl rfl rfl rfl ?_
      refine o_unguard 12 rfl rfl ?_
      refine o_pure (p_pick_false (v := .bool false) rfl rfl) rfl rfl rfl ?_
      exact o_sub (Sub.cons rfl (Sub.skip rfl (Sub.skip rfl (Sub.skip rfl (Sub.skip rfl (Sub.skip rfl (Sub.refl _))))))) hk
    refine o_pure (p_pick_false (v := .bool (decide (1 < (s.size : Int)) && (((byteAt s 0).toNat : Int) == 48))) rfl rfl) rfl rfl rfl ?_
    exact o_sub (Sub.cons rfl (Sub.skip rfl (Sub.skip rfl (Sub.skip rfl (Sub.skip rfl (Sub.skip rfl (Sub.skip rfl (Sub.refl _)))))))) hk
  · intro hb2 hk
    refine o_guard_no rfl 12 rfl rfl rfl rfl rfl ?_
    refine o_guard_no rfl 12 rfl rfl rfl rfl rfl ?_
    refine o_guard_no rfl 12 rfl rfl rfl rfl rfl ?_
    refine o_guard_no rfl 12 rfl rfl rfl rfl rfl ?_
    refine o_guard_no rfl 16 rfl rfl rfl rfl rfl ?_
    refine o_guard_no rfl 16 rfl rfl rfl rfl rfl ?_
    refine o_guard_no rfl 16 rfl rfl rfl rfl rfl ?_
    refine o_guard_no rfl 12 rfl rfl rfl rfl rfl ?_
    refine o_pure (p_pick_true (u := .bool true) rfl rfl) rfl rfl rfl ?_
    exact o_sub (Sub.cons rfl (Sub.skip rfl (Sub.skip rfl (Sub.skip rfl (Sub.skip rfl (Sub.skip rfl (Sub.skip rfl (Sub.skip rfl (Sub.skip rfl (Sub.skip rfl (Sub.skip rfl (Sub.refl _)))))))))))) hk
  refine o_pure (p_move (v := .bool ((decide (s = (ByteArray.mk #[])) || decide (7 < (s.size : Int))) || (decide (1 < (s.size : Int)) && (((byteAt s 0).toNat : Int) == 48)))) rfl) rfl rfl rfl ?_
  refine o_or (p := 26) 4 (!decide ((Trc.trimT s (ByteArray.mk #[48, 49, 50, 51, 52, 53, 54, 55, 56, 57])) = (ByteArray.mk #[]))) ?_ ?_ ?_
  · intro hb4 hk
    simp only [Bool.or_eq_false_iff, decide_eq_false_iff_not, Int.not_lt, Bool.and_eq_false_iff, beq_eq_false_iff_ne, ne_eq] at hb4
    refine o_unguard 22 rfl rfl ?_
    refine o_pure (p_move (v := .string s) rfl) rfl rfl rfl ?_
    refine o_unguard 22 rfl rfl ?_
    refine o_call0 (v := .string (Trc.trimT s (ByteArray.mk #[48, 49, 50, 51, 52, 53, 54, 55, 56, 57]))) rfl (ktrim_ok s (ByteArray.mk #[48, 49, 50, 51, 52, 53, 54, 55, 56, 57]) (by omega) (by decide)) hf46 (fun _ _ => trivial) rfl ?_
    refine o_unguard 22 rfl rfl ?_
    refine o_pure (p_neStr (s := (Trc.trimT s (ByteArray.mk #[48, 49, 50, 51, 52, 53, 54, 55, 56, 57]))) (t := (ByteArray.mk #[])) rfl rfl) rfl rfl rfl ?_
    refine o_pure (p_pick_false (v := .bool (!decide ((Trc.trimT s (ByteArray.mk #[48, 49, 50, 51, 52, 53, 54, 55, 56, 57])) = (ByteArray.mk #[])))) rfl rfl) rfl rfl rfl ?_
    exact o_sub (Sub.cons rfl (Sub.skip rfl (Sub.skip rfl (Sub.skip rfl (Sub.skip rfl (Sub.skip rfl (Sub.refl _))))))) hk
  · intro hb4 hk
    refine o_guard_no rfl 22 rfl rfl rfl rfl rfl ?_
    refine o_guard_no rfl 22 rfl rfl rfl rfl rfl ?_
    refine o_guard_no rfl 22 rfl rfl rfl rfl rfl ?_
    refine o_pure (p_pick_true (u := .bool true) rfl rfl) rfl rfl rfl ?_
    exact o_sub (Sub.cons rfl (Sub.skip rfl (Sub.skip rfl (Sub.skip rfl (Sub.skip rfl (Sub.skip rfl (Sub.refl _))))))) hk
  refine o_nil ?_
  refine q_then ?_
  refine c_cond (b := (((decide (s = (ByteArray.mk #[])) || decide (7 < (s.size : Int))) || (decide (1 < (s.size : Int)) && (((byteAt s 0).toNat : Int) == 48))) || (!decide ((Trc.trimT s (ByteArray.mk #[48, 49, 50, 51, 52, 53, 54, 55, 56, 57])) = (ByteArray.mk #[]))))) rfl (fun hc5 => ?_) (fun hc5 => ?_)
  · simp only [Bool.or_eq_true, decide_eq_true_eq, Bool.and_eq_true, beq_iff_eq, Bool.not_eq_true', decide_eq_false_iff_not] at hc5
    have hbd := hc5
    refine c_seq ?_
    refine c_region ?_
    refine o_pure (p_assign (v := .int .i64 (-1)) rfl) rfl rfl rfl ?_
    refine o_nil ?_
    refine q_then ?_
    refine c_ret ?_
    refine q_then_ret ?_
    have hr0 : ((-1) : Int) = (Trc.num s) := by
      first | rfl | exact Trc.num_bad hbd
    refine q_end0 (v := .int .i64 (-1)) (rt1 rfl (r_tmp rfl)) (i := 0) rfl ?_
    exact (by have hcc := congrArg (fun (y0 : Int) => (.int .i64 y0 : Value)) hr0; exact hcc)
  · simp only [Bool.or_eq_false_iff, decide_eq_false_iff_not, Int.not_lt, Bool.and_eq_false_iff, beq_eq_false_iff_ne, ne_eq, Bool.not_eq_false', decide_eq_true_eq] at hc5
    have hok := Trc.num_cond hc5
    refine c_skip ?_
    refine q_then ?_
    refine c_seq ?_
    refine c_region ?_
    refine o_pure (p_move (v := .string s) rfl) rfl rfl rfl ?_
    refine o_call0 (v := .tuple #[.int .i64 (Trc.num s), .nilIface]) rfl (katoi_ok s (by assumption)) hf47 (fun _ _ => trivial) rfl ?_
    refine o_pure (p_move (v := .tuple #[.int .i64 (Trc.num s), .nilIface]) rfl) rfl rfl rfl ?_
    refine o_pure (p_extract (vs := [.int .i64 (Trc.num s), .nilIface]) (v := .int .i64 (Trc.num s)) rfl rfl) rfl rfl rfl ?_
    refine o_pure (p_extract (vs := [.int .i64 (Trc.num s), .nilIface]) (v := .nilIface) rfl rfl) rfl rfl rfl ?_
    refine o_pure (p_assign (v := .int .i64 (Trc.num s)) rfl) rfl rfl rfl ?_
    refine o_pure (p_assign (v := .nilIface) rfl) rfl rfl rfl ?_
    refine o_nil ?_
    refine q_then ?_
    refine c_seq ?_
    refine c_region ?_
    refine o_pure (p_move (v := .int .i64 (Trc.num s)) rfl) rfl rfl rfl ?_
    refine o_pure (p_assign (v := .int .i64 (Trc.num s)) rfl) rfl rfl rfl ?_
    refine o_nil ?_
    refine q_then ?_
    refine c_ret ?_
    refine q_end0 (v := .int .i64 (Trc.num s)) (rt1 rfl (r_tmp rfl)) (i := 0) rfl ?_
    exact rfl

set_option maxHeartbeats 8000000 in
set_option maxRecDepth 100000 in
theorem tpiece_ok (s : ByteArray) (hy1 : s.size ≤ 2000) : Fn0 Tryd.prog 20 [.string s] (fun _ => True) (.tuple #[.int .i64 (Trc.pKey s), .int .i64 (Trc.pBy s), .int .i64 (Trc.pMany s), .int .i64 (Trc.pErr s)]) := by
  refine fn0 (nt := 77) (F0 := [(0, .string s)]) Tryd.func20 rfl Tryd.ntmps20 rfl rfl (fun w0 hpre => ?_)
  have hcut := Trc.cutI_lt s
  have hng := Trc.num_ge s
  have hnk := Trc.pk_ge s
  have hnm := Trc.pm_ge s
  refine c_seq ?_
  refine c_region ?_
  refine o_pure (p_assign (v := .int .i64 0) rfl) rfl rfl rfl ?_
  refine o_pure (p_assign (v := .int .i64 0) rfl) rfl rfl rfl ?_
  refine o_pure (p_assign (v := .int .i64 0) rfl) rfl rfl rfl ?_
  refine o_pure (p_assign (v := .int .i64 0) rfl) rfl rfl rfl ?_
  refine o_nil ?_
  refine q_then ?_
  refine c_seq ?_
  refine c_region ?_
  refine o_pure (p_move (v := .string s) rfl) rfl rfl rfl ?_
  refine o_call0 (v := .int .i64 (Trc.cutI s)) rfl (kindexAny_ok s (ByteArray.mk #[42, 45]) (by omega) (rfl)) hf33 (fun _ _ => trivial) rfl ?_
  refine o_pure (p_assign (v := .int .i64 (Trc.cutI s)) rfl) rfl rfl rfl ?_
  refine o_nil ?_
  refine q_then ?_
  refine c_seq ?_
  refine c_seq ?_
  refine c_region ?_
  refine o_pure (p_move (v := .int .i64 (Trc.cutI s)) rfl) rfl rfl rfl ?_
  refine o_pure (p_lt (p := (Trc.cutI s)) (q := 0) rfl rfl) rfl rfl rfl ?_
  refine o_nil ?_
  refine q_then ?_
  refine c_join (G := Int × Int)
    (fun ⟨key, many⟩ => [(0, .string s), (2, .int .i64 key), (3, .int .i64 0), (4, .int .i64 many), (6, .int .i64 (Trc.cutI s))])
    (fun ⟨key, many⟩ => [base w0])
    (fun ⟨key, many⟩ => key = Trc.pk s ∧ many = Trc.pm s)
    (fun K hK1 => ?_) ?_
  · refine c_cond (b := decide ((Trc.cutI s) < 0)) rfl (fun hc2 => ?_) (fun hc2 => ?_)
    · simp only [decide_eq_true_eq] at hc2
      refine c_region ?_
      refine o_pure (p_move (v := .string s) rfl) rfl rfl rfl ?_
      refine o_call0 (v := .int .i64 (Trc.num s)) rfl (tnumber_ok s (by first | assumption | omega | (rw [ByteArray.size_extract]; omega))) hf34 (fun _ _ => trivial) rfl ?_
      refine o_pure (p_assign (v := .int .i64 (Trc.num s)) rfl) rfl rfl rfl ?_
      refine o_pure (p_assign (v := .int .i64 1) rfl) rfl rfl rfl ?_
      refine o_nil ?_
      refine q_join hK1 ((Trc.num s), 1) ?_ (Sub.cons rfl (Sub.cons rfl (Sub.cons rfl (Sub.cons rfl (Sub.cons rfl (Sub.nil _)))))) (fun _ hw => HeapIs.pick hw [0] (by decide) rfl)
      clear hK1
      first | exact ⟨(if_pos (by assumption)).symm, (if_pos (by assumption)).symm⟩ | exact Trc.pk_cut (by assumption)
    · simp only [decide_eq_false_iff_not, Int.not_lt] at hc2
      refine c_draw hmix (by kernel_rfl) ?_
      refine w_pure (p_move (v := .string s) rfl) rfl rfl rfl ?_
      refine w_pure (p_move (v := .int .i64 (Trc.cutI s)) rfl) rfl rfl rfl ?_
      refine w_pure (p_sliceStrH (s := s) (h := (Trc.cutI s)) rfl rfl Tryd.underlying9 (by omega) (by omega)) rfl rfl rfl ?_
      refine w_call0 (v := .int .i64 (Trc.num (s.extract 0 ((Trc.cutI s).toNat)))) rfl (tnumber_ok (s.extract 0 ((Trc.cutI s).toNat)) (by first | assumption | omega | (rw [ByteArray.size_extract]; omega))) hf34 (fun _ _ => trivial) rfl ?_
      refine w_pure (p_move (v := .string s) rfl) rfl rfl rfl ?_
      refine w_pure (p_move (v := .int .i64 (Trc.cutI s)) rfl) rfl rfl rfl ?_
      refine w_pure (p_addb (p := (Trc.cutI s)) (q := 1) rfl rfl (by omega)) rfl rfl rfl ?_
      refine w_pure (p_sliceStrL (s := s) (l := ((Trc.cutI s) + 1)) rfl rfl Tryd.underlying9 (by omega) (by omega)) rfl rfl rfl ?_
      refine w_call0 (v := .int .i64 (Trc.num (s.extract (((Trc.cutI s) + 1).toNat) s.size))) rfl (tnumber_ok (s.extract (((Trc.cutI s) + 1).toNat) s.size) (by first | assumption | omega | (rw [ByteArray.size_extract]; omega))) hf34 (fun _ _ => trivial) rfl ?_
      refine w_pure (p_assign (v := .int .i64 (Trc.num (s.extract 0 ((Trc.cutI s).toNat)))) rfl) rfl rfl rfl ?_
      refine w_pure (p_assign (v := .int .i64 (Trc.num (s.extract (((Trc.cutI s) + 1).toNat) s.size))) rfl) rfl rfl rfl ?_
      refine w_nil ?_
      refine q_join hK1 ((Trc.num (s.extract 0 ((Trc.cutI s).toNat))), (Trc.num (s.extract (((Trc.cutI s) + 1).toNat) s.size))) ?_ (Sub.cons rfl (Sub.cons rfl (Sub.cons rfl (Sub.cons rfl (Sub.cons rfl (Sub.nil _)))))) (fun _ hw => HeapIs.pick hw [0] (by decide) rfl)
      clear hK1
      first | exact ⟨(if_pos (by assumption)).symm, (if_pos (by assumption)).symm⟩ | exact Trc.pk_cut (by assumption)
  rintro ⟨key, many⟩ ⟨hjk, hjm⟩
  show SQ _ 77 w0 _ _ [(0, .string s), (2, .int .i64 key), (3, .int .i64 0), (4, .int .i64 many), (6, .int .i64 (Trc.cutI s))] [base w0]
  refine q_then ?_
  refine c_seq ?_
  refine c_block ?_
  refine c_seq ?_
  refine c_region ?_
  refine o_pure (p_move (v := .int .i64 key) rfl) rfl rfl rfl ?_
  refine o_pure (p_lt (p := key) (q := 0) rfl rfl) rfl rfl rfl ?_
  refine o_pure (p_move (v := .bool (decide (key < 0))) rfl) rfl rfl rfl ?_
  refine o_or (p := 29) 3 (decide (many < 0)) ?_ ?_ ?_
  · intro hb3 hk
    simp only [decide_eq_false_iff_not, Int.not_lt] at hb3
    refine o_unguard 26 rfl rfl ?_
    refine o_pure (p_move (v := .int .i64 many) rfl) rfl rfl rfl ?_
    refine o_unguard 26 rfl rfl ?_
    refine o_pure (p_lt (p := many) (q := 0) rfl rfl) rfl rfl rfl ?_
    refine o_pure (p_pick_false (v := .bool (decide (many < 0))) rfl rfl) rfl rfl rfl ?_
    exact o_sub (Sub.cons rfl (Sub.skip rfl (Sub.skip rfl (Sub.skip rfl (Sub.skip rfl (Sub.refl _)))))) hk
  · intro hb3 hk
    refine o_guard_no rfl 26 rfl rfl rfl rfl rfl ?_
    refine o_guard_no rfl 26 rfl rfl rfl rfl rfl ?_
    refine o_pure (p_pick_true (u := .bool true) rfl rfl) rfl rfl rfl ?_
    exact o_sub (Sub.cons rfl (Sub.skip rfl (Sub.skip rfl (Sub.skip rfl (Sub.skip rfl (Sub.refl _)))))) hk
  refine o_pure (p_assign (v := .bool (decide (key < 0) || decide (many < 0))) rfl) rfl rfl rfl ?_
  refine o_nil ?_
  refine q_then ?_
  refine c_cond (b := (decide (key < 0) || decide (many < 0))) rfl (fun hc4 => ?_) (fun hc4 => ?_)
  · simp only [Bool.or_eq_true, decide_eq_true_eq] at hc4
    have hneg := hc4
    refine c_seq ?_
    refine c_region ?_
    refine o_pure (p_assign (v := .int .i64 0) rfl) rfl rfl rfl ?_
    refine o_pure (p_assign (v := .int .i64 0) rfl) rfl rfl rfl ?_
    refine o_pure (p_assign (v := .int .i64 0) rfl) rfl rfl rfl ?_
    refine o_pure (p_assign (v := .int .i64 1) rfl) rfl rfl rfl ?_
    refine o_nil ?_
    refine q_then ?_
    refine c_ret ?_
    refine q_block_ret (q_then_ret ?_)
    obtain ⟨r1, r2, r3, r4⟩ : _ ∧ _ ∧ _ ∧ _ := by first | exact Trc.piece_e1 hjk hjm hneg | exact Trc.piece_e2 hjk hjm hneg (hjb.symm.trans hbb) | exact Trc.piece_e3 hjk hjm hneg (hjb.symm.trans hbb) hda hok | exact Trc.piece_e4 hjk hjm hneg (hjb.symm.trans hbb) hda hok | exact Trc.piece_o1 hjk hjm hneg (hjb.symm.trans hbb) hda hok | exact Trc.piece_o2 hjk hjm hneg (hjb.symm.trans hbb) hda hok
    have hr0 : (0 : Int) = (Trc.pKey s) := by
      exact r1
    have hr1 : (0 : Int) = (Trc.pBy s) := by
      exact r2
    have hr2 : (0 : Int) = (Trc.pMany s) := by
      exact r3
    have hr3 : (1 : Int) = (Trc.pErr s) := by
      exact r4
    refine q_end0 (v := .tuple #[.int .i64 0, .int .i64 0, .int .i64 0, .int .i64 1]) (rt4 rfl (r_tmp rfl) (r_tmp rfl) (r_tmp rfl) (r_tmp rfl)) (i := 0) rfl ?_
    exact (by have hcc := congr (congr (congr (congrArg (fun (y0 : Int) (y1 : Int) (y2 : Int) (y3 : Int) => (.tuple #[.int .i64 y0, .int .i64 y1, .int .i64 y2, .int .i64 y3] : Value)) hr0) hr1) hr2) hr3; exact hcc)
  · simp only [Bool.or_eq_false_iff, decide_eq_false_iff_not, Int.not_lt] at hc4
    have hneg := hc4
    refine c_seq ?_
    refine c_seq ?_
    refine c_region ?_
    refine o_pure (p_move (v := .int .i64 (Trc.cutI s)) rfl) rfl rfl rfl ?_
    refine o_pure (p_ge (p := (Trc.cutI s)) (q := 0) rfl rfl) rfl rfl rfl ?_
    refine o_pure (p_move (v := .bool (decide (0 ≤ (Trc.cutI s)))) rfl) rfl rfl rfl ?_
    refine o_and (p := 38) 5 (((byteAt s ((Trc.cutI s).toNat)).toNat : Int) == 42) ?_ ?_ ?_
    · intro hb5 hk
      simp only [decide_eq_true_eq] at hb5
      refine o_unguard 33 rfl rfl ?_
      refine o_pure (p_move (v := .string s) rfl) rfl rfl rfl ?_
      refine o_unguard 33 rfl rfl ?_
      refine o_pure (p_move (v := .int .i64 (Trc.cutI s)) rfl) rfl rfl rfl ?_
      refine o_unguard 33 rfl rfl ?_
      refine o_pure (p_indexStr (z := (Trc.cutI s)) (i := (Trc.cutI s).toNat) rfl rfl Tryd.underlying9 (by omega) (by omega)) rfl rfl rfl ?_
      refine o_unguard 33 rfl rfl ?_
      refine o_pure (p_eq (p := ((byteAt s ((Trc.cutI s).toNat)).toNat : Int)) (q := 42) rfl rfl) rfl rfl rfl ?_
      refine o_pure (p_pick_true (u := .bool (((byteAt s ((Trc.cutI s).toNat)).toNat : Int) == 42)) rfl rfl) rfl rfl rfl ?_
      exact o_sub (Sub.cons rfl (Sub.skip rfl (Sub.skip rfl (Sub.skip rfl (Sub.skip rfl (Sub.skip rfl (Sub.skip rfl (Sub.refl _)))))))) hk
    · intro hb5 hk
      refine o_guard_no rfl 33 rfl rfl rfl rfl rfl ?_
      refine o_guard_no rfl 33 rfl rfl rfl rfl rfl ?_
      refine o_guard_no rfl 33 rfl rfl rfl rfl rfl ?_
      refine o_guard_no rfl 33 rfl rfl rfl rfl rfl ?_
      refine o_pure (p_pick_false (v := .bool false) rfl rfl) rfl rfl rfl ?_
      exact o_sub (Sub.cons rfl (Sub.skip rfl (Sub.skip rfl (Sub.skip rfl (Sub.skip rfl (Sub.skip rfl (Sub.skip rfl (Sub.refl _)))))))) hk
    refine o_pure (p_move (v := .bool (decide (0 ≤ (Trc.cutI s)) && (((byteAt s ((Trc.cutI s).toNat)).toNat : Int) == 42))) rfl) rfl rfl rfl ?_
    refine o_and (p := 42) 3 (decide (many < 2)) ?_ ?_ ?_
    · intro hb6 hk
      simp only [Bool.and_eq_true, decide_eq_true_eq, beq_iff_eq] at hb6
      refine o_unguard 39 rfl rfl ?_
      refine o_pure (p_move (v := .int .i64 many) rfl) rfl rfl rfl ?_
      refine o_unguard 39 rfl rfl ?_
      refine o_pure (p_lt (p := many) (q := 2) rfl rfl) rfl rfl rfl ?_
      refine o_pure (p_pick_true (u := .bool (decide (many < 2))) rfl rfl) rfl rfl rfl ?_
      exact o_sub (Sub.cons rfl (Sub.skip rfl (Sub.skip rfl (Sub.skip rfl (Sub.skip rfl (Sub.refl _)))))) hk
    · intro hb6 hk
      refine o_guard_no rfl 39 rfl rfl rfl rfl rfl ?_
      refine o_guard_no rfl 39 rfl rfl rfl rfl rfl ?_
      refine o_pure (p_pick_false (v := .bool false) rfl rfl) rfl rfl rfl ?_
      exact o_sub (Sub.cons rfl (Sub.skip rfl (Sub.skip rfl (Sub.skip rfl (Sub.skip rfl (Sub.refl _)))))) hk
    refine o_pure (p_assign (v := .bool ((decide (0 ≤ (Trc.cutI s)) && (((byteAt s ((Trc.cutI s).toNat)).toNat : Int) == 42)) && decide (many < 2))) rfl) rfl rfl rfl ?_
    refine o_nil ?_
    refine q_then ?_
    refine c_join (G := Bool)
      (fun bad => [(0, .string s), (2, .int .i64 key), (3, .int .i64 0), (4, .int .i64 many), (6, .int .i64 (Trc.cutI s)), (30, .bool bad)])
      (fun bad => [base w0])
      (fun bad => bad = decide (Trc.badForm s))
      (fun K hK7 => ?_) ?_
    · refine c_cond (b := ((decide (0 ≤ (Trc.cutI s)) && (((byteAt s ((Trc.cutI s).toNat)).toNat : Int) == 42)) && decide (many < 2))) rfl (fun hc8 => ?_) (fun hc8 => ?_)
      · simp only [Bool.and_eq_true, decide_eq_true_eq, beq_iff_eq] at hc8
        refine c_skip ?_
        refine q_join hK7 ((decide (0 ≤ (Trc.cutI s)) && (((byteAt s ((Trc.cutI s).toNat)).toNat : Int) == 42)) && decide (many < 2)) ?_ (Sub.cons rfl (Sub.cons rfl (Sub.cons rfl (Sub.cons rfl (Sub.cons rfl (Sub.cons rfl (Sub.nil _))))))) (fun _ hw => HeapIs.pick hw [0] (by decide) rfl)
        clear hK7
        first | exact Trc.bad_rest hjk hjm hst42 | exact Trc.bad_true hjk hjm (by assumption)
      · simp only [Bool.and_eq_false_iff, decide_eq_false_iff_not, Int.not_le, beq_eq_false_iff_ne, ne_eq, Int.not_lt] at hc8
        have hst42 := hc8
        refine c_region ?_
        refine o_pure (p_move (v := .int .i64 (Trc.cutI s)) rfl) rfl rfl rfl ?_
        refine o_pure (p_ge (p := (Trc.cutI s)) (q := 0) rfl rfl) rfl rfl rfl ?_
        refine o_pure (p_move (v := .bool (decide (0 ≤ (Trc.cutI s)))) rfl) rfl rfl rfl ?_
        refine o_and (p := 50) 5 (((byteAt s ((Trc.cutI s).toNat)).toNat : Int) == 45) ?_ ?_ ?_
        · intro hb9 hk
          simp only [decide_eq_true_eq] at hb9
          refine o_unguard 45 rfl rfl ?_
          refine o_pure (p_move (v := .string s) rfl) rfl rfl rfl ?_
          refine o_unguard 45 rfl rfl ?_
          refine o_pure (p_move (v := .int .i64 (Trc.cutI s)) rfl) rfl rfl rfl ?_
          refine o_unguard 45 rfl rfl ?_
          refine o_pure (p_indexStr (z := (Trc.cutI s)) (i := (Trc.cutI s).toNat) rfl rfl Tryd.underlying9 (by omega) (by omega)) rfl rfl rfl ?_
          refine o_unguard 45 rfl rfl ?_
          refine o_pure (p_eq (p := ((byteAt s ((Trc.cutI s).toNat)).toNat : Int)) (q := 45) rfl rfl) rfl rfl rfl ?_
          refine o_pure (p_pick_true (u := .bool (((byteAt s ((Trc.cutI s).toNat)).toNat : Int) == 45)) rfl rfl) rfl rfl rfl ?_
          exact o_sub (Sub.cons rfl (Sub.skip rfl (Sub.skip rfl (Sub.skip rfl (Sub.skip rfl (Sub.skip rfl (Sub.skip rfl (Sub.refl _)))))))) hk
        · intro hb9 hk
          refine o_guard_no rfl 45 rfl rfl rfl rfl rfl ?_
          refine o_guard_no rfl 45 rfl rfl rfl rfl rfl ?_
          refine o_guard_no rfl 45 rfl rfl rfl rfl rfl ?_
          refine o_guard_no rfl 45 rfl rfl rfl rfl rfl ?_
          refine o_pure (p_pick_false (v := .bool false) rfl rfl) rfl rfl rfl ?_
          exact o_sub (Sub.cons rfl (Sub.skip rfl (Sub.skip rfl (Sub.skip rfl (Sub.skip rfl (Sub.skip rfl (Sub.skip rfl (Sub.refl _)))))))) hk
        refine o_pure (p_move (v := .bool (decide (0 ≤ (Trc.cutI s)) && (((byteAt s ((Trc.cutI s).toNat)).toNat : Int) == 45))) rfl) rfl rfl rfl ?_
        refine o_and (p := 56) 5 (decide (many < (key + 2))) ?_ ?_ ?_
        · intro hb10 hk
          simp only [Bool.and_eq_true, decide_eq_true_eq, beq_iff_eq] at hb10
          refine o_unguard 51 rfl rfl ?_
          refine o_pure (p_move (v := .int .i64 many) rfl) rfl rfl rfl ?_
          refine o_unguard 51 rfl rfl ?_
          refine o_pure (p_move (v := .int .i64 key) rfl) rfl rfl rfl ?_
          refine o_unguard 51 rfl rfl ?_
          refine o_pure (p_addb (p := key) (q := 2) rfl rfl (by omega)) rfl rfl rfl ?_
          refine o_unguard 51 rfl rfl ?_
          refine o_pure (p_lt (p := many) (q := (key + 2)) rfl rfl) rfl rfl rfl ?_
          refine o_pure (p_pick_true (u := .bool (decide (many < (key + 2)))) rfl rfl) rfl rfl rfl ?_
          exact o_sub (Sub.cons rfl (Sub.skip rfl (Sub.skip rfl (Sub.skip rfl (Sub.skip rfl (Sub.skip rfl (Sub.skip rfl (Sub.refl _)))))))) hk
        · intro hb10 hk
          refine o_guard_no rfl 51 rfl rfl rfl rfl rfl ?_
          refine o_guard_no rfl 51 rfl rfl rfl rfl rfl ?_
          refine o_guard_no rfl 51 rfl rfl rfl rfl rfl ?_
          refine o_guard_no rfl 51 rfl rfl rfl rfl rfl ?_
          refine o_pure (p_pick_false (v := .bool false) rfl rfl) rfl rfl rfl ?_
          exact o_sub (Sub.cons rfl (Sub.skip rfl (Sub.skip rfl (Sub.skip rfl (Sub.skip rfl (Sub.skip rfl (Sub.skip rfl (Sub.refl _)))))))) hk
        refine o_pure (p_assign (v := .bool ((decide (0 ≤ (Trc.cutI s)) && (((byteAt s ((Trc.cutI s).toNat)).toNat : Int) == 45)) && decide (many < (key + 2)))) rfl) rfl rfl rfl ?_
        refine o_nil ?_
        refine q_join hK7 ((decide (0 ≤ (Trc.cutI s)) && (((byteAt s ((Trc.cutI s).toNat)).toNat : Int) == 45)) && decide (many < (key + 2))) ?_ (Sub.cons rfl (Sub.cons rfl (Sub.cons rfl (Sub.cons rfl (Sub.cons rfl (Sub.cons rfl (Sub.nil _))))))) (fun _ hw => HeapIs.pick hw [0] (by decide) rfl)
        clear hK7
        first | exact Trc.bad_rest hjk hjm hst42 | exact Trc.bad_true hjk hjm (by assumption)
    rintro bad hjb
    show SQ _ 77 w0 _ _ [(0, .string s), (2, .int .i64 key), (3, .int .i64 0), (4, .int .i64 many), (6, .int .i64 (Trc.cutI s)), (30, .bool bad)] [base w0]
    refine q_then ?_
    refine c_cond (b := bad) rfl (fun hc11 => ?_) (fun hc11 => ?_)
    · skip
      have hbb := hc11
      refine c_seq ?_
      refine c_region ?_
      refine o_pure (p_assign (v := .int .i64 0) rfl) rfl rfl rfl ?_
      refine o_pure (p_assign (v := .int .i64 0) rfl) rfl rfl rfl ?_
      refine o_pure (p_assign (v := .int .i64 0) rfl) rfl rfl rfl ?_
      refine o_pure (p_assign (v := .int .i64 1) rfl) rfl rfl rfl ?_
      refine o_nil ?_
      refine q_then ?_
      refine c_ret ?_
      refine q_block_ret (q_then_ret ?_)
      obtain ⟨r1, r2, r3, r4⟩ : _ ∧ _ ∧ _ ∧ _ := by first | exact Trc.piece_e1 hjk hjm hneg | exact Trc.piece_e2 hjk hjm hneg (hjb.symm.trans hbb) | exact Trc.piece_e3 hjk hjm hneg (hjb.symm.trans hbb) hda hok | exact Trc.piece_e4 hjk hjm hneg (hjb.symm.trans hbb) hda hok | exact Trc.piece_o1 hjk hjm hneg (hjb.symm.trans hbb) hda hok | exact Trc.piece_o2 hjk hjm hneg (hjb.symm.trans hbb) hda hok
      have hr0 : (0 : Int) = (Trc.pKey s) := by
        exact r1
      have hr1 : (0 : Int) = (Trc.pBy s) := by
        exact r2
      have hr2 : (0 : Int) = (Trc.pMany s) := by
        exact r3
      have hr3 : (1 : Int) = (Trc.pErr s) := by
        exact r4
      refine q_end0 (v := .tuple #[.int .i64 0, .int .i64 0, .int .i64 0, .int .i64 1]) (rt4 rfl (r_tmp rfl) (r_tmp rfl) (r_tmp rfl) (r_tmp rfl)) (i := 0) rfl ?_
      exact (by have hcc := congr (congr (congr (congrArg (fun (y0 : Int) (y1 : Int) (y2 : Int) (y3 : Int) => (.tuple #[.int .i64 y0, .int .i64 y1, .int .i64 y2, .int .i64 y3] : Value)) hr0) hr1) hr2) hr3; exact hcc)
    · skip
      have hbb := hc11
      refine c_skip ?_
      refine q_block_normal (q_then ?_)
      refine c_seq ?_
      refine c_region ?_
      refine o_pure (p_move (v := .int .i64 key) rfl) rfl rfl rfl ?_
      refine o_pure (p_assign (v := .int .i64 key) rfl) rfl rfl rfl ?_
      refine o_nil ?_
      refine q_then ?_
      refine c_seq ?_
      refine c_seq ?_
      refine c_region ?_
      refine o_pure (p_move (v := .int .i64 (Trc.cutI s)) rfl) rfl rfl rfl ?_
      refine o_pure (p_ge (p := (Trc.cutI s)) (q := 0) rfl rfl) rfl rfl rfl ?_
      refine o_pure (p_move (v := .bool (decide (0 ≤ (Trc.cutI s)))) rfl) rfl rfl rfl ?_
      refine o_and (p := 65) 5 (((byteAt s ((Trc.cutI s).toNat)).toNat : Int) == 45) ?_ ?_ ?_
      · intro hb12 hk
        simp only [decide_eq_true_eq] at hb12
        refine o_unguard 60 rfl rfl ?_
        refine o_pure (p_move (v := .string s) rfl) rfl rfl rfl ?_
        refine o_unguard 60 rfl rfl ?_
        refine o_pure (p_move (v := .int .i64 (Trc.cutI s)) rfl) rfl rfl rfl ?_
        refine o_unguard 60 rfl rfl ?_
        refine o_pure (p_indexStr (z := (Trc.cutI s)) (i := (Trc.cutI s).toNat) rfl rfl Tryd.underlying9 (by omega) (by omega)) rfl rfl rfl ?_
        refine o_unguard 60 rfl rfl ?_
        refine o_pure (p_eq (p := ((byteAt s ((Trc.cutI s).toNat)).toNat : Int)) (q := 45) rfl rfl) rfl rfl rfl ?_
        refine o_pure (p_pick_true (u := .bool (((byteAt s ((Trc.cutI s).toNat)).toNat : Int) == 45)) rfl rfl) rfl rfl rfl ?_
        exact o_sub (Sub.cons rfl (Sub.skip rfl (Sub.skip rfl (Sub.skip rfl (Sub.skip rfl (Sub.skip rfl (Sub.skip rfl (Sub.refl _)))))))) hk
      · intro hb12 hk
        refine o_guard_no rfl 60 rfl rfl rfl rfl rfl ?_
        refine o_guard_no rfl 60 rfl rfl rfl rfl rfl ?_
        refine o_guard_no rfl 60 rfl rfl rfl rfl rfl ?_
        refine o_guard_no rfl 60 rfl rfl rfl rfl rfl ?_
        refine o_pure (p_pick_false (v := .bool false) rfl rfl) rfl rfl rfl ?_
        exact o_sub (Sub.cons rfl (Sub.skip rfl (Sub.skip rfl (Sub.skip rfl (Sub.skip rfl (Sub.skip rfl (Sub.skip rfl (Sub.refl _)))))))) hk
      refine o_nil ?_
      refine q_then ?_
      refine c_cond (b := (decide (0 ≤ (Trc.cutI s)) && (((byteAt s ((Trc.cutI s).toNat)).toNat : Int) == 45))) rfl (fun hc13 => ?_) (fun hc13 => ?_)
      · simp only [Bool.and_eq_true, decide_eq_true_eq, beq_iff_eq] at hc13
        have hda := Trc.dash_of hc13
        refine c_region ?_
        refine o_pure (p_move (v := .int .i64 many) rfl) rfl rfl rfl ?_
        refine o_pure (p_move (v := .int .i64 many) rfl) rfl rfl rfl ?_
        refine o_pure (p_move (v := .int .i64 key) rfl) rfl rfl rfl ?_
        refine o_pure (p_subb (p := many) (q := key) rfl rfl (by omega)) rfl rfl rfl ?_
        refine o_pure (p_addb (p := (many - key)) (q := 1) rfl rfl (by omega)) rfl rfl rfl ?_
        refine o_pure (p_assign (v := .int .i64 1) rfl) rfl rfl rfl ?_
        refine o_pure (p_assign (v := .int .i64 many) rfl) rfl rfl rfl ?_
        refine o_pure (p_assign (v := .int .i64 ((many - key) + 1)) rfl) rfl rfl rfl ?_
        refine o_nil ?_
        refine q_then ?_
        refine c_seq ?_
        refine c_seq ?_
        refine c_region ?_
        refine o_pure (p_move (v := .int .i64 many) rfl) rfl rfl rfl ?_
        refine o_call0 (v := .bool (Lru.okKey many)) rfl (key_ok many) hf27 (fun _ _ => trivial) rfl ?_
        refine o_pure (p_not (b := (Lru.okKey many)) rfl) rfl rfl rfl ?_
        refine o_nil ?_
        refine q_then ?_
        refine c_cond (b := (!(Lru.okKey many))) rfl (fun hc14 => ?_) (fun hc14 => ?_)
        · simp only [Bool.not_eq_true'] at hc14
          have hok := hc14
          refine c_seq ?_
          refine c_region ?_
          refine o_pure (p_assign (v := .int .i64 0) rfl) rfl rfl rfl ?_
          refine o_pure (p_assign (v := .int .i64 0) rfl) rfl rfl rfl ?_
          refine o_pure (p_assign (v := .int .i64 0) rfl) rfl rfl rfl ?_
          refine o_pure (p_assign (v := .int .i64 3) rfl) rfl rfl rfl ?_
          refine o_nil ?_
          refine q_then ?_
          refine c_ret ?_
          refine q_then_ret ?_
          obtain ⟨r1, r2, r3, r4⟩ : _ ∧ _ ∧ _ ∧ _ := by first | exact Trc.piece_e1 hjk hjm hneg | exact Trc.piece_e2 hjk hjm hneg (hjb.symm.trans hbb) | exact Trc.piece_e3 hjk hjm hneg (hjb.symm.trans hbb) hda hok | exact Trc.piece_e4 hjk hjm hneg (hjb.symm.trans hbb) hda hok | exact Trc.piece_o1 hjk hjm hneg (hjb.symm.trans hbb) hda hok | exact Trc.piece_o2 hjk hjm hneg (hjb.symm.trans hbb) hda hok
          have hr0 : (0 : Int) = (Trc.pKey s) := by
            exact r1
          have hr1 : (0 : Int) = (Trc.pBy s) := by
            exact r2
          have hr2 : (0 : Int) = (Trc.pMany s) := by
            exact r3
          have hr3 : (3 : Int) = (Trc.pErr s) := by
            exact r4
          refine q_end0 (v := .tuple #[.int .i64 0, .int .i64 0, .int .i64 0, .int .i64 3]) (rt4 rfl (r_tmp rfl) (r_tmp rfl) (r_tmp rfl) (r_tmp rfl)) (i := 0) rfl ?_
          exact (by have hcc := congr (congr (congr (congrArg (fun (y0 : Int) (y1 : Int) (y2 : Int) (y3 : Int) => (.tuple #[.int .i64 y0, .int .i64 y1, .int .i64 y2, .int .i64 y3] : Value)) hr0) hr1) hr2) hr3; exact hcc)
        · simp only [Bool.not_eq_false'] at hc14
          have hok := hc14
          refine c_skip ?_
          refine q_then ?_
          refine c_seq ?_
          refine c_region ?_
          refine o_pure (p_move (v := .int .i64 key) rfl) rfl rfl rfl ?_
          refine o_pure (p_move (v := .int .i64 1) rfl) rfl rfl rfl ?_
          refine o_pure (p_move (v := .int .i64 ((many - key) + 1)) rfl) rfl rfl rfl ?_
          refine o_pure (p_assign (v := .int .i64 key) rfl) rfl rfl rfl ?_
          refine o_pure (p_assign (v := .int .i64 1) rfl) rfl rfl rfl ?_
          refine o_pure (p_assign (v := .int .i64 ((many - key) + 1)) rfl) rfl rfl rfl ?_
          refine o_pure (p_assign (v := .int .i64 0) rfl) rfl rfl rfl ?_
          refine o_nil ?_
          refine q_then ?_
          refine c_ret ?_
          obtain ⟨r1, r2, r3, r4⟩ : _ ∧ _ ∧ _ ∧ _ := by first | exact Trc.piece_e1 hjk hjm hneg | exact Trc.piece_e2 hjk hjm hneg (hjb.symm.trans hbb) | exact Trc.piece_e3 hjk hjm hneg (hjb.symm.trans hbb) hda hok | exact Trc.piece_e4 hjk hjm hneg (hjb.symm.trans hbb) hda hok | exact Trc.piece_o1 hjk hjm hneg (hjb.symm.trans hbb) hda hok | exact Trc.piece_o2 hjk hjm hneg (hjb.symm.trans hbb) hda hok
          have hr0 : (key : Int) = (Trc.pKey s) := by
            exact r1
          have hr1 : (1 : Int) = (Trc.pBy s) := by
            exact r2
          have hr2 : (((many - key) + 1) : Int) = (Trc.pMany s) := by
            exact r3
          have hr3 : (0 : Int) = (Trc.pErr s) := by
            exact r4
          refine q_end0 (v := .tuple #[.int .i64 key, .int .i64 1, .int .i64 ((many - key) + 1), .int .i64 0]) (rt4 rfl (r_tmp rfl) (r_tmp rfl) (r_tmp rfl) (r_tmp rfl)) (i := 0) rfl ?_
          exact (by have hcc := congr (congr (congr (congrArg (fun (y0 : Int) (y1 : Int) (y2 : Int) (y3 : Int) => (.tuple #[.int .i64 y0, .int .i64 y1, .int .i64 y2, .int .i64 y3] : Value)) hr0) hr1) hr2) hr3; exact hcc)
      · simp only [Bool.and_eq_false_iff, decide_eq_false_iff_not, Int.not_le, beq_eq_false_iff_ne, ne_eq] at hc13
        have hda := Trc.dash_no hc13
        refine c_skip ?_
        refine q_then ?_
        refine c_seq ?_
        refine c_seq ?_
        refine c_region ?_
        refine o_pure (p_move (v := .int .i64 key) rfl) rfl rfl rfl ?_
        refine o_call0 (v := .bool (Lru.okKey key)) rfl (key_ok key) hf27 (fun _ _ => trivial) rfl ?_
        refine o_pure (p_not (b := (Lru.okKey key)) rfl) rfl rfl rfl ?_
        refine o_nil ?_
        refine q_then ?_
        refine c_cond (b := (!(Lru.okKey key))) rfl (fun hc15 => ?_) (fun hc15 => ?_)
        · simp only [Bool.not_eq_true'] at hc15
          have hok := hc15
          refine c_seq ?_
          refine c_region ?_
          refine o_pure (p_assign (v := .int .i64 0) rfl) rfl rfl rfl ?_
          refine o_pure (p_assign (v := .int .i64 0) rfl) rfl rfl rfl ?_
          refine o_pure (p_assign (v := .int .i64 0) rfl) rfl rfl rfl ?_
          refine o_pure (p_assign (v := .int .i64 3) rfl) rfl rfl rfl ?_
          refine o_nil ?_
          refine q_then ?_
          refine c_ret ?_
          refine q_then_ret ?_
          obtain ⟨r1, r2, r3, r4⟩ : _ ∧ _ ∧ _ ∧ _ := by first | exact Trc.piece_e1 hjk hjm hneg | exact Trc.piece_e2 hjk hjm hneg (hjb.symm.trans hbb) | exact Trc.piece_e3 hjk hjm hneg (hjb.symm.trans hbb) hda hok | exact Trc.piece_e4 hjk hjm hneg (hjb.symm.trans hbb) hda hok | exact Trc.piece_o1 hjk hjm hneg (hjb.symm.trans hbb) hda hok | exact Trc.piece_o2 hjk hjm hneg (hjb.symm.trans hbb) hda hok
          have hr0 : (0 : Int) = (Trc.pKey s) := by
            exact r1
          have hr1 : (0 : Int) = (Trc.pBy s) := by
            exact r2
          have hr2 : (0 : Int) = (Trc.pMany s) := by
            exact r3
          have hr3 : (3 : Int) = (Trc.pErr s) := by
            exact r4
          refine q_end0 (v := .tuple #[.int .i64 0, .int .i64 0, .int .i64 0, .int .i64 3]) (rt4 rfl (r_tmp rfl) (r_tmp rfl) (r_tmp rfl) (r_tmp rfl)) (i := 0) rfl ?_
          exact (by have hcc := congr (congr (congr (congrArg (fun (y0 : Int) (y1 : Int) (y2 : Int) (y3 : Int) => (.tuple #[.int .i64 y0, .int .i64 y1, .int .i64 y2, .int .i64 y3] : Value)) hr0) hr1) hr2) hr3; exact hcc)
        · simp only [Bool.not_eq_false'] at hc15
          have hok := hc15
          refine c_skip ?_
          refine q_then ?_
          refine c_seq ?_
          refine c_region ?_
          refine o_pure (p_move (v := .int .i64 key) rfl) rfl rfl rfl ?_
          refine o_pure (p_move (v := .int .i64 0) rfl) rfl rfl rfl ?_
          refine o_pure (p_move (v := .int .i64 many) rfl) rfl rfl rfl ?_
          refine o_pure (p_assign (v := .int .i64 key) rfl) rfl rfl rfl ?_
          refine o_pure (p_assign (v := .int .i64 0) rfl) rfl rfl rfl ?_
          refine o_pure (p_assign (v := .int .i64 many) rfl) rfl rfl rfl ?_
          refine o_pure (p_assign (v := .int .i64 0) rfl) rfl rfl rfl ?_
          refine o_nil ?_
          refine q_then ?_
          refine c_ret ?_
          obtain ⟨r1, r2, r3, r4⟩ : _ ∧ _ ∧ _ ∧ _ := by first | exact Trc.piece_e1 hjk hjm hneg | exact Trc.piece_e2 hjk hjm hneg (hjb.symm.trans hbb) | exact Trc.piece_e3 hjk hjm hneg (hjb.symm.trans hbb) hda hok | exact Trc.piece_e4 hjk hjm hneg (hjb.symm.trans hbb) hda hok | exact Trc.piece_o1 hjk hjm hneg (hjb.symm.trans hbb) hda hok | exact Trc.piece_o2 hjk hjm hneg (hjb.symm.trans hbb) hda hok
          have hr0 : (key : Int) = (Trc.pKey s) := by
            exact r1
          have hr1 : (0 : Int) = (Trc.pBy s) := by
            exact r2
          have hr2 : (many : Int) = (Trc.pMany s) := by
            exact r3
          have hr3 : (0 : Int) = (Trc.pErr s) := by
            exact r4
          refine q_end0 (v := .tuple #[.int .i64 key, .int .i64 0, .int .i64 many, .int .i64 0]) (rt4 rfl (r_tmp rfl) (r_tmp rfl) (r_tmp rfl) (r_tmp rfl)) (i := 0) rfl ?_
          exact (by have hcc := congr (congr (congr (congrArg (fun (y0 : Int) (y1 : Int) (y2 : Int) (y3 : Int) => (.tuple #[.int .i64 y0, .int .i64 y1, .int .i64 y2, .int .i64 y3] : Value)) hr0) hr1) hr2) hr3; exact hcc)
end Go.Proofs.YtgkihbbeimhmbaaDoor

/- The walks, printed by a program from the translation and a specification. -/
namespace Go.Proofs.YtgkihbbeimhmbaaDoor
open Go.Sx Go.RowKit
set_option maxHeartbeats 8000000 in
set_option maxRecDepth 100000 in
theorem tclip_ok (l : List Int) (al : Option Addr) (cl : Nat) (Sl : Nat → Prop) : FnX Tryd.prog 21 [.slice al l.length cl] [own tInt Sl al cl l] (fun _ => True) (Option Addr × Nat × (Nat → Prop)) (fun p => .slice p.1 l.length p.2.1) (fun p => [own tInt p.2.2 p.1 p.2.1 l]) := by
  refine fnX (nt := 9) (F0 := [(0, .slice al l.length cl)]) Tryd.func21 rfl Tryd.ntmps21 rfl rfl (fun w0 hpre => ?_)
  refine c_know (fun w hw => own_len (i := 1) (T := tInt) hw rfl) (fun hlown_l => ?_)
  obtain ⟨hcown_l, hlown_l⟩ := hlown_l
  refine c_seq ?_
  refine c_region ?_
  refine o_pure (p_assign (v := .slice none 0 0) rfl) rfl rfl rfl ?_
  refine o_nil ?_
  refine q_then ?_
  refine c_seq ?_
  refine c_region ?_
  refine o_pure (p_move (v := .slice al l.length cl) rfl) rfl rfl rfl ?_
  refine o_pure (p_move (v := .slice al l.length cl) rfl) rfl rfl rfl ?_
  refine o_pure (p_len_slice (len := l.length) rfl rfl Tryd.underlying22) rfl rfl rfl ?_
  refine o_pure (p_move (v := .slice al l.length cl) rfl) rfl rfl rfl ?_
  refine o_pure (p_len_slice (len := l.length) rfl rfl Tryd.underlying22) rfl rfl rfl ?_
  refine o_pure (p_sliceHM (L := l) (T := tInt) (h := (l.length : Int)) (m := (l.length : Int)) rfl rfl rfl Tryd.underlying22 sz3 (by omega) (by omega) (by omega) (rd_own (i := 1) rfl)) rfl rfl rfl ?_
  refine o_pure (p_assign (v := .slice al (l.take ((l.length : Int).toNat)).length ((l.length : Int).toNat)) rfl) rfl rfl rfl ?_
  refine o_nil ?_
  refine q_then ?_
  refine c_ret ?_
  refine q_shrinkM (i := 1) (hi := (l.length : Int).toNat) (m := (l.length : Int).toNat) (T := tInt) rfl (by omega) (by omega) ?_
  have hr0 : ((l.take ((l.length : Int).toNat)) : List Int) = l := by
    first | rfl | simp
  refine q_endX (p := (al, (l.length : Int).toNat, Sl)) (rt1 rfl (r_tmp rfl)) ?_ (fun w hw => ?_)
  · exact (by have hcc := congrArg (fun (y0 : List Int) => (.slice al y0.length ((l.length : Int).toNat) : Value)) hr0; exact hcc)
  · have h2 := hw.pick (H' := [outer w0 [own tInt Sl al cl l], own tInt Sl al ((l.length : Int).toNat) (l.take ((l.length : Int).toNat))]) [0, 1] (by decide) rfl
    exact Eq.mp (congrArg (fun z => HeapIs w0 ((outer w0 [own tInt Sl al cl l]) :: z) w) ((by have hcc := congrArg (fun (y0 : List Int) => ([own tInt Sl al ((l.length : Int).toNat) y0] : List Ent)) hr0; exact hcc))) h2

set_option maxHeartbeats 8000000 in
set_option maxRecDepth 100000 in
theorem tparse_ok (s : ByteArray) : FnM Tryd.prog 8 [.string s] (fun w => MaxW w) (Option Addr × Nat) (fun p => .tuple #[.slice p.1 ((Trc.parse s).1).length p.2, .int .i64 ((Trc.parse s).2)]) (fun p S w => SlO tInt S w p.1 p.2 ((Trc.parse s).1)) := by
  refine fnM (nt := 61) (F0 := [(0, .string s)]) Tryd.func8 rfl Tryd.ntmps8 rfl rfl (fun w0 hpre => ?_)
  have hMaxW := hpre
  refine c_seq ?_
  refine c_region ?_
  refine o_pure (p_assign (v := .slice none 0 0) rfl) rfl rfl rfl ?_
  refine o_pure (p_assign (v := .int .i64 0) rfl) rfl rfl rfl ?_
  refine o_nil ?_
  refine q_then ?_
  refine c_seq ?_
  refine c_block ?_
  refine c_seq ?_
  refine c_region ?_
  refine o_pure (p_move (v := .string s) rfl) rfl rfl rfl ?_
  refine o_pure (p_len_string rfl rfl Tryd.underlying9) rfl rfl rfl ?_
  refine o_pure (p_gt (p := (s.size : Int)) (q := 2000) rfl rfl) rfl rfl rfl ?_
  refine o_pure (p_assign (v := .bool (decide (2000 < (s.size : Int)))) rfl) rfl rfl rfl ?_
  refine o_nil ?_
  refine q_then ?_
  refine c_cond (b := decide (2000 < (s.size : Int))) rfl (fun hc1 => ?_) (fun hc1 => ?_)
  · simp only [decide_eq_true_eq] at hc1
    have hend := Trc.parse_big hc1
    refine c_seq ?_
    refine c_region ?_
    refine o_pure (p_assign (v := .slice none 0 0) rfl) rfl rfl rfl ?_
    refine o_pure (p_assign (v := .int .i64 2) rfl) rfl rfl rfl ?_
    refine o_nil ?_
    refine q_then ?_
    refine c_ret ?_
    refine q_block_ret (q_then_ret ?_)
    have hr0 : ([] : List Int) = ((Trc.parse s).1) := by
      first | exact hend.1 | exact hend.2
    have hr1 : (2 : Int) = ((Trc.parse s).2) := by
      first | exact hend.1 | exact hend.2
    refine q_endM (p := (none, 0)) (fun _ => False) (rt2 rfl (r_tmp rfl) (r_tmp rfl)) (i := 0) rfl ?_ ?_ ?_
    · exact (by have hcc := congr (congrArg (fun (y0 : List Int) (y1 : Int) => (.tuple #[.slice none y0.length 0, .int .i64 y1] : Value)) hr0) hr1; exact hcc)
    · intro w hw b hb; exact hb.elim
    · intro w hw; exact Eq.mp (congrArg (fun y => SlO tInt _ w none 0 y) hr0) (SlO.nil tInt w)
  · simp only [decide_eq_false_iff_not, Int.not_lt] at hc1
    have hsz := hc1
    refine c_seq ?_
    refine c_region ?_
    refine o_pure (p_move (v := .string s) rfl) rfl rfl rfl ?_
    refine o_pure (p_eqStr (s := s) (t := (ByteArray.mk #[])) rfl rfl) rfl rfl rfl ?_
    refine o_pure (p_assign (v := .bool (decide (s = (ByteArray.mk #[])))) rfl) rfl rfl rfl ?_
    refine o_nil ?_
    refine q_then ?_
    refine c_cond (b := decide (s = (ByteArray.mk #[]))) rfl (fun hc2 => ?_) (fun hc2 => ?_)
    · simp only [decide_eq_true_eq] at hc2
      have hend := Trc.parse_none hc2
      refine c_seq ?_
      refine c_region ?_
      refine o_pure (p_assign (v := .slice none 0 0) rfl) rfl rfl rfl ?_
      refine o_pure (p_assign (v := .int .i64 0) rfl) rfl rfl rfl ?_
      refine o_nil ?_
      refine q_then ?_
      refine c_ret ?_
      refine q_block_ret (q_then_ret ?_)
      have hr0 : ([] : List Int) = ((Trc.parse s).1) := by
        first | exact hend.1 | exact hend.2
      have hr1 : (0 : Int) = ((Trc.parse s).2) := by
        first | exact hend.1 | exact hend.2
      refine q_endM (p := (none, 0)) (fun _ => False) (rt2 rfl (r_tmp rfl) (r_tmp rfl)) (i := 0) rfl ?_ ?_ ?_
      · exact (by have hcc := congr (congrArg (fun (y0 : List Int) (y1 : Int) => (.tuple #[.slice none y0.length 0, .int .i64 y1] : Value)) hr0) hr1; exact hcc)
      · intro w hw b hb; exact hb.elim
      · intro w hw; exact Eq.mp (congrArg (fun y => SlO tInt _ w none 0 y) hr0) (SlO.nil tInt w)
    · simp only [decide_eq_false_iff_not] at hc2
      have hne := hc2
      refine c_skip ?_
      refine q_block_normal (q_then ?_)
      refine c_seq ?_
      refine c_region ?_
      refine o_pure (p_assign (v := .slice none 0 0) rfl) rfl rfl rfl ?_
      refine o_nil ?_
      refine q_then ?_
      refine c_seq ?_
      refine c_seq ?_
      refine c_region ?_
      refine o_pure (p_move (v := .string s) rfl) rfl rfl rfl ?_
      refine o_callM rfl (ksplit_ok s (ByteArray.mk #[32]) (by omega) (rfl)) hf19 (fun w hw => pre_base (i := 0) rfl MaxW_st hMaxW w hw) rfl (fun _ _ _ _ ha hA => SlO.agree ha hA) ?_
      rintro ⟨a5, c6⟩ S3
      refine o_know (fun w hw => own_len (i := 0) (T := tStr) hw rfl) (fun hlr7 => ?_)
      refine o_pure (p_len_slice (len := (Trc.words s).length) rfl rfl Tryd.underlying37) rfl rfl rfl ?_
      refine o_pure (p_move (v := .int .i64 0) rfl) rfl rfl rfl ?_
      refine o_nil ?_
      refine q_then ?_
      refine c_block ?_
      refine c_ownNil tInt ?_
      refine c_loop (St := List Int × Option Addr × Nat × (Nat → Prop) × Nat)
        (fun ⟨out, aout, cout, Sout, k⟩ => [(4, .slice aout out.length cout), (20, .slice a5 (Trc.words s).length c6), (21, .int .i64 ((Trc.words s).length : Int)), (22, .int .i64 (k : Int))])
        (fun ⟨out, aout, cout, Sout, k⟩ => [own tInt Sout aout cout out, own tStr S3 a5 c6 (Trc.words s), base w0])
        (fun ⟨out, aout, cout, Sout, k⟩ => Trc.PI s out k)
        (fun ⟨out, aout, cout, Sout, k⟩ => (Trc.words s).length - k)
        ([], none, 0, (fun _ => False), 0) ?_ (Sub.cons rfl (Sub.cons rfl (Sub.cons rfl (Sub.cons rfl (Sub.nil _))))) (fun _ hw => hw) ?_
      · exact Trc.PI.start hsz hne
      rintro ⟨out, aout, cout, Sout, k⟩ hI K hK9
      have hle := hI.le
      have hlo := hI.len
      have hws := Trc.word_size s k
      have hkb := Trc.pKey_bd ((Trc.words s).getD k default)
      show SC _ _ Tryd.prog 61 w0 _ _ [(4, .slice aout out.length cout), (20, .slice a5 (Trc.words s).length c6), (21, .int .i64 ((Trc.words s).length : Int)), (22, .int .i64 (k : Int))] [own tInt Sout aout cout out, own tStr S3 a5 c6 (Trc.words s), base w0]
      refine c_seq ?_
      refine c_region ?_
      refine o_pure (p_lt (p := (k : Int)) (q := ((Trc.words s).length : Int)) rfl rfl) rfl rfl rfl ?_
      refine o_nil ?_
      refine q_then ?_
      refine c_seq ?_
      refine c_cond (b := decide ((k : Int) < ((Trc.words s).length : Int))) rfl (fun hc10 => ?_) (fun hc10 => ?_)
      · simp only [decide_eq_true_eq] at hc10
        refine c_skip ?_
        refine q_then ?_
        refine c_seq ?_
        refine c_block ?_
        refine c_seq ?_
        refine c_region ?_
        refine o_pure (p_indexAddr (L := (Trc.words s)) (T := tStr) (i := (k : Int)) rfl rfl (rd_own (i := 1) rfl) Tryd.underlying37 sz9 (by omega) (by omega)) rfl rfl rfl ?_
        refine o_pure (p_loadE1 (i := k) (T := tStr) (L := (Trc.words s)) (v := .string ((Trc.words s).getD k default)) rfl (rd_own (i := 1) rfl) (by first | assumption | omega) sh9 (congrArg tStr.enc (getd_at (by first | assumption | omega) default))) rfl rfl rfl ?_
        refine o_pure (p_assign (v := .string ((Trc.words s).getD k default)) rfl) rfl rfl rfl ?_
        refine o_nil ?_
        refine q_then ?_
        refine c_seq ?_
        refine c_region ?_
        refine o_pure (p_move (v := .string ((Trc.words s).getD k default)) rfl) rfl rfl rfl ?_
        refine o_call0 (v := .tuple #[.int .i64 (Trc.pKey ((Trc.words s).getD k default)), .int .i64 (Trc.pBy ((Trc.words s).getD k default)), .int .i64 (Trc.pMany ((Trc.words s).getD k default)), .int .i64 (Trc.pErr ((Trc.words s).getD k default))]) rfl (tpiece_ok ((Trc.words s).getD k default) (by first | assumption | omega)) hf20 (fun _ _ => trivial) rfl ?_
        refine o_pure (p_move (v := .tuple #[.int .i64 (Trc.pKey ((Trc.words s).getD k default)), .int .i64 (Trc.pBy ((Trc.words s).getD k default)), .int .i64 (Trc.pMany ((Trc.words s).getD k default)), .int .i64 (Trc.pErr ((Trc.words s).getD k default))]) rfl) rfl rfl rfl ?_
        refine o_pure (p_extract (vs := [.int .i64 (Trc.pKey ((Trc.words s).getD k default)), .int .i64 (Trc.pBy ((Trc.words s).getD k default)), .int .i64 (Trc.pMany ((Trc.words s).getD k default)), .int .i64 (Trc.pErr ((Trc.words s).getD k default))]) (v := .int .i64 (Trc.pKey ((Trc.words s).getD k default))) rfl rfl) rfl rfl rfl ?_
        refine o_pure (p_extract (vs := [.int .i64 (Trc.pKey ((Trc.words s).getD k default)), .int .i64 (Trc.pBy ((Trc.words s).getD k default)), .int .i64 (Trc.pMany ((Trc.words s).getD k default)), .int .i64 (Trc.pErr ((Trc.words s).getD k default))]) (v := .int .i64 (Trc.pBy ((Trc.words s).getD k default))) rfl rfl) rfl rfl rfl ?_
        refine o_pure (p_extract (vs := [.int .i64 (Trc.pKey ((Trc.words s).getD k default)), .int .i64 (Trc.pBy ((Trc.words s).getD k default)), .int .i64 (Trc.pMany ((Trc.words s).getD k default)), .int .i64 (Trc.pErr ((Trc.words s).getD k default))]) (v := .int .i64 (Trc.pMany ((Trc.words s).getD k default))) rfl rfl) rfl rfl rfl ?_
        refine o_pure (p_extract (vs := [.int .i64 (Trc.pKey ((Trc.words s).getD k default)), .int .i64 (Trc.pBy ((Trc.words s).getD k default)), .int .i64 (Trc.pMany ((Trc.words s).getD k default)), .int .i64 (Trc.pErr ((Trc.words s).getD k default))]) (v := .int .i64 (Trc.pErr ((Trc.words s).getD k default))) rfl rfl) rfl rfl rfl ?_
        refine o_pure (p_assign (v := .int .i64 (Trc.pKey ((Trc.words s).getD k default))) rfl) rfl rfl rfl ?_
        refine o_pure (p_assign (v := .int .i64 (Trc.pBy ((Trc.words s).getD k default))) rfl) rfl rfl rfl ?_
        refine o_pure (p_assign (v := .int .i64 (Trc.pMany ((Trc.words s).getD k default))) rfl) rfl rfl rfl ?_
        refine o_pure (p_assign (v := .int .i64 (Trc.pErr ((Trc.words s).getD k default))) rfl) rfl rfl rfl ?_
        refine o_nil ?_
        refine q_then ?_
        refine c_seq ?_
        refine c_seq ?_
        refine c_region ?_
        refine o_pure (p_move (v := .int .i64 (Trc.pErr ((Trc.words s).getD k default))) rfl) rfl rfl rfl ?_
        refine o_pure (p_eq (p := (Trc.pErr ((Trc.words s).getD k default))) (q := 0) rfl rfl) rfl rfl rfl ?_
        refine o_pure (p_move (v := .bool ((Trc.pErr ((Trc.words s).getD k default)) == 0)) rfl) rfl rfl rfl ?_
        refine o_and (p := 41) 6 (decide (200 < ((out.length : Int) + (Trc.pMany ((Trc.words s).getD k default))))) ?_ ?_ ?_
        · intro hb11 hk
          simp only [beq_iff_eq] at hb11
          refine o_unguard 35 rfl rfl ?_
          refine o_pure (p_move (v := .slice aout out.length cout) rfl) rfl rfl rfl ?_
          refine o_unguard 35 rfl rfl ?_
          refine o_pure (p_len_slice (len := out.length) rfl rfl Tryd.underlying22) rfl rfl rfl ?_
          refine o_unguard 35 rfl rfl ?_
          refine o_pure (p_move (v := .int .i64 (Trc.pMany ((Trc.words s).getD k default))) rfl) rfl rfl rfl ?_
          refine o_unguard 35 rfl rfl ?_
          refine o_pure (p_addb (p := (out.length : Int)) (q := (Trc.pMany ((Trc.words s).getD k default))) rfl rfl (by omega)) rfl rfl rfl ?_
          refine o_unguard 35 rfl rfl ?_
          refine o_pure (p_gt (p := ((out.length : Int) + (Trc.pMany ((Trc.words s).getD k default)))) (q := 200) rfl rfl) rfl rfl rfl ?_
          refine o_pure (p_pick_true (u := .bool (decide (200 < ((out.length : Int) + (Trc.pMany ((Trc.words s).getD k default)))))) rfl rfl) rfl rfl rfl ?_
          exact o_sub (Sub.cons rfl (Sub.skip rfl (Sub.skip rfl (Sub.skip rfl (Sub.skip rfl (Sub.skip rfl (Sub.skip rfl (Sub.skip rfl (Sub.refl _))))))))) hk
        · intro hb11 hk
          refine o_guard_no rfl 35 rfl rfl rfl rfl rfl ?_
          refine o_guard_no rfl 35 rfl rfl rfl rfl rfl ?_
          refine o_guard_no rfl 35 rfl rfl rfl rfl rfl ?_
          refine o_guard_no rfl 35 rfl rfl rfl rfl rfl ?_
          refine o_guard_no rfl 35 rfl rfl rfl rfl rfl ?_
          refine o_pure (p_pick_false (v := .bool false) rfl rfl) rfl rfl rfl ?_
          exact o_sub (Sub.cons rfl (Sub.skip rfl (Sub.skip rfl (Sub.skip rfl (Sub.skip rfl (Sub.skip rfl (Sub.skip rfl (Sub.skip rfl (Sub.refl _))))))))) hk
        refine o_nil ?_
        refine q_then ?_
        refine c_cond (b := (((Trc.pErr ((Trc.words s).getD k default)) == 0) && decide (200 < ((out.length : Int) + (Trc.pMany ((Trc.words s).getD k default)))))) rfl (fun hc12 => ?_) (fun hc12 => ?_)
        · simp only [Bool.and_eq_true, beq_iff_eq, decide_eq_true_eq] at hc12
          have hend := hI.many (by omega) hc12.1 (by omega)
          refine c_region ?_
          refine o_pure (p_assign (v := .int .i64 2) rfl) rfl rfl rfl ?_
          refine o_nil ?_
          refine q_then ?_
          refine c_seq ?_
          refine c_seq ?_
          refine c_region ?_
          refine o_pure (p_move (v := .int .i64 2) rfl) rfl rfl rfl ?_
          refine o_pure (p_ne (p := 2) (q := 0) rfl rfl) rfl rfl rfl ?_
          refine o_nil ?_
          refine q_then ?_
          refine c_true rfl ?_
          refine c_seq ?_
          refine c_region ?_
          refine o_pure (p_move (v := .int .i64 2) rfl) rfl rfl rfl ?_
          refine o_pure (p_assign (v := .slice none 0 0) rfl) rfl rfl rfl ?_
          refine o_pure (p_assign (v := .int .i64 2) rfl) rfl rfl rfl ?_
          refine o_nil ?_
          refine q_then ?_
          refine c_ret ?_
          refine q_then_ret (q_block_ret (q_then_ret (q_then_ret (q_block_ret (q_then_ret ?_)))))
          have hr0 : ([] : List Int) = ((Trc.parse s).1) := by
            first | exact hend.1 | exact hend.2
          have hr1 : (2 : Int) = ((Trc.parse s).2) := by
            first | exact hend.1 | exact hend.2
          refine q_endM (p := (none, 0)) (fun _ => False) (rt2 rfl (r_tmp rfl) (r_tmp rfl)) (i := 2) rfl ?_ ?_ ?_
          · exact (by have hcc := congr (congrArg (fun (y0 : List Int) (y1 : Int) => (.tuple #[.slice none y0.length 0, .int .i64 y1] : Value)) hr0) hr1; exact hcc)
          · intro w hw b hb; exact hb.elim
          · intro w hw; exact Eq.mp (congrArg (fun y => SlO tInt _ w none 0 y) hr0) (SlO.nil tInt w)
        · simp only [Bool.and_eq_false_iff, beq_eq_false_iff_ne, ne_eq, decide_eq_false_iff_not, Int.not_lt] at hc12
          have hmy := hc12
          refine c_skip ?_
          refine q_then ?_
          refine c_seq ?_
          refine c_seq ?_
          refine c_region ?_
          refine o_pure (p_move (v := .int .i64 (Trc.pErr ((Trc.words s).getD k default))) rfl) rfl rfl rfl ?_
          refine o_pure (p_ne (p := (Trc.pErr ((Trc.words s).getD k default))) (q := 0) rfl rfl) rfl rfl rfl ?_
          refine o_nil ?_
          refine q_then ?_
          refine c_cond (b := ((Trc.pErr ((Trc.words s).getD k default)) != 0)) rfl (fun hc13 => ?_) (fun hc13 => ?_)
          · simp only [bne_iff_ne, ne_eq] at hc13
            have hend := hI.bad (by omega) hc13
            refine c_seq ?_
            refine c_region ?_
            refine o_pure (p_move (v := .int .i64 (Trc.pErr ((Trc.words s).getD k default))) rfl) rfl rfl rfl ?_
            refine o_pure (p_assign (v := .slice none 0 0) rfl) rfl rfl rfl ?_
            refine o_pure (p_assign (v := .int .i64 (Trc.pErr ((Trc.words s).getD k default))) rfl) rfl rfl rfl ?_
            refine o_nil ?_
            refine q_then ?_
            refine c_ret ?_
            refine q_then_ret (q_block_ret (q_then_ret (q_then_ret (q_block_ret (q_then_ret ?_)))))
            have hr0 : ([] : List Int) = ((Trc.parse s).1) := by
              first | exact hend.1 | exact hend.2
            have hr1 : ((Trc.pErr ((Trc.words s).getD k default)) : Int) = ((Trc.parse s).2) := by
              first | exact hend.1 | exact hend.2
            refine q_endM (p := (none, 0)) (fun _ => False) (rt2 rfl (r_tmp rfl) (r_tmp rfl)) (i := 2) rfl ?_ ?_ ?_
            · exact (by have hcc := congr (congrArg (fun (y0 : List Int) (y1 : Int) => (.tuple #[.slice none y0.length 0, .int .i64 y1] : Value)) hr0) hr1; exact hcc)
            · intro w hw b hb; exact hb.elim
            · intro w hw; exact Eq.mp (congrArg (fun y => SlO tInt _ w none 0 y) hr0) (SlO.nil tInt w)
          · simp only [bne_eq_false_iff_eq] at hc13
            have he0 := hc13
            have hms := hmy.resolve_left (fun h => h he0)
            refine c_skip ?_
            refine q_then ?_
            refine c_seq ?_
            refine c_region ?_
            refine o_pure (p_move (v := .int .i64 (Trc.pMany ((Trc.words s).getD k default))) rfl) rfl rfl rfl ?_
            refine o_pure (p_move (v := .int .i64 0) rfl) rfl rfl rfl ?_
            refine o_nil ?_
            refine q_then ?_
            refine c_block ?_
            refine c_loop (St := List Int × Option Addr × Nat × (Nat → Prop) × Nat)
              (fun ⟨o2, ao2, co2, So2, j⟩ => [(4, .slice ao2 o2.length co2), (7, .int .i64 (Trc.pKey ((Trc.words s).getD k default))), (8, .int .i64 (Trc.pBy ((Trc.words s).getD k default))), (20, .slice a5 (Trc.words s).length c6), (21, .int .i64 ((Trc.words s).length : Int)), (22, .int .i64 (k : Int)), (45, .int .i64 (Trc.pMany ((Trc.words s).getD k default))), (46, .int .i64 (j : Int))])
              (fun ⟨o2, ao2, co2, So2, j⟩ => [own tInt So2 ao2 co2 o2, own tStr S3 a5 c6 (Trc.words s), base w0])
              (fun ⟨o2, ao2, co2, So2, j⟩ => Trc.AI out (Trc.pKey ((Trc.words s).getD k default)) (Trc.pBy ((Trc.words s).getD k default)) (Trc.pMany ((Trc.words s).getD k default)) o2 j)
              (fun ⟨o2, ao2, co2, So2, j⟩ => (Trc.pMany ((Trc.words s).getD k default)).toNat - j)
              (out, aout, cout, Sout, 0) ?_ (Sub.cons rfl (Sub.cons rfl (Sub.cons rfl (Sub.cons rfl (Sub.cons rfl (Sub.cons rfl (Sub.cons rfl (Sub.cons rfl (Sub.nil _))))))))) (fun _ hw => hw) ?_
            · exact Trc.AI.start _ _ _ _
            rintro ⟨o2, ao2, co2, So2, j⟩ hI_ K hK14
            have hA := hI_
            have hl2 := hA.len
            have hj2 := hA.le
            have hmb := Trc.mul_by ((Trc.words s).getD k default) j
            show SC _ _ Tryd.prog 61 w0 _ _ [(4, .slice ao2 o2.length co2), (7, .int .i64 (Trc.pKey ((Trc.words s).getD k default))), (8, .int .i64 (Trc.pBy ((Trc.words s).getD k default))), (20, .slice a5 (Trc.words s).length c6), (21, .int .i64 ((Trc.words s).length : Int)), (22, .int .i64 (k : Int)), (45, .int .i64 (Trc.pMany ((Trc.words s).getD k default))), (46, .int .i64 (j : Int))] [own tInt So2 ao2 co2 o2, own tStr S3 a5 c6 (Trc.words s), base w0]
            refine c_seq ?_
            refine c_region ?_
            refine o_pure (p_lt (p := (j : Int)) (q := (Trc.pMany ((Trc.words s).getD k default))) rfl rfl) rfl rfl rfl ?_
            refine o_nil ?_
            refine q_then ?_
            refine c_seq ?_
            refine c_cond (b := decide ((j : Int) < (Trc.pMany ((Trc.words s).getD k default)))) rfl (fun hc15 => ?_) (fun hc15 => ?_)
            · simp only [decide_eq_true_eq] at hc15
              refine c_skip ?_
              refine q_then ?_
              refine c_seq ?_
              refine c_block ?_
              refine c_seq ?_
              refine c_region ?_
              refine o_pure (p_move (v := .int .i64 (j : Int)) rfl) rfl rfl rfl ?_
              refine o_pure (p_assign (v := .int .i64 (j : Int)) rfl) rfl rfl rfl ?_
              refine o_nil ?_
              refine q_then ?_
              refine c_region ?_
              refine o_pure (p_move (v := .slice ao2 o2.length co2) rfl) rfl rfl rfl ?_
              refine o_pure (p_move (v := .int .i64 (Trc.pKey ((Trc.words s).getD k default))) rfl) rfl rfl rfl ?_
              refine o_pure (p_move (v := .int .i64 (j : Int)) rfl) rfl rfl rfl ?_
              refine o_pure (p_move (v := .int .i64 (Trc.pBy ((Trc.words s).getD k default))) rfl) rfl rfl rfl ?_
              refine o_pure (p_mulb (p := (j : Int)) (q := (Trc.pBy ((Trc.words s).getD k default))) rfl rfl (by omega)) rfl rfl rfl ?_
              refine o_pure (p_addb (p := (Trc.pKey ((Trc.words s).getD k default))) (q := ((j : Int) * (Trc.pBy ((Trc.words s).getD k default)))) rfl rfl (by omega)) rfl rfl rfl ?_
              refine o_buildSlice (m := 1) (T := tInt) (L := [((Trc.pKey ((Trc.words s).getD k default)) + ((j : Int) * (Trc.pBy ((Trc.words s).getD k default))))]) (vs := [.int .i64 ((Trc.pKey ((Trc.words s).getD k default)) + ((j : Int) * (Trc.pBy ((Trc.words s).getD k default))))]) rfl rfl rfl rfl Tryd.underlying22 sz3 (by decide) ze3 rfl (by decide) rfl (fun S16 a17 => ?_)
              refine o_append (i := 1) (L := o2) (M := [((Trc.pKey ((Trc.words s).getD k default)) + ((j : Int) * (Trc.pBy ((Trc.words s).getD k default))))]) (T := tInt) rfl rfl rfl (rd_own (i := 0) rfl) Tryd.underlying22 Tryd.underlying22 (by intro k h; cases h) el3 (by intro z; simp [tInt, one1]) (by decide) (by first | omega | (simp only [List.length_cons, List.length_nil]; omega) | (simp only [List.length_append, List.length_cons, List.length_nil, List.length_take, List.length_drop]; omega)) rfl (fun a19 c20 S21 => ?_)
              refine o_pure (p_assign (v := .slice a19 (o2 ++ [((Trc.pKey ((Trc.words s).getD k default)) + ((j : Int) * (Trc.pBy ((Trc.words s).getD k default))))]).length c20) rfl) rfl rfl rfl ?_
              refine o_nil ?_
              refine q_block_normal (q_then ?_)
              refine c_region ?_
              refine o_pure (p_addb (p := (j : Int)) (q := 1) rfl rfl (by omega)) rfl rfl rfl ?_
              refine o_pure (p_move (v := .int .i64 ((j : Int) + 1)) rfl) rfl rfl rfl ?_
              refine o_nil ?_
              refine q_round hK14 ((o2 ++ [((Trc.pKey ((Trc.words s).getD k default)) + ((j : Int) * (Trc.pBy ((Trc.words s).getD k default))))]), a19, c20, S21, j + 1) ?_ ?_ ?_ ?_
              · clear hK14
                exact hA.next (by omega)
              · (try dsimp only); omega
              · exact Sub.cons rfl (Sub.cons rfl (Sub.cons rfl (Sub.cons rfl (Sub.cons rfl (Sub.cons rfl (Sub.cons rfl (Sub.cons rfl (Sub.nil _))))))))
              · exact fun _ hw => HeapIs.pick hw [1, 2, 3] (by decide) rfl
            · simp only [decide_eq_false_iff_not, Int.not_lt] at hc15
              refine c_exit ?_
              refine q_then_exit (q_then_exit (q_block_exit (q_block_normal (q_then ?_))))
              refine c_region ?_
              refine o_pure (p_addb (p := (k : Int)) (q := 1) rfl rfl (by omega)) rfl rfl rfl ?_
              refine o_pure (p_move (v := .int .i64 ((k : Int) + 1)) rfl) rfl rfl rfl ?_
              refine o_nil ?_
              refine q_round hK9 (o2, ao2, co2, So2, k + 1) ?_ ?_ ?_ ?_
              · clear hK9
                exact hI.next (by omega) he0 (by omega) (hA.done (by omega) (by omega))
              · (try dsimp only); omega
              · exact Sub.cons rfl (Sub.cons rfl (Sub.cons rfl (Sub.cons rfl (Sub.nil _))))
              · exact fun _ hw => HeapIs.pick hw [0, 1, 2] (by decide) rfl
      · simp only [decide_eq_false_iff_not, Int.not_lt] at hc10
        have hend := hI.done (by omega)
        refine c_exit ?_
        refine q_then_exit (q_then_exit (q_block_exit (q_then ?_)))
        refine c_seq ?_
        refine c_region ?_
        refine o_pure (p_move (v := .slice aout out.length cout) rfl) rfl rfl rfl ?_
        refine o_callX (pre := [own tInt Sout aout cout out]) (R := [own tStr S3 a5 c6 (Trc.words s), base w0]) rfl (tclip_ok out aout cout Sout) hf21 rfl (fun _ _ => trivial) rfl ?_
        rintro ⟨a22, c23, S24⟩
        refine o_asH (H' := [own tInt S24 a22 c23 out, own tStr S3 a5 c6 (Trc.words s), base w0]) rfl ?_
        refine o_pure (p_assign (v := .slice a22 out.length c23) rfl) rfl rfl rfl ?_
        refine o_pure (p_assign (v := .int .i64 0) rfl) rfl rfl rfl ?_
        refine o_nil ?_
        refine q_then ?_
        refine c_ret ?_
        have hr0 : (out : List Int) = ((Trc.parse s).1) := by
          first | exact hend.1 | exact hend.2
        have hr1 : (0 : Int) = ((Trc.parse s).2) := by
          first | exact hend.1 | exact hend.2
        refine q_endM (p := (a22, c23)) S24 (rt2 rfl (r_tmp rfl) (r_tmp rfl)) (i := 2) rfl ?_ ?_ ?_
        · exact (by have hcc := congr (congrArg (fun (y0 : List Int) (y1 : Int) => (.tuple #[.slice a22 y0.length c23, .int .i64 y1] : Value)) hr0) hr1; exact hcc)
        · exact fun w hw => hw.above (i := 2) (j := 0) (by decide) rfl rfl
        · intro w hw; exact Eq.mp (congrArg (fun y => SlO tInt _ w a22 c23 y) hr0) ((hw.at (i := 0) rfl).here)

set_option maxHeartbeats 8000000 in
set_option maxRecDepth 100000 in
theorem tformat_ok (l : List Int) (al : Option Addr) (cl : Nat) : Fn0 Tryd.prog 7 [.slice al l.length cl] (fun w => Rd tInt w al cl l ∧ TabW w) (.tuple #[.string (Trc.format l), .int .i64 (Lru.trace l)]) := by
  refine fn0 (nt := 57) (F0 := [(0, .slice al l.length cl)]) Tryd.func7 rfl Tryd.ntmps7 rfl rfl (fun w0 hpre => ?_)
  obtain ⟨hl, hTabW⟩ := hpre
  have hlhl := hl.2.1
  have s42 : (ByteArray.mk #[42]).size = 1 := rfl
  have s45 : (ByteArray.mk #[45]).size = 1 := rfl
  refine c_seq ?_
  refine c_region ?_
  refine o_pure (p_assign (v := .string (ByteArray.mk #[])) rfl) rfl rfl rfl ?_
  refine o_pure (p_assign (v := .int .i64 0) rfl) rfl rfl rfl ?_
  refine o_nil ?_
  refine q_then ?_
  refine c_seq ?_
  refine c_seq ?_
  refine c_region ?_
  refine o_pure (p_move (v := .slice al l.length cl) rfl) rfl rfl rfl ?_
  refine o_call0 (v := .int .i64 (Lru.trace l)) rfl (checkTrace_ok l al cl) hf15 (fun w hw => (rd_base (i := 0) rfl hl) w hw) rfl ?_
  refine o_pure (p_assign (v := .int .i64 (Lru.trace l)) rfl) rfl rfl rfl ?_
  refine o_nil ?_
  refine q_then ?_
  refine c_seq ?_
  refine c_region ?_
  refine o_pure (p_move (v := .int .i64 (Lru.trace l)) rfl) rfl rfl rfl ?_
  refine o_pure (p_ne (p := (Lru.trace l)) (q := 0) rfl rfl) rfl rfl rfl ?_
  refine o_nil ?_
  refine q_then ?_
  refine c_cond (b := ((Lru.trace l) != 0)) rfl (fun hc1 => ?_) (fun hc1 => ?_)
  · simp only [bne_iff_ne, ne_eq] at hc1
    have hend := Trc.fmt_bad hc1
    refine c_seq ?_
    refine c_region ?_
    refine o_pure (p_move (v := .int .i64 (Lru.trace l)) rfl) rfl rfl rfl ?_
    refine o_pure (p_assign (v := .string (ByteArray.mk #[])) rfl) rfl rfl rfl ?_
    refine o_pure (p_assign (v := .int .i64 (Lru.trace l)) rfl) rfl rfl rfl ?_
    refine o_nil ?_
    refine q_then ?_
    refine c_ret ?_
    refine q_then_ret ?_
    have hr0 : ((ByteArray.mk #[]) : ByteArray) = (Trc.format l) := by
      first | rfl | exact hend | exact htr.symm
    refine q_end0 (v := .tuple #[.string (ByteArray.mk #[]), .int .i64 (Lru.trace l)]) (rt2 rfl (r_tmp rfl) (r_tmp rfl)) (i := 0) rfl ?_
    exact (by have hcc := congrArg (fun (y0 : ByteArray) => (.tuple #[.string y0, .int .i64 (Lru.trace l)] : Value)) hr0; exact hcc)
  · simp only [bne_eq_false_iff_eq] at hc1
    have htr := hc1
    refine c_skip ?_
    refine q_then ?_
    refine c_seq ?_
    refine c_region ?_
    refine o_pure (p_assign (v := .slice none 0 0) rfl) rfl rfl rfl ?_
    refine o_nil ?_
    refine q_then ?_
    refine c_seq ?_
    refine c_block ?_
    refine c_ownNil tStr ?_
    refine c_loop (St := List Int × Option Addr × Nat × List ByteArray × Option Addr × Nat × (Nat → Prop))
      (fun ⟨l2, al2, cl2, out, aout, cout, Sout⟩ => [(0, .slice al2 l2.length cl2), (5, .slice aout out.length cout)])
      (fun ⟨l2, al2, cl2, out, aout, cout, Sout⟩ => [own tStr Sout aout cout out, base w0])
      (fun ⟨l2, al2, cl2, out, aout, cout, Sout⟩ => Trc.FI l l2 out ∧ Rd tInt w0 al2 cl2 l2)
      (fun ⟨l2, al2, cl2, out, aout, cout, Sout⟩ => l2.length)
      (l, al, cl, [], none, 0, (fun _ => False)) ?_ (Sub.cons rfl (Sub.cons rfl (Sub.nil _))) (fun _ hw => hw) ?_
    · exact ⟨Trc.FI.start htr, hl⟩
    rintro ⟨l2, al2, cl2, out, aout, cout, Sout⟩ hI K hK3
    obtain ⟨hF, hl2⟩ := hI
    have hl2l := hl2.2.1
    have hln := hF.len
    have hol := hF.olen
    show SC _ _ Tryd.prog 57 w0 _ _ [(0, .slice al2 l2.length cl2), (5, .slice aout out.length cout)] [own tStr Sout aout cout out, base w0]
    refine c_seq ?_
    refine c_seq ?_
    refine c_region ?_
    refine o_pure (p_move (v := .slice al2 l2.length cl2) rfl) rfl rfl rfl ?_
    refine o_pure (p_len_slice (len := l2.length) rfl rfl Tryd.underlying22) rfl rfl rfl ?_
    refine o_pure (p_gt (p := (l2.length : Int)) (q := 0) rfl rfl) rfl rfl rfl ?_
    refine o_nil ?_
    refine q_then ?_
    refine c_cond (b := decide (0 < (l2.length : Int))) rfl (fun hc4 => ?_) (fun hc4 => ?_)
    · simp only [decide_eq_true_eq] at hc4
      have hne := Trc.len_pos hc4
      have hkk := hF.keys
      have hr0 := Trc.run_le hne 0
      have hr1 := Trc.run_le hne 1
      have hp0 := Trc.run_pos 0 l2
      have hp1 := Trc.run_pos 1 l2
      have hk0 := Trc.key_bd hkk 0
      have z0 := Trc.decS_sz (n := l2.getD 0 default) (by omega)
      refine c_skip ?_
      refine q_then ?_
      refine c_block ?_
      refine c_seq ?_
      refine c_region ?_
      refine o_pure (p_move (v := .slice al2 l2.length cl2) rfl) rfl rfl rfl ?_
      refine o_call0 (v := .int .i64 (Trc.run (0 : Int) l2 : Int)) rfl (trun_ok l2 al2 cl2 (0 : Int) (by first | assumption | exact ⟨hne, hkk, .inl rfl⟩ | exact ⟨hne, hkk, .inr rfl⟩)) hf16 (fun w hw => (rd_base (i := 1) rfl hl2) w hw) rfl ?_
      refine o_pure (p_move (v := .slice al2 l2.length cl2) rfl) rfl rfl rfl ?_
      refine o_call0 (v := .int .i64 (Trc.run (1 : Int) l2 : Int)) rfl (trun_ok l2 al2 cl2 (1 : Int) (by first | assumption | exact ⟨hne, hkk, .inl rfl⟩ | exact ⟨hne, hkk, .inr rfl⟩)) hf16 (fun w hw => (rd_base (i := 1) rfl hl2) w hw) rfl ?_
      refine o_pure (p_assign (v := .int .i64 (Trc.run (0 : Int) l2 : Int)) rfl) rfl rfl rfl ?_
      refine o_pure (p_assign (v := .int .i64 (Trc.run (1 : Int) l2 : Int)) rfl) rfl rfl rfl ?_
      refine o_nil ?_
      refine q_then ?_
      refine c_seq ?_
      refine c_region ?_
      refine o_pure (p_move (v := .slice al2 l2.length cl2) rfl) rfl rfl rfl ?_
      refine o_pure (p_indexAddr (L := l2) (T := tInt) (i := 0) rfl rfl (rd_base (i := 1) rfl hl2) Tryd.underlying22 sz3 (by omega) (by omega)) rfl rfl rfl ?_
      refine o_pure (p_loadE1 (i := 0) (T := tInt) (L := l2) (v := .int .i64 (l2.getD 0 default)) rfl (rd_base (i := 1) rfl hl2) (by first | assumption | omega) sh3 (congrArg tInt.enc (getd_at (by first | assumption | omega) default))) rfl rfl rfl ?_
      refine o_call0 (v := .string (Trc.decS (l2.getD 0 default))) rfl (kitoa_ok (l2.getD 0 default) (by omega)) hf17 (fun w hw => pre_base (i := 1) rfl TabW_st hTabW w hw) rfl ?_
      refine o_pure (p_assign (v := .string (Trc.decS (l2.getD 0 default))) rfl) rfl rfl rfl ?_
      refine o_nil ?_
      refine q_then ?_
      refine c_seq ?_
      refine c_region ?_
      refine o_pure (p_assign (v := .int .i64 1) rfl) rfl rfl rfl ?_
      refine o_nil ?_
      refine q_then ?_
      refine c_seq ?_
      refine c_block ?_
      refine c_seq ?_
      refine c_region ?_
      refine o_pure (p_move (v := .int .i64 (Trc.run (0 : Int) l2 : Int)) rfl) rfl rfl rfl ?_
      refine o_pure (p_gt (p := (Trc.run (0 : Int) l2 : Int)) (q := 1) rfl rfl) rfl rfl rfl ?_
      refine o_pure (p_assign (v := .bool (decide (1 < (Trc.run (0 : Int) l2 : Int)))) rfl) rfl rfl rfl ?_
      refine o_nil ?_
      refine q_then ?_
      refine c_cond (b := decide (1 < (Trc.run (0 : Int) l2 : Int))) rfl (fun hc5 => ?_) (fun hc5 => ?_)
      · simp only [decide_eq_true_eq] at hc5
        have hst := hc5
        have z1 := Trc.decS_sz (n := (Trc.run 0 l2 : Int)) (by omega)
        refine c_seq ?_
        refine c_region ?_
        refine o_pure (p_move (v := .int .i64 (Trc.run (0 : Int) l2 : Int)) rfl) rfl rfl rfl ?_
        refine o_pure (p_assign (v := .int .i64 (Trc.run (0 : Int) l2 : Int)) rfl) rfl rfl rfl ?_
        refine o_nil ?_
        refine q_then ?_
        refine c_region ?_
        refine o_pure (p_move (v := .string (Trc.decS (l2.getD 0 default))) rfl) rfl rfl rfl ?_
        refine o_pure (p_move (v := .int .i64 (Trc.run (0 : Int) l2 : Int)) rfl) rfl rfl rfl ?_
        refine o_call0 (v := .string (Trc.decS (Trc.run (0 : Int) l2 : Int))) rfl (kitoa_ok (Trc.run (0 : Int) l2 : Int) (by omega)) hf17 (fun w hw => pre_base (i := 1) rfl TabW_st hTabW w hw) rfl ?_
        refine o_pure (p_addStr (s := (ByteArray.mk #[42])) (t := (Trc.decS (Trc.run (0 : Int) l2 : Int))) rfl rfl (by first | omega | (simp only [ByteArray.size_append]; omega))) rfl rfl rfl ?_
        refine o_pure (p_addStr (s := (Trc.decS (l2.getD 0 default))) (t := ((ByteArray.mk #[42]) ++ (Trc.decS (Trc.run (0 : Int) l2 : Int)))) rfl rfl (by first | omega | (simp only [ByteArray.size_append]; omega))) rfl rfl rfl ?_
        refine o_pure (p_assign (v := .string ((Trc.decS (l2.getD 0 default)) ++ ((ByteArray.mk #[42]) ++ (Trc.decS (Trc.run (0 : Int) l2 : Int))))) rfl) rfl rfl rfl ?_
        refine o_nil ?_
        refine q_block_normal (q_then ?_)
        refine c_seq ?_
        refine c_region ?_
        refine o_pure (p_move (v := .slice aout out.length cout) rfl) rfl rfl rfl ?_
        refine o_pure (p_move (v := .string ((Trc.decS (l2.getD 0 default)) ++ ((ByteArray.mk #[42]) ++ (Trc.decS (Trc.run (0 : Int) l2 : Int))))) rfl) rfl rfl rfl ?_
        refine o_buildSlice (m := 1) (T := tStr) (L := [((Trc.decS (l2.getD 0 default)) ++ ((ByteArray.mk #[42]) ++ (Trc.decS (Trc.run (0 : Int) l2 : Int))))]) (vs := [.string ((Trc.decS (l2.getD 0 default)) ++ ((ByteArray.mk #[42]) ++ (Trc.decS (Trc.run (0 : Int) l2 : Int))))]) rfl rfl rfl rfl Tryd.underlying37 sz9 (by decide) ze9 rfl (by decide) rfl (fun S6 a7 => ?_)
        refine o_append (i := 1) (L := out) (M := [((Trc.decS (l2.getD 0 default)) ++ ((ByteArray.mk #[42]) ++ (Trc.decS (Trc.run (0 : Int) l2 : Int))))]) (T := tStr) rfl rfl rfl (rd_own (i := 0) rfl) Tryd.underlying37 Tryd.underlying37 (by intro k h; cases h) el9 (by intro z; simp [tStr, one1]) (by decide) (by first | omega | (simp only [List.length_cons, List.length_nil]; omega) | (simp only [List.length_append, List.length_cons, List.length_nil, List.length_take, List.length_drop]; omega)) rfl (fun a9 c10 S11 => ?_)
        refine o_pure (p_assign (v := .slice a9 (out ++ [((Trc.decS (l2.getD 0 default)) ++ ((ByteArray.mk #[42]) ++ (Trc.decS (Trc.run (0 : Int) l2 : Int))))]).length c10) rfl) rfl rfl rfl ?_
        refine o_nil ?_
        refine q_then ?_
        refine c_region ?_
        refine o_pure (p_move (v := .slice al2 l2.length cl2) rfl) rfl rfl rfl ?_
        refine o_pure (p_move (v := .int .i64 (Trc.run (0 : Int) l2 : Int)) rfl) rfl rfl rfl ?_
        refine o_pure (p_sliceL (L := l2) (T := tInt) (l := (Trc.run (0 : Int) l2 : Int)) rfl rfl Tryd.underlying22 sz3 (by omega) (by omega) (rd_base (i := 2) rfl hl2)) rfl rfl rfl ?_
        refine o_pure (p_assign (v := .slice (sa al2 cl2 ((Trc.run (0 : Int) l2 : Int).toNat) tInt.k) (l2.drop ((Trc.run (0 : Int) l2 : Int).toNat)).length (cl2 - (Trc.run (0 : Int) l2 : Int).toNat)) rfl) rfl rfl rfl ?_
        refine o_nil ?_
        refine q_block_normal ?_
        refine q_round hK3 ((l2.drop ((Trc.run (0 : Int) l2 : Int).toNat)), (sa al2 cl2 ((Trc.run (0 : Int) l2 : Int).toNat) tInt.k), (cl2 - (Trc.run (0 : Int) l2 : Int).toNat), (out ++ [((Trc.decS (l2.getD 0 default)) ++ ((ByteArray.mk #[42]) ++ (Trc.decS (Trc.run (0 : Int) l2 : Int))))]), a9, c10, S11) ?_ ?_ ?_ ?_
        · clear hK3
          first | exact ⟨hF.star hne hst, Rd_drop hl2 (by omega)⟩ | exact ⟨hF.dash hne hst hds, Rd_drop hl2 (by omega)⟩ | exact ⟨hF.one hne hst hds, Rd_drop hl2 (by omega)⟩
        · (try dsimp only); rw [List.length_drop]; omega
        · exact Sub.cons rfl (Sub.cons rfl (Sub.nil _))
        · exact fun _ hw => HeapIs.pick hw [1, 2] (by decide) rfl
      · simp only [decide_eq_false_iff_not, Int.not_lt] at hc5
        have hst := hc5
        refine c_seq ?_
        refine c_region ?_
        refine o_pure (p_move (v := .int .i64 (Trc.run (1 : Int) l2 : Int)) rfl) rfl rfl rfl ?_
        refine o_pure (p_gt (p := (Trc.run (1 : Int) l2 : Int)) (q := 2) rfl rfl) rfl rfl rfl ?_
        refine o_pure (p_assign (v := .bool (decide (2 < (Trc.run (1 : Int) l2 : Int)))) rfl) rfl rfl rfl ?_
        refine o_nil ?_
        refine q_then ?_
        refine c_cond (b := decide (2 < (Trc.run (1 : Int) l2 : Int))) rfl (fun hc12 => ?_) (fun hc12 => ?_)
        · simp only [decide_eq_true_eq] at hc12
          have hds := hc12
          have hlb := Trc.key_bd hkk ((Trc.run 1 l2 : Int) - 1).toNat
          have z1 := Trc.decS_sz (n := l2.getD ((Trc.run 1 l2 : Int) - 1).toNat default) (by omega)
          refine c_seq ?_
          refine c_region ?_
          refine o_pure (p_move (v := .int .i64 (Trc.run (1 : Int) l2 : Int)) rfl) rfl rfl rfl ?_
          refine o_pure (p_assign (v := .int .i64 (Trc.run (1 : Int) l2 : Int)) rfl) rfl rfl rfl ?_
          refine o_nil ?_
          refine q_then ?_
          refine c_region ?_
          refine o_pure (p_move (v := .string (Trc.decS (l2.getD 0 default))) rfl) rfl rfl rfl ?_
          refine o_pure (p_move (v := .slice al2 l2.length cl2) rfl) rfl rfl rfl ?_
          refine o_pure (p_move (v := .int .i64 (Trc.run (1 : Int) l2 : Int)) rfl) rfl rfl rfl ?_
          refine o_pure (p_subb (p := (Trc.run (1 : Int) l2 : Int)) (q := 1) rfl rfl (by omega)) rfl rfl rfl ?_
          refine o_pure (p_indexAddr (L := l2) (T := tInt) (i := ((Trc.run (1 : Int) l2 : Int) - 1)) rfl rfl (rd_base (i := 1) rfl hl2) Tryd.underlying22 sz3 (by omega) (by omega)) rfl rfl rfl ?_
          refine o_pure (p_loadE1 (i := ((Trc.run (1 : Int) l2 : Int) - 1).toNat) (T := tInt) (L := l2) (v := .int .i64 (l2.getD (((Trc.run (1 : Int) l2 : Int) - 1).toNat) default)) rfl (rd_base (i := 1) rfl hl2) (by first | assumption | omega) sh3 (congrArg tInt.enc (getd_at (by first | assumption | omega) default))) rfl rfl rfl ?_
          refine o_call0 (v := .string (Trc.decS (l2.getD (((Trc.run (1 : Int) l2 : Int) - 1).toNat) default))) rfl (kitoa_ok (l2.getD (((Trc.run (1 : Int) l2 : Int) - 1).toNat) default) (by omega)) hf17 (fun w hw => pre_base (i := 1) rfl TabW_st hTabW w hw) rfl ?_
          refine o_pure (p_addStr (s := (ByteArray.mk #[45])) (t := (Trc.decS (l2.getD (((Trc.run (1 : Int) l2 : Int) - 1).toNat) default))) rfl rfl (by first | omega | (simp only [ByteArray.size_append]; omega))) rfl rfl rfl ?_
          refine o_pure (p_addStr (s := (Trc.decS (l2.getD 0 default))) (t := ((ByteArray.mk #[45]) ++ (Trc.decS (l2.getD (((Trc.run (1 : Int) l2 : Int) - 1).toNat) default)))) rfl rfl (by first | omega | (simp only [ByteArray.size_append]; omega))) rfl rfl rfl ?_
          refine o_pure (p_assign (v := .string ((Trc.decS (l2.getD 0 default)) ++ ((ByteArray.mk #[45]) ++ (Trc.decS (l2.getD (((Trc.run (1 : Int) l2 : Int) - 1).toNat) default))))) rfl) rfl rfl rfl ?_
          refine o_nil ?_
          refine q_block_normal (q_then ?_)
          refine c_seq ?_
          refine c_region ?_
          refine o_pure (p_move (v := .slice aout out.length cout) rfl) rfl rfl rfl ?_
          refine o_pure (p_move (v := .string ((Trc.decS (l2.getD 0 default)) ++ ((ByteArray.mk #[45]) ++ (Trc.decS (l2.getD (((Trc.run (1 : Int) l2 : Int) - 1).toNat) default))))) rfl) rfl rfl rfl ?_
          refine o_buildSlice (m := 1) (T := tStr) (L := [((Trc.decS (l2.getD 0 default)) ++ ((ByteArray.mk #[45]) ++ (Trc.decS (l2.getD (((Trc.run (1 : Int) l2 : Int) - 1).toNat) default))))]) (vs := [.string ((Trc.decS (l2.getD 0 default)) ++ ((ByteArray.mk #[45]) ++ (Trc.decS (l2.getD (((Trc.run (1 : Int) l2 : Int) - 1).toNat) default))))]) rfl rfl rfl rfl Tryd.underlying37 sz9 (by decide) ze9 rfl (by decide) rfl (fun S13 a14 => ?_)
          refine o_append (i := 1) (L := out) (M := [((Trc.decS (l2.getD 0 default)) ++ ((ByteArray.mk #[45]) ++ (Trc.decS (l2.getD (((Trc.run (1 : Int) l2 : Int) - 1).toNat) default))))]) (T := tStr) rfl rfl rfl (rd_own (i := 0) rfl) Tryd.underlying37 Tryd.underlying37 (by intro k h; cases h) el9 (by intro z; simp [tStr, one1]) (by decide) (by first | omega | (simp only [List.length_cons, List.length_nil]; omega) | (simp only [List.length_append, List.length_cons, List.length_nil, List.length_take, List.length_drop]; omega)) rfl (fun a16 c17 S18 => ?_)
          refine o_pure (p_assign (v := .slice a16 (out ++ [((Trc.decS (l2.getD 0 default)) ++ ((ByteArray.mk #[45]) ++ (Trc.decS (l2.getD (((Trc.run (1 : Int) l2 : Int) - 1).toNat) default))))]).length c17) rfl) rfl rfl rfl ?_
          refine o_nil ?_
          refine q_then ?_
          refine c_region ?_
          refine o_pure (p_move (v := .slice al2 l2.length cl2) rfl) rfl rfl rfl ?_
          refine o_pure (p_move (v := .int .i64 (Trc.run (1 : Int) l2 : Int)) rfl) rfl rfl rfl ?_
          refine o_pure (p_sliceL (L := l2) (T := tInt) (l := (Trc.run (1 : Int) l2 : Int)) rfl rfl Tryd.underlying22 sz3 (by omega) (by omega) (rd_base (i := 2) rfl hl2)) rfl rfl rfl ?_
          refine o_pure (p_assign (v := .slice (sa al2 cl2 ((Trc.run (1 : Int) l2 : Int).toNat) tInt.k) (l2.drop ((Trc.run (1 : Int) l2 : Int).toNat)).length (cl2 - (Trc.run (1 : Int) l2 : Int).toNat)) rfl) rfl rfl rfl ?_
          refine o_nil ?_
          refine q_block_normal ?_
          refine q_round hK3 ((l2.drop ((Trc.run (1 : Int) l2 : Int).toNat)), (sa al2 cl2 ((Trc.run (1 : Int) l2 : Int).toNat) tInt.k), (cl2 - (Trc.run (1 : Int) l2 : Int).toNat), (out ++ [((Trc.decS (l2.getD 0 default)) ++ ((ByteArray.mk #[45]) ++ (Trc.decS (l2.getD (((Trc.run (1 : Int) l2 : Int) - 1).toNat) default))))]), a16, c17, S18) ?_ ?_ ?_ ?_
          · clear hK3
            first | exact ⟨hF.star hne hst, Rd_drop hl2 (by omega)⟩ | exact ⟨hF.dash hne hst hds, Rd_drop hl2 (by omega)⟩ | exact ⟨hF.one hne hst hds, Rd_drop hl2 (by omega)⟩
          · (try dsimp only); rw [List.length_drop]; omega
          · exact Sub.cons rfl (Sub.cons rfl (Sub.nil _))
          · exact fun _ hw => HeapIs.pick hw [1, 2] (by decide) rfl
        · simp only [decide_eq_false_iff_not, Int.not_lt] at hc12
          have hds := hc12
          refine c_skip ?_
          refine q_block_normal (q_then ?_)
          refine c_seq ?_
          refine c_region ?_
          refine o_pure (p_move (v := .slice aout out.length cout) rfl) rfl rfl rfl ?_
          refine o_pure (p_move (v := .string (Trc.decS (l2.getD 0 default))) rfl) rfl rfl rfl ?_
          refine o_buildSlice (m := 1) (T := tStr) (L := [(Trc.decS (l2.getD 0 default))]) (vs := [.string (Trc.decS (l2.getD 0 default))]) rfl rfl rfl rfl Tryd.underlying37 sz9 (by decide) ze9 rfl (by decide) rfl (fun S19 a20 => ?_)
          refine o_append (i := 1) (L := out) (M := [(Trc.decS (l2.getD 0 default))]) (T := tStr) rfl rfl rfl (rd_own (i := 0) rfl) Tryd.underlying37 Tryd.underlying37 (by intro k h; cases h) el9 (by intro z; simp [tStr, one1]) (by decide) (by first | omega | (simp only [List.length_cons, List.length_nil]; omega) | (simp only [List.length_append, List.length_cons, List.length_nil, List.length_take, List.length_drop]; omega)) rfl (fun a22 c23 S24 => ?_)
          refine o_pure (p_assign (v := .slice a22 (out ++ [(Trc.decS (l2.getD 0 default))]).length c23) rfl) rfl rfl rfl ?_
          refine o_nil ?_
          refine q_then ?_
          refine c_region ?_
          refine o_pure (p_move (v := .slice al2 l2.length cl2) rfl) rfl rfl rfl ?_
          refine o_pure (p_move (v := .int .i64 1) rfl) rfl rfl rfl ?_
          refine o_pure (p_sliceL (L := l2) (T := tInt) (l := 1) rfl rfl Tryd.underlying22 sz3 (by omega) (by omega) (rd_base (i := 2) rfl hl2)) rfl rfl rfl ?_
          refine o_pure (p_assign (v := .slice (sa al2 cl2 1 tInt.k) (l2.drop 1).length (cl2 - 1)) rfl) rfl rfl rfl ?_
          refine o_nil ?_
          refine q_block_normal ?_
          refine q_round hK3 ((l2.drop 1), (sa al2 cl2 1 tInt.k), (cl2 - 1), (out ++ [(Trc.decS (l2.getD 0 default))]), a22, c23, S24) ?_ ?_ ?_ ?_
          · clear hK3
            first | exact ⟨hF.star hne hst, Rd_drop hl2 (by omega)⟩ | exact ⟨hF.dash hne hst hds, Rd_drop hl2 (by omega)⟩ | exact ⟨hF.one hne hst hds, Rd_drop hl2 (by omega)⟩
          · (try dsimp only); rw [List.length_drop]; omega
          · exact Sub.cons rfl (Sub.cons rfl (Sub.nil _))
          · exact fun _ hw => HeapIs.pick hw [1, 2] (by decide) rfl
    · simp only [decide_eq_false_iff_not, Int.not_lt] at hc4
      have hjs := hF.size
      have hend := hF.done htr (by omega)
      refine c_exit ?_
      refine q_then_exit (q_then_exit (q_block_exit (q_then ?_)))
      refine c_seq ?_
      refine c_region ?_
      refine o_pure (p_move (v := .slice aout out.length cout) rfl) rfl rfl rfl ?_
      refine o_call0 (v := .string (Trc.joinB out (ByteArray.mk #[32]))) rfl (kjoin_ok out aout cout (ByteArray.mk #[32]) (by assumption)) hf18 (fun w hw => (rd_own (i := 0) rfl) w hw) rfl ?_
      refine o_pure (p_assign (v := .string (Trc.joinB out (ByteArray.mk #[32]))) rfl) rfl rfl rfl ?_
      refine o_pure (p_assign (v := .int .i64 0) rfl) rfl rfl rfl ?_
      refine o_nil ?_
      refine q_then ?_
      refine c_ret ?_
      have hr0 : ((Trc.joinB out (ByteArray.mk #[32])) : ByteArray) = (Trc.format l) := by
        first | rfl | exact hend | exact htr.symm
      have hr1 : (0 : Int) = (Lru.trace l) := by
        first | rfl | exact hend | exact htr.symm
      refine q_end0 (v := .tuple #[.string (Trc.joinB out (ByteArray.mk #[32])), .int .i64 0]) (rt2 rfl (r_tmp rfl) (r_tmp rfl)) (i := 1) rfl ?_
      exact (by have hcc := congr (congrArg (fun (y0 : ByteArray) (y1 : Int) => (.tuple #[.string y0, .int .i64 y1] : Value)) hr0) hr1; exact hcc)

set_option maxHeartbeats 8000000 in
set_option maxRecDepth 100000 in
theorem tcompact_ok (s : ByteArray) : Fn0 Tryd.prog 9 [.string s] (fun w => MaxW w ∧ TabW w) (.tuple #[.string (Trc.compact s), .int .i64 ((Trc.parse s).2)]) := by
  refine fn0 (nt := 18) (F0 := [(0, .string s)]) Tryd.func9 rfl Tryd.ntmps9 rfl rfl (fun w0 hpre => ?_)
  obtain ⟨hMaxW, hTabW⟩ := hpre
  refine c_seq ?_
  refine c_region ?_
  refine o_pure (p_assign (v := .string (ByteArray.mk #[])) rfl) rfl rfl rfl ?_
  refine o_pure (p_assign (v := .int .i64 0) rfl) rfl rfl rfl ?_
  refine o_nil ?_
  refine q_then ?_
  refine c_seq ?_
  refine c_region ?_
  refine o_pure (p_move (v := .string s) rfl) rfl rfl rfl ?_
  refine o_callM rfl (tparse_ok s) hf8 (fun w hw => pre_base (i := 0) rfl MaxW_st hMaxW w hw) rfl (fun _ _ _ _ ha hA => SlO.agree ha hA) ?_
  rintro ⟨a3, c4⟩ S1
  refine o_know (fun w hw => own_len (i := 0) (T := tInt) hw rfl) (fun hlr5 => ?_)
  refine o_pure (p_move (v := .tuple #[.slice a3 ((Trc.parse s).1).length c4, .int .i64 ((Trc.parse s).2)]) rfl) rfl rfl rfl ?_
  refine o_pure (p_extract (vs := [.slice a3 ((Trc.parse s).1).length c4, .int .i64 ((Trc.parse s).2)]) (v := .slice a3 ((Trc.parse s).1).length c4) rfl rfl) rfl rfl rfl ?_
  refine o_pure (p_extract (vs := [.slice a3 ((Trc.parse s).1).length c4, .int .i64 ((Trc.parse s).2)]) (v := .int .i64 ((Trc.parse s).2)) rfl rfl) rfl rfl rfl ?_
  refine o_pure (p_assign (v := .slice a3 ((Trc.parse s).1).length c4) rfl) rfl rfl rfl ?_
  refine o_pure (p_assign (v := .int .i64 ((Trc.parse s).2)) rfl) rfl rfl rfl ?_
  refine o_nil ?_
  refine q_then ?_
  refine c_seq ?_
  refine c_seq ?_
  refine c_region ?_
  refine o_pure (p_move (v := .int .i64 ((Trc.parse s).2)) rfl) rfl rfl rfl ?_
  refine o_pure (p_ne (p := ((Trc.parse s).2)) (q := 0) rfl rfl) rfl rfl rfl ?_
  refine o_nil ?_
  refine q_then ?_
  refine c_cond (b := (((Trc.parse s).2) != 0)) rfl (fun hc6 => ?_) (fun hc6 => ?_)
  · simp only [bne_iff_ne, ne_eq] at hc6
    have hcp := hc6
    refine c_seq ?_
    refine c_region ?_
    refine o_pure (p_move (v := .int .i64 ((Trc.parse s).2)) rfl) rfl rfl rfl ?_
    refine o_pure (p_assign (v := .string (ByteArray.mk #[])) rfl) rfl rfl rfl ?_
    refine o_pure (p_assign (v := .int .i64 ((Trc.parse s).2)) rfl) rfl rfl rfl ?_
    refine o_nil ?_
    refine q_then ?_
    refine c_ret ?_
    refine q_then_ret ?_
    have hr0 : ((ByteArray.mk #[]) : ByteArray) = (Trc.compact s) := by
      first | rfl | exact (if_neg hcp).symm | exact (if_pos hcp).symm | exact (Trc.parse_ok hcp).trans hcp.symm
    refine q_end0 (v := .tuple #[.string (ByteArray.mk #[]), .int .i64 ((Trc.parse s).2)]) (rt2 rfl (r_tmp rfl) (r_tmp rfl)) (i := 1) rfl ?_
    exact (by have hcc := congrArg (fun (y0 : ByteArray) => (.tuple #[.string y0, .int .i64 ((Trc.parse s).2)] : Value)) hr0; exact hcc)
  · simp only [bne_eq_false_iff_eq] at hc6
    have hcp := hc6
    refine c_skip ?_
    refine q_then ?_
    refine c_seq ?_
    refine c_region ?_
    refine o_pure (p_move (v := .slice a3 ((Trc.parse s).1).length c4) rfl) rfl rfl rfl ?_
    refine o_call0 (v := .tuple #[.string (Trc.format ((Trc.parse s).1)), .int .i64 (Lru.trace ((Trc.parse s).1))]) rfl (tformat_ok ((Trc.parse s).1) a3 c4) hf7 (fun w hw => ⟨(rd_own (i := 0) rfl) w hw, pre_base (i := 1) rfl TabW_st hTabW w hw⟩) rfl ?_
    refine o_pure (p_extract (vs := [.string (Trc.format ((Trc.parse s).1)), .int .i64 (Lru.trace ((Trc.parse s).1))]) (v := .string (Trc.format ((Trc.parse s).1))) rfl rfl) rfl rfl rfl ?_
    refine o_pure (p_extract (vs := [.string (Trc.format ((Trc.parse s).1)), .int .i64 (Lru.trace ((Trc.parse s).1))]) (v := .int .i64 (Lru.trace ((Trc.parse s).1))) rfl rfl) rfl rfl rfl ?_
    refine o_pure (p_assign (v := .string (Trc.format ((Trc.parse s).1))) rfl) rfl rfl rfl ?_
    refine o_pure (p_assign (v := .int .i64 (Lru.trace ((Trc.parse s).1))) rfl) rfl rfl rfl ?_
    refine o_nil ?_
    refine q_then ?_
    refine c_ret ?_
    have hr0 : ((Trc.format ((Trc.parse s).1)) : ByteArray) = (Trc.compact s) := by
      first | rfl | exact (if_neg hcp).symm | exact (if_pos hcp).symm | exact (Trc.parse_ok hcp).trans hcp.symm
    have hr1 : ((Lru.trace ((Trc.parse s).1)) : Int) = ((Trc.parse s).2) := by
      first | rfl | exact (if_neg hcp).symm | exact (if_pos hcp).symm | exact (Trc.parse_ok hcp).trans hcp.symm
    refine q_end0 (v := .tuple #[.string (Trc.format ((Trc.parse s).1)), .int .i64 (Lru.trace ((Trc.parse s).1))]) (rt2 rfl (r_tmp rfl) (r_tmp rfl)) (i := 1) rfl ?_
    exact (by have hcc := congr (congrArg (fun (y0 : ByteArray) (y1 : Int) => (.tuple #[.string y0, .int .i64 y1] : Value)) hr0) hr1; exact hcc)
end Go.Proofs.YtgkihbbeimhmbaaDoor

/- The walks, printed by a program from the translation and a specification. -/
namespace Go.Proofs.YtgkihbbeimhmbaaDoor
open Go.Sx Go.RowKit
set_option maxHeartbeats 8000000 in
set_option maxRecDepth 100000 in
theorem between_ok (n : Int) (a : Int) (b : Int) : Fn0 Tryd.prog 22 [.int .i64 n, .int .i64 a, .int .i64 b] (fun _ => True) (.bool (Ref.between n a b)) := by
  refine fn0 (nt := 15) (F0 := [(0, .int .i64 n), (1, .int .i64 a), (2, .int .i64 b)]) Tryd.func22 rfl Tryd.ntmps22 rfl rfl (fun w0 hpre => ?_)
  refine c_seq ?_
  refine c_region ?_
  refine o_pure (p_assign (v := .bool false) rfl) rfl rfl rfl ?_
  refine o_nil ?_
  refine q_then ?_
  refine c_seq ?_
  refine c_region ?_
  refine o_pure (p_move (v := .int .i64 n) rfl) rfl rfl rfl ?_
  refine o_pure (p_move (v := .int .i64 a) rfl) rfl rfl rfl ?_
  refine o_pure (p_ge (p := n) (q := a) rfl rfl) rfl rfl rfl ?_
  refine o_pure (p_move (v := .bool (decide (a ≤ n))) rfl) rfl rfl rfl ?_
  refine o_and (p := 14) 4 (decide (n ≤ b)) ?_ ?_ ?_
  · intro hb1 hk
    simp only [decide_eq_true_eq] at hb1
    refine o_unguard 10 rfl rfl ?_
    refine o_pure (p_move (v := .int .i64 n) rfl) rfl rfl rfl ?_
    refine o_unguard 10 rfl rfl ?_
    refine o_pure (p_move (v := .int .i64 b) rfl) rfl rfl rfl ?_
    refine o_unguard 10 rfl rfl ?_
    refine o_pure (p_le (p := n) (q := b) rfl rfl) rfl rfl rfl ?_
    refine o_pure (p_pick_true (u := .bool (decide (n ≤ b))) rfl rfl) rfl rfl rfl ?_
    exact o_sub (Sub.cons rfl (Sub.skip rfl (Sub.skip rfl (Sub.skip rfl (Sub.skip rfl (Sub.skip rfl (Sub.refl _))))))) hk
  · intro hb1 hk
    refine o_guard_no rfl 10 rfl rfl rfl rfl rfl ?_
    refine o_guard_no rfl 10 rfl rfl rfl rfl rfl ?_
    refine o_guard_no rfl 10 rfl rfl rfl rfl rfl ?_
    refine o_pure (p_pick_false (v := .bool false) rfl rfl) rfl rfl rfl ?_
    exact o_sub (Sub.cons rfl (Sub.skip rfl (Sub.skip rfl (Sub.skip rfl (Sub.skip rfl (Sub.skip rfl (Sub.refl _))))))) hk
  refine o_pure (p_assign (v := .bool (decide (a ≤ n) && decide (n ≤ b))) rfl) rfl rfl rfl ?_
  refine o_nil ?_
  refine q_then ?_
  refine c_ret ?_
  have hr0 : ((decide (a ≤ n) && decide (n ≤ b)) : Bool) = (Ref.between n a b) := by
    rfl
  refine q_end0 (v := .bool (decide (a ≤ n) && decide (n ≤ b))) (rt1 rfl (r_tmp rfl)) (i := 0) rfl ?_
  exact (by have hcc := congrArg (fun (y0 : Bool) => (.bool y0 : Value)) hr0; exact hcc)

set_option maxHeartbeats 8000000 in
set_option maxRecDepth 100000 in
theorem sameInts_ok (a : List Int) (aa : Option Addr) (ca : Nat) (b : List Int) (ab : Option Addr) (cb : Nat) : Fn0 Tryd.prog 14 [.slice aa a.length ca, .slice ab b.length cb] (fun w => Rd tInt w aa ca a ∧ Rd tInt w ab cb b) (.bool (Ref.sameInts a b)) := by
  refine fn0 (nt := 26) (F0 := [(0, .slice aa a.length ca), (1, .slice ab b.length cb)]) Tryd.func14 rfl Tryd.ntmps14 rfl rfl (fun w0 hpre => ?_)
  obtain ⟨ha, hb⟩ := hpre
  have hlha := ha.2.1
  have hlhb := hb.2.1
  refine c_seq ?_
  refine c_region ?_
  refine o_pure (p_assign (v := .bool false) rfl) rfl rfl rfl ?_
  refine o_nil ?_
  refine q_then ?_
  refine c_seq ?_
  refine c_seq ?_
  refine c_region ?_
  refine o_pure (p_move (v := .slice aa a.length ca) rfl) rfl rfl rfl ?_
  refine o_pure (p_len_slice (len := a.length) rfl rfl Tryd.underlying22) rfl rfl rfl ?_
  refine o_pure (p_move (v := .slice ab b.length cb) rfl) rfl rfl rfl ?_
  refine o_pure (p_len_slice (len := b.length) rfl rfl Tryd.underlying22) rfl rfl rfl ?_
  refine o_pure (p_ne (p := (a.length : Int)) (q := (b.length : Int)) rfl rfl) rfl rfl rfl ?_
  refine o_nil ?_
  refine q_then ?_
  refine c_cond (b := ((a.length : Int) != (b.length : Int))) rfl (fun hc1 => ?_) (fun hc1 => ?_)
  · simp only [bne_iff_ne, ne_eq] at hc1
    refine c_seq ?_
    refine c_region ?_
    refine o_pure (p_assign (v := .bool false) rfl) rfl rfl rfl ?_
    refine o_nil ?_
    refine q_then ?_
    refine c_ret ?_
    refine q_then_ret ?_
    have hr0 : (false : Bool) = (Ref.sameInts a b) := by
      simp only [Ref.sameInts]
      grind [List.ext_getElem]
    refine q_end0 (v := .bool false) (rt1 rfl (r_tmp rfl)) (i := 0) rfl ?_
    exact (by have hcc := congrArg (fun (y0 : Bool) => (.bool y0 : Value)) hr0; exact hcc)
  · simp only [bne_eq_false_iff_eq] at hc1
    refine c_skip ?_
    refine q_then ?_
    refine c_seq ?_
    refine c_seq ?_
    refine c_region ?_
    refine o_pure (p_assign (v := .int .i64 0) rfl) rfl rfl rfl ?_
    refine o_nil ?_
    refine q_then ?_
    refine c_block ?_
    refine c_loop (St := Nat)
      (fun i => [(0, .slice aa a.length ca), (1, .slice ab b.length cb), (5, .int .i64 (i : Int))])
      (fun i => [base w0])
      (fun i => i ≤ a.length ∧ ∀ j (h1 : j < a.length) (h2 : j < b.length), j < i → a[j] = b[j])
      (fun i => a.length - i)
      0 ?_ (Sub.cons rfl (Sub.cons rfl (Sub.cons rfl (Sub.nil _)))) (fun _ hw => hw) ?_
    · exact ⟨Nat.zero_le _, fun j _ _ h => absurd h (by omega)⟩
    rintro i hI K hK2
    obtain ⟨hi, hinv⟩ := hI
    show SC _ _ Tryd.prog 26 w0 _ _ [(0, .slice aa a.length ca), (1, .slice ab b.length cb), (5, .int .i64 (i : Int))] [base w0]
    refine c_seq ?_
    refine c_seq ?_
    refine c_region ?_
    refine o_pure (p_move (v := .int .i64 (i : Int)) rfl) rfl rfl rfl ?_
    refine o_pure (p_move (v := .slice aa a.length ca) rfl) rfl rfl rfl ?_
    refine o_pure (p_len_slice (len := a.length) rfl rfl Tryd.underlying22) rfl rfl rfl ?_
    refine o_pure (p_lt (p := (i : Int)) (q := (a.length : Int)) rfl rfl) rfl rfl rfl ?_
    refine o_nil ?_
    refine q_then ?_
    refine c_cond (b := decide ((i : Int) < (a.length : Int))) rfl (fun hc3 => ?_) (fun hc3 => ?_)
    · simp only [decide_eq_true_eq] at hc3
      refine c_skip ?_
      refine q_then ?_
      refine c_seq ?_
      refine c_block ?_
      refine c_seq ?_
      refine c_draw hmix (by kernel_rfl) ?_
      refine w_pure (p_move (v := .slice aa a.length ca) rfl) rfl rfl rfl ?_
      refine w_pure (p_move (v := .int .i64 (i : Int)) rfl) rfl rfl rfl ?_
      refine w_pure (p_indexAddr (L := a) (T := tInt) (i := (i : Int)) rfl rfl (rd_base (i := 0) rfl ha) Tryd.underlying22 sz3 (by omega) (by omega)) rfl rfl rfl ?_
      refine w_pure (p_loadE1 (i := i) (T := tInt) (L := a) (v := .int .i64 (a[i])) rfl (rd_base (i := 0) rfl ha) (by first | assumption | omega) sh3 rfl) rfl rfl rfl ?_
      refine w_pure (p_move (v := .slice ab b.length cb) rfl) rfl rfl rfl ?_
      refine w_pure (p_move (v := .int .i64 (i : Int)) rfl) rfl rfl rfl ?_
      refine w_pure (p_indexAddr (L := b) (T := tInt) (i := (i : Int)) rfl rfl (rd_base (i := 0) rfl hb) Tryd.underlying22 sz3 (by omega) (by omega)) rfl rfl rfl ?_
      refine w_pure (p_loadE1 (i := i) (T := tInt) (L := b) (v := .int .i64 (b[i])) rfl (rd_base (i := 0) rfl hb) (by first | assumption | omega) sh3 rfl) rfl rfl rfl ?_
      refine w_pure (p_ne (p := a[i]) (q := b[i]) rfl rfl) rfl rfl rfl ?_
      refine w_nil ?_
      refine q_then ?_
      refine c_cond (b := (a[i] != b[i])) rfl (fun hc4 => ?_) (fun hc4 => ?_)
      · simp only [bne_iff_ne, ne_eq] at hc4
        refine c_seq ?_
        refine c_region ?_
        refine o_pure (p_assign (v := .bool false) rfl) rfl rfl rfl ?_
        refine o_nil ?_
        refine q_then ?_
        refine c_ret ?_
        refine q_block_ret (q_then_ret (q_then_ret (q_block_ret (q_then_ret ?_))))
        have hr0 : (false : Bool) = (Ref.sameInts a b) := by
          simp only [Ref.sameInts]
          grind [List.ext_getElem]
        refine q_end0 (v := .bool false) (rt1 rfl (r_tmp rfl)) (i := 0) rfl ?_
        exact (by have hcc := congrArg (fun (y0 : Bool) => (.bool y0 : Value)) hr0; exact hcc)
      · simp only [bne_eq_false_iff_eq] at hc4
        refine c_skip ?_
        refine q_block_normal (q_then ?_)
        refine c_region ?_
        refine o_pure (p_move (v := .int .i64 (i : Int)) rfl) rfl rfl rfl ?_
        refine o_pure (p_addb (p := (i : Int)) (q := 1) rfl rfl (by omega)) rfl rfl rfl ?_
        refine o_pure (p_assign (v := .int .i64 ((i : Int) + 1)) rfl) rfl rfl rfl ?_
        refine o_nil ?_
        refine q_round hK2 (i + 1) ?_ ?_ ?_ ?_
        · clear hK2
          refine ⟨by omega, ?_⟩
          grind
        · (try dsimp only); omega
        · exact Sub.cons rfl (Sub.cons rfl (Sub.cons rfl (Sub.nil _)))
        · exact fun _ hw => HeapIs.pick hw [0] (by decide) rfl
    · simp only [decide_eq_false_iff_not, Int.not_lt] at hc3
      refine c_exit ?_
      refine q_then_exit (q_then_exit (q_block_exit (q_then ?_)))
      refine c_seq ?_
      refine c_region ?_
      refine o_pure (p_assign (v := .bool true) rfl) rfl rfl rfl ?_
      refine o_nil ?_
      refine q_then ?_
      refine c_ret ?_
      have hr0 : (true : Bool) = (Ref.sameInts a b) := by
        simp only [Ref.sameInts]
        grind [List.ext_getElem]
      refine q_end0 (v := .bool true) (rt1 rfl (r_tmp rfl)) (i := 0) rfl ?_
      exact (by have hcc := congrArg (fun (y0 : Bool) => (.bool y0 : Value)) hr0; exact hcc)

set_option maxHeartbeats 8000000 in
set_option maxRecDepth 100000 in
theorem traceCheck_ok (l : List Int) (al : Option Addr) (cl : Nat) : Fn0 Tryd.prog 10 [.slice al l.length cl] (fun w => Rd tInt w al cl l) (.int .i64 (Lru.trace l)) := by
  refine fn0 (nt := 19) (F0 := [(0, .slice al l.length cl)]) Tryd.func10 rfl Tryd.ntmps10 rfl rfl (fun w0 hpre => ?_)
  have hl := hpre
  have hlhl := hl.2.1
  refine c_seq ?_
  refine c_region ?_
  refine o_pure (p_assign (v := .int .i64 0) rfl) rfl rfl rfl ?_
  refine o_nil ?_
  refine q_then ?_
  refine c_seq ?_
  refine c_seq ?_
  refine c_region ?_
  refine o_pure (p_move (v := .slice al l.length cl) rfl) rfl rfl rfl ?_
  refine o_pure (p_len_slice (len := l.length) rfl rfl Tryd.underlying22) rfl rfl rfl ?_
  refine o_pure (p_gt (p := (l.length : Int)) (q := 200) rfl rfl) rfl rfl rfl ?_
  refine o_nil ?_
  refine q_then ?_
  refine c_cond (b := decide (200 < (l.length : Int))) rfl (fun hc1 => ?_) (fun hc1 => ?_)
  · simp only [decide_eq_true_eq] at hc1
    refine c_seq ?_
    refine c_region ?_
    refine o_pure (p_assign (v := .int .i64 2) rfl) rfl rfl rfl ?_
    refine o_nil ?_
    refine q_then ?_
    refine c_ret ?_
    refine q_then_ret ?_
    have hr0 : (2 : Int) = (Lru.trace l) := by
      simp only [Lru.trace, Lru.okKey, Ref.between] at *
      grind [List.any_eq_true, List.mem_iff_getElem]
    refine q_end0 (v := .int .i64 2) (rt1 rfl (r_tmp rfl)) (i := 0) rfl ?_
    exact (by have hcc := congrArg (fun (y0 : Int) => (.int .i64 y0 : Value)) hr0; exact hcc)
  · simp only [decide_eq_false_iff_not, Int.not_lt] at hc1
    refine c_skip ?_
    refine q_then ?_
    refine c_seq ?_
    refine c_seq ?_
    refine c_region ?_
    refine o_pure (p_assign (v := .int .i64 0) rfl) rfl rfl rfl ?_
    refine o_nil ?_
    refine q_then ?_
    refine c_block ?_
    refine c_loop (St := Nat)
      (fun i => [(0, .slice al l.length cl), (3, .int .i64 (i : Int))])
      (fun i => [base w0])
      (fun i => i ≤ l.length ∧ ∀ j (h1 : j < l.length), j < i → Lru.okKey l[j] = true)
      (fun i => l.length - i)
      0 ?_ (Sub.cons rfl (Sub.cons rfl (Sub.nil _))) (fun _ hw => hw) ?_
    · exact ⟨Nat.zero_le _, fun j _ h => absurd h (by omega)⟩
    rintro i hI K hK2
    obtain ⟨hi, hinv⟩ := hI
    show SC _ _ Tryd.prog 19 w0 _ _ [(0, .slice al l.length cl), (3, .int .i64 (i : Int))] [base w0]
    refine c_seq ?_
    refine c_seq ?_
    refine c_region ?_
    refine o_pure (p_move (v := .int .i64 (i : Int)) rfl) rfl rfl rfl ?_
    refine o_pure (p_move (v := .slice al l.length cl) rfl) rfl rfl rfl ?_
    refine o_pure (p_len_slice (len := l.length) rfl rfl Tryd.underlying22) rfl rfl rfl ?_
    refine o_pure (p_lt (p := (i : Int)) (q := (l.length : Int)) rfl rfl) rfl rfl rfl ?_
    refine o_nil ?_
    refine q_then ?_
    refine c_cond (b := decide ((i : Int) < (l.length : Int))) rfl (fun hc3 => ?_) (fun hc3 => ?_)
    · simp only [decide_eq_true_eq] at hc3
      refine c_skip ?_
      refine q_then ?_
      refine c_seq ?_
      refine c_block ?_
      refine c_seq ?_
      refine c_region ?_
      refine o_pure (p_move (v := .slice al l.length cl) rfl) rfl rfl rfl ?_
      refine o_pure (p_move (v := .int .i64 (i : Int)) rfl) rfl rfl rfl ?_
      refine o_pure (p_indexAddr (L := l) (T := tInt) (i := (i : Int)) rfl rfl (rd_base (i := 0) rfl hl) Tryd.underlying22 sz3 (by omega) (by omega)) rfl rfl rfl ?_
      refine o_pure (p_loadE1 (i := i) (T := tInt) (L := l) (v := .int .i64 (l[i])) rfl (rd_base (i := 0) rfl hl) (by first | assumption | omega) sh3 rfl) rfl rfl rfl ?_
      refine o_call0 (v := .bool (Ref.between (l[i]) (0 : Int) (1048576 : Int))) rfl (between_ok (l[i]) (0 : Int) (1048576 : Int)) hf22 (fun _ _ => trivial) rfl ?_
      refine o_pure (p_not (b := (Ref.between (l[i]) (0 : Int) (1048576 : Int))) rfl) rfl rfl rfl ?_
      refine o_nil ?_
      refine q_then ?_
      refine c_cond (b := (!(Ref.between (l[i]) (0 : Int) (1048576 : Int)))) rfl (fun hc4 => ?_) (fun hc4 => ?_)
      · simp only [Bool.not_eq_true'] at hc4
        refine c_seq ?_
        refine c_region ?_
        refine o_pure (p_assign (v := .int .i64 3) rfl) rfl rfl rfl ?_
        refine o_nil ?_
        refine q_then ?_
        refine c_ret ?_
        refine q_block_ret (q_then_ret (q_then_ret (q_block_ret (q_then_ret ?_))))
        have hr0 : (3 : Int) = (Lru.trace l) := by
          simp only [Lru.trace, Lru.okKey, Ref.between] at *
          grind [List.any_eq_true, List.mem_iff_getElem]
        refine q_end0 (v := .int .i64 3) (rt1 rfl (r_tmp rfl)) (i := 0) rfl ?_
        exact (by have hcc := congrArg (fun (y0 : Int) => (.int .i64 y0 : Value)) hr0; exact hcc)
      · simp only [Bool.not_eq_false'] at hc4
        refine c_skip ?_
        refine q_block_normal (q_then ?_)
        refine c_region ?_
        refine o_pure (p_move (v := .int .i64 (i : Int)) rfl) rfl rfl rfl ?_
        refine o_pure (p_addb (p := (i : Int)) (q := 1) rfl rfl (by omega)) rfl rfl rfl ?_
        refine o_pure (p_assign (v := .int .i64 ((i : Int) + 1)) rfl) rfl rfl rfl ?_
        refine o_nil ?_
        refine q_round hK2 (i + 1) ?_ ?_ ?_ ?_
        · clear hK2
          refine ⟨by omega, ?_⟩
          simp only [Lru.okKey, Ref.between] at *
          grind
        · (try dsimp only); omega
        · exact Sub.cons rfl (Sub.cons rfl (Sub.nil _))
        · exact fun _ hw => HeapIs.pick hw [0] (by decide) rfl
    · simp only [decide_eq_false_iff_not, Int.not_lt] at hc3
      refine c_exit ?_
      refine q_then_exit (q_then_exit (q_block_exit (q_then ?_)))
      refine c_seq ?_
      refine c_region ?_
      refine o_pure (p_assign (v := .int .i64 0) rfl) rfl rfl rfl ?_
      refine o_nil ?_
      refine q_then ?_
      refine c_ret ?_
      have hr0 : (0 : Int) = (Lru.trace l) := by
        simp only [Lru.trace, Lru.okKey, Ref.between] at *
        grind [List.any_eq_true, List.mem_iff_getElem]
      refine q_end0 (v := .int .i64 0) (rt1 rfl (r_tmp rfl)) (i := 0) rfl ?_
      exact (by have hcc := congrArg (fun (y0 : Int) => (.int .i64 y0 : Value)) hr0; exact hcc)

set_option maxHeartbeats 8000000 in
set_option maxRecDepth 100000 in
theorem linesBegun_ok  : Fn0 Tryd.prog 13 [] (fun w => MaxW w ∧ TabW w) (.bool true) := by
  refine fn0 (nt := 53) (F0 := []) Tryd.func13 rfl Tryd.ntmps13 rfl rfl (fun w0 hpre => ?_)
  obtain ⟨hMaxW, hTabW⟩ := hpre
  refine c_seq ?_
  refine c_region ?_
  refine o_pure (p_assign (v := .bool false) rfl) rfl rfl rfl ?_
  refine o_nil ?_
  refine q_then ?_
  refine c_seq ?_
  refine c_region ?_
  refine o_buildSlice (m := 8) (T := tInt) (L := [7, 7, 1, 2, 3, 3, 9, 10]) (vs := [.int .i64 7, .int .i64 7, .int .i64 1, .int .i64 2, .int .i64 3, .int .i64 3, .int .i64 9, .int .i64 10]) rfl rfl rfl rfl Tryd.underlying22 sz3 (by decide) ze3 rfl (by decide) rfl (fun S1 a2 => ?_)
  refine o_call0 (v := .tuple #[.string (Trc.format ([7, 7, 1, 2, 3, 3, 9, 10])), .int .i64 (Lru.trace ([7, 7, 1, 2, 3, 3, 9, 10]))]) rfl (tformat_ok ([7, 7, 1, 2, 3, 3, 9, 10]) a2 ([7, 7, 1, 2, 3, 3, 9, 10].length)) hf7 (fun w hw => ⟨(rd_own (i := 0) rfl) w hw, pre_base (i := 1) rfl TabW_st hTabW w hw⟩) rfl ?_
  refine o_pure (p_move (v := .tuple #[.string (Trc.format ([7, 7, 1, 2, 3, 3, 9, 10])), .int .i64 (Lru.trace ([7, 7, 1, 2, 3, 3, 9, 10]))]) rfl) rfl rfl rfl ?_
  refine o_pure (p_extract (vs := [.string (Trc.format ([7, 7, 1, 2, 3, 3, 9, 10])), .int .i64 (Lru.trace ([7, 7, 1, 2, 3, 3, 9, 10]))]) (v := .string (Trc.format ([7, 7, 1, 2, 3, 3, 9, 10]))) rfl rfl) rfl rfl rfl ?_
  refine o_pure (p_extract (vs := [.string (Trc.format ([7, 7, 1, 2, 3, 3, 9, 10])), .int .i64 (Lru.trace ([7, 7, 1, 2, 3, 3, 9, 10]))]) (v := .int .i64 (Lru.trace ([7, 7, 1, 2, 3, 3, 9, 10]))) rfl rfl) rfl rfl rfl ?_
  refine o_pure (p_assign (v := .string (Trc.format ([7, 7, 1, 2, 3, 3, 9, 10]))) rfl) rfl rfl rfl ?_
  refine o_pure (p_assign (v := .int .i64 (Lru.trace ([7, 7, 1, 2, 3, 3, 9, 10]))) rfl) rfl rfl rfl ?_
  refine o_nil ?_
  refine q_then ?_
  refine c_seq ?_
  refine c_region ?_
  refine o_callM rfl (tparse_ok (ByteArray.mk #[48, 32, 53, 42, 50, 32, 56, 45, 49, 48])) hf8 (fun w hw => pre_base (i := 1) rfl MaxW_st hMaxW w hw) rfl (fun _ _ _ _ ha hA => SlO.agree ha hA) ?_
  rintro ⟨a6, c7⟩ S4
  refine o_know (fun w hw => own_len (i := 0) (T := tInt) hw rfl) (fun hlr8 => ?_)
  refine o_pure (p_move (v := .tuple #[.slice a6 ((Trc.parse (ByteArray.mk #[48, 32, 53, 42, 50, 32, 56, 45, 49, 48])).1).length c7, .int .i64 ((Trc.parse (ByteArray.mk #[48, 32, 53, 42, 50, 32, 56, 45, 49, 48])).2)]) rfl) rfl rfl rfl ?_
  refine o_pure (p_extract (vs := [.slice a6 ((Trc.parse (ByteArray.mk #[48, 32, 53, 42, 50, 32, 56, 45, 49, 48])).1).length c7, .int .i64 ((Trc.parse (ByteArray.mk #[48, 32, 53, 42, 50, 32, 56, 45, 49, 48])).2)]) (v := .slice a6 ((Trc.parse (ByteArray.mk #[48, 32, 53, 42, 50, 32, 56, 45, 49, 48])).1).length c7) rfl rfl) rfl rfl rfl ?_
  refine o_pure (p_extract (vs := [.slice a6 ((Trc.parse (ByteArray.mk #[48, 32, 53, 42, 50, 32, 56, 45, 49, 48])).1).length c7, .int .i64 ((Trc.parse (ByteArray.mk #[48, 32, 53, 42, 50, 32, 56, 45, 49, 48])).2)]) (v := .int .i64 ((Trc.parse (ByteArray.mk #[48, 32, 53, 42, 50, 32, 56, 45, 49, 48])).2)) rfl rfl) rfl rfl rfl ?_
  refine o_pure (p_assign (v := .slice a6 ((Trc.parse (ByteArray.mk #[48, 32, 53, 42, 50, 32, 56, 45, 49, 48])).1).length c7) rfl) rfl rfl rfl ?_
  refine o_pure (p_assign (v := .int .i64 ((Trc.parse (ByteArray.mk #[48, 32, 53, 42, 50, 32, 56, 45, 49, 48])).2)) rfl) rfl rfl rfl ?_
  refine o_nil ?_
  refine q_then ?_
  refine c_seq ?_
  refine c_region ?_
  refine o_call0 (v := .tuple #[.string (Trc.compact (ByteArray.mk #[49, 32, 49, 32, 50, 32, 51, 32, 52])), .int .i64 ((Trc.parse (ByteArray.mk #[49, 32, 49, 32, 50, 32, 51, 32, 52])).2)]) rfl (tcompact_ok (ByteArray.mk #[49, 32, 49, 32, 50, 32, 51, 32, 52])) hf9 (fun w hw => ⟨pre_base (i := 2) rfl MaxW_st hMaxW w hw, pre_base (i := 2) rfl TabW_st hTabW w hw⟩) rfl ?_
  refine o_pure (p_move (v := .tuple #[.string (Trc.compact (ByteArray.mk #[49, 32, 49, 32, 50, 32, 51, 32, 52])), .int .i64 ((Trc.parse (ByteArray.mk #[49, 32, 49, 32, 50, 32, 51, 32, 52])).2)]) rfl) rfl rfl rfl ?_
  refine o_pure (p_extract (vs := [.string (Trc.compact (ByteArray.mk #[49, 32, 49, 32, 50, 32, 51, 32, 52])), .int .i64 ((Trc.parse (ByteArray.mk #[49, 32, 49, 32, 50, 32, 51, 32, 52])).2)]) (v := .string (Trc.compact (ByteArray.mk #[49, 32, 49, 32, 50, 32, 51, 32, 52]))) rfl rfl) rfl rfl rfl ?_
  refine o_pure (p_extract (vs := [.string (Trc.compact (ByteArray.mk #[49, 32, 49, 32, 50, 32, 51, 32, 52])), .int .i64 ((Trc.parse (ByteArray.mk #[49, 32, 49, 32, 50, 32, 51, 32, 52])).2)]) (v := .int .i64 ((Trc.parse (ByteArray.mk #[49, 32, 49, 32, 50, 32, 51, 32, 52])).2)) rfl rfl) rfl rfl rfl ?_
  refine o_pure (p_assign (v := .string (Trc.compact (ByteArray.mk #[49, 32, 49, 32, 50, 32, 51, 32, 52]))) rfl) rfl rfl rfl ?_
  refine o_pure (p_assign (v := .int .i64 ((Trc.parse (ByteArray.mk #[49, 32, 49, 32, 50, 32, 51, 32, 52])).2)) rfl) rfl rfl rfl ?_
  refine o_nil ?_
  refine q_then ?_
  refine c_seq ?_
  refine c_region ?_
  refine o_callM rfl (tparse_ok (ByteArray.mk #[49, 32, 32, 50])) hf8 (fun w hw => pre_base (i := 2) rfl MaxW_st hMaxW w hw) rfl (fun _ _ _ _ ha hA => SlO.agree ha hA) ?_
  rintro ⟨a11, c12⟩ S9
  refine o_know (fun w hw => own_len (i := 0) (T := tInt) hw rfl) (fun hlr13 => ?_)
  refine o_pure (p_move (v := .tuple #[.slice a11 ((Trc.parse (ByteArray.mk #[49, 32, 32, 50])).1).length c12, .int .i64 ((Trc.parse (ByteArray.mk #[49, 32, 32, 50])).2)]) rfl) rfl rfl rfl ?_
  refine o_pure (p_extract (vs := [.slice a11 ((Trc.parse (ByteArray.mk #[49, 32, 32, 50])).1).length c12, .int .i64 ((Trc.parse (ByteArray.mk #[49, 32, 32, 50])).2)]) (v := .slice a11 ((Trc.parse (ByteArray.mk #[49, 32, 32, 50])).1).length c12) rfl rfl) rfl rfl rfl ?_
  refine o_pure (p_extract (vs := [.slice a11 ((Trc.parse (ByteArray.mk #[49, 32, 32, 50])).1).length c12, .int .i64 ((Trc.parse (ByteArray.mk #[49, 32, 32, 50])).2)]) (v := .int .i64 ((Trc.parse (ByteArray.mk #[49, 32, 32, 50])).2)) rfl rfl) rfl rfl rfl ?_
  refine o_pure (p_assign (v := .slice a11 ((Trc.parse (ByteArray.mk #[49, 32, 32, 50])).1).length c12) rfl) rfl rfl rfl ?_
  refine o_pure (p_assign (v := .int .i64 ((Trc.parse (ByteArray.mk #[49, 32, 32, 50])).2)) rfl) rfl rfl rfl ?_
  refine o_nil ?_
  refine q_then ?_
  refine c_seq ?_
  refine c_region ?_
  refine o_pure (p_move (v := .string (Trc.format ([7, 7, 1, 2, 3, 3, 9, 10]))) rfl) rfl rfl rfl ?_
  refine o_pure (p_eqStr (s := (Trc.format ([7, 7, 1, 2, 3, 3, 9, 10]))) (t := (ByteArray.mk #[55, 42, 50, 32, 49, 45, 51, 32, 51, 32, 57, 32, 49, 48])) rfl rfl) rfl rfl rfl ?_
  refine o_pure (p_move (v := .bool (decide ((Trc.format ([7, 7, 1, 2, 3, 3, 9, 10])) = (ByteArray.mk #[55, 42, 50, 32, 49, 45, 51, 32, 51, 32, 57, 32, 49, 48])))) rfl) rfl rfl rfl ?_
  refine o_and (p := 31) 3 ((Lru.trace ([7, 7, 1, 2, 3, 3, 9, 10])) == 0) ?_ ?_ ?_
  · intro hb14 hk
    simp only [decide_eq_true_eq] at hb14
    refine o_unguard 28 rfl rfl ?_
    refine o_pure (p_move (v := .int .i64 (Lru.trace ([7, 7, 1, 2, 3, 3, 9, 10]))) rfl) rfl rfl rfl ?_
    refine o_unguard 28 rfl rfl ?_
    refine o_pure (p_eq (p := (Lru.trace ([7, 7, 1, 2, 3, 3, 9, 10]))) (q := 0) rfl rfl) rfl rfl rfl ?_
    refine o_pure (p_pick_true (u := .bool ((Lru.trace ([7, 7, 1, 2, 3, 3, 9, 10])) == 0)) rfl rfl) rfl rfl rfl ?_
    exact o_sub (Sub.cons rfl (Sub.skip rfl (Sub.skip rfl (Sub.skip rfl (Sub.skip rfl (Sub.refl _)))))) hk
  · intro hb14 hk
    refine o_guard_no rfl 28 rfl rfl rfl rfl rfl ?_
    refine o_guard_no rfl 28 rfl rfl rfl rfl rfl ?_
    refine o_pure (p_pick_false (v := .bool false) rfl rfl) rfl rfl rfl ?_
    exact o_sub (Sub.cons rfl (Sub.skip rfl (Sub.skip rfl (Sub.skip rfl (Sub.skip rfl (Sub.refl _)))))) hk
  refine o_pure (p_move (v := .bool (decide ((Trc.format ([7, 7, 1, 2, 3, 3, 9, 10])) = (ByteArray.mk #[55, 42, 50, 32, 49, 45, 51, 32, 51, 32, 57, 32, 49, 48])) && ((Lru.trace ([7, 7, 1, 2, 3, 3, 9, 10])) == 0))) rfl) rfl rfl rfl ?_
  refine o_and (p := 36) 4 (Ref.sameInts ((Trc.parse (ByteArray.mk #[48, 32, 53, 42, 50, 32, 56, 45, 49, 48])).1) ([0, 5, 5, 8, 9, 10])) ?_ ?_ ?_
  · intro hb15 hk
    simp only [Bool.and_eq_true, decide_eq_true_eq, beq_iff_eq] at hb15
    refine o_unguard 32 rfl rfl ?_
    refine o_pure (p_move (v := .slice a6 ((Trc.parse (ByteArray.mk #[48, 32, 53, 42, 50, 32, 56, 45, 49, 48])).1).length c7) rfl) rfl rfl rfl ?_
    refine o_unguard 32 rfl rfl ?_
    refine o_buildSlice (m := 6) (T := tInt) (L := [0, 5, 5, 8, 9, 10]) (vs := [.int .i64 0, .int .i64 5, .int .i64 5, .int .i64 8, .int .i64 9, .int .i64 10]) rfl rfl rfl rfl Tryd.underlying22 sz3 (by decide) ze3 rfl (by decide) rfl (fun S16 a17 => ?_)
    refine o_unguard 32 rfl rfl ?_
    refine o_call0 (v := .bool (Ref.sameInts ((Trc.parse (ByteArray.mk #[48, 32, 53, 42, 50, 32, 56, 45, 49, 48])).1) ([0, 5, 5, 8, 9, 10]))) rfl (sameInts_ok ((Trc.parse (ByteArray.mk #[48, 32, 53, 42, 50, 32, 56, 45, 49, 48])).1) a6 c7 ([0, 5, 5, 8, 9, 10]) a17 ([0, 5, 5, 8, 9, 10].length)) hf14 (fun w hw => ⟨(rd_own (i := 2) rfl) w hw, (rd_own (i := 0) rfl) w hw⟩) rfl ?_
    refine o_pure (p_pick_true (u := .bool (Ref.sameInts ((Trc.parse (ByteArray.mk #[48, 32, 53, 42, 50, 32, 56, 45, 49, 48])).1) ([0, 5, 5, 8, 9, 10]))) rfl rfl) rfl rfl rfl ?_
    exact o_sub (Sub.cons rfl (Sub.skip rfl (Sub.skip rfl (Sub.skip rfl (Sub.skip rfl (Sub.skip rfl (Sub.refl _))))))) (o_drop (List.Sublist.cons _ (List.Sublist.cons_cons _ (List.Sublist.cons_cons _ (List.Sublist.cons_cons _ (List.Sublist.cons_cons _ (List.Sublist.slnil)))))) hk)
  · intro hb15 hk
    refine o_guard_no rfl 32 rfl rfl rfl rfl rfl ?_
    refine o_guard_no rfl 32 rfl rfl rfl rfl rfl ?_
    refine o_guard_no rfl 32 rfl rfl rfl rfl rfl ?_
    refine o_pure (p_pick_false (v := .bool false) rfl rfl) rfl rfl rfl ?_
    exact o_sub (Sub.cons rfl (Sub.skip rfl (Sub.skip rfl (Sub.skip rfl (Sub.skip rfl (Sub.skip rfl (Sub.refl _))))))) hk
  refine o_pure (p_move (v := .bool ((decide ((Trc.format ([7, 7, 1, 2, 3, 3, 9, 10])) = (ByteArray.mk #[55, 42, 50, 32, 49, 45, 51, 32, 51, 32, 57, 32, 49, 48])) && ((Lru.trace ([7, 7, 1, 2, 3, 3, 9, 10])) == 0)) && (Ref.sameInts ((Trc.parse (ByteArray.mk #[48, 32, 53, 42, 50, 32, 56, 45, 49, 48])).1) ([0, 5, 5, 8, 9, 10])))) rfl) rfl rfl rfl ?_
  refine o_and (p := 40) 3 (((Trc.parse (ByteArray.mk #[48, 32, 53, 42, 50, 32, 56, 45, 49, 48])).2) == 0) ?_ ?_ ?_
  · intro hb19 hk
    simp only [Bool.and_eq_true, decide_eq_true_eq, beq_iff_eq] at hb19
    refine o_unguard 37 rfl rfl ?_
    refine o_pure (p_move (v := .int .i64 ((Trc.parse (ByteArray.mk #[48, 32, 53, 42, 50, 32, 56, 45, 49, 48])).2)) rfl) rfl rfl rfl ?_
    refine o_unguard 37 rfl rfl ?_
    refine o_pure (p_eq (p := ((Trc.parse (ByteArray.mk #[48, 32, 53, 42, 50, 32, 56, 45, 49, 48])).2)) (q := 0) rfl rfl) rfl rfl rfl ?_
    refine o_pure (p_pick_true (u := .bool (((Trc.parse (ByteArray.mk #[48, 32, 53, 42, 50, 32, 56, 45, 49, 48])).2) == 0)) rfl rfl) rfl rfl rfl ?_
    exact o_sub (Sub.cons rfl (Sub.skip rfl (Sub.skip rfl (Sub.skip rfl (Sub.skip rfl (Sub.refl _)))))) hk
  · intro hb19 hk
    refine o_guard_no rfl 37 rfl rfl rfl rfl rfl ?_
    refine o_guard_no rfl 37 rfl rfl rfl rfl rfl ?_
    refine o_pure (p_pick_false (v := .bool false) rfl rfl) rfl rfl rfl ?_
    exact o_sub (Sub.cons rfl (Sub.skip rfl (Sub.skip rfl (Sub.skip rfl (Sub.skip rfl (Sub.refl _)))))) hk
  refine o_pure (p_move (v := .bool (((decide ((Trc.format ([7, 7, 1, 2, 3, 3, 9, 10])) = (ByteArray.mk #[55, 42, 50, 32, 49, 45, 51, 32, 51, 32, 57, 32, 49, 48])) && ((Lru.trace ([7, 7, 1, 2, 3, 3, 9, 10])) == 0)) && (Ref.sameInts ((Trc.parse (ByteArray.mk #[48, 32, 53, 42, 50, 32, 56, 45, 49, 48])).1) ([0, 5, 5, 8, 9, 10]))) && (((Trc.parse (ByteArray.mk #[48, 32, 53, 42, 50, 32, 56, 45, 49, 48])).2) == 0))) rfl) rfl rfl rfl ?_
  refine o_and (p := 44) 3 (decide ((Trc.compact (ByteArray.mk #[49, 32, 49, 32, 50, 32, 51, 32, 52])) = (ByteArray.mk #[49, 42, 50, 32, 50, 45, 52]))) ?_ ?_ ?_
  · intro hb20 hk
    simp only [Bool.and_eq_true, decide_eq_true_eq, beq_iff_eq] at hb20
    refine o_unguard 41 rfl rfl ?_
    refine o_pure (p_move (v := .string (Trc.compact (ByteArray.mk #[49, 32, 49, 32, 50, 32, 51, 32, 52]))) rfl) rfl rfl rfl ?_
    refine o_unguard 41 rfl rfl ?_
    refine o_pure (p_eqStr (s := (Trc.compact (ByteArray.mk #[49, 32, 49, 32, 50, 32, 51, 32, 52]))) (t := (ByteArray.mk #[49, 42, 50, 32, 50, 45, 52])) rfl rfl) rfl rfl rfl ?_
    refine o_pure (p_pick_true (u := .bool (decide ((Trc.compact (ByteArray.mk #[49, 32, 49, 32, 50, 32, 51, 32, 52])) = (ByteArray.mk #[49, 42, 50, 32, 50, 45, 52])))) rfl rfl) rfl rfl rfl ?_
    exact o_sub (Sub.cons rfl (Sub.skip rfl (Sub.skip rfl (Sub.skip rfl (Sub.skip rfl (Sub.refl _)))))) hk
  · intro hb20 hk
    refine o_guard_no rfl 41 rfl rfl rfl rfl rfl ?_
    refine o_guard_no rfl 41 rfl rfl rfl rfl rfl ?_
    refine o_pure (p_pick_false (v := .bool false) rfl rfl) rfl rfl rfl ?_
    exact o_sub (Sub.cons rfl (Sub.skip rfl (Sub.skip rfl (Sub.skip rfl (Sub.skip rfl (Sub.refl _)))))) hk
  refine o_pure (p_move (v := .bool ((((decide ((Trc.format ([7, 7, 1, 2, 3, 3, 9, 10])) = (ByteArray.mk #[55, 42, 50, 32, 49, 45, 51, 32, 51, 32, 57, 32, 49, 48])) && ((Lru.trace ([7, 7, 1, 2, 3, 3, 9, 10])) == 0)) && (Ref.sameInts ((Trc.parse (ByteArray.mk #[48, 32, 53, 42, 50, 32, 56, 45, 49, 48])).1) ([0, 5, 5, 8, 9, 10]))) && (((Trc.parse (ByteArray.mk #[48, 32, 53, 42, 50, 32, 56, 45, 49, 48])).2) == 0)) && decide ((Trc.compact (ByteArray.mk #[49, 32, 49, 32, 50, 32, 51, 32, 52])) = (ByteArray.mk #[49, 42, 50, 32, 50, 45, 52])))) rfl) rfl rfl rfl ?_
  refine o_and (p := 48) 3 (((Trc.parse (ByteArray.mk #[49, 32, 49, 32, 50, 32, 51, 32, 52])).2) == 0) ?_ ?_ ?_
  · intro hb21 hk
    simp only [Bool.and_eq_true, decide_eq_true_eq, beq_iff_eq] at hb21
    refine o_unguard 45 rfl rfl ?_
    refine o_pure (p_move (v := .int .i64 ((Trc.parse (ByteArray.mk #[49, 32, 49, 32, 50, 32, 51, 32, 52])).2)) rfl) rfl rfl rfl ?_
    refine o_unguard 45 rfl rfl ?_
    refine o_pure (p_eq (p := ((Trc.parse (ByteArray.mk #[49, 32, 49, 32, 50, 32, 51, 32, 52])).2)) (q := 0) rfl rfl) rfl rfl rfl ?_
    refine o_pure (p_pick_true (u := .bool (((Trc.parse (ByteArray.mk #[49, 32, 49, 32, 50, 32, 51, 32, 52])).2) == 0)) rfl rfl) rfl rfl rfl ?_
    exact o_sub (Sub.cons rfl (Sub.skip rfl (Sub.skip rfl (Sub.skip rfl (Sub.skip rfl (Sub.refl _)))))) hk
  · intro hb21 hk
    refine o_guard_no rfl 45 rfl rfl rfl rfl rfl ?_
    refine o_guard_no rfl 45 rfl rfl rfl rfl rfl ?_
    refine o_pure (p_pick_false (v := .bool false) rfl rfl) rfl rfl rfl ?_
    exact o_sub (Sub.cons rfl (Sub.skip rfl (Sub.skip rfl (Sub.skip rfl (Sub.skip rfl (Sub.refl _)))))) hk
  refine o_pure (p_move (v := .bool (((((decide ((Trc.format ([7, 7, 1, 2, 3, 3, 9, 10])) = (ByteArray.mk #[55, 42, 50, 32, 49, 45, 51, 32, 51, 32, 57, 32, 49, 48])) && ((Lru.trace ([7, 7, 1, 2, 3, 3, 9, 10])) == 0)) && (Ref.sameInts ((Trc.parse (ByteArray.mk #[48, 32, 53, 42, 50, 32, 56, 45, 49, 48])).1) ([0, 5, 5, 8, 9, 10]))) && (((Trc.parse (ByteArray.mk #[48, 32, 53, 42, 50, 32, 56, 45, 49, 48])).2) == 0)) && decide ((Trc.compact (ByteArray.mk #[49, 32, 49, 32, 50, 32, 51, 32, 52])) = (ByteArray.mk #[49, 42, 50, 32, 50, 45, 52]))) && (((Trc.parse (ByteArray.mk #[49, 32, 49, 32, 50, 32, 51, 32, 52])).2) == 0))) rfl) rfl rfl rfl ?_
  refine o_and (p := 52) 3 (((Trc.parse (ByteArray.mk #[49, 32, 32, 50])).2) == 1) ?_ ?_ ?_
  · intro hb22 hk
    simp only [Bool.and_eq_true, decide_eq_true_eq, beq_iff_eq] at hb22
    refine o_unguard 49 rfl rfl ?_
    refine o_pure (p_move (v := .int .i64 ((Trc.parse (ByteArray.mk #[49, 32, 32, 50])).2)) rfl) rfl rfl rfl ?_
    refine o_unguard 49 rfl rfl ?_
    refine o_pure (p_eq (p := ((Trc.parse (ByteArray.mk #[49, 32, 32, 50])).2)) (q := 1) rfl rfl) rfl rfl rfl ?_
    refine o_pure (p_pick_true (u := .bool (((Trc.parse (ByteArray.mk #[49, 32, 32, 50])).2) == 1)) rfl rfl) rfl rfl rfl ?_
    exact o_sub (Sub.cons rfl (Sub.skip rfl (Sub.skip rfl (Sub.skip rfl (Sub.skip rfl (Sub.refl _)))))) hk
  · intro hb22 hk
    refine o_guard_no rfl 49 rfl rfl rfl rfl rfl ?_
    refine o_guard_no rfl 49 rfl rfl rfl rfl rfl ?_
    refine o_pure (p_pick_false (v := .bool false) rfl rfl) rfl rfl rfl ?_
    exact o_sub (Sub.cons rfl (Sub.skip rfl (Sub.skip rfl (Sub.skip rfl (Sub.skip rfl (Sub.refl _)))))) hk
  refine o_pure (p_assign (v := .bool ((((((decide ((Trc.format ([7, 7, 1, 2, 3, 3, 9, 10])) = (ByteArray.mk #[55, 42, 50, 32, 49, 45, 51, 32, 51, 32, 57, 32, 49, 48])) && ((Lru.trace ([7, 7, 1, 2, 3, 3, 9, 10])) == 0)) && (Ref.sameInts ((Trc.parse (ByteArray.mk #[48, 32, 53, 42, 50, 32, 56, 45, 49, 48])).1) ([0, 5, 5, 8, 9, 10]))) && (((Trc.parse (ByteArray.mk #[48, 32, 53, 42, 50, 32, 56, 45, 49, 48])).2) == 0)) && decide ((Trc.compact (ByteArray.mk #[49, 32, 49, 32, 50, 32, 51, 32, 52])) = (ByteArray.mk #[49, 42, 50, 32, 50, 45, 52]))) && (((Trc.parse (ByteArray.mk #[49, 32, 49, 32, 50, 32, 51, 32, 52])).2) == 0)) && (((Trc.parse (ByteArray.mk #[49, 32, 32, 50])).2) == 1))) rfl) rfl rfl rfl ?_
  refine o_nil ?_
  refine q_then ?_
  refine c_ret ?_
  have hr0 : (((((((decide ((Trc.format ([7, 7, 1, 2, 3, 3, 9, 10])) = (ByteArray.mk #[55, 42, 50, 32, 49, 45, 51, 32, 51, 32, 57, 32, 49, 48])) && ((Lru.trace ([7, 7, 1, 2, 3, 3, 9, 10])) == 0)) && (Ref.sameInts ((Trc.parse (ByteArray.mk #[48, 32, 53, 42, 50, 32, 56, 45, 49, 48])).1) ([0, 5, 5, 8, 9, 10]))) && (((Trc.parse (ByteArray.mk #[48, 32, 53, 42, 50, 32, 56, 45, 49, 48])).2) == 0)) && decide ((Trc.compact (ByteArray.mk #[49, 32, 49, 32, 50, 32, 51, 32, 52])) = (ByteArray.mk #[49, 42, 50, 32, 50, 45, 52]))) && (((Trc.parse (ByteArray.mk #[49, 32, 49, 32, 50, 32, 51, 32, 52])).2) == 0)) && (((Trc.parse (ByteArray.mk #[49, 32, 32, 50])).2) == 1)) : Bool) = true := by
    first | rfl | (simp only [Trc.format_F, Trc.compact_F]; decide +kernel) | decide +kernel
  refine q_end0 (v := .bool ((((((decide ((Trc.format ([7, 7, 1, 2, 3, 3, 9, 10])) = (ByteArray.mk #[55, 42, 50, 32, 49, 45, 51, 32, 51, 32, 57, 32, 49, 48])) && ((Lru.trace ([7, 7, 1, 2, 3, 3, 9, 10])) == 0)) && (Ref.sameInts ((Trc.parse (ByteArray.mk #[48, 32, 53, 42, 50, 32, 56, 45, 49, 48])).1) ([0, 5, 5, 8, 9, 10]))) && (((Trc.parse (ByteArray.mk #[48, 32, 53, 42, 50, 32, 56, 45, 49, 48])).2) == 0)) && decide ((Trc.compact (ByteArray.mk #[49, 32, 49, 32, 50, 32, 51, 32, 52])) = (ByteArray.mk #[49, 42, 50, 32, 50, 45, 52]))) && (((Trc.parse (ByteArray.mk #[49, 32, 49, 32, 50, 32, 51, 32, 52])).2) == 0)) && (((Trc.parse (ByteArray.mk #[49, 32, 32, 50])).2) == 1))) (rt1 rfl (r_tmp rfl)) (i := 3) rfl ?_
  exact (by have hcc := congrArg (fun (y0 : Bool) => (.bool y0 : Value)) hr0; exact hcc)
end Go.Proofs.YtgkihbbeimhmbaaDoor
