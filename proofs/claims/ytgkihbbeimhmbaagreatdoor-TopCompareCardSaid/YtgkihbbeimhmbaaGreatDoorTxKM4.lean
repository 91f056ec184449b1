/- The library's functions on strings: the kit's contracts, laid at this program. -/
import Derived.Test.YtgkihbbeimhmbaaGreatDoorSx36M2
import Derived.Test.YtgkihbbeimhmbaaGreatDoorProg
import Derived.Test.YtgkihbbeimhmbaaGreatDoorTxF
import Derived.Test.YtgkihbbeimhmbaaGreatDoorOpLaw4M17
import Derived.Test.YtgkihbbeimhmbaaGreatDoorTxW1
namespace Go.Proofs
open Go.RowKit Go.Shelf
def Tryz.splitA_ren : Go.Shelf.Ren := ⟨fun | 146 => 11 | 221 => 23 | 268 => 48 | 138 => 49 | 143 => 50 | 195 => 75 | 197 => 76 | 218 => 77 | 219 => 78 | 260 => 115 | 217 => 116 | 225 => 82 | 224 => 81 | 267 => 117 | 266 => 136 | 314 => 137 | n => n, fun | 9 => 9 | 31 => 37 | 3 => 3 | 4 => 4 | 0 => 0 | 105 => 124 | 21 => 21 | 5 => 5 | 46 => 129 | 119 => 186 | 139 => 189 | 138 => 188 | 146 => 190 | 51 => 183 | n => n, fun | 1 => 0 | 3 => 2 | 4 => 3 | n => n⟩
theorem Tryz.splitA : Lays.n146 Tryz.prog Tryz.splitA_ren where
  mixed := by kernel_rfl
  f138 := Tryz.func49.trans (congrArg some (by kernel_rfl))
  f143 := Tryz.func50.trans (congrArg some (by kernel_rfl))
  f146 := Tryz.func11.trans (congrArg some (by kernel_rfl))
  f195 := Tryz.func75.trans (congrArg some (by kernel_rfl))
  f197 := Tryz.func76.trans (congrArg some (by kernel_rfl))
  f217 := Tryz.func116.trans (congrArg some (by kernel_rfl))
  f218 := Tryz.func77.trans (congrArg some (by kernel_rfl))
  f219 := Tryz.func78.trans (congrArg some (by kernel_rfl))
  f221 := Tryz.func23.trans (congrArg some (by kernel_rfl))
  f224 := Tryz.func81.trans (congrArg some (by kernel_rfl))
  f225 := Tryz.func82.trans (congrArg some (by kernel_rfl))
  f260 := Tryz.func115.trans (congrArg some (by kernel_rfl))
  f266 := Tryz.func136.trans (congrArg some (by kernel_rfl))
  f267 := Tryz.func117.trans (congrArg some (by kernel_rfl))
  f268 := Tryz.func48.trans (congrArg some (by kernel_rfl))
  f314 := Tryz.func137.trans (congrArg some (by kernel_rfl))
  t0 := Tryz.underlying0
  a0 := Tryz.isAgg0
  z0 := Tryz.sizeOf0
  v0 := Tryz.zeroValue0
  t3 := Tryz.underlying3
  a3 := Tryz.isAgg3
  z3 := Tryz.sizeOf3
  v3 := Tryz.zeroValue3
  t4 := Tryz.underlying4
  a4 := Tryz.isAgg4
  z4 := Tryz.sizeOf4
  v4 := Tryz.zeroValue4
  t5 := Tryz.underlying5
  a5 := Tryz.isAgg5
  z5 := Tryz.sizeOf5
  v5 := Tryz.zeroValue5
  t9 := Tryz.underlying9
  a9 := Tryz.isAgg9
  z9 := Tryz.sizeOf9
  v9 := Tryz.zeroValue9
  t21 := Tryz.underlying21
  a21 := Tryz.isAgg21
  z21 := Tryz.sizeOf21
  v21 := Tryz.zeroValue21
  t31 := Tryz.underlying37
  a31 := Tryz.isAgg37
  z31 := Tryz.sizeOf37
  v31 := Tryz.zeroValue37
  t46 := Tryz.underlying129
  a46 := Tryz.isAgg129
  z46 := Tryz.sizeOf129
  v46 := Tryz.zeroValue129
  t51 := Tryz.underlying183
  a51 := Tryz.isAgg183
  z51 := Tryz.sizeOf183
  v51 := Tryz.zeroValue183
  t105 := Tryz.underlying124
  a105 := Tryz.isAgg124
  z105 := Tryz.sizeOf124
  v105 := Tryz.zeroValue124
  t119 := Tryz.underlying186
  a119 := Tryz.isAgg186
  z119 := Tryz.sizeOf186
  t138 := Tryz.underlying188
  a138 := Tryz.isAgg188
  z138 := Tryz.sizeOf188
  v138 := Tryz.zeroValue188
  t139 := Tryz.underlying189
  a139 := Tryz.isAgg189
  z139 := Tryz.sizeOf189
  v139 := Tryz.zeroValue189
  t146 := Tryz.underlying190
  a146 := Tryz.isAgg190
  z146 := Tryz.sizeOf190
  v146 := Tryz.zeroValue190
  g1 := by kernel_rfl
  g3 := by kernel_rfl
  g4 := by kernel_rfl
def Tryz.trimA_ren : Go.Shelf.Ren := ⟨fun | 160 => 55 | 232 => 84 | 231 => 83 | 227 => 53 | 234 => 86 | 233 => 85 | 236 => 88 | 235 => 87 | 228 => 54 | 271 => 119 | 151 => 118 | 197 => 76 | 120 => 138 | 152 => 51 | 260 => 115 | 137 => 79 | 119 => 80 | 224 => 81 | 225 => 82 | 217 => 116 | 266 => 136 | n => n, fun | 9 => 9 | 4 => 4 | 3 => 3 | 5 => 5 | 117 => 93 | 116 => 92 | 0 => 0 | 124 => 130 | 21 => 21 | 105 => 124 | 46 => 129 | 119 => 186 | 139 => 189 | 138 => 188 | n => n, fun | 3 => 2 | 4 => 3 | n => n⟩
theorem Tryz.trimA : Lays.n160 Tryz.prog Tryz.trimA_ren where
  mixed := by kernel_rfl
  f119 := Tryz.func80.trans (congrArg some (by kernel_rfl))
  f120 := Tryz.func138.trans (congrArg some (by kernel_rfl))
  f137 := Tryz.func79.trans (congrArg some (by kernel_rfl))
  f151 := Tryz.func118.trans (congrArg some (by kernel_rfl))
  f152 := Tryz.func51.trans (congrArg some (by kernel_rfl))
  f160 := Tryz.func55.trans (congrArg some (by kernel_rfl))
  f197 := Tryz.func76.trans (congrArg some (by kernel_rfl))
  f217 := Tryz.func116.trans (congrArg some (by kernel_rfl))
  f224 := Tryz.func81.trans (congrArg some (by kernel_rfl))
  f225 := Tryz.func82.trans (congrArg some (by kernel_rfl))
  f227 := Tryz.func53.trans (congrArg some (by kernel_rfl))
  f228 := Tryz.func54.trans (congrArg some (by kernel_rfl))
  f231 := Tryz.func83.trans (congrArg some (by kernel_rfl))
  f232 := Tryz.func84.trans (congrArg some (by kernel_rfl))
  f233 := Tryz.func85.trans (congrArg some (by kernel_rfl))
  f234 := Tryz.func86.trans (congrArg some (by kernel_rfl))
  f235 := Tryz.func87.trans (congrArg some (by kernel_rfl))
  f236 := Tryz.func88.trans (congrArg some (by kernel_rfl))
  f260 := Tryz.func115.trans (congrArg some (by kernel_rfl))
  f266 := Tryz.func136.trans (congrArg some (by kernel_rfl))
  f271 := Tryz.func119.trans (congrArg some (by kernel_rfl))
  t0 := Tryz.underlying0
  a0 := Tryz.isAgg0
  z0 := Tryz.sizeOf0
  v0 := Tryz.zeroValue0
  t3 := Tryz.underlying3
  a3 := Tryz.isAgg3
  z3 := Tryz.sizeOf3
  v3 := Tryz.zeroValue3
  t4 := Tryz.underlying4
  a4 := Tryz.isAgg4
  z4 := Tryz.sizeOf4
  v4 := Tryz.zeroValue4
  t5 := Tryz.underlying5
  a5 := Tryz.isAgg5
  z5 := Tryz.sizeOf5
  v5 := Tryz.zeroValue5
  t9 := Tryz.underlying9
  a9 := Tryz.isAgg9
  z9 := Tryz.sizeOf9
  v9 := Tryz.zeroValue9
  t21 := Tryz.underlying21
  a21 := Tryz.isAgg21
  z21 := Tryz.sizeOf21
  v21 := Tryz.zeroValue21
  t46 := Tryz.underlying129
  a46 := Tryz.isAgg129
  z46 := Tryz.sizeOf129
  v46 := Tryz.zeroValue129
  t105 := Tryz.underlying124
  a105 := Tryz.isAgg124
  z105 := Tryz.sizeOf124
  v105 := Tryz.zeroValue124
  t116 := Tryz.underlying92
  a116 := Tryz.isAgg92
  z116 := Tryz.sizeOf92
  t117 := Tryz.underlying93
  a117 := Tryz.isAgg93
  z117 := Tryz.sizeOf93
  v117 := Tryz.zeroValue93
  t119 := Tryz.underlying186
  a119 := Tryz.isAgg186
  z119 := Tryz.sizeOf186
  t124 := Tryz.underlying130
  a124 := Tryz.isAgg130
  z124 := Tryz.sizeOf130
  v124 := Tryz.zeroValue130
  t138 := Tryz.underlying188
  a138 := Tryz.isAgg188
  z138 := Tryz.sizeOf188
  v138 := Tryz.zeroValue188
  t139 := Tryz.underlying189
  a139 := Tryz.isAgg189
  z139 := Tryz.sizeOf189
  v139 := Tryz.zeroValue189
  g3 := by kernel_rfl
  g4 := by kernel_rfl
def Tryz.idxanyA_ren : Go.Shelf.Ren := ⟨fun | 153 => 24 | 152 => 51 | 226 => 52 | 227 => 53 | 228 => 54 | 137 => 79 | 119 => 80 | 224 => 81 | 225 => 82 | 217 => 116 | 266 => 136 | n => n, fun | 9 => 9 | 3 => 3 | 4 => 4 | 5 => 5 | 21 => 21 | 117 => 93 | 116 => 92 | 0 => 0 | 46 => 129 | 124 => 130 | n => n, fun n => n⟩
theorem Tryz.idxanyA : Lays.n153 Tryz.prog Tryz.idxanyA_ren where
  mixed := by kernel_rfl
  f119 := Tryz.func80.trans (congrArg some (by kernel_rfl))
  f137 := Tryz.func79.trans (congrArg some (by kernel_rfl))
  f152 := Tryz.func51.trans (congrArg some (by kernel_rfl))
  f153 := Tryz.func24.trans (congrArg some (by kernel_rfl))
  f217 := Tryz.func116.trans (congrArg some (by kernel_rfl))
  f224 := Tryz.func81.trans (congrArg some (by kernel_rfl))
  f225 := Tryz.func82.trans (congrArg some (by kernel_rfl))
  f226 := Tryz.func52.trans (congrArg some (by kernel_rfl))
  f227 := Tryz.func53.trans (congrArg some (by kernel_rfl))
  f228 := Tryz.func54.trans (congrArg some (by kernel_rfl))
  f266 := Tryz.func136.trans (congrArg some (by kernel_rfl))
  t0 := Tryz.underlying0
  a0 := Tryz.isAgg0
  z0 := Tryz.sizeOf0
  v0 := Tryz.zeroValue0
  t3 := Tryz.underlying3
  a3 := Tryz.isAgg3
  z3 := Tryz.sizeOf3
  v3 := Tryz.zeroValue3
  t4 := Tryz.underlying4
  a4 := Tryz.isAgg4
  z4 := Tryz.sizeOf4
  v4 := Tryz.zeroValue4
  t5 := Tryz.underlying5
  a5 := Tryz.isAgg5
  z5 := Tryz.sizeOf5
  v5 := Tryz.zeroValue5
  t9 := Tryz.underlying9
  a9 := Tryz.isAgg9
  z9 := Tryz.sizeOf9
  v9 := Tryz.zeroValue9
  t21 := Tryz.underlying21
  a21 := Tryz.isAgg21
  z21 := Tryz.sizeOf21
  v21 := Tryz.zeroValue21
  t46 := Tryz.underlying129
  a46 := Tryz.isAgg129
  z46 := Tryz.sizeOf129
  v46 := Tryz.zeroValue129
  t116 := Tryz.underlying92
  a116 := Tryz.isAgg92
  z116 := Tryz.sizeOf92
  t117 := Tryz.underlying93
  a117 := Tryz.isAgg93
  z117 := Tryz.sizeOf93
  v117 := Tryz.zeroValue93
  t124 := Tryz.underlying130
  a124 := Tryz.isAgg130
  z124 := Tryz.sizeOf130
  v124 := Tryz.zeroValue130
def Tryz.joinA_ren : Go.Shelf.Ren := ⟨fun | 156 => 22 | 165 => 45 | 166 => 46 | 169 => 47 | 240 => 73 | 241 => 74 | 276 => 113 | 277 => 114 | n => n, fun | 31 => 37 | 9 => 9 | 3 => 3 | 4 => 4 | 0 => 0 | 20 => 20 | 72 => 82 | 76 => 86 | 70 => 79 | 37 => 80 | 75 => 85 | 127 => 123 | 164 => 163 | 5 => 5 | 80 => 88 | n => n, fun n => n⟩
theorem Tryz.joinA : Lays.n156 Tryz.prog Tryz.joinA_ren where
  mixed := by kernel_rfl
  f156 := Tryz.func22.trans (congrArg some (by kernel_rfl))
  f165 := Tryz.func45.trans (congrArg some (by kernel_rfl))
  f166 := Tryz.func46.trans (congrArg some (by kernel_rfl))
  f169 := Tryz.func47.trans (congrArg some (by kernel_rfl))
  f240 := Tryz.func73.trans (congrArg some (by kernel_rfl))
  f241 := Tryz.func74.trans (congrArg some (by kernel_rfl))
  f276 := Tryz.func113.trans (congrArg some (by kernel_rfl))
  f277 := Tryz.func114.trans (congrArg some (by kernel_rfl))
  t0 := Tryz.underlying0
  a0 := Tryz.isAgg0
  z0 := Tryz.sizeOf0
  v0 := Tryz.zeroValue0
  t3 := Tryz.underlying3
  a3 := Tryz.isAgg3
  z3 := Tryz.sizeOf3
  v3 := Tryz.zeroValue3
  t4 := Tryz.underlying4
  a4 := Tryz.isAgg4
  z4 := Tryz.sizeOf4
  v4 := Tryz.zeroValue4
  t9 := Tryz.underlying9
  a9 := Tryz.isAgg9
  z9 := Tryz.sizeOf9
  v9 := Tryz.zeroValue9
  t20 := Tryz.underlying20
  a20 := Tryz.isAgg20
  z20 := Tryz.sizeOf20
  v20 := Tryz.zeroValue20
  t31 := Tryz.underlying37
  a31 := Tryz.isAgg37
  z31 := Tryz.sizeOf37
  v31 := Tryz.zeroValue37
  t37 := Tryz.underlying80
  a37 := Tryz.isAgg80
  z37 := Tryz.sizeOf80
  v37 := Tryz.zeroValue80
  t70 := Tryz.underlying79
  a70 := Tryz.isAgg79
  z70 := Tryz.sizeOf79
  v70 := Tryz.zeroValue79
  t72 := Tryz.underlying82
  a72 := Tryz.isAgg82
  z72 := Tryz.sizeOf82
  v72 := Tryz.zeroValue82
  t75 := Tryz.underlying85
  a75 := Tryz.isAgg85
  z75 := Tryz.sizeOf85
  v75 := Tryz.zeroValue85
  t76 := Tryz.underlying86
  a76 := Tryz.isAgg86
  z76 := Tryz.sizeOf86
  v76 := Tryz.zeroValue86
  t127 := Tryz.underlying123
  a127 := Tryz.isAgg123
  z127 := Tryz.sizeOf123
  v127 := Tryz.zeroValue123
  t164 := Tryz.underlying163
  a164 := Tryz.isAgg163
  z164 := Tryz.sizeOf163
  v164 := Tryz.zeroValue163
def Tryz.itoaA_ren : Go.Shelf.Ren := ⟨fun | 171 => 21 | 243 => 44 | 246 => 72 | 283 => 109 | 284 => 110 | 285 => 111 | 286 => 112 | 129 => 132 | 317 => 131 | 318 => 133 | 319 => 134 | 320 => 135 | 337 => 143 | 338 => 144 | n => n, fun | 3 => 3 | 9 => 9 | 2 => 2 | 4 => 4 | 171 => 157 | 0 => 0 | 53 => 158 | 37 => 80 | 5 => 5 | 173 => 161 | 212 => 182 | 51 => 183 | 20 => 20 | 213 => 184 | 46 => 129 | 232 => 205 | 233 => 206 | n => n, fun | 17 => 1 | 18 => 6 | 19 => 7 | n => n⟩
theorem Tryz.itoaA : LaysM.n171 Tryz.prog Tryz.itoaA_ren where
  mixed := by kernel_rfl
  f129 := Tryz.func132.trans (congrArg some (by kernel_rfl))
  f171 := Tryz.func21.trans (congrArg some (by kernel_rfl))
  f243 := Tryz.func44.trans (congrArg some (by kernel_rfl))
  f246 := Tryz.func72.trans (congrArg some (by kernel_rfl))
  f283 := Tryz.func109.trans (congrArg some (by kernel_rfl))
  f284 := Tryz.func110.trans (congrArg some (by kernel_rfl))
  f285 := Tryz.func111.trans (congrArg some (by kernel_rfl))
  f286 := Tryz.func112.trans (congrArg some (by kernel_rfl))
  f317 := Tryz.func131.trans (congrArg some (by kernel_rfl))
  f318 := Tryz.func133.trans (congrArg some (by kernel_rfl))
  f319 := Tryz.func134.trans (congrArg some (by kernel_rfl))
  f320 := Tryz.func135.trans (congrArg some (by kernel_rfl))
  f337 := Tryz.func143.trans (congrArg some (by kernel_rfl))
  f338 := Tryz.func144.trans (congrArg some (by kernel_rfl))
  t0 := Tryz.underlying0
  a0 := Tryz.isAgg0
  z0 := Tryz.sizeOf0
  v0 := Tryz.zeroValue0
  t2 := Tryz.underlying2
  a2 := Tryz.isAgg2
  z2 := Tryz.sizeOf2
  v2 := Tryz.zeroValue2
  t3 := Tryz.underlying3
  a3 := Tryz.isAgg3
  z3 := Tryz.sizeOf3
  v3 := Tryz.zeroValue3
  t4 := Tryz.underlying4
  a4 := Tryz.isAgg4
  z4 := Tryz.sizeOf4
  v4 := Tryz.zeroValue4
  t5 := Tryz.underlying5
  a5 := Tryz.isAgg5
  z5 := Tryz.sizeOf5
  v5 := Tryz.zeroValue5
  t9 := Tryz.underlying9
  a9 := Tryz.isAgg9
  z9 := Tryz.sizeOf9
  v9 := Tryz.zeroValue9
  t20 := Tryz.underlying20
  a20 := Tryz.isAgg20
  z20 := Tryz.sizeOf20
  v20 := Tryz.zeroValue20
  t37 := Tryz.underlying80
  a37 := Tryz.isAgg80
  z37 := Tryz.sizeOf80
  v37 := Tryz.zeroValue80
  t46 := Tryz.underlying129
  a46 := Tryz.isAgg129
  z46 := Tryz.sizeOf129
  v46 := Tryz.zeroValue129
  t51 := Tryz.underlying183
  a51 := Tryz.isAgg183
  z51 := Tryz.sizeOf183
  v51 := Tryz.zeroValue183
  t53 := Tryz.underlying158
  a53 := Tryz.isAgg158
  z53 := Tryz.sizeOf158
  v53 := Tryz.zeroValue158
  t171 := Tryz.underlying157
  a171 := Tryz.isAgg157
  z171 := Tryz.sizeOf157
  v171 := Tryz.zeroValue157
  t173 := Tryz.underlying161
  a173 := Tryz.isAgg161
  z173 := Tryz.sizeOf161
  v173 := Tryz.zeroValue161
  t212 := Tryz.underlying182
  a212 := Tryz.isAgg182
  z212 := Tryz.sizeOf182
  v212 := Tryz.zeroValue182
  t213 := Tryz.underlying184
  a213 := Tryz.isAgg184
  z213 := Tryz.sizeOf184
  t232 := Tryz.underlying205
  a232 := Tryz.isAgg205
  z232 := Tryz.sizeOf205
  v232 := Tryz.zeroValue205
  t233 := Tryz.underlying206
  a233 := Tryz.isAgg206
  z233 := Tryz.sizeOf206
  v233 := Tryz.zeroValue206
  g17 := by kernel_rfl
  g18 := by kernel_rfl
  g19 := by kernel_rfl
  i0 := by kernel_rfl
  i2 := by kernel_rfl
  i3 := by kernel_rfl
  i4 := by kernel_rfl
  i5 := by kernel_rfl
  i9 := by kernel_rfl
  i20 := by kernel_rfl
  i37 := by kernel_rfl
  i46 := by kernel_rfl
  i51 := by kernel_rfl
  i53 := by kernel_rfl
  i171 := by kernel_rfl
  i173 := by kernel_rfl
  i212 := by kernel_rfl
  i232 := by kernel_rfl
  i233 := by kernel_rfl
  m17 := by kernel_rfl
  m18 := by kernel_rfl
  m19 := by kernel_rfl
def Tryz.atoiA_ren : Go.Shelf.Ren := ⟨fun | 172 => 56 | 244 => 89 | 245 => 90 | 247 => 120 | 279 => 121 | 280 => 122 | 281 => 123 | 282 => 124 | 287 => 139 | 316 => 140 | 171 => 21 | 205 => 141 | 321 => 145 | 322 => 146 | 243 => 44 | 246 => 72 | 283 => 109 | 284 => 110 | 285 => 111 | 286 => 112 | 129 => 132 | 317 => 131 | 318 => 133 | 319 => 134 | 320 => 135 | 337 => 143 | 338 => 144 | n => n, fun | 9 => 9 | 3 => 3 | 75 => 85 | 76 => 86 | 4 => 4 | 5 => 5 | 167 => 167 | 37 => 80 | 0 => 0 | 85 => 168 | 2 => 2 | 168 => 170 | 53 => 158 | 175 => 192 | 46 => 129 | 210 => 196 | 127 => 123 | 145 => 203 | 143 => 201 | 21 => 21 | 171 => 157 | 173 => 161 | 212 => 182 | 51 => 183 | 20 => 20 | 213 => 184 | 232 => 205 | 233 => 206 | 80 => 88 | n => n, fun | 15 => 4 | 16 => 5 | 17 => 1 | 18 => 6 | 19 => 7 | n => n⟩
theorem Tryz.atoiA : Lays.n172 Tryz.prog Tryz.atoiA_ren where
  mixed := by kernel_rfl
  f129 := Tryz.func132.trans (congrArg some (by kernel_rfl))
  f171 := Tryz.func21.trans (congrArg some (by kernel_rfl))
  f172 := Tryz.func56.trans (congrArg some (by kernel_rfl))
  f205 := Tryz.func141.trans (congrArg some (by kernel_rfl))
  f243 := Tryz.func44.trans (congrArg some (by kernel_rfl))
  f244 := Tryz.func89.trans (congrArg some (by kernel_rfl))
  f245 := Tryz.func90.trans (congrArg some (by kernel_rfl))
  f246 := Tryz.func72.trans (congrArg some (by kernel_rfl))
  f247 := Tryz.func120.trans (congrArg some (by kernel_rfl))
  f279 := Tryz.func121.trans (congrArg some (by kernel_rfl))
  f280 := Tryz.func122.trans (congrArg some (by kernel_rfl))
  f281 := Tryz.func123.trans (congrArg some (by kernel_rfl))
  f282 := Tryz.func124.trans (congrArg some (by kernel_rfl))
  f283 := Tryz.func109.trans (congrArg some (by kernel_rfl))
  f284 := Tryz.func110.trans (congrArg some (by kernel_rfl))
  f285 := Tryz.func111.trans (congrArg some (by kernel_rfl))
  f286 := Tryz.func112.trans (congrArg some (by kernel_rfl))
  f287 := Tryz.func139.trans (congrArg some (by kernel_rfl))
  f316 := Tryz.func140.trans (congrArg some (by kernel_rfl))
  f317 := Tryz.func131.trans (congrArg some (by kernel_rfl))
  f318 := Tryz.func133.trans (congrArg some (by kernel_rfl))
  f319 := Tryz.func134.trans (congrArg some (by kernel_rfl))
  f320 := Tryz.func135.trans (congrArg some (by kernel_rfl))
  f321 := Tryz.func145.trans (congrArg some (by kernel_rfl))
  f322 := Tryz.func146.trans (congrArg some (by kernel_rfl))
  f337 := Tryz.func143.trans (congrArg some (by kernel_rfl))
  f338 := Tryz.func144.trans (congrArg some (by kernel_rfl))
  t0 := Tryz.underlying0
  a0 := Tryz.isAgg0
  z0 := Tryz.sizeOf0
  v0 := Tryz.zeroValue0
  t2 := Tryz.underlying2
  a2 := Tryz.isAgg2
  z2 := Tryz.sizeOf2
  v2 := Tryz.zeroValue2
  t3 := Tryz.underlying3
  a3 := Tryz.isAgg3
  z3 := Tryz.sizeOf3
  v3 := Tryz.zeroValue3
  t4 := Tryz.underlying4
  a4 := Tryz.isAgg4
  z4 := Tryz.sizeOf4
  v4 := Tryz.zeroValue4
  t5 := Tryz.underlying5
  a5 := Tryz.isAgg5
  z5 := Tryz.sizeOf5
  v5 := Tryz.zeroValue5
  t9 := Tryz.underlying9
  a9 := Tryz.isAgg9
  z9 := Tryz.sizeOf9
  v9 := Tryz.zeroValue9
  t20 := Tryz.underlying20
  a20 := Tryz.isAgg20
  z20 := Tryz.sizeOf20
  v20 := Tryz.zeroValue20
  t21 := Tryz.underlying21
  a21 := Tryz.isAgg21
  z21 := Tryz.sizeOf21
  v21 := Tryz.zeroValue21
  t37 := Tryz.underlying80
  a37 := Tryz.isAgg80
  z37 := Tryz.sizeOf80
  v37 := Tryz.zeroValue80
  t46 := Tryz.underlying129
  a46 := Tryz.isAgg129
  z46 := Tryz.sizeOf129
  v46 := Tryz.zeroValue129
  t51 := Tryz.underlying183
  a51 := Tryz.isAgg183
  z51 := Tryz.sizeOf183
  v51 := Tryz.zeroValue183
  t53 := Tryz.underlying158
  a53 := Tryz.isAgg158
  z53 := Tryz.sizeOf158
  v53 := Tryz.zeroValue158
  t75 := Tryz.underlying85
  a75 := Tryz.isAgg85
  z75 := Tryz.sizeOf85
  v75 := Tryz.zeroValue85
  t76 := Tryz.underlying86
  a76 := Tryz.isAgg86
  z76 := Tryz.sizeOf86
  v76 := Tryz.zeroValue86
  t85 := Tryz.underlying168
  a85 := Tryz.isAgg168
  z85 := Tryz.sizeOf168
  v85 := Tryz.zeroValue168
  t127 := Tryz.underlying123
  a127 := Tryz.isAgg123
  z127 := Tryz.sizeOf123
  v127 := Tryz.zeroValue123
  t143 := Tryz.underlying201
  a143 := Tryz.isAgg201
  z143 := Tryz.sizeOf201
  v143 := Tryz.zeroValue201
  t145 := Tryz.underlying203
  a145 := Tryz.isAgg203
  z145 := Tryz.sizeOf203
  v145 := Tryz.zeroValue203
  t167 := Tryz.underlying167
  a167 := Tryz.isAgg167
  z167 := Tryz.sizeOf167
  v167 := Tryz.zeroValue167
  t168 := Tryz.underlying170
  a168 := Tryz.isAgg170
  z168 := Tryz.sizeOf170
  v168 := Tryz.zeroValue170
  t171 := Tryz.underlying157
  a171 := Tryz.isAgg157
  z171 := Tryz.sizeOf157
  v171 := Tryz.zeroValue157
  t173 := Tryz.underlying161
  a173 := Tryz.isAgg161
  z173 := Tryz.sizeOf161
  v173 := Tryz.zeroValue161
  t175 := Tryz.underlying192
  a175 := Tryz.isAgg192
  z175 := Tryz.sizeOf192
  v175 := Tryz.zeroValue192
  t210 := Tryz.underlying196
  a210 := Tryz.isAgg196
  z210 := Tryz.sizeOf196
  v210 := Tryz.zeroValue196
  t212 := Tryz.underlying182
  a212 := Tryz.isAgg182
  z212 := Tryz.sizeOf182
  v212 := Tryz.zeroValue182
  t213 := Tryz.underlying184
  a213 := Tryz.isAgg184
  z213 := Tryz.sizeOf184
  t232 := Tryz.underlying205
  a232 := Tryz.isAgg205
  z232 := Tryz.sizeOf205
  v232 := Tryz.zeroValue205
  t233 := Tryz.underlying206
  a233 := Tryz.isAgg206
  z233 := Tryz.sizeOf206
  v233 := Tryz.zeroValue206
  g15 := by kernel_rfl
  g16 := by kernel_rfl
  g17 := by kernel_rfl
  g18 := by kernel_rfl
  g19 := by kernel_rfl
end Go.Proofs
namespace Go.Proofs.YtgkihbbeimhmbaaGreatDoor
open Go.Sx Go.RowKit Go.Shelf
/-- what strconv.Itoa reads -/
def TabW (w : World) : Prop := Lib.TabIs Tryz.prog w "internal/strconv.uint64pow10" .u64 Lib.pow10Tab
theorem TabW_st : ∀ w w', Below w.heap.size w w' → TabW w → TabW w' := fun _ _ hb h => tabIs_below hb h
/-- what strings.Split reads -/
def MaxW (w : World) : Prop := ∃ m, w.cell? ⟨Tryz.splitA_ren.g 1, 0, none⟩ = some (.int .i64 m)
theorem MaxW_st : ∀ w w', Below w.heap.size w w' → MaxW w → MaxW w' := fun _ _ hb h => someInt_below hb h
theorem extraJ : Builder.Extra Tryz.prog Tryz.joinA_ren where
  sizeBuilder := by kernel_rfl
  liesBuilder := by kernel_rfl
  t5 := by kernel_rfl
  a5 := fun w => by kernel_rfl
  z5 := fun w => by kernel_rfl
  v5 := fun w => by kernel_rfl
  infoByte := by kernel_rfl
  cellsByte := by kernel_rfl
  sizeByte := by kernel_rfl
  neB5 := by decide
theorem ktrim_ok (s cs : ByteArray) (hy1 : s.size ≤ 9223372036854775807) (hy2 : cs.size < 4294967281 ∧ cs.data.toList.all (fun b => decide (b.toNat < 128)) = true) : Fn0 Tryz.prog 55 [.string s, .string cs] (fun _ => True) (.string (Trc.trimT s cs)) := fn0_trim Tryz.trimA (by kernel_rfl) s cs hy1 hy2
theorem kindexAny_ok (s cs : ByteArray) (hy1 : s.size ≤ 2000000000) (hy2 : cs = (ByteArray.mk #[42, 45])) : Fn0 Tryz.prog 24 [.string s, .string cs] (fun _ => True) (.int .i64 (Trc.cutI s)) := fn0_indexAny Tryz.idxanyA (by kernel_rfl) s cs hy1 hy2
theorem kitoa_ok (n : Int) (hy1 : 0 ≤ n ∧ n ≤ 9223372036854775807) : Fn0 Tryz.prog 21 [.int .i64 n] (fun w => TabW w) (.string (Trc.decS n)) := fn0_itoa Tryz.itoaA n hy1
theorem kjoin_ok (l : List ByteArray) (al : Option Addr) (cl : Nat) (sp : ByteArray) (hy1 : (Trc.joinB l sp).size ≤ 140737488355328) : Fn0 Tryz.prog 22 [.slice al l.length cl, .string sp] (fun w => Rd tStr w al cl l) (.string (Trc.joinB l sp)) := fn0_join Tryz.joinA extraJ l al cl sp hy1
theorem katoi_ok (s : ByteArray) (hy1 : Trc.numOk s.data.toList) : Fn0 Tryz.prog 56 [.string s] (fun _ => True) (.tuple #[.int .i64 (Trc.num s), .nilIface]) := fn0_atoi Tryz.atoiA s hy1
theorem ksplit_ok (s sp : ByteArray) (hy1 : s.size < 4294967281) (hy2 : sp = (ByteArray.mk #[32])) : FnM Tryz.prog 11 [.string s, .string sp] (fun w => MaxW w) (Option Addr × Nat) (fun p => .slice p.1 (Trc.words s).length p.2) (fun p S w => SlO tStr S w p.1 p.2 (Trc.words s)) := by subst hy2; exact fnM_split Tryz.splitA (by kernel_rfl) s hy1
end Go.Proofs.YtgkihbbeimhmbaaGreatDoor

/- The walks, printed by a program from the translation and a specification. -/
namespace Go.Proofs.YtgkihbbeimhmbaaGreatDoor
open Go.Sx Go.RowKit
set_option maxHeartbeats 8000000 in
set_option maxRecDepth 100000 in
theorem trun_ok (l : List Int) (al : Option Addr) (cl : Nat) (by_ : Int) (hy1 : l ≠ [] ∧ (∀ k ∈ l, Lru.okKey k = true) ∧ (by_ = 0 ∨ by_ = 1)) : Fn0 Tryz.prog 20 [.slice al l.length cl, Vi by_] (fun w => Rd tInt w al cl l) (Vi (Trc.run by_ l : Int)) := by
 refine fn0 (nt := 27) (F0 := [(0, .slice al l.length cl), (1, Vi by_)]) Tryz.func20 rfl Tryz.ntmps20 rfl rfl (fun w0 hpre => ?_)
 have hl := hpre
 have hlhl := hl.2.1
 refine c_seq (c_region ?_)
 refine o_as rfl rfl ?_
 refine o_nil (q_then (c_seq (c_region ?_)))
 refine o_as rfl rfl ?_
 refine o_nil (q_then (c_seq (c_block ?_)))
 refine c_loop (St := Nat)
  (fun n => [(0, .slice al l.length cl), (1, Vi by_), (5, Vi (n : Int))])
  (fun n => [base w0])
  (fun n => Trc.RI l by_ n)
  (fun n => l.length - n)
  1 ?_ (sr (sr (sr (Sub.nil _)))) (fun _ hw => hw) ?_
 ·exact Trc.RI.start hy1.1 _
 rintro n hI K hK1
 have hn1 := hI.pos
 have hn2 := hI.le
 have hkb := Trc.key_bd (l := l) hy1.2.1 ((n : Int) - 1).toNat
 show SC _ _ Tryz.prog 27 w0 _ _ [(0, .slice al l.length cl), (1, Vi by_), (5, Vi (n : Int))] [base w0]
 refine c_seq (c_seq ?_)
 refine c_draw hmix (by kernel_rfl) ?_
 refine w_mv rfl rfl ?_
 refine w_mv rfl rfl ?_
 refine w_p (p_len_slice rfl rfl Tryz.underlying26) ?_
 refine w_p (p_lt rfl rfl) ?_
 refine w_mv rfl rfl ?_
 refine w_and (p := 23) 13 ((l.getD n default) == ((l.getD (((n : Int) - 1).toNat) default) + by_)) ?_ ?_ ?_
 ·intro hb2 hk
  simp only [decide_eq_true_eq] at hb2
  refine w_unguard 10 rfl rfl ?_
  refine w_mv rfl rfl ?_
  refine w_unguard 10 rfl rfl ?_
  refine w_mv rfl rfl ?_
  refine w_unguard 10 rfl rfl ?_
  refine w_p (p_indexAddr (L := l) (T := tInt) (i := (n : Int)) rfl rfl (rd_base (i := 0) rfl hl) Tryz.underlying26 sz3 (by omega) (by omega)) ?_
  refine w_unguard 10 rfl rfl ?_
  refine w_p (p_loadE1 (i := n) (T := tInt) (L := l) (v := Vi (l.getD n default)) rfl (rd_base (i := 0) rfl hl) (by first | assumption | omega) sh3 (congrArg tInt.enc (getd_at (by first | assumption | omega) default))) ?_
  refine w_unguard 10 rfl rfl ?_
  refine w_mv rfl rfl ?_
  refine w_unguard 10 rfl rfl ?_
  refine w_mv rfl rfl ?_
  refine w_unguard 10 rfl rfl ?_
  refine w_p (p_subb rfl rfl (by omega)) ?_
  refine w_unguard 10 rfl rfl ?_
  refine w_p (p_indexAddr (L := l) (T := tInt) (i := ((n : Int) - 1)) rfl rfl (rd_base (i := 0) rfl hl) Tryz.underlying26 sz3 (by omega) (by omega)) ?_
  refine w_unguard 10 rfl rfl ?_
  refine w_p (p_loadE1 (i := ((n : Int) - 1).toNat) (T := tInt) (L := l) (v := Vi (l.getD (((n : Int) - 1).toNat) default)) rfl (rd_base (i := 0) rfl hl) (by first | assumption | omega) sh3 (congrArg tInt.enc (getd_at (by first | assumption | omega) default))) ?_
  refine w_unguard 10 rfl rfl ?_
  refine w_mv rfl rfl ?_
  refine w_unguard 10 rfl rfl ?_
  refine w_p (p_addb rfl rfl (by omega)) ?_
  refine w_unguard 10 rfl rfl ?_
  refine w_p (p_eq rfl rfl) ?_
  refine w_pt rfl rfl rfl ?_
  exact w_sub (sr (Sub.skip rfl (Sub.skip rfl (Sub.skip rfl (Sub.skip rfl (Sub.skip rfl (Sub.skip rfl (Sub.skip rfl (Sub.skip rfl (Sub.skip rfl (Sub.skip rfl (Sub.skip rfl (Sub.skip rfl (Sub.skip rfl (Sub.skip rfl (Sub.refl _)))))))))))))))) hk
 ·intro hb2 hk
  refine w_guard_no rfl 10 rfl rfl rfl rfl rfl ?_
  refine w_guard_no rfl 10 rfl rfl rfl rfl rfl ?_
  refine w_guard_no rfl 10 rfl rfl rfl rfl rfl ?_
  refine w_guard_no rfl 10 rfl rfl rfl rfl rfl ?_
  refine w_guard_no rfl 10 rfl rfl rfl rfl rfl ?_
  refine w_guard_no rfl 10 rfl rfl rfl rfl rfl ?_
  refine w_guard_no rfl 10 rfl rfl rfl rfl rfl ?_
  refine w_guard_no rfl 10 rfl rfl rfl rfl rfl ?_
  refine w_guard_no rfl 10 rfl rfl rfl rfl rfl ?_
  refine w_guard_no rfl 10 rfl rfl rfl rfl rfl ?_
  refine w_guard_no rfl 10 rfl rfl rfl rfl rfl ?_
  refine w_guard_no rfl 10 rfl rfl rfl rfl rfl ?_
  refine w_pf rfl rfl rfl ?_
  exact w_sub (sr (Sub.skip rfl (Sub.skip rfl (Sub.skip rfl (Sub.skip rfl (Sub.skip rfl (Sub.skip rfl (Sub.skip rfl (Sub.skip rfl (Sub.skip rfl (Sub.skip rfl (Sub.skip rfl (Sub.skip rfl (Sub.skip rfl (Sub.skip rfl (Sub.refl _)))))))))))))))) hk
 refine w_nil (q_then ?_)
 refine c_cond rfl (fun hc3 => ?_) (fun hc3 => ?_)
 ·simp only [Bool.and_eq_true, decide_eq_true_eq, beq_iff_eq] at hc3
  have hst := hc3
  refine c_skip (q_then (c_block (c_region ?_)))
  refine o_mv rfl rfl ?_
  refine o_p (p_addb rfl rfl (by omega)) ?_
  refine o_as rfl rfl ?_
  refine o_nil ?_
  refine q_block_normal ?_
  refine q_round hK1 (n + 1) ?_ ?_ ?_ ?_
  ·clear hK1
   exact hI.next (by omega) hst.2
  ·(try dsimp only); omega
  ·exact sr (sr (sr (Sub.nil _)))
  ·exact pk [0]
 ·simp only [Bool.and_eq_false_iff, decide_eq_false_iff_not, Int.not_lt, beq_eq_false_iff_ne, ne_eq] at hc3
  have hst := hc3
  refine c_exit ?_
  refine q_then_exit (q_then_exit (q_block_exit (q_then ?_)))
  refine c_seq (c_region ?_)
  refine o_mv rfl rfl ?_
  refine o_as rfl rfl ?_
  refine o_nil (q_then (c_ret ?_))
  have hr0 : ((n : Int) : Int) = (Trc.run by_ l : Int) := by
   exact hI.done hy1.1 hst
  refine q_end0 (v := Vi (n : Int)) (rt1 rfl (r_tmp rfl)) (i := 0) rfl ?_
  exact (by have hcc := congrArg (fun (y0 : Int) => (.int .i64 y0 : Value)) hr0; exact hcc)

set_option maxHeartbeats 8000000 in
set_option maxRecDepth 100000 in
theorem tnumber_ok (s : ByteArray) (hy1 : s.size ≤ 2000000000) : Fn0 Tryz.prog 25 [.string s] (fun _ => True) (Vi (Trc.num s)) := by
 refine fn0 (nt := 33) (F0 := [(0, .string s)]) Tryz.func25 rfl Tryz.ntmps25 rfl rfl (fun w0 hpre => ?_)
 refine c_seq (c_region ?_)
 refine o_as rfl rfl ?_
 refine o_nil (q_then (c_seq (c_seq (c_region ?_))))
 refine o_mv rfl rfl ?_
 refine o_p (p_eqStr (s := s) (t := (ByteArray.mk #[])) rfl rfl) ?_
 refine o_mv rfl rfl ?_
 refine o_or (p := 11) 4 (decide (7 < (s.size : Int))) ?_ ?_ ?_
 ·intro hb1 hk
  simp only [decide_eq_false_iff_not] at hb1
  refine o_unguard 7 rfl rfl ?_
  refine o_mv rfl rfl ?_
  refine o_unguard 7 rfl rfl ?_
  refine o_p (p_len_string rfl rfl Tryz.underlying9) ?_
  refine o_unguard 7 rfl rfl ?_
  refine o_p (p_gt rfl rfl) ?_
  refine o_pf rfl rfl rfl ?_
  exact o_sub (sr (Sub.skip rfl (Sub.skip rfl (Sub.skip rfl (Sub.skip rfl (Sub.skip rfl (Sub.refl _))))))) hk
 ·intro hb1 hk
  refine o_guard_no rfl 7 rfl rfl rfl rfl rfl ?_
  refine o_guard_no rfl 7 rfl rfl rfl rfl rfl ?_
  refine o_guard_no rfl 7 rfl rfl rfl rfl rfl ?_
  refine o_pt rfl rfl rfl ?_
  exact o_sub (sr (Sub.skip rfl (Sub.skip rfl (Sub.skip rfl (Sub.skip rfl (Sub.skip rfl (Sub.refl _))))))) hk
 refine o_mv rfl rfl ?_
 refine o_or (p := 21) 9 (decide (1 < (s.size : Int)) && (((byteAt s 0).toNat : Int) == 48)) ?_ ?_ ?_
 ·intro hb2 hk
  simp only [Bool.or_eq_false_iff, decide_eq_false_iff_not, Int.not_lt] at hb2
  refine o_unguard 12 rfl rfl ?_
  refine o_mv rfl rfl ?_
  refine o_unguard 12 rfl rfl ?_
  refine o_p (p_len_string rfl rfl Tryz.underlying9) ?_
  refine o_unguard 12 rfl rfl ?_
  refine o_p (p_gt rfl rfl) ?_
  refine o_unguard 12 rfl rfl ?_
  refine o_mv rfl rfl ?_
  refine o_and (p := 20) 4 (((byteAt s 0).toNat : Int) == 48) ?_ ?_ ?_
  ·intro hb3 hk
   simp only [decide_eq_true_eq] at hb3
   refine o_unguard 16 rfl rfl ?_
   refine o_mv rfl rfl ?_
   refine o_unguard 16 rfl rfl ?_
   refine o_p (p_indexStr (z := 0) (i := 0) rfl rfl Tryz.underlying9 rfl (by omega)) ?_
   refine o_unguard 16 rfl rfl ?_
   refine o_p (p_eq rfl rfl) ?_
   refine o_unguard 12 rfl rfl ?_
   refine o_pt rfl rfl rfl ?_
   exact o_sub (sr (Sub.skip rfl (Sub.skip rfl (Sub.skip rfl (Sub.skip rfl (Sub.skip rfl (Sub.refl _))))))) hk
  ·intro hb3 hk
   refine o_guard_no rfl 16 rfl rfl rfl rfl rfl ?_
   refine o_guard_no rfl 16 rfl rfl rfl rfl rfl ?_
   refine o_guard_no rfl 16 rfl rfl rfl rfl rfl ?_
   refine o_unguard 12 rfl rfl ?_
   refine o_pf rfl rfl rfl ?_
   exact o_sub (sr (Sub.skip rfl (Sub.skip rfl (Sub.skip rfl (Sub.skip rfl (Sub.skip rfl (Sub.refl _))))))) hk
  refine o_pf rfl rfl rfl ?_
  exact o_sub (sr (Sub.skip rfl (Sub.skip rfl (Sub.skip rfl (Sub.skip rfl (Sub.skip rfl (Sub.skip rfl (Sub.refl _)))))))) hk
 ·intro hb2 hk
  refine o_guard_no rfl 12 rfl rfl rfl rfl rfl ?_
  refine o_guard_no rfl 12 rfl rfl rfl rfl rfl ?_
  refine o_guard_no rfl 12 rfl rfl rfl rfl rfl ?_
  refine o_guard_no rfl 12 rfl rfl rfl rfl rfl ?_
  refine o_guard_no rfl 16 rfl rfl rfl rfl rfl ?_
  refine o_guard_no rfl 16 rfl rfl rfl rfl rfl ?_
  refine o_guard_no rfl 16 rfl rfl rfl rfl rfl ?_
  refine o_guard_no rfl 12 rfl rfl rfl rfl rfl ?_
  refine o_pt rfl rfl rfl ?_
  exact o_sub (sr (Sub.skip rfl (Sub.skip rfl (Sub.skip rfl (Sub.skip rfl (Sub.skip rfl (Sub.skip rfl (Sub.skip rfl (Sub.skip rfl (Sub.skip rfl (Sub.skip rfl (Sub.refl _)))))))))))) hk
 refine o_mv rfl rfl ?_
 refine o_or (p := 26) 4 (!decide ((Trc.trimT s (ByteArray.mk #[48, 49, 50, 51, 52, 53, 54, 55, 56, 57])) = (ByteArray.mk #[]))) ?_ ?_ ?_
 ·intro hb4 hk
  simp only [Bool.or_eq_false_iff, decide_eq_false_iff_not, Int.not_lt, Bool.and_eq_false_iff, beq_eq_false_iff_ne, ne_eq] at hb4
  refine o_unguard 22 rfl rfl ?_
  refine o_mv rfl rfl ?_
  refine o_unguard 22 rfl rfl ?_
  refine o_call0 (v := .string (Trc.trimT s (ByteArray.mk #[48, 49, 50, 51, 52, 53, 54, 55, 56, 57]))) rfl (ktrim_ok s (ByteArray.mk #[48, 49, 50, 51, 52, 53, 54, 55, 56, 57]) (by omega) (by decide)) hf55 (fun _ _ => trivial) rfl ?_
  refine o_unguard 22 rfl rfl ?_
  refine o_p (p_neStr (s := (Trc.trimT s (ByteArray.mk #[48, 49, 50, 51, 52, 53, 54, 55, 56, 57]))) (t := (ByteArray.mk #[])) rfl rfl) ?_
  refine o_pf rfl rfl rfl ?_
  exact o_sub (sr (Sub.skip rfl (Sub.skip rfl (Sub.skip rfl (Sub.skip rfl (Sub.skip rfl (Sub.refl _))))))) hk
 ·intro hb4 hk
  refine o_guard_no rfl 22 rfl rfl rfl rfl rfl ?_
  refine o_guard_no rfl 22 rfl rfl rfl rfl rfl ?_
  refine o_guard_no rfl 22 rfl rfl rfl rfl rfl ?_
  refine o_pt rfl rfl rfl ?_
  exact o_sub (sr (Sub.skip rfl (Sub.skip rfl (Sub.skip rfl (Sub.skip rfl (Sub.skip rfl (Sub.refl _))))))) hk
 refine o_nil (q_then ?_)
 refine c_cond rfl (fun hc5 => ?_) (fun hc5 => ?_)
 ·simp only [Bool.or_eq_true, decide_eq_true_eq, Bool.and_eq_true, beq_iff_eq, Bool.not_eq_true', decide_eq_false_iff_not] at hc5
  have hbd := hc5
  refine c_seq (c_region ?_)
  refine o_as rfl rfl ?_
  refine o_nil (q_then (c_ret ?_))
  refine q_then_ret ?_
  have hr0 : ((-1) : Int) = (Trc.num s) := by
   first | rfl | exact Trc.num_bad hbd
  refine q_end0 (v := Vi (-1)) (rt1 rfl (r_tmp rfl)) (i := 0) rfl ?_
  exact (by have hcc := congrArg (fun (y0 : Int) => (.int .i64 y0 : Value)) hr0; exact hcc)
 ·simp only [Bool.or_eq_false_iff, decide_eq_false_iff_not, Int.not_lt, Bool.and_eq_false_iff, beq_eq_false_iff_ne, ne_eq, Bool.not_eq_false', decide_eq_true_eq] at hc5
  have hok := Trc.num_cond hc5
  refine c_skip (q_then (c_seq (c_region ?_)))
  refine o_mv rfl rfl ?_
  refine o_call0 (v := .tuple #[Vi (Trc.num s), .nilIface]) rfl (katoi_ok s (by assumption)) hf56 (fun _ _ => trivial) rfl ?_
  refine o_mv rfl rfl ?_
  refine o_ex rfl rfl rfl ?_
  refine o_ex rfl rfl rfl ?_
  refine o_as rfl rfl ?_
  refine o_as rfl rfl ?_
  refine o_nil (q_then (c_seq (c_region ?_)))
  refine o_mv rfl rfl ?_
  refine o_as rfl rfl ?_
  refine o_nil (q_then (c_ret ?_))
  refine q_end0 (v := Vi (Trc.num s)) (rt1 rfl (r_tmp rfl)) (i := 0) rfl ?_
  exact rfl

set_option maxHeartbeats 8000000 in
set_option maxRecDepth 100000 in
theorem tpiece_ok (s : ByteArray) (hy1 : s.size ≤ 2000) : Fn0 Tryz.prog 12 [.string s] (fun _ => True) (.tuple #[Vi (Trc.pKey s), Vi (Trc.pBy s), Vi (Trc.pMany s), Vi (Trc.pErr s)]) := by
 refine fn0 (nt := 77) (F0 := [(0, .string s)]) Tryz.func12 rfl Tryz.ntmps12 rfl rfl (fun w0 hpre => ?_)
 have hcut := Trc.cutI_lt s
 have hng := Trc.num_ge s
 have hnk := Trc.pk_ge s
 have hnm := Trc.pm_ge s
 refine c_seq (c_region ?_)
 refine o_as rfl rfl ?_
 refine o_as rfl rfl ?_
 refine o_as rfl rfl ?_
 refine o_as rfl rfl ?_
 refine o_nil (q_then (c_seq (c_region ?_)))
 refine o_mv rfl rfl ?_
 refine o_call0 (v := Vi (Trc.cutI s)) rfl (kindexAny_ok s (ByteArray.mk #[42, 45]) (by omega) (rfl)) hf24 (fun _ _ => trivial) rfl ?_
 refine o_as rfl rfl ?_
 refine o_nil (q_then (c_seq (c_seq (c_region ?_))))
 refine o_mv rfl rfl ?_
 refine o_p (p_lt rfl rfl) ?_
 refine o_nil (q_then ?_)
 refine c_join (G := Int × Int)
  (fun ⟨key, many⟩ => [(0, .string s), (2, Vi key), (3, Vi 0), (4, Vi many), (6, Vi (Trc.cutI s))])
  (fun ⟨key, many⟩ => [base w0])
  (fun ⟨key, many⟩ => key = Trc.pk s ∧ many = Trc.pm s)
  (fun K hK1 => ?_) ?_
 ·refine c_cond rfl (fun hc2 => ?_) (fun hc2 => ?_)
  ·simp only [decide_eq_true_eq] at hc2
   refine c_region ?_
   refine o_mv rfl rfl ?_
   refine o_call0 (v := Vi (Trc.num s)) rfl (tnumber_ok s (by first | assumption | omega | (rw [ByteArray.size_extract]; omega))) hf25 (fun _ _ => trivial) rfl ?_
   refine o_as rfl rfl ?_
   refine o_as rfl rfl ?_
   refine o_nil ?_
   refine q_join hK1 ((Trc.num s), 1) ?_ (sr (sr (sr (sr (sr (Sub.nil _)))))) (pk [0])
   clear hK1
   first | exact ⟨(if_pos (by assumption)).symm, (if_pos (by assumption)).symm⟩ | exact Trc.pk_cut (by assumption)
  ·simp only [decide_eq_false_iff_not, Int.not_lt] at hc2
   refine c_draw hmix (by kernel_rfl) ?_
   refine w_mv rfl rfl ?_
   refine w_mv rfl rfl ?_
   refine w_p (p_sliceStrH (s := s) (h := (Trc.cutI s)) rfl rfl Tryz.underlying9 (by omega) (by omega)) ?_
   refine w_call0 (v := Vi (Trc.num (s.extract 0 ((Trc.cutI s).toNat)))) rfl (tnumber_ok (s.extract 0 ((Trc.cutI s).toNat)) (by first | assumption | omega | (rw [ByteArray.size_extract]; omega))) hf25 (fun _ _ => trivial) rfl ?_
   refine w_mv rfl rfl ?_
   refine w_mv rfl rfl ?_
   refine w_p (p_addb rfl rfl (by omega)) ?_
   refine w_p (p_sliceStrL (s := s) (l := ((Trc.cutI s) + 1)) rfl rfl Tryz.underlying9 (by omega) (by omega)) ?_
   refine w_call0 (v := Vi (Trc.num (s.extract (((Trc.cutI s) + 1).toNat) s.size))) rfl (tnumber_ok (s.extract (((Trc.cutI s) + 1).toNat) s.size) (by first | assumption | omega | (rw [ByteArray.size_extract]; omega))) hf25 (fun _ _ => trivial) rfl ?_
   refine w_p (p_assign rfl) ?_
   refine w_p (p_assign rfl) ?_
   refine w_nil ?_
   refine q_join hK1 ((Trc.num (s.extract 0 ((Trc.cutI s).toNat))), (Trc.num (s.extract (((Trc.cutI s) + 1).toNat) s.size))) ?_ (sr (sr (sr (sr (sr (Sub.nil _)))))) (pk [0])
   clear hK1
   first | exact ⟨(if_pos (by assumption)).symm, (if_pos (by assumption)).symm⟩ | exact Trc.pk_cut (by assumption)
 rintro ⟨key, many⟩ ⟨hjk, hjm⟩
 show SQ _ 77 w0 _ _ [(0, .string s), (2, Vi key), (3, Vi 0), (4, Vi many), (6, Vi (Trc.cutI s))] [base w0]
 refine q_then (c_seq (c_block (c_seq (c_region ?_))))
 refine o_mv rfl rfl ?_
 refine o_p (p_lt rfl rfl) ?_
 refine o_mv rfl rfl ?_
 refine o_or (p := 29) 3 (decide (many < 0)) ?_ ?_ ?_
 ·intro hb3 hk
  simp only [decide_eq_false_iff_not, Int.not_lt] at hb3
  refine o_unguard 26 rfl rfl ?_
  refine o_mv rfl rfl ?_
  refine o_unguard 26 rfl rfl ?_
  refine o_p (p_lt rfl rfl) ?_
  refine o_pf rfl rfl rfl ?_
  exact o_sub (sr (Sub.skip rfl (Sub.skip rfl (Sub.skip rfl (Sub.skip rfl (Sub.refl _)))))) hk
 ·intro hb3 hk
  refine o_guard_no rfl 26 rfl rfl rfl rfl rfl ?_
  refine o_guard_no rfl 26 rfl rfl rfl rfl rfl ?_
  refine o_pt rfl rfl rfl ?_
  exact o_sub (sr (Sub.skip rfl (Sub.skip rfl (Sub.skip rfl (Sub.skip rfl (Sub.refl _)))))) hk
 refine o_as rfl rfl ?_
 refine o_nil (q_then ?_)
 refine c_cond rfl (fun hc4 => ?_) (fun hc4 => ?_)
 ·simp only [Bool.or_eq_true, decide_eq_true_eq] at hc4
  have hneg := hc4
  refine c_seq (c_region ?_)
  refine o_as rfl rfl ?_
  refine o_as rfl rfl ?_
  refine o_as rfl rfl ?_
  refine o_as rfl rfl ?_
  refine o_nil (q_then (c_ret ?_))
  refine q_block_ret (q_then_ret ?_)
  obtain ⟨r1, r2, r3, r4⟩ : _ ∧ _ ∧ _ ∧ _ := by first | exact Trc.piece_e1 hjk hjm hneg | exact Trc.piece_e2 hjk hjm hneg (hjb.symm.trans hbb) | exact Trc.piece_e3 hjk hjm hneg (hjb.symm.trans hbb) hda hok | exact Trc.piece_e4 hjk hjm hneg (hjb.symm.trans hbb) hda hok | exact Trc.piece_o1 hjk hjm hneg (hjb.symm.trans hbb) hda hok | exact Trc.piece_o2 hjk hjm hneg (hjb.symm.trans hbb) hda hok
  have hr0 : (0 : Int) = (Trc.pKey s) := by
   exact r1
  have hr1 : (0 : Int) = (Trc.pBy s) := by
   exact r2
  have hr2 : (0 : Int) = (Trc.pMany s) := by
   exact r3
  have hr3 : (1 : Int) = (Trc.pErr s) := by
   exact r4
  refine q_end0 (v := .tuple #[Vi 0, Vi 0, Vi 0, Vi 1]) (rt4 rfl (r_tmp rfl) (r_tmp rfl) (r_tmp rfl) (r_tmp rfl)) (i := 0) rfl ?_
  exact (by have hcc := congr (congr (congr (congrArg (fun (y0 : Int) (y1 : Int) (y2 : Int) (y3 : Int) => (.tuple #[.int .i64 y0, .int .i64 y1, .int .i64 y2, .int .i64 y3] : Value)) hr0) hr1) hr2) hr3; exact hcc)
 ·simp only [Bool.or_eq_false_iff, decide_eq_false_iff_not, Int.not_lt] at hc4
  have hneg := hc4
  refine c_seq (c_seq (c_region ?_))
  refine o_mv rfl rfl ?_
  refine o_p (p_ge rfl rfl) ?_
  refine o_mv rfl rfl ?_
  refine o_and (p := 38) 5 (((byteAt s ((Trc.cutI s).toNat)).toNat : Int) == 42) ?_ ?_ ?_
  ·intro hb5 hk
   simp only [decide_eq_true_eq] at hb5
   refine o_unguard 33 rfl rfl ?_
   refine o_mv rfl rfl ?_
   refine o_unguard 33 rfl rfl ?_
   refine o_mv rfl rfl ?_
   refine o_unguard 33 rfl rfl ?_
   refine o_p (p_indexStr (z := (Trc.cutI s)) (i := (Trc.cutI s).toNat) rfl rfl Tryz.underlying9 (by omega) (by omega)) ?_
   refine o_unguard 33 rfl rfl ?_
   refine o_p (p_eq rfl rfl) ?_
   refine o_pt rfl rfl rfl ?_
   exact o_sub (sr (Sub.skip rfl (Sub.skip rfl (Sub.skip rfl (Sub.skip rfl (Sub.skip rfl (Sub.skip rfl (Sub.refl _)))))))) hk
  ·intro hb5 hk
   refine o_guard_no rfl 33 rfl rfl rfl rfl rfl ?_
   refine o_guard_no rfl 33 rfl rfl rfl rfl rfl ?_
   refine o_guard_no rfl 33 rfl rfl rfl rfl rfl ?_
   refine o_guard_no rfl 33 rfl rfl rfl rfl rfl ?_
   refine o_pf rfl rfl rfl ?_
   exact o_sub (sr (Sub.skip rfl (Sub.skip rfl (Sub.skip rfl (Sub.skip rfl (Sub.skip rfl (Sub.skip rfl (Sub.refl _)))))))) hk
  refine o_mv rfl rfl ?_
  refine o_and (p := 42) 3 (decide (many < 2)) ?_ ?_ ?_
  ·intro hb6 hk
   simp only [Bool.and_eq_true, decide_eq_true_eq, beq_iff_eq] at hb6
   refine o_unguard 39 rfl rfl ?_
   refine o_mv rfl rfl ?_
   refine o_unguard 39 rfl rfl ?_
   refine o_p (p_lt rfl rfl) ?_
   refine o_pt rfl rfl rfl ?_
   exact o_sub (sr (Sub.skip rfl (Sub.skip rfl (Sub.skip rfl (Sub.skip rfl (Sub.refl _)))))) hk
  ·intro hb6 hk
   refine o_guard_no rfl 39 rfl rfl rfl rfl rfl ?_
   refine o_guard_no rfl 39 rfl rfl rfl rfl rfl ?_
   refine o_pf rfl rfl rfl ?_
   exact o_sub (sr (Sub.skip rfl (Sub.skip rfl (Sub.skip rfl (Sub.skip rfl (Sub.refl _)))))) hk
  refine o_as rfl rfl ?_
  refine o_nil (q_then ?_)
  refine c_join (G := Bool)
   (fun bad => [(0, .string s), (2, Vi key), (3, Vi 0), (4, Vi many), (6, Vi (Trc.cutI s)), (30, .bool bad)])
   (fun bad => [base w0])
   (fun bad => bad = decide (Trc.badForm s))
   (fun K hK7 => ?_) ?_
  ·refine c_cond rfl (fun hc8 => ?_) (fun hc8 => ?_)
   ·simp only [Bool.and_eq_true, decide_eq_true_eq, beq_iff_eq] at hc8
    refine c_skip ?_
    refine q_join hK7 ((decide (0 ≤ (Trc.cutI s)) && (((byteAt s ((Trc.cutI s).toNat)).toNat : Int) == 42)) && decide (many < 2)) ?_ (sr (sr (sr (sr (sr (sr (Sub.nil _))))))) (pk [0])
    clear hK7
    first | exact Trc.bad_rest hjk hjm hst42 | exact Trc.bad_true hjk hjm (by assumption)
   ·simp only [Bool.and_eq_false_iff, decide_eq_false_iff_not, Int.not_le, beq_eq_false_iff_ne, ne_eq, Int.not_lt] at hc8
    have hst42 := hc8
    refine c_region ?_
    refine o_mv rfl rfl ?_
    refine o_p (p_ge rfl rfl) ?_
    refine o_mv rfl rfl ?_
    refine o_and (p := 50) 5 (((byteAt s ((Trc.cutI s).toNat)).toNat : Int) == 45) ?_ ?_ ?_
    ·intro hb9 hk
     simp only [decide_eq_true_eq] at hb9
     refine o_unguard 45 rfl rfl ?_
     refine o_mv rfl rfl ?_
     refine o_unguard 45 rfl rfl ?_
     refine o_mv rfl rfl ?_
     refine o_unguard 45 rfl rfl ?_
     refine o_p (p_indexStr (z := (Trc.cutI s)) (i := (Trc.cutI s).toNat) rfl rfl Tryz.underlying9 (by omega) (by omega)) ?_
     refine o_unguard 45 rfl rfl ?_
     refine o_p (p_eq rfl rfl) ?_
     refine o_pt rfl rfl rfl ?_
     exact o_sub (sr (Sub.skip rfl (Sub.skip rfl (Sub.skip rfl (Sub.skip rfl (Sub.skip rfl (Sub.skip rfl (Sub.refl _)))))))) hk
    ·intro hb9 hk
     refine o_guard_no rfl 45 rfl rfl rfl rfl rfl ?_
     refine o_guard_no rfl 45 rfl rfl rfl rfl rfl ?_
     refine o_guard_no rfl 45 rfl rfl rfl rfl rfl ?_
     refine o_guard_no rfl 45 rfl rfl rfl rfl rfl ?_
     refine o_pf rfl rfl rfl ?_
     exact o_sub (sr (Sub.skip rfl (Sub.skip rfl (Sub.skip rfl (Sub.skip rfl (Sub.skip rfl (Sub.skip rfl (Sub.refl _)))))))) hk
    refine o_mv rfl rfl ?_
    refine o_and (p := 56) 5 (decide (many < (key + 2))) ?_ ?_ ?_
    ·intro hb10 hk
     simp only [Bool.and_eq_true, decide_eq_true_eq, beq_iff_eq] at hb10
     refine o_unguard 51 rfl rfl ?_
     refine o_mv rfl rfl ?_
     refine o_unguard 51 rfl rfl ?_
     refine o_mv rfl rfl ?_
     refine o_unguard 51 rfl rfl ?_
     refine o_p (p_addb rfl rfl (by omega)) ?_
     refine o_unguard 51 rfl rfl ?_
     refine o_p (p_lt rfl rfl) ?_
     refine o_pt rfl rfl rfl ?_
     exact o_sub (sr (Sub.skip rfl (Sub.skip rfl (Sub.skip rfl (Sub.skip rfl (Sub.skip rfl (Sub.skip rfl (Sub.refl _)))))))) hk
    ·intro hb10 hk
     refine o_guard_no rfl 51 rfl rfl rfl rfl rfl ?_
     refine o_guard_no rfl 51 rfl rfl rfl rfl rfl ?_
     refine o_guard_no rfl 51 rfl rfl rfl rfl rfl ?_
     refine o_guard_no rfl 51 rfl rfl rfl rfl rfl ?_
     refine o_pf rfl rfl rfl ?_
     exact o_sub (sr (Sub.skip rfl (Sub.skip rfl (Sub.skip rfl (Sub.skip rfl (Sub.skip rfl (Sub.skip rfl (Sub.refl _)))))))) hk
    refine o_as rfl rfl ?_
    refine o_nil ?_
    refine q_join hK7 ((decide (0 ≤ (Trc.cutI s)) && (((byteAt s ((Trc.cutI s).toNat)).toNat : Int) == 45)) && decide (many < (key + 2))) ?_ (sr (sr (sr (sr (sr (sr (Sub.nil _))))))) (pk [0])
    clear hK7
    first | exact Trc.bad_rest hjk hjm hst42 | exact Trc.bad_true hjk hjm (by assumption)
  rintro bad hjb
  show SQ _ 77 w0 _ _ [(0, .string s), (2, Vi key), (3, Vi 0), (4, Vi many), (6, Vi (Trc.cutI s)), (30, .bool bad)] [base w0]
  refine q_then ?_
  refine c_cond rfl (fun hc11 => ?_) (fun hc11 => ?_)
  ·skip
   have hbb := hc11
   refine c_seq (c_region ?_)
   refine o_as rfl rfl ?_
   refine o_as rfl rfl ?_
   refine o_as rfl rfl ?_
   refine o_as rfl rfl ?_
   refine o_nil (q_then (c_ret ?_))
   refine q_block_ret (q_then_ret ?_)
   obtain ⟨r1, r2, r3, r4⟩ : _ ∧ _ ∧ _ ∧ _ := by first | exact Trc.piece_e1 hjk hjm hneg | exact Trc.piece_e2 hjk hjm hneg (hjb.symm.trans hbb) | exact Trc.piece_e3 hjk hjm hneg (hjb.symm.trans hbb) hda hok | exact Trc.piece_e4 hjk hjm hneg (hjb.symm.trans hbb) hda hok | exact Trc.piece_o1 hjk hjm hneg (hjb.symm.trans hbb) hda hok | exact Trc.piece_o2 hjk hjm hneg (hjb.symm.trans hbb) hda hok
   have hr0 : (0 : Int) = (Trc.pKey s) := by
    exact r1
   have hr1 : (0 : Int) = (Trc.pBy s) := by
    exact r2
   have hr2 : (0 : Int) = (Trc.pMany s) := by
    exact r3
   have hr3 : (1 : Int) = (Trc.pErr s) := by
    exact r4
   refine q_end0 (v := .tuple #[Vi 0, Vi 0, Vi 0, Vi 1]) (rt4 rfl (r_tmp rfl) (r_tmp rfl) (r_tmp rfl) (r_tmp rfl)) (i := 0) rfl ?_
   exact (by have hcc := congr (congr (congr (congrArg (fun (y0 : Int) (y1 : Int) (y2 : Int) (y3 : Int) => (.tuple #[.int .i64 y0, .int .i64 y1, .int .i64 y2, .int .i64 y3] : Value)) hr0) hr1) hr2) hr3; exact hcc)
  ·skip
   have hbb := hc11
   refine c_skip ?_
   refine q_block_normal (q_then ?_)
   refine c_seq (c_region ?_)
   refine o_mv rfl rfl ?_
   refine o_as rfl rfl ?_
   refine o_nil (q_then (c_seq (c_seq (c_region ?_))))
   refine o_mv rfl rfl ?_
   refine o_p (p_ge rfl rfl) ?_
   refine o_mv rfl rfl ?_
   refine o_and (p := 65) 5 (((byteAt s ((Trc.cutI s).toNat)).toNat : Int) == 45) ?_ ?_ ?_
   ·intro hb12 hk
    simp only [decide_eq_true_eq] at hb12
    refine o_unguard 60 rfl rfl ?_
    refine o_mv rfl rfl ?_
    refine o_unguard 60 rfl rfl ?_
    refine o_mv rfl rfl ?_
    refine o_unguard 60 rfl rfl ?_
    refine o_p (p_indexStr (z := (Trc.cutI s)) (i := (Trc.cutI s).toNat) rfl rfl Tryz.underlying9 (by omega) (by omega)) ?_
    refine o_unguard 60 rfl rfl ?_
    refine o_p (p_eq rfl rfl) ?_
    refine o_pt rfl rfl rfl ?_
    exact o_sub (sr (Sub.skip rfl (Sub.skip rfl (Sub.skip rfl (Sub.skip rfl (Sub.skip rfl (Sub.skip rfl (Sub.refl _)))))))) hk
   ·intro hb12 hk
    refine o_guard_no rfl 60 rfl rfl rfl rfl rfl ?_
    refine o_guard_no rfl 60 rfl rfl rfl rfl rfl ?_
    refine o_guard_no rfl 60 rfl rfl rfl rfl rfl ?_
    refine o_guard_no rfl 60 rfl rfl rfl rfl rfl ?_
    refine o_pf rfl rfl rfl ?_
    exact o_sub (sr (Sub.skip rfl (Sub.skip rfl (Sub.skip rfl (Sub.skip rfl (Sub.skip rfl (Sub.skip rfl (Sub.refl _)))))))) hk
   refine o_nil (q_then ?_)
   refine c_cond rfl (fun hc13 => ?_) (fun hc13 => ?_)
   ·simp only [Bool.and_eq_true, decide_eq_true_eq, beq_iff_eq] at hc13
    have hda := Trc.dash_of hc13
    refine c_region ?_
    refine o_mv rfl rfl ?_
    refine o_mv rfl rfl ?_
    refine o_mv rfl rfl ?_
    refine o_p (p_subb rfl rfl (by omega)) ?_
    refine o_p (p_addb rfl rfl (by omega)) ?_
    refine o_as rfl rfl ?_
    refine o_as rfl rfl ?_
    refine o_as rfl rfl ?_
    refine o_nil (q_then (c_seq (c_seq (c_region ?_))))
    refine o_mv rfl rfl ?_
    refine o_call0 (v := .bool (Lru.okKey many)) rfl (key_ok many) hf26 (fun _ _ => trivial) rfl ?_
    refine o_p (p_not (b := (Lru.okKey many)) rfl) ?_
    refine o_nil (q_then ?_)
    refine c_cond rfl (fun hc14 => ?_) (fun hc14 => ?_)
    ·simp only [Bool.not_eq_true'] at hc14
     have hok := hc14
     refine c_seq (c_region ?_)
     refine o_as rfl rfl ?_
     refine o_as rfl rfl ?_
     refine o_as rfl rfl ?_
     refine o_as rfl rfl ?_
     refine o_nil (q_then (c_ret ?_))
     refine q_then_ret ?_
     obtain ⟨r1, r2, r3, r4⟩ : _ ∧ _ ∧ _ ∧ _ := by first | exact Trc.piece_e1 hjk hjm hneg | exact Trc.piece_e2 hjk hjm hneg (hjb.symm.trans hbb) | exact Trc.piece_e3 hjk hjm hneg (hjb.symm.trans hbb) hda hok | exact Trc.piece_e4 hjk hjm hneg (hjb.symm.trans hbb) hda hok | exact Trc.piece_o1 hjk hjm hneg (hjb.symm.trans hbb) hda hok | exact Trc.piece_o2 hjk hjm hneg (hjb.symm.trans hbb) hda hok
     have hr0 : (0 : Int) = (Trc.pKey s) := by
      exact r1
     have hr1 : (0 : Int) = (Trc.pBy s) := by
      exact r2
     have hr2 : (0 : Int) = (Trc.pMany s) := by
      exact r3
     have hr3 : (3 : Int) = (Trc.pErr s) := by
      exact r4
     refine q_end0 (v := .tuple #[Vi 0, Vi 0, Vi 0, Vi 3]) (rt4 rfl (r_tmp rfl) (r_tmp rfl) (r_tmp rfl) (r_tmp rfl)) (i := 0) rfl ?_
     exact (by have hcc := congr (congr (congr (congrArg (fun (y0 : Int) (y1 : Int) (y2 : Int) (y3 : Int) => (.tuple #[.int .i64 y0, .int .i64 y1, .int .i64 y2, .int .i64 y3] : Value)) hr0) hr1) hr2) hr3; exact hcc)
    ·simp only [Bool.not_eq_false'] at hc14
     have hok := hc14
     refine c_skip (q_then (c_seq (c_region ?_)))
     refine o_mv rfl rfl ?_
     refine o_mv rfl rfl ?_
     refine o_mv rfl rfl ?_
     refine o_as rfl rfl ?_
     refine o_as rfl rfl ?_
     refine o_as rfl rfl ?_
     refine o_as rfl rfl ?_
     refine o_nil (q_then (c_ret ?_))
     obtain ⟨r1, r2, r3, r4⟩ : _ ∧ _ ∧ _ ∧ _ := by first | exact Trc.piece_e1 hjk hjm hneg | exact Trc.piece_e2 hjk hjm hneg (hjb.symm.trans hbb) | exact Trc.piece_e3 hjk hjm hneg (hjb.symm.trans hbb) hda hok | exact Trc.piece_e4 hjk hjm hneg (hjb.symm.trans hbb) hda hok | exact Trc.piece_o1 hjk hjm hneg (hjb.symm.trans hbb) hda hok | exact Trc.piece_o2 hjk hjm hneg (hjb.symm.trans hbb) hda hok
     have hr0 : (key : Int) = (Trc.pKey s) := by
      exact r1
     have hr1 : (1 : Int) = (Trc.pBy s) := by
      exact r2
     have hr2 : (((many - key) + 1) : Int) = (Trc.pMany s) := by
      exact r3
     have hr3 : (0 : Int) = (Trc.pErr s) := by
      exact r4
     refine q_end0 (v := .tuple #[Vi key, Vi 1, Vi ((many - key) + 1), Vi 0]) (rt4 rfl (r_tmp rfl) (r_tmp rfl) (r_tmp rfl) (r_tmp rfl)) (i := 0) rfl ?_
     exact (by have hcc := congr (congr (congr (congrArg (fun (y0 : Int) (y1 : Int) (y2 : Int) (y3 : Int) => (.tuple #[.int .i64 y0, .int .i64 y1, .int .i64 y2, .int .i64 y3] : Value)) hr0) hr1) hr2) hr3; exact hcc)
   ·simp only [Bool.and_eq_false_iff, decide_eq_false_iff_not, Int.not_le, beq_eq_false_iff_ne, ne_eq] at hc13
    have hda := Trc.dash_no hc13
    refine c_skip (q_then (c_seq (c_seq (c_region ?_))))
    refine o_mv rfl rfl ?_
    refine o_call0 (v := .bool (Lru.okKey key)) rfl (key_ok key) hf26 (fun _ _ => trivial) rfl ?_
    refine o_p (p_not (b := (Lru.okKey key)) rfl) ?_
    refine o_nil (q_then ?_)
    refine c_cond rfl (fun hc15 => ?_) (fun hc15 => ?_)
    ·simp only [Bool.not_eq_true'] at hc15
     have hok := hc15
     refine c_seq (c_region ?_)
     refine o_as rfl rfl ?_
     refine o_as rfl rfl ?_
     refine o_as rfl rfl ?_
     refine o_as rfl rfl ?_
     refine o_nil (q_then (c_ret ?_))
     refine q_then_ret ?_
     obtain ⟨r1, r2, r3, r4⟩ : _ ∧ _ ∧ _ ∧ _ := by first | exact Trc.piece_e1 hjk hjm hneg | exact Trc.piece_e2 hjk hjm hneg (hjb.symm.trans hbb) | exact Trc.piece_e3 hjk hjm hneg (hjb.symm.trans hbb) hda hok | exact Trc.piece_e4 hjk hjm hneg (hjb.symm.trans hbb) hda hok | exact Trc.piece_o1 hjk hjm hneg (hjb.symm.trans hbb) hda hok | exact Trc.piece_o2 hjk hjm hneg (hjb.symm.trans hbb) hda hok
     have hr0 : (0 : Int) = (Trc.pKey s) := by
      exact r1
     have hr1 : (0 : Int) = (Trc.pBy s) := by
      exact r2
     have hr2 : (0 : Int) = (Trc.pMany s) := by
      exact r3
     have hr3 : (3 : Int) = (Trc.pErr s) := by
      exact r4
     refine q_end0 (v := .tuple #[Vi 0, Vi 0, Vi 0, Vi 3]) (rt4 rfl (r_tmp rfl) (r_tmp rfl) (r_tmp rfl) (r_tmp rfl)) (i := 0) rfl ?_
     exact (by have hcc := congr (congr (congr (congrArg (fun (y0 : Int) (y1 : Int) (y2 : Int) (y3 : Int) => (.tuple #[.int .i64 y0, .int .i64 y1, .int .i64 y2, .int .i64 y3] : Value)) hr0) hr1) hr2) hr3; exact hcc)
    ·simp only [Bool.not_eq_false'] at hc15
     have hok := hc15
     refine c_skip (q_then (c_seq (c_region ?_)))
     refine o_mv rfl rfl ?_
     refine o_mv rfl rfl ?_
     refine o_mv rfl rfl ?_
     refine o_as rfl rfl ?_
     refine o_as rfl rfl ?_
     refine o_as rfl rfl ?_
     refine o_as rfl rfl ?_
     refine o_nil (q_then (c_ret ?_))
     obtain ⟨r1, r2, r3, r4⟩ : _ ∧ _ ∧ _ ∧ _ := by first | exact Trc.piece_e1 hjk hjm hneg | exact Trc.piece_e2 hjk hjm hneg (hjb.symm.trans hbb) | exact Trc.piece_e3 hjk hjm hneg (hjb.symm.trans hbb) hda hok | exact Trc.piece_e4 hjk hjm hneg (hjb.symm.trans hbb) hda hok | exact Trc.piece_o1 hjk hjm hneg (hjb.symm.trans hbb) hda hok | exact Trc.piece_o2 hjk hjm hneg (hjb.symm.trans hbb) hda hok
     have hr0 : (key : Int) = (Trc.pKey s) := by
      exact r1
     have hr1 : (0 : Int) = (Trc.pBy s) := by
      exact r2
     have hr2 : (many : Int) = (Trc.pMany s) := by
      exact r3
     have hr3 : (0 : Int) = (Trc.pErr s) := by
      exact r4
     refine q_end0 (v := .tuple #[Vi key, Vi 0, Vi many, Vi 0]) (rt4 rfl (r_tmp rfl) (r_tmp rfl) (r_tmp rfl) (r_tmp rfl)) (i := 0) rfl ?_
     exact (by have hcc := congr (congr (congr (congrArg (fun (y0 : Int) (y1 : Int) (y2 : Int) (y3 : Int) => (.tuple #[.int .i64 y0, .int .i64 y1, .int .i64 y2, .int .i64 y3] : Value)) hr0) hr1) hr2) hr3; exact hcc)
end Go.Proofs.YtgkihbbeimhmbaaGreatDoor

/- The walks, printed by a program from the translation and a specification. -/
namespace Go.Proofs.YtgkihbbeimhmbaaGreatDoor
open Go.Sx Go.RowKit
set_option maxHeartbeats 8000000 in
set_option maxRecDepth 100000 in
theorem tclip_ok (l : List Int) (al : Option Addr) (cl : Nat) (Sl : Nat → Prop) : FnX Tryz.prog 13 [.slice al l.length cl] [own tInt Sl al cl l] (fun _ => True) (Option Addr × Nat × (Nat → Prop)) (fun p => .slice p.1 l.length p.2.1) (fun p => [own tInt p.2.2 p.1 p.2.1 l]) := by
 refine fnX (nt := 9) (F0 := [(0, .slice al l.length cl)]) Tryz.func13 rfl Tryz.ntmps13 rfl rfl (fun w0 hpre => ?_)
 refine c_know (fun w hw => own_len (i := 1) (T := tInt) hw rfl) (fun hlown_l => ?_)
 obtain ⟨hcown_l, hlown_l⟩ := hlown_l
 refine c_seq (c_region ?_)
 refine o_as rfl rfl ?_
 refine o_nil (q_then (c_seq (c_region ?_)))
 refine o_mv rfl rfl ?_
 refine o_mv rfl rfl ?_
 refine o_p (p_len_slice rfl rfl Tryz.underlying26) ?_
 refine o_mv rfl rfl ?_
 refine o_p (p_len_slice rfl rfl Tryz.underlying26) ?_
 refine o_p (p_sliceHM (L := l) (T := tInt) (h := (l.length : Int)) (m := (l.length : Int)) rfl rfl rfl Tryz.underlying26 sz3 (by omega) (by omega) (by omega) (rd_own (i := 1) rfl)) ?_
 refine o_as rfl rfl ?_
 refine o_nil (q_then (c_ret ?_))
 refine q_shrinkM (i := 1) (hi := (l.length : Int).toNat) (m := (l.length : Int).toNat) (T := tInt) rfl (by omega) (by omega) ?_
 have hr0 : ((l.take ((l.length : Int).toNat)) : List Int) = l := by
  first | rfl | simp
 refine q_endX (p := (al, (l.length : Int).toNat, Sl)) (rt1 rfl (r_tmp rfl)) ?_ (fun w hw => ?_)
 ·exact (by have hcc := congrArg (fun (y0 : List Int) => (.slice al y0.length ((l.length : Int).toNat) : Value)) hr0; exact hcc)
 ·have h2 := hw.pick (H' := [outer w0 [own tInt Sl al cl l], own tInt Sl al ((l.length : Int).toNat) (l.take ((l.length : Int).toNat))]) [0, 1] (by decide) rfl
  exact Eq.mp (congrArg (fun z => HeapIs w0 ((outer w0 [own tInt Sl al cl l]) :: z) w) ((by have hcc := congrArg (fun (y0 : List Int) => ([own tInt Sl al ((l.length : Int).toNat) y0] : List Ent)) hr0; exact hcc))) h2

set_option maxHeartbeats 8000000 in
set_option maxRecDepth 100000 in
theorem tparse_ok (s : ByteArray) : FnM Tryz.prog 6 [.string s] (fun w => MaxW w) (Option Addr × Nat) (fun p => .tuple #[.slice p.1 ((Trc.parse s).1).length p.2, Vi ((Trc.parse s).2)]) (fun p S w => SlO tInt S w p.1 p.2 ((Trc.parse s).1)) := by
 refine fnM (nt := 61) (F0 := [(0, .string s)]) Tryz.func6 rfl Tryz.ntmps6 rfl rfl (fun w0 hpre => ?_)
 have hMaxW := hpre
 refine c_seq (c_region ?_)
 refine o_as rfl rfl ?_
 refine o_as rfl rfl ?_
 refine o_nil (q_then (c_seq (c_block (c_seq (c_region ?_)))))
 refine o_mv rfl rfl ?_
 refine o_p (p_len_string rfl rfl Tryz.underlying9) ?_
 refine o_p (p_gt rfl rfl) ?_
 refine o_as rfl rfl ?_
 refine o_nil (q_then ?_)
 refine c_cond rfl (fun hc1 => ?_) (fun hc1 => ?_)
 ·simp only [decide_eq_true_eq] at hc1
  have hend := Trc.parse_big hc1
  refine c_seq (c_region ?_)
  refine o_as rfl rfl ?_
  refine o_as rfl rfl ?_
  refine o_nil (q_then (c_ret ?_))
  refine q_block_ret (q_then_ret ?_)
  have hr0 : ([] : List Int) = ((Trc.parse s).1) := by
   first | exact hend.1 | exact hend.2
  have hr1 : (2 : Int) = ((Trc.parse s).2) := by
   first | exact hend.1 | exact hend.2
  refine q_endM (p := (none, 0)) (fun _ => False) (rt2 rfl (r_tmp rfl) (r_tmp rfl)) (i := 0) rfl ?_ ?_ ?_
  ·exact (by have hcc := congr (congrArg (fun (y0 : List Int) (y1 : Int) => (.tuple #[.slice none y0.length 0, .int .i64 y1] : Value)) hr0) hr1; exact hcc)
  ·intro w hw b hb; exact hb.elim
  ·intro w hw; exact Eq.mp (congrArg (fun y => SlO tInt _ w none 0 y) hr0) (SlO.nil tInt w)
 ·simp only [decide_eq_false_iff_not, Int.not_lt] at hc1
  have hsz := hc1
  refine c_seq (c_region ?_)
  refine o_mv rfl rfl ?_
  refine o_p (p_eqStr (s := s) (t := (ByteArray.mk #[])) rfl rfl) ?_
  refine o_as rfl rfl ?_
  refine o_nil (q_then ?_)
  refine c_cond rfl (fun hc2 => ?_) (fun hc2 => ?_)
  ·simp only [decide_eq_true_eq] at hc2
   have hend := Trc.parse_none hc2
   refine c_seq (c_region ?_)
   refine o_as rfl rfl ?_
   refine o_as rfl rfl ?_
   refine o_nil (q_then (c_ret ?_))
   refine q_block_ret (q_then_ret ?_)
   have hr0 : ([] : List Int) = ((Trc.parse s).1) := by
    first | exact hend.1 | exact hend.2
   have hr1 : (0 : Int) = ((Trc.parse s).2) := by
    first | exact hend.1 | exact hend.2
   refine q_endM (p := (none, 0)) (fun _ => False) (rt2 rfl (r_tmp rfl) (r_tmp rfl)) (i := 0) rfl ?_ ?_ ?_
   ·exact (by have hcc := congr (congrArg (fun (y0 : List Int) (y1 : Int) => (.tuple #[.slice none y0.length 0, .int .i64 y1] : Value)) hr0) hr1; exact hcc)
   ·intro w hw b hb; exact hb.elim
   ·intro w hw; exact Eq.mp (congrArg (fun y => SlO tInt _ w none 0 y) hr0) (SlO.nil tInt w)
  ·simp only [decide_eq_false_iff_not] at hc2
   have hne := hc2
   refine c_skip ?_
   refine q_block_normal (q_then ?_)
   refine c_seq (c_region ?_)
   refine o_as rfl rfl ?_
   refine o_nil (q_then (c_seq (c_seq (c_region ?_))))
   refine o_mv rfl rfl ?_
   refine o_callM rfl (ksplit_ok s (ByteArray.mk #[32]) (by omega) (rfl)) hf11 (fun w hw => pre_base (i := 0) rfl MaxW_st hMaxW w hw) rfl (fun _ _ _ _ ha hA => SlO.agree ha hA) ?_
   rintro ⟨a5, c6⟩ S3
   refine o_know (fun w hw => own_len (i := 0) (T := tStr) hw rfl) (fun hlr7 => ?_)
   refine o_p (p_len_slice rfl rfl Tryz.underlying37) ?_
   refine o_mv rfl rfl ?_
   refine o_nil (q_then (c_block ?_))
   refine c_ownNil tInt ?_
   refine c_loop (St := List Int × Option Addr × Nat × (Nat → Prop) × Nat)
    (fun ⟨out, aout, cout, Sout, k⟩ => [(4, .slice aout out.length cout), (20, .slice a5 (Trc.words s).length c6), (21, Vi ((Trc.words s).length : Int)), (22, Vi (k : Int))])
    (fun ⟨out, aout, cout, Sout, k⟩ => [own tInt Sout aout cout out, own tStr S3 a5 c6 (Trc.words s), base w0])
    (fun ⟨out, aout, cout, Sout, k⟩ => Trc.PI s out k)
    (fun ⟨out, aout, cout, Sout, k⟩ => (Trc.words s).length - k)
    ([], none, 0, (fun _ => False), 0) ?_ (sr (sr (sr (sr (Sub.nil _))))) (fun _ hw => hw) ?_
   ·exact Trc.PI.start hsz hne
   rintro ⟨out, aout, cout, Sout, k⟩ hI K hK9
   have hle := hI.le
   have hlo := hI.len
   have hws := Trc.word_size s k
   have hkb := Trc.pKey_bd ((Trc.words s).getD k default)
   show SC _ _ Tryz.prog 61 w0 _ _ [(4, .slice aout out.length cout), (20, .slice a5 (Trc.words s).length c6), (21, Vi ((Trc.words s).length : Int)), (22, Vi (k : Int))] [own tInt Sout aout cout out, own tStr S3 a5 c6 (Trc.words s), base w0]
   refine c_seq (c_region ?_)
   refine o_p (p_lt rfl rfl) ?_
   refine o_nil (q_then (c_seq ?_))
   refine c_cond rfl (fun hc10 => ?_) (fun hc10 => ?_)
   ·simp only [decide_eq_true_eq] at hc10
    refine c_skip (q_then (c_seq (c_block (c_seq (c_region ?_)))))
    refine o_p (p_indexAddr (L := (Trc.words s)) (T := tStr) (i := (k : Int)) rfl rfl (rd_own (i := 1) rfl) Tryz.underlying37 sz9 (by omega) (by omega)) ?_
    refine o_p (p_loadE1 (i := k) (T := tStr) (L := (Trc.words s)) (v := .string ((Trc.words s).getD k default)) rfl (rd_own (i := 1) rfl) (by first | assumption | omega) sh9 (congrArg tStr.enc (getd_at (by first | assumption | omega) default))) ?_
    refine o_as rfl rfl ?_
    refine o_nil (q_then (c_seq (c_region ?_)))
    refine o_mv rfl rfl ?_
    refine o_call0 (v := .tuple #[Vi (Trc.pKey ((Trc.words s).getD k default)), Vi (Trc.pBy ((Trc.words s).getD k default)), Vi (Trc.pMany ((Trc.words s).getD k default)), Vi (Trc.pErr ((Trc.words s).getD k default))]) rfl (tpiece_ok ((Trc.words s).getD k default) (by first | assumption | omega)) hf12 (fun _ _ => trivial) rfl ?_
    refine o_mv rfl rfl ?_
    refine o_ex rfl rfl rfl ?_
    refine o_ex rfl rfl rfl ?_
    refine o_ex rfl rfl rfl ?_
    refine o_ex rfl rfl rfl ?_
    refine o_as rfl rfl ?_
    refine o_as rfl rfl ?_
    refine o_as rfl rfl ?_
    refine o_as rfl rfl ?_
    refine o_nil (q_then (c_seq (c_seq (c_region ?_))))
    refine o_mv rfl rfl ?_
    refine o_p (p_eq rfl rfl) ?_
    refine o_mv rfl rfl ?_
    refine o_and (p := 41) 6 (decide (200 < ((out.length : Int) + (Trc.pMany ((Trc.words s).getD k default))))) ?_ ?_ ?_
    ·intro hb11 hk
     simp only [beq_iff_eq] at hb11
     refine o_unguard 35 rfl rfl ?_
     refine o_mv rfl rfl ?_
     refine o_unguard 35 rfl rfl ?_
     refine o_p (p_len_slice rfl rfl Tryz.underlying26) ?_
     refine o_unguard 35 rfl rfl ?_
     refine o_mv rfl rfl ?_
     refine o_unguard 35 rfl rfl ?_
     refine o_p (p_addb rfl rfl (by omega)) ?_
     refine o_unguard 35 rfl rfl ?_
     refine o_p (p_gt rfl rfl) ?_
     refine o_pt rfl rfl rfl ?_
     exact o_sub (sr (Sub.skip rfl (Sub.skip rfl (Sub.skip rfl (Sub.skip rfl (Sub.skip rfl (Sub.skip rfl (Sub.skip rfl (Sub.refl _))))))))) hk
    ·intro hb11 hk
     refine o_guard_no rfl 35 rfl rfl rfl rfl rfl ?_
     refine o_guard_no rfl 35 rfl rfl rfl rfl rfl ?_
     refine o_guard_no rfl 35 rfl rfl rfl rfl rfl ?_
     refine o_guard_no rfl 35 rfl rfl rfl rfl rfl ?_
     refine o_guard_no rfl 35 rfl rfl rfl rfl rfl ?_
     refine o_pf rfl rfl rfl ?_
     exact o_sub (sr (Sub.skip rfl (Sub.skip rfl (Sub.skip rfl (Sub.skip rfl (Sub.skip rfl (Sub.skip rfl (Sub.skip rfl (Sub.refl _))))))))) hk
    refine o_nil (q_then ?_)
    refine c_cond rfl (fun hc12 => ?_) (fun hc12 => ?_)
    ·simp only [Bool.and_eq_true, beq_iff_eq, decide_eq_true_eq] at hc12
     have hend := hI.many (by omega) hc12.1 (by omega)
     refine c_region ?_
     refine o_as rfl rfl ?_
     refine o_nil (q_then (c_seq (c_seq (c_region ?_))))
     refine o_mv rfl rfl ?_
     refine o_p (p_ne rfl rfl) ?_
     refine o_nil (q_then ?_)
     refine c_true rfl ?_
     refine c_seq (c_region ?_)
     refine o_mv rfl rfl ?_
     refine o_as rfl rfl ?_
     refine o_as rfl rfl ?_
     refine o_nil (q_then (c_ret ?_))
     refine q_then_ret (q_block_ret (q_then_ret (q_then_ret (q_block_ret (q_then_ret ?_)))))
     have hr0 : ([] : List Int) = ((Trc.parse s).1) := by
      first | exact hend.1 | exact hend.2
     have hr1 : (2 : Int) = ((Trc.parse s).2) := by
      first | exact hend.1 | exact hend.2
     refine q_endM (p := (none, 0)) (fun _ => False) (rt2 rfl (r_tmp rfl) (r_tmp rfl)) (i := 2) rfl ?_ ?_ ?_
     ·exact (by have hcc := congr (congrArg (fun (y0 : List Int) (y1 : Int) => (.tuple #[.slice none y0.length 0, .int .i64 y1] : Value)) hr0) hr1; exact hcc)
     ·intro w hw b hb; exact hb.elim
     ·intro w hw; exact Eq.mp (congrArg (fun y => SlO tInt _ w none 0 y) hr0) (SlO.nil tInt w)
    ·simp only [Bool.and_eq_false_iff, beq_eq_false_iff_ne, ne_eq, decide_eq_false_iff_not, Int.not_lt] at hc12
     have hmy := hc12
     refine c_skip (q_then (c_seq (c_seq (c_region ?_))))
     refine o_mv rfl rfl ?_
     refine o_p (p_ne rfl rfl) ?_
     refine o_nil (q_then ?_)
     refine c_cond rfl (fun hc13 => ?_) (fun hc13 => ?_)
     ·simp only [bne_iff_ne, ne_eq] at hc13
      have hend := hI.bad (by omega) hc13
      refine c_seq (c_region ?_)
      refine o_mv rfl rfl ?_
      refine o_as rfl rfl ?_
      refine o_as rfl rfl ?_
      refine o_nil (q_then (c_ret ?_))
      refine q_then_ret (q_block_ret (q_then_ret (q_then_ret (q_block_ret (q_then_ret ?_)))))
      have hr0 : ([] : List Int) = ((Trc.parse s).1) := by
       first | exact hend.1 | exact hend.2
      have hr1 : ((Trc.pErr ((Trc.words s).getD k default)) : Int) = ((Trc.parse s).2) := by
       first | exact hend.1 | exact hend.2
      refine q_endM (p := (none, 0)) (fun _ => False) (rt2 rfl (r_tmp rfl) (r_tmp rfl)) (i := 2) rfl ?_ ?_ ?_
      ·exact (by have hcc := congr (congrArg (fun (y0 : List Int) (y1 : Int) => (.tuple #[.slice none y0.length 0, .int .i64 y1] : Value)) hr0) hr1; exact hcc)
      ·intro w hw b hb; exact hb.elim
      ·intro w hw; exact Eq.mp (congrArg (fun y => SlO tInt _ w none 0 y) hr0) (SlO.nil tInt w)
     ·simp only [bne_eq_false_iff_eq] at hc13
      have he0 := hc13
      have hms := hmy.resolve_left (fun h => h he0)
      refine c_skip (q_then (c_seq (c_region ?_)))
      refine o_mv rfl rfl ?_
      refine o_mv rfl rfl ?_
      refine o_nil (q_then (c_block ?_))
      refine c_loop (St := List Int × Option Addr × Nat × (Nat → Prop) × Nat)
       (fun ⟨o2, ao2, co2, So2, j⟩ => [(4, .slice ao2 o2.length co2), (7, Vi (Trc.pKey ((Trc.words s).getD k default))), (8, Vi (Trc.pBy ((Trc.words s).getD k default))), (20, .slice a5 (Trc.words s).length c6), (21, Vi ((Trc.words s).length : Int)), (22, Vi (k : Int)), (45, Vi (Trc.pMany ((Trc.words s).getD k default))), (46, Vi (j : Int))])
       (fun ⟨o2, ao2, co2, So2, j⟩ => [own tInt So2 ao2 co2 o2, own tStr S3 a5 c6 (Trc.words s), base w0])
       (fun ⟨o2, ao2, co2, So2, j⟩ => Trc.AI out (Trc.pKey ((Trc.words s).getD k default)) (Trc.pBy ((Trc.words s).getD k default)) (Trc.pMany ((Trc.words s).getD k default)) o2 j)
       (fun ⟨o2, ao2, co2, So2, j⟩ => (Trc.pMany ((Trc.words s).getD k default)).toNat - j)
       (out, aout, cout, Sout, 0) ?_ (sr (sr (sr (sr (sr (sr (sr (sr (Sub.nil _))))))))) (fun _ hw => hw) ?_
      ·exact Trc.AI.start _ _ _ _
      rintro ⟨o2, ao2, co2, So2, j⟩ hI_ K hK14
      have hA := hI_
      have hl2 := hA.len
      have hj2 := hA.le
      have hmb := Trc.mul_by ((Trc.words s).getD k default) j
      show SC _ _ Tryz.prog 61 w0 _ _ [(4, .slice ao2 o2.length co2), (7, Vi (Trc.pKey ((Trc.words s).getD k default))), (8, Vi (Trc.pBy ((Trc.words s).getD k default))), (20, .slice a5 (Trc.words s).length c6), (21, Vi ((Trc.words s).length : Int)), (22, Vi (k : Int)), (45, Vi (Trc.pMany ((Trc.words s).getD k default))), (46, Vi (j : Int))] [own tInt So2 ao2 co2 o2, own tStr S3 a5 c6 (Trc.words s), base w0]
      refine c_seq (c_region ?_)
      refine o_p (p_lt rfl rfl) ?_
      refine o_nil (q_then (c_seq ?_))
      refine c_cond rfl (fun hc15 => ?_) (fun hc15 => ?_)
      ·simp only [decide_eq_true_eq] at hc15
       refine c_skip (q_then (c_seq (c_block (c_seq (c_region ?_)))))
       refine o_mv rfl rfl ?_
       refine o_as rfl rfl ?_
       refine o_nil (q_then (c_region ?_))
       refine o_mv rfl rfl ?_
       refine o_mv rfl rfl ?_
       refine o_mv rfl rfl ?_
       refine o_mv rfl rfl ?_
       refine o_p (p_mulb (p := (j : Int)) (q := (Trc.pBy ((Trc.words s).getD k default))) rfl rfl (by omega)) ?_
       refine o_p (p_addb rfl rfl (by omega)) ?_
       refine o_buildSlice (m := 1) (T := tInt) (L := [((Trc.pKey ((Trc.words s).getD k default)) + ((j : Int) * (Trc.pBy ((Trc.words s).getD k default))))]) (vs := [Vi ((Trc.pKey ((Trc.words s).getD k default)) + ((j : Int) * (Trc.pBy ((Trc.words s).getD k default))))]) rfl rfl rfl rfl Tryz.underlying26 sz3 (by decide) ze3 rfl (by decide) rfl (fun S16 a17 => ?_)
       refine o_append (i := 1) (L := o2) (M := [((Trc.pKey ((Trc.words s).getD k default)) + ((j : Int) * (Trc.pBy ((Trc.words s).getD k default))))]) (T := tInt) rfl rfl rfl (rd_own (i := 0) rfl) Tryz.underlying26 Tryz.underlying26 (by intro k h; cases h) el3 (by intro z; simp [tInt, one1]) (by decide) (by first | omega | (simp only [List.length_cons, List.length_nil]; omega) | (simp only [List.length_append, List.length_cons, List.length_nil, List.length_take, List.length_drop]; omega)) rfl (fun a19 c20 S21 => ?_)
       refine o_as rfl rfl ?_
       refine o_nil ?_
       refine q_block_normal (q_then ?_)
       refine c_region ?_
       refine o_p (p_addb rfl rfl (by omega)) ?_
       refine o_mv rfl rfl ?_
       refine o_nil ?_
       refine q_round hK14 ((o2 ++ [((Trc.pKey ((Trc.words s).getD k default)) + ((j : Int) * (Trc.pBy ((Trc.words s).getD k default))))]), a19, c20, S21, j + 1) ?_ ?_ ?_ ?_
       ·clear hK14
        exact hA.next (by omega)
       ·(try dsimp only); omega
       ·exact sr (sr (sr (sr (sr (sr (sr (sr (Sub.nil _))))))))
       ·exact pk [1, 2, 3]
      ·simp only [decide_eq_false_iff_not, Int.not_lt] at hc15
       refine c_exit ?_
       refine q_then_exit (q_then_exit (q_block_exit (q_block_normal (q_then ?_))))
       refine c_region ?_
       refine o_p (p_addb rfl rfl (by omega)) ?_
       refine o_mv rfl rfl ?_
       refine o_nil ?_
       refine q_round hK9 (o2, ao2, co2, So2, k + 1) ?_ ?_ ?_ ?_
       ·clear hK9
        exact hI.next (by omega) he0 (by omega) (hA.done (by omega) (by omega))
       ·(try dsimp only); omega
       ·exact sr (sr (sr (sr (Sub.nil _))))
       ·exact pk [0, 1, 2]
   ·simp only [decide_eq_false_iff_not, Int.not_lt] at hc10
    have hend := hI.done (by omega)
    refine c_exit ?_
    refine q_then_exit (q_then_exit (q_block_exit (q_then ?_)))
    refine c_seq (c_region ?_)
    refine o_mv rfl rfl ?_
    refine o_callX (pre := [own tInt Sout aout cout out]) (R := [own tStr S3 a5 c6 (Trc.words s), base w0]) rfl (tclip_ok out aout cout Sout) hf13 rfl (fun _ _ => trivial) rfl ?_
    rintro ⟨a22, c23, S24⟩
    refine o_asH (H' := [own tInt S24 a22 c23 out, own tStr S3 a5 c6 (Trc.words s), base w0]) rfl ?_
    refine o_as rfl rfl ?_
    refine o_as rfl rfl ?_
    refine o_nil (q_then (c_ret ?_))
    have hr0 : (out : List Int) = ((Trc.parse s).1) := by
     first | exact hend.1 | exact hend.2
    have hr1 : (0 : Int) = ((Trc.parse s).2) := by
     first | exact hend.1 | exact hend.2
    refine q_endM (p := (a22, c23)) S24 (rt2 rfl (r_tmp rfl) (r_tmp rfl)) (i := 2) rfl ?_ ?_ ?_
    ·exact (by have hcc := congr (congrArg (fun (y0 : List Int) (y1 : Int) => (.tuple #[.slice a22 y0.length c23, .int .i64 y1] : Value)) hr0) hr1; exact hcc)
    ·exact fun w hw => hw.above (i := 2) (j := 0) (by decide) rfl rfl
    ·intro w hw; exact Eq.mp (congrArg (fun y => SlO tInt _ w a22 c23 y) hr0) ((hw.at (i := 0) rfl).here)

set_option maxHeartbeats 8000000 in
set_option maxRecDepth 100000 in
theorem tformat_ok (l : List Int) (al : Option Addr) (cl : Nat) : Fn0 Tryz.prog 10 [.slice al l.length cl] (fun w => Rd tInt w al cl l ∧ TabW w) (.tuple #[.string (Trc.format l), Vi (Lru.trace l)]) := by
 refine fn0 (nt := 57) (F0 := [(0, .slice al l.length cl)]) Tryz.func10 rfl Tryz.ntmps10 rfl rfl (fun w0 hpre => ?_)
 obtain ⟨hl, hTabW⟩ := hpre
 have hlhl := hl.2.1
 have s42 : (ByteArray.mk #[42]).size = 1 := rfl
 have s45 : (ByteArray.mk #[45]).size = 1 := rfl
 refine c_seq (c_region ?_)
 refine o_as rfl rfl ?_
 refine o_as rfl rfl ?_
 refine o_nil (q_then (c_seq (c_seq (c_region ?_))))
 refine o_mv rfl rfl ?_
 refine o_call0 (v := Vi (Lru.trace l)) rfl (checkTrace_ok l al cl) hf17 (fun w hw => (rd_base (i := 0) rfl hl) w hw) rfl ?_
 refine o_as rfl rfl ?_
 refine o_nil (q_then (c_seq (c_region ?_)))
 refine o_mv rfl rfl ?_
 refine o_p (p_ne rfl rfl) ?_
 refine o_nil (q_then ?_)
 refine c_cond rfl (fun hc1 => ?_) (fun hc1 => ?_)
 ·simp only [bne_iff_ne, ne_eq] at hc1
  have hend := Trc.fmt_bad hc1
  refine c_seq (c_region ?_)
  refine o_mv rfl rfl ?_
  refine o_as rfl rfl ?_
  refine o_as rfl rfl ?_
  refine o_nil (q_then (c_ret ?_))
  refine q_then_ret ?_
  have hr0 : ((ByteArray.mk #[]) : ByteArray) = (Trc.format l) := by
   first | rfl | exact hend | exact htr.symm
  refine q_end0 (v := .tuple #[.string (ByteArray.mk #[]), Vi (Lru.trace l)]) (rt2 rfl (r_tmp rfl) (r_tmp rfl)) (i := 0) rfl ?_
  exact (by have hcc := congrArg (fun (y0 : ByteArray) => (.tuple #[.string y0, Vi (Lru.trace l)] : Value)) hr0; exact hcc)
 ·simp only [bne_eq_false_iff_eq] at hc1
  have htr := hc1
  refine c_skip (q_then (c_seq (c_region ?_)))
  refine o_as rfl rfl ?_
  refine o_nil (q_then (c_seq (c_block ?_)))
  refine c_ownNil tStr ?_
  refine c_loop (St := List Int × Option Addr × Nat × List ByteArray × Option Addr × Nat × (Nat → Prop))
   (fun ⟨l2, al2, cl2, out, aout, cout, Sout⟩ => [(0, .slice al2 l2.length cl2), (5, .slice aout out.length cout)])
   (fun ⟨l2, al2, cl2, out, aout, cout, Sout⟩ => [own tStr Sout aout cout out, base w0])
   (fun ⟨l2, al2, cl2, out, aout, cout, Sout⟩ => Trc.FI l l2 out ∧ Rd tInt w0 al2 cl2 l2)
   (fun ⟨l2, al2, cl2, out, aout, cout, Sout⟩ => l2.length)
   (l, al, cl, [], none, 0, (fun _ => False)) ?_ (sr (sr (Sub.nil _))) (fun _ hw => hw) ?_
  ·exact ⟨Trc.FI.start htr, hl⟩
  rintro ⟨l2, al2, cl2, out, aout, cout, Sout⟩ hI K hK3
  obtain ⟨hF, hl2⟩ := hI
  have hl2l := hl2.2.1
  have hln := hF.len
  have hol := hF.olen
  show SC _ _ Tryz.prog 57 w0 _ _ [(0, .slice al2 l2.length cl2), (5, .slice aout out.length cout)] [own tStr Sout aout cout out, base w0]
  refine c_seq (c_seq (c_region ?_))
  refine o_mv rfl rfl ?_
  refine o_p (p_len_slice rfl rfl Tryz.underlying26) ?_
  refine o_p (p_gt rfl rfl) ?_
  refine o_nil (q_then ?_)
  refine c_cond rfl (fun hc4 => ?_) (fun hc4 => ?_)
  ·simp only [decide_eq_true_eq] at hc4
   have hne := Trc.len_pos hc4
   have hkk := hF.keys
   have hr0 := Trc.run_le hne 0
   have hr1 := Trc.run_le hne 1
   have hp0 := Trc.run_pos 0 l2
   have hp1 := Trc.run_pos 1 l2
   have hk0 := Trc.key_bd hkk 0
   have z0 := Trc.decS_sz (n := l2.getD 0 default) (by omega)
   refine c_skip (q_then (c_block (c_seq (c_region ?_))))
   refine o_mv rfl rfl ?_
   refine o_call0 (v := Vi (Trc.run (0 : Int) l2 : Int)) rfl (trun_ok l2 al2 cl2 (0 : Int) (by first | assumption | exact ⟨hne, hkk, .inl rfl⟩ | exact ⟨hne, hkk, .inr rfl⟩)) hf20 (fun w hw => (rd_base (i := 1) rfl hl2) w hw) rfl ?_
   refine o_mv rfl rfl ?_
   refine o_call0 (v := Vi (Trc.run (1 : Int) l2 : Int)) rfl (trun_ok l2 al2 cl2 (1 : Int) (by first | assumption | exact ⟨hne, hkk, .inl rfl⟩ | exact ⟨hne, hkk, .inr rfl⟩)) hf20 (fun w hw => (rd_base (i := 1) rfl hl2) w hw) rfl ?_
   refine o_as rfl rfl ?_
   refine o_as rfl rfl ?_
   refine o_nil (q_then (c_seq (c_region ?_)))
   refine o_mv rfl rfl ?_
   refine o_p (p_indexAddr (L := l2) (T := tInt) (i := 0) rfl rfl (rd_base (i := 1) rfl hl2) Tryz.underlying26 sz3 (by omega) (by omega)) ?_
   refine o_p (p_loadE1 (i := 0) (T := tInt) (L := l2) (v := Vi (l2.getD 0 default)) rfl (rd_base (i := 1) rfl hl2) (by first | assumption | omega) sh3 (congrArg tInt.enc (getd_at (by first | assumption | omega) default))) ?_
   refine o_call0 (v := .string (Trc.decS (l2.getD 0 default))) rfl (kitoa_ok (l2.getD 0 default) (by omega)) hf21 (fun w hw => pre_base (i := 1) rfl TabW_st hTabW w hw) rfl ?_
   refine o_as rfl rfl ?_
   refine o_nil (q_then (c_seq (c_region ?_)))
   refine o_as rfl rfl ?_
   refine o_nil (q_then (c_seq (c_block (c_seq (c_region ?_)))))
   refine o_mv rfl rfl ?_
   refine o_p (p_gt rfl rfl) ?_
   refine o_as rfl rfl ?_
   refine o_nil (q_then ?_)
   refine c_cond rfl (fun hc5 => ?_) (fun hc5 => ?_)
   ·simp only [decide_eq_true_eq] at hc5
    have hst := hc5
    have z1 := Trc.decS_sz (n := (Trc.run 0 l2 : Int)) (by omega)
    refine c_seq (c_region ?_)
    refine o_mv rfl rfl ?_
    refine o_as rfl rfl ?_
    refine o_nil (q_then (c_region ?_))
    refine o_mv rfl rfl ?_
    refine o_mv rfl rfl ?_
    refine o_call0 (v := .string (Trc.decS (Trc.run (0 : Int) l2 : Int))) rfl (kitoa_ok (Trc.run (0 : Int) l2 : Int) (by omega)) hf21 (fun w hw => pre_base (i := 1) rfl TabW_st hTabW w hw) rfl ?_
    refine o_p (p_addStr (s := (ByteArray.mk #[42])) (t := (Trc.decS (Trc.run (0 : Int) l2 : Int))) rfl rfl (by first | omega | (simp only [ByteArray.size_append]; omega))) ?_
    refine o_p (p_addStr (s := (Trc.decS (l2.getD 0 default))) (t := ((ByteArray.mk #[42]) ++ (Trc.decS (Trc.run (0 : Int) l2 : Int)))) rfl rfl (by first | omega | (simp only [ByteArray.size_append]; omega))) ?_
    refine o_as rfl rfl ?_
    refine o_nil ?_
    refine q_block_normal (q_then ?_)
    refine c_seq (c_region ?_)
    refine o_mv rfl rfl ?_
    refine o_mv rfl rfl ?_
    refine o_buildSlice (m := 1) (T := tStr) (L := [((Trc.decS (l2.getD 0 default)) ++ ((ByteArray.mk #[42]) ++ (Trc.decS (Trc.run (0 : Int) l2 : Int))))]) (vs := [.string ((Trc.decS (l2.getD 0 default)) ++ ((ByteArray.mk #[42]) ++ (Trc.decS (Trc.run (0 : Int) l2 : Int))))]) rfl rfl rfl rfl Tryz.underlying37 sz9 (by decide) ze9 rfl (by decide) rfl (fun S6 a7 => ?_)
    refine o_append (i := 1) (L := out) (M := [((Trc.decS (l2.getD 0 default)) ++ ((ByteArray.mk #[42]) ++ (Trc.decS (Trc.run (0 : Int) l2 : Int))))]) (T := tStr) rfl rfl rfl (rd_own (i := 0) rfl) Tryz.underlying37 Tryz.underlying37 (by intro k h; cases h) el9 (by intro z; simp [tStr, one1]) (by decide) (by first | omega | (simp only [List.length_cons, List.length_nil]; omega) | (simp only [List.length_append, List.length_cons, List.length_nil, List.length_take, List.length_drop]; omega)) rfl (fun a9 c10 S11 => ?_)
    refine o_as rfl rfl ?_
    refine o_nil (q_then (c_region ?_))
    refine o_mv rfl rfl ?_
    refine o_mv rfl rfl ?_
    refine o_p (p_sliceL (L := l2) (T := tInt) (l := (Trc.run (0 : Int) l2 : Int)) rfl rfl Tryz.underlying26 sz3 (by omega) (by omega) (rd_base (i := 2) rfl hl2)) ?_
    refine o_as rfl rfl ?_
    refine o_nil ?_
    refine q_block_normal ?_
    refine q_round hK3 ((l2.drop ((Trc.run (0 : Int) l2 : Int).toNat)), (sa al2 cl2 ((Trc.run (0 : Int) l2 : Int).toNat) tInt.k), (cl2 - (Trc.run (0 : Int) l2 : Int).toNat), (out ++ [((Trc.decS (l2.getD 0 default)) ++ ((ByteArray.mk #[42]) ++ (Trc.decS (Trc.run (0 : Int) l2 : Int))))]), a9, c10, S11) ?_ ?_ ?_ ?_
    ·clear hK3
     first | exact ⟨hF.star hne hst, Rd_drop hl2 (by omega)⟩ | exact ⟨hF.dash hne hst hds, Rd_drop hl2 (by omega)⟩ | exact ⟨hF.one hne hst hds, Rd_drop hl2 (by omega)⟩
    ·(try dsimp only); rw [List.length_drop]; omega
    ·exact sr (sr (Sub.nil _))
    ·exact pk [1, 2]
   ·simp only [decide_eq_false_iff_not, Int.not_lt] at hc5
    have hst := hc5
    refine c_seq (c_region ?_)
    refine o_mv rfl rfl ?_
    refine o_p (p_gt rfl rfl) ?_
    refine o_as rfl rfl ?_
    refine o_nil (q_then ?_)
    refine c_cond rfl (fun hc12 => ?_) (fun hc12 => ?_)
    ·simp only [decide_eq_true_eq] at hc12
     have hds := hc12
     have hlb := Trc.key_bd hkk ((Trc.run 1 l2 : Int) - 1).toNat
     have z1 := Trc.decS_sz (n := l2.getD ((Trc.run 1 l2 : Int) - 1).toNat default) (by omega)
     refine c_seq (c_region ?_)
     refine o_mv rfl rfl ?_
     refine o_as rfl rfl ?_
     refine o_nil (q_then (c_region ?_))
     refine o_mv rfl rfl ?_
     refine o_mv rfl rfl ?_
     refine o_mv rfl rfl ?_
     refine o_p (p_subb rfl rfl (by omega)) ?_
     refine o_p (p_indexAddr (L := l2) (T := tInt) (i := ((Trc.run (1 : Int) l2 : Int) - 1)) rfl rfl (rd_base (i := 1) rfl hl2) Tryz.underlying26 sz3 (by omega) (by omega)) ?_
     refine o_p (p_loadE1 (i := ((Trc.run (1 : Int) l2 : Int) - 1).toNat) (T := tInt) (L := l2) (v := Vi (l2.getD (((Trc.run (1 : Int) l2 : Int) - 1).toNat) default)) rfl (rd_base (i := 1) rfl hl2) (by first | assumption | omega) sh3 (congrArg tInt.enc (getd_at (by first | assumption | omega) default))) ?_
     refine o_call0 (v := .string (Trc.decS (l2.getD (((Trc.run (1 : Int) l2 : Int) - 1).toNat) default))) rfl (kitoa_ok (l2.getD (((Trc.run (1 : Int) l2 : Int) - 1).toNat) default) (by omega)) hf21 (fun w hw => pre_base (i := 1) rfl TabW_st hTabW w hw) rfl ?_
     refine o_p (p_addStr (s := (ByteArray.mk #[45])) (t := (Trc.decS (l2.getD (((Trc.run (1 : Int) l2 : Int) - 1).toNat) default))) rfl rfl (by first | omega | (simp only [ByteArray.size_append]; omega))) ?_
     refine o_p (p_addStr (s := (Trc.decS (l2.getD 0 default))) (t := ((ByteArray.mk #[45]) ++ (Trc.decS (l2.getD (((Trc.run (1 : Int) l2 : Int) - 1).toNat) default)))) rfl rfl (by first | omega | (simp only [ByteArray.size_append]; omega))) ?_
     refine o_as rfl rfl ?_
     refine o_nil ?_
     refine q_block_normal (q_then ?_)
     refine c_seq (c_region ?_)
     refine o_mv rfl rfl ?_
     refine o_mv rfl rfl ?_
     refine o_buildSlice (m := 1) (T := tStr) (L := [((Trc.decS (l2.getD 0 default)) ++ ((ByteArray.mk #[45]) ++ (Trc.decS (l2.getD (((Trc.run (1 : Int) l2 : Int) - 1).toNat) default))))]) (vs := [.string ((Trc.decS (l2.getD 0 default)) ++ ((ByteArray.mk #[45]) ++ (Trc.decS (l2.getD (((Trc.run (1 : Int) l2 : Int) - 1).toNat) default))))]) rfl rfl rfl rfl Tryz.underlying37 sz9 (by decide) ze9 rfl (by decide) rfl (fun S13 a14 => ?_)
     refine o_append (i := 1) (L := out) (M := [((Trc.decS (l2.getD 0 default)) ++ ((ByteArray.mk #[45]) ++ (Trc.decS (l2.getD (((Trc.run (1 : Int) l2 : Int) - 1).toNat) default))))]) (T := tStr) rfl rfl rfl (rd_own (i := 0) rfl) Tryz.underlying37 Tryz.underlying37 (by intro k h; cases h) el9 (by intro z; simp [tStr, one1]) (by decide) (by first | omega | (simp only [List.length_cons, List.length_nil]; omega) | (simp only [List.length_append, List.length_cons, List.length_nil, List.length_take, List.length_drop]; omega)) rfl (fun a16 c17 S18 => ?_)
     refine o_as rfl rfl ?_
     refine o_nil (q_then (c_region ?_))
     refine o_mv rfl rfl ?_
     refine o_mv rfl rfl ?_
     refine o_p (p_sliceL (L := l2) (T := tInt) (l := (Trc.run (1 : Int) l2 : Int)) rfl rfl Tryz.underlying26 sz3 (by omega) (by omega) (rd_base (i := 2) rfl hl2)) ?_
     refine o_as rfl rfl ?_
     refine o_nil ?_
     refine q_block_normal ?_
     refine q_round hK3 ((l2.drop ((Trc.run (1 : Int) l2 : Int).toNat)), (sa al2 cl2 ((Trc.run (1 : Int) l2 : Int).toNat) tInt.k), (cl2 - (Trc.run (1 : Int) l2 : Int).toNat), (out ++ [((Trc.decS (l2.getD 0 default)) ++ ((ByteArray.mk #[45]) ++ (Trc.decS (l2.getD (((Trc.run (1 : Int) l2 : Int) - 1).toNat) default))))]), a16, c17, S18) ?_ ?_ ?_ ?_
     ·clear hK3
      first | exact ⟨hF.star hne hst, Rd_drop hl2 (by omega)⟩ | exact ⟨hF.dash hne hst hds, Rd_drop hl2 (by omega)⟩ | exact ⟨hF.one hne hst hds, Rd_drop hl2 (by omega)⟩
     ·(try dsimp only); rw [List.length_drop]; omega
     ·exact sr (sr (Sub.nil _))
     ·exact pk [1, 2]
    ·simp only [decide_eq_false_iff_not, Int.not_lt] at hc12
     have hds := hc12
     refine c_skip ?_
     refine q_block_normal (q_then ?_)
     refine c_seq (c_region ?_)
     refine o_mv rfl rfl ?_
     refine o_mv rfl rfl ?_
     refine o_buildSlice (m := 1) (T := tStr) (L := [(Trc.decS (l2.getD 0 default))]) (vs := [.string (Trc.decS (l2.getD 0 default))]) rfl rfl rfl rfl Tryz.underlying37 sz9 (by decide) ze9 rfl (by decide) rfl (fun S19 a20 => ?_)
     refine o_append (i := 1) (L := out) (M := [(Trc.decS (l2.getD 0 default))]) (T := tStr) rfl rfl rfl (rd_own (i := 0) rfl) Tryz.underlying37 Tryz.underlying37 (by intro k h; cases h) el9 (by intro z; simp [tStr, one1]) (by decide) (by first | omega | (simp only [List.length_cons, List.length_nil]; omega) | (simp only [List.length_append, List.length_cons, List.length_nil, List.length_take, List.length_drop]; omega)) rfl (fun a22 c23 S24 => ?_)
     refine o_as rfl rfl ?_
     refine o_nil (q_then (c_region ?_))
     refine o_mv rfl rfl ?_
     refine o_mv rfl rfl ?_
     refine o_p (p_sliceL (L := l2) (T := tInt) (l := 1) rfl rfl Tryz.underlying26 sz3 (by omega) (by omega) (rd_base (i := 2) rfl hl2)) ?_
     refine o_as rfl rfl ?_
     refine o_nil ?_
     refine q_block_normal ?_
     refine q_round hK3 ((l2.drop 1), (sa al2 cl2 1 tInt.k), (cl2 - 1), (out ++ [(Trc.decS (l2.getD 0 default))]), a22, c23, S24) ?_ ?_ ?_ ?_
     ·clear hK3
      first | exact ⟨hF.star hne hst, Rd_drop hl2 (by omega)⟩ | exact ⟨hF.dash hne hst hds, Rd_drop hl2 (by omega)⟩ | exact ⟨hF.one hne hst hds, Rd_drop hl2 (by omega)⟩
     ·(try dsimp only); rw [List.length_drop]; omega
     ·exact sr (sr (Sub.nil _))
     ·exact pk [1, 2]
  ·simp only [decide_eq_false_iff_not, Int.not_lt] at hc4
   have hjs := hF.size
   have hend := hF.done htr (by omega)
   refine c_exit ?_
   refine q_then_exit (q_then_exit (q_block_exit (q_then ?_)))
   refine c_seq (c_region ?_)
   refine o_mv rfl rfl ?_
   refine o_call0 (v := .string (Trc.joinB out (ByteArray.mk #[32]))) rfl (kjoin_ok out aout cout (ByteArray.mk #[32]) (by assumption)) hf22 (fun w hw => (rd_own (i := 0) rfl) w hw) rfl ?_
   refine o_as rfl rfl ?_
   refine o_as rfl rfl ?_
   refine o_nil (q_then (c_ret ?_))
   have hr0 : ((Trc.joinB out (ByteArray.mk #[32])) : ByteArray) = (Trc.format l) := by
    first | rfl | exact hend | exact htr.symm
   have hr1 : (0 : Int) = (Lru.trace l) := by
    first | rfl | exact hend | exact htr.symm
   refine q_end0 (v := .tuple #[.string (Trc.joinB out (ByteArray.mk #[32])), Vi 0]) (rt2 rfl (r_tmp rfl) (r_tmp rfl)) (i := 1) rfl ?_
   exact (by have hcc := congr (congrArg (fun (y0 : ByteArray) (y1 : Int) => (.tuple #[.string y0, .int .i64 y1] : Value)) hr0) hr1; exact hcc)

set_option maxHeartbeats 8000000 in
set_option maxRecDepth 100000 in
theorem tcompact_ok (s : ByteArray) : Fn0 Tryz.prog 5 [.string s] (fun w => MaxW w ∧ TabW w) (.tuple #[.string (Trc.compact s), Vi ((Trc.parse s).2)]) := by
 refine fn0 (nt := 18) (F0 := [(0, .string s)]) Tryz.func5 rfl Tryz.ntmps5 rfl rfl (fun w0 hpre => ?_)
 obtain ⟨hMaxW, hTabW⟩ := hpre
 refine c_seq (c_region ?_)
 refine o_as rfl rfl ?_
 refine o_as rfl rfl ?_
 refine o_nil (q_then (c_seq (c_region ?_)))
 refine o_mv rfl rfl ?_
 refine o_callM rfl (tparse_ok s) hf6 (fun w hw => pre_base (i := 0) rfl MaxW_st hMaxW w hw) rfl (fun _ _ _ _ ha hA => SlO.agree ha hA) ?_
 rintro ⟨a3, c4⟩ S1
 refine o_know (fun w hw => own_len (i := 0) (T := tInt) hw rfl) (fun hlr5 => ?_)
 refine o_mv rfl rfl ?_
 refine o_ex rfl rfl rfl ?_
 refine o_ex rfl rfl rfl ?_
 refine o_as rfl rfl ?_
 refine o_as rfl rfl ?_
 refine o_nil (q_then (c_seq (c_seq (c_region ?_))))
 refine o_mv rfl rfl ?_
 refine o_p (p_ne rfl rfl) ?_
 refine o_nil (q_then ?_)
 refine c_cond rfl (fun hc6 => ?_) (fun hc6 => ?_)
 ·simp only [bne_iff_ne, ne_eq] at hc6
  have hcp := hc6
  refine c_seq (c_region ?_)
  refine o_mv rfl rfl ?_
  refine o_as rfl rfl ?_
  refine o_as rfl rfl ?_
  refine o_nil (q_then (c_ret ?_))
  refine q_then_ret ?_
  have hr0 : ((ByteArray.mk #[]) : ByteArray) = (Trc.compact s) := by
   first | rfl | exact (if_neg hcp).symm | exact (if_pos hcp).symm | exact (Trc.parse_ok hcp).trans hcp.symm
  refine q_end0 (v := .tuple #[.string (ByteArray.mk #[]), Vi ((Trc.parse s).2)]) (rt2 rfl (r_tmp rfl) (r_tmp rfl)) (i := 1) rfl ?_
  exact (by have hcc := congrArg (fun (y0 : ByteArray) => (.tuple #[.string y0, Vi ((Trc.parse s).2)] : Value)) hr0; exact hcc)
 ·simp only [bne_eq_false_iff_eq] at hc6
  have hcp := hc6
  refine c_skip (q_then (c_seq (c_region ?_)))
  refine o_mv rfl rfl ?_
  refine o_call0 (v := .tuple #[.string (Trc.format ((Trc.parse s).1)), Vi (Lru.trace ((Trc.parse s).1))]) rfl (tformat_ok ((Trc.parse s).1) a3 c4) hf10 (fun w hw => ⟨(rd_own (i := 0) rfl) w hw, pre_base (i := 1) rfl TabW_st hTabW w hw⟩) rfl ?_
  refine o_ex rfl rfl rfl ?_
  refine o_ex rfl rfl rfl ?_
  refine o_as rfl rfl ?_
  refine o_as rfl rfl ?_
  refine o_nil (q_then (c_ret ?_))
  have hr0 : ((Trc.format ((Trc.parse s).1)) : ByteArray) = (Trc.compact s) := by
   first | rfl | exact (if_neg hcp).symm | exact (if_pos hcp).symm | exact (Trc.parse_ok hcp).trans hcp.symm
  have hr1 : ((Lru.trace ((Trc.parse s).1)) : Int) = ((Trc.parse s).2) := by
   first | rfl | exact (if_neg hcp).symm | exact (if_pos hcp).symm | exact (Trc.parse_ok hcp).trans hcp.symm
  refine q_end0 (v := .tuple #[.string (Trc.format ((Trc.parse s).1)), Vi (Lru.trace ((Trc.parse s).1))]) (rt2 rfl (r_tmp rfl) (r_tmp rfl)) (i := 1) rfl ?_
  exact (by have hcc := congr (congrArg (fun (y0 : ByteArray) (y1 : Int) => (.tuple #[.string y0, .int .i64 y1] : Value)) hr0) hr1; exact hcc)
end Go.Proofs.YtgkihbbeimhmbaaGreatDoor

/- The walks, printed by a program from the translation and a specification. -/
namespace Go.Proofs.YtgkihbbeimhmbaaGreatDoor
open Go.Sx Go.RowKit
set_option maxHeartbeats 8000000 in
set_option maxRecDepth 100000 in
theorem tsame_ok (a : List Int) (aa : Option Addr) (ca : Nat) (b : List Int) (ab : Option Addr) (cb : Nat) : Fn0 Tryz.prog 8 [.slice aa a.length ca, .slice ab b.length cb] (fun w => Rd tInt w aa ca a ∧ Rd tInt w ab cb b) (.bool (Ref.sameInts a b)) := by
 refine fn0 (nt := 26) (F0 := [(0, .slice aa a.length ca), (1, .slice ab b.length cb)]) Tryz.func8 rfl Tryz.ntmps8 rfl rfl (fun w0 hpre => ?_)
 obtain ⟨ha, hb⟩ := hpre
 have hlha := ha.2.1
 have hlhb := hb.2.1
 refine c_seq (c_region ?_)
 refine o_as rfl rfl ?_
 refine o_nil (q_then (c_seq (c_seq (c_region ?_))))
 refine o_mv rfl rfl ?_
 refine o_p (p_len_slice rfl rfl Tryz.underlying26) ?_
 refine o_mv rfl rfl ?_
 refine o_p (p_len_slice rfl rfl Tryz.underlying26) ?_
 refine o_p (p_ne rfl rfl) ?_
 refine o_nil (q_then ?_)
 refine c_cond rfl (fun hc1 => ?_) (fun hc1 => ?_)
 ·simp only [bne_iff_ne, ne_eq] at hc1
  refine c_seq (c_region ?_)
  refine o_as rfl rfl ?_
  refine o_nil (q_then (c_ret ?_))
  refine q_then_ret ?_
  have hr0 : (false : Bool) = (Ref.sameInts a b) := by
   simp only [Ref.sameInts]
   grind [List.ext_getElem]
  refine q_end0 (v := .bool false) (rt1 rfl (r_tmp rfl)) (i := 0) rfl ?_
  exact (by have hcc := congrArg (fun (y0 : Bool) => (.bool y0 : Value)) hr0; exact hcc)
 ·simp only [bne_eq_false_iff_eq] at hc1
  refine c_skip (q_then (c_seq (c_seq (c_region ?_))))
  refine o_as rfl rfl ?_
  refine o_nil (q_then (c_block ?_))
  refine c_loop (St := Nat)
   (fun i => [(0, .slice aa a.length ca), (1, .slice ab b.length cb), (5, Vi (i : Int))])
   (fun i => [base w0])
   (fun i => i ≤ a.length ∧ ∀ j (h1 : j < a.length) (h2 : j < b.length), j < i → a[j] = b[j])
   (fun i => a.length - i)
   0 ?_ (sr (sr (sr (Sub.nil _)))) (fun _ hw => hw) ?_
  ·exact ⟨Nat.zero_le _, fun j _ _ h => absurd h (by omega)⟩
  rintro i hI K hK2
  obtain ⟨hi, hinv⟩ := hI
  show SC _ _ Tryz.prog 26 w0 _ _ [(0, .slice aa a.length ca), (1, .slice ab b.length cb), (5, Vi (i : Int))] [base w0]
  refine c_seq (c_seq (c_region ?_))
  refine o_mv rfl rfl ?_
  refine o_mv rfl rfl ?_
  refine o_p (p_len_slice rfl rfl Tryz.underlying26) ?_
  refine o_p (p_lt rfl rfl) ?_
  refine o_nil (q_then ?_)
  refine c_cond rfl (fun hc3 => ?_) (fun hc3 => ?_)
  ·simp only [decide_eq_true_eq] at hc3
   refine c_skip (q_then (c_seq (c_block (c_seq ?_))))
   refine c_draw hmix (by kernel_rfl) ?_
   refine w_mv rfl rfl ?_
   refine w_mv rfl rfl ?_
   refine w_p (p_indexAddr (L := a) (T := tInt) (i := (i : Int)) rfl rfl (rd_base (i := 0) rfl ha) Tryz.underlying26 sz3 (by omega) (by omega)) ?_
   refine w_p (p_loadE1 (i := i) (T := tInt) (L := a) (v := Vi (a[i])) rfl (rd_base (i := 0) rfl ha) (by first | assumption | omega) sh3 rfl) ?_
   refine w_mv rfl rfl ?_
   refine w_mv rfl rfl ?_
   refine w_p (p_indexAddr (L := b) (T := tInt) (i := (i : Int)) rfl rfl (rd_base (i := 0) rfl hb) Tryz.underlying26 sz3 (by omega) (by omega)) ?_
   refine w_p (p_loadE1 (i := i) (T := tInt) (L := b) (v := Vi (b[i])) rfl (rd_base (i := 0) rfl hb) (by first | assumption | omega) sh3 rfl) ?_
   refine w_p (p_ne rfl rfl) ?_
   refine w_nil (q_then ?_)
   refine c_cond rfl (fun hc4 => ?_) (fun hc4 => ?_)
   ·simp only [bne_iff_ne, ne_eq] at hc4
    refine c_seq (c_region ?_)
    refine o_as rfl rfl ?_
    refine o_nil (q_then (c_ret ?_))
    refine q_block_ret (q_then_ret (q_then_ret (q_block_ret (q_then_ret ?_))))
    have hr0 : (false : Bool) = (Ref.sameInts a b) := by
     simp only [Ref.sameInts]
     grind [List.ext_getElem]
    refine q_end0 (v := .bool false) (rt1 rfl (r_tmp rfl)) (i := 0) rfl ?_
    exact (by have hcc := congrArg (fun (y0 : Bool) => (.bool y0 : Value)) hr0; exact hcc)
   ·simp only [bne_eq_false_iff_eq] at hc4
    refine c_skip ?_
    refine q_block_normal (q_then ?_)
    refine c_region ?_
    refine o_mv rfl rfl ?_
    refine o_p (p_addb rfl rfl (by omega)) ?_
    refine o_as rfl rfl ?_
    refine o_nil ?_
    refine q_round hK2 (i + 1) ?_ ?_ ?_ ?_
    ·clear hK2
     refine ⟨by omega, ?_⟩
     grind
    ·(try dsimp only); omega
    ·exact sr (sr (sr (Sub.nil _)))
    ·exact pk [0]
  ·simp only [decide_eq_false_iff_not, Int.not_lt] at hc3
   refine c_exit ?_
   refine q_then_exit (q_then_exit (q_block_exit (q_then ?_)))
   refine c_seq (c_region ?_)
   refine o_as rfl rfl ?_
   refine o_nil (q_then (c_ret ?_))
   have hr0 : (true : Bool) = (Ref.sameInts a b) := by
    simp only [Ref.sameInts]
    grind [List.ext_getElem]
   refine q_end0 (v := .bool true) (rt1 rfl (r_tmp rfl)) (i := 0) rfl ?_
   exact (by have hcc := congrArg (fun (y0 : Bool) => (.bool y0 : Value)) hr0; exact hcc)

set_option maxHeartbeats 8000000 in
set_option maxRecDepth 100000 in
theorem tbegun_ok  : Fn0 Tryz.prog 4 [] (fun _ => True) (.bool true) := by
 refine fn0 (nt := 23) (F0 := []) Tryz.func4 rfl Tryz.ntmps4 rfl rfl (fun w0 hpre => ?_)
 refine c_seq (c_region ?_)
 refine o_as rfl rfl ?_
 refine o_nil (q_then (c_seq (c_region ?_)))
 refine o_p (p_build (cells := [Vi 2, .slice none 0 0]) fp33 ze33 rfl rfl) ?_
 refine o_buildSlice (m := 4) (T := tInt) (L := [1, 2, 1, 3]) (vs := [Vi 1, Vi 2, Vi 1, Vi 3]) rfl rfl rfl rfl Tryz.underlying26 sz3 (by decide) ze3 rfl (by decide) rfl (fun S1 a2 => ?_)
 refine o_callM rfl (lrun_ok (⟨2, []⟩ : DCache) none 0 ([1, 2, 1, 3]) a2 ([1, 2, 1, 3].length)) hf9 (fun w hw => ⟨rd_nil w hw, (rd_own (i := 0) rfl) w hw⟩) rfl (fun _ _ _ _ ha hA => SlO.agree ha hA) ?_
 rintro ⟨a6, c7⟩ S4
 refine o_know (fun w hw => own_len (i := 0) (T := tInt) hw rfl) (fun hlr8 => ?_)
 refine o_mv rfl rfl ?_
 refine o_ex rfl rfl rfl ?_
 refine o_ex rfl rfl rfl ?_
 refine o_ex rfl rfl rfl ?_
 refine o_alloc ze33 rfl (fun B9 => ?_)
 refine o_storeN (i := 0) (vs := [Vi (((Lru.run (⟨2, []⟩ : DCache) ([1, 2, 1, 3])).1).room), .slice a6 (((Lru.run (⟨2, []⟩ : DCache) ([1, 2, 1, 3])).1).keys).length c7]) (cs' := [Vi (((Lru.run (⟨2, []⟩ : DCache) ([1, 2, 1, 3])).1).room), .slice a6 (((Lru.run (⟨2, []⟩ : DCache) ([1, 2, 1, 3])).1).keys).length c7]) rfl rfl rfl sz33 rfl rfl rfl rfl ?_
 refine o_as rfl rfl ?_
 refine o_as rfl rfl ?_
 refine o_nil (q_then (c_seq (c_region ?_)))
 refine o_mv rfl rfl ?_
 refine o_p (p_eq rfl rfl) ?_
 refine o_mv rfl rfl ?_
 refine o_and (p := 16) 3 (((Lru.run (⟨2, []⟩ : DCache) ([1, 2, 1, 3])).2) == 1) ?_ ?_ ?_
 ·intro hb10 hk
  simp only [beq_iff_eq] at hb10
  refine o_unguard 13 rfl rfl ?_
  refine o_mv rfl rfl ?_
  refine o_unguard 13 rfl rfl ?_
  refine o_p (p_eq rfl rfl) ?_
  refine o_pt rfl rfl rfl ?_
  exact o_sub (sr (Sub.skip rfl (Sub.skip rfl (Sub.skip rfl (Sub.skip rfl (Sub.refl _)))))) hk
 ·intro hb10 hk
  refine o_guard_no rfl 13 rfl rfl rfl rfl rfl ?_
  refine o_guard_no rfl 13 rfl rfl rfl rfl rfl ?_
  refine o_pf rfl rfl rfl ?_
  exact o_sub (sr (Sub.skip rfl (Sub.skip rfl (Sub.skip rfl (Sub.skip rfl (Sub.refl _)))))) hk
 refine o_mv rfl rfl ?_
 refine o_and (p := 22) 5 (Ref.sameInts (((Lru.run (⟨2, []⟩ : DCache) ([1, 2, 1, 3])).1).keys) ([3, 1])) ?_ ?_ ?_
 ·intro hb11 hk
  simp only [Bool.and_eq_true, beq_iff_eq] at hb11
  refine o_unguard 17 rfl rfl ?_
  refine o_p (p_fieldAddr (j' := 1) rfl fo33_1 rfl) ?_
  refine o_unguard 17 rfl rfl ?_
  refine o_p (p_load (i := 0) (v := .slice a6 (((Lru.run (⟨2, []⟩ : DCache) ([1, 2, 1, 3])).1).keys).length c7) rfl rfl sh26 rfl) ?_
  refine o_unguard 17 rfl rfl ?_
  refine o_buildSlice (m := 2) (T := tInt) (L := [3, 1]) (vs := [Vi 3, Vi 1]) rfl rfl rfl rfl Tryz.underlying26 sz3 (by decide) ze3 rfl (by decide) rfl (fun S12 a13 => ?_)
  refine o_unguard 17 rfl rfl ?_
  refine o_call0 (v := .bool (Ref.sameInts (((Lru.run (⟨2, []⟩ : DCache) ([1, 2, 1, 3])).1).keys) ([3, 1]))) rfl (tsame_ok (((Lru.run (⟨2, []⟩ : DCache) ([1, 2, 1, 3])).1).keys) a6 c7 ([3, 1]) a13 ([3, 1].length)) hf8 (fun w hw => ⟨(rd_own (i := 2) rfl) w hw, (rd_own (i := 0) rfl) w hw⟩) rfl ?_
  refine o_pt rfl rfl rfl ?_
  exact o_sub (sr (Sub.skip rfl (Sub.skip rfl (Sub.skip rfl (Sub.skip rfl (Sub.skip rfl (Sub.skip rfl (Sub.refl _)))))))) (o_drop (lz (lj (lj (lj (lj (ln)))))) hk)
 ·intro hb11 hk
  refine o_guard_no rfl 17 rfl rfl rfl rfl rfl ?_
  refine o_guard_no rfl 17 rfl rfl rfl rfl rfl ?_
  refine o_guard_no rfl 17 rfl rfl rfl rfl rfl ?_
  refine o_guard_no rfl 17 rfl rfl rfl rfl rfl ?_
  refine o_pf rfl rfl rfl ?_
  exact o_sub (sr (Sub.skip rfl (Sub.skip rfl (Sub.skip rfl (Sub.skip rfl (Sub.skip rfl (Sub.skip rfl (Sub.refl _)))))))) hk
 refine o_as rfl rfl ?_
 refine o_nil (q_then (c_ret ?_))
 have hr0 : (((((Lru.runErr (⟨2, []⟩ : DCache) ([1, 2, 1, 3])) == 0) && (((Lru.run (⟨2, []⟩ : DCache) ([1, 2, 1, 3])).2) == 1)) && (Ref.sameInts (((Lru.run (⟨2, []⟩ : DCache) ([1, 2, 1, 3])).1).keys) ([3, 1]))) : Bool) = true := by
  first | rfl | decide +kernel
 refine q_end0 (v := .bool ((((Lru.runErr (⟨2, []⟩ : DCache) ([1, 2, 1, 3])) == 0) && (((Lru.run (⟨2, []⟩ : DCache) ([1, 2, 1, 3])).2) == 1)) && (Ref.sameInts (((Lru.run (⟨2, []⟩ : DCache) ([1, 2, 1, 3])).1).keys) ([3, 1])))) (rt1 rfl (r_tmp rfl)) (i := 3) rfl ?_
 exact (by have hcc := congrArg (fun (y0 : Bool) => (.bool y0 : Value)) hr0; exact hcc)
end Go.Proofs.YtgkihbbeimhmbaaGreatDoor
