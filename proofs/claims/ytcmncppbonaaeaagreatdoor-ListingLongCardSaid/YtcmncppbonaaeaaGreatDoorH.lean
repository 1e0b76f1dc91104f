/- Contracts of the library's functions that package listing calls, told of what a function owns. -/
import Derived.Test.YtcmncppbonaaeaaGreatDoorRows
import Derived.Test.YtcmncppbonaaeaaGreatDoorErr
import Derived.Test.YtcmncppbonaaeaaGreatDoorStr
import Derived.Test.YtcmncppbonaaeaaGreatDoorM
import Derived.Shelf.Strings.Search3
import Derived.Shelf.Strings.OnBuilder
import Derived.Shelf.Strings.Cut
import Derived.Shelf.Strings.Split
import Derived.Shelf.Strings.Prefix
import Derived.Shelf.Small.Wraps
import Derived.Shelf.Strconv.Itoa3
import Derived.Shelf.Strconv.AtoiAll
import Derived.Lib.AppendIntMem
import Derived.WalkSmall
set_option linter.unusedVariables false
namespace Go.Proofs.YtcmncppbonaaeaaGreatDoor
open Go.Shelf Go.RowKit
def ren : Go.Shelf.Ren := ⟨fun x => match x with | 101 => 53 | 102 => 42 | 103 => 61 | 129 => 111 | 138 => 72 | 143 => 73 | 145 => 27 | 156 => 50 | 165 => 69 | 166 => 36 | 169 => 39 | 171 => 17 | 172 => 54 | 195 => 99 | 197 => 100 | 205 => 120 | 206 => 102 | 207 => 83 | 208 => 74 | 209 => 64 | 210 => 80 | 217 => 95 | 218 => 101 | 219 => 70 | 220 => 51 | 221 => 52 | 224 => 97 | 225 => 96 | 240 => 55 | 241 => 94 | 243 => 49 | 244 => 75 | 245 => 76 | 246 => 68 | 247 => 103 | 260 => 118 | 266 => 116 | 267 => 98 | 268 => 71 | 276 => 77 | 277 => 115 | 279 => 104 | 280 => 105 | 281 => 106 | 282 => 107 | 283 => 90 | 284 => 91 | 285 => 92 | 286 => 93 | 287 => 81 | 314 => 117 | 316 => 119 | 317 => 110 | 318 => 112 | 319 => 113 | 320 => 114 | 321 => 108 | 322 => 109 | 337 => 121 | 338 => 122 | x => x, fun x => match x with | 0 => 0 | 2 => 2 | 3 => 3 | 4 => 4 | 5 => 5 | 9 => 9 | 20 => 20 | 21 => 21 | 24 => 87 | 31 => 52 | 37 => 42 | 46 => 103 | 51 => 39 | 53 => 80 | 59 => 50 | 70 => 58 | 72 => 60 | 75 => 62 | 76 => 63 | 80 => 67 | 85 => 118 | 105 => 115 | 119 => 137 | 127 => 86 | 138 => 139 | 139 => 140 | 143 => 141 | 145 => 143 | 146 => 130 | 164 => 101 | 167 => 117 | 168 => 120 | 171 => 109 | 173 => 112 | 175 => 89 | 210 => 134 | 212 => 126 | 213 => 127 | 232 => 144 | 233 => 145 | x => x, fun x => match x with | 1 => 0 | 3 => 4 | 4 => 5 | 15 => 2 | 16 => 3 | 17 => 1 | 18 => 6 | 19 => 7 | x => x⟩
set_option maxRecDepth 100000 in
theorem laysM171 : LaysM.n171 Tryz.prog ren where
  mixed := by kernel_rfl
  f129 := by kernel_rfl
  f171 := by kernel_rfl
  f243 := by kernel_rfl
  f246 := by kernel_rfl
  f283 := by kernel_rfl
  f284 := by kernel_rfl
  f285 := by kernel_rfl
  f286 := by kernel_rfl
  f317 := by kernel_rfl
  f318 := by kernel_rfl
  f319 := by kernel_rfl
  f320 := by kernel_rfl
  f337 := by kernel_rfl
  f338 := by kernel_rfl
  t0 := Tryz.underlying0
  a0 := Tryz.isAgg0
  z0 := Tryz.sizeOf0
  v0 := Tryz.zeroValue0
  t2 := Tryz.underlying2
  a2 := Tryz.isAgg2
  z2 := Tryz.sizeOf2
  v2 := Tryz.zeroValue2
  t3 := Tryz.underlying3
  a3 := Tryz.isAgg3
  z3 := Tryz.sizeOf3
  v3 := Tryz.zeroValue3
  t4 := Tryz.underlying4
  a4 := Tryz.isAgg4
  z4 := Tryz.sizeOf4
  v4 := Tryz.zeroValue4
  t5 := Tryz.underlying5
  a5 := Tryz.isAgg5
  z5 := Tryz.sizeOf5
  v5 := Tryz.zeroValue5
  t9 := Tryz.underlying9
  a9 := Tryz.isAgg9
  z9 := Tryz.sizeOf9
  v9 := Tryz.zeroValue9
  t20 := Tryz.underlying20
  a20 := Tryz.isAgg20
  z20 := Tryz.sizeOf20
  v20 := Tryz.zeroValue20
  t37 := Tryz.underlying42
  a37 := Tryz.isAgg42
  z37 := Tryz.sizeOf42
  v37 := Tryz.zeroValue42
  t46 := Tryz.underlying103
  a46 := Tryz.isAgg103
  z46 := Tryz.sizeOf103
  v46 := Tryz.zeroValue103
  t51 := Tryz.underlying39
  a51 := Tryz.isAgg39
  z51 := Tryz.sizeOf39
  v51 := Tryz.zeroValue39
  t53 := Tryz.underlying80
  a53 := Tryz.isAgg80
  z53 := Tryz.sizeOf80
  v53 := Tryz.zeroValue80
  t171 := Tryz.underlying109
  a171 := Tryz.isAgg109
  z171 := Tryz.sizeOf109
  v171 := Tryz.zeroValue109
  t173 := Tryz.underlying112
  a173 := Tryz.isAgg112
  z173 := Tryz.sizeOf112
  v173 := Tryz.zeroValue112
  t212 := Tryz.underlying126
  a212 := Tryz.isAgg126
  z212 := Tryz.sizeOf126
  v212 := Tryz.zeroValue126
  t213 := Tryz.underlying127
  a213 := Tryz.isAgg127
  z213 := Tryz.sizeOf127
  t232 := Tryz.underlying144
  a232 := Tryz.isAgg144
  z232 := Tryz.sizeOf144
  v232 := Tryz.zeroValue144
  t233 := Tryz.underlying145
  a233 := Tryz.isAgg145
  z233 := Tryz.sizeOf145
  v233 := Tryz.zeroValue145
  g17 := by kernel_rfl
  g18 := by kernel_rfl
  g19 := by kernel_rfl
  i0 := by kernel_rfl
  i2 := by kernel_rfl
  i3 := by kernel_rfl
  i4 := by kernel_rfl
  i5 := by kernel_rfl
  i9 := by kernel_rfl
  i20 := by kernel_rfl
  i37 := by kernel_rfl
  i46 := by kernel_rfl
  i51 := by kernel_rfl
  i53 := by kernel_rfl
  i171 := by kernel_rfl
  i173 := by kernel_rfl
  i212 := by kernel_rfl
  i232 := by kernel_rfl
  i233 := by kernel_rfl
  m17 := by kernel_rfl
  m18 := by kernel_rfl
  m19 := by kernel_rfl
set_option maxRecDepth 100000 in
theorem laysC172 : LaysC.n172 Tryz.prog ren where
  mixed := by kernel_rfl
  f129 := by kernel_rfl
  f171 := by kernel_rfl
  f172 := by kernel_rfl
  f205 := by kernel_rfl
  f243 := by kernel_rfl
  f244 := by kernel_rfl
  f245 := by kernel_rfl
  f246 := by kernel_rfl
  f247 := by kernel_rfl
  f279 := by kernel_rfl
  f280 := by kernel_rfl
  f281 := by kernel_rfl
  f282 := by kernel_rfl
  f283 := by kernel_rfl
  f284 := by kernel_rfl
  f285 := by kernel_rfl
  f286 := by kernel_rfl
  f287 := by kernel_rfl
  f316 := by kernel_rfl
  f317 := by kernel_rfl
  f318 := by kernel_rfl
  f319 := by kernel_rfl
  f320 := by kernel_rfl
  f321 := by kernel_rfl
  f322 := by kernel_rfl
  f337 := by kernel_rfl
  f338 := by kernel_rfl
  t0 := Tryz.underlying0
  a0 := Tryz.isAgg0
  z0 := Tryz.sizeOf0
  v0 := Tryz.zeroValue0
  t2 := Tryz.underlying2
  a2 := Tryz.isAgg2
  z2 := Tryz.sizeOf2
  v2 := Tryz.zeroValue2
  t3 := Tryz.underlying3
  a3 := Tryz.isAgg3
  z3 := Tryz.sizeOf3
  v3 := Tryz.zeroValue3
  t4 := Tryz.underlying4
  a4 := Tryz.isAgg4
  z4 := Tryz.sizeOf4
  v4 := Tryz.zeroValue4
  t5 := Tryz.underlying5
  a5 := Tryz.isAgg5
  z5 := Tryz.sizeOf5
  v5 := Tryz.zeroValue5
  t9 := Tryz.underlying9
  a9 := Tryz.isAgg9
  z9 := Tryz.sizeOf9
  v9 := Tryz.zeroValue9
  t20 := Tryz.underlying20
  a20 := Tryz.isAgg20
  z20 := Tryz.sizeOf20
  v20 := Tryz.zeroValue20
  t21 := Tryz.underlying21
  a21 := Tryz.isAgg21
  z21 := Tryz.sizeOf21
  v21 := Tryz.zeroValue21
  t37 := Tryz.underlying42
  a37 := Tryz.isAgg42
  z37 := Tryz.sizeOf42
  v37 := Tryz.zeroValue42
  t46 := Tryz.underlying103
  a46 := Tryz.isAgg103
  z46 := Tryz.sizeOf103
  v46 := Tryz.zeroValue103
  t51 := Tryz.underlying39
  a51 := Tryz.isAgg39
  z51 := Tryz.sizeOf39
  v51 := Tryz.zeroValue39
  t53 := Tryz.underlying80
  a53 := Tryz.isAgg80
  z53 := Tryz.sizeOf80
  v53 := Tryz.zeroValue80
  t75 := Tryz.underlying62
  a75 := Tryz.isAgg62
  z75 := Tryz.sizeOf62
  v75 := Tryz.zeroValue62
  t76 := Tryz.underlying63
  a76 := Tryz.isAgg63
  z76 := Tryz.sizeOf63
  v76 := Tryz.zeroValue63
  t85 := Tryz.underlying118
  a85 := Tryz.isAgg118
  z85 := Tryz.sizeOf118
  v85 := Tryz.zeroValue118
  t127 := Tryz.underlying86
  a127 := Tryz.isAgg86
  z127 := Tryz.sizeOf86
  v127 := Tryz.zeroValue86
  t143 := Tryz.underlying141
  a143 := Tryz.isAgg141
  z143 := Tryz.sizeOf141
  v143 := Tryz.zeroValue141
  t145 := Tryz.underlying143
  a145 := Tryz.isAgg143
  z145 := Tryz.sizeOf143
  v145 := Tryz.zeroValue143
  t167 := Tryz.underlying117
  a167 := Tryz.isAgg117
  z167 := Tryz.sizeOf117
  v167 := Tryz.zeroValue117
  t168 := Tryz.underlying120
  a168 := Tryz.isAgg120
  z168 := Tryz.sizeOf120
  v168 := Tryz.zeroValue120
  t171 := Tryz.underlying109
  a171 := Tryz.isAgg109
  z171 := Tryz.sizeOf109
  v171 := Tryz.zeroValue109
  t173 := Tryz.underlying112
  a173 := Tryz.isAgg112
  z173 := Tryz.sizeOf112
  v173 := Tryz.zeroValue112
  t175 := Tryz.underlying89
  a175 := Tryz.isAgg89
  z175 := Tryz.sizeOf89
  v175 := Tryz.zeroValue89
  t210 := Tryz.underlying134
  a210 := Tryz.isAgg134
  z210 := Tryz.sizeOf134
  v210 := Tryz.zeroValue134
  t212 := Tryz.underlying126
  a212 := Tryz.isAgg126
  z212 := Tryz.sizeOf126
  v212 := Tryz.zeroValue126
  t213 := Tryz.underlying127
  a213 := Tryz.isAgg127
  z213 := Tryz.sizeOf127
  t232 := Tryz.underlying144
  a232 := Tryz.isAgg144
  z232 := Tryz.sizeOf144
  v232 := Tryz.zeroValue144
  t233 := Tryz.underlying145
  a233 := Tryz.isAgg145
  z233 := Tryz.sizeOf145
  v233 := Tryz.zeroValue145
  g15 := by kernel_rfl
  g16 := by kernel_rfl
  g17 := by kernel_rfl
  g18 := by kernel_rfl
  g19 := by kernel_rfl
  t80 := Tryz.underlying67
  a80 := Tryz.isAgg67
  z80 := Tryz.sizeOf67
  v80 := Tryz.zeroValue67
  i0 := by kernel_rfl
  i2 := by kernel_rfl
  i3 := by kernel_rfl
  i4 := by kernel_rfl
  i5 := by kernel_rfl
  i9 := by kernel_rfl
  i20 := by kernel_rfl
  i21 := by kernel_rfl
  i37 := by kernel_rfl
  i46 := by kernel_rfl
  i51 := by kernel_rfl
  i53 := by kernel_rfl
  i75 := by kernel_rfl
  i76 := by kernel_rfl
  i80 := by kernel_rfl
  i85 := by kernel_rfl
  i127 := by kernel_rfl
  i143 := by kernel_rfl
  i145 := by kernel_rfl
  i167 := by kernel_rfl
  i168 := by kernel_rfl
  i171 := by kernel_rfl
  i173 := by kernel_rfl
  i175 := by kernel_rfl
  i210 := by kernel_rfl
  i212 := by kernel_rfl
  i232 := by kernel_rfl
  i233 := by kernel_rfl
  m15 := by kernel_rfl
  m16 := by kernel_rfl
  m17 := by kernel_rfl
  m18 := by kernel_rfl
  m19 := by kernel_rfl
  c0 := by kernel_rfl
  c2 := by kernel_rfl
  c3 := by kernel_rfl
  c4 := by kernel_rfl
  c5 := by kernel_rfl
  c9 := by kernel_rfl
  c20 := by kernel_rfl
  c21 := by kernel_rfl
  c37 := by kernel_rfl
  c46 := by kernel_rfl
  c51 := by kernel_rfl
  c53 := by kernel_rfl
  c75 := by kernel_rfl
  c76 := by kernel_rfl
  c80 := by kernel_rfl
  c85 := by kernel_rfl
  c127 := by kernel_rfl
  c143 := by kernel_rfl
  c145 := by kernel_rfl
  c167 := by kernel_rfl
  c168 := by kernel_rfl
  c171 := by kernel_rfl
  c173 := by kernel_rfl
  c175 := by kernel_rfl
  c210 := by kernel_rfl
  c212 := by kernel_rfl
  c213 := by kernel_rfl
  c232 := by kernel_rfl
  c233 := by kernel_rfl
set_option maxRecDepth 100000 in
theorem lays145 : Lays.n145 Tryz.prog ren where
  mixed := by kernel_rfl
  f145 := by kernel_rfl
  f217 := by kernel_rfl
  f219 := by kernel_rfl
  f220 := by kernel_rfl
  f224 := by kernel_rfl
  f225 := by kernel_rfl
  f266 := by kernel_rfl
  f267 := by kernel_rfl
  f314 := by kernel_rfl
  t3 := Tryz.underlying3
  a3 := Tryz.isAgg3
  z3 := Tryz.sizeOf3
  v3 := Tryz.zeroValue3
  t4 := Tryz.underlying4
  a4 := Tryz.isAgg4
  z4 := Tryz.sizeOf4
  v4 := Tryz.zeroValue4
  t5 := Tryz.underlying5
  a5 := Tryz.isAgg5
  z5 := Tryz.sizeOf5
  v5 := Tryz.zeroValue5
  t9 := Tryz.underlying9
  a9 := Tryz.isAgg9
  z9 := Tryz.sizeOf9
  v9 := Tryz.zeroValue9
  t46 := Tryz.underlying103
  a46 := Tryz.isAgg103
  z46 := Tryz.sizeOf103
  v46 := Tryz.zeroValue103
  t51 := Tryz.underlying39
  a51 := Tryz.isAgg39
  z51 := Tryz.sizeOf39
  v51 := Tryz.zeroValue39
  t59 := Tryz.underlying50
  a59 := Tryz.isAgg50
  z59 := Tryz.sizeOf50
  v59 := Tryz.zeroValue50
  t146 := Tryz.underlying130
  a146 := Tryz.isAgg130
  z146 := Tryz.sizeOf130
  v146 := Tryz.zeroValue130
  g1 := by kernel_rfl
set_option maxRecDepth 100000 in
theorem lays221 : Lays.n221 Tryz.prog ren where
  mixed := by kernel_rfl
  f138 := by kernel_rfl
  f143 := by kernel_rfl
  f195 := by kernel_rfl
  f197 := by kernel_rfl
  f217 := by kernel_rfl
  f218 := by kernel_rfl
  f219 := by kernel_rfl
  f221 := by kernel_rfl
  f224 := by kernel_rfl
  f225 := by kernel_rfl
  f260 := by kernel_rfl
  f266 := by kernel_rfl
  f267 := by kernel_rfl
  f268 := by kernel_rfl
  f314 := by kernel_rfl
  t0 := Tryz.underlying0
  a0 := Tryz.isAgg0
  z0 := Tryz.sizeOf0
  v0 := Tryz.zeroValue0
  t3 := Tryz.underlying3
  a3 := Tryz.isAgg3
  z3 := Tryz.sizeOf3
  v3 := Tryz.zeroValue3
  t4 := Tryz.underlying4
  a4 := Tryz.isAgg4
  z4 := Tryz.sizeOf4
  v4 := Tryz.zeroValue4
  t5 := Tryz.underlying5
  a5 := Tryz.isAgg5
  z5 := Tryz.sizeOf5
  v5 := Tryz.zeroValue5
  t9 := Tryz.underlying9
  a9 := Tryz.isAgg9
  z9 := Tryz.sizeOf9
  v9 := Tryz.zeroValue9
  t21 := Tryz.underlying21
  a21 := Tryz.isAgg21
  z21 := Tryz.sizeOf21
  v21 := Tryz.zeroValue21
  t31 := Tryz.underlying52
  a31 := Tryz.isAgg52
  z31 := Tryz.sizeOf52
  v31 := Tryz.zeroValue52
  t46 := Tryz.underlying103
  a46 := Tryz.isAgg103
  z46 := Tryz.sizeOf103
  v46 := Tryz.zeroValue103
  t51 := Tryz.underlying39
  a51 := Tryz.isAgg39
  z51 := Tryz.sizeOf39
  v51 := Tryz.zeroValue39
  t105 := Tryz.underlying115
  a105 := Tryz.isAgg115
  z105 := Tryz.sizeOf115
  v105 := Tryz.zeroValue115
  t119 := Tryz.underlying137
  a119 := Tryz.isAgg137
  z119 := Tryz.sizeOf137
  t138 := Tryz.underlying139
  a138 := Tryz.isAgg139
  z138 := Tryz.sizeOf139
  v138 := Tryz.zeroValue139
  t139 := Tryz.underlying140
  a139 := Tryz.isAgg140
  z139 := Tryz.sizeOf140
  v139 := Tryz.zeroValue140
  t146 := Tryz.underlying130
  a146 := Tryz.isAgg130
  z146 := Tryz.sizeOf130
  v146 := Tryz.zeroValue130
  g1 := by kernel_rfl
  g3 := by kernel_rfl
  g4 := by kernel_rfl
set_option maxRecDepth 100000 in
theorem lays156 : Lays.n156 Tryz.prog ren where
  mixed := by kernel_rfl
  f156 := by kernel_rfl
  f165 := by kernel_rfl
  f166 := by kernel_rfl
  f169 := by kernel_rfl
  f240 := by kernel_rfl
  f241 := by kernel_rfl
  f276 := by kernel_rfl
  f277 := by kernel_rfl
  t0 := Tryz.underlying0
  a0 := Tryz.isAgg0
  z0 := Tryz.sizeOf0
  v0 := Tryz.zeroValue0
  t3 := Tryz.underlying3
  a3 := Tryz.isAgg3
  z3 := Tryz.sizeOf3
  v3 := Tryz.zeroValue3
  t4 := Tryz.underlying4
  a4 := Tryz.isAgg4
  z4 := Tryz.sizeOf4
  v4 := Tryz.zeroValue4
  t9 := Tryz.underlying9
  a9 := Tryz.isAgg9
  z9 := Tryz.sizeOf9
  v9 := Tryz.zeroValue9
  t20 := Tryz.underlying20
  a20 := Tryz.isAgg20
  z20 := Tryz.sizeOf20
  v20 := Tryz.zeroValue20
  t31 := Tryz.underlying52
  a31 := Tryz.isAgg52
  z31 := Tryz.sizeOf52
  v31 := Tryz.zeroValue52
  t37 := Tryz.underlying42
  a37 := Tryz.isAgg42
  z37 := Tryz.sizeOf42
  v37 := Tryz.zeroValue42
  t70 := Tryz.underlying58
  a70 := Tryz.isAgg58
  z70 := Tryz.sizeOf58
  v70 := Tryz.zeroValue58
  t72 := Tryz.underlying60
  a72 := Tryz.isAgg60
  z72 := Tryz.sizeOf60
  v72 := Tryz.zeroValue60
  t75 := Tryz.underlying62
  a75 := Tryz.isAgg62
  z75 := Tryz.sizeOf62
  v75 := Tryz.zeroValue62
  t76 := Tryz.underlying63
  a76 := Tryz.isAgg63
  z76 := Tryz.sizeOf63
  v76 := Tryz.zeroValue63
  t127 := Tryz.underlying86
  a127 := Tryz.isAgg86
  z127 := Tryz.sizeOf86
  v127 := Tryz.zeroValue86
  t164 := Tryz.underlying101
  a164 := Tryz.isAgg101
  z164 := Tryz.sizeOf101
  v164 := Tryz.zeroValue101
set_option maxRecDepth 100000 in
theorem lays101 : Lays.n101 Tryz.prog ren where
  mixed := by kernel_rfl
  f101 := by kernel_rfl
  f206 := by kernel_rfl
  f208 := by kernel_rfl
  t3 := Tryz.underlying3
  a3 := Tryz.isAgg3
  z3 := Tryz.sizeOf3
  v3 := Tryz.zeroValue3
  t4 := Tryz.underlying4
  a4 := Tryz.isAgg4
  z4 := Tryz.sizeOf4
  v4 := Tryz.zeroValue4
  t9 := Tryz.underlying9
  a9 := Tryz.isAgg9
  z9 := Tryz.sizeOf9
  v9 := Tryz.zeroValue9
set_option maxRecDepth 100000 in
theorem lays102 : Lays.n102 Tryz.prog ren where
  mixed := by kernel_rfl
  f102 := by kernel_rfl
  f207 := by kernel_rfl
  f209 := by kernel_rfl
  t3 := Tryz.underlying3
  a3 := Tryz.isAgg3
  z3 := Tryz.sizeOf3
  v3 := Tryz.zeroValue3
  t4 := Tryz.underlying4
  a4 := Tryz.isAgg4
  z4 := Tryz.sizeOf4
  v4 := Tryz.zeroValue4
  t9 := Tryz.underlying9
  a9 := Tryz.isAgg9
  z9 := Tryz.sizeOf9
  v9 := Tryz.zeroValue9
set_option maxRecDepth 100000 in
theorem lays103 : Lays.n103 Tryz.prog ren where
  mixed := by kernel_rfl
  f103 := by kernel_rfl
  f206 := by kernel_rfl
  f210 := by kernel_rfl
  t3 := Tryz.underlying3
  a3 := Tryz.isAgg3
  z3 := Tryz.sizeOf3
  v3 := Tryz.zeroValue3
  t4 := Tryz.underlying4
  a4 := Tryz.isAgg4
  z4 := Tryz.sizeOf4
  v4 := Tryz.zeroValue4
  t9 := Tryz.underlying9
  a9 := Tryz.isAgg9
  z9 := Tryz.sizeOf9
  v9 := Tryz.zeroValue9
  t24 := Tryz.underlying87
  a24 := Tryz.isAgg87
  z24 := Tryz.sizeOf87
  v24 := Tryz.zeroValue87
set_option maxRecDepth 100000 in
theorem lays166 : Lays.n166 Tryz.prog ren where
  mixed := by kernel_rfl
  f166 := by kernel_rfl
  f240 := by kernel_rfl
  f276 := by kernel_rfl
  t0 := Tryz.underlying0
  a0 := Tryz.isAgg0
  z0 := Tryz.sizeOf0
  v0 := Tryz.zeroValue0
  t3 := Tryz.underlying3
  a3 := Tryz.isAgg3
  z3 := Tryz.sizeOf3
  v3 := Tryz.zeroValue3
  t4 := Tryz.underlying4
  a4 := Tryz.isAgg4
  z4 := Tryz.sizeOf4
  v4 := Tryz.zeroValue4
  t9 := Tryz.underlying9
  a9 := Tryz.isAgg9
  z9 := Tryz.sizeOf9
  v9 := Tryz.zeroValue9
  t20 := Tryz.underlying20
  a20 := Tryz.isAgg20
  z20 := Tryz.sizeOf20
  v20 := Tryz.zeroValue20
  t37 := Tryz.underlying42
  a37 := Tryz.isAgg42
  z37 := Tryz.sizeOf42
  v37 := Tryz.zeroValue42
  t70 := Tryz.underlying58
  a70 := Tryz.isAgg58
  z70 := Tryz.sizeOf58
  v70 := Tryz.zeroValue58
  t72 := Tryz.underlying60
  a72 := Tryz.isAgg60
  z72 := Tryz.sizeOf60
  v72 := Tryz.zeroValue60
  t75 := Tryz.underlying62
  a75 := Tryz.isAgg62
  z75 := Tryz.sizeOf62
  v75 := Tryz.zeroValue62
  t164 := Tryz.underlying101
  a164 := Tryz.isAgg101
  z164 := Tryz.sizeOf101
  v164 := Tryz.zeroValue101
set_option maxRecDepth 100000 in
theorem lays169 : Lays.n169 Tryz.prog ren where
  mixed := by kernel_rfl
  f169 := by kernel_rfl
  t0 := Tryz.underlying0
  a0 := Tryz.isAgg0
  z0 := Tryz.sizeOf0
  v0 := Tryz.zeroValue0
  t3 := Tryz.underlying3
  a3 := Tryz.isAgg3
  z3 := Tryz.sizeOf3
  v3 := Tryz.zeroValue3
  t9 := Tryz.underlying9
  a9 := Tryz.isAgg9
  z9 := Tryz.sizeOf9
  v9 := Tryz.zeroValue9
  t37 := Tryz.underlying42
  a37 := Tryz.isAgg42
  z37 := Tryz.sizeOf42
  v37 := Tryz.zeroValue42
  t70 := Tryz.underlying58
  a70 := Tryz.isAgg58
  z70 := Tryz.sizeOf58
  v70 := Tryz.zeroValue58
  t72 := Tryz.underlying60
  a72 := Tryz.isAgg60
  z72 := Tryz.sizeOf60
  v72 := Tryz.zeroValue60
  t127 := Tryz.underlying86
  a127 := Tryz.isAgg86
  z127 := Tryz.sizeOf86
  v127 := Tryz.zeroValue86
set_option maxRecDepth 100000 in
theorem lays240 : Lays.n240 Tryz.prog ren where
  mixed := by kernel_rfl
  f240 := by kernel_rfl
  f276 := by kernel_rfl
  t0 := Tryz.underlying0
  a0 := Tryz.isAgg0
  z0 := Tryz.sizeOf0
  v0 := Tryz.zeroValue0
  t4 := Tryz.underlying4
  a4 := Tryz.isAgg4
  z4 := Tryz.sizeOf4
  v4 := Tryz.zeroValue4
  t9 := Tryz.underlying9
  a9 := Tryz.isAgg9
  z9 := Tryz.sizeOf9
  v9 := Tryz.zeroValue9
  t20 := Tryz.underlying20
  a20 := Tryz.isAgg20
  z20 := Tryz.sizeOf20
  v20 := Tryz.zeroValue20
  t70 := Tryz.underlying58
  a70 := Tryz.isAgg58
  z70 := Tryz.sizeOf58
  v70 := Tryz.zeroValue58
  t72 := Tryz.underlying60
  a72 := Tryz.isAgg60
  z72 := Tryz.sizeOf60
  v72 := Tryz.zeroValue60
  t164 := Tryz.underlying101
  a164 := Tryz.isAgg101
  z164 := Tryz.sizeOf101
  v164 := Tryz.zeroValue101
set_option maxRecDepth 100000 in
theorem laysC245 : LaysC.n245 Tryz.prog ren where
  mixed := by kernel_rfl
  f129 := by kernel_rfl
  f171 := by kernel_rfl
  f205 := by kernel_rfl
  f243 := by kernel_rfl
  f245 := by kernel_rfl
  f246 := by kernel_rfl
  f279 := by kernel_rfl
  f280 := by kernel_rfl
  f281 := by kernel_rfl
  f282 := by kernel_rfl
  f283 := by kernel_rfl
  f284 := by kernel_rfl
  f285 := by kernel_rfl
  f286 := by kernel_rfl
  f316 := by kernel_rfl
  f317 := by kernel_rfl
  f318 := by kernel_rfl
  f319 := by kernel_rfl
  f320 := by kernel_rfl
  f337 := by kernel_rfl
  f338 := by kernel_rfl
  t0 := Tryz.underlying0
  a0 := Tryz.isAgg0
  z0 := Tryz.sizeOf0
  v0 := Tryz.zeroValue0
  t2 := Tryz.underlying2
  a2 := Tryz.isAgg2
  z2 := Tryz.sizeOf2
  v2 := Tryz.zeroValue2
  t3 := Tryz.underlying3
  a3 := Tryz.isAgg3
  z3 := Tryz.sizeOf3
  v3 := Tryz.zeroValue3
  t4 := Tryz.underlying4
  a4 := Tryz.isAgg4
  z4 := Tryz.sizeOf4
  v4 := Tryz.zeroValue4
  t5 := Tryz.underlying5
  a5 := Tryz.isAgg5
  z5 := Tryz.sizeOf5
  v5 := Tryz.zeroValue5
  t9 := Tryz.underlying9
  a9 := Tryz.isAgg9
  z9 := Tryz.sizeOf9
  v9 := Tryz.zeroValue9
  t20 := Tryz.underlying20
  a20 := Tryz.isAgg20
  z20 := Tryz.sizeOf20
  v20 := Tryz.zeroValue20
  t37 := Tryz.underlying42
  a37 := Tryz.isAgg42
  z37 := Tryz.sizeOf42
  v37 := Tryz.zeroValue42
  t46 := Tryz.underlying103
  a46 := Tryz.isAgg103
  z46 := Tryz.sizeOf103
  v46 := Tryz.zeroValue103
  t51 := Tryz.underlying39
  a51 := Tryz.isAgg39
  z51 := Tryz.sizeOf39
  v51 := Tryz.zeroValue39
  t53 := Tryz.underlying80
  a53 := Tryz.isAgg80
  z53 := Tryz.sizeOf80
  v53 := Tryz.zeroValue80
  t75 := Tryz.underlying62
  a75 := Tryz.isAgg62
  z75 := Tryz.sizeOf62
  v75 := Tryz.zeroValue62
  t127 := Tryz.underlying86
  a127 := Tryz.isAgg86
  z127 := Tryz.sizeOf86
  v127 := Tryz.zeroValue86
  t143 := Tryz.underlying141
  a143 := Tryz.isAgg141
  z143 := Tryz.sizeOf141
  v143 := Tryz.zeroValue141
  t145 := Tryz.underlying143
  a145 := Tryz.isAgg143
  z145 := Tryz.sizeOf143
  v145 := Tryz.zeroValue143
  t167 := Tryz.underlying117
  a167 := Tryz.isAgg117
  z167 := Tryz.sizeOf117
  v167 := Tryz.zeroValue117
  t168 := Tryz.underlying120
  a168 := Tryz.isAgg120
  z168 := Tryz.sizeOf120
  v168 := Tryz.zeroValue120
  t171 := Tryz.underlying109
  a171 := Tryz.isAgg109
  z171 := Tryz.sizeOf109
  v171 := Tryz.zeroValue109
  t173 := Tryz.underlying112
  a173 := Tryz.isAgg112
  z173 := Tryz.sizeOf112
  v173 := Tryz.zeroValue112
  t210 := Tryz.underlying134
  a210 := Tryz.isAgg134
  z210 := Tryz.sizeOf134
  v210 := Tryz.zeroValue134
  t212 := Tryz.underlying126
  a212 := Tryz.isAgg126
  z212 := Tryz.sizeOf126
  v212 := Tryz.zeroValue126
  t213 := Tryz.underlying127
  a213 := Tryz.isAgg127
  z213 := Tryz.sizeOf127
  t232 := Tryz.underlying144
  a232 := Tryz.isAgg144
  z232 := Tryz.sizeOf144
  v232 := Tryz.zeroValue144
  t233 := Tryz.underlying145
  a233 := Tryz.isAgg145
  z233 := Tryz.sizeOf145
  v233 := Tryz.zeroValue145
  g15 := by kernel_rfl
  g16 := by kernel_rfl
  g17 := by kernel_rfl
  g18 := by kernel_rfl
  g19 := by kernel_rfl
  t80 := Tryz.underlying67
  a80 := Tryz.isAgg67
  z80 := Tryz.sizeOf67
  v80 := Tryz.zeroValue67
  i0 := by kernel_rfl
  i2 := by kernel_rfl
  i3 := by kernel_rfl
  i4 := by kernel_rfl
  i5 := by kernel_rfl
  i9 := by kernel_rfl
  i20 := by kernel_rfl
  i37 := by kernel_rfl
  i46 := by kernel_rfl
  i51 := by kernel_rfl
  i53 := by kernel_rfl
  i75 := by kernel_rfl
  i80 := by kernel_rfl
  i127 := by kernel_rfl
  i143 := by kernel_rfl
  i145 := by kernel_rfl
  i167 := by kernel_rfl
  i168 := by kernel_rfl
  i171 := by kernel_rfl
  i173 := by kernel_rfl
  i210 := by kernel_rfl
  i212 := by kernel_rfl
  i232 := by kernel_rfl
  i233 := by kernel_rfl
  m15 := by kernel_rfl
  m16 := by kernel_rfl
  m17 := by kernel_rfl
  m18 := by kernel_rfl
  m19 := by kernel_rfl
  c0 := by kernel_rfl
  c2 := by kernel_rfl
  c3 := by kernel_rfl
  c4 := by kernel_rfl
  c5 := by kernel_rfl
  c9 := by kernel_rfl
  c20 := by kernel_rfl
  c37 := by kernel_rfl
  c46 := by kernel_rfl
  c51 := by kernel_rfl
  c53 := by kernel_rfl
  c75 := by kernel_rfl
  c80 := by kernel_rfl
  c127 := by kernel_rfl
  c143 := by kernel_rfl
  c145 := by kernel_rfl
  c167 := by kernel_rfl
  c168 := by kernel_rfl
  c171 := by kernel_rfl
  c173 := by kernel_rfl
  c210 := by kernel_rfl
  c212 := by kernel_rfl
  c213 := by kernel_rfl
  c232 := by kernel_rfl
  c233 := by kernel_rfl
set_option maxRecDepth 100000 in
theorem lays287 : Lays.n287 Tryz.prog ren where
  mixed := by kernel_rfl
  f287 := by kernel_rfl
  f321 := by kernel_rfl
  f322 := by kernel_rfl
  t0 := Tryz.underlying0
  a0 := Tryz.isAgg0
  z0 := Tryz.sizeOf0
  v0 := Tryz.zeroValue0
  t3 := Tryz.underlying3
  a3 := Tryz.isAgg3
  z3 := Tryz.sizeOf3
  v3 := Tryz.zeroValue3
  t4 := Tryz.underlying4
  a4 := Tryz.isAgg4
  z4 := Tryz.sizeOf4
  v4 := Tryz.zeroValue4
  t5 := Tryz.underlying5
  a5 := Tryz.isAgg5
  z5 := Tryz.sizeOf5
  v5 := Tryz.zeroValue5
  t9 := Tryz.underlying9
  a9 := Tryz.isAgg9
  z9 := Tryz.sizeOf9
  v9 := Tryz.zeroValue9
  t21 := Tryz.underlying21
  a21 := Tryz.isAgg21
  z21 := Tryz.sizeOf21
  v21 := Tryz.zeroValue21
  t37 := Tryz.underlying42
  a37 := Tryz.isAgg42
  z37 := Tryz.sizeOf42
  v37 := Tryz.zeroValue42
  t46 := Tryz.underlying103
  a46 := Tryz.isAgg103
  z46 := Tryz.sizeOf103
  v46 := Tryz.zeroValue103
  t53 := Tryz.underlying80
  a53 := Tryz.isAgg80
  z53 := Tryz.sizeOf80
  v53 := Tryz.zeroValue80
  t75 := Tryz.underlying62
  a75 := Tryz.isAgg62
  z75 := Tryz.sizeOf62
  v75 := Tryz.zeroValue62
  t167 := Tryz.underlying117
  a167 := Tryz.isAgg117
  z167 := Tryz.sizeOf117
  v167 := Tryz.zeroValue117
set_option maxRecDepth 100000 in
theorem lays321 : Lays.n321 Tryz.prog ren where
  mixed := by kernel_rfl
  f321 := by kernel_rfl
  t5 := Tryz.underlying5
  a5 := Tryz.isAgg5
  z5 := Tryz.sizeOf5
  v5 := Tryz.zeroValue5

set_option maxRecDepth 100000 in
theorem extraB : Builder.Extra Tryz.prog ren where
  sizeBuilder := by kernel_rfl
  liesBuilder := by kernel_rfl
  t5 := Tryz.underlying5
  a5 := Tryz.isAgg5
  z5 := Tryz.sizeOf5
  v5 := Tryz.zeroValue5
  infoByte := by kernel_rfl
  cellsByte := by kernel_rfl
  sizeByte := by kernel_rfl
  neB5 := by decide
section
variable {g : World} {T0 : Nat → Prop} {w0 : World} {R : Assn}
theorem strings_TrimPrefix_sim {p0 p1 r : List UInt8} (hS : Sep g T0 w0 [R]) (hm : strings_TrimPrefix p0 p1 = some r) :
    Calls Tryz.prog 53 #[.string ⟨p0.toArray⟩, .string ⟨p1.toArray⟩] w0 (RetS T0 w0 fun T w v => v = .string ⟨r.toArray⟩ ∧ Sep g T w [R] ∧ True) := by
  cases hm
  refine (Any.strings_TrimPrefix lays101 ⟨p0.toArray⟩ ⟨p1.toArray⟩ w0).mono ?_
  rintro e w ⟨rfl, rfl⟩
  exact ⟨_, rfl, _, Im.refl, rfl, hS, trivial⟩
theorem strings_TrimSuffix_sim {p0 p1 r : List UInt8} (hS : Sep g T0 w0 [R]) (hm : strings_TrimSuffix p0 p1 = some r) :
    Calls Tryz.prog 42 #[.string ⟨p0.toArray⟩, .string ⟨p1.toArray⟩] w0 (RetS T0 w0 fun T w v => v = .string ⟨r.toArray⟩ ∧ Sep g T w [R] ∧ True) := by
  unfold strings_TrimSuffix at hm
  split at hm
  · rename_i hl
    cases hm
    refine (Any.strings_TrimSuffix lays102 ⟨p0.toArray⟩ ⟨p1.toArray⟩ w0 (by show p0.toArray.size ≤ _; simpa using hl)).mono ?_
    rintro e w ⟨rfl, rfl⟩
    exact ⟨_, rfl, _, Im.refl, rfl, hS, trivial⟩
  · cases hm
theorem strings_CutPrefix_sim {p0 p1 : List UInt8} {r : List UInt8 × Bool} (hS : Sep g T0 w0 [R]) (hm : strings_CutPrefix p0 p1 = some r) :
    Calls Tryz.prog 61 #[.string ⟨p0.toArray⟩, .string ⟨p1.toArray⟩] w0 (RetS T0 w0 fun T w v => v = .tuple #[.string ⟨r.1.toArray⟩, .bool r.2] ∧ Sep g T w [R] ∧ True) := by
  cases hm
  refine (Any.strings_CutPrefix lays103 ⟨p0.toArray⟩ ⟨p1.toArray⟩ w0).mono ?_
  rintro e w ⟨rfl, rfl⟩
  exact ⟨_, rfl, _, Im.refl, rfl, hS, trivial⟩
theorem strings_Cut_sim {p0 p1 : List UInt8} {r : List UInt8 × List UInt8 × Bool} (hS : Sep g T0 w0 [R]) (hG : Gi T0 w0 0) (hm : strings_Cut p0 p1 = some r) :
    Calls Tryz.prog 27 #[.string ⟨p0.toArray⟩, .string ⟨p1.toArray⟩] w0 (RetS T0 w0 fun T w v => v = .tuple #[.string ⟨r.1.toArray⟩, .string ⟨r.2.1.toArray⟩, .bool r.2.2] ∧ Sep g T w [R] ∧ True) := by
  unfold strings_Cut at hm
  split at hm
  · rename_i hl
    cases hm
    obtain ⟨_, m, hc⟩ := hG
    refine (Any.strings_Cut lays145 ⟨p0.toArray⟩ ⟨p1.toArray⟩ m w0 (by show p0.toArray.size < 4294967281; simpa using hl) hc).mono ?_
    rintro e w ⟨rfl, n, rfl⟩
    have hB := hS.below (below_drewN (Below.refl _ _) n)
    exact ⟨_, rfl, _, hB.1, rfl, hB.2, trivial⟩
  · cases hm
theorem strings_genSplit_sim {p0 p1 : List UInt8} {p2 p3 : Int} {r : List (List UInt8)} (hS : Sep g T0 w0 [R]) (hG : Gi T0 w0 0) (hm : strings_genSplit p0 p1 p2 p3 = some r) :
    Calls Tryz.prog 52 #[.string ⟨p0.toArray⟩, .string ⟨p1.toArray⟩, .int .i64 p2, .int .i64 p3] w0 (RetS T0 w0 fun T w v => ∃ (a : Option Addr) (c : Nat), v = .slice a (List.length r) c ∧ Sep g T w [R] ∧ SlR rStr T w (.slice a (List.length r) c) r ∧ True) := by
  unfold strings_genSplit at hm
  split at hm
  · rename_i hl
    obtain ⟨hl, h1, h2, h3, rfl⟩ := hl
    cases hm
    obtain ⟨_, m, hc⟩ := hG
    obtain ⟨sv, rfl⟩ : ∃ n : Nat, p2 = n := ⟨p2.toNat, by omega⟩
    have hs1 : (⟨p1.toArray⟩ : ByteArray).size = p1.length := by simp [ByteArray.size]
    have hs0 : (⟨p0.toArray⟩ : ByteArray).size = p0.length := by simp [ByteArray.size]
    have hle := Lib.countB_le ⟨p1.toArray⟩ (by omega) _ ⟨p0.toArray⟩ (Nat.le_refl _)
    have hlen := Lib.splitB_all ⟨p1.toArray⟩ (by omega) sv _ ⟨p0.toArray⟩ rfl
    have key := Any.strings_genSplit lays221 (by kernel_rfl) ⟨p0.toArray⟩ ⟨p1.toArray⟩ sv (-1) (Lib.countB ⟨p0.toArray⟩ ⟨p1.toArray⟩ + 1) m w0 (by omega) hc (by omega) (by omega) (by decide) (by decide) (by rw [if_pos (by decide)]; omega)
    rw [Nat.add_sub_cancel, hlen] at key
    have e2 : Lib.cellsOf (Lib.splitB ⟨p1.toArray⟩ sv (Lib.countB ⟨p0.toArray⟩ ⟨p1.toArray⟩) ⟨p0.toArray⟩) (Lib.countB ⟨p0.toArray⟩ ⟨p1.toArray⟩ + 1) = ((Lib.splitB ⟨p1.toArray⟩ sv (Lib.countB ⟨p0.toArray⟩ ⟨p1.toArray⟩) ⟨p0.toArray⟩).map Value.string).toArray := by rw [← hlen]; exact Lib.cellsOf_full _
    rw [e2] at key
    refine key.mono ?_
    rintro e w ⟨rfl, rfl⟩
    have hF := hS.fresh (.cells ((Lib.splitB ⟨p1.toArray⟩ sv (Lib.countB ⟨p0.toArray⟩ ⟨p1.toArray⟩) ⟨p0.toArray⟩).map Value.string).toArray (ren.t 9))
    have hd : (Lib.splitB ⟨p1.toArray⟩ sv (Lib.countB ⟨p0.toArray⟩ ⟨p1.toArray⟩) ⟨p0.toArray⟩).map (·.data.toList) = Lib.splitK p1 sv (Lib.count p0 p1) p0 := by
      have := Lib.splitB_data ⟨p1.toArray⟩ sv (Lib.countB ⟨p0.toArray⟩ ⟨p1.toArray⟩) ⟨p0.toArray⟩
      simpa using this
    have hll : (Lib.splitK p1 (sv : Int).toNat (Lib.count p0 p1) p0).length = Lib.countB ⟨p0.toArray⟩ ⟨p1.toArray⟩ + 1 := by
      rw [show (sv : Int).toNat = sv from rfl, ← hd, List.length_map, hlen]
    have hcl : Lib.countB ⟨p0.toArray⟩ ⟨p1.toArray⟩ + 1 ≤ maxLen := by unfold maxLen; omega
    refine ⟨_, rfl, _, hF.1, some ⟨w0.heap.size, 0, none⟩, Lib.countB ⟨p0.toArray⟩ ⟨p1.toArray⟩ + 1, ?_, hF.2, ?_, trivial⟩
    · rw [hll]
    · refine ⟨_, _, rfl, by omega, hcl, .inr ⟨_, 0, rfl, .inr rfl, fun i x hx => ⟨_, rfl, ?_⟩⟩⟩
      rw [show (sv : Int).toNat = sv from rfl, ← hd, List.getElem?_map] at hx
      intro j v hj
      cases j with
      | succ j => cases hj
      | zero =>
        cases hj
        cases hb : (Lib.splitB ⟨p1.toArray⟩ sv (Lib.countB ⟨p0.toArray⟩ ⟨p1.toArray⟩) ⟨p0.toArray⟩)[i]? with
        | none => rw [hb] at hx; cases hx
        | some b =>
          rw [hb] at hx
          cases hx
          have hcell : (w0.alloc (.cells ((Lib.splitB ⟨p1.toArray⟩ sv (Lib.countB ⟨p0.toArray⟩ ⟨p1.toArray⟩) ⟨p0.toArray⟩).map Value.string).toArray (ren.t 9))).cell? ⟨w0.heap.size, i, none⟩ = some (.string b) := by
            rw [World.cell?_alloc_new]
            simp [hb]
          show World.cell? _ ⟨w0.heap.size, 0 + i * 1 + 0, none⟩ = _
          rw [show 0 + i * 1 + 0 = i by omega, hcell]
  · cases hm
theorem strings_Join_sim {p0 : List (List UInt8)} {a1 : Option Addr} {c1 : Nat} {p1 r : List UInt8} (hS : Sep g T0 w0 [R]) (h1 : SlR rStr T0 w0 (.slice a1 (List.length p0) c1) p0) (hm : strings_Join p0 p1 = some r) :
    Calls Tryz.prog 50 #[.slice a1 (List.length p0) c1, .string ⟨p1.toArray⟩] w0 (RetS T0 w0 fun T w v => v = .string ⟨r.toArray⟩ ∧ Sep g T w [R] ∧ True) := by
  unfold strings_Join at hm
  split at hm
  · rename_i hl
    cases hm
    obtain ⟨a, cap, e, hlc, hcm, hx⟩ := h1
    cases e
    have hd : p0 = (p0.map fun x => (⟨x.toArray⟩ : ByteArray)).map (·.data.toList) := by rw [List.map_map]; exact (List.map_id p0).symm
    rcases hx with rfl | ⟨b, off, rfl, hT, hcells⟩
    · refine (Any.strings_Join_none lays156 extraB a1 c1 ⟨p1.toArray⟩ w0).mono ?_
      rintro e w ⟨rfl, rfl⟩
      exact ⟨_, rfl, _, Im.refl, rfl, hS, trivial⟩
    · have hlen : (p0.map fun x => (⟨x.toArray⟩ : ByteArray)).length = p0.length := by simp
      have key := Any.strings_Join lays156 extraB b off c1 (p0.map fun x => (⟨x.toArray⟩ : ByteArray)) ⟨p1.toArray⟩ w0 (fun j x hj => by
          rw [List.getElem?_map] at hj
          cases hp : p0[j]? with
          | none => rw [hp] at hj; cases hj
          | some y =>
            rw [hp] at hj
            cases hj
            obtain ⟨cs, hr, hc⟩ := hcells j y hp
            have hr' : cs = [.string ⟨y.toArray⟩] := hr
            subst hr'
            have := hc 0 _ rfl
            rw [Nat.add_zero, show rStr.sz = 1 from rfl, Nat.mul_one] at this
            exact this) (hS.lt b hT) (by rw [hlen]; omega) (by rw [hlen]; exact hlc) (by rw [← hd]; show (Go.Lib.join p0 p1.toArray.toList).length ≤ _; have := hl.2; simp only [List.toList_toArray] at this ⊢; omega)
      rw [hlen] at key
      refine key.mono ?_
      rintro e w ⟨rfl, hB⟩
      have hj : Go.Lib.join ((p0.map fun x => (⟨x.toArray⟩ : ByteArray)).map (·.data.toList)) (⟨p1.toArray⟩ : ByteArray).data.toList = Go.Lib.join p0 p1 := by rw [← hd]
      have hK := hS.below hB
      exact ⟨_, rfl, _, hK.1, by rw [hj], hK.2, trivial⟩
  · cases hm
theorem strconv_Itoa_sim {p0 : Int} {r : List UInt8} (hS : Sep g T0 w0 [R]) (hG : Gc T0 w0 1 (Lib.pow10Tab.map fun z => Value.int .u64 z)) (hm : strconv_Itoa p0 = some r) :
    Calls Tryz.prog 17 #[.int .i64 p0] w0 (RetS T0 w0 fun T w v => v = .string ⟨r.toArray⟩ ∧ Sep g T w [R] ∧ True) := by
  unfold strconv_Itoa at hm
  split at hm
  · rename_i hl
    cases hm
    refine (Any.strconv_Itoa laysM171 p0 hl.1 hl.2 w0 (hG.var laysM171.m17)).mono ?_
    rintro e w ⟨rfl, k, os, rfl⟩
    have hK := hS.below (Lib.below_grow _ _ (Nat.le_refl _) k os)
    exact ⟨_, rfl, _, hK.1, rfl, hK.2, trivial⟩
  · cases hm
theorem strconv_Atoi_sim {p0 : List UInt8} {r : Int × Bool} (hS : Sep g T0 w0 [R]) (hG1 : Ge T0 w0 2) (hG2 : Ge T0 w0 3) (hm : strconv_Atoi p0 = some r) :
    Calls Tryz.prog 54 #[.string ⟨p0.toArray⟩] w0 (RetS T0 w0 fun T w v => ∃ (ev : Value), v = .tuple #[.int .i64 r.1, ev] ∧ Sep g T w [R] ∧ ErrV ev r.2 ∧ True) := by
  unfold strconv_Atoi at hm
  split at hm
  · rename_i hl
    have hs0 : (⟨p0.toArray⟩ : ByteArray).size = p0.length := by simp [ByteArray.size]
    obtain ⟨_, e1, hv1, he1⟩ := hG1
    obtain ⟨_, e2, hv2, he2⟩ := hG2
    rcases ha : Lib.atoiAll p0 with n | _ | _
    · rw [ha] at hm
      cases hm
      refine (Any.strconv_Atoi_ok laysC172 ⟨p0.toArray⟩ (by omega) n ha w0).mono ?_
      rintro e w ⟨rfl, hw⟩
      have hK : Im T0 w0 T0 w ∧ Sep g T0 w [R] := by
        rcases hw with rfl | ⟨t, rfl⟩
        · exact ⟨Im.refl, hS⟩
        · exact hS.below (Lib.bytesWorld_below _ _ _)
      exact ⟨_, rfl, _, hK.1, _, rfl, hK.2, .inl ⟨rfl, rfl⟩, trivial⟩
    · rw [ha] at hm
      cases hm
      refine (Any.strconv_Atoi_syntax laysC172 ⟨p0.toArray⟩ (by omega) ha e1 w0 hv1 he1).mono ?_
      rintro e w ⟨N, rfl, _, _, hB⟩
      have hK := hS.below hB
      exact ⟨_, rfl, _, hK.1, _, rfl, hK.2, .inr ⟨rfl, _, _, rfl⟩, trivial⟩
    · rw [ha] at hm
      cases hm
      refine (Any.strconv_Atoi_range laysC172 ⟨p0.toArray⟩ (by omega) ha e2 w0 hv2 he2).mono ?_
      rintro e w ⟨N, rfl, _, _, hB⟩
      have hK := hS.below hB
      exact ⟨_, rfl, _, hK.1, _, rfl, hK.2, .inr ⟨rfl, _, _, rfl⟩, trivial⟩
  · cases hm
end
end Go.Proofs.YtcmncppbonaaeaaGreatDoor
