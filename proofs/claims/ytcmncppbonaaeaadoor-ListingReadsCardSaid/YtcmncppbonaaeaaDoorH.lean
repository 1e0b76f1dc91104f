/- Contracts of the library's functions that package listing calls, told of what a function owns. -/
import Derived.Test.YtcmncppbonaaeaaDoorRows
import Derived.Test.YtcmncppbonaaeaaDoorErr
import Derived.Test.YtcmncppbonaaeaaDoorStr
import Derived.Test.YtcmncppbonaaeaaDoorM
import Derived.Shelf.Strings.Search3
import Derived.Shelf.Strings.OnBuilder
import Derived.Shelf.Strings.Cut
import Derived.Shelf.Strings.Split
import Derived.Shelf.Strings.Prefix
import Derived.Shelf.Small.Wraps
import Derived.Shelf.Strconv.Itoa3
import Derived.Shelf.Strconv.AtoiAll
import Derived.Lib.AppendIntMem
import Derived.WalkSmall
set_option linter.unusedVariables false
namespace Go.Proofs.YtcmncppbonaaeaaDoor
open Go.Shelf Go.RowKit
def ren : Go.Shelf.Ren := ⟨fun x => match x with | 101 => 37 | 102 => 39 | 129 => 87 | 138 => 50 | 143 => 51 | 145 => 10 | 156 => 41 | 165 => 57 | 166 => 30 | 169 => 33 | 171 => 26 | 172 => 38 | 195 => 65 | 197 => 66 | 205 => 85 | 206 => 68 | 207 => 74 | 208 => 52 | 209 => 55 | 217 => 61 | 218 => 67 | 219 => 48 | 220 => 34 | 221 => 35 | 224 => 63 | 225 => 62 | 240 => 42 | 241 => 79 | 243 => 40 | 244 => 53 | 245 => 54 | 246 => 56 | 247 => 69 | 260 => 82 | 266 => 80 | 267 => 64 | 268 => 49 | 276 => 58 | 277 => 91 | 279 => 70 | 280 => 71 | 281 => 72 | 282 => 73 | 283 => 75 | 284 => 76 | 285 => 77 | 286 => 78 | 287 => 83 | 314 => 81 | 316 => 84 | 317 => 86 | 318 => 88 | 319 => 89 | 320 => 90 | 321 => 92 | 322 => 93 | 337 => 94 | 338 => 95 | x => x, fun x => match x with | 0 => 0 | 2 => 2 | 3 => 3 | 4 => 4 | 5 => 5 | 9 => 9 | 20 => 20 | 21 => 21 | 31 => 39 | 37 => 55 | 46 => 86 | 51 => 35 | 53 => 72 | 59 => 37 | 70 => 54 | 72 => 57 | 75 => 59 | 76 => 60 | 80 => 64 | 85 => 94 | 105 => 90 | 119 => 117 | 127 => 78 | 138 => 119 | 139 => 120 | 143 => 122 | 145 => 124 | 146 => 104 | 164 => 84 | 167 => 93 | 168 => 96 | 171 => 99 | 173 => 102 | 175 => 106 | 210 => 110 | 212 => 113 | 213 => 114 | 232 => 126 | 233 => 127 | x => x, fun x => match x with | 1 => 0 | 3 => 4 | 4 => 5 | 15 => 1 | 16 => 2 | 17 => 3 | 18 => 6 | 19 => 7 | x => x⟩
set_option maxRecDepth 100000 in
theorem laysM171 : LaysM.n171 Tryd.prog ren where
  mixed := by kernel_rfl
  f129 := by kernel_rfl
  f171 := by kernel_rfl
  f243 := by kernel_rfl
  f246 := by kernel_rfl
  f283 := by kernel_rfl
  f284 := by kernel_rfl
  f285 := by kernel_rfl
  f286 := by kernel_rfl
  f317 := by kernel_rfl
  f318 := by kernel_rfl
  f319 := by kernel_rfl
  f320 := by kernel_rfl
  f337 := by kernel_rfl
  f338 := by kernel_rfl
  t0 := Tryd.underlying0
  a0 := Tryd.isAgg0
  z0 := Tryd.sizeOf0
  v0 := Tryd.zeroValue0
  t2 := Tryd.underlying2
  a2 := Tryd.isAgg2
  z2 := Tryd.sizeOf2
  v2 := Tryd.zeroValue2
  t3 := Tryd.underlying3
  a3 := Tryd.isAgg3
  z3 := Tryd.sizeOf3
  v3 := Tryd.zeroValue3
  t4 := Tryd.underlying4
  a4 := Tryd.isAgg4
  z4 := Tryd.sizeOf4
  v4 := Tryd.zeroValue4
  t5 := Tryd.underlying5
  a5 := Tryd.isAgg5
  z5 := Tryd.sizeOf5
  v5 := Tryd.zeroValue5
  t9 := Tryd.underlying9
  a9 := Tryd.isAgg9
  z9 := Tryd.sizeOf9
  v9 := Tryd.zeroValue9
  t20 := Tryd.underlying20
  a20 := Tryd.isAgg20
  z20 := Tryd.sizeOf20
  v20 := Tryd.zeroValue20
  t37 := Tryd.underlying55
  a37 := Tryd.isAgg55
  z37 := Tryd.sizeOf55
  v37 := Tryd.zeroValue55
  t46 := Tryd.underlying86
  a46 := Tryd.isAgg86
  z46 := Tryd.sizeOf86
  v46 := Tryd.zeroValue86
  t51 := Tryd.underlying35
  a51 := Tryd.isAgg35
  z51 := Tryd.sizeOf35
  v51 := Tryd.zeroValue35
  t53 := Tryd.underlying72
  a53 := Tryd.isAgg72
  z53 := Tryd.sizeOf72
  v53 := Tryd.zeroValue72
  t171 := Tryd.underlying99
  a171 := Tryd.isAgg99
  z171 := Tryd.sizeOf99
  v171 := Tryd.zeroValue99
  t173 := Tryd.underlying102
  a173 := Tryd.isAgg102
  z173 := Tryd.sizeOf102
  v173 := Tryd.zeroValue102
  t212 := Tryd.underlying113
  a212 := Tryd.isAgg113
  z212 := Tryd.sizeOf113
  v212 := Tryd.zeroValue113
  t213 := Tryd.underlying114
  a213 := Tryd.isAgg114
  z213 := Tryd.sizeOf114
  t232 := Tryd.underlying126
  a232 := Tryd.isAgg126
  z232 := Tryd.sizeOf126
  v232 := Tryd.zeroValue126
  t233 := Tryd.underlying127
  a233 := Tryd.isAgg127
  z233 := Tryd.sizeOf127
  v233 := Tryd.zeroValue127
  g17 := by kernel_rfl
  g18 := by kernel_rfl
  g19 := by kernel_rfl
  i0 := by kernel_rfl
  i2 := by kernel_rfl
  i3 := by kernel_rfl
  i4 := by kernel_rfl
  i5 := by kernel_rfl
  i9 := by kernel_rfl
  i20 := by kernel_rfl
  i37 := by kernel_rfl
  i46 := by kernel_rfl
  i51 := by kernel_rfl
  i53 := by kernel_rfl
  i171 := by kernel_rfl
  i173 := by kernel_rfl
  i212 := by kernel_rfl
  i232 := by kernel_rfl
  i233 := by kernel_rfl
  m17 := by kernel_rfl
  m18 := by kernel_rfl
  m19 := by kernel_rfl
set_option maxRecDepth 100000 in
theorem laysC172 : LaysC.n172 Tryd.prog ren where
  mixed := by kernel_rfl
  f129 := by kernel_rfl
  f171 := by kernel_rfl
  f172 := by kernel_rfl
  f205 := by kernel_rfl
  f243 := by kernel_rfl
  f244 := by kernel_rfl
  f245 := by kernel_rfl
  f246 := by kernel_rfl
  f247 := by kernel_rfl
  f279 := by kernel_rfl
  f280 := by kernel_rfl
  f281 := by kernel_rfl
  f282 := by kernel_rfl
  f283 := by kernel_rfl
  f284 := by kernel_rfl
  f285 := by kernel_rfl
  f286 := by kernel_rfl
  f287 := by kernel_rfl
  f316 := by kernel_rfl
  f317 := by kernel_rfl
  f318 := by kernel_rfl
  f319 := by kernel_rfl
  f320 := by kernel_rfl
  f321 := by kernel_rfl
  f322 := by kernel_rfl
  f337 := by kernel_rfl
  f338 := by kernel_rfl
  t0 := Tryd.underlying0
  a0 := Tryd.isAgg0
  z0 := Tryd.sizeOf0
  v0 := Tryd.zeroValue0
  t2 := Tryd.underlying2
  a2 := Tryd.isAgg2
  z2 := Tryd.sizeOf2
  v2 := Tryd.zeroValue2
  t3 := Tryd.underlying3
  a3 := Tryd.isAgg3
  z3 := Tryd.sizeOf3
  v3 := Tryd.zeroValue3
  t4 := Tryd.underlying4
  a4 := Tryd.isAgg4
  z4 := Tryd.sizeOf4
  v4 := Tryd.zeroValue4
  t5 := Tryd.underlying5
  a5 := Tryd.isAgg5
  z5 := Tryd.sizeOf5
  v5 := Tryd.zeroValue5
  t9 := Tryd.underlying9
  a9 := Tryd.isAgg9
  z9 := Tryd.sizeOf9
  v9 := Tryd.zeroValue9
  t20 := Tryd.underlying20
  a20 := Tryd.isAgg20
  z20 := Tryd.sizeOf20
  v20 := Tryd.zeroValue20
  t21 := Tryd.underlying21
  a21 := Tryd.isAgg21
  z21 := Tryd.sizeOf21
  v21 := Tryd.zeroValue21
  t37 := Tryd.underlying55
  a37 := Tryd.isAgg55
  z37 := Tryd.sizeOf55
  v37 := Tryd.zeroValue55
  t46 := Tryd.underlying86
  a46 := Tryd.isAgg86
  z46 := Tryd.sizeOf86
  v46 := Tryd.zeroValue86
  t51 := Tryd.underlying35
  a51 := Tryd.isAgg35
  z51 := Tryd.sizeOf35
  v51 := Tryd.zeroValue35
  t53 := Tryd.underlying72
  a53 := Tryd.isAgg72
  z53 := Tryd.sizeOf72
  v53 := Tryd.zeroValue72
  t75 := Tryd.underlying59
  a75 := Tryd.isAgg59
  z75 := Tryd.sizeOf59
  v75 := Tryd.zeroValue59
  t76 := Tryd.underlying60
  a76 := Tryd.isAgg60
  z76 := Tryd.sizeOf60
  v76 := Tryd.zeroValue60
  t85 := Tryd.underlying94
  a85 := Tryd.isAgg94
  z85 := Tryd.sizeOf94
  v85 := Tryd.zeroValue94
  t127 := Tryd.underlying78
  a127 := Tryd.isAgg78
  z127 := Tryd.sizeOf78
  v127 := Tryd.zeroValue78
  t143 := Tryd.underlying122
  a143 := Tryd.isAgg122
  z143 := Tryd.sizeOf122
  v143 := Tryd.zeroValue122
  t145 := Tryd.underlying124
  a145 := Tryd.isAgg124
  z145 := Tryd.sizeOf124
  v145 := Tryd.zeroValue124
  t167 := Tryd.underlying93
  a167 := Tryd.isAgg93
  z167 := Tryd.sizeOf93
  v167 := Tryd.zeroValue93
  t168 := Tryd.underlying96
  a168 := Tryd.isAgg96
  z168 := Tryd.sizeOf96
  v168 := Tryd.zeroValue96
  t171 := Tryd.underlying99
  a171 := Tryd.isAgg99
  z171 := Tryd.sizeOf99
  v171 := Tryd.zeroValue99
  t173 := Tryd.underlying102
  a173 := Tryd.isAgg102
  z173 := Tryd.sizeOf102
  v173 := Tryd.zeroValue102
  t175 := Tryd.underlying106
  a175 := Tryd.isAgg106
  z175 := Tryd.sizeOf106
  v175 := Tryd.zeroValue106
  t210 := Tryd.underlying110
  a210 := Tryd.isAgg110
  z210 := Tryd.sizeOf110
  v210 := Tryd.zeroValue110
  t212 := Tryd.underlying113
  a212 := Tryd.isAgg113
  z212 := Tryd.sizeOf113
  v212 := Tryd.zeroValue113
  t213 := Tryd.underlying114
  a213 := Tryd.isAgg114
  z213 := Tryd.sizeOf114
  t232 := Tryd.underlying126
  a232 := Tryd.isAgg126
  z232 := Tryd.sizeOf126
  v232 := Tryd.zeroValue126
  t233 := Tryd.underlying127
  a233 := Tryd.isAgg127
  z233 := Tryd.sizeOf127
  v233 := Tryd.zeroValue127
  g15 := by kernel_rfl
  g16 := by kernel_rfl
  g17 := by kernel_rfl
  g18 := by kernel_rfl
  g19 := by kernel_rfl
  t80 := Tryd.underlying64
  a80 := Tryd.isAgg64
  z80 := Tryd.sizeOf64
  v80 := Tryd.zeroValue64
  i0 := by kernel_rfl
  i2 := by kernel_rfl
  i3 := by kernel_rfl
  i4 := by kernel_rfl
  i5 := by kernel_rfl
  i9 := by kernel_rfl
  i20 := by kernel_rfl
  i21 := by kernel_rfl
  i37 := by kernel_rfl
  i46 := by kernel_rfl
  i51 := by kernel_rfl
  i53 := by kernel_rfl
  i75 := by kernel_rfl
  i76 := by kernel_rfl
  i80 := by kernel_rfl
  i85 := by kernel_rfl
  i127 := by kernel_rfl
  i143 := by kernel_rfl
  i145 := by kernel_rfl
  i167 := by kernel_rfl
  i168 := by kernel_rfl
  i171 := by kernel_rfl
  i173 := by kernel_rfl
  i175 := by kernel_rfl
  i210 := by kernel_rfl
  i212 := by kernel_rfl
  i232 := by kernel_rfl
  i233 := by kernel_rfl
  m15 := by kernel_rfl
  m16 := by kernel_rfl
  m17 := by kernel_rfl
  m18 := by kernel_rfl
  m19 := by kernel_rfl
  c0 := by kernel_rfl
  c2 := by kernel_rfl
  c3 := by kernel_rfl
  c4 := by kernel_rfl
  c5 := by kernel_rfl
  c9 := by kernel_rfl
  c20 := by kernel_rfl
  c21 := by kernel_rfl
  c37 := by kernel_rfl
  c46 := by kernel_rfl
  c51 := by kernel_rfl
  c53 := by kernel_rfl
  c75 := by kernel_rfl
  c76 := by kernel_rfl
  c80 := by kernel_rfl
  c85 := by kernel_rfl
  c127 := by kernel_rfl
  c143 := by kernel_rfl
  c145 := by kernel_rfl
  c167 := by kernel_rfl
  c168 := by kernel_rfl
  c171 := by kernel_rfl
  c173 := by kernel_rfl
  c175 := by kernel_rfl
  c210 := by kernel_rfl
  c212 := by kernel_rfl
  c213 := by kernel_rfl
  c232 := by kernel_rfl
  c233 := by kernel_rfl
set_option maxRecDepth 100000 in
theorem lays145 : Lays.n145 Tryd.prog ren where
  mixed := by kernel_rfl
  f145 := by kernel_rfl
  f217 := by kernel_rfl
  f219 := by kernel_rfl
  f220 := by kernel_rfl
  f224 := by kernel_rfl
  f225 := by kernel_rfl
  f266 := by kernel_rfl
  f267 := by kernel_rfl
  f314 := by kernel_rfl
  t3 := Tryd.underlying3
  a3 := Tryd.isAgg3
  z3 := Tryd.sizeOf3
  v3 := Tryd.zeroValue3
  t4 := Tryd.underlying4
  a4 := Tryd.isAgg4
  z4 := Tryd.sizeOf4
  v4 := Tryd.zeroValue4
  t5 := Tryd.underlying5
  a5 := Tryd.isAgg5
  z5 := Tryd.sizeOf5
  v5 := Tryd.zeroValue5
  t9 := Tryd.underlying9
  a9 := Tryd.isAgg9
  z9 := Tryd.sizeOf9
  v9 := Tryd.zeroValue9
  t46 := Tryd.underlying86
  a46 := Tryd.isAgg86
  z46 := Tryd.sizeOf86
  v46 := Tryd.zeroValue86
  t51 := Tryd.underlying35
  a51 := Tryd.isAgg35
  z51 := Tryd.sizeOf35
  v51 := Tryd.zeroValue35
  t59 := Tryd.underlying37
  a59 := Tryd.isAgg37
  z59 := Tryd.sizeOf37
  v59 := Tryd.zeroValue37
  t146 := Tryd.underlying104
  a146 := Tryd.isAgg104
  z146 := Tryd.sizeOf104
  v146 := Tryd.zeroValue104
  g1 := by kernel_rfl
set_option maxRecDepth 100000 in
theorem lays221 : Lays.n221 Tryd.prog ren where
  mixed := by kernel_rfl
  f138 := by kernel_rfl
  f143 := by kernel_rfl
  f195 := by kernel_rfl
  f197 := by kernel_rfl
  f217 := by kernel_rfl
  f218 := by kernel_rfl
  f219 := by kernel_rfl
  f221 := by kernel_rfl
  f224 := by kernel_rfl
  f225 := by kernel_rfl
  f260 := by kernel_rfl
  f266 := by kernel_rfl
  f267 := by kernel_rfl
  f268 := by kernel_rfl
  f314 := by kernel_rfl
  t0 := Tryd.underlying0
  a0 := Tryd.isAgg0
  z0 := Tryd.sizeOf0
  v0 := Tryd.zeroValue0
  t3 := Tryd.underlying3
  a3 := Tryd.isAgg3
  z3 := Tryd.sizeOf3
  v3 := Tryd.zeroValue3
  t4 := Tryd.underlying4
  a4 := Tryd.isAgg4
  z4 := Tryd.sizeOf4
  v4 := Tryd.zeroValue4
  t5 := Tryd.underlying5
  a5 := Tryd.isAgg5
  z5 := Tryd.sizeOf5
  v5 := Tryd.zeroValue5
  t9 := Tryd.underlying9
  a9 := Tryd.isAgg9
  z9 := Tryd.sizeOf9
  v9 := Tryd.zeroValue9
  t21 := Tryd.underlying21
  a21 := Tryd.isAgg21
  z21 := Tryd.sizeOf21
  v21 := Tryd.zeroValue21
  t31 := Tryd.underlying39
  a31 := Tryd.isAgg39
  z31 := Tryd.sizeOf39
  v31 := Tryd.zeroValue39
  t46 := Tryd.underlying86
  a46 := Tryd.isAgg86
  z46 := Tryd.sizeOf86
  v46 := Tryd.zeroValue86
  t51 := Tryd.underlying35
  a51 := Tryd.isAgg35
  z51 := Tryd.sizeOf35
  v51 := Tryd.zeroValue35
  t105 := Tryd.underlying90
  a105 := Tryd.isAgg90
  z105 := Tryd.sizeOf90
  v105 := Tryd.zeroValue90
  t119 := Tryd.underlying117
  a119 := Tryd.isAgg117
  z119 := Tryd.sizeOf117
  t138 := Tryd.underlying119
  a138 := Tryd.isAgg119
  z138 := Tryd.sizeOf119
  v138 := Tryd.zeroValue119
  t139 := Tryd.underlying120
  a139 := Tryd.isAgg120
  z139 := Tryd.sizeOf120
  v139 := Tryd.zeroValue120
  t146 := Tryd.underlying104
  a146 := Tryd.isAgg104
  z146 := Tryd.sizeOf104
  v146 := Tryd.zeroValue104
  g1 := by kernel_rfl
  g3 := by kernel_rfl
  g4 := by kernel_rfl
set_option maxRecDepth 100000 in
theorem lays156 : Lays.n156 Tryd.prog ren where
  mixed := by kernel_rfl
  f156 := by kernel_rfl
  f165 := by kernel_rfl
  f166 := by kernel_rfl
  f169 := by kernel_rfl
  f240 := by kernel_rfl
  f241 := by kernel_rfl
  f276 := by kernel_rfl
  f277 := by kernel_rfl
  t0 := Tryd.underlying0
  a0 := Tryd.isAgg0
  z0 := Tryd.sizeOf0
  v0 := Tryd.zeroValue0
  t3 := Tryd.underlying3
  a3 := Tryd.isAgg3
  z3 := Tryd.sizeOf3
  v3 := Tryd.zeroValue3
  t4 := Tryd.underlying4
  a4 := Tryd.isAgg4
  z4 := Tryd.sizeOf4
  v4 := Tryd.zeroValue4
  t9 := Tryd.underlying9
  a9 := Tryd.isAgg9
  z9 := Tryd.sizeOf9
  v9 := Tryd.zeroValue9
  t20 := Tryd.underlying20
  a20 := Tryd.isAgg20
  z20 := Tryd.sizeOf20
  v20 := Tryd.zeroValue20
  t31 := Tryd.underlying39
  a31 := Tryd.isAgg39
  z31 := Tryd.sizeOf39
  v31 := Tryd.zeroValue39
  t37 := Tryd.underlying55
  a37 := Tryd.isAgg55
  z37 := Tryd.sizeOf55
  v37 := Tryd.zeroValue55
  t70 := Tryd.underlying54
  a70 := Tryd.isAgg54
  z70 := Tryd.sizeOf54
  v70 := Tryd.zeroValue54
  t72 := Tryd.underlying57
  a72 := Tryd.isAgg57
  z72 := Tryd.sizeOf57
  v72 := Tryd.zeroValue57
  t75 := Tryd.underlying59
  a75 := Tryd.isAgg59
  z75 := Tryd.sizeOf59
  v75 := Tryd.zeroValue59
  t76 := Tryd.underlying60
  a76 := Tryd.isAgg60
  z76 := Tryd.sizeOf60
  v76 := Tryd.zeroValue60
  t127 := Tryd.underlying78
  a127 := Tryd.isAgg78
  z127 := Tryd.sizeOf78
  v127 := Tryd.zeroValue78
  t164 := Tryd.underlying84
  a164 := Tryd.isAgg84
  z164 := Tryd.sizeOf84
  v164 := Tryd.zeroValue84
set_option maxRecDepth 100000 in
theorem lays101 : Lays.n101 Tryd.prog ren where
  mixed := by kernel_rfl
  f101 := by kernel_rfl
  f206 := by kernel_rfl
  f208 := by kernel_rfl
  t3 := Tryd.underlying3
  a3 := Tryd.isAgg3
  z3 := Tryd.sizeOf3
  v3 := Tryd.zeroValue3
  t4 := Tryd.underlying4
  a4 := Tryd.isAgg4
  z4 := Tryd.sizeOf4
  v4 := Tryd.zeroValue4
  t9 := Tryd.underlying9
  a9 := Tryd.isAgg9
  z9 := Tryd.sizeOf9
  v9 := Tryd.zeroValue9
set_option maxRecDepth 100000 in
theorem lays102 : Lays.n102 Tryd.prog ren where
  mixed := by kernel_rfl
  f102 := by kernel_rfl
  f207 := by kernel_rfl
  f209 := by kernel_rfl
  t3 := Tryd.underlying3
  a3 := Tryd.isAgg3
  z3 := Tryd.sizeOf3
  v3 := Tryd.zeroValue3
  t4 := Tryd.underlying4
  a4 := Tryd.isAgg4
  z4 := Tryd.sizeOf4
  v4 := Tryd.zeroValue4
  t9 := Tryd.underlying9
  a9 := Tryd.isAgg9
  z9 := Tryd.sizeOf9
  v9 := Tryd.zeroValue9
set_option maxRecDepth 100000 in
theorem lays169 : Lays.n169 Tryd.prog ren where
  mixed := by kernel_rfl
  f169 := by kernel_rfl
  t0 := Tryd.underlying0
  a0 := Tryd.isAgg0
  z0 := Tryd.sizeOf0
  v0 := Tryd.zeroValue0
  t3 := Tryd.underlying3
  a3 := Tryd.isAgg3
  z3 := Tryd.sizeOf3
  v3 := Tryd.zeroValue3
  t9 := Tryd.underlying9
  a9 := Tryd.isAgg9
  z9 := Tryd.sizeOf9
  v9 := Tryd.zeroValue9
  t37 := Tryd.underlying55
  a37 := Tryd.isAgg55
  z37 := Tryd.sizeOf55
  v37 := Tryd.zeroValue55
  t70 := Tryd.underlying54
  a70 := Tryd.isAgg54
  z70 := Tryd.sizeOf54
  v70 := Tryd.zeroValue54
  t72 := Tryd.underlying57
  a72 := Tryd.isAgg57
  z72 := Tryd.sizeOf57
  v72 := Tryd.zeroValue57
  t127 := Tryd.underlying78
  a127 := Tryd.isAgg78
  z127 := Tryd.sizeOf78
  v127 := Tryd.zeroValue78
set_option maxRecDepth 100000 in
theorem lays240 : Lays.n240 Tryd.prog ren where
  mixed := by kernel_rfl
  f240 := by kernel_rfl
  f276 := by kernel_rfl
  t0 := Tryd.underlying0
  a0 := Tryd.isAgg0
  z0 := Tryd.sizeOf0
  v0 := Tryd.zeroValue0
  t4 := Tryd.underlying4
  a4 := Tryd.isAgg4
  z4 := Tryd.sizeOf4
  v4 := Tryd.zeroValue4
  t9 := Tryd.underlying9
  a9 := Tryd.isAgg9
  z9 := Tryd.sizeOf9
  v9 := Tryd.zeroValue9
  t20 := Tryd.underlying20
  a20 := Tryd.isAgg20
  z20 := Tryd.sizeOf20
  v20 := Tryd.zeroValue20
  t70 := Tryd.underlying54
  a70 := Tryd.isAgg54
  z70 := Tryd.sizeOf54
  v70 := Tryd.zeroValue54
  t72 := Tryd.underlying57
  a72 := Tryd.isAgg57
  z72 := Tryd.sizeOf57
  v72 := Tryd.zeroValue57
  t164 := Tryd.underlying84
  a164 := Tryd.isAgg84
  z164 := Tryd.sizeOf84
  v164 := Tryd.zeroValue84

set_option maxRecDepth 100000 in
theorem extraB : Builder.Extra Tryd.prog ren where
  sizeBuilder := by kernel_rfl
  liesBuilder := by kernel_rfl
  t5 := Tryd.underlying5
  a5 := Tryd.isAgg5
  z5 := Tryd.sizeOf5
  v5 := Tryd.zeroValue5
  infoByte := by kernel_rfl
  cellsByte := by kernel_rfl
  sizeByte := by kernel_rfl
  neB5 := by decide
section
variable {g : World} {T0 : Nat → Prop} {w0 : World} {R : Assn}
theorem strings_TrimPrefix_sim {p0 p1 r : List UInt8} (hS : Sep g T0 w0 [R]) (hm : strings_TrimPrefix p0 p1 = some r) :
    Calls Tryd.prog 37 #[.string ⟨p0.toArray⟩, .string ⟨p1.toArray⟩] w0 (RetS T0 w0 fun T w v => v = .string ⟨r.toArray⟩ ∧ Sep g T w [R] ∧ True) := by
  cases hm
  refine (Any.strings_TrimPrefix lays101 ⟨p0.toArray⟩ ⟨p1.toArray⟩ w0).mono ?_
  rintro e w ⟨rfl, rfl⟩
  exact ⟨_, rfl, _, Im.refl, rfl, hS, trivial⟩
theorem strings_TrimSuffix_sim {p0 p1 r : List UInt8} (hS : Sep g T0 w0 [R]) (hm : strings_TrimSuffix p0 p1 = some r) :
    Calls Tryd.prog 39 #[.string ⟨p0.toArray⟩, .string ⟨p1.toArray⟩] w0 (RetS T0 w0 fun T w v => v = .string ⟨r.toArray⟩ ∧ Sep g T w [R] ∧ True) := by
  unfold strings_TrimSuffix at hm
  split at hm
  · rename_i hl
    cases hm
    refine (Any.strings_TrimSuffix lays102 ⟨p0.toArray⟩ ⟨p1.toArray⟩ w0 (by show p0.toArray.size ≤ _; simpa using hl)).mono ?_
    rintro e w ⟨rfl, rfl⟩
    exact ⟨_, rfl, _, Im.refl, rfl, hS, trivial⟩
  · cases hm
theorem strings_Cut_sim {p0 p1 : List UInt8} {r : List UInt8 × List UInt8 × Bool} (hS : Sep g T0 w0 [R]) (hG : Gi T0 w0 0) (hm : strings_Cut p0 p1 = some r) :
    Calls Tryd.prog 10 #[.string ⟨p0.toArray⟩, .string ⟨p1.toArray⟩] w0 (RetS T0 w0 fun T w v => v = .tuple #[.string ⟨r.1.toArray⟩, .string ⟨r.2.1.toArray⟩, .bool r.2.2] ∧ Sep g T w [R] ∧ True) := by
  unfold strings_Cut at hm
  split at hm
  · rename_i hl
    cases hm
    obtain ⟨_, m, hc⟩ := hG
    refine (Any.strings_Cut lays145 ⟨p0.toArray⟩ ⟨p1.toArray⟩ m w0 (by show p0.toArray.size < 4294967281; simpa using hl) hc).mono ?_
    rintro e w ⟨rfl, n, rfl⟩
    have hB := hS.below (below_drewN (Below.refl _ _) n)
    exact ⟨_, rfl, _, hB.1, rfl, hB.2, trivial⟩
  · cases hm
theorem strings_genSplit_sim {p0 p1 : List UInt8} {p2 p3 : Int} {r : List (List UInt8)} (hS : Sep g T0 w0 [R]) (hG : Gi T0 w0 0) (hm : strings_genSplit p0 p1 p2 p3 = some r) :
    Calls Tryd.prog 35 #[.string ⟨p0.toArray⟩, .string ⟨p1.toArray⟩, .int .i64 p2, .int .i64 p3] w0 (RetS T0 w0 fun T w v => ∃ (a : Option Addr) (c : Nat), v = .slice a (List.length r) c ∧ Sep g T w [R] ∧ SlR rStr T w (.slice a (List.length r) c) r ∧ True) := by
  unfold strings_genSplit at hm
  split at hm
  · rename_i hl
    obtain ⟨hl, h1, h2, h3, rfl⟩ := hl
    cases hm
    obtain ⟨_, m, hc⟩ := hG
    obtain ⟨sv, rfl⟩ : ∃ n : Nat, p2 = n := ⟨p2.toNat, by omega⟩
    have hs1 : (⟨p1.toArray⟩ : ByteArray).size = p1.length := by simp [ByteArray.size]
    have hs0 : (⟨p0.toArray⟩ : ByteArray).size = p0.length := by simp [ByteArray.size]
    have hle := Lib.countB_le ⟨p1.toArray⟩ (by omega) _ ⟨p0.toArray⟩ (Nat.le_refl _)
    have hlen := Lib.splitB_all ⟨p1.toArray⟩ (by omega) sv _ ⟨p0.toArray⟩ rfl
    have key := Any.strings_genSplit lays221 (by kernel_rfl) ⟨p0.toArray⟩ ⟨p1.toArray⟩ sv (-1) (Lib.countB ⟨p0.toArray⟩ ⟨p1.toArray⟩ + 1) m w0 (by omega) hc (by omega) (by omega) (by decide) (by decide) (by rw [if_pos (by decide)]; omega)
    rw [Nat.add_sub_cancel, hlen] at key
    have e2 : Lib.cellsOf (Lib.splitB ⟨p1.toArray⟩ sv (Lib.countB ⟨p0.toArray⟩ ⟨p1.toArray⟩) ⟨p0.toArray⟩) (Lib.countB ⟨p0.toArray⟩ ⟨p1.toArray⟩ + 1) = ((Lib.splitB ⟨p1.toArray⟩ sv (Lib.countB ⟨p0.toArray⟩ ⟨p1.toArray⟩) ⟨p0.toArray⟩).map Value.string).toArray := by rw [← hlen]; exact Lib.cellsOf_full _
    rw [e2] at key
    refine key.mono ?_
    rintro e w ⟨rfl, rfl⟩
    have hF := hS.fresh (.cells ((Lib.splitB ⟨p1.toArray⟩ sv (Lib.countB ⟨p0.toArray⟩ ⟨p1.toArray⟩) ⟨p0.toArray⟩).map Value.string).toArray (ren.t 9))
    have hd : (Lib.splitB ⟨p1.toArray⟩ sv (Lib.countB ⟨p0.toArray⟩ ⟨p1.toArray⟩) ⟨p0.toArray⟩).map (·.data.toList) = Lib.splitK p1 sv (Lib.count p0 p1) p0 := by
      have := Lib.splitB_data ⟨p1.toArray⟩ sv (Lib.countB ⟨p0.toArray⟩ ⟨p1.toArray⟩) ⟨p0.toArray⟩
      simpa using this
    have hll : (Lib.splitK p1 (sv : Int).toNat (Lib.count p0 p1) p0).length = Lib.countB ⟨p0.toArray⟩ ⟨p1.toArray⟩ + 1 := by
      rw [show (sv : Int).toNat = sv from rfl, ← hd, List.length_map, hlen]
    have hcl : Lib.countB ⟨p0.toArray⟩ ⟨p1.toArray⟩ + 1 ≤ maxLen := by unfold maxLen; omega
    refine ⟨_, rfl, _, hF.1, some ⟨w0.heap.size, 0, none⟩, Lib.countB ⟨p0.toArray⟩ ⟨p1.toArray⟩ + 1, ?_, hF.2, ?_, trivial⟩
    · rw [hll]
    · refine ⟨_, _, rfl, by omega, hcl, .inr ⟨_, 0, rfl, .inr rfl, fun i x hx => ⟨_, rfl, ?_⟩⟩⟩
      rw [show (sv : Int).toNat = sv from rfl, ← hd, List.getElem?_map] at hx
      intro j v hj
      cases j with
      | succ j => cases hj
      | zero =>
        cases hj
        cases hb : (Lib.splitB ⟨p1.toArray⟩ sv (Lib.countB ⟨p0.toArray⟩ ⟨p1.toArray⟩) ⟨p0.toArray⟩)[i]? with
        | none => rw [hb] at hx; cases hx
        | some b =>
          rw [hb] at hx
          cases hx
          have hcell : (w0.alloc (.cells ((Lib.splitB ⟨p1.toArray⟩ sv (Lib.countB ⟨p0.toArray⟩ ⟨p1.toArray⟩) ⟨p0.toArray⟩).map Value.string).toArray (ren.t 9))).cell? ⟨w0.heap.size, i, none⟩ = some (.string b) := by
            rw [World.cell?_alloc_new]
            simp [hb]
          show World.cell? _ ⟨w0.heap.size, 0 + i * 1 + 0, none⟩ = _
          rw [show 0 + i * 1 + 0 = i by omega, hcell]
  · cases hm
theorem strings_Join_sim {p0 : List (List UInt8)} {a1 : Option Addr} {c1 : Nat} {p1 r : List UInt8} (hS : Sep g T0 w0 [R]) (h1 : SlR rStr T0 w0 (.slice a1 (List.length p0) c1) p0) (hm : strings_Join p0 p1 = some r) :
    Calls Tryd.prog 41 #[.slice a1 (List.length p0) c1, .string ⟨p1.toArray⟩] w0 (RetS T0 w0 fun T w v => v = .string ⟨r.toArray⟩ ∧ Sep g T w [R] ∧ True) := by
  unfold strings_Join at hm
  split at hm
  · rename_i hl
    cases hm
    obtain ⟨a, cap, e, hlc, hcm, hx⟩ := h1
    cases e
    have hd : p0 = (p0.map fun x => (⟨x.toArray⟩ : ByteArray)).map (·.data.toList) := by rw [List.map_map]; exact (List.map_id p0).symm
    rcases hx with rfl | ⟨b, off, rfl, hT, hcells⟩
    · refine (Any.strings_Join_none lays156 extraB a1 c1 ⟨p1.toArray⟩ w0).mono ?_
      rintro e w ⟨rfl, rfl⟩
      exact ⟨_, rfl, _, Im.refl, rfl, hS, trivial⟩
    · have hlen : (p0.map fun x => (⟨x.toArray⟩ : ByteArray)).length = p0.length := by simp
      have key := Any.strings_Join lays156 extraB b off c1 (p0.map fun x => (⟨x.toArray⟩ : ByteArray)) ⟨p1.toArray⟩ w0 (fun j x hj => by
          rw [List.getElem?_map] at hj
          cases hp : p0[j]? with
          | none => rw [hp] at hj; cases hj
          | some y =>
            rw [hp] at hj
            cases hj
            obtain ⟨cs, hr, hc⟩ := hcells j y hp
            have hr' : cs = [.string ⟨y.toArray⟩] := hr
            subst hr'
            have := hc 0 _ rfl
            rw [Nat.add_zero, show rStr.sz = 1 from rfl, Nat.mul_one] at this
            exact this) (hS.lt b hT) (by rw [hlen]; omega) (by rw [hlen]; exact hlc) (by rw [← hd]; show (Go.Lib.join p0 p1.toArray.toList).length ≤ _; have := hl.2; simp only [List.toList_toArray] at this ⊢; omega)
      rw [hlen] at key
      refine key.mono ?_
      rintro e w ⟨rfl, hB⟩
      have hj : Go.Lib.join ((p0.map fun x => (⟨x.toArray⟩ : ByteArray)).map (·.data.toList)) (⟨p1.toArray⟩ : ByteArray).data.toList = Go.Lib.join p0 p1 := by rw [← hd]
      have hK := hS.below hB
      exact ⟨_, rfl, _, hK.1, by rw [hj], hK.2, trivial⟩
  · cases hm
theorem strconv_Itoa_sim {p0 : Int} {r : List UInt8} (hS : Sep g T0 w0 [R]) (hG : Gc T0 w0 3 (Lib.pow10Tab.map fun z => Value.int .u64 z)) (hm : strconv_Itoa p0 = some r) :
    Calls Tryd.prog 26 #[.int .i64 p0] w0 (RetS T0 w0 fun T w v => v = .string ⟨r.toArray⟩ ∧ Sep g T w [R] ∧ True) := by
  unfold strconv_Itoa at hm
  split at hm
  · rename_i hl
    cases hm
    refine (Any.strconv_Itoa laysM171 p0 hl.1 hl.2 w0 (hG.var laysM171.m17)).mono ?_
    rintro e w ⟨rfl, k, os, rfl⟩
    have hK := hS.below (Lib.below_grow _ _ (Nat.le_refl _) k os)
    exact ⟨_, rfl, _, hK.1, rfl, hK.2, trivial⟩
  · cases hm
theorem strconv_Atoi_sim {p0 : List UInt8} {r : Int × Bool} (hS : Sep g T0 w0 [R]) (hG1 : Ge T0 w0 1) (hG2 : Ge T0 w0 2) (hm : strconv_Atoi p0 = some r) :
    Calls Tryd.prog 38 #[.string ⟨p0.toArray⟩] w0 (RetS T0 w0 fun T w v => ∃ (ev : Value), v = .tuple #[.int .i64 r.1, ev] ∧ Sep g T w [R] ∧ ErrV ev r.2 ∧ True) := by
  unfold strconv_Atoi at hm
  split at hm
  · rename_i hl
    have hs0 : (⟨p0.toArray⟩ : ByteArray).size = p0.length := by simp [ByteArray.size]
    obtain ⟨_, e1, hv1, he1⟩ := hG1
    obtain ⟨_, e2, hv2, he2⟩ := hG2
    rcases ha : Lib.atoiAll p0 with n | _ | _
    · rw [ha] at hm
      cases hm
      refine (Any.strconv_Atoi_ok laysC172 ⟨p0.toArray⟩ (by omega) n ha w0).mono ?_
      rintro e w ⟨rfl, hw⟩
      have hK : Im T0 w0 T0 w ∧ Sep g T0 w [R] := by
        rcases hw with rfl | ⟨t, rfl⟩
        · exact ⟨Im.refl, hS⟩
        · exact hS.below (Lib.bytesWorld_below _ _ _)
      exact ⟨_, rfl, _, hK.1, _, rfl, hK.2, .inl ⟨rfl, rfl⟩, trivial⟩
    · rw [ha] at hm
      cases hm
      refine (Any.strconv_Atoi_syntax laysC172 ⟨p0.toArray⟩ (by omega) ha e1 w0 hv1 he1).mono ?_
      rintro e w ⟨N, rfl, _, _, hB⟩
      have hK := hS.below hB
      exact ⟨_, rfl, _, hK.1, _, rfl, hK.2, .inr ⟨rfl, _, _, rfl⟩, trivial⟩
    · rw [ha] at hm
      cases hm
      refine (Any.strconv_Atoi_range laysC172 ⟨p0.toArray⟩ (by omega) ha e2 w0 hv2 he2).mono ?_
      rintro e w ⟨N, rfl, _, _, hB⟩
      have hK := hS.below hB
      exact ⟨_, rfl, _, hK.1, _, rfl, hK.2, .inr ⟨rfl, _, _, rfl⟩, trivial⟩
  · cases hm
end
end Go.Proofs.YtcmncppbonaaeaaDoor
