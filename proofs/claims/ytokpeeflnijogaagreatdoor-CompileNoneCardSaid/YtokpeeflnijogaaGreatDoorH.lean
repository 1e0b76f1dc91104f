/- The page's example of layer 29, run by the evaluator; strings.Index. -/
import Derived.Test.YtokpeeflnijogaaGreatDoorRows
import Derived.Test.YtokpeeflnijogaaGreatDoorAwk
import Derived.Test.YtokpeeflnijogaaGreatDoorAmd
import Derived.Test.YtokpeeflnijogaaGreatDoorArr
import Derived.Test.YtokpeeflnijogaaGreatDoorStr
import Derived.Test.YtokpeeflnijogaaGreatDoorM
import Derived.Shelf.Strings.Search3
set_option linter.unusedVariables false
namespace Go.Proofs.YtokpeeflnijogaaGreatDoor
open Go.Shelf
def ren : Go.Shelf.Ren := ⟨fun x => match x with | 129 => 410 | 143 => 22 | 169 => 99 | 217 => 100 | 219 => 58 | 224 => 102 | 225 => 101 | 240 => 169 | 243 => 170 | 246 => 291 | 266 => 171 | 267 => 103 | 276 => 290 | 283 => 392 | 284 => 393 | 285 => 394 | 286 => 395 | 314 => 172 | 317 => 469 | 318 => 470 | 319 => 471 | 320 => 472 | 337 => 531 | 338 => 532 | x => x, fun x => match x with | 0 => 0 | 2 => 2 | 3 => 3 | 4 => 4 | 5 => 5 | 9 => 9 | 20 => 20 | 37 => 37 | 46 => 231 | 51 => 56 | 53 => 148 | 70 => 220 | 72 => 222 | 127 => 310 | 146 => 311 | 164 => 409 | 171 => 497 | 173 => 500 | 212 => 560 | 213 => 561 | 232 => 614 | 233 => 615 | x => x, fun x => match x with | 1 => 0 | 17 => 1 | 18 => 2 | 19 => 3 | x => x⟩
set_option maxRecDepth 100000 in
theorem lays143 : Lays.n143 Tryz.prog ren where
  mixed := by kernel_rfl
  f143 := by kernel_rfl
  f217 := by kernel_rfl
  f219 := by kernel_rfl
  f224 := by kernel_rfl
  f225 := by kernel_rfl
  f266 := by kernel_rfl
  f267 := by kernel_rfl
  f314 := by kernel_rfl
  t3 := Tryz.underlying3
  a3 := Tryz.isAgg3
  z3 := Tryz.sizeOf3
  v3 := Tryz.zeroValue3
  t4 := Tryz.underlying4
  a4 := Tryz.isAgg4
  z4 := Tryz.sizeOf4
  v4 := Tryz.zeroValue4
  t5 := Tryz.underlying5
  a5 := Tryz.isAgg5
  z5 := Tryz.sizeOf5
  v5 := Tryz.zeroValue5
  t9 := Tryz.underlying9
  a9 := Tryz.isAgg9
  z9 := Tryz.sizeOf9
  v9 := Tryz.zeroValue9
  t46 := Tryz.underlying231
  a46 := Tryz.isAgg231
  z46 := Tryz.sizeOf231
  v46 := Tryz.zeroValue231
  t51 := Tryz.underlying56
  a51 := Tryz.isAgg56
  z51 := Tryz.sizeOf56
  v51 := Tryz.zeroValue56
  t146 := Tryz.underlying311
  a146 := Tryz.isAgg311
  z146 := Tryz.sizeOf311
  v146 := Tryz.zeroValue311
  g1 := by kernel_rfl
set_option maxRecDepth 100000 in
theorem lays169 : Lays.n169 Tryz.prog ren where
  mixed := by kernel_rfl
  f169 := by kernel_rfl
  t0 := Tryz.underlying0
  a0 := Tryz.isAgg0
  z0 := Tryz.sizeOf0
  v0 := Tryz.zeroValue0
  t3 := Tryz.underlying3
  a3 := Tryz.isAgg3
  z3 := Tryz.sizeOf3
  v3 := Tryz.zeroValue3
  t9 := Tryz.underlying9
  a9 := Tryz.isAgg9
  z9 := Tryz.sizeOf9
  v9 := Tryz.zeroValue9
  t37 := Tryz.underlying37
  a37 := Tryz.isAgg37
  z37 := Tryz.sizeOf37
  v37 := Tryz.zeroValue37
  t70 := Tryz.underlying220
  a70 := Tryz.isAgg220
  z70 := Tryz.sizeOf220
  v70 := Tryz.zeroValue220
  t72 := Tryz.underlying222
  a72 := Tryz.isAgg222
  z72 := Tryz.sizeOf222
  v72 := Tryz.zeroValue222
  t127 := Tryz.underlying310
  a127 := Tryz.isAgg310
  z127 := Tryz.sizeOf310
  v127 := Tryz.zeroValue310
set_option maxRecDepth 100000 in
theorem lays240 : Lays.n240 Tryz.prog ren where
  mixed := by kernel_rfl
  f240 := by kernel_rfl
  f276 := by kernel_rfl
  t0 := Tryz.underlying0
  a0 := Tryz.isAgg0
  z0 := Tryz.sizeOf0
  v0 := Tryz.zeroValue0
  t4 := Tryz.underlying4
  a4 := Tryz.isAgg4
  z4 := Tryz.sizeOf4
  v4 := Tryz.zeroValue4
  t9 := Tryz.underlying9
  a9 := Tryz.isAgg9
  z9 := Tryz.sizeOf9
  v9 := Tryz.zeroValue9
  t20 := Tryz.underlying20
  a20 := Tryz.isAgg20
  z20 := Tryz.sizeOf20
  v20 := Tryz.zeroValue20
  t70 := Tryz.underlying220
  a70 := Tryz.isAgg220
  z70 := Tryz.sizeOf220
  v70 := Tryz.zeroValue220
  t72 := Tryz.underlying222
  a72 := Tryz.isAgg222
  z72 := Tryz.sizeOf222
  v72 := Tryz.zeroValue222
  t164 := Tryz.underlying409
  a164 := Tryz.isAgg409
  z164 := Tryz.sizeOf409
  v164 := Tryz.zeroValue409
set_option maxRecDepth 100000 in
theorem laysM243 : LaysM.n243 Tryz.prog ren where
  mixed := by kernel_rfl
  f129 := by kernel_rfl
  f243 := by kernel_rfl
  f246 := by kernel_rfl
  f283 := by kernel_rfl
  f284 := by kernel_rfl
  f285 := by kernel_rfl
  f286 := by kernel_rfl
  f317 := by kernel_rfl
  f318 := by kernel_rfl
  f319 := by kernel_rfl
  f320 := by kernel_rfl
  f337 := by kernel_rfl
  f338 := by kernel_rfl
  t0 := Tryz.underlying0
  a0 := Tryz.isAgg0
  z0 := Tryz.sizeOf0
  v0 := Tryz.zeroValue0
  t2 := Tryz.underlying2
  a2 := Tryz.isAgg2
  z2 := Tryz.sizeOf2
  v2 := Tryz.zeroValue2
  t3 := Tryz.underlying3
  a3 := Tryz.isAgg3
  z3 := Tryz.sizeOf3
  v3 := Tryz.zeroValue3
  t4 := Tryz.underlying4
  a4 := Tryz.isAgg4
  z4 := Tryz.sizeOf4
  v4 := Tryz.zeroValue4
  t5 := Tryz.underlying5
  a5 := Tryz.isAgg5
  z5 := Tryz.sizeOf5
  v5 := Tryz.zeroValue5
  t9 := Tryz.underlying9
  a9 := Tryz.isAgg9
  z9 := Tryz.sizeOf9
  v9 := Tryz.zeroValue9
  t20 := Tryz.underlying20
  a20 := Tryz.isAgg20
  z20 := Tryz.sizeOf20
  v20 := Tryz.zeroValue20
  t37 := Tryz.underlying37
  a37 := Tryz.isAgg37
  z37 := Tryz.sizeOf37
  v37 := Tryz.zeroValue37
  t46 := Tryz.underlying231
  a46 := Tryz.isAgg231
  z46 := Tryz.sizeOf231
  v46 := Tryz.zeroValue231
  t51 := Tryz.underlying56
  a51 := Tryz.isAgg56
  z51 := Tryz.sizeOf56
  v51 := Tryz.zeroValue56
  t53 := Tryz.underlying148
  a53 := Tryz.isAgg148
  z53 := Tryz.sizeOf148
  v53 := Tryz.zeroValue148
  t171 := Tryz.underlying497
  a171 := Tryz.isAgg497
  z171 := Tryz.sizeOf497
  v171 := Tryz.zeroValue497
  t173 := Tryz.underlying500
  a173 := Tryz.isAgg500
  z173 := Tryz.sizeOf500
  v173 := Tryz.zeroValue500
  t212 := Tryz.underlying560
  a212 := Tryz.isAgg560
  z212 := Tryz.sizeOf560
  v212 := Tryz.zeroValue560
  t213 := Tryz.underlying561
  a213 := Tryz.isAgg561
  z213 := Tryz.sizeOf561
  t232 := Tryz.underlying614
  a232 := Tryz.isAgg614
  z232 := Tryz.sizeOf614
  v232 := Tryz.zeroValue614
  t233 := Tryz.underlying615
  a233 := Tryz.isAgg615
  z233 := Tryz.sizeOf615
  v233 := Tryz.zeroValue615
  g17 := by kernel_rfl
  g18 := by kernel_rfl
  g19 := by kernel_rfl
  i0 := by kernel_rfl
  i2 := by kernel_rfl
  i3 := by kernel_rfl
  i4 := by kernel_rfl
  i5 := by kernel_rfl
  i9 := by kernel_rfl
  i20 := by kernel_rfl
  i37 := by kernel_rfl
  i46 := by kernel_rfl
  i51 := by kernel_rfl
  i53 := by kernel_rfl
  i171 := by kernel_rfl
  i173 := by kernel_rfl
  i212 := by kernel_rfl
  i232 := by kernel_rfl
  i233 := by kernel_rfl
  m17 := by kernel_rfl
  m18 := by kernel_rfl
  m19 := by kernel_rfl

set_option maxRecDepth 100000 in
theorem extraB : Builder.Extra Tryz.prog ren where
  sizeBuilder := by kernel_rfl
  liesBuilder := by kernel_rfl
  t5 := Tryz.underlying5
  a5 := Tryz.isAgg5
  z5 := Tryz.sizeOf5
  v5 := Tryz.zeroValue5
  infoByte := by kernel_rfl
  cellsByte := by kernel_rfl
  sizeByte := by kernel_rfl
  neB5 := by decide
theorem strings_Index_sim {g : World} {T0 : Nat → Prop} {w0 : World} {R : Assn} {p0 p1 : List UInt8} {r : Int} (hS : Sep g T0 w0 [R]) (hG : Gi T0 w0 0) (hm : strings_Index p0 p1 = some r) :
    Calls Tryz.prog 22 #[.string ⟨p0.toArray⟩, .string ⟨p1.toArray⟩] w0 (RetS T0 w0 fun T w v => v = .int .i64 r ∧ Sep g T w [R] ∧ True) := by
  unfold strings_Index at hm
  split at hm
  · rename_i hl
    cases hm
    obtain ⟨_, m, hc⟩ := hG
    refine (Any.strings_Index lays143 ⟨p0.toArray⟩ ⟨p1.toArray⟩ m w0 (by show p0.toArray.size < 4294967281; simpa using hl) hc).mono ?_
    rintro e w ⟨rfl, rfl⟩
    exact ⟨_, rfl, _, Im.refl, rfl, hS, trivial⟩
  · cases hm
def awL : List Nat := [5, 6, 9, 10, 11, 12, 17, 18, 19, 20, 21, 23, 24, 25, 26, 27, 28, 29, 31, 48, 49, 50, 51, 52, 53, 54, 55, 56, 57, 59, 74, 75, 76, 77, 79, 80, 81, 82, 83, 84, 85, 86, 87, 88, 89, 90, 92, 93, 94, 95, 96, 97, 98, 99, 126, 127, 128, 129, 130, 132, 134, 135, 141, 144, 145, 148, 149, 150, 151, 153, 154, 155, 156, 157, 158, 159, 163, 164, 165, 166, 167, 168, 169, 170, 235, 237, 239, 240, 241, 246, 247, 253, 254, 259, 260, 261, 262, 268, 269, 270, 271, 272, 275, 276, 278, 279, 280, 281, 282, 283, 284, 285, 286, 287, 288, 293, 294, 295, 307, 313, 323, 324, 325, 326, 327, 331, 333, 335, 336, 338, 339, 340, 341, 342, 343, 346, 347, 357, 358, 362, 368, 369, 371, 377, 378, 379, 381, 382, 383, 385, 386, 387, 388, 389, 390, 391, 396, 397, 398, 399, 400, 424, 428, 430, 431, 436, 450, 451, 455, 456, 457, 460, 462, 463, 464, 465, 466, 468, 473, 474, 475, 506, 507, 510, 516, 518, 524, 525, 526, 528, 533, 545, 547, 548, 553]
set_option maxRecDepth 1000000 in
theorem awS : AMX.allS Tryz.prog awL = true := by kernel_rfl
noncomputable def awPm : List AMX.Pm := [⟨169, AMX.cckF 222⟩, ⟨99, AMX.strF 222 5⟩, ⟨170, AMX.itoaF⟩]
theorem awPm_ok : AMX.PmOk (AMX.Pow10 Tryz.prog) Tryz.prog awPm := AMX.bldPm_ok lays240 lays169 laysM243 extraB
set_option maxRecDepth 1000000 in
theorem awRun : AMX.isTrue ((AMX.callT Tryz.prog (AMX.maskL awL) awPm [] 200).run 5 [] ⟨0, .nil⟩) = true := by kernel_rfl
theorem law29_awake_sim {g : World} {T0 : Nat → Prop} {w0 : World} {R : Assn} {r : Bool} (hS : Sep g T0 w0 [R]) (hG : Gc T0 w0 1 (Lib.pow10Tab.map fun z => Value.int .u64 z)) (hm : law29_awake = some r) :
    Calls Tryz.prog 5 #[] w0 (RetS T0 w0 fun T w v => v = .bool r ∧ Sep g T w [R] ∧ True) := by
  cases hm
  obtain ⟨h', hc⟩ := awake_true awS (by kernel_rfl) awPm_ok AMX.tb_nil awRun
  exact awake_tab (by kernel_rfl) hc hS hG
end Go.Proofs.YtokpeeflnijogaaGreatDoor
