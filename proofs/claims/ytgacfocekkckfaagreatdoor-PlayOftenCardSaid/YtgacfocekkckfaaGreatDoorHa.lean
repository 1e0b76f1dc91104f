/- Layer 31, the page's example: what the evaluator takes as known (an instruction's shape, its decoding: by their walks), and the compiler's run. -/
import Derived.Test.YtgacfocekkckfaaGreatDoorRow
import Derived.Test.YtgacfocekkckfaaGreatDoorAwk
import Derived.Test.YtgacfocekkckfaaGreatDoorAmd
import Derived.Test.YtgacfocekkckfaaGreatDoorWa
set_option linter.unusedVariables false
namespace Go.Proofs.YtgacfocekkckfaaGreatDoor
open Go.Shelf
def ren : Go.Shelf.Ren := ⟨fun x => match x with | 129 => 504 | 143 => 182 | 169 => 151 | 217 => 413 | 219 => 314 | 224 => 415 | 225 => 414 | 240 => 235 | 243 => 236 | 246 => 373 | 266 => 528 | 267 => 416 | 276 => 372 | 283 => 486 | 284 => 487 | 285 => 488 | 286 => 489 | 314 => 529 | 317 => 569 | 318 => 570 | 319 => 571 | 320 => 572 | 337 => 623 | 338 => 624 | x => x, fun x => match x with | 0 => 0 | 2 => 2 | 3 => 3 | 4 => 4 | 5 => 5 | 9 => 9 | 20 => 20 | 37 => 23 | 46 => 290 | 51 => 30 | 53 => 414 | 70 => 263 | 72 => 265 | 127 => 366 | 146 => 307 | 164 => 470 | 171 => 557 | 173 => 560 | 212 => 620 | 213 => 621 | 232 => 670 | 233 => 671 | x => x, fun x => match x with | 1 => 0 | 17 => 1 | 18 => 2 | 19 => 3 | x => x⟩
set_option maxRecDepth 100000 in
theorem lays143 : Lays.n143 Tryz.prog ren where
  mixed := by kernel_rfl
  f143 := by kernel_rfl
  f217 := by kernel_rfl
  f219 := by kernel_rfl
  f224 := by kernel_rfl
  f225 := by kernel_rfl
  f266 := by kernel_rfl
  f267 := by kernel_rfl
  f314 := by kernel_rfl
  t3 := Tryz.underlying3
  a3 := Tryz.isAgg3
  z3 := Tryz.sizeOf3
  v3 := Tryz.zeroValue3
  t4 := Tryz.underlying4
  a4 := Tryz.isAgg4
  z4 := Tryz.sizeOf4
  v4 := Tryz.zeroValue4
  t5 := Tryz.underlying5
  a5 := Tryz.isAgg5
  z5 := Tryz.sizeOf5
  v5 := Tryz.zeroValue5
  t9 := Tryz.underlying9
  a9 := Tryz.isAgg9
  z9 := Tryz.sizeOf9
  v9 := Tryz.zeroValue9
  t46 := Tryz.underlying290
  a46 := Tryz.isAgg290
  z46 := Tryz.sizeOf290
  v46 := Tryz.zeroValue290
  t51 := Tryz.underlying30
  a51 := Tryz.isAgg30
  z51 := Tryz.sizeOf30
  v51 := Tryz.zeroValue30
  t146 := Tryz.underlying307
  a146 := Tryz.isAgg307
  z146 := Tryz.sizeOf307
  v146 := Tryz.zeroValue307
  g1 := by kernel_rfl
set_option maxRecDepth 100000 in
theorem lays169 : Lays.n169 Tryz.prog ren where
  mixed := by kernel_rfl
  f169 := by kernel_rfl
  t0 := Tryz.underlying0
  a0 := Tryz.isAgg0
  z0 := Tryz.sizeOf0
  v0 := Tryz.zeroValue0
  t3 := Tryz.underlying3
  a3 := Tryz.isAgg3
  z3 := Tryz.sizeOf3
  v3 := Tryz.zeroValue3
  t9 := Tryz.underlying9
  a9 := Tryz.isAgg9
  z9 := Tryz.sizeOf9
  v9 := Tryz.zeroValue9
  t37 := Tryz.underlying23
  a37 := Tryz.isAgg23
  z37 := Tryz.sizeOf23
  v37 := Tryz.zeroValue23
  t70 := Tryz.underlying263
  a70 := Tryz.isAgg263
  z70 := Tryz.sizeOf263
  v70 := Tryz.zeroValue263
  t72 := Tryz.underlying265
  a72 := Tryz.isAgg265
  z72 := Tryz.sizeOf265
  v72 := Tryz.zeroValue265
  t127 := Tryz.underlying366
  a127 := Tryz.isAgg366
  z127 := Tryz.sizeOf366
  v127 := Tryz.zeroValue366
set_option maxRecDepth 100000 in
theorem lays240 : Lays.n240 Tryz.prog ren where
  mixed := by kernel_rfl
  f240 := by kernel_rfl
  f276 := by kernel_rfl
  t0 := Tryz.underlying0
  a0 := Tryz.isAgg0
  z0 := Tryz.sizeOf0
  v0 := Tryz.zeroValue0
  t4 := Tryz.underlying4
  a4 := Tryz.isAgg4
  z4 := Tryz.sizeOf4
  v4 := Tryz.zeroValue4
  t9 := Tryz.underlying9
  a9 := Tryz.isAgg9
  z9 := Tryz.sizeOf9
  v9 := Tryz.zeroValue9
  t20 := Tryz.underlying20
  a20 := Tryz.isAgg20
  z20 := Tryz.sizeOf20
  v20 := Tryz.zeroValue20
  t70 := Tryz.underlying263
  a70 := Tryz.isAgg263
  z70 := Tryz.sizeOf263
  v70 := Tryz.zeroValue263
  t72 := Tryz.underlying265
  a72 := Tryz.isAgg265
  z72 := Tryz.sizeOf265
  v72 := Tryz.zeroValue265
  t164 := Tryz.underlying470
  a164 := Tryz.isAgg470
  z164 := Tryz.sizeOf470
  v164 := Tryz.zeroValue470
set_option maxRecDepth 100000 in
theorem laysM243 : LaysM.n243 Tryz.prog ren where
  mixed := by kernel_rfl
  f129 := by kernel_rfl
  f243 := by kernel_rfl
  f246 := by kernel_rfl
  f283 := by kernel_rfl
  f284 := by kernel_rfl
  f285 := by kernel_rfl
  f286 := by kernel_rfl
  f317 := by kernel_rfl
  f318 := by kernel_rfl
  f319 := by kernel_rfl
  f320 := by kernel_rfl
  f337 := by kernel_rfl
  f338 := by kernel_rfl
  t0 := Tryz.underlying0
  a0 := Tryz.isAgg0
  z0 := Tryz.sizeOf0
  v0 := Tryz.zeroValue0
  t2 := Tryz.underlying2
  a2 := Tryz.isAgg2
  z2 := Tryz.sizeOf2
  v2 := Tryz.zeroValue2
  t3 := Tryz.underlying3
  a3 := Tryz.isAgg3
  z3 := Tryz.sizeOf3
  v3 := Tryz.zeroValue3
  t4 := Tryz.underlying4
  a4 := Tryz.isAgg4
  z4 := Tryz.sizeOf4
  v4 := Tryz.zeroValue4
  t5 := Tryz.underlying5
  a5 := Tryz.isAgg5
  z5 := Tryz.sizeOf5
  v5 := Tryz.zeroValue5
  t9 := Tryz.underlying9
  a9 := Tryz.isAgg9
  z9 := Tryz.sizeOf9
  v9 := Tryz.zeroValue9
  t20 := Tryz.underlying20
  a20 := Tryz.isAgg20
  z20 := Tryz.sizeOf20
  v20 := Tryz.zeroValue20
  t37 := Tryz.underlying23
  a37 := Tryz.isAgg23
  z37 := Tryz.sizeOf23
  v37 := Tryz.zeroValue23
  t46 := Tryz.underlying290
  a46 := Tryz.isAgg290
  z46 := Tryz.sizeOf290
  v46 := Tryz.zeroValue290
  t51 := Tryz.underlying30
  a51 := Tryz.isAgg30
  z51 := Tryz.sizeOf30
  v51 := Tryz.zeroValue30
  t53 := Tryz.underlying414
  a53 := Tryz.isAgg414
  z53 := Tryz.sizeOf414
  v53 := Tryz.zeroValue414
  t171 := Tryz.underlying557
  a171 := Tryz.isAgg557
  z171 := Tryz.sizeOf557
  v171 := Tryz.zeroValue557
  t173 := Tryz.underlying560
  a173 := Tryz.isAgg560
  z173 := Tryz.sizeOf560
  v173 := Tryz.zeroValue560
  t212 := Tryz.underlying620
  a212 := Tryz.isAgg620
  z212 := Tryz.sizeOf620
  v212 := Tryz.zeroValue620
  t213 := Tryz.underlying621
  a213 := Tryz.isAgg621
  z213 := Tryz.sizeOf621
  t232 := Tryz.underlying670
  a232 := Tryz.isAgg670
  z232 := Tryz.sizeOf670
  v232 := Tryz.zeroValue670
  t233 := Tryz.underlying671
  a233 := Tryz.isAgg671
  z233 := Tryz.sizeOf671
  v233 := Tryz.zeroValue671
  g17 := by kernel_rfl
  g18 := by kernel_rfl
  g19 := by kernel_rfl
  i0 := by kernel_rfl
  i2 := by kernel_rfl
  i3 := by kernel_rfl
  i4 := by kernel_rfl
  i5 := by kernel_rfl
  i9 := by kernel_rfl
  i20 := by kernel_rfl
  i37 := by kernel_rfl
  i46 := by kernel_rfl
  i51 := by kernel_rfl
  i53 := by kernel_rfl
  i171 := by kernel_rfl
  i173 := by kernel_rfl
  i212 := by kernel_rfl
  i232 := by kernel_rfl
  i233 := by kernel_rfl
  m17 := by kernel_rfl
  m18 := by kernel_rfl
  m19 := by kernel_rfl

set_option maxRecDepth 100000 in
theorem extraB : Builder.Extra Tryz.prog ren where
  sizeBuilder := by kernel_rfl
  liesBuilder := by kernel_rfl
  t5 := Tryz.underlying5
  a5 := Tryz.isAgg5
  z5 := Tryz.sizeOf5
  v5 := Tryz.zeroValue5
  infoByte := by kernel_rfl
  cellsByte := by kernel_rfl
  sizeByte := by kernel_rfl
  neB5 := by decide
theorem below_of {w w' : World} {T : Nat → Prop} {G : List Assn} (im : Im (allB w) w T w') (hS : Sep w T w' G) : Go.RowKit.Below w.heap.size w w' := by
  refine ⟨hS.os, hS.tape, hS.output, ?_, fun k hk => (im k hk).2⟩
  by_cases h : w.heap.size = 0
  · omega
  · have := hS.lt _ (im (w.heap.size - 1) (by show _ < _; omega)).1
    omega
section
open AMX
def decF (args : List AV) (h : Hp) : Rv := match args with
  | [.int .u32 n] => match inst_Decode n with
    | some r => .ok (.tup [.agg [.int .i64 r.1.Op, .int .i64 r.1.Rd, .int .i64 r.1.Rs1, .int .i64 r.1.Rs2, .int .i64 r.1.Imm], .int .i64 r.2]) h
    | none => .bad
  | _ => .bad
def ofF (args : List AV) (h : Hp) : Rv := match args with
  | [.int .i64 n] => match inst_of n with
    | some r => .ok (.agg [.str r.name, .int .u8 r.form, .int .u32 r.code, .int .u32 r.third, .int .u32 r.seventh]) h
    | none => .bad
  | _ => .bad
theorem dec_ok (B : AMX.Br) (args : List AV) (h : Hp) (v : AV) (h' : Hp) (hr : decF args h = .ok v h') : CallAt B Tryz.prog 174 args h v h' := by
  intro φ w vs hv H
  refine ⟨fun w => enters_of Tryz.func174 (by kernel_rfl) rfl _ w, ?_⟩
  unfold decF at hr
  split at hr <;> first | (cases hr; done) | skip
  split at hr <;> first | (cases hr; done) | skip
  rename_i r hm
  cases hr
  simp only [VRs, VR] at hv
  obtain ⟨_, _, rfl, rfl, rfl⟩ := hv
  refine (inst_Decode_sim (startL w) _ hm).mono ?_
  rintro e w' ⟨_, rfl, T, im, rfl, hS, _⟩
  obtain ⟨h1, h2⟩ := H.below (below_of im hS)
  exact ⟨φ, _, rfl, by simp [VR, VRs, allOne, AV.one, cGInst, iv], h1, h2⟩
theorem of_ok (B : AMX.Br) (args : List AV) (h : Hp) (v : AV) (h' : Hp) (hr : ofF args h = .ok v h') : CallAt B Tryz.prog 162 args h v h' := by
  intro φ w vs hv H
  refine ⟨fun w => enters_of Tryz.func162 (by kernel_rfl) rfl _ w, ?_⟩
  unfold ofF at hr
  split at hr <;> first | (cases hr; done) | skip
  split at hr <;> first | (cases hr; done) | skip
  rename_i r hm
  cases hr
  simp only [VRs, VR] at hv
  obtain ⟨_, _, rfl, rfl, rfl⟩ := hv
  refine (inst_of_sim (startL w) _ hm).mono ?_
  rintro e w' ⟨_, rfl, T, im, rfl, hS, _⟩
  obtain ⟨h1, h2⟩ := H.below (below_of im hS)
  exact ⟨φ, _, rfl, by simp [VR, VRs, allOne, AV.one, cInstShape], h1, h2⟩
def awL : List Nat := [4, 5, 10, 11, 12, 13, 14, 15, 18, 20, 21, 22, 23, 24, 25, 26, 27, 28, 29, 32, 33, 34, 37, 38, 39, 41, 55, 56, 57, 58, 59, 61, 62, 63, 64, 65, 66, 68, 69, 70, 90, 91, 92, 93, 94, 95, 96, 97, 98, 99, 100, 101, 102, 103, 104, 105, 106, 107, 108, 109, 110, 112, 113, 123, 124, 125, 126, 127, 128, 129, 131, 132, 133, 134, 135, 136, 137, 138, 139, 140, 141, 142, 144, 145, 146, 147, 148, 149, 150, 152, 153, 154, 155, 157, 158, 159, 160, 161, 163, 164, 165, 166, 167, 168, 169, 170, 171, 172, 173, 175, 176, 177, 178, 181, 183, 184, 185, 186, 187, 188, 189, 191, 192, 193, 194, 195, 196, 198, 200, 201, 207, 210, 211, 214, 215, 216, 217, 219, 220, 221, 222, 223, 224, 225, 229, 230, 231, 232, 233, 234, 237, 238, 239, 240, 241, 242, 243, 244, 245, 246, 247, 249, 250, 251, 252, 253, 254, 255, 256, 257, 258, 259, 260, 261, 262, 263, 264, 265, 266, 267, 268, 269, 270, 271, 272, 273, 274, 275, 277, 278, 279, 280, 281, 283, 285, 288, 290, 292, 293, 294, 295, 296, 298, 299, 300, 302, 303, 304, 305, 306, 307, 308, 313, 315, 317, 319, 321, 322, 323, 328, 335, 336, 341, 342, 343, 344, 350, 351, 352, 357, 358, 360, 361, 362, 363, 364, 365, 366, 367, 368, 369, 370, 374, 375, 376, 377, 378, 379, 380, 381, 382, 383, 386, 387, 388, 389, 390, 391, 392, 395, 396, 397, 398, 403, 404, 417, 418, 419, 420, 423, 425, 427, 436, 437, 440, 441, 444, 451, 452, 462, 463, 465, 471, 472, 473, 475, 476, 477, 479, 480, 481, 482, 483, 484, 485, 490, 491, 492, 493, 494, 495, 504, 505, 506, 507, 508, 509, 510, 511, 512, 513, 514, 515, 516, 517, 518, 519, 520, 522, 523, 530, 531, 539, 542, 550, 551, 555, 556, 557, 560, 562, 563, 564, 565, 566, 573, 574, 575, 581, 582, 583, 584, 585, 586, 587, 589, 590, 592, 597, 606, 607, 617, 618, 619, 621, 625, 627, 629, 637, 641]
set_option maxRecDepth 1000000 in
theorem awS : allS Tryz.prog awL = true := by kernel_rfl
theorem mixP : Tryz.prog.follows .mixedOrders = true := by kernel_rfl
noncomputable def awPm : List Pm := [⟨174, decF⟩, ⟨162, ofF⟩, ⟨235, cckF 265⟩, ⟨151, strF 265 5⟩, ⟨236, itoaF⟩]
theorem awPm_ok : PmOk (Pow10 Tryz.prog) Tryz.prog awPm := pm_cons (fun B _ => dec_ok B) (pm_cons (fun B _ => of_ok B) (bldPm_ok lays240 lays169 laysM243 extraB))
namespace Ct
abbrev N {α : Type} (l : Tr α) (v : Option α) (r : Tr α) : Tr α := .node l v r
abbrev L {α : Type} : Tr α := .nil
abbrev O {α : Type} : Option α := none
abbrev S {α : Type} (x : α) : Option α := some x
abbrev i (n : Int) : AV := .int .i64 n
abbrev w (n : Int) : AV := .int .u32 n
noncomputable def tIs (k : IntKind) : List Int → Nat → Tr (List AV) → Tr (List AV)
  | [], _, t => t
  | x :: l, n, t => tIs k l (n + 1) (t.set n [.int k x])
noncomputable def tI (k : IntKind) (l : List Int) : Tr (List AV) := tIs k l 0 .nil
noncomputable def tLs : List (List AV) → Nat → Tr (List AV) → Tr (List AV)
  | [], _, t => t
  | x :: l, n, t => tLs l (n + 1) (t.set n x)
noncomputable def tL (l : List (List AV)) : Tr (List AV) := tLs l 0 .nil
/-- The run of the compiler's first half, and of the whole. -/
noncomputable def te0 : Te := ⟨33, [.str [105, 110, 116, 32, 109, 97, 105, 110, 40, 41, 32, 123, 32, 111, 117, 116, 40, 49, 41, 59, 32, 111, 117, 116, 40, 50, 41, 59, 32, 114, 101, 116, 117, 114, 110, 32, 51, 59, 32, 125], .agg [i 4096, i 12, i 16, .bool false]],
  ⟨8, (N (N (N (N L (S ⟨0, (.whole 48), (.box [i 4096, i 12, i 16, .bool false])⟩) L) (S ⟨0, (.whole 44), (.box [i 0, i 0])⟩) L) (S ⟨0, (.whole 48), (.box [i 4096, i 12, i 16, .bool false])⟩) (N L (S ⟨0, (.whole 25), (.box [.nils, .nils, i 0, i 0])⟩) L)) (S ⟨1, (.whole 48), (.box [i 4096, i 12, i 16, .bool false])⟩) (N (N L (S ⟨0, (.whole 48), (.box [i 4096, i 12, i 16, .bool false])⟩) L) (S ⟨0, (.whole 33), (.box [i 0, w 0, i 0, .nils, i 0])⟩) (N L (S ⟨0, (.whole 44), (.box [i 0, i 0])⟩) L)))⟩,
  .tup [.agg [.nils, .nils, .sl 555 0 1 0 6, i 0], .agg [i 0, i 0], i 0],
  ⟨2077, (N (N (N (N L (S ⟨0, (.whole 48), (.box [i 4096, i 12, i 16, .bool false])⟩) L) (S ⟨0, (.whole 44), (.box [i 0, i 0])⟩) (N L O (N (N L O (N (N (N (N L (S ⟨1, .rw, (.arr 1 6 (tL [[.str [109, 97, 105, 110], .bool false, i 0, i 4, .nils, .sl 1902 0 1 0 5]]) [.str [], .bool false, i 0, i 0, .nils, .nils])⟩) L) O L) O L) O L)) O L))) (S ⟨0, (.whole 48), (.box [i 4096, i 12, i 16, .bool false])⟩) (N L (S ⟨0, (.whole 25), (.box [.nils, .nils, i 0, i 0])⟩) L)) (S ⟨1, (.whole 48), (.box [i 4096, i 12, i 16, .bool false])⟩) (N (N (N L O (N L O (N L O (N (N (N L O (N L O (N L (S ⟨0, .rw, (.arr 5 11 (tL [[i 1, i 0, i (-1), i (-1), i 0, i 0, i 0, i 0, w 1, .nils, .bool false], [i 10, i (-1), i 0, i (-1), i 0, i 0, i 0, i 0, w 0, .nils, .bool false], [i 1, i 1, i (-1), i (-1), i 0, i 0, i 0, i 0, w 2, .nils, .bool false], [i 10, i (-1), i 1, i (-1), i 0, i 0, i 0, i 0, w 0, .nils, .bool false], [i 1, i 2, i (-1), i (-1), i 0, i 0, i 0, i 0, w 3, .nils, .bool false]]) [i 0, i 0, i 0, i 0, i 0, i 0, i 0, i 0, w 0, .nils, .bool false])⟩) L))) O L) O L)))) (S ⟨0, (.whole 48), (.box [i 4096, i 12, i 16, .bool false])⟩) L) (S ⟨0, (.whole 33), (.box [i 0, w 0, i 0, .nils, i 0])⟩) (N L (S ⟨0, (.whole 44), (.box [i 0, i 0])⟩) (N L O (N (N L O (N L O (N (N L O (N L O (N L (S ⟨0, (.own 268), (.arr 1 5 (tL [[.sl 1848 0 5 0 11, i 3, i 2, i 0, i 0]]) [.nils, i 0, i 0, i 0, i 0])⟩) L))) O L))) O L)))))⟩⟩
noncomputable def te1 : Te := ⟨18, [.str [105, 110, 116, 32, 109, 97, 105, 110, 40, 41, 32, 123, 32, 111, 117, 116, 40, 49, 41, 59, 32, 111, 117, 116, 40, 50, 41, 59, 32, 114, 101, 116, 117, 114, 110, 32, 51, 59, 32, 125], .agg [i 4096, i 12, i 16, .bool false]],
  ⟨4, (N (N (N L (S ⟨0, (.whole 44), (.box [i 0, i 0])⟩) L) (S ⟨0, (.whole 48), (.box [i 4096, i 12, i 16, .bool false])⟩) L) (S ⟨1, (.whole 48), (.box [i 4096, i 12, i 16, .bool false])⟩) (N L (S ⟨0, (.whole 33), (.box [i 0, w 0, i 0, .nils, i 0])⟩) L))⟩,
  .tup [.agg [.sl 5709 0 142 0 1, .sl 5711 0 4096 4096 1, i 268436608, i 16], .agg [i 0, i 0], i 0],
  ⟨5713, (N (N (N (N (N L O (N (N L O (N (N (N L O (N L O (N (N L (S ⟨0, .rw, (.arr 4096 1 L [.int .u8 0])⟩) L) O L))) O L) O L)) O L)) O L) (S ⟨0, (.whole 44), (.box [i 0, i 0])⟩) L) (S ⟨0, (.whole 48), (.box [i 4096, i 12, i 16, .bool false])⟩) (N L O (N L O (N (N (N L O (N (N (N L O (N L O (N (N L (S ⟨0, (.own 30), (.arr 142 1 (tI .u32 [268436407, 238083, 201458787, 268435895, 402751891, 98963, 268436407, 1208189843, 7506531, 8561411, 4396643, 12747411, 4271894639, 3312739, 4282548883, 172803, 4367235, 7544867, 4276088943, 1209107, 7541523, 268436407, 134448019, 7537459, 4399235, 8593667, 12788739, 16983171, 21177603, 25372035, 29566467, 33760899, 37955331, 42149763, 46344195, 50538627, 54733059, 58927491, 63121923, 67316355, 71510787, 75705219, 79899651, 84094083, 88288515, 92482947, 96677379, 100871811, 105066243, 109260675, 205443, 163943, 268439863, 268435895, 402751891, 33555183, 188743919, 267744531, 536871607, 10659875, 536871607, 268436243, 6465571, 1180179, 1209107, 7541523, 268436407, 134448019, 7537459, 1253923, 2303011, 8594979, 9644067, 10693155, 11742243, 12791331, 47390755, 48439843, 49488931, 50538019, 51587107, 52636195, 53685283, 54734371, 89333795, 90382883, 91431971, 92481059, 93530147, 94579235, 95628323, 96677411, 131276835, 132325923, 133375011, 5447715, 268436407, 4431907, 268435895, 402751891, 163943, 4286644499, 268436151, 1208124051, 4098975971, 1122339, 8462883, 4112511727, 1049619, 268436151, 4358803, 5349411, 172931, 7447075, 4301859, 12681619, 536871735, 7544867, 8593955, 1278867, 7512099, 4053791471, 2098195, 268436151, 4358803, 5349411, 172931, 7447075, 4301859, 12681619, 536871735, 7544867, 8593955, 1278867, 7512099, 3995071215, 3146771, 263443, 4269059, 73859, 8454419, 32871]) [w 0])⟩) L) O L))) O L) O L)) O L) O L)))) (S ⟨1, (.whole 48), (.box [i 4096, i 12, i 16, .bool false])⟩) (N L (S ⟨0, (.whole 33), (.box [i 0, w 0, i 0, .nils, i 0])⟩) L))⟩⟩
end Ct
set_option maxRecDepth 1000000 in
theorem run0 : subR ((callT Tryz.prog (maskL awL) awPm [] 200).run Ct.te0.f Ct.te0.args Ct.te0.h) Ct.te0.v Ct.te0.h' = true := by kernel_rfl
theorem te0_ok : TbOk (Pow10 Tryz.prog) Tryz.prog [Ct.te0] := tb_cons (call_known (stOk_of awS) mixP awPm_ok tb_nil run0) tb_nil
end
end Go.Proofs.YtgacfocekkckfaaGreatDoor
