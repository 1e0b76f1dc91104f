/- Layer 30, the page's example: what the evaluator takes as known (an instruction's shape, its decoding: by their walks), and the compiler's run. -/
import Derived.Test.YtlnamhpmhcgcpaaGreatDoorKRow
import Derived.Test.YtlnamhpmhcgcpaaGreatDoorKAwk
import Derived.Test.YtlnamhpmhcgcpaaGreatDoorKAmd
import Derived.Test.YtlnamhpmhcgcpaaGreatDoorKWa
set_option linter.unusedVariables false
namespace Go.Proofs.YtlnamhpmhcgcpaaGreatDoor
open Go.Shelf
def ren : Go.Shelf.Ren := ⟨fun x => match x with | 129 => 433 | 143 => 137 | 169 => 104 | 217 => 342 | 219 => 252 | 224 => 344 | 225 => 343 | 240 => 190 | 243 => 191 | 246 => 311 | 266 => 453 | 267 => 345 | 276 => 310 | 283 => 415 | 284 => 416 | 285 => 417 | 286 => 418 | 314 => 454 | 317 => 494 | 318 => 495 | 319 => 496 | 320 => 497 | 337 => 556 | 338 => 557 | x => x, fun x => match x with | 0 => 0 | 2 => 2 | 3 => 3 | 4 => 4 | 5 => 5 | 9 => 9 | 20 => 20 | 37 => 25 | 46 => 264 | 51 => 102 | 53 => 371 | 70 => 237 | 72 => 239 | 127 => 333 | 146 => 357 | 164 => 427 | 171 => 514 | 173 => 517 | 212 => 578 | 213 => 579 | 232 => 632 | 233 => 633 | x => x, fun x => match x with | 1 => 0 | 17 => 1 | 18 => 2 | 19 => 3 | x => x⟩
set_option maxRecDepth 100000 in
theorem lays143 : Lays.n143 Tryz.prog ren where
  mixed := by kernel_rfl
  f143 := by kernel_rfl
  f217 := by kernel_rfl
  f219 := by kernel_rfl
  f224 := by kernel_rfl
  f225 := by kernel_rfl
  f266 := by kernel_rfl
  f267 := by kernel_rfl
  f314 := by kernel_rfl
  t3 := Tryz.underlying3
  a3 := Tryz.isAgg3
  z3 := Tryz.sizeOf3
  v3 := Tryz.zeroValue3
  t4 := Tryz.underlying4
  a4 := Tryz.isAgg4
  z4 := Tryz.sizeOf4
  v4 := Tryz.zeroValue4
  t5 := Tryz.underlying5
  a5 := Tryz.isAgg5
  z5 := Tryz.sizeOf5
  v5 := Tryz.zeroValue5
  t9 := Tryz.underlying9
  a9 := Tryz.isAgg9
  z9 := Tryz.sizeOf9
  v9 := Tryz.zeroValue9
  t46 := Tryz.underlying264
  a46 := Tryz.isAgg264
  z46 := Tryz.sizeOf264
  v46 := Tryz.zeroValue264
  t51 := Tryz.underlying102
  a51 := Tryz.isAgg102
  z51 := Tryz.sizeOf102
  v51 := Tryz.zeroValue102
  t146 := Tryz.underlying357
  a146 := Tryz.isAgg357
  z146 := Tryz.sizeOf357
  v146 := Tryz.zeroValue357
  g1 := by kernel_rfl
set_option maxRecDepth 100000 in
theorem lays169 : Lays.n169 Tryz.prog ren where
  mixed := by kernel_rfl
  f169 := by kernel_rfl
  t0 := Tryz.underlying0
  a0 := Tryz.isAgg0
  z0 := Tryz.sizeOf0
  v0 := Tryz.zeroValue0
  t3 := Tryz.underlying3
  a3 := Tryz.isAgg3
  z3 := Tryz.sizeOf3
  v3 := Tryz.zeroValue3
  t9 := Tryz.underlying9
  a9 := Tryz.isAgg9
  z9 := Tryz.sizeOf9
  v9 := Tryz.zeroValue9
  t37 := Tryz.underlying25
  a37 := Tryz.isAgg25
  z37 := Tryz.sizeOf25
  v37 := Tryz.zeroValue25
  t70 := Tryz.underlying237
  a70 := Tryz.isAgg237
  z70 := Tryz.sizeOf237
  v70 := Tryz.zeroValue237
  t72 := Tryz.underlying239
  a72 := Tryz.isAgg239
  z72 := Tryz.sizeOf239
  v72 := Tryz.zeroValue239
  t127 := Tryz.underlying333
  a127 := Tryz.isAgg333
  z127 := Tryz.sizeOf333
  v127 := Tryz.zeroValue333
set_option maxRecDepth 100000 in
theorem lays240 : Lays.n240 Tryz.prog ren where
  mixed := by kernel_rfl
  f240 := by kernel_rfl
  f276 := by kernel_rfl
  t0 := Tryz.underlying0
  a0 := Tryz.isAgg0
  z0 := Tryz.sizeOf0
  v0 := Tryz.zeroValue0
  t4 := Tryz.underlying4
  a4 := Tryz.isAgg4
  z4 := Tryz.sizeOf4
  v4 := Tryz.zeroValue4
  t9 := Tryz.underlying9
  a9 := Tryz.isAgg9
  z9 := Tryz.sizeOf9
  v9 := Tryz.zeroValue9
  t20 := Tryz.underlying20
  a20 := Tryz.isAgg20
  z20 := Tryz.sizeOf20
  v20 := Tryz.zeroValue20
  t70 := Tryz.underlying237
  a70 := Tryz.isAgg237
  z70 := Tryz.sizeOf237
  v70 := Tryz.zeroValue237
  t72 := Tryz.underlying239
  a72 := Tryz.isAgg239
  z72 := Tryz.sizeOf239
  v72 := Tryz.zeroValue239
  t164 := Tryz.underlying427
  a164 := Tryz.isAgg427
  z164 := Tryz.sizeOf427
  v164 := Tryz.zeroValue427
set_option maxRecDepth 100000 in
theorem laysM243 : LaysM.n243 Tryz.prog ren where
  mixed := by kernel_rfl
  f129 := by kernel_rfl
  f243 := by kernel_rfl
  f246 := by kernel_rfl
  f283 := by kernel_rfl
  f284 := by kernel_rfl
  f285 := by kernel_rfl
  f286 := by kernel_rfl
  f317 := by kernel_rfl
  f318 := by kernel_rfl
  f319 := by kernel_rfl
  f320 := by kernel_rfl
  f337 := by kernel_rfl
  f338 := by kernel_rfl
  t0 := Tryz.underlying0
  a0 := Tryz.isAgg0
  z0 := Tryz.sizeOf0
  v0 := Tryz.zeroValue0
  t2 := Tryz.underlying2
  a2 := Tryz.isAgg2
  z2 := Tryz.sizeOf2
  v2 := Tryz.zeroValue2
  t3 := Tryz.underlying3
  a3 := Tryz.isAgg3
  z3 := Tryz.sizeOf3
  v3 := Tryz.zeroValue3
  t4 := Tryz.underlying4
  a4 := Tryz.isAgg4
  z4 := Tryz.sizeOf4
  v4 := Tryz.zeroValue4
  t5 := Tryz.underlying5
  a5 := Tryz.isAgg5
  z5 := Tryz.sizeOf5
  v5 := Tryz.zeroValue5
  t9 := Tryz.underlying9
  a9 := Tryz.isAgg9
  z9 := Tryz.sizeOf9
  v9 := Tryz.zeroValue9
  t20 := Tryz.underlying20
  a20 := Tryz.isAgg20
  z20 := Tryz.sizeOf20
  v20 := Tryz.zeroValue20
  t37 := Tryz.underlying25
  a37 := Tryz.isAgg25
  z37 := Tryz.sizeOf25
  v37 := Tryz.zeroValue25
  t46 := Tryz.underlying264
  a46 := Tryz.isAgg264
  z46 := Tryz.sizeOf264
  v46 := Tryz.zeroValue264
  t51 := Tryz.underlying102
  a51 := Tryz.isAgg102
  z51 := Tryz.sizeOf102
  v51 := Tryz.zeroValue102
  t53 := Tryz.underlying371
  a53 := Tryz.isAgg371
  z53 := Tryz.sizeOf371
  v53 := Tryz.zeroValue371
  t171 := Tryz.underlying514
  a171 := Tryz.isAgg514
  z171 := Tryz.sizeOf514
  v171 := Tryz.zeroValue514
  t173 := Tryz.underlying517
  a173 := Tryz.isAgg517
  z173 := Tryz.sizeOf517
  v173 := Tryz.zeroValue517
  t212 := Tryz.underlying578
  a212 := Tryz.isAgg578
  z212 := Tryz.sizeOf578
  v212 := Tryz.zeroValue578
  t213 := Tryz.underlying579
  a213 := Tryz.isAgg579
  z213 := Tryz.sizeOf579
  t232 := Tryz.underlying632
  a232 := Tryz.isAgg632
  z232 := Tryz.sizeOf632
  v232 := Tryz.zeroValue632
  t233 := Tryz.underlying633
  a233 := Tryz.isAgg633
  z233 := Tryz.sizeOf633
  v233 := Tryz.zeroValue633
  g17 := by kernel_rfl
  g18 := by kernel_rfl
  g19 := by kernel_rfl
  i0 := by kernel_rfl
  i2 := by kernel_rfl
  i3 := by kernel_rfl
  i4 := by kernel_rfl
  i5 := by kernel_rfl
  i9 := by kernel_rfl
  i20 := by kernel_rfl
  i37 := by kernel_rfl
  i46 := by kernel_rfl
  i51 := by kernel_rfl
  i53 := by kernel_rfl
  i171 := by kernel_rfl
  i173 := by kernel_rfl
  i212 := by kernel_rfl
  i232 := by kernel_rfl
  i233 := by kernel_rfl
  m17 := by kernel_rfl
  m18 := by kernel_rfl
  m19 := by kernel_rfl

set_option maxRecDepth 100000 in
theorem extraB : Builder.Extra Tryz.prog ren where
  sizeBuilder := by kernel_rfl
  liesBuilder := by kernel_rfl
  t5 := Tryz.underlying5
  a5 := Tryz.isAgg5
  z5 := Tryz.sizeOf5
  v5 := Tryz.zeroValue5
  infoByte := by kernel_rfl
  cellsByte := by kernel_rfl
  sizeByte := by kernel_rfl
  neB5 := by decide
theorem below_of {w w' : World} {T : Nat → Prop} {G : List Assn} (im : Im (allB w) w T w') (hS : Sep w T w' G) : Go.RowKit.Below w.heap.size w w' := by
  refine ⟨hS.os, hS.tape, hS.output, ?_, fun k hk => (im k hk).2⟩
  by_cases h : w.heap.size = 0
  · omega
  · have := hS.lt _ (im (w.heap.size - 1) (by show _ < _; omega)).1
    omega
section
open AMX
def decF (args : List AV) (h : Hp) : Rv := match args with
  | [.int .u32 n] => match inst_Decode n with
    | some r => .ok (.tup [.agg [.int .i64 r.1.Op, .int .i64 r.1.Rd, .int .i64 r.1.Rs1, .int .i64 r.1.Rs2, .int .i64 r.1.Imm], .int .i64 r.2]) h
    | none => .bad
  | _ => .bad
def ofF (args : List AV) (h : Hp) : Rv := match args with
  | [.int .i64 n] => match inst_of n with
    | some r => .ok (.agg [.str r.name, .int .u8 r.form, .int .u32 r.code, .int .u32 r.third, .int .u32 r.seventh]) h
    | none => .bad
  | _ => .bad
theorem dec_ok (B : AMX.Br) (args : List AV) (h : Hp) (v : AV) (h' : Hp) (hr : decF args h = .ok v h') : CallAt B Tryz.prog 36 args h v h' := by
  intro φ w vs hv H
  refine ⟨fun w => enters_of Tryz.func36 (by kernel_rfl) rfl _ w, ?_⟩
  unfold decF at hr
  split at hr <;> first | (cases hr; done) | skip
  split at hr <;> first | (cases hr; done) | skip
  rename_i r hm
  cases hr
  simp only [VRs, VR] at hv
  obtain ⟨_, _, rfl, rfl, rfl⟩ := hv
  refine (inst_Decode_sim (startL w) _ hm).mono ?_
  rintro e w' ⟨_, rfl, T, im, rfl, hS, _⟩
  obtain ⟨h1, h2⟩ := H.below (below_of im hS)
  exact ⟨φ, _, rfl, by simp [VR, VRs, allOne, AV.one, cGInst, iv], h1, h2⟩
theorem of_ok (B : AMX.Br) (args : List AV) (h : Hp) (v : AV) (h' : Hp) (hr : ofF args h = .ok v h') : CallAt B Tryz.prog 115 args h v h' := by
  intro φ w vs hv H
  refine ⟨fun w => enters_of Tryz.func115 (by kernel_rfl) rfl _ w, ?_⟩
  unfold ofF at hr
  split at hr <;> first | (cases hr; done) | skip
  split at hr <;> first | (cases hr; done) | skip
  rename_i r hm
  cases hr
  simp only [VRs, VR] at hv
  obtain ⟨_, _, rfl, rfl, rfl⟩ := hv
  refine (inst_of_sim (startL w) _ hm).mono ?_
  rintro e w' ⟨_, rfl, T, im, rfl, hS, _⟩
  obtain ⟨h1, h2⟩ := H.below (below_of im hS)
  exact ⟨φ, _, rfl, by simp [VR, VRs, allOne, AV.one, cInstShape], h1, h2⟩
def awL : List Nat := [4, 6, 7, 8, 11, 12, 13, 14, 16, 17, 18, 19, 24, 25, 26, 27, 28, 30, 31, 32, 33, 34, 35, 37, 38, 41, 42, 43, 44, 45, 46, 47, 48, 49, 50, 51, 52, 53, 54, 55, 56, 57, 58, 59, 60, 61, 63, 64, 65, 66, 67, 68, 69, 76, 77, 78, 79, 80, 81, 82, 84, 85, 86, 87, 88, 89, 90, 91, 92, 93, 94, 95, 97, 98, 99, 100, 101, 102, 103, 105, 106, 107, 108, 110, 111, 112, 113, 114, 116, 117, 118, 119, 120, 121, 122, 123, 124, 125, 126, 127, 136, 138, 139, 140, 141, 142, 143, 144, 146, 147, 148, 149, 150, 151, 153, 155, 156, 162, 165, 166, 169, 170, 171, 172, 174, 175, 176, 177, 178, 179, 180, 184, 185, 186, 187, 188, 189, 192, 193, 194, 195, 196, 199, 200, 201, 202, 204, 205, 206, 207, 208, 209, 210, 211, 212, 213, 214, 215, 216, 217, 218, 219, 220, 221, 222, 223, 224, 225, 226, 227, 229, 230, 231, 232, 233, 235, 237, 240, 242, 245, 246, 247, 248, 250, 251, 253, 255, 257, 259, 260, 261, 266, 273, 274, 279, 280, 281, 282, 288, 289, 290, 295, 296, 298, 299, 300, 301, 302, 303, 304, 305, 306, 307, 308, 312, 313, 314, 315, 316, 317, 318, 320, 321, 324, 325, 326, 327, 328, 329, 330, 333, 334, 335, 336, 346, 347, 348, 349, 354, 356, 365, 366, 369, 370, 380, 381, 391, 392, 394, 400, 401, 402, 404, 405, 406, 408, 409, 410, 411, 412, 413, 414, 419, 420, 421, 422, 423, 424, 433, 434, 435, 436, 437, 438, 439, 440, 441, 442, 443, 444, 445, 447, 448, 449, 451, 452, 455, 456, 475, 476, 480, 481, 482, 485, 487, 488, 489, 490, 491, 498, 499, 500, 506, 507, 508, 509, 510, 511, 512, 514, 515, 517, 522, 531, 532, 549, 550, 551, 553, 558, 560, 562, 570, 578]
set_option maxRecDepth 1000000 in
theorem awS : allS Tryz.prog awL = true := by kernel_rfl
theorem mixP : Tryz.prog.follows .mixedOrders = true := by kernel_rfl
noncomputable def awPm : List Pm := [⟨36, decF⟩, ⟨115, ofF⟩, ⟨190, cckF 239⟩, ⟨104, strF 239 5⟩, ⟨191, itoaF⟩]
theorem awPm_ok : PmOk (Pow10 Tryz.prog) Tryz.prog awPm := pm_cons (fun B _ => dec_ok B) (pm_cons (fun B _ => of_ok B) (bldPm_ok lays240 lays169 laysM243 extraB))
namespace Ct
abbrev N {α : Type} (l : Tr α) (v : Option α) (r : Tr α) : Tr α := .node l v r
abbrev L {α : Type} : Tr α := .nil
abbrev O {α : Type} : Option α := none
abbrev S {α : Type} (x : α) : Option α := some x
abbrev i (n : Int) : AV := .int .i64 n
abbrev w (n : Int) : AV := .int .u32 n
noncomputable def tIs (k : IntKind) : List Int → Nat → Tr (List AV) → Tr (List AV)
  | [], _, t => t
  | x :: l, n, t => tIs k l (n + 1) (t.set n [.int k x])
noncomputable def tI (k : IntKind) (l : List Int) : Tr (List AV) := tIs k l 0 .nil
noncomputable def tLs : List (List AV) → Nat → Tr (List AV) → Tr (List AV)
  | [], _, t => t
  | x :: l, n, t => tLs l (n + 1) (t.set n x)
noncomputable def tL (l : List (List AV)) : Tr (List AV) := tLs l 0 .nil
/-- The run of the compiler's first half, and of the whole. -/
noncomputable def te0 : Te := ⟨13, [.str [105, 110, 116, 32, 109, 97, 105, 110, 40, 41, 32, 123, 32, 114, 101, 116, 117, 114, 110, 32, 55, 59, 32, 125], .agg [i 4096, i 12, i 16, .bool false]],
  ⟨4, (N (N (N L (S ⟨0, (.whole 35), (.box [i 4096, i 12, i 16, .bool false])⟩) L) (S ⟨0, (.whole 27), (.box [.nils, .nils, i 0, i 0])⟩) L) (S ⟨0, (.whole 35), (.box [i 4096, i 12, i 16, .bool false])⟩) (N L (S ⟨0, (.whole 30), (.box [i 0, i 0])⟩) L))⟩,
  .tup [.agg [.nils, .nils, .sl 267 0 1 0 6, i 0], .agg [i 0, i 0], i 0],
  ⟨1021, (N (N (N L (S ⟨0, (.whole 35), (.box [i 4096, i 12, i 16, .bool false])⟩) (N L O (N (N (N (N (N L (S ⟨1, .rw, (.arr 1 6 (tL [[.str [109, 97, 105, 110], .bool false, i 0, i 2, .nils, .sl 966 0 1 0 5]]) [.str [], .bool false, i 0, i 0, .nils, .nils])⟩) L) O L) O L) O L) O L))) (S ⟨0, (.whole 27), (.box [.nils, .nils, i 0, i 0])⟩) L) (S ⟨0, (.whole 35), (.box [i 4096, i 12, i 16, .bool false])⟩) (N (N L O (N (N L O (N (N (N L O (N L O (N L (S ⟨0, .rw, (.arr 1 11 (tL [[i 1, i 0, i (-1), i (-1), i 0, i 0, i 0, i 0, w 7, .nils, .bool false]]) [i 0, i 0, i 0, i 0, i 0, i 0, i 0, i 0, w 0, .nils, .bool false])⟩) L))) O L) O L)) O L)) (S ⟨0, (.whole 30), (.box [i 0, i 0])⟩) (N L O (N (N (N (N L O (N L O (N L O (N L (S ⟨0, (.own 242), (.arr 1 5 (tL [[.sl 916 0 1 0 11, i 3, i 0, i 0, i 0]]) [.nils, i 0, i 0, i 0, i 0])⟩) L)))) O L) O L) O L))))⟩⟩
noncomputable def te1 : Te := ⟨6, [.str [105, 110, 116, 32, 109, 97, 105, 110, 40, 41, 32, 123, 32, 114, 101, 116, 117, 114, 110, 32, 55, 59, 32, 125], .agg [i 4096, i 12, i 16, .bool false]],
  ⟨0, L⟩,
  .tup [.agg [.sl 3763 0 114 0 1, .sl 3765 0 4096 4096 1, i 268436608, i 16], .agg [i 0, i 0], i 0],
  ⟨3767, (N (N (N L O (N (N L O (N L O (N (N L O (N (N L O (N L O (N L (S ⟨0, (.own 102), (.arr 114 1 (tI .u32 [268436407, 238083, 201458787, 268435895, 402751891, 98963, 268436407, 1208189843, 7506531, 8561411, 4396643, 12747411, 4271894639, 3312739, 4282548883, 172803, 4367235, 7544867, 4276088943, 1209107, 7541523, 268436407, 134448019, 7537459, 4399235, 8593667, 12788739, 16983171, 21177603, 25372035, 29566467, 33760899, 37955331, 42149763, 46344195, 50538627, 54733059, 58927491, 63121923, 67316355, 71510787, 75705219, 79899651, 84094083, 88288515, 92482947, 96677379, 100871811, 105066243, 109260675, 205443, 163943, 268439863, 268435895, 402751891, 33555183, 188743919, 267744531, 536871607, 10659875, 536871607, 268436243, 6465571, 1180179, 1209107, 7541523, 268436407, 134448019, 7537459, 1253923, 2303011, 8594979, 9644067, 10693155, 11742243, 12791331, 47390755, 48439843, 49488931, 50538019, 51587107, 52636195, 53685283, 54734371, 89333795, 90382883, 91431971, 92481059, 93530147, 94579235, 95628323, 96677411, 131276835, 132325923, 133375011, 5447715, 268436407, 4431907, 268435895, 402751891, 163943, 4286644499, 268436151, 1208124051, 4098975971, 1122339, 8462883, 4112511727, 7341075, 263443, 4269059, 73859, 8454419, 32871]) [w 0])⟩) L))) O L)) O L))) O L)) O (N L O (N (N L O (N L O (N (N L O (N (N L O (N L O (N L (S ⟨0, .rw, (.arr 4096 1 L [.int .u8 0])⟩) L))) O L)) O L))) O L))) O L)⟩⟩
end Ct
set_option maxRecDepth 1000000 in
theorem run0 : subR ((callT Tryz.prog (maskL awL) awPm [] 200).run Ct.te0.f Ct.te0.args Ct.te0.h) Ct.te0.v Ct.te0.h' = true := by kernel_rfl
theorem te0_ok : TbOk (Pow10 Tryz.prog) Tryz.prog [Ct.te0] := tb_cons (call_known (stOk_of awS) mixP awPm_ok tb_nil run0) tb_nil
end
end Go.Proofs.YtlnamhpmhcgcpaaGreatDoor
