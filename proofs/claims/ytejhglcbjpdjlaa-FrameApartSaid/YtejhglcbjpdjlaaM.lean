/- The models of Go functions: what each computes. Printed by gen2.py. -/
import Derived.Test.YtejhglcbjpdjlaaModel
import Derived.Laws.Entries
set_option linter.unusedVariables false
namespace Go.Proofs.Ytejhglcbjpdjlaa
structure GSlot where
  Name : List UInt8
  Size : Int
  Align : Int
  Cell : Int
  deriving DecidableEq
structure Ins where
  Op : Int
  D : Int
  A : Int
  B : Int
  Fn : Int
  Obj : Int
  Off : Int
  Size : Int
  Num : Int
  Args : List Int
  Log : Bool
  deriving DecidableEq
structure GBlock where
  Ins : List Ins
  End : Int
  A : Int
  To : Int
  Else : Int
  deriving DecidableEq
structure Proc where
  Name : List UInt8
  Void : Bool
  Params : Int
  Regs : Int
  Objects : List GSlot
  Blocks : List GBlock
  deriving DecidableEq
structure Seat where
  Reg : Int
  Slot : Int
  deriving DecidableEq
structure GFrame where
  Size : Int
  Saved : List Int
  Slots : Int
  Objects : List Int
  deriving DecidableEq


def ref24_Name (p0 : Int) : Option (Int) :=
  (idx ([8, 9, 18, 19, 20, 21, 22, 23, 24, 25, 26, 27] : List Int) p0).bind fun u1 => some u1

def law25_few (p0 : Proc) (p1 : List Seat) : Option (Bool) :=
  bif decide (60 < (List.length p0.Objects : Int)) then (some false) else (bif decide (60 < (List.length p1 : Int)) then (some false) else ((loopM (fun (x1 : Int) => (bif decide (x1 < (List.length p0.Objects : Int)) then ((idx p0.Objects x1).bind fun u1 => bif decide (u1.Size < 1) then (some (Lp.ret false)) else ((idx p0.Objects x1).bind fun u2 => bif decide (40000 < u2.Size) then (some (Lp.ret false)) else (some (Lp.go (IntKind.wrap .i64 (x1 + 1)))))) else (some (Lp.brk x1)) : Option (Lp (Int) (Bool)))) NN 0).bind fun o => o.thn (fun (x1 : Int) => (loopM (fun (x2 : Int) => (bif decide (x2 < (List.length p1 : Int)) then ((idx p1 x2).bind fun u3 => (loopM (fun (x3, x4) => (bif decide (x4 < 12) then (bif x3 then (some (Lp.go (true, IntKind.wrap .i64 (x4 + 1)))) else ((idx p1 x2).bind fun u4 => (ref24_Name x4).bind fun y1 => some (Lp.go (u4.Reg == y1, IntKind.wrap .i64 (x4 + 1))))) else (some (Lp.brk (x3, x4))) : Option (Lp (Bool × Int) (Unit)))) NN (u3.Reg == 0, 0)).bind fun o => o.thn (fun (x3, x4) => bif !x3 then (some (Lp.ret false)) else (some (Lp.go (IntKind.wrap .i64 (x2 + 1))))) (fun _ => none)) else (some (Lp.brk x2)) : Option (Lp (Int) (Bool)))) NN 0).bind fun o => o.thn (fun (x2 : Int) => some true) (fun r => some r)) (fun r => some r)))

def frame_Lay_1 (p0 : Int) (p1 : Int) : Option (Int × Int) :=
  some (IntKind.wrap .i64 ((IntKind.wrap .i64 (p1 + p0)) - p0), IntKind.wrap .i64 (p1 + p0))

def slices_Index (p0 : List Int) (p1 : Int) : Option (Int) :=
  (loopM (fun (x1 : Int) => (bif decide (x1 < (List.length p0 : Int)) then ((idx p0 x1).bind fun u1 => bif p1 == u1 then (some (Lp.ret x1)) else (some (Lp.go (IntKind.wrap .i64 (x1 + 1))))) else (some (Lp.brk x1)) : Option (Lp (Int) (Int)))) NN 0).bind fun o => o.thn (fun (x1 : Int) => some (-1)) (fun r => some r)

def slices_Contains (p0 : List Int) (p1 : Int) : Option (Bool) :=
  (slices_Index p0 p1).bind fun y1 => some (decide (0 ≤ y1))

def bits_Len64 (p0 : Int) : Option (Int) :=
  jn (fun kk1 => bif decide (4294967296 ≤ p0) then (kk1 (Int.fdiv p0 (2 ^ (min (Int.toNat 32) (IntKind.bits .u64)))) 32) else (kk1 p0 0)) (fun (x1 : Int) (x2 : Int) => jn (fun kk2 => bif decide (65536 ≤ x1) then (kk2 (Int.fdiv x1 (2 ^ (min (Int.toNat 16) (IntKind.bits .u64)))) (IntKind.wrap .i64 (x2 + 16))) else (kk2 x1 x2)) (fun (x3 : Int) (x4 : Int) => jn (fun kk3 => bif decide (256 ≤ x3) then (kk3 (Int.fdiv x3 (2 ^ (min (Int.toNat 8) (IntKind.bits .u64)))) (IntKind.wrap .i64 (x4 + 8))) else (kk3 x3 x4)) (fun (x5 : Int) (x6 : Int) => (idx ([0, 1, 2, 2, 3, 3, 3, 3, 4, 4, 4, 4, 4, 4, 4, 4, 5, 5, 5, 5, 5, 5, 5, 5, 5, 5, 5, 5, 5, 5, 5, 5, 6, 6, 6, 6, 6, 6, 6, 6, 6, 6, 6, 6, 6, 6, 6, 6, 6, 6, 6, 6, 6, 6, 6, 6, 6, 6, 6, 6, 6, 6, 6, 6, 7, 7, 7, 7, 7, 7, 7, 7, 7, 7, 7, 7, 7, 7, 7, 7, 7, 7, 7, 7, 7, 7, 7, 7, 7, 7, 7, 7, 7, 7, 7, 7, 7, 7, 7, 7, 7, 7, 7, 7, 7, 7, 7, 7, 7, 7, 7, 7, 7, 7, 7, 7, 7, 7, 7, 7, 7, 7, 7, 7, 7, 7, 7, 7, 8, 8, 8, 8, 8, 8, 8, 8, 8, 8, 8, 8, 8, 8, 8, 8, 8, 8, 8, 8, 8, 8, 8, 8, 8, 8, 8, 8, 8, 8, 8, 8, 8, 8, 8, 8, 8, 8, 8, 8, 8, 8, 8, 8, 8, 8, 8, 8, 8, 8, 8, 8, 8, 8, 8, 8, 8, 8, 8, 8, 8, 8, 8, 8, 8, 8, 8, 8, 8, 8, 8, 8, 8, 8, 8, 8, 8, 8, 8, 8, 8, 8, 8, 8, 8, 8, 8, 8, 8, 8, 8, 8, 8, 8, 8, 8, 8, 8, 8, 8, 8, 8, 8, 8, 8, 8, 8, 8, 8, 8, 8, 8, 8, 8, 8, 8, 8, 8, 8, 8, 8, 8, 8, 8, 8, 8, 8, 8] : List UInt8) (IntKind.wrap .u8 x5)).bind fun u1 => some (IntKind.wrap .i64 (x6 + (IntKind.wrap .i64 (UInt8.toNat u1 : Int)))))))

def bits_Len (p0 : Int) : Option (Int) :=
  (bits_Len64 p0).bind fun y1 => some y1

def cmp_isNaN (p0 : Int) : Option (Bool) :=
  some (p0 != p0)

def cmp_Less (p0 : Int) (p1 : Int) : Option (Bool) :=
  (cmp_isNaN p0).bind fun y1 => bif y1 then ((cmp_isNaN p1).bind fun y2 => bif !y2 then (some true) else (some (decide (p0 < p1)))) else (some (decide (p0 < p1)))

def slices_insertionSortOrdered (p0 : List Int) (p1 : Int) (p2 : Int) : Option ((List Int)) :=
  (loopM (fun (x1, x2) => (bif decide (x2 < p2) then ((loopM (fun (x3, x4) => (bif decide (p1 < x4) then ((idx x3 x4).bind fun u1 => (idx x3 (IntKind.wrap .i64 (x4 - 1))).bind fun u2 => (cmp_Less u1 u2).bind fun y1 => bif y1 then ((idx x3 (IntKind.wrap .i64 (x4 - 1))).bind fun u3 => (idx x3 x4).bind fun u4 => (idx x3 x4).bind fun u5 => (idx x3 x4).bind fun u6 => (idx (List.set x3 (Int.toNat x4) u3) (IntKind.wrap .i64 (x4 - 1))).bind fun u7 => (idx (List.set x3 (Int.toNat x4) u3) (IntKind.wrap .i64 (x4 - 1))).bind fun u8 => some (Lp.go (List.set (List.set x3 (Int.toNat x4) u3) (Int.toNat (IntKind.wrap .i64 (x4 - 1))) u4, IntKind.wrap .i64 (x4 - 1)))) else (some (Lp.brk (x3, x4)))) else (some (Lp.brk (x3, x4))) : Option (Lp ((List Int) × Int) (Unit)))) NN (x1, x2)).bind fun o => o.thn (fun (x3, x4) => some (Lp.go (x3, IntKind.wrap .i64 (x2 + 1)))) (fun _ => none)) else (some (Lp.brk (x1, x2))) : Option (Lp ((List Int) × Int) (Unit)))) NN (p0, IntKind.wrap .i64 (p1 + 1))).bind fun o => o.thn (fun (x1, x2) => some x1) (fun _ => none)

def slices_pdqsortOrdered (p0 : List Int) (p1 : Int) (p2 : Int) (p3 : Int) : Option ((List Int)) :=
  (loopM (fun (x1, x2) => (bif decide ((IntKind.wrap .i64 (x2 - x1)) ≤ 12) then ((slices_insertionSortOrdered p0 x1 x2).bind fun y1 => some (Lp.ret y1)) else none : Option (Lp (Int × Int) ((List Int))))) NN (p1, p2)).bind fun o => o.thn (fun (x1, x2) => none) (fun r => some r)

def slices_Sort (p0 : List Int) : Option ((List Int)) :=
  (bits_Len (IntKind.wrap .u64 (List.length p0 : Int))).bind fun y1 => (slices_pdqsortOrdered p0 0 (List.length p0 : Int) y1).bind fun y2 => some y2

def alloc_Given (p0 : List Seat) : Option ((List Int)) :=
  (loopM (fun (x1, x2) => (bif decide (x2 < (List.length p0 : Int)) then (jn (fun kk1 => (idx p0 x2).bind fun u1 => bif decide (0 < u1.Reg) then ((slices_Contains x1 u1.Reg).bind fun y1 => bif !y1 then ((room (List.length x1 + List.length ([u1.Reg] : List Int))).bind fun _ => kk1 (x1 ++ ([u1.Reg] : List Int))) else (kk1 x1)) else (kk1 x1)) (fun (x3 : List Int) => some (Lp.go (x3, IntKind.wrap .i64 (x2 + 1))))) else (some (Lp.brk (x1, x2))) : Option (Lp ((List Int) × Int) (Unit)))) NN ([], 0)).bind fun o => o.thn (fun (x1, x2) => (slices_Sort x1).bind fun y2 => some y2) (fun _ => none)

def irrun_up (p0 : Int) : Option (Int) :=
  some (IntKind.wrap .i64 ((IntKind.wrap .i64 (Int.tdiv (IntKind.wrap .i64 ((IntKind.wrap .i64 (p0 + 4)) - 1)) 4)) * 4))

def irrun_Place (p0 : List GSlot) : Option ((List Int) × Int) :=
  (loopM (fun (x1, x2, x3) => (bif decide (x3 < (List.length p0 : Int)) then ((idx p0 x3).bind fun u1 => (room (List.length x1 + List.length ([x2] : List Int))).bind fun _ => (irrun_up (IntKind.wrap .i64 (x2 + u1.Size))).bind fun y1 => some (Lp.go (x1 ++ ([x2] : List Int), y1, IntKind.wrap .i64 (x3 + 1)))) else (some (Lp.brk (x1, x2, x3))) : Option (Lp ((List Int) × Int × Int) (Unit)))) NN ([], 0, 0)).bind fun o => o.thn (fun (x1, x2, x3) => some (x1, x2)) (fun _ => none)

def frame_Lay (p0 : Proc) (p1 : List Seat) (p2 : Int) : Option (GFrame × Int) :=
  bif decide (p2 < 0) then (some ((⟨0, [], 0, []⟩ : GFrame), 1)) else (bif (List.length p1 : Int) != p0.Regs then (some ((⟨0, [], 0, []⟩ : GFrame), 1)) else (bif decide (2000 < p2) then (some ((⟨0, [], 0, []⟩ : GFrame), 2)) else ((frame_Lay_1 4 0).bind fun y1 => (alloc_Given p1).bind fun y2 => (frame_Lay_1 (IntKind.wrap .i64 (4 * (List.length y2 : Int))) y1.2).bind fun y3 => (frame_Lay_1 (IntKind.wrap .i64 (4 * p2)) y3.2).bind fun y4 => (irrun_Place p0.Objects).bind fun y5 => (frame_Lay_1 y5.2 y4.2).bind fun y6 => (loopM (fun (x3, x4) => (bif decide (x3 < (List.length y5.1 : Int)) then ((idx y5.1 x3).bind fun u1 => (room (List.length x4.Objects + List.length ([IntKind.wrap .i64 (y6.1 + u1)] : List Int))).bind fun _ => some (Lp.go (IntKind.wrap .i64 (x3 + 1), { x4 with Objects := x4.Objects ++ ([IntKind.wrap .i64 (y6.1 + u1)] : List Int) }))) else (some (Lp.brk (x3, x4))) : Option (Lp (Int × GFrame) (Unit)))) NN (0, (⟨0, y2, y4.1, []⟩ : GFrame))).bind fun o => o.thn (fun (x3, x4) => bif decide (2000 < y6.2) then (some ((⟨0, [], 0, []⟩ : GFrame), 2)) else (some ({ x4 with Size := y6.2 }, 0))) (fun _ => none))))

def frame_Kept (p0 : GFrame) (p1 : Int) : Option (Int) :=
  some (IntKind.wrap .i64 (4 * (IntKind.wrap .i64 (p1 + 1))))

def frame_Slot (p0 : GFrame) (p1 : Int) : Option (Int) :=
  some (IntKind.wrap .i64 (p0.Slots + (IntKind.wrap .i64 (4 * p1))))

def law25_awake  : Option (Bool) :=
  (frame_Lay (⟨([] : List UInt8), false, 0, 3, ([(⟨([] : List UInt8), 5, 1, 0⟩ : GSlot)] : List GSlot), []⟩ : Proc) ([(⟨9, (-1)⟩ : Seat), (⟨8, (-1)⟩ : Seat), (⟨0, 0⟩ : Seat)] : List Seat) 1).bind fun y1 => bif y1.2 == 0 then (bif y1.1.Size == 24 then (bif (List.length y1.1.Saved : Int) == 2 then ((idx y1.1.Saved 0).bind fun u1 => bif u1 == 8 then ((frame_Kept y1.1 1).bind fun y2 => bif y2 == 8 then ((frame_Slot y1.1 0).bind fun y3 => bif y3 == 12 then (bif (List.length y1.1.Objects : Int) == 1 then ((idx y1.1.Objects 0).bind fun u2 => some (u2 == 16)) else (some false)) else (some false)) else (some false)) else (some false)) else (some false)) else (some false)) else (some false)

def ref25_Saved (p0 : List Seat) : Option ((List Int)) :=
  (loopM (fun (x1, x2) => (bif decide (x2 < 12) then (jn (fun kk1 => (loopM (fun (x4, x5) => (bif decide (x5 < (List.length p0 : Int)) then (bif x4 then (some (Lp.go (true, IntKind.wrap .i64 (x5 + 1)))) else ((idx p0 x5).bind fun u1 => (ref24_Name x2).bind fun y1 => some (Lp.go (u1.Reg == y1, IntKind.wrap .i64 (x5 + 1))))) else (some (Lp.brk (x4, x5))) : Option (Lp (Bool × Int) (Unit)))) NN (false, 0)).bind fun o => o.thn (fun (x4, x5) => bif x4 then ((ref24_Name x2).bind fun y2 => (room (List.length x1 + List.length ([y2] : List Int))).bind fun _ => kk1 (x1 ++ ([y2] : List Int))) else (kk1 x1)) (fun _ => none)) (fun (x3 : List Int) => some (Lp.go (x3, IntKind.wrap .i64 (x2 + 1))))) else (some (Lp.brk (x1, x2))) : Option (Lp ((List Int) × Int) (Unit)))) NN ([], 0)).bind fun o => o.thn (fun (x1, x2) => some x1) (fun _ => none)

def ref14_next (p0 : Int) : Option (Int) :=
  (loopM (fun (x1 : Int) => (bif (Int.tmod x1 4) != 0 then (some (Lp.go (IntKind.wrap .i64 (x1 + 1)))) else (some (Lp.brk x1)) : Option (Lp (Int) (Unit)))) NN p0).bind fun o => o.thn (fun (x1 : Int) => some x1) (fun _ => none)

def ref14_Place (p0 : List GSlot) : Option ((List Int) × Int) :=
  (loopM (fun (x1, x2, x3) => (bif decide (x3 < (List.length p0 : Int)) then ((room (List.length x1 + List.length ([x2] : List Int))).bind fun _ => (idx p0 x3).bind fun u1 => (ref14_next (IntKind.wrap .i64 (x2 + u1.Size))).bind fun y1 => some (Lp.go (x1 ++ ([x2] : List Int), y1, IntKind.wrap .i64 (x3 + 1)))) else (some (Lp.brk (x1, x2, x3))) : Option (Lp ((List Int) × Int × Int) (Unit)))) NN ([], 0, 0)).bind fun o => o.thn (fun (x1, x2, x3) => some (x1, x2)) (fun _ => none)

def ref25_Lay (p0 : Proc) (p1 : List Seat) (p2 : Int) : Option (GFrame × Int) :=
  bif decide (p2 < 0) then (some ((⟨0, [], 0, []⟩ : GFrame), 1)) else (bif (List.length p1 : Int) != p0.Regs then (some ((⟨0, [], 0, []⟩ : GFrame), 1)) else (bif decide (2000 < p2) then (some ((⟨0, [], 0, []⟩ : GFrame), 2)) else ((ref25_Saved p1).bind fun y1 => (ref14_Place p0.Objects).bind fun y2 => (loopM (fun (x3, x4) => (bif decide (x3 < (List.length y2.1 : Int)) then ((idx y2.1 x3).bind fun u1 => (room (List.length x4.Objects + List.length ([IntKind.wrap .i64 ((IntKind.wrap .i64 ((IntKind.wrap .i64 (4 + (IntKind.wrap .i64 (4 * (List.length y1 : Int))))) + (IntKind.wrap .i64 (4 * p2)))) + u1)] : List Int))).bind fun _ => some (Lp.go (IntKind.wrap .i64 (x3 + 1), { x4 with Objects := x4.Objects ++ ([IntKind.wrap .i64 ((IntKind.wrap .i64 ((IntKind.wrap .i64 (4 + (IntKind.wrap .i64 (4 * (List.length y1 : Int))))) + (IntKind.wrap .i64 (4 * p2)))) + u1)] : List Int) }))) else (some (Lp.brk (x3, x4))) : Option (Lp (Int × GFrame) (Unit)))) NN (0, (⟨0, y1, IntKind.wrap .i64 (4 + (IntKind.wrap .i64 (4 * (List.length y1 : Int)))), []⟩ : GFrame))).bind fun o => o.thn (fun (x3, x4) => bif decide (2000 < (IntKind.wrap .i64 ((IntKind.wrap .i64 ((IntKind.wrap .i64 (4 + (IntKind.wrap .i64 (4 * (List.length y1 : Int))))) + (IntKind.wrap .i64 (4 * p2)))) + y2.2))) then (some ((⟨0, [], 0, []⟩ : GFrame), 2)) else (some ({ x4 with Size := IntKind.wrap .i64 ((IntKind.wrap .i64 ((IntKind.wrap .i64 (4 + (IntKind.wrap .i64 (4 * (List.length y1 : Int))))) + (IntKind.wrap .i64 (4 * p2)))) + y2.2) }, 0))) (fun _ => none))))

def law25_same (p0 : List Int) (p1 : List Int) : Option (Bool) :=
  bif (List.length p0 : Int) != (List.length p1 : Int) then (some false) else ((loopM (fun (x1 : Int) => (bif decide (x1 < (List.length p0 : Int)) then ((idx p0 x1).bind fun u1 => (idx p1 x1).bind fun u2 => bif u1 != u2 then (some (Lp.ret false)) else (some (Lp.go (IntKind.wrap .i64 (x1 + 1))))) else (some (Lp.brk x1)) : Option (Lp (Int) (Bool)))) NN 0).bind fun o => o.thn (fun (x1 : Int) => some true) (fun r => some r))

def law25_FrameLays (p0 : Proc) (p1 : List Seat) (p2 : Int) : Option (Bool) :=
  (law25_few p0 p1).bind fun y1 => bif !y1 then ((law25_awake).bind fun y2 => some y2) else ((frame_Lay p0 p1 p2).bind fun y3 => (ref25_Lay p0 p1 p2).bind fun y4 => (law25_awake).bind fun y5 => bif y5 then (bif y3.2 == y4.2 then (bif y3.1.Size == y4.1.Size then (bif y3.1.Slots == y4.1.Slots then ((law25_same y3.1.Saved y4.1.Saved).bind fun y6 => bif y6 then ((law25_same y3.1.Objects y4.1.Objects).bind fun y7 => some y7) else (some false)) else (some false)) else (some false)) else (some false)) else (some false))

def law25_FrameApart (p0 : Proc) (p1 : List Seat) (p2 : Int) : Option (Bool) :=
  (law25_few p0 p1).bind fun y1 => bif !y1 then ((law25_awake).bind fun y9 => some y9) else (bif decide (p2 < 0) then ((law25_awake).bind fun y8 => some y8) else (bif decide (600 < p2) then ((law25_awake).bind fun y2 => some y2) else ((frame_Lay p0 p1 p2).bind fun y3 => bif y3.2 != 0 then ((law25_awake).bind fun y4 => some y4) else (bif decide (y3.1.Size < 0) then (some false) else (bif decide (2000 < y3.1.Size) then (some false) else (bif (List.length y3.1.Objects : Int) != (List.length p0.Objects : Int) then (some false) else ((repl y3.1.Size false).bind fun u1 => (loopM (fun (x1, x2, x3) => (bif decide (x3 < (List.length y3.1.Saved : Int)) then ((frame_Kept y3.1 x3).bind fun y5 => (room (List.length x2 + List.length ([y5] : List Int))).bind fun _ => (room (List.length x1 + List.length ([4] : List Int))).bind fun _ => some (Lp.go (x1 ++ ([4] : List Int), x2 ++ ([y5] : List Int), IntKind.wrap .i64 (x3 + 1)))) else (some (Lp.brk (x1, x2, x3))) : Option (Lp ((List Int) × (List Int) × Int) (Unit)))) NN (([4] : List Int), ([0] : List Int), 0)).bind fun o => o.thn (fun (x1, x2, x3) => (loopM (fun (x4, x5, x6) => (bif decide (x6 < p2) then ((frame_Slot y3.1 x6).bind fun y6 => (room (List.length x5 + List.length ([y6] : List Int))).bind fun _ => (room (List.length x4 + List.length ([4] : List Int))).bind fun _ => some (Lp.go (x4 ++ ([4] : List Int), x5 ++ ([y6] : List Int), IntKind.wrap .i64 (x6 + 1)))) else (some (Lp.brk (x4, x5, x6))) : Option (Lp ((List Int) × (List Int) × Int) (Unit)))) NN (x1, x2, 0)).bind fun o => o.thn (fun (x4, x5, x6) => (loopM (fun (x7, x8, x9) => (bif decide (x9 < (List.length y3.1.Objects : Int)) then ((idx y3.1.Objects x9).bind fun u2 => (room (List.length x8 + List.length ([u2] : List Int))).bind fun _ => (idx p0.Objects x9).bind fun u3 => (room (List.length x7 + List.length ([u3.Size] : List Int))).bind fun _ => some (Lp.go (x7 ++ ([u3.Size] : List Int), x8 ++ ([u2] : List Int), IntKind.wrap .i64 (x9 + 1)))) else (some (Lp.brk (x7, x8, x9))) : Option (Lp ((List Int) × (List Int) × Int) (Unit)))) NN (x4, x5, 0)).bind fun o => o.thn (fun (x7, x8, x9) => (loopM (fun (x10, x11) => (bif decide (x11 < (List.length x8 : Int)) then ((idx x8 x11).bind fun u4 => bif decide (u4 < 0) then (some (Lp.ret false)) else ((idx x8 x11).bind fun u5 => bif (Int.tmod u5 4) != 0 then (some (Lp.ret false)) else ((idx x8 x11).bind fun u6 => bif decide (y3.1.Size < u6) then (some (Lp.ret false)) else ((idx x7 x11).bind fun u7 => (idx x8 x11).bind fun u8 => bif decide ((IntKind.wrap .i64 (y3.1.Size - u8)) < u7) then (some (Lp.ret false)) else ((loopM (fun (x12, x13) => ((idx x7 x11).bind fun u9 => bif decide (x13 < u9) then ((idx x8 x11).bind fun u10 => (idx x12 (IntKind.wrap .i64 (u10 + x13))).bind fun u11 => bif u11 then (some (Lp.ret false)) else ((idx x8 x11).bind fun u12 => (idx x12 (IntKind.wrap .i64 (u12 + x13))).bind fun u13 => (idx x12 (IntKind.wrap .i64 (u12 + x13))).bind fun u14 => some (Lp.go (List.set x12 (Int.toNat (IntKind.wrap .i64 (u12 + x13))) true, IntKind.wrap .i64 (x13 + 1))))) else (some (Lp.brk (x12, x13))) : Option (Lp ((List Bool) × Int) (Bool)))) NN (x10, 0)).bind fun o => o.thn (fun (x12, x13) => some (Lp.go (x12, IntKind.wrap .i64 (x11 + 1)))) (fun r => some (Lp.ret r))))))) else (some (Lp.brk (x10, x11))) : Option (Lp ((List Bool) × Int) (Bool)))) NN (u1, 0)).bind fun o => o.thn (fun (x10, x11) => (law25_awake).bind fun y7 => bif y7 then (some ((Int.tmod y3.1.Size 4) == 0)) else (some false)) (fun r => some r)) (fun _ => none)) (fun _ => none)) (fun _ => none))))))))
end Go.Proofs.Ytejhglcbjpdjlaa
