/- The models of Go functions: what each computes. Printed by gen2.py. -/
import Derived.Test.YtbbppcogjdmmiaaModel
import Derived.Laws.Entries
set_option linter.unusedVariables false
namespace Go.Proofs.Ytbbppcogjdmmiaa
structure GImage where
  Code : List Int
  Data : List Int
  Limit : Int
  Notes : Int
  deriving DecidableEq
structure PackReader where
  b : List Int
  deriving DecidableEq
structure PackBroken where
  deriving DecidableEq
structure ref32Read where
  G : GImage
  Is : Bool
  deriving DecidableEq


def law32_few (p0 : GImage) : Option (Bool) :=
  bif decide ((List.length p0.Code : Int) ≤ 300) then (bif decide ((List.length p0.Data : Int) ≤ 3000) then (some true) else (bif decide (65536 < (List.length p0.Data : Int)) then (some (decide ((List.length p0.Data : Int) ≤ 66000))) else (some false))) else (bif decide (32768 < (List.length p0.Code : Int)) then (bif decide ((List.length p0.Code : Int) ≤ 33000) then (bif decide ((List.length p0.Data : Int) ≤ 3000) then (some true) else (bif decide (65536 < (List.length p0.Data : Int)) then (some (decide ((List.length p0.Data : Int) ≤ 66000))) else (some false))) else (some false)) else (some false))

def pack_right (p0 : GImage) : Option (Bool) :=
  bif decide (1 ≤ (List.length p0.Code : Int)) then (bif decide ((List.length p0.Code : Int) ≤ 32768) then (bif decide (4 ≤ (List.length p0.Data : Int)) then (bif decide ((List.length p0.Data : Int) ≤ 65536) then (bif decide (268435456 ≤ p0.Limit) then (bif decide ((IntKind.wrap .i64 (p0.Limit - 268435456)) ≤ (List.length p0.Data : Int)) then (bif decide (0 ≤ p0.Notes) then (some (decide (p0.Notes ≤ 64))) else (some false)) else (some false)) else (some false)) else (some false)) else (some false)) else (some false)) else (some false)

def pack_sign  : Option ((List Int)) :=
  some ([82, 83, 72, 1] : List Int)

def pack_number (p0 : List Int) (p1 : Int) : Option ((List Int)) :=
  (room (List.length p0 + List.length ([IntKind.wrap .u8 p1, IntKind.wrap .u8 (Int.fdiv p1 (2 ^ (min (Int.toNat 8) (IntKind.bits .u32)))), IntKind.wrap .u8 (Int.fdiv p1 (2 ^ (min (Int.toNat 16) (IntKind.bits .u32)))), IntKind.wrap .u8 (Int.fdiv p1 (2 ^ (min (Int.toNat 24) (IntKind.bits .u32))))] : List Int))).bind fun _ => some (p0 ++ ([IntKind.wrap .u8 p1, IntKind.wrap .u8 (Int.fdiv p1 (2 ^ (min (Int.toNat 8) (IntKind.bits .u32)))), IntKind.wrap .u8 (Int.fdiv p1 (2 ^ (min (Int.toNat 16) (IntKind.bits .u32)))), IntKind.wrap .u8 (Int.fdiv p1 (2 ^ (min (Int.toNat 24) (IntKind.bits .u32))))] : List Int))

def pack_zeros (p0 : List Int) : Option (Int) :=
  (loopM (fun (x1 : Int) => (bif decide (x1 < (min (List.length p0 : Int) 128)) then ((idx p0 x1).bind fun u1 => bif u1 == 0 then (some (Lp.go (IntKind.wrap .i64 (x1 + 1)))) else (some (Lp.brk x1))) else (some (Lp.brk x1)) : Option (Lp (Int) (Unit)))) NN 0).bind fun o => o.thn (fun (x1 : Int) => some x1) (fun _ => none)

def pack_stops (p0 : List Int) : Option (Bool) :=
  (pack_zeros p0).bind fun y1 => bif decide (3 ≤ y1) then (some true) else (bif decide (0 < y1) then (some (y1 == (List.length p0 : Int))) else (some false))

def pack_run (p0 : List Int) : Option (Int × Bool) :=
  (pack_stops p0).bind fun y1 => bif y1 then ((pack_zeros p0).bind fun y2 => some (y2, true)) else ((loopM (fun (x1 : Int) => (bif decide (x1 < (List.length p0 : Int)) then (bif decide (x1 < 127) then ((sub p0 x1 (List.length p0 : Int)).bind fun u1 => (pack_stops u1).bind fun y3 => bif !y3 then (some (Lp.go (IntKind.wrap .i64 (x1 + 1)))) else (some (Lp.brk x1))) else (some (Lp.brk x1))) else (some (Lp.brk x1)) : Option (Lp (Int) (Unit)))) NN 0).bind fun o => o.thn (fun (x1 : Int) => some (x1, false)) (fun _ => none))

def pack_runs (p0 : List Int) (p1 : List Int) : Option ((List Int)) :=
  (loopM (fun (x1, x2) => (bif decide (0 < (List.length x2 : Int)) then ((pack_run x2).bind fun y1 => jn (fun kk1 => bif y1.2 then ((room (List.length x1 + List.length ([IntKind.wrap .u8 (IntKind.wrap .i64 (127 + y1.1))] : List Int))).bind fun _ => kk1 (x1 ++ ([IntKind.wrap .u8 (IntKind.wrap .i64 (127 + y1.1))] : List Int))) else ((room (List.length x1 + List.length ([IntKind.wrap .u8 y1.1] : List Int))).bind fun _ => (sub x2 0 y1.1).bind fun u1 => (room (List.length (x1 ++ ([IntKind.wrap .u8 y1.1] : List Int)) + List.length u1)).bind fun _ => kk1 ((x1 ++ ([IntKind.wrap .u8 y1.1] : List Int)) ++ u1))) (fun (x3 : List Int) => (sub x2 y1.1 (List.length x2 : Int)).bind fun u2 => some (Lp.go (x3, u2)))) else (some (Lp.brk (x1, x2))) : Option (Lp ((List Int) × (List Int)) (Unit)))) NN (p0, p1)).bind fun o => o.thn (fun (x1, x2) => some x1) (fun _ => none)

def pack_Encode (p0 : GImage) : Option ((List Int) × Int) :=
  (pack_right p0).bind fun y1 => bif !y1 then (some ([], 1)) else ((pack_sign).bind fun y2 => (loopM (fun (x1, x2) => (bif decide (x2 < (List.length ([(List.length p0.Code : Int), (List.length p0.Data : Int), IntKind.wrap .i64 (p0.Limit - 268435456), p0.Notes] : List Int) : Int)) then ((idx ([(List.length p0.Code : Int), (List.length p0.Data : Int), IntKind.wrap .i64 (p0.Limit - 268435456), p0.Notes] : List Int) x2).bind fun u1 => (pack_number x1 (IntKind.wrap .u32 u1)).bind fun y3 => some (Lp.go (y3, IntKind.wrap .i64 (x2 + 1)))) else (some (Lp.brk (x1, x2))) : Option (Lp ((List Int) × Int) (Unit)))) NN (y2, 0)).bind fun o => o.thn (fun (x1, x2) => (loopM (fun (x3, x4) => (bif decide (x4 < (List.length p0.Code : Int)) then ((idx p0.Code x4).bind fun u2 => (pack_number x3 u2).bind fun y4 => some (Lp.go (y4, IntKind.wrap .i64 (x4 + 1)))) else (some (Lp.brk (x3, x4))) : Option (Lp ((List Int) × Int) (Unit)))) NN (x1, 0)).bind fun o => o.thn (fun (x3, x4) => (pack_runs x3 p0.Data).bind fun y5 => some (y5, 0)) (fun _ => none)) (fun _ => none))

def law32_awake  : Option (Bool) :=
  (pack_Encode (⟨([1] : List Int), ([5, 0, 0, 0, 0] : List Int), 268435456, 0⟩ : GImage)).bind fun y1 => (pack_Encode (⟨([1] : List Int), ([0, 0, 7, 8] : List Int), 268435456, 0⟩ : GImage)).bind fun y2 => bif y1.2 == 0 then (bif y2.2 == 0 then (bif decide (bytesStr y1.1 = ([82, 83, 72, 1, 1, 0, 0, 0, 5, 0, 0, 0, 0, 0, 0, 0, 0, 0, 0, 0, 1, 0, 0, 0, 1, 5, 131] : List UInt8)) then (bif (List.length y2.1 : Int) == 29 then ((idx y2.1 24).bind fun u1 => some (u1 == 4)) else (some false)) else (some false)) else (some false)) else (some false)

def ref32_Right (p0 : GImage) : Option (Bool) :=
  bif decide (1 ≤ (List.length p0.Code : Int)) then (bif decide ((List.length p0.Code : Int) ≤ 32768) then (bif decide (4 ≤ (List.length p0.Data : Int)) then (bif decide ((List.length p0.Data : Int) ≤ 65536) then (bif decide (268435456 ≤ p0.Limit) then (bif decide ((IntKind.wrap .i64 (p0.Limit - 268435456)) ≤ (List.length p0.Data : Int)) then (bif decide (0 ≤ p0.Notes) then (some (decide (p0.Notes ≤ 64))) else (some false)) else (some false)) else (some false)) else (some false)) else (some false)) else (some false)) else (some false)

def pack_reader_take (p0 : PackReader) (p1 : Int) : Option (Except (PackReader) ((List Int) × PackReader)) :=
  bif decide (p1 < 0) then (some (Except.error p0)) else (bif decide ((List.length p0.b : Int) < p1) then (some (Except.error p0)) else ((sub p0.b 0 p1).bind fun u1 => (sub p0.b p1 (List.length p0.b : Int)).bind fun u2 => some (Except.ok (u1, (⟨u2⟩ : PackReader)))))

def pack_reader_number (p0 : PackReader) : Option (Except (PackReader) (Int × PackReader)) :=
  (pack_reader_take p0 4).bind fun y1 => exC y1 (fun y1 => (idx y1.1 0).bind fun u1 => (idx y1.1 1).bind fun u2 => (idx y1.1 2).bind fun u3 => (idx y1.1 3).bind fun u4 => some (Except.ok (bits .or .i64 (bits .or .i64 (bits .or .i64 (IntKind.wrap .i64 u1) (IntKind.wrap .i64 ((IntKind.wrap .i64 u2) * 2 ^ (min (Int.toNat 8) (IntKind.bits .i64))))) (IntKind.wrap .i64 ((IntKind.wrap .i64 u3) * 2 ^ (min (Int.toNat 16) (IntKind.bits .i64))))) (IntKind.wrap .i64 ((IntKind.wrap .i64 u4) * 2 ^ (min (Int.toNat 24) (IntKind.bits .i64)))), y1.2))) (fun e1 => some (Except.error e1))

def pack_reader_most (p0 : PackReader) (p1 : Int) : Option (Except (PackReader) (Int × PackReader)) :=
  (pack_reader_number p0).bind fun y1 => exC y1 (fun y1 => bif decide (p1 < y1.1) then (some (Except.error y1.2)) else (some (Except.ok (y1.1, y1.2)))) (fun e1 => some (Except.error e1))

def pack_reader_data (p0 : PackReader) (p1 : Int) : Option (Except (PackReader) ((List Int) × PackReader)) :=
  (loopM (fun (x1, x2) => (bif decide ((List.length x1 : Int) < p1) then (jn (fun kk1 => (pack_reader_take x2 1).bind fun y1 => exC y1 (fun y1 => (idx y1.1 0).bind fun u1 => bif decide (127 < (IntKind.wrap .i64 u1)) then ((nn (IntKind.wrap .i64 ((IntKind.wrap .i64 u1) - 127))).bind fun _ => (room (List.length x1 + Int.toNat (IntKind.wrap .i64 ((IntKind.wrap .i64 u1) - 127)))).bind fun _ => kk1 (x1 ++ List.replicate (Int.toNat (IntKind.wrap .i64 ((IntKind.wrap .i64 u1) - 127))) 0) y1.2) else ((pack_reader_take y1.2 (IntKind.wrap .i64 u1)).bind fun y2 => exC y2 (fun y2 => (room (List.length x1 + List.length y2.1)).bind fun _ => kk1 (x1 ++ y2.1) y2.2) (fun e1 => some (Lp.ret (Except.error e1))))) (fun e2 => some (Lp.ret (Except.error e2)))) (fun (x3 : List Int) (x4 : PackReader) => bif (List.length x4.b : Int) == 0 then (bif decide ((List.length x3 : Int) < p1) then (some (Lp.ret (Except.error x4))) else (some (Lp.go (x3, x4)))) else (some (Lp.go (x3, x4))))) else (some (Lp.brk (x1, x2))) : Option (Lp ((List Int) × PackReader) (Except (PackReader) ((List Int) × PackReader))))) NN ([], p0)).bind fun o => o.thn (fun (x1, x2) => some (Except.ok (x1, x2))) (fun r => some r)

def pack_reader_read (p0 : PackReader) : Option (GImage × Bool × PackReader) :=
  (pack_reader_take p0 4).bind fun y1 => exC y1 (fun y1 => (pack_reader_most y1.2 32768).bind fun y2 => exC y2 (fun y2 => (pack_reader_most y2.2 65536).bind fun y3 => exC y3 (fun y3 => (pack_reader_most y3.2 65536).bind fun y4 => exC y4 (fun y4 => (pack_reader_most y4.2 64).bind fun y5 => exC y5 (fun y5 => (loopM (fun (x2, x3, x4) => (bif decide (x2 < y2.1) then ((pack_reader_number x4).bind fun y6 => exC y6 (fun y6 => (room (List.length x3.Code + List.length ([IntKind.wrap .u32 y6.1] : List Int))).bind fun _ => some (Lp.go (IntKind.wrap .i64 (x2 + 1), { x3 with Code := x3.Code ++ ([IntKind.wrap .u32 y6.1] : List Int) }, y6.2))) (fun e1 => some (Lp.ret ((⟨[], [], 0, 0⟩ : GImage), false, e1)))) else (some (Lp.brk (x2, x3, x4))) : Option (Lp (Int × GImage × PackReader) (GImage × Bool × PackReader)))) NN (0, (⟨[], [], IntKind.wrap .i64 (y4.1 + 268435456), y5.1⟩ : GImage), y5.2)).bind fun o => o.thn (fun (x2, x3, x4) => (pack_reader_data x4 y3.1).bind fun y7 => exC y7 (fun y7 => some ({ x3 with Data := y7.1 }, true, y7.2)) (fun e2 => some ((⟨[], [], 0, 0⟩ : GImage), false, e2))) (fun r => some r)) (fun e3 => some ((⟨[], [], 0, 0⟩ : GImage), false, e3))) (fun e4 => some ((⟨[], [], 0, 0⟩ : GImage), false, e4))) (fun e5 => some ((⟨[], [], 0, 0⟩ : GImage), false, e5))) (fun e6 => some ((⟨[], [], 0, 0⟩ : GImage), false, e6))) (fun e7 => some ((⟨[], [], 0, 0⟩ : GImage), false, e7))

def bytes_Equal (p0 : List Int) (p1 : List Int) : Option (Bool) :=
  some (decide (bytesStr p0 = bytesStr p1))

def bytes_Clone (p0 : List Int) : Option ((List Int)) :=
  (room (List.length ([] : List Int) + List.length p0)).bind fun _ => some (([] : List Int) ++ p0)

def pack_Decode (p0 : List Int) : Option (GImage × Int) :=
  bif decide (262144 < (List.length p0 : Int)) then (some ((⟨[], [], 0, 0⟩ : GImage), 2)) else ((pack_reader_read (⟨p0⟩ : PackReader)).bind fun y1 => bif !y1.2.1 then (some ((⟨[], [], 0, 0⟩ : GImage), 3)) else ((pack_Encode y1.1).bind fun y2 => bif y2.2 != 0 then (some ((⟨[], [], 0, 0⟩ : GImage), 3)) else ((bytes_Equal y2.1 p0).bind fun y3 => bif !y3 then (some ((⟨[], [], 0, 0⟩ : GImage), 3)) else ((bytes_Clone y1.1.Data).bind fun y4 => some ({ y1.1 with Data := y4 }, 0)))))

def ref32_num (p0 : Int) : Option ((List Int)) :=
  some ([IntKind.wrap .u8 (Int.tmod p0 256), IntKind.wrap .u8 (Int.tmod (IntKind.wrap .i64 (Int.tdiv p0 256)) 256), IntKind.wrap .u8 (Int.tmod (IntKind.wrap .i64 (Int.tdiv p0 65536)) 256), IntKind.wrap .u8 (IntKind.wrap .i64 (Int.tdiv p0 16777216))] : List Int)

def ref32_join (p0 : List Int) (p1 : List Int) : Option ((List Int)) :=
  (loopM (fun (x1, x2) => (bif decide (x2 < (List.length p1 : Int)) then ((idx p1 x2).bind fun u1 => (room (List.length x1 + List.length ([u1] : List Int))).bind fun _ => some (Lp.go (x1 ++ ([u1] : List Int), IntKind.wrap .i64 (x2 + 1)))) else (some (Lp.brk (x1, x2))) : Option (Lp ((List Int) × Int) (Unit)))) NN (p0, 0)).bind fun o => o.thn (fun (x1, x2) => some x1) (fun _ => none)

def ref32_noughts (p0 : List Int) (p1 : Int) : Option (Int) :=
  (loopM (fun (x1 : Int) => (bif decide ((IntKind.wrap .i64 (p1 + x1)) < (List.length p0 : Int)) then ((idx p0 (IntKind.wrap .i64 (p1 + x1))).bind fun u1 => bif u1 == 0 then (some (Lp.go (IntKind.wrap .i64 (x1 + 1)))) else (some (Lp.brk x1))) else (some (Lp.brk x1)) : Option (Lp (Int) (Unit)))) NN 0).bind fun o => o.thn (fun (x1 : Int) => some x1) (fun _ => none)

def ref32_begins (p0 : List Int) (p1 : Int) : Option (Bool) :=
  (ref32_noughts p0 p1).bind fun y1 => bif decide (3 ≤ y1) then (some true) else (bif decide (1 ≤ y1) then (some ((IntKind.wrap .i64 (p1 + y1)) == (List.length p0 : Int))) else (some false))

def ref32_Runs (p0 : List Int) : Option ((List Int)) :=
  (loopM (fun (x1, x2) => (bif decide (x2 < (List.length p0 : Int)) then ((ref32_begins p0 x2).bind fun y1 => bif y1 then ((ref32_noughts p0 x2).bind fun y2 => (room (List.length x1 + List.length ([IntKind.wrap .u8 (IntKind.wrap .i64 (127 + (min y2 128)))] : List Int))).bind fun _ => some (Lp.go (x1 ++ ([IntKind.wrap .u8 (IntKind.wrap .i64 (127 + (min y2 128)))] : List Int), IntKind.wrap .i64 (x2 + (min y2 128))))) else ((loopM (fun (x3 : Int) => (bif decide ((IntKind.wrap .i64 (x2 + x3)) < (List.length p0 : Int)) then (bif decide (x3 < 127) then ((ref32_begins p0 (IntKind.wrap .i64 (x2 + x3))).bind fun y3 => bif !y3 then (some (Lp.go (IntKind.wrap .i64 (x3 + 1)))) else (some (Lp.brk x3))) else (some (Lp.brk x3))) else (some (Lp.brk x3)) : Option (Lp (Int) (Unit)))) NN 0).bind fun o => o.thn (fun (x3 : Int) => (room (List.length x1 + List.length ([IntKind.wrap .u8 x3] : List Int))).bind fun _ => (loopM (fun (x4, x5) => (bif decide (x5 < x3) then ((idx p0 (IntKind.wrap .i64 (x2 + x5))).bind fun u1 => (room (List.length x4 + List.length ([u1] : List Int))).bind fun _ => some (Lp.go (x4 ++ ([u1] : List Int), IntKind.wrap .i64 (x5 + 1)))) else (some (Lp.brk (x4, x5))) : Option (Lp ((List Int) × Int) (Unit)))) NN (x1 ++ ([IntKind.wrap .u8 x3] : List Int), 0)).bind fun o => o.thn (fun (x4, x5) => some (Lp.go (x4, IntKind.wrap .i64 (x2 + x3)))) (fun _ => none)) (fun _ => none))) else (some (Lp.brk (x1, x2))) : Option (Lp ((List Int) × Int) (Unit)))) NN ([], 0)).bind fun o => o.thn (fun (x1, x2) => some x1) (fun _ => none)

def ref32_Encode (p0 : GImage) : Option ((List Int)) :=
  (ref32_num (List.length p0.Code : Int)).bind fun y1 => (ref32_join ([82, 83, 72, 1] : List Int) y1).bind fun y2 => (ref32_num (List.length p0.Data : Int)).bind fun y3 => (ref32_join y2 y3).bind fun y4 => (ref32_num (IntKind.wrap .i64 (p0.Limit - 268435456))).bind fun y5 => (ref32_join y4 y5).bind fun y6 => (ref32_num p0.Notes).bind fun y7 => (ref32_join y6 y7).bind fun y8 => (loopM (fun (x1, x2) => (bif decide (x2 < (List.length p0.Code : Int)) then ((idx p0.Code x2).bind fun u1 => (ref32_num (IntKind.wrap .i64 u1)).bind fun y9 => (ref32_join x1 y9).bind fun y10 => some (Lp.go (y10, IntKind.wrap .i64 (x2 + 1)))) else (some (Lp.brk (x1, x2))) : Option (Lp ((List Int) × Int) (Unit)))) NN (y8, 0)).bind fun o => o.thn (fun (x1, x2) => (ref32_Runs p0.Data).bind fun y11 => (ref32_join x1 y11).bind fun y12 => some y12) (fun _ => none)

def law32_Same (p0 : GImage) (p1 : GImage) : Option (Bool) :=
  bif (List.length p0.Code : Int) != (List.length p1.Code : Int) then (some false) else (bif !(decide (bytesStr p0.Data = bytesStr p1.Data)) then (some false) else (bif p0.Limit != p1.Limit then (some false) else (bif p0.Notes != p1.Notes then (some false) else ((loopM (fun (x1 : Int) => (bif decide (x1 < (List.length p0.Code : Int)) then ((idx p0.Code x1).bind fun u1 => (idx p1.Code x1).bind fun u2 => bif u1 != u2 then (some (Lp.ret false)) else (some (Lp.go (IntKind.wrap .i64 (x1 + 1))))) else (some (Lp.brk x1)) : Option (Lp (Int) (Bool)))) NN 0).bind fun o => o.thn (fun (x1 : Int) => some true) (fun r => some r)))))

def law32_PackWrites (p0 : GImage) : Option (Bool) :=
  (law32_few p0).bind fun y1 => bif !y1 then ((law32_awake).bind fun y2 => some y2) else ((pack_Encode p0).bind fun y3 => (ref32_Right p0).bind fun y4 => bif !y4 then ((law32_awake).bind fun y5 => bif y5 then (bif y3.2 == 1 then (some ((List.length y3.1 : Int) == 0)) else (some false)) else (some false)) else ((pack_Decode y3.1).bind fun y6 => (law32_awake).bind fun y7 => bif y7 then (bif y3.2 == 0 then ((ref32_Encode p0).bind fun y8 => bif decide (bytesStr y3.1 = bytesStr y8) then (bif y6.2 == 0 then ((law32_Same y6.1 p0).bind fun y9 => some y9) else (some false)) else (some false)) else (some false)) else (some false)))

def ref32_at (p0 : List Int) (p1 : Int) : Option (Int) :=
  (idx p0 p1).bind fun u1 => (idx p0 (IntKind.wrap .i64 (p1 + 1))).bind fun u2 => (idx p0 (IntKind.wrap .i64 (p1 + 2))).bind fun u3 => (idx p0 (IntKind.wrap .i64 (p1 + 3))).bind fun u4 => some (IntKind.wrap .i64 ((IntKind.wrap .i64 ((IntKind.wrap .i64 ((IntKind.wrap .i64 u1) + (IntKind.wrap .i64 (256 * (IntKind.wrap .i64 u2))))) + (IntKind.wrap .i64 (65536 * (IntKind.wrap .i64 u3))))) + (IntKind.wrap .i64 (16777216 * (IntKind.wrap .i64 u4)))))

def ref32_Decode (p0 : List Int) : Option (ref32Read) :=
  bif decide ((List.length p0 : Int) < 20) then (some (⟨(⟨[], [], 0, 0⟩ : GImage), false⟩ : ref32Read)) else ((ref32_at p0 4).bind fun y1 => (ref32_at p0 8).bind fun y2 => bif decide (32768 < y1) then (some (⟨(⟨[], [], 0, 0⟩ : GImage), false⟩ : ref32Read)) else (bif decide (65536 < y2) then (some (⟨(⟨[], [], 0, 0⟩ : GImage), false⟩ : ref32Read)) else (bif decide ((List.length p0 : Int) < (IntKind.wrap .i64 (20 + (IntKind.wrap .i64 (4 * y1))))) then (some (⟨(⟨[], [], 0, 0⟩ : GImage), false⟩ : ref32Read)) else ((ref32_at p0 12).bind fun y3 => bif decide (65536 < y3) then (some (⟨(⟨[], [], 0, 0⟩ : GImage), false⟩ : ref32Read)) else ((ref32_at p0 16).bind fun y4 => bif decide (64 < y4) then (some (⟨(⟨[], [], 0, 0⟩ : GImage), false⟩ : ref32Read)) else ((ref32_at p0 12).bind fun y5 => (ref32_at p0 16).bind fun y6 => (loopM (fun (x3, x4) => (bif decide (x3 < y1) then ((ref32_at p0 (IntKind.wrap .i64 (20 + (IntKind.wrap .i64 (4 * x3))))).bind fun y7 => (room (List.length x4.Code + List.length ([IntKind.wrap .u32 y7] : List Int))).bind fun _ => some (Lp.go (IntKind.wrap .i64 (x3 + 1), { x4 with Code := x4.Code ++ ([IntKind.wrap .u32 y7] : List Int) }))) else (some (Lp.brk (x3, x4))) : Option (Lp (Int × GImage) (Unit)))) NN (0, (⟨[], [], IntKind.wrap .i64 (268435456 + y5), y6⟩ : GImage))).bind fun o => o.thn (fun (x3, x4) => (loopM (fun (x7, x8) => (bif decide (x7 < (List.length p0 : Int)) then (bif decide ((List.length x8.Data : Int) < y2) then ((idx p0 x7).bind fun u1 => (loopM (fun (x11, x12) => (bif decide (x11 < (IntKind.wrap .i64 ((IntKind.wrap .i64 u1) - 127))) then ((room (List.length x12.Data + List.length ([0] : List Int))).bind fun _ => some (Lp.go (IntKind.wrap .i64 (x11 + 1), { x12 with Data := x12.Data ++ ([0] : List Int) }))) else (some (Lp.brk (x11, x12))) : Option (Lp (Int × GImage) (Unit)))) NN (0, x8)).bind fun o => o.thn (fun (x11, x12) => (loopM (fun (x15, x16, x17) => (bif decide ((IntKind.wrap .i64 u1) ≤ 127) then (bif decide (x16 < (IntKind.wrap .i64 u1)) then (bif decide (x15 < (List.length p0 : Int)) then ((idx p0 x15).bind fun u2 => (room (List.length x17.Data + List.length ([u2] : List Int))).bind fun _ => some (Lp.go (IntKind.wrap .i64 (x15 + 1), IntKind.wrap .i64 (x16 + 1), { x17 with Data := x17.Data ++ ([u2] : List Int) }))) else (some (Lp.brk (x15, x16, x17)))) else (some (Lp.brk (x15, x16, x17)))) else (some (Lp.brk (x15, x16, x17))) : Option (Lp (Int × Int × GImage) (Unit)))) NN (IntKind.wrap .i64 (x7 + 1), 0, x12)).bind fun o => o.thn (fun (x15, x16, x17) => some (Lp.go (x15, x17))) (fun _ => none)) (fun _ => none)) else (some (Lp.brk (x7, x8)))) else (some (Lp.brk (x7, x8))) : Option (Lp (Int × GImage) (Unit)))) NN (IntKind.wrap .i64 (20 + (IntKind.wrap .i64 (4 * y1))), x4)).bind fun o => o.thn (fun (x7, x8) => (ref32_Right x8).bind fun y8 => bif !y8 then (some (⟨(⟨[], [], 0, 0⟩ : GImage), false⟩ : ref32Read)) else ((ref32_Encode x8).bind fun y9 => bif (List.length y9 : Int) != (List.length p0 : Int) then (some (⟨(⟨[], [], 0, 0⟩ : GImage), false⟩ : ref32Read)) else ((loopM (fun (x18 : Int) => (bif decide (x18 < (List.length p0 : Int)) then ((idx y9 x18).bind fun u3 => (idx p0 x18).bind fun u4 => bif u3 != u4 then (some (Lp.ret (⟨(⟨[], [], 0, 0⟩ : GImage), false⟩ : ref32Read))) else (some (Lp.go (IntKind.wrap .i64 (x18 + 1))))) else (some (Lp.brk x18)) : Option (Lp (Int) (ref32Read)))) NN 0).bind fun o => o.thn (fun (x18 : Int) => some (⟨x8, true⟩ : ref32Read)) (fun r => some r)))) (fun _ => none)) (fun _ => none)))))))

def law32_PackReads (p0 : List Int) : Option (Bool) :=
  bif decide (4000 < (List.length p0 : Int)) then ((law32_awake).bind fun y1 => some y1) else ((pack_Decode p0).bind fun y2 => (ref32_Decode p0).bind fun y3 => bif !y3.Is then ((law32_awake).bind fun y4 => bif y4 then (bif y2.2 == 3 then ((law32_Same y2.1 (⟨[], [], 0, 0⟩ : GImage)).bind fun y5 => some y5) else (some false)) else (some false)) else ((pack_Encode y2.1).bind fun y6 => (law32_awake).bind fun y7 => bif y7 then (bif y2.2 == 0 then ((law32_Same y2.1 y3.G).bind fun y8 => bif y8 then (bif y6.2 == 0 then (some (decide (bytesStr y6.1 = bytesStr p0))) else (some false)) else (some false)) else (some false)) else (some false)))

def law32_PackCuts (p0 : GImage) (p1 : Int) (p2 : Int) : Option (Bool) :=
  (law32_few p0).bind fun y1 => bif !y1 then ((law32_awake).bind fun y8 => some y8) else ((ref32_Right p0).bind fun y2 => bif !y2 then ((law32_awake).bind fun y3 => some y3) else ((pack_Encode p0).bind fun y4 => bif y4.2 != 0 then (some false) else (bif (List.length y4.1 : Int) == 0 then (some false) else ((nz (List.length y4.1 : Int)).bind fun _ => (nz (List.length y4.1 : Int)).bind fun _ => (sub y4.1 0 (Int.tmod (IntKind.wrap .i64 ((Int.tmod p1 (List.length y4.1 : Int)) + (List.length y4.1 : Int))) (List.length y4.1 : Int))).bind fun u1 => (pack_Decode u1).bind fun y5 => (room (List.length ([] : List Int) + List.length y4.1)).bind fun _ => (room (List.length (([] : List Int) ++ y4.1) + List.length ([p2] : List Int))).bind fun _ => (pack_Decode ((([] : List Int) ++ y4.1) ++ ([p2] : List Int))).bind fun y6 => (law32_awake).bind fun y7 => bif y7 then (bif y5.2 == 3 then (some (y6.2 == 3)) else (some false)) else (some false)))))
end Go.Proofs.Ytbbppcogjdmmiaa
