/- The models of Go functions: what each computes. Printed by gen2.py. -/
import Derived.Test.YtokpeeflnijogaaGreatDoorModel
import Derived.Laws.Entries
import Derived.Lib.Index
set_option linter.unusedVariables false
namespace Go.Proofs.YtokpeeflnijogaaGreatDoor

def strings_Index (p0 p1 : List UInt8) : Option Int := if p0.length < 4294967281 then some (Go.Lib.index p0 p1) else none
def law29_awake : Option Bool := some true
structure GOptions where
  Data : Int
  Regs : Int
  Notes : Int
  Plain : Bool
  deriving DecidableEq
structure Pos where
  Line : Int
  Col : Int
  deriving DecidableEq
structure LexScanner where
  s : List UInt8
  pos : Pos
  deriving DecidableEq
structure GToken where
  Kind : Int
  Text : List UInt8
  Num : Int
  Pos : Pos
  deriving DecidableEq
structure ref07Token where
  Kind : Int
  Text : List UInt8
  Num : Int
  At : Int
  deriving DecidableEq
structure ref07Lexed where
  L : List ref07Token
  At : Int
  E : Int
  deriving DecidableEq
structure GImage where
  Code : List Int
  Data : List Int
  Limit : Int
  Notes : Int
  deriving DecidableEq
structure GModule where
  Globals : List Empty
  Data : List (List Int)
  Procs : List Empty
  Main : Int
  deriving DecidableEq
structure GProgram where
  Structs : List Empty
  Globals : List Empty
  Funcs : List Empty
  deriving DecidableEq
def tbl1 : List (List UInt8) := ([([98, 114, 101, 97, 107] : List UInt8), ([99, 97, 115, 101] : List UInt8), ([99, 104, 97, 114] : List UInt8), ([99, 111, 110, 116, 105, 110, 117, 101] : List UInt8), ([100, 101, 102, 97, 117, 108, 116] : List UInt8), ([100, 111] : List UInt8), ([101, 108, 115, 101] : List UInt8), ([102, 111, 114] : List UInt8), ([105, 102] : List UInt8), ([105, 110] : List UInt8), ([105, 110, 116] : List UInt8), ([111, 117, 116] : List UInt8), ([114, 101, 116, 117, 114, 110] : List UInt8), ([115, 105, 122, 101, 111, 102] : List UInt8), ([115, 116, 114, 117, 99, 116] : List UInt8), ([115, 119, 105, 116, 99, 104] : List UInt8), ([118, 111, 105, 100] : List UInt8), ([119, 104, 105, 108, 101] : List UInt8)] : List (List UInt8))
def tbl2 : List (List UInt8) := ([([43] : List UInt8), ([45] : List UInt8), ([42] : List UInt8), ([47] : List UInt8), ([37] : List UInt8), ([38] : List UInt8), ([124] : List UInt8), ([94] : List UInt8), ([126] : List UInt8), ([33] : List UInt8), ([60] : List UInt8), ([62] : List UInt8), ([61] : List UInt8), ([63] : List UInt8), ([58] : List UInt8), ([59] : List UInt8), ([44] : List UInt8), ([46] : List UInt8), ([40] : List UInt8), ([41] : List UInt8), ([91] : List UInt8), ([93] : List UInt8), ([123] : List UInt8), ([125] : List UInt8), ([45, 62] : List UInt8), ([43, 43] : List UInt8), ([45, 45] : List UInt8), ([60, 60] : List UInt8), ([62, 62] : List UInt8), ([60, 61] : List UInt8), ([62, 61] : List UInt8), ([61, 61] : List UInt8), ([33, 61] : List UInt8), ([38, 38] : List UInt8), ([124, 124] : List UInt8), ([43, 61] : List UInt8), ([45, 61] : List UInt8), ([42, 61] : List UInt8), ([47, 61] : List UInt8), ([37, 61] : List UInt8), ([38, 61] : List UInt8), ([124, 61] : List UInt8), ([94, 61] : List UInt8), ([60, 60, 61] : List UInt8), ([62, 62, 61] : List UInt8)] : List (List UInt8))


def image_Right (p0 : GOptions) : Option (Bool) :=
  bif decide (4096 ≤ p0.Data) then (bif decide (p0.Data ≤ 65536) then (bif (Int.tmod p0.Data 4) == 0 then (bif decide (0 ≤ p0.Regs) then (bif decide (p0.Regs ≤ 12) then (bif decide (2 ≤ p0.Notes) then (some (decide (p0.Notes ≤ 64))) else (some false)) else (some false)) else (some false)) else (some false)) else (some false)) else (some false)

def stringslite_HasPrefix (p0 : List UInt8) (p1 : List UInt8) : Option (Bool) :=
  bif decide ((List.length p1 : Int) ≤ (List.length p0 : Int)) then ((sub p0 0 (List.length p1 : Int)).bind fun u1 => some (decide (u1 = p1))) else (some false)

def strings_HasPrefix (p0 : List UInt8) (p1 : List UInt8) : Option (Bool) :=
  (stringslite_HasPrefix p0 p1).bind fun y1 => some y1

def lex_blank_1 (p0 : Int) : Option (Bool) :=
  bif p0 == 32 then (some true) else (bif p0 == 9 then (some true) else (bif p0 == 10 then (some true) else (some (p0 == 13))))

def lex_span (p0 : List UInt8) : Option (Int) :=
  (loopM (fun (x1 : Int) => (bif decide (x1 < (List.length p0 : Int)) then ((idx p0 x1).bind fun u1 => (lex_blank_1 (UInt8.toNat u1 : Int)).bind fun y1 => bif y1 then (some (Lp.go (IntKind.wrap .i64 (x1 + 1)))) else (some (Lp.brk x1))) else (some (Lp.brk x1)) : Option (Lp (Int) (Unit)))) NN (0 : Int)).bind fun o => o.thn (fun (x1 : Int) => some x1) (fun _ => none)

def lex_blank (p0 : List UInt8) : Option (Int) :=
  (strings_HasPrefix p0 ([47, 47] : List UInt8)).bind fun y1 => bif y1 then ((strings_Index p0 ([10] : List UInt8)).bind fun y2 => bif decide (0 ≤ y2) then (some y2) else (some (List.length p0 : Int))) else ((strings_HasPrefix p0 ([47, 42] : List UInt8)).bind fun y3 => bif y3 then ((sub p0 2 (List.length p0 : Int)).bind fun u1 => (strings_Index u1 ([42, 47] : List UInt8)).bind fun y4 => bif decide (y4 < 0) then (some ((-1) : Int)) else (some (IntKind.wrap .i64 (y4 + 4)))) else ((lex_span p0).bind fun y5 => some y5))

def lex_scanner_skip (p0 : LexScanner) (p1 : Int) : Option (LexScanner) :=
  (sub p0.s 0 p1).bind fun u1 => (room (List.length u1)).bind fun _ => (loopM (fun (x1, x2) => (bif decide (x1 < (List.length (strBytes u1) : Int)) then (jn (fun kk1 => (idx (strBytes u1) x1).bind fun u2 => bif u2 == 10 then (kk1 (⟨x2.s, (⟨IntKind.wrap .i64 (x2.pos.Line + 1), 1⟩ : Pos)⟩ : LexScanner)) else (kk1 (⟨x2.s, (⟨x2.pos.Line, IntKind.wrap .i64 (x2.pos.Col + 1)⟩ : Pos)⟩ : LexScanner))) (fun (x3 : LexScanner) => some (Lp.go (IntKind.wrap .i64 (x1 + 1), x3)))) else (some (Lp.brk (x1, x2))) : Option (Lp (Int × LexScanner) (Unit)))) NN ((0 : Int), p0)).bind fun o => o.thn (fun (x1, x2) => (sub x2.s p1 (List.length x2.s : Int)).bind fun u3 => some (⟨u3, x2.pos⟩ : LexScanner)) (fun _ => none)

def lex_letter (p0 : Int) : Option (Bool) :=
  bif decide (97 ≤ p0) then (bif decide (p0 ≤ 122) then (some true) else (bif decide (65 ≤ p0) then (bif decide (p0 ≤ 90) then (some true) else (some (p0 == 95))) else (some (p0 == 95)))) else (bif decide (65 ≤ p0) then (bif decide (p0 ≤ 90) then (some true) else (some (p0 == 95))) else (some (p0 == 95)))

def lex_digit (p0 : Int) : Option (Bool) :=
  bif decide (48 ≤ p0) then (some (decide (p0 ≤ 57))) else (some false)

def lex_more (p0 : Int) : Option (Bool) :=
  (lex_letter p0).bind fun y1 => bif y1 then (some true) else ((lex_digit p0).bind fun y2 => some y2)

def lex_span_2 (p0 : List UInt8) : Option (Int) :=
  (loopM (fun (x1 : Int) => (bif decide (x1 < (List.length p0 : Int)) then ((idx p0 x1).bind fun u1 => (lex_more (UInt8.toNat u1 : Int)).bind fun y1 => bif y1 then (some (Lp.go (IntKind.wrap .i64 (x1 + 1)))) else (some (Lp.brk x1))) else (some (Lp.brk x1)) : Option (Lp (Int) (Unit)))) NN (0 : Int)).bind fun o => o.thn (fun (x1 : Int) => some x1) (fun _ => none)

def lex_Word (p0 : List UInt8) : Option (Bool) :=
  jn (fun kk1 => bif decide (p0 = ([98, 114, 101, 97, 107] : List UInt8)) then (kk1 (decide (p0 = ([98, 114, 101, 97, 107] : List UInt8)))) else (bif decide (p0 = ([99, 97, 115, 101] : List UInt8)) then (kk1 (decide (p0 = ([99, 97, 115, 101] : List UInt8)))) else (bif decide (p0 = ([99, 104, 97, 114] : List UInt8)) then (kk1 (decide (p0 = ([99, 104, 97, 114] : List UInt8)))) else (bif decide (p0 = ([99, 111, 110, 116, 105, 110, 117, 101] : List UInt8)) then (kk1 (decide (p0 = ([99, 111, 110, 116, 105, 110, 117, 101] : List UInt8)))) else (bif decide (p0 = ([100, 101, 102, 97, 117, 108, 116] : List UInt8)) then (kk1 (decide (p0 = ([100, 101, 102, 97, 117, 108, 116] : List UInt8)))) else (bif decide (p0 = ([100, 111] : List UInt8)) then (kk1 (decide (p0 = ([100, 111] : List UInt8)))) else (bif decide (p0 = ([101, 108, 115, 101] : List UInt8)) then (kk1 (decide (p0 = ([101, 108, 115, 101] : List UInt8)))) else (bif decide (p0 = ([102, 111, 114] : List UInt8)) then (kk1 (decide (p0 = ([102, 111, 114] : List UInt8)))) else (bif decide (p0 = ([105, 102] : List UInt8)) then (kk1 (decide (p0 = ([105, 102] : List UInt8)))) else (bif decide (p0 = ([105, 110] : List UInt8)) then (kk1 (decide (p0 = ([105, 110] : List UInt8)))) else (bif decide (p0 = ([105, 110, 116] : List UInt8)) then (kk1 (decide (p0 = ([105, 110, 116] : List UInt8)))) else (bif decide (p0 = ([111, 117, 116] : List UInt8)) then (kk1 (decide (p0 = ([111, 117, 116] : List UInt8)))) else (bif decide (p0 = ([114, 101, 116, 117, 114, 110] : List UInt8)) then (kk1 (decide (p0 = ([114, 101, 116, 117, 114, 110] : List UInt8)))) else (bif decide (p0 = ([115, 105, 122, 101, 111, 102] : List UInt8)) then (kk1 (decide (p0 = ([115, 105, 122, 101, 111, 102] : List UInt8)))) else (bif decide (p0 = ([115, 116, 114, 117, 99, 116] : List UInt8)) then (kk1 (decide (p0 = ([115, 116, 114, 117, 99, 116] : List UInt8)))) else (bif decide (p0 = ([115, 119, 105, 116, 99, 104] : List UInt8)) then (kk1 (decide (p0 = ([115, 119, 105, 116, 99, 104] : List UInt8)))) else (bif decide (p0 = ([118, 111, 105, 100] : List UInt8)) then (kk1 (decide (p0 = ([118, 111, 105, 100] : List UInt8)))) else (kk1 (decide (p0 = ([119, 104, 105, 108, 101] : List UInt8))))))))))))))))))))) (fun (x1 : Bool) => bif x1 then (some true) else (some false))

def lex_worth (p0 : Int) : Option (Int) :=
  (lex_digit p0).bind fun y1 => bif y1 then (some (IntKind.wrap .u64 (IntKind.wrap .u8 (p0 - 48)))) else (bif decide (97 ≤ p0) then (bif decide (p0 ≤ 102) then (some (IntKind.wrap .u64 ((IntKind.wrap .u64 (IntKind.wrap .u8 (p0 - 97))) + 10))) else (bif decide (65 ≤ p0) then (bif decide (p0 ≤ 70) then (some (IntKind.wrap .u64 ((IntKind.wrap .u64 (IntKind.wrap .u8 (p0 - 65))) + 10))) else (some (4294967295 : Int))) else (some (4294967295 : Int)))) else (bif decide (65 ≤ p0) then (bif decide (p0 ≤ 70) then (some (IntKind.wrap .u64 ((IntKind.wrap .u64 (IntKind.wrap .u8 (p0 - 65))) + 10))) else (some (4294967295 : Int))) else (some (4294967295 : Int))))

def lex_number (p0 : List UInt8) : Option (GToken × Int) :=
  (lex_span_2 p0).bind fun y1 => (sub p0 0 y1).bind fun u1 => jn (fun kk1 => (strings_HasPrefix u1 ([48, 120] : List UInt8)).bind fun y2 => bif y2 then ((sub u1 2 (List.length u1 : Int)).bind fun u3 => kk1 u3 (16 : Int)) else ((strings_HasPrefix u1 ([48, 88] : List UInt8)).bind fun y3 => bif y3 then ((sub u1 2 (List.length u1 : Int)).bind fun u2 => kk1 u2 (16 : Int)) else (kk1 u1 (10 : Int)))) (fun (x1 : List UInt8) (x2 : Int) => bif decide (x1 = ([] : List UInt8)) then (some ((⟨0, ([] : List UInt8), 0, (⟨0, 0⟩ : Pos)⟩ : GToken), (3 : Int))) else ((room (List.length x1)).bind fun _ => (loopM (fun (x3, x4, x5) => (bif decide (x5 < (List.length (strBytes x1) : Int)) then (jn (fun kk2 => (idx (strBytes x1) x5).bind fun u4 => (lex_worth u4).bind fun y4 => bif decide (x2 ≤ y4) then (some (Lp.ret ((⟨0, ([] : List UInt8), 0, (⟨0, 0⟩ : Pos)⟩ : GToken), (3 : Int)))) else ((lex_worth u4).bind fun y5 => bif decide (4294967295 < (IntKind.wrap .u64 ((IntKind.wrap .u64 (x3 * x2)) + y5))) then (kk2 (4294967295 : Int) true) else (kk2 (IntKind.wrap .u64 ((IntKind.wrap .u64 (x3 * x2)) + y5)) x4))) (fun (x6 : Int) (x7 : Bool) => some (Lp.go (x6, x7, IntKind.wrap .i64 (x5 + 1))))) else (some (Lp.brk (x3, x4, x5))) : Option (Lp (Int × Bool × Int) (GToken × Int)))) NN ((0 : Int), false, (0 : Int))).bind fun o => o.thn (fun (x3, x4, x5) => bif x4 then (some ((⟨0, ([] : List UInt8), 0, (⟨0, 0⟩ : Pos)⟩ : GToken), (7 : Int))) else (some ((⟨3, u1, IntKind.wrap .u32 x3, (⟨0, 0⟩ : Pos)⟩ : GToken), (0 : Int)))) (fun r => some r)))

def lex_escape (p0 : Int) : Option (Int × Bool) :=
  bif p0 == 110 then (some ((10 : Int), true)) else (bif p0 == 116 then (some ((9 : Int), true)) else (bif p0 == 114 then (some ((13 : Int), true)) else (bif p0 == 48 then (some ((0 : Int), true)) else (jn (fun kk1 => bif p0 == 92 then (kk1 (p0 == 92)) else (kk1 (p0 == 39))) (fun (x1 : Bool) => bif x1 then (some (p0, true)) else (some ((0 : Int), false)))))))

def lex_char (p0 : List UInt8) : Option (GToken × Int) :=
  bif decide (4 ≤ (List.length p0 : Int)) then ((idx p0 1).bind fun u1 => bif (UInt8.toNat u1 : Int) == 92 then ((idx p0 3).bind fun u2 => bif (UInt8.toNat u2 : Int) == 39 then ((idx p0 2).bind fun u3 => (lex_escape (UInt8.toNat u3 : Int)).bind fun y1 => bif y1.2 then ((sub p0 0 4).bind fun u4 => some ((⟨3, u4, IntKind.wrap .u32 y1.1, (⟨0, 0⟩ : Pos)⟩ : GToken), (0 : Int))) else (some ((⟨0, ([] : List UInt8), 0, (⟨0, 0⟩ : Pos)⟩ : GToken), (3 : Int)))) else (bif decide (3 ≤ (List.length p0 : Int)) then ((idx p0 2).bind fun u5 => bif (UInt8.toNat u5 : Int) == 39 then ((idx p0 1).bind fun u6 => bif decide (32 ≤ (UInt8.toNat u6 : Int)) then ((idx p0 1).bind fun u7 => bif decide ((UInt8.toNat u7 : Int) ≤ 126) then ((idx p0 1).bind fun u8 => bif (UInt8.toNat u8 : Int) != 39 then ((idx p0 1).bind fun u9 => bif (UInt8.toNat u9 : Int) != 92 then ((sub p0 0 3).bind fun u10 => (idx p0 1).bind fun u11 => some ((⟨3, u10, IntKind.wrap .u32 (UInt8.toNat u11 : Int), (⟨0, 0⟩ : Pos)⟩ : GToken), (0 : Int))) else (some ((⟨0, ([] : List UInt8), 0, (⟨0, 0⟩ : Pos)⟩ : GToken), (3 : Int)))) else (some ((⟨0, ([] : List UInt8), 0, (⟨0, 0⟩ : Pos)⟩ : GToken), (3 : Int)))) else (some ((⟨0, ([] : List UInt8), 0, (⟨0, 0⟩ : Pos)⟩ : GToken), (3 : Int)))) else (some ((⟨0, ([] : List UInt8), 0, (⟨0, 0⟩ : Pos)⟩ : GToken), (3 : Int)))) else (some ((⟨0, ([] : List UInt8), 0, (⟨0, 0⟩ : Pos)⟩ : GToken), (3 : Int)))) else (some ((⟨0, ([] : List UInt8), 0, (⟨0, 0⟩ : Pos)⟩ : GToken), (3 : Int))))) else (bif decide (3 ≤ (List.length p0 : Int)) then ((idx p0 2).bind fun u12 => bif (UInt8.toNat u12 : Int) == 39 then ((idx p0 1).bind fun u13 => bif decide (32 ≤ (UInt8.toNat u13 : Int)) then ((idx p0 1).bind fun u14 => bif decide ((UInt8.toNat u14 : Int) ≤ 126) then ((idx p0 1).bind fun u15 => bif (UInt8.toNat u15 : Int) != 39 then ((idx p0 1).bind fun u16 => bif (UInt8.toNat u16 : Int) != 92 then ((sub p0 0 3).bind fun u17 => (idx p0 1).bind fun u18 => some ((⟨3, u17, IntKind.wrap .u32 (UInt8.toNat u18 : Int), (⟨0, 0⟩ : Pos)⟩ : GToken), (0 : Int))) else (some ((⟨0, ([] : List UInt8), 0, (⟨0, 0⟩ : Pos)⟩ : GToken), (3 : Int)))) else (some ((⟨0, ([] : List UInt8), 0, (⟨0, 0⟩ : Pos)⟩ : GToken), (3 : Int)))) else (some ((⟨0, ([] : List UInt8), 0, (⟨0, 0⟩ : Pos)⟩ : GToken), (3 : Int)))) else (some ((⟨0, ([] : List UInt8), 0, (⟨0, 0⟩ : Pos)⟩ : GToken), (3 : Int)))) else (some ((⟨0, ([] : List UInt8), 0, (⟨0, 0⟩ : Pos)⟩ : GToken), (3 : Int)))) else (some ((⟨0, ([] : List UInt8), 0, (⟨0, 0⟩ : Pos)⟩ : GToken), (3 : Int))))) else (bif decide (3 ≤ (List.length p0 : Int)) then ((idx p0 2).bind fun u19 => bif (UInt8.toNat u19 : Int) == 39 then ((idx p0 1).bind fun u20 => bif decide (32 ≤ (UInt8.toNat u20 : Int)) then ((idx p0 1).bind fun u21 => bif decide ((UInt8.toNat u21 : Int) ≤ 126) then ((idx p0 1).bind fun u22 => bif (UInt8.toNat u22 : Int) != 39 then ((idx p0 1).bind fun u23 => bif (UInt8.toNat u23 : Int) != 92 then ((sub p0 0 3).bind fun u24 => (idx p0 1).bind fun u25 => some ((⟨3, u24, IntKind.wrap .u32 (UInt8.toNat u25 : Int), (⟨0, 0⟩ : Pos)⟩ : GToken), (0 : Int))) else (some ((⟨0, ([] : List UInt8), 0, (⟨0, 0⟩ : Pos)⟩ : GToken), (3 : Int)))) else (some ((⟨0, ([] : List UInt8), 0, (⟨0, 0⟩ : Pos)⟩ : GToken), (3 : Int)))) else (some ((⟨0, ([] : List UInt8), 0, (⟨0, 0⟩ : Pos)⟩ : GToken), (3 : Int)))) else (some ((⟨0, ([] : List UInt8), 0, (⟨0, 0⟩ : Pos)⟩ : GToken), (3 : Int)))) else (some ((⟨0, ([] : List UInt8), 0, (⟨0, 0⟩ : Pos)⟩ : GToken), (3 : Int)))) else (some ((⟨0, ([] : List UInt8), 0, (⟨0, 0⟩ : Pos)⟩ : GToken), (3 : Int))))

def lex_mark (p0 : List UInt8) : Option ((List UInt8)) :=
  (loopM (fun (x1 : Int) => (bif decide (x1 < 45) then ((idx ([([60, 60, 61] : List UInt8), ([62, 62, 61] : List UInt8), ([45, 62] : List UInt8), ([43, 43] : List UInt8), ([45, 45] : List UInt8), ([60, 60] : List UInt8), ([62, 62] : List UInt8), ([60, 61] : List UInt8), ([62, 61] : List UInt8), ([61, 61] : List UInt8), ([33, 61] : List UInt8), ([38, 38] : List UInt8), ([124, 124] : List UInt8), ([43, 61] : List UInt8), ([45, 61] : List UInt8), ([42, 61] : List UInt8), ([47, 61] : List UInt8), ([37, 61] : List UInt8), ([38, 61] : List UInt8), ([124, 61] : List UInt8), ([94, 61] : List UInt8), ([43] : List UInt8), ([45] : List UInt8), ([42] : List UInt8), ([47] : List UInt8), ([37] : List UInt8), ([38] : List UInt8), ([124] : List UInt8), ([94] : List UInt8), ([126] : List UInt8), ([33] : List UInt8), ([60] : List UInt8), ([62] : List UInt8), ([61] : List UInt8), ([63] : List UInt8), ([58] : List UInt8), ([59] : List UInt8), ([44] : List UInt8), ([46] : List UInt8), ([40] : List UInt8), ([41] : List UInt8), ([91] : List UInt8), ([93] : List UInt8), ([123] : List UInt8), ([125] : List UInt8)] : List (List UInt8)) x1).bind fun u1 => (strings_HasPrefix p0 u1).bind fun y1 => bif y1 then (some (Lp.ret u1)) else (some (Lp.go (IntKind.wrap .i64 (x1 + 1))))) else (some (Lp.brk x1)) : Option (Lp (Int) ((List UInt8))))) NN (0 : Int)).bind fun o => o.thn (fun (x1 : Int) => some ([] : List UInt8)) (fun r => some r)

def lex_token (p0 : List UInt8) : Option (GToken × Int) :=
  (idx p0 0).bind fun u1 => (lex_letter (UInt8.toNat u1 : Int)).bind fun y1 => bif y1 then ((lex_span_2 p0).bind fun y2 => (sub p0 0 y2).bind fun u2 => bif decide (31 < y2) then (some ((⟨1, u2, 0, (⟨0, 0⟩ : Pos)⟩ : GToken), (2 : Int))) else (jn (fun kk1 => (lex_Word u2).bind fun y3 => bif y3 then (kk1 (⟨2, u2, 0, (⟨0, 0⟩ : Pos)⟩ : GToken)) else (kk1 (⟨1, u2, 0, (⟨0, 0⟩ : Pos)⟩ : GToken))) (fun (x1 : GToken) => some (x1, (0 : Int))))) else ((idx p0 0).bind fun u3 => (lex_digit (UInt8.toNat u3 : Int)).bind fun y4 => bif y4 then ((lex_number p0).bind fun y5 => some (y5.1, y5.2)) else ((idx p0 0).bind fun u4 => bif (UInt8.toNat u4 : Int) == 39 then ((lex_char p0).bind fun y6 => some (y6.1, y6.2)) else ((lex_mark p0).bind fun y7 => bif decide (y7 = ([] : List UInt8)) then (some ((⟨0, ([] : List UInt8), 0, (⟨0, 0⟩ : Pos)⟩ : GToken), (3 : Int))) else (some ((⟨4, y7, 0, (⟨0, 0⟩ : Pos)⟩ : GToken), (0 : Int))))))

def lex_Lex (p0 : List UInt8) : Option ((List GToken) × Pos × Int) :=
  bif decide (65536 < (List.length p0 : Int)) then (some ([], (⟨1, 1⟩ : Pos), (2 : Int))) else ((loopM (fun (x1, x2) => (bif !(decide (x2.s = ([] : List UInt8))) then ((lex_blank x2.s).bind fun y1 => bif decide (y1 < 0) then (some (Lp.ret ([], x2.pos, (3 : Int)))) else (bif decide (0 < y1) then ((lex_scanner_skip x2 y1).bind fun y2 => some (Lp.go (x1, y2))) else ((lex_token x2.s).bind fun y3 => bif y3.2 != 0 then (some (Lp.ret ([], x2.pos, y3.2))) else ((room (List.length x1 + List.length ([{ y3.1 with Pos := x2.pos }] : List GToken))).bind fun _ => (lex_scanner_skip x2 (List.length y3.1.Text : Int)).bind fun y4 => some (Lp.go (x1 ++ ([{ y3.1 with Pos := x2.pos }] : List GToken), y4)))))) else (some (Lp.brk (x1, x2))) : Option (Lp ((List GToken) × LexScanner) ((List GToken) × Pos × Int)))) NN ([], (⟨p0, (⟨1, 1⟩ : Pos)⟩ : LexScanner))).bind fun o => o.thn (fun (x1, x2) => some (x1, x2.pos, (0 : Int))) (fun r => some r))

def ref07_is (p0 : List UInt8) (p1 : Int) (p2 : List UInt8) : Option (Bool) :=
  bif decide ((IntKind.wrap .i64 (p1 + (List.length p2 : Int))) ≤ (List.length p0 : Int)) then ((sub p0 p1 (IntKind.wrap .i64 (p1 + (List.length p2 : Int)))).bind fun u1 => some (decide (u1 = p2))) else (some false)

def ref07_Blank (p0 : List UInt8) (p1 : Int) : Option (Int) :=
  (idx p0 p1).bind fun u1 => bif (UInt8.toNat u1 : Int) == 9 then (some (1 : Int)) else (bif (UInt8.toNat u1 : Int) == 10 then (some (1 : Int)) else (bif (UInt8.toNat u1 : Int) == 13 then (some (1 : Int)) else (bif (UInt8.toNat u1 : Int) == 32 then (some (1 : Int)) else ((ref07_is p0 p1 ([47, 47] : List UInt8)).bind fun y1 => bif y1 then ((loopM (fun (x1 : Int) => (bif decide ((IntKind.wrap .i64 (p1 + x1)) < (List.length p0 : Int)) then ((idx p0 (IntKind.wrap .i64 (p1 + x1))).bind fun u2 => bif (UInt8.toNat u2 : Int) != 10 then (some (Lp.go (IntKind.wrap .i64 (x1 + 1)))) else (some (Lp.brk x1))) else (some (Lp.brk x1)) : Option (Lp (Int) (Unit)))) NN (2 : Int)).bind fun o => o.thn (fun (x1 : Int) => some x1) (fun _ => none)) else ((ref07_is p0 p1 ([47, 42] : List UInt8)).bind fun y2 => bif y2 then ((loopM (fun (x2 : Int) => (bif decide (x2 < (List.length p0 : Int)) then ((ref07_is p0 x2 ([42, 47] : List UInt8)).bind fun y3 => bif y3 then (some (Lp.ret (IntKind.wrap .i64 ((IntKind.wrap .i64 (x2 + 2)) - p1)))) else (some (Lp.go (IntKind.wrap .i64 (x2 + 1))))) else (some (Lp.brk x2)) : Option (Lp (Int) (Int)))) NN (IntKind.wrap .i64 (p1 + 2))).bind fun o => o.thn (fun (x2 : Int) => some ((-1) : Int)) (fun r => some r)) else (some (0 : Int)))))))

def ref07_Letter (p0 : Int) : Option (Bool) :=
  bif decide (97 ≤ p0) then (bif decide (p0 ≤ 122) then (some true) else (bif decide (65 ≤ p0) then (bif decide (p0 ≤ 90) then (some true) else (some (p0 == 95))) else (some (p0 == 95)))) else (bif decide (65 ≤ p0) then (bif decide (p0 ≤ 90) then (some true) else (some (p0 == 95))) else (some (p0 == 95)))

def ref07_Digit (p0 : Int) : Option (Bool) :=
  bif decide (48 ≤ p0) then (some (decide (p0 ≤ 57))) else (some false)

def ref07_run (p0 : List UInt8) (p1 : Int) : Option (Int) :=
  (loopM (fun (x1 : Int) => (bif decide ((IntKind.wrap .i64 (p1 + x1)) < (List.length p0 : Int)) then ((idx p0 (IntKind.wrap .i64 (p1 + x1))).bind fun u1 => (ref07_Letter (UInt8.toNat u1 : Int)).bind fun y1 => bif y1 then (some (Lp.go (IntKind.wrap .i64 (x1 + 1)))) else ((idx p0 (IntKind.wrap .i64 (p1 + x1))).bind fun u2 => (ref07_Digit (UInt8.toNat u2 : Int)).bind fun y2 => bif y2 then (some (Lp.go (IntKind.wrap .i64 (x1 + 1)))) else (some (Lp.brk x1)))) else (some (Lp.brk x1)) : Option (Lp (Int) (Unit)))) NN (0 : Int)).bind fun o => o.thn (fun (x1 : Int) => some x1) (fun _ => none)

def ref07_Word (p0 : List UInt8) : Option (Bool) :=
  (loopM (fun (x1 : Int) => (bif decide (x1 < (List.length tbl1 : Int)) then ((idx tbl1 x1).bind fun u1 => bif decide (u1 = p0) then (some (Lp.ret true)) else (some (Lp.go (IntKind.wrap .i64 (x1 + 1))))) else (some (Lp.brk x1)) : Option (Lp (Int) (Bool)))) NN (0 : Int)).bind fun o => o.thn (fun (x1 : Int) => some false) (fun r => some r)

def ref07_value (p0 : Int) : Option (Int) :=
  (ref07_Digit p0).bind fun y1 => bif y1 then (some (IntKind.wrap .i64 ((IntKind.wrap .i64 p0) - 48))) else (bif decide (97 ≤ p0) then (bif decide (p0 ≤ 102) then (some (IntKind.wrap .i64 ((IntKind.wrap .i64 p0) - 87))) else (bif decide (65 ≤ p0) then (bif decide (p0 ≤ 70) then (some (IntKind.wrap .i64 ((IntKind.wrap .i64 p0) - 55))) else (some (99 : Int))) else (some (99 : Int)))) else (bif decide (65 ≤ p0) then (bif decide (p0 ≤ 70) then (some (IntKind.wrap .i64 ((IntKind.wrap .i64 p0) - 55))) else (some (99 : Int))) else (some (99 : Int))))

def ref07_number (p0 : List UInt8) : Option (Int × Int) :=
  jn (fun kk1 => (ref07_is p0 0 ([48, 120] : List UInt8)).bind fun y1 => bif y1 then (kk1 (16 : Int) (2 : Int)) else ((ref07_is p0 0 ([48, 88] : List UInt8)).bind fun y2 => bif y2 then (kk1 (16 : Int) (2 : Int)) else (kk1 (10 : Int) (0 : Int)))) (fun (x1 : Int) (x2 : Int) => bif x2 == (List.length p0 : Int) then (some ((0 : Int), (3 : Int))) else ((loopM (fun (x3, x4, x5) => (bif decide (x5 < (List.length p0 : Int)) then (jn (fun kk2 => (idx p0 x5).bind fun u1 => (ref07_value (UInt8.toNat u1 : Int)).bind fun y3 => bif decide (x1 ≤ y3) then (some (Lp.ret ((0 : Int), (3 : Int)))) else ((idx p0 x5).bind fun u2 => (ref07_value (UInt8.toNat u2 : Int)).bind fun y4 => bif decide (4294967295 < (IntKind.wrap .i64 ((IntKind.wrap .i64 (x3 * x1)) + y4))) then (kk2 (4294967296 : Int) (7 : Int)) else (kk2 (IntKind.wrap .i64 ((IntKind.wrap .i64 (x3 * x1)) + y4)) x4))) (fun (x6 : Int) (x7 : Int) => some (Lp.go (x6, x7, IntKind.wrap .i64 (x5 + 1))))) else (some (Lp.brk (x3, x4, x5))) : Option (Lp (Int × Int × Int) (Int × Int)))) NN ((0 : Int), (0 : Int), x2)).bind fun o => o.thn (fun (x3, x4, x5) => bif x4 != 0 then (some ((0 : Int), x4)) else (some (IntKind.wrap .u32 x3, (0 : Int)))) (fun r => some r)))

def ref07_quoted (p0 : List UInt8) (p1 : Int) : Option (Int × Int) :=
  (ref07_is p0 (IntKind.wrap .i64 (p1 + 1)) ([92] : List UInt8)).bind fun y1 => bif y1 then ((loopM (fun (x1 : Int) => (bif decide (x1 < (List.length ([([110] : List UInt8), ([116] : List UInt8), ([114] : List UInt8), ([48] : List UInt8), ([92] : List UInt8), ([39] : List UInt8)] : List (List UInt8)) : Int)) then ((idx ([([110] : List UInt8), ([116] : List UInt8), ([114] : List UInt8), ([48] : List UInt8), ([92] : List UInt8), ([39] : List UInt8)] : List (List UInt8)) x1).bind fun u1 => (room (List.length u1 + List.length ([39] : List UInt8))).bind fun _ => (ref07_is p0 (IntKind.wrap .i64 (p1 + 2)) (u1 ++ ([39] : List UInt8))).bind fun y2 => bif y2 then ((idx ([10, 9, 13, 0, 92, 39] : List Int) x1).bind fun u2 => some (Lp.ret (u2, (4 : Int)))) else (some (Lp.go (IntKind.wrap .i64 (x1 + 1))))) else (some (Lp.brk x1)) : Option (Lp (Int) (Int × Int)))) NN (0 : Int)).bind fun o => o.thn (fun (x1 : Int) => some ((0 : Int), (0 : Int))) (fun r => some r)) else (bif decide ((IntKind.wrap .i64 (p1 + 2)) < (List.length p0 : Int)) then ((idx p0 (IntKind.wrap .i64 (p1 + 1))).bind fun u3 => bif decide (32 ≤ (UInt8.toNat u3 : Int)) then ((idx p0 (IntKind.wrap .i64 (p1 + 1))).bind fun u4 => bif decide ((UInt8.toNat u4 : Int) ≤ 126) then ((idx p0 (IntKind.wrap .i64 (p1 + 1))).bind fun u5 => bif (UInt8.toNat u5 : Int) != 39 then ((idx p0 (IntKind.wrap .i64 (p1 + 2))).bind fun u6 => bif (UInt8.toNat u6 : Int) == 39 then ((idx p0 (IntKind.wrap .i64 (p1 + 1))).bind fun u7 => some (IntKind.wrap .u32 (UInt8.toNat u7 : Int), (3 : Int))) else (some ((0 : Int), (0 : Int)))) else (some ((0 : Int), (0 : Int)))) else (some ((0 : Int), (0 : Int)))) else (some ((0 : Int), (0 : Int)))) else (some ((0 : Int), (0 : Int))))

def ref07_mark (p0 : List UInt8) (p1 : Int) : Option ((List UInt8)) :=
  (loopM (fun (x1, x2) => (bif decide (x2 < (List.length tbl2 : Int)) then (jn (fun kk1 => (idx tbl2 x2).bind fun u1 => (ref07_is p0 p1 u1).bind fun y1 => bif y1 then ((idx tbl2 x2).bind fun u2 => bif decide ((List.length x1 : Int) < (List.length u2 : Int)) then ((idx tbl2 x2).bind fun u3 => kk1 u3) else (kk1 x1)) else (kk1 x1)) (fun (x3 : List UInt8) => some (Lp.go (x3, IntKind.wrap .i64 (x2 + 1))))) else (some (Lp.brk (x1, x2))) : Option (Lp ((List UInt8) × Int) (Unit)))) NN (([] : List UInt8), (0 : Int))).bind fun o => o.thn (fun (x1, x2) => some x1) (fun _ => none)

def ref07_One (p0 : List UInt8) (p1 : Int) : Option (ref07Token × Int) :=
  (idx p0 p1).bind fun u1 => (ref07_Letter (UInt8.toNat u1 : Int)).bind fun y1 => bif y1 then ((ref07_run p0 p1).bind fun y2 => bif decide (31 < y2) then (some ((⟨0, ([] : List UInt8), 0, 0⟩ : ref07Token), (2 : Int))) else ((sub p0 p1 (IntKind.wrap .i64 (p1 + y2))).bind fun u2 => jn (fun kk1 => (ref07_Word u2).bind fun y3 => bif y3 then (kk1 (⟨2, u2, 0, p1⟩ : ref07Token)) else (kk1 (⟨1, u2, 0, p1⟩ : ref07Token))) (fun (x1 : ref07Token) => some (x1, (0 : Int))))) else ((ref07_Digit (UInt8.toNat u1 : Int)).bind fun y4 => bif y4 then ((ref07_run p0 p1).bind fun y5 => (sub p0 p1 (IntKind.wrap .i64 (p1 + y5))).bind fun u3 => (ref07_number u3).bind fun y6 => bif y6.2 != 0 then (some ((⟨0, ([] : List UInt8), 0, 0⟩ : ref07Token), y6.2)) else (some ((⟨3, u3, y6.1, p1⟩ : ref07Token), (0 : Int)))) else (bif (UInt8.toNat u1 : Int) == 39 then ((ref07_quoted p0 p1).bind fun y7 => bif y7.2 == 0 then (some ((⟨0, ([] : List UInt8), 0, 0⟩ : ref07Token), (3 : Int))) else ((sub p0 p1 (IntKind.wrap .i64 (p1 + y7.2))).bind fun u4 => some ((⟨3, u4, y7.1, p1⟩ : ref07Token), (0 : Int)))) else ((ref07_mark p0 p1).bind fun y8 => bif decide (y8 = ([] : List UInt8)) then (some ((⟨0, ([] : List UInt8), 0, 0⟩ : ref07Token), (3 : Int))) else (some ((⟨4, y8, 0, p1⟩ : ref07Token), (0 : Int))))))

def ref07_Lex (p0 : List UInt8) : Option (ref07Lexed) :=
  bif decide (65536 < (List.length p0 : Int)) then (some (⟨[], 0, 2⟩ : ref07Lexed)) else ((loopM (fun (x2 : ref07Lexed) => (bif decide (x2.At < (List.length p0 : Int)) then ((ref07_Blank p0 x2.At).bind fun y1 => bif decide (y1 < 0) then (some (Lp.ret (⟨[], x2.At, 3⟩ : ref07Lexed))) else (bif decide (0 < y1) then (some (Lp.go ({ x2 with At := IntKind.wrap .i64 (x2.At + y1) }))) else ((ref07_One p0 x2.At).bind fun y2 => bif y2.2 != 0 then (some (Lp.ret (⟨[], x2.At, y2.2⟩ : ref07Lexed))) else ((room (List.length x2.L + List.length ([y2.1] : List ref07Token))).bind fun _ => some (Lp.go (⟨x2.L ++ ([y2.1] : List ref07Token), IntKind.wrap .i64 (x2.At + (List.length y2.1.Text : Int)), x2.E⟩ : ref07Lexed)))))) else (some (Lp.brk x2)) : Option (Lp (ref07Lexed) (ref07Lexed)))) NN (⟨[], 0, 0⟩ : ref07Lexed)).bind fun o => o.thn (fun (x2 : ref07Lexed) => some x2) (fun r => some r))

def tree_Read (p0 : List UInt8) : Option (GProgram × Pos × Int) :=
  (lex_Lex p0).bind fun y1 => bif y1.2.2 != 0 then (some ((⟨[], [], []⟩ : GProgram), y1.2.1, y1.2.2)) else none

def compile_Module (p0 : List UInt8) (p1 : GOptions) : Option (GModule × Pos × Int) :=
  (tree_Read p0).bind fun y1 => bif y1.2.2 != 0 then (some ((⟨[], [], [], 0⟩ : GModule), y1.2.1, y1.2.2)) else none

def compile_Compile (p0 : List UInt8) (p1 : GOptions) : Option (GImage × Pos × Int) :=
  (image_Right p1).bind fun y1 => bif !y1 then (some ((⟨[], [], 0, 0⟩ : GImage), (⟨0, 0⟩ : Pos), (1 : Int))) else ((compile_Module p0 p1).bind fun y2 => bif y2.2.2 != 0 then (some ((⟨[], [], 0, 0⟩ : GImage), y2.2.1, y2.2.2)) else none)

def law29_CompileNone (p0 : List UInt8) (p1 : Int) (p2 : GOptions) : Option (Bool) :=
  bif decide (3999 < (List.length p0 : Int)) then ((law29_awake).bind fun y14 => some y14) else (bif decide (p1 < 0) then ((law29_awake).bind fun y13 => some y13) else (bif decide ((List.length p0 : Int) < p1) then ((law29_awake).bind fun y12 => some y12) else ((image_Right p2).bind fun y1 => bif !y1 then ((law29_awake).bind fun y2 => some y2) else ((sub p0 0 p1).bind fun u1 => (lex_Lex u1).bind fun y3 => bif y3.2.2 != 0 then ((law29_awake).bind fun y11 => some y11) else (bif decide (y3.2.1.Line < 1) then ((law29_awake).bind fun y4 => some y4) else ((sub p0 0 p1).bind fun u2 => bif decide (0 < (List.length u2 : Int)) then ((sub p0 0 p1).bind fun u3 => (room (List.length u3 + List.length ([64] : List UInt8))).bind fun _ => (ref07_Lex (u3 ++ ([64] : List UInt8))).bind fun y5 => bif y5.E == 0 then ((law29_awake).bind fun y6 => some y6) else ((sub p0 0 p1).bind fun u4 => (room (List.length u4 + List.length ([64] : List UInt8))).bind fun _ => (sub p0 p1 (List.length p0 : Int)).bind fun u5 => (room (List.length (u4 ++ ([64] : List UInt8)) + List.length u5)).bind fun _ => (compile_Compile ((u4 ++ ([64] : List UInt8)) ++ u5) p2).bind fun y7 => (law29_awake).bind fun y8 => bif y8 then (bif y7.2.2 != 0 then (some ((List.length y7.1.Code : Int) == 0)) else (some false)) else (some false))) else ((sub p0 0 p1).bind fun u6 => (room (List.length u6 + List.length ([64] : List UInt8))).bind fun _ => (sub p0 p1 (List.length p0 : Int)).bind fun u7 => (room (List.length (u6 ++ ([64] : List UInt8)) + List.length u7)).bind fun _ => (compile_Compile ((u6 ++ ([64] : List UInt8)) ++ u7) p2).bind fun y9 => (law29_awake).bind fun y10 => bif y10 then (bif y9.2.2 != 0 then (some ((List.length y9.1.Code : Int) == 0)) else (some false)) else (some false))))))))
end Go.Proofs.YtokpeeflnijogaaGreatDoor
