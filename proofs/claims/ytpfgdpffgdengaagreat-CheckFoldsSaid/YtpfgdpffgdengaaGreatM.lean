/- The models of Go functions: what each computes. Printed by gen2.py. -/
import Derived.Test.YtpfgdpffgdengaaGreatModel
import Derived.Laws.Entries
set_option linter.unusedVariables false
namespace Go.Proofs.YtpfgdpffgdengaaGreat

def law10_awake : Option Bool := some true
structure GTerm where
  Kind : Int
  Fn : Int
  Num : Int
  Var : Int
  Global : Bool
  Size : Int
  Post : Bool
  Ptr : Bool
  Kids : List GTerm
structure ref10Term where
  Kind : Int
  Fn : Int
  Num : Int
  Kids : List ref10Term


def word_Add (p0 : Int) (p1 : Int) : Option (Int) :=
  some (IntKind.wrap .u32 (p0 + p1))

def word_Sub (p0 : Int) (p1 : Int) : Option (Int) :=
  some (IntKind.wrap .u32 (p0 - p1))

def word_Mul (p0 : Int) (p1 : Int) : Option (Int) :=
  some (IntKind.wrap .u32 (p0 * p1))

def word_Div_1 (p0 : Int) (p1 : Int) : Option (Int) :=
  (nz p1).bind fun _ => some (IntKind.wrap .i64 (Int.tdiv p0 p1))

def word_signed (p0 : Int) (p1 : Int) : Option (Int) :=
  (word_Div_1 (IntKind.wrap .i64 (IntKind.wrap .i32 p0)) (IntKind.wrap .i64 (IntKind.wrap .i32 p1))).bind fun y1 => some y1

def word_Div (p0 : Int) (p1 : Int) : Option (Int) :=
  bif p1 == 0 then (some (4294967295 : Int)) else ((word_signed p0 p1).bind fun y1 => some (IntKind.wrap .u32 y1))

def word_Rem_1 (p0 : Int) (p1 : Int) : Option (Int) :=
  (nz p1).bind fun _ => some (Int.tmod p0 p1)

def word_signed_2 (p0 : Int) (p1 : Int) : Option (Int) :=
  (word_Rem_1 (IntKind.wrap .i64 (IntKind.wrap .i32 p0)) (IntKind.wrap .i64 (IntKind.wrap .i32 p1))).bind fun y1 => some y1

def word_Rem (p0 : Int) (p1 : Int) : Option (Int) :=
  bif p1 == 0 then (some p0) else ((word_signed_2 p0 p1).bind fun y1 => some (IntKind.wrap .u32 y1))

def word_Left (p0 : Int) (p1 : Int) : Option (Int) :=
  (nn (bits .and .u32 p1 31)).bind fun _ => some (IntKind.wrap .u32 (p0 * 2 ^ (min (Int.toNat (bits .and .u32 p1 31)) (IntKind.bits .u32))))

def word_RightS (p0 : Int) (p1 : Int) : Option (Int) :=
  (nn (bits .and .u32 p1 31)).bind fun _ => some (IntKind.wrap .u32 (Int.fdiv (IntKind.wrap .i32 p0) (2 ^ (min (Int.toNat (bits .and .u32 p1 31)) (IntKind.bits .i32)))))

def check_bit (p0 : Bool) : Option (Int) :=
  bif p0 then (some (1 : Int)) else (some (0 : Int))

def word_bit (p0 : Bool) : Option (Int) :=
  bif p0 then (some (1 : Int)) else (some (0 : Int))

def word_Less (p0 : Int) (p1 : Int) : Option (Int) :=
  (word_bit (decide ((IntKind.wrap .i32 p0) < (IntKind.wrap .i32 p1)))).bind fun y1 => some y1

def check_compare (p0 : Int) (p1 : Int) (p2 : Int) : Option (Int × Int) :=
  bif p0 == 11 then ((check_bit (p1 == p2)).bind fun y1 => some (y1, (0 : Int))) else (bif p0 == 12 then ((check_bit (p1 != p2)).bind fun y2 => some (y2, (0 : Int))) else (bif p0 == 13 then ((word_Less p1 p2).bind fun y3 => some (y3, (0 : Int))) else (bif p0 == 14 then ((word_Less p2 p1).bind fun y4 => some (y4, (0 : Int))) else (bif p0 == 15 then ((word_Less p2 p1).bind fun y5 => some (IntKind.wrap .u32 (1 - y5), (0 : Int))) else (bif p0 == 16 then ((word_Less p1 p2).bind fun y6 => some (IntKind.wrap .u32 (1 - y6), (0 : Int))) else (some ((0 : Int), (1 : Int))))))))

def check_Apply (p0 : Int) (p1 : Int) (p2 : Int) : Option (Int × Int) :=
  bif p0 == 1 then ((word_Add p1 p2).bind fun y1 => some (y1, (0 : Int))) else (bif p0 == 2 then ((word_Sub p1 p2).bind fun y2 => some (y2, (0 : Int))) else (bif p0 == 3 then ((word_Mul p1 p2).bind fun y3 => some (y3, (0 : Int))) else (jn (fun kk1 => bif p0 == 4 then (kk1 (p0 == 4)) else (kk1 (p0 == 5))) (fun (x1 : Bool) => bif x1 then (bif p2 == 0 then (some ((0 : Int), (11 : Int))) else (bif p0 == 4 then ((word_Div p1 p2).bind fun y4 => some (y4, (0 : Int))) else ((word_Rem p1 p2).bind fun y5 => some (y5, (0 : Int))))) else (bif p0 == 6 then (some (bits .and .u32 p1 p2, (0 : Int))) else (bif p0 == 7 then (some (bits .or .u32 p1 p2, (0 : Int))) else (bif p0 == 8 then (some (bits .xor .u32 p1 p2, (0 : Int))) else (bif p0 == 9 then ((word_Left p1 p2).bind fun y6 => some (y6, (0 : Int))) else (bif p0 == 10 then ((word_RightS p1 p2).bind fun y7 => some (y7, (0 : Int))) else (bif p0 == 17 then ((word_Sub 0 p1).bind fun y8 => some (y8, (0 : Int))) else (bif p0 == 18 then (some (bits .xor .u32 (if IntKind.signed .u32 then -1 else IntKind.max .u32) p1, (0 : Int))) else (bif p0 == 19 then ((check_bit (p1 == 0)).bind fun y9 => some (y9, (0 : Int))) else ((check_compare p0 p1 p2).bind fun y10 => some (y10.1, y10.2))))))))))))))

def ref01_Signed (p0 : Int) : Option (Int) :=
  bif decide (2147483648 ≤ p0) then (some (IntKind.wrap .i64 ((IntKind.wrap .i64 p0) - 4294967296))) else (some (IntKind.wrap .i64 p0))

def ref01_Cut (p0 : Int) : Option (Int) :=
  jn (fun kk1 => bif decide ((Int.tmod p0 4294967296) < 0) then (kk1 (IntKind.wrap .i64 ((Int.tmod p0 4294967296) + 4294967296))) else (kk1 (Int.tmod p0 4294967296))) (fun (x1 : Int) => some (IntKind.wrap .u32 x1))

def ref01_Add (p0 : Int) (p1 : Int) : Option (Int) :=
  (ref01_Cut (IntKind.wrap .i64 ((IntKind.wrap .i64 p0) + (IntKind.wrap .i64 p1)))).bind fun y1 => some y1

def ref01_Sub (p0 : Int) (p1 : Int) : Option (Int) :=
  (ref01_Cut (IntKind.wrap .i64 ((IntKind.wrap .i64 p0) - (IntKind.wrap .i64 p1)))).bind fun y1 => some y1

def ref01_half (p0 : Int) (p1 : Int) : Option (Int × Int) :=
  some (IntKind.wrap .u32 (IntKind.wrap .i64 ((IntKind.wrap .i64 ((IntKind.wrap .i64 ((IntKind.wrap .i64 (Int.tdiv (IntKind.wrap .i64 p0) 65536)) * (IntKind.wrap .i64 (Int.tdiv (IntKind.wrap .i64 p1) 65536)))) + (IntKind.wrap .i64 (Int.tdiv (IntKind.wrap .i64 ((IntKind.wrap .i64 ((IntKind.wrap .i64 (Int.tdiv (IntKind.wrap .i64 p0) 65536)) * (Int.tmod (IntKind.wrap .i64 p1) 65536))) + (IntKind.wrap .i64 (Int.tdiv (IntKind.wrap .i64 ((Int.tmod (IntKind.wrap .i64 p0) 65536) * (Int.tmod (IntKind.wrap .i64 p1) 65536))) 65536)))) 65536)))) + (IntKind.wrap .i64 (Int.tdiv (IntKind.wrap .i64 ((IntKind.wrap .i64 ((Int.tmod (IntKind.wrap .i64 p0) 65536) * (IntKind.wrap .i64 (Int.tdiv (IntKind.wrap .i64 p1) 65536)))) + (Int.tmod (IntKind.wrap .i64 ((IntKind.wrap .i64 ((IntKind.wrap .i64 (Int.tdiv (IntKind.wrap .i64 p0) 65536)) * (Int.tmod (IntKind.wrap .i64 p1) 65536))) + (IntKind.wrap .i64 (Int.tdiv (IntKind.wrap .i64 ((Int.tmod (IntKind.wrap .i64 p0) 65536) * (Int.tmod (IntKind.wrap .i64 p1) 65536))) 65536)))) 65536))) 65536)))), IntKind.wrap .u32 (IntKind.wrap .i64 ((IntKind.wrap .i64 ((Int.tmod (IntKind.wrap .i64 ((IntKind.wrap .i64 ((Int.tmod (IntKind.wrap .i64 p0) 65536) * (IntKind.wrap .i64 (Int.tdiv (IntKind.wrap .i64 p1) 65536)))) + (Int.tmod (IntKind.wrap .i64 ((IntKind.wrap .i64 ((IntKind.wrap .i64 (Int.tdiv (IntKind.wrap .i64 p0) 65536)) * (Int.tmod (IntKind.wrap .i64 p1) 65536))) + (IntKind.wrap .i64 (Int.tdiv (IntKind.wrap .i64 ((Int.tmod (IntKind.wrap .i64 p0) 65536) * (Int.tmod (IntKind.wrap .i64 p1) 65536))) 65536)))) 65536))) 65536) * 65536)) + (Int.tmod (IntKind.wrap .i64 ((Int.tmod (IntKind.wrap .i64 p0) 65536) * (Int.tmod (IntKind.wrap .i64 p1) 65536))) 65536))))

def ref01_Mul (p0 : Int) (p1 : Int) : Option (Int) :=
  (ref01_half p0 p1).bind fun y1 => some y1.2

def ref01_abs (p0 : Int) : Option (Int) :=
  bif decide (p0 < 0) then (some (IntKind.wrap .i64 (0 - p0))) else (some p0)

def ref01_Div (p0 : Int) (p1 : Int) : Option (Int) :=
  (ref01_Signed p0).bind fun y1 => (ref01_Signed p1).bind fun y2 => bif y2 == 0 then (some (4294967295 : Int)) else ((ref01_abs y1).bind fun y3 => (ref01_abs y2).bind fun y4 => (nz y4).bind fun _ => jn (fun kk1 => bif decide (y1 < 0) then (bif decide (0 < y2) then (kk1 (IntKind.wrap .i64 (0 - (IntKind.wrap .i64 (Int.tdiv y3 y4))))) else (bif decide (0 < y1) then (bif decide (y2 < 0) then (kk1 (IntKind.wrap .i64 (0 - (IntKind.wrap .i64 (Int.tdiv y3 y4))))) else (kk1 (IntKind.wrap .i64 (Int.tdiv y3 y4)))) else (kk1 (IntKind.wrap .i64 (Int.tdiv y3 y4))))) else (bif decide (0 < y1) then (bif decide (y2 < 0) then (kk1 (IntKind.wrap .i64 (0 - (IntKind.wrap .i64 (Int.tdiv y3 y4))))) else (kk1 (IntKind.wrap .i64 (Int.tdiv y3 y4)))) else (kk1 (IntKind.wrap .i64 (Int.tdiv y3 y4))))) (fun (x1 : Int) => (ref01_Cut x1).bind fun y5 => some y5))

def ref01_Rem (p0 : Int) (p1 : Int) : Option (Int) :=
  (ref01_Signed p0).bind fun y1 => (ref01_Signed p1).bind fun y2 => bif y2 == 0 then (some p0) else ((ref01_abs y1).bind fun y3 => (ref01_abs y2).bind fun y4 => (nz y4).bind fun _ => jn (fun kk1 => bif decide (y1 < 0) then (kk1 (IntKind.wrap .i64 (0 - (Int.tmod y3 y4)))) else (kk1 (Int.tmod y3 y4))) (fun (x1 : Int) => (ref01_Cut x1).bind fun y5 => some y5))

def ref01_power (p0 : Int) : Option (Int) :=
  (loopM (fun (x1, x2) => (bif decide (x2 < (IntKind.wrap .i64 (Int.tmod p0 32))) then (some (Lp.go (IntKind.wrap .i64 (2 * x1), IntKind.wrap .i64 (x2 + 1)))) else (some (Lp.brk (x1, x2))) : Option (Lp (Int × Int) (Unit)))) NN ((1 : Int), (0 : Int))).bind fun o => o.thn (fun (x1, x2) => some x1) (fun _ => none)

def ref01_Left (p0 : Int) (p1 : Int) : Option (Int) :=
  (ref01_power p1).bind fun y1 => (nz y1).bind fun _ => (nz (IntKind.wrap .i64 (Int.tdiv 4294967296 y1))).bind fun _ => (ref01_power p1).bind fun y2 => (ref01_Cut (IntKind.wrap .i64 ((Int.tmod (IntKind.wrap .i64 p0) (IntKind.wrap .i64 (Int.tdiv 4294967296 y1))) * y2))).bind fun y3 => some y3

def ref01_RightS (p0 : Int) (p1 : Int) : Option (Int) :=
  (ref01_Signed p0).bind fun y1 => (ref01_power p1).bind fun y2 => (nz y2).bind fun _ => jn (fun kk1 => bif decide (y1 < 0) then (bif (IntKind.wrap .i64 ((IntKind.wrap .i64 (Int.tdiv y1 y2)) * y2)) != y1 then (kk1 (IntKind.wrap .i64 ((IntKind.wrap .i64 (Int.tdiv y1 y2)) - 1))) else (kk1 (IntKind.wrap .i64 (Int.tdiv y1 y2)))) else (kk1 (IntKind.wrap .i64 (Int.tdiv y1 y2)))) (fun (x1 : Int) => (ref01_Cut x1).bind fun y3 => some y3)

def ref10_truth (p0 : Bool) : Option (Int) :=
  bif p0 then (some (1 : Int)) else (some (0 : Int))

def ref10_Apply (p0 : Int) (p1 : Int) (p2 : Int) : Option (Int × Int) :=
  (ref01_Signed p1).bind fun y1 => (ref01_Signed p2).bind fun y2 => bif p0 == 4 then (bif p2 == 0 then (some ((0 : Int), (11 : Int))) else ((ref01_Add p1 p2).bind fun y35 => (ref01_Sub p1 p2).bind fun y36 => (ref01_Mul p1 p2).bind fun y37 => (ref01_Div p1 p2).bind fun y38 => (ref01_Rem p1 p2).bind fun y39 => (ref01_Left p1 p2).bind fun y40 => (ref01_RightS p1 p2).bind fun y41 => (ref10_truth (y1 == y2)).bind fun y42 => (ref10_truth (y1 != y2)).bind fun y43 => (ref10_truth (decide (y1 < y2))).bind fun y44 => (ref10_truth (decide (y2 < y1))).bind fun y45 => (ref10_truth (decide (y1 ≤ y2))).bind fun y46 => (ref10_truth (decide (y2 ≤ y1))).bind fun y47 => (ref01_Sub 0 p1).bind fun y48 => (ref01_Sub 4294967295 p1).bind fun y49 => (ref10_truth (p1 == 0)).bind fun y50 => bif decide (p0 < 1) then (some ((0 : Int), (1 : Int))) else (bif decide ((List.length ([0, y35, y36, y37, y38, y39, bits .and .u32 p1 p2, bits .or .u32 p1 p2, bits .xor .u32 p1 p2, y40, y41, y42, y43, y44, y45, y46, y47, y48, y49, y50] : List Int) : Int) ≤ p0) then (some ((0 : Int), (1 : Int))) else ((idx ([0, y35, y36, y37, y38, y39, bits .and .u32 p1 p2, bits .or .u32 p1 p2, bits .xor .u32 p1 p2, y40, y41, y42, y43, y44, y45, y46, y47, y48, y49, y50] : List Int) p0).bind fun u3 => some (u3, (0 : Int)))))) else (bif p0 == 5 then (bif p2 == 0 then (some ((0 : Int), (11 : Int))) else ((ref01_Add p1 p2).bind fun y3 => (ref01_Sub p1 p2).bind fun y4 => (ref01_Mul p1 p2).bind fun y5 => (ref01_Div p1 p2).bind fun y6 => (ref01_Rem p1 p2).bind fun y7 => (ref01_Left p1 p2).bind fun y8 => (ref01_RightS p1 p2).bind fun y9 => (ref10_truth (y1 == y2)).bind fun y10 => (ref10_truth (y1 != y2)).bind fun y11 => (ref10_truth (decide (y1 < y2))).bind fun y12 => (ref10_truth (decide (y2 < y1))).bind fun y13 => (ref10_truth (decide (y1 ≤ y2))).bind fun y14 => (ref10_truth (decide (y2 ≤ y1))).bind fun y15 => (ref01_Sub 0 p1).bind fun y16 => (ref01_Sub 4294967295 p1).bind fun y17 => (ref10_truth (p1 == 0)).bind fun y18 => bif decide (p0 < 1) then (some ((0 : Int), (1 : Int))) else (bif decide ((List.length ([0, y3, y4, y5, y6, y7, bits .and .u32 p1 p2, bits .or .u32 p1 p2, bits .xor .u32 p1 p2, y8, y9, y10, y11, y12, y13, y14, y15, y16, y17, y18] : List Int) : Int) ≤ p0) then (some ((0 : Int), (1 : Int))) else ((idx ([0, y3, y4, y5, y6, y7, bits .and .u32 p1 p2, bits .or .u32 p1 p2, bits .xor .u32 p1 p2, y8, y9, y10, y11, y12, y13, y14, y15, y16, y17, y18] : List Int) p0).bind fun u1 => some (u1, (0 : Int)))))) else ((ref01_Add p1 p2).bind fun y19 => (ref01_Sub p1 p2).bind fun y20 => (ref01_Mul p1 p2).bind fun y21 => (ref01_Div p1 p2).bind fun y22 => (ref01_Rem p1 p2).bind fun y23 => (ref01_Left p1 p2).bind fun y24 => (ref01_RightS p1 p2).bind fun y25 => (ref10_truth (y1 == y2)).bind fun y26 => (ref10_truth (y1 != y2)).bind fun y27 => (ref10_truth (decide (y1 < y2))).bind fun y28 => (ref10_truth (decide (y2 < y1))).bind fun y29 => (ref10_truth (decide (y1 ≤ y2))).bind fun y30 => (ref10_truth (decide (y2 ≤ y1))).bind fun y31 => (ref01_Sub 0 p1).bind fun y32 => (ref01_Sub 4294967295 p1).bind fun y33 => (ref10_truth (p1 == 0)).bind fun y34 => bif decide (p0 < 1) then (some ((0 : Int), (1 : Int))) else (bif decide ((List.length ([0, y19, y20, y21, y22, y23, bits .and .u32 p1 p2, bits .or .u32 p1 p2, bits .xor .u32 p1 p2, y24, y25, y26, y27, y28, y29, y30, y31, y32, y33, y34] : List Int) : Int) ≤ p0) then (some ((0 : Int), (1 : Int))) else ((idx ([0, y19, y20, y21, y22, y23, bits .and .u32 p1 p2, bits .or .u32 p1 p2, bits .xor .u32 p1 p2, y24, y25, y26, y27, y28, y29, y30, y31, y32, y33, y34] : List Int) p0).bind fun u2 => some (u2, (0 : Int))))))

def law10_CheckApplies (p0 : Int) (p1 : Int) (p2 : Int) : Option (Bool) :=
  (check_Apply p0 p1 p2).bind fun y1 => (ref10_Apply p0 p1 p2).bind fun y2 => (law10_awake).bind fun y3 => bif y3 then (bif y1.1 == y2.1 then (some (y1.2 == y2.2)) else (some false)) else (some false)

structure Rec1 where
  law10_ref : GTerm → Int → Option (ref10Term × Int)

def law10_ref_b (G : Rec1) (p0 : GTerm) (p1 : Int) : Option (ref10Term × Int) :=
  (loopM (fun (x2, x3, x4) => (bif decide (x3 < (List.length p0.Kids : Int)) then (bif decide (0 < x2) then ((idx p0.Kids x3).bind fun u1 => (G.law10_ref u1 x2).bind fun y1 => (room (List.length x4.Kids + List.length ([y1.1] : List ref10Term))).bind fun _ => some (Lp.go (y1.2, IntKind.wrap .i64 (x3 + 1), { x4 with Kids := x4.Kids ++ ([y1.1] : List ref10Term) }))) else (some (Lp.brk (x2, x3, x4)))) else (some (Lp.brk (x2, x3, x4))) : Option (Lp (Int × Int × ref10Term) (Unit)))) NN (IntKind.wrap .i64 (p1 - 1), (0 : Int), { p0 with Kids := [] })).bind fun o => o.thn (fun (x2, x3, x4) => some (x4, x2)) (fun _ => none)
def rec1 : Nat → Rec1
  | 0 => ⟨fun _ _ => none⟩
  | n + 1 => ⟨law10_ref_b (rec1 n)⟩
def law10_ref (p0 : GTerm) (p1 : Int) : Option (ref10Term × Int) := (rec1 NN).law10_ref p0 p1

def check_operands (p0 : Int) : Option (Int) :=
  bif p0 == 1 then (some (0 : Int)) else (jn (fun kk1 => bif p0 == 5 then (kk1 (p0 == 5)) else (kk1 (p0 == 17))) (fun (x1 : Bool) => bif x1 then (some (1 : Int)) else (jn (fun kk2 => bif p0 == 6 then (kk2 (p0 == 6)) else (bif p0 == 7 then (kk2 (p0 == 7)) else (kk2 (p0 == 8)))) (fun (x2 : Bool) => bif x2 then (some (2 : Int)) else (bif p0 == 9 then (some (3 : Int)) else (some ((-1) : Int)))))))

structure Rec2 where
  check_numbers : GTerm → Option (Bool)

def check_numbers_b (G : Rec2) (p0 : GTerm) : Option (Bool) :=
  (check_operands p0.Kind).bind fun y1 => bif (List.length p0.Kids : Int) != y1 then (some false) else ((loopM (fun (x1 : Int) => (bif decide (x1 < (List.length p0.Kids : Int)) then ((idx p0.Kids x1).bind fun u1 => (G.check_numbers u1).bind fun y2 => bif !y2 then (some (Lp.ret false)) else (some (Lp.go (IntKind.wrap .i64 (x1 + 1))))) else (some (Lp.brk x1)) : Option (Lp (Int) (Bool)))) NN (0 : Int)).bind fun o => o.thn (fun (x1 : Int) => some true) (fun r => some r))
def rec2 : Nat → Rec2
  | 0 => ⟨fun _ => none⟩
  | n + 1 => ⟨check_numbers_b (rec2 n)⟩
def check_numbers (p0 : GTerm) : Option (Bool) := (rec2 NN).check_numbers p0

structure Rec3 where
  check_fold : GTerm → Option (Int × Int)

def check_fold_b (G : Rec3) (p0 : GTerm) : Option (Int × Int) :=
  bif p0.Kind == 1 then (some (p0.Num, (0 : Int))) else ((idx p0.Kids 0).bind fun u1 => (G.check_fold u1).bind fun y1 => bif y1.2 != 0 then (some ((0 : Int), y1.2)) else (jn (fun kk1 => bif p0.Kind == 17 then (some (bits .and .u32 y1.1 255, (0 : Int))) else (bif p0.Kind == 5 then ((check_Apply p0.Fn y1.1 0).bind fun y2 => some (y2.1, y2.2)) else (bif p0.Kind == 9 then (bif y1.1 != 0 then ((idx p0.Kids 1).bind fun u2 => (G.check_fold u2).bind fun y3 => some (y3.1, y3.2)) else ((idx p0.Kids 2).bind fun u3 => (G.check_fold u3).bind fun y4 => some (y4.1, y4.2))) else (jn (fun kk2 => bif p0.Kind == 7 then (kk2 (p0.Kind == 7)) else (kk2 (p0.Kind == 8))) (fun (x1 : Bool) => bif x1 then (bif (y1.1 != 0) == (p0.Kind == 8) then ((check_bit (y1.1 != 0)).bind fun y5 => some (y5, (0 : Int))) else (kk1 ())) else (kk1 ())))))) (fun (_ : Unit) => (idx p0.Kids 1).bind fun u4 => (G.check_fold u4).bind fun y6 => bif y6.2 != 0 then (some ((0 : Int), y6.2)) else (bif p0.Kind != 6 then ((check_bit (y6.1 != 0)).bind fun y7 => some (y7, (0 : Int))) else ((check_Apply p0.Fn y1.1 y6.1).bind fun y8 => some (y8.1, y8.2))))))
def rec3 : Nat → Rec3
  | 0 => ⟨fun _ => none⟩
  | n + 1 => ⟨check_fold_b (rec3 n)⟩
def check_fold (p0 : GTerm) : Option (Int × Int) := (rec3 NN).check_fold p0

def check_Fold (p0 : GTerm) : Option (Int × Int) :=
  (check_numbers p0).bind fun y1 => bif !y1 then (some ((0 : Int), (9 : Int))) else ((check_fold p0).bind fun y2 => some (y2.1, y2.2))

def ref10_count (p0 : Int) : Option (Int) :=
  bif p0 == 1 then (some (0 : Int)) else (bif p0 == 5 then (some (1 : Int)) else (bif p0 == 17 then (some (1 : Int)) else (bif p0 == 6 then (some (2 : Int)) else (bif p0 == 7 then (some (2 : Int)) else (bif p0 == 8 then (some (2 : Int)) else (bif p0 == 9 then (some (3 : Int)) else (some ((-1) : Int))))))))

structure Rec4 where
  ref10_Numbers : ref10Term → Option (Bool)

def ref10_Numbers_b (G : Rec4) (p0 : ref10Term) : Option (Bool) :=
  (ref10_count p0.Kind).bind fun y1 => bif (List.length p0.Kids : Int) != y1 then (some false) else ((loopM (fun (x1 : Int) => (bif decide (x1 < (List.length p0.Kids : Int)) then ((idx p0.Kids x1).bind fun u1 => (G.ref10_Numbers u1).bind fun y2 => bif !y2 then (some (Lp.ret false)) else (some (Lp.go (IntKind.wrap .i64 (x1 + 1))))) else (some (Lp.brk x1)) : Option (Lp (Int) (Bool)))) NN (0 : Int)).bind fun o => o.thn (fun (x1 : Int) => some true) (fun r => some r))
def rec4 : Nat → Rec4
  | 0 => ⟨fun _ => none⟩
  | n + 1 => ⟨ref10_Numbers_b (rec4 n)⟩
def ref10_Numbers (p0 : ref10Term) : Option (Bool) := (rec4 NN).ref10_Numbers p0

structure Rec5 where
  ref10_Fold : ref10Term → Option (Int × Int)

def ref10_Fold_b (G : Rec5) (p0 : ref10Term) : Option (Int × Int) :=
  (ref10_Numbers p0).bind fun y1 => bif !y1 then (some ((0 : Int), (9 : Int))) else (bif p0.Kind == 1 then (some (p0.Num, (0 : Int))) else ((idx p0.Kids 0).bind fun u1 => (G.ref10_Fold u1).bind fun y2 => bif y2.2 != 0 then (some ((0 : Int), y2.2)) else (bif p0.Kind == 17 then (some (Int.tmod y2.1 256, (0 : Int))) else (bif p0.Kind == 5 then ((ref10_Apply p0.Fn y2.1 0).bind fun y3 => some (y3.1, y3.2)) else (bif p0.Kind == 9 then (bif y2.1 != 0 then ((idx p0.Kids 1).bind fun u2 => (G.ref10_Fold u2).bind fun y4 => some (y4.1, y4.2)) else (bif p0.Kind == 9 then ((idx p0.Kids 2).bind fun u3 => (G.ref10_Fold u3).bind fun y5 => some (y5.1, y5.2)) else (bif p0.Kind == 7 then (bif y2.1 == 0 then (some ((0 : Int), (0 : Int))) else (bif p0.Kind == 8 then (bif y2.1 != 0 then (some ((1 : Int), (0 : Int))) else ((idx p0.Kids 1).bind fun u4 => (G.ref10_Fold u4).bind fun y6 => bif y6.2 != 0 then (some ((0 : Int), y6.2)) else (bif p0.Kind == 6 then ((ref10_Apply p0.Fn y2.1 y6.1).bind fun y7 => some (y7.1, y7.2)) else ((ref10_truth (y6.1 != 0)).bind fun y8 => some (y8, (0 : Int)))))) else ((idx p0.Kids 1).bind fun u5 => (G.ref10_Fold u5).bind fun y9 => bif y9.2 != 0 then (some ((0 : Int), y9.2)) else (bif p0.Kind == 6 then ((ref10_Apply p0.Fn y2.1 y9.1).bind fun y10 => some (y10.1, y10.2)) else ((ref10_truth (y9.1 != 0)).bind fun y11 => some (y11, (0 : Int))))))) else (bif p0.Kind == 8 then (bif y2.1 != 0 then (some ((1 : Int), (0 : Int))) else ((idx p0.Kids 1).bind fun u6 => (G.ref10_Fold u6).bind fun y12 => bif y12.2 != 0 then (some ((0 : Int), y12.2)) else (bif p0.Kind == 6 then ((ref10_Apply p0.Fn y2.1 y12.1).bind fun y13 => some (y13.1, y13.2)) else ((ref10_truth (y12.1 != 0)).bind fun y14 => some (y14, (0 : Int)))))) else ((idx p0.Kids 1).bind fun u7 => (G.ref10_Fold u7).bind fun y15 => bif y15.2 != 0 then (some ((0 : Int), y15.2)) else (bif p0.Kind == 6 then ((ref10_Apply p0.Fn y2.1 y15.1).bind fun y16 => some (y16.1, y16.2)) else ((ref10_truth (y15.1 != 0)).bind fun y17 => some (y17, (0 : Int))))))))) else (bif p0.Kind == 9 then ((idx p0.Kids 2).bind fun u8 => (G.ref10_Fold u8).bind fun y18 => some (y18.1, y18.2)) else (bif p0.Kind == 7 then (bif y2.1 == 0 then (some ((0 : Int), (0 : Int))) else (bif p0.Kind == 8 then (bif y2.1 != 0 then (some ((1 : Int), (0 : Int))) else ((idx p0.Kids 1).bind fun u9 => (G.ref10_Fold u9).bind fun y19 => bif y19.2 != 0 then (some ((0 : Int), y19.2)) else (bif p0.Kind == 6 then ((ref10_Apply p0.Fn y2.1 y19.1).bind fun y20 => some (y20.1, y20.2)) else ((ref10_truth (y19.1 != 0)).bind fun y21 => some (y21, (0 : Int)))))) else ((idx p0.Kids 1).bind fun u10 => (G.ref10_Fold u10).bind fun y22 => bif y22.2 != 0 then (some ((0 : Int), y22.2)) else (bif p0.Kind == 6 then ((ref10_Apply p0.Fn y2.1 y22.1).bind fun y23 => some (y23.1, y23.2)) else ((ref10_truth (y22.1 != 0)).bind fun y24 => some (y24, (0 : Int))))))) else (bif p0.Kind == 8 then (bif y2.1 != 0 then (some ((1 : Int), (0 : Int))) else ((idx p0.Kids 1).bind fun u11 => (G.ref10_Fold u11).bind fun y25 => bif y25.2 != 0 then (some ((0 : Int), y25.2)) else (bif p0.Kind == 6 then ((ref10_Apply p0.Fn y2.1 y25.1).bind fun y26 => some (y26.1, y26.2)) else ((ref10_truth (y25.1 != 0)).bind fun y27 => some (y27, (0 : Int)))))) else ((idx p0.Kids 1).bind fun u12 => (G.ref10_Fold u12).bind fun y28 => bif y28.2 != 0 then (some ((0 : Int), y28.2)) else (bif p0.Kind == 6 then ((ref10_Apply p0.Fn y2.1 y28.1).bind fun y29 => some (y29.1, y29.2)) else ((ref10_truth (y28.1 != 0)).bind fun y30 => some (y30, (0 : Int)))))))))))))
def rec5 : Nat → Rec5
  | 0 => ⟨fun _ => none⟩
  | n + 1 => ⟨ref10_Fold_b (rec5 n)⟩
def ref10_Fold (p0 : ref10Term) : Option (Int × Int) := (rec5 NN).ref10_Fold p0

def law10_CheckFolds (p0 : GTerm) : Option (Bool) :=
  (law10_ref p0 300).bind fun y1 => bif decide (y1.2 ≤ 0) then ((law10_awake).bind fun y2 => some y2) else ((check_Fold p0).bind fun y3 => (ref10_Fold y1.1).bind fun y4 => (law10_awake).bind fun y5 => bif y5 then (bif y3.1 == y4.1 then (some (y3.2 == y4.2)) else (some false)) else (some false))
end Go.Proofs.YtpfgdpffgdengaaGreat
