/- The models of Go functions: what each computes. Printed by gen2.py. -/
import Derived.Test.YtpfgdpffgdengaaGreatModel
import Derived.Laws.Entries
set_option linter.unusedVariables false
namespace Go.Proofs.YtpfgdpffgdengaaGreat

def law10_awake : Option Bool := some true


def word_Add (p0 : Int) (p1 : Int) : Option (Int) :=
  some (IntKind.wrap .u32 (p0 + p1))

def word_Sub (p0 : Int) (p1 : Int) : Option (Int) :=
  some (IntKind.wrap .u32 (p0 - p1))

def word_Mul (p0 : Int) (p1 : Int) : Option (Int) :=
  some (IntKind.wrap .u32 (p0 * p1))

def word_Div_1 (p0 : Int) (p1 : Int) : Option (Int) :=
  (nz p1).bind fun _ => some (IntKind.wrap .i64 (Int.tdiv p0 p1))

def word_signed (p0 : Int) (p1 : Int) : Option (Int) :=
  (word_Div_1 (IntKind.wrap .i64 (IntKind.wrap .i32 p0)) (IntKind.wrap .i64 (IntKind.wrap .i32 p1))).bind fun y1 => some y1

def word_Div (p0 : Int) (p1 : Int) : Option (Int) :=
  bif p1 == 0 then (some (4294967295 : Int)) else ((word_signed p0 p1).bind fun y1 => some (IntKind.wrap .u32 y1))

def word_Rem_1 (p0 : Int) (p1 : Int) : Option (Int) :=
  (nz p1).bind fun _ => some (Int.tmod p0 p1)

def word_signed_2 (p0 : Int) (p1 : Int) : Option (Int) :=
  (word_Rem_1 (IntKind.wrap .i64 (IntKind.wrap .i32 p0)) (IntKind.wrap .i64 (IntKind.wrap .i32 p1))).bind fun y1 => some y1

def word_Rem (p0 : Int) (p1 : Int) : Option (Int) :=
  bif p1 == 0 then (some p0) else ((word_signed_2 p0 p1).bind fun y1 => some (IntKind.wrap .u32 y1))

def word_Left (p0 : Int) (p1 : Int) : Option (Int) :=
  (nn (bits .and .u32 p1 31)).bind fun _ => some (IntKind.wrap .u32 (p0 * 2 ^ (min (Int.toNat (bits .and .u32 p1 31)) (IntKind.bits .u32))))

def word_RightS (p0 : Int) (p1 : Int) : Option (Int) :=
  (nn (bits .and .u32 p1 31)).bind fun _ => some (IntKind.wrap .u32 (Int.fdiv (IntKind.wrap .i32 p0) (2 ^ (min (Int.toNat (bits .and .u32 p1 31)) (IntKind.bits .i32)))))

def check_bit (p0 : Bool) : Option (Int) :=
  bif p0 then (some (1 : Int)) else (some (0 : Int))

def word_bit (p0 : Bool) : Option (Int) :=
  bif p0 then (some (1 : Int)) else (some (0 : Int))

def word_Less (p0 : Int) (p1 : Int) : Option (Int) :=
  (word_bit (decide ((IntKind.wrap .i32 p0) < (IntKind.wrap .i32 p1)))).bind fun y1 => some y1

def check_compare (p0 : Int) (p1 : Int) (p2 : Int) : Option (Int × Int) :=
  bif p0 == 11 then ((check_bit (p1 == p2)).bind fun y1 => some (y1, (0 : Int))) else (bif p0 == 12 then ((check_bit (p1 != p2)).bind fun y2 => some (y2, (0 : Int))) else (bif p0 == 13 then ((word_Less p1 p2).bind fun y3 => some (y3, (0 : Int))) else (bif p0 == 14 then ((word_Less p2 p1).bind fun y4 => some (y4, (0 : Int))) else (bif p0 == 15 then ((word_Less p2 p1).bind fun y5 => some (IntKind.wrap .u32 (1 - y5), (0 : Int))) else (bif p0 == 16 then ((word_Less p1 p2).bind fun y6 => some (IntKind.wrap .u32 (1 - y6), (0 : Int))) else (some ((0 : Int), (1 : Int))))))))

def check_Apply (p0 : Int) (p1 : Int) (p2 : Int) : Option (Int × Int) :=
  bif p0 == 1 then ((word_Add p1 p2).bind fun y1 => some (y1, (0 : Int))) else (bif p0 == 2 then ((word_Sub p1 p2).bind fun y2 => some (y2, (0 : Int))) else (bif p0 == 3 then ((word_Mul p1 p2).bind fun y3 => some (y3, (0 : Int))) else (jn (fun kk1 => bif p0 == 4 then (kk1 (p0 == 4)) else (kk1 (p0 == 5))) (fun (x1 : Bool) => bif x1 then (bif p2 == 0 then (some ((0 : Int), (11 : Int))) else (bif p0 == 4 then ((word_Div p1 p2).bind fun y4 => some (y4, (0 : Int))) else ((word_Rem p1 p2).bind fun y5 => some (y5, (0 : Int))))) else (bif p0 == 6 then (some (bits .and .u32 p1 p2, (0 : Int))) else (bif p0 == 7 then (some (bits .or .u32 p1 p2, (0 : Int))) else (bif p0 == 8 then (some (bits .xor .u32 p1 p2, (0 : Int))) else (bif p0 == 9 then ((word_Left p1 p2).bind fun y6 => some (y6, (0 : Int))) else (bif p0 == 10 then ((word_RightS p1 p2).bind fun y7 => some (y7, (0 : Int))) else (bif p0 == 17 then ((word_Sub 0 p1).bind fun y8 => some (y8, (0 : Int))) else (bif p0 == 18 then (some (bits .xor .u32 (if IntKind.signed .u32 then -1 else IntKind.max .u32) p1, (0 : Int))) else (bif p0 == 19 then ((check_bit (p1 == 0)).bind fun y9 => some (y9, (0 : Int))) else ((check_compare p0 p1 p2).bind fun y10 => some (y10.1, y10.2))))))))))))))

def ref01_Signed (p0 : Int) : Option (Int) :=
  bif decide (2147483648 ≤ p0) then (some (IntKind.wrap .i64 ((IntKind.wrap .i64 p0) - 4294967296))) else (some (IntKind.wrap .i64 p0))

def ref01_Cut (p0 : Int) : Option (Int) :=
  jn (fun kk1 => bif decide ((Int.tmod p0 4294967296) < 0) then (kk1 (IntKind.wrap .i64 ((Int.tmod p0 4294967296) + 4294967296))) else (kk1 (Int.tmod p0 4294967296))) (fun (x1 : Int) => some (IntKind.wrap .u32 x1))

def ref01_Add (p0 : Int) (p1 : Int) : Option (Int) :=
  (ref01_Cut (IntKind.wrap .i64 ((IntKind.wrap .i64 p0) + (IntKind.wrap .i64 p1)))).bind fun y1 => some y1

def ref01_Sub (p0 : Int) (p1 : Int) : Option (Int) :=
  (ref01_Cut (IntKind.wrap .i64 ((IntKind.wrap .i64 p0) - (IntKind.wrap .i64 p1)))).bind fun y1 => some y1

def ref01_half (p0 : Int) (p1 : Int) : Option (Int × Int) :=
  some (IntKind.wrap .u32 (IntKind.wrap .i64 ((IntKind.wrap .i64 ((IntKind.wrap .i64 ((IntKind.wrap .i64 (Int.tdiv (IntKind.wrap .i64 p0) 65536)) * (IntKind.wrap .i64 (Int.tdiv (IntKind.wrap .i64 p1) 65536)))) + (IntKind.wrap .i64 (Int.tdiv (IntKind.wrap .i64 ((IntKind.wrap .i64 ((IntKind.wrap .i64 (Int.tdiv (IntKind.wrap .i64 p0) 65536)) * (Int.tmod (IntKind.wrap .i64 p1) 65536))) + (IntKind.wrap .i64 (Int.tdiv (IntKind.wrap .i64 ((Int.tmod (IntKind.wrap .i64 p0) 65536) * (Int.tmod (IntKind.wrap .i64 p1) 65536))) 65536)))) 65536)))) + (IntKind.wrap .i64 (Int.tdiv (IntKind.wrap .i64 ((IntKind.wrap .i64 ((Int.tmod (IntKind.wrap .i64 p0) 65536) * (IntKind.wrap .i64 (Int.tdiv (IntKind.wrap .i64 p1) 65536)))) + (Int.tmod (IntKind.wrap .i64 ((IntKind.wrap .i64 ((IntKind.wrap .i64 (Int.tdiv (IntKind.wrap .i64 p0) 65536)) * (Int.tmod (IntKind.wrap .i64 p1) 65536))) + (IntKind.wrap .i64 (Int.tdiv (IntKind.wrap .i64 ((Int.tmod (IntKind.wrap .i64 p0) 65536) * (Int.tmod (IntKind.wrap .i64 p1) 65536))) 65536)))) 65536))) 65536)))), IntKind.wrap .u32 (IntKind.wrap .i64 ((IntKind.wrap .i64 ((Int.tmod (IntKind.wrap .i64 ((IntKind.wrap .i64 ((Int.tmod (IntKind.wrap .i64 p0) 65536) * (IntKind.wrap .i64 (Int.tdiv (IntKind.wrap .i64 p1) 65536)))) + (Int.tmod (IntKind.wrap .i64 ((IntKind.wrap .i64 ((IntKind.wrap .i64 (Int.tdiv (IntKind.wrap .i64 p0) 65536)) * (Int.tmod (IntKind.wrap .i64 p1) 65536))) + (IntKind.wrap .i64 (Int.tdiv (IntKind.wrap .i64 ((Int.tmod (IntKind.wrap .i64 p0) 65536) * (Int.tmod (IntKind.wrap .i64 p1) 65536))) 65536)))) 65536))) 65536) * 65536)) + (Int.tmod (IntKind.wrap .i64 ((Int.tmod (IntKind.wrap .i64 p0) 65536) * (Int.tmod (IntKind.wrap .i64 p1) 65536))) 65536))))

def ref01_Mul (p0 : Int) (p1 : Int) : Option (Int) :=
  (ref01_half p0 p1).bind fun y1 => some y1.2

def ref01_abs (p0 : Int) : Option (Int) :=
  bif decide (p0 < 0) then (some (IntKind.wrap .i64 (0 - p0))) else (some p0)

def ref01_Div (p0 : Int) (p1 : Int) : Option (Int) :=
  (ref01_Signed p0).bind fun y1 => (ref01_Signed p1).bind fun y2 => bif y2 == 0 then (some (4294967295 : Int)) else ((ref01_abs y1).bind fun y3 => (ref01_abs y2).bind fun y4 => (nz y4).bind fun _ => jn (fun kk1 => bif decide (y1 < 0) then (bif decide (0 < y2) then (kk1 (IntKind.wrap .i64 (0 - (IntKind.wrap .i64 (Int.tdiv y3 y4))))) else (bif decide (0 < y1) then (bif decide (y2 < 0) then (kk1 (IntKind.wrap .i64 (0 - (IntKind.wrap .i64 (Int.tdiv y3 y4))))) else (kk1 (IntKind.wrap .i64 (Int.tdiv y3 y4)))) else (kk1 (IntKind.wrap .i64 (Int.tdiv y3 y4))))) else (bif decide (0 < y1) then (bif decide (y2 < 0) then (kk1 (IntKind.wrap .i64 (0 - (IntKind.wrap .i64 (Int.tdiv y3 y4))))) else (kk1 (IntKind.wrap .i64 (Int.tdiv y3 y4)))) else (kk1 (IntKind.wrap .i64 (Int.tdiv y3 y4))))) (fun (x1 : Int) => (ref01_Cut x1).bind fun y5 => some y5))

def ref01_Rem (p0 : Int) (p1 : Int) : Option (Int) :=
  (ref01_Signed p0).bind fun y1 => (ref01_Signed p1).bind fun y2 => bif y2 == 0 then (some p0) else ((ref01_abs y1).bind fun y3 => (ref01_abs y2).bind fun y4 => (nz y4).bind fun _ => jn (fun kk1 => bif decide (y1 < 0) then (kk1 (IntKind.wrap .i64 (0 - (Int.tmod y3 y4)))) else (kk1 (Int.tmod y3 y4))) (fun (x1 : Int) => (ref01_Cut x1).bind fun y5 => some y5))

def ref01_power (p0 : Int) : Option (Int) :=
  (loopM (fun (x1, x2) => (bif decide (x2 < (IntKind.wrap .i64 (Int.tmod p0 32))) then (some (Lp.go (IntKind.wrap .i64 (2 * x1), IntKind.wrap .i64 (x2 + 1)))) else (some (Lp.brk (x1, x2))) : Option (Lp (Int × Int) (Unit)))) NN ((1 : Int), (0 : Int))).bind fun o => o.thn (fun (x1, x2) => some x1) (fun _ => none)

def ref01_Left (p0 : Int) (p1 : Int) : Option (Int) :=
  (ref01_power p1).bind fun y1 => (nz y1).bind fun _ => (nz (IntKind.wrap .i64 (Int.tdiv 4294967296 y1))).bind fun _ => (ref01_power p1).bind fun y2 => (ref01_Cut (IntKind.wrap .i64 ((Int.tmod (IntKind.wrap .i64 p0) (IntKind.wrap .i64 (Int.tdiv 4294967296 y1))) * y2))).bind fun y3 => some y3

def ref01_RightS (p0 : Int) (p1 : Int) : Option (Int) :=
  (ref01_Signed p0).bind fun y1 => (ref01_power p1).bind fun y2 => (nz y2).bind fun _ => jn (fun kk1 => bif decide (y1 < 0) then (bif (IntKind.wrap .i64 ((IntKind.wrap .i64 (Int.tdiv y1 y2)) * y2)) != y1 then (kk1 (IntKind.wrap .i64 ((IntKind.wrap .i64 (Int.tdiv y1 y2)) - 1))) else (kk1 (IntKind.wrap .i64 (Int.tdiv y1 y2)))) else (kk1 (IntKind.wrap .i64 (Int.tdiv y1 y2)))) (fun (x1 : Int) => (ref01_Cut x1).bind fun y3 => some y3)

def ref10_truth (p0 : Bool) : Option (Int) :=
  bif p0 then (some (1 : Int)) else (some (0 : Int))

def ref10_Apply (p0 : Int) (p1 : Int) (p2 : Int) : Option (Int × Int) :=
  (ref01_Signed p1).bind fun y1 => (ref01_Signed p2).bind fun y2 => bif p0 == 4 then (bif p2 == 0 then (some ((0 : Int), (11 : Int))) else ((ref01_Add p1 p2).bind fun y35 => (ref01_Sub p1 p2).bind fun y36 => (ref01_Mul p1 p2).bind fun y37 => (ref01_Div p1 p2).bind fun y38 => (ref01_Rem p1 p2).bind fun y39 => (ref01_Left p1 p2).bind fun y40 => (ref01_RightS p1 p2).bind fun y41 => (ref10_truth (y1 == y2)).bind fun y42 => (ref10_truth (y1 != y2)).bind fun y43 => (ref10_truth (decide (y1 < y2))).bind fun y44 => (ref10_truth (decide (y2 < y1))).bind fun y45 => (ref10_truth (decide (y1 ≤ y2))).bind fun y46 => (ref10_truth (decide (y2 ≤ y1))).bind fun y47 => (ref01_Sub 0 p1).bind fun y48 => (ref01_Sub 4294967295 p1).bind fun y49 => (ref10_truth (p1 == 0)).bind fun y50 => bif decide (p0 < 1) then (some ((0 : Int), (1 : Int))) else (bif decide ((List.length ([0, y35, y36, y37, y38, y39, bits .and .u32 p1 p2, bits .or .u32 p1 p2, bits .xor .u32 p1 p2, y40, y41, y42, y43, y44, y45, y46, y47, y48, y49, y50] : List Int) : Int) ≤ p0) then (some ((0 : Int), (1 : Int))) else ((idx ([0, y35, y36, y37, y38, y39, bits .and .u32 p1 p2, bits .or .u32 p1 p2, bits .xor .u32 p1 p2, y40, y41, y42, y43, y44, y45, y46, y47, y48, y49, y50] : List Int) p0).bind fun u3 => some (u3, (0 : Int)))))) else (bif p0 == 5 then (bif p2 == 0 then (some ((0 : Int), (11 : Int))) else ((ref01_Add p1 p2).bind fun y3 => (ref01_Sub p1 p2).bind fun y4 => (ref01_Mul p1 p2).bind fun y5 => (ref01_Div p1 p2).bind fun y6 => (ref01_Rem p1 p2).bind fun y7 => (ref01_Left p1 p2).bind fun y8 => (ref01_RightS p1 p2).bind fun y9 => (ref10_truth (y1 == y2)).bind fun y10 => (ref10_truth (y1 != y2)).bind fun y11 => (ref10_truth (decide (y1 < y2))).bind fun y12 => (ref10_truth (decide (y2 < y1))).bind fun y13 => (ref10_truth (decide (y1 ≤ y2))).bind fun y14 => (ref10_truth (decide (y2 ≤ y1))).bind fun y15 => (ref01_Sub 0 p1).bind fun y16 => (ref01_Sub 4294967295 p1).bind fun y17 => (ref10_truth (p1 == 0)).bind fun y18 => bif decide (p0 < 1) then (some ((0 : Int), (1 : Int))) else (bif decide ((List.length ([0, y3, y4, y5, y6, y7, bits .and .u32 p1 p2, bits .or .u32 p1 p2, bits .xor .u32 p1 p2, y8, y9, y10, y11, y12, y13, y14, y15, y16, y17, y18] : List Int) : Int) ≤ p0) then (some ((0 : Int), (1 : Int))) else ((idx ([0, y3, y4, y5, y6, y7, bits .and .u32 p1 p2, bits .or .u32 p1 p2, bits .xor .u32 p1 p2, y8, y9, y10, y11, y12, y13, y14, y15, y16, y17, y18] : List Int) p0).bind fun u1 => some (u1, (0 : Int)))))) else ((ref01_Add p1 p2).bind fun y19 => (ref01_Sub p1 p2).bind fun y20 => (ref01_Mul p1 p2).bind fun y21 => (ref01_Div p1 p2).bind fun y22 => (ref01_Rem p1 p2).bind fun y23 => (ref01_Left p1 p2).bind fun y24 => (ref01_RightS p1 p2).bind fun y25 => (ref10_truth (y1 == y2)).bind fun y26 => (ref10_truth (y1 != y2)).bind fun y27 => (ref10_truth (decide (y1 < y2))).bind fun y28 => (ref10_truth (decide (y2 < y1))).bind fun y29 => (ref10_truth (decide (y1 ≤ y2))).bind fun y30 => (ref10_truth (decide (y2 ≤ y1))).bind fun y31 => (ref01_Sub 0 p1).bind fun y32 => (ref01_Sub 4294967295 p1).bind fun y33 => (ref10_truth (p1 == 0)).bind fun y34 => bif decide (p0 < 1) then (some ((0 : Int), (1 : Int))) else (bif decide ((List.length ([0, y19, y20, y21, y22, y23, bits .and .u32 p1 p2, bits .or .u32 p1 p2, bits .xor .u32 p1 p2, y24, y25, y26, y27, y28, y29, y30, y31, y32, y33, y34] : List Int) : Int) ≤ p0) then (some ((0 : Int), (1 : Int))) else ((idx ([0, y19, y20, y21, y22, y23, bits .and .u32 p1 p2, bits .or .u32 p1 p2, bits .xor .u32 p1 p2, y24, y25, y26, y27, y28, y29, y30, y31, y32, y33, y34] : List Int) p0).bind fun u2 => some (u2, (0 : Int))))))

def law10_CheckApplies (p0 : Int) (p1 : Int) (p2 : Int) : Option (Bool) :=
  (check_Apply p0 p1 p2).bind fun y1 => (ref10_Apply p0 p1 p2).bind fun y2 => (law10_awake).bind fun y3 => bif y3 then (bif y1.1 == y2.1 then (some (y1.2 == y2.2)) else (some false)) else (some false)
end Go.Proofs.YtpfgdpffgdengaaGreat
