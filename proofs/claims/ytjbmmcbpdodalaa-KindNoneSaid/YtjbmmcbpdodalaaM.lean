/- The models of Go functions: what each computes. Printed by gen2.py. -/
import Derived.Test.YtjbmmcbpdodalaaModel
import Derived.Laws.Entries
set_option linter.unusedVariables false
namespace Go.Proofs.Ytjbmmcbpdodalaa
structure GField where
  Name : List UInt8
  Type_ : Int
  At : Int
  deriving DecidableEq
structure law08Act where
  Kind : Int
  N : Int
  Long : Int
  Name : List UInt8
  Fields : List GField
  deriving DecidableEq
structure GType where
  Kind : Int
  Elem : Int
  Len : Int
  Name : List UInt8
  Fields : List GField
  deriving DecidableEq
structure KindKnown where
  Type_ : GType
  size : Int
  align : Int
  open_ : Bool
  deriving DecidableEq
structure KindTable where
  list : List KindKnown
  deriving DecidableEq
structure ref08Type where
  Kind : Int
  Elem : Int
  Len : Int
  Name : List UInt8
  Fields : List GField
  Open : Bool
  deriving DecidableEq
structure ref08Made where
  N : Int
  T : List ref08Type
  E : Int
  deriving DecidableEq


def law08_Few (p0 : List law08Act) : Option (Bool) :=
  bif decide (30 < (List.length p0 : Int)) then (some false) else ((loopM (fun (x1 : Int) => (bif decide (x1 < (List.length p0 : Int)) then ((idx p0 x1).bind fun u1 => bif decide (100 < (List.length u1.Name : Int)) then (some (Lp.ret false)) else ((idx p0 x1).bind fun u2 => bif decide (12 < (List.length u2.Fields : Int)) then (some (Lp.ret false)) else ((loopM (fun (x2 : Int) => ((idx p0 x1).bind fun u3 => bif decide (x2 < (List.length u3.Fields : Int)) then ((idx p0 x1).bind fun u4 => (idx u4.Fields x2).bind fun u5 => bif decide (100 < (List.length u5.Name : Int)) then (some (Lp.ret false)) else (some (Lp.go (IntKind.wrap .i64 (x2 + 1))))) else (some (Lp.brk x2)) : Option (Lp (Int) (Bool)))) NN 0).bind fun o => o.thn (fun (x2 : Int) => some (Lp.go (IntKind.wrap .i64 (x1 + 1)))) (fun r => some (Lp.ret r))))) else (some (Lp.brk x1)) : Option (Lp (Int) (Bool)))) NN 0).bind fun o => o.thn (fun (x1 : Int) => some true) (fun r => some r))

def kind_New  : Option (KindTable) :=
  some (⟨([(⟨(⟨0, 0, 0, ([] : List UInt8), []⟩ : GType), 0, 0, false⟩ : KindKnown), (⟨(⟨1, 0, 0, ([] : List UInt8), []⟩ : GType), 4, 4, false⟩ : KindKnown), (⟨(⟨2, 0, 0, ([] : List UInt8), []⟩ : GType), 1, 1, false⟩ : KindKnown)] : List KindKnown)⟩ : KindTable)

def kind_Table_named_1 (p0 : KindKnown) (p1 : List UInt8) : Option (Bool) :=
  bif p0.Type_.Kind == 5 then (some (decide (p0.Type_.Name = p1))) else (some false)

def slices_IndexFunc (p0 : List KindKnown) (p1 : List UInt8) : Option (Int) :=
  (loopM (fun (x1 : Int) => (bif decide (x1 < (List.length p0 : Int)) then ((idx p0 x1).bind fun u1 => (kind_Table_named_1 u1 p1).bind fun y1 => bif y1 then (some (Lp.ret x1)) else (some (Lp.go (IntKind.wrap .i64 (x1 + 1))))) else (some (Lp.brk x1)) : Option (Lp (Int) (Int)))) NN 0).bind fun o => o.thn (fun (x1 : Int) => some (-1)) (fun r => some r)

def kind_Table_named (p0 : KindTable) (p1 : List UInt8) : Option (Int) :=
  (slices_IndexFunc p0.list p1).bind fun y1 => some y1

def kind_Table_put_1 (p0 : KindKnown) (p1 : KindKnown) : Option (Bool) :=
  bif p0.Type_.Kind == p1.Type_.Kind then (bif p0.Type_.Elem == p1.Type_.Elem then (bif p0.Type_.Len == p1.Type_.Len then (some (p1.Type_.Kind != 5)) else (some false)) else (some false)) else (some false)

def slices_IndexFunc_2 (p0 : List KindKnown) (p1 : KindKnown) : Option (Int) :=
  (loopM (fun (x1 : Int) => (bif decide (x1 < (List.length p0 : Int)) then ((idx p0 x1).bind fun u1 => (kind_Table_put_1 u1 p1).bind fun y1 => bif y1 then (some (Lp.ret x1)) else (some (Lp.go (IntKind.wrap .i64 (x1 + 1))))) else (some (Lp.brk x1)) : Option (Lp (Int) (Int)))) NN 0).bind fun o => o.thn (fun (x1 : Int) => some (-1)) (fun r => some r)

def kind_Table_put (p0 : KindTable) (p1 : KindKnown) : Option (Int × Int × KindTable) :=
  (slices_IndexFunc_2 p0.list p1).bind fun y1 => bif decide (0 ≤ y1) then (some (y1, 0, p0)) else (bif decide (400 ≤ (List.length p0.list : Int)) then (some (0, 8, p0)) else ((room (List.length p0.list + List.length ([p1] : List KindKnown))).bind fun _ => some (IntKind.wrap .i64 ((List.length (p0.list ++ ([p1] : List KindKnown)) : Int) - 1), 0, (⟨p0.list ++ ([p1] : List KindKnown)⟩ : KindTable))))

def kind_Table_Open (p0 : KindTable) (p1 : List UInt8) : Option (Int × Int × KindTable) :=
  bif decide (p1 = ([] : List UInt8)) then (some (0, 1, p0)) else ((kind_Table_named p0 p1).bind fun y1 => bif decide (0 ≤ y1) then (some (0, 6, p0)) else ((kind_Table_put p0 (⟨(⟨5, 0, 0, p1, []⟩ : GType), 0, 0, true⟩ : KindKnown)).bind fun y2 => some (y2.1, y2.2.1, y2.2.2)))

def kind_Table_may_1 (p0 : GField) : Option (Bool) :=
  some (decide (p0.Name = ([] : List UInt8)))

def slices_IndexFunc_3 (p0 : List GField) : Option (Int) :=
  (loopM (fun (x1 : Int) => (bif decide (x1 < (List.length p0 : Int)) then ((idx p0 x1).bind fun u1 => (kind_Table_may_1 u1).bind fun y1 => bif y1 then (some (Lp.ret x1)) else (some (Lp.go (IntKind.wrap .i64 (x1 + 1))))) else (some (Lp.brk x1)) : Option (Lp (Int) (Int)))) NN 0).bind fun o => o.thn (fun (x1 : Int) => some (-1)) (fun r => some r)

def slices_ContainsFunc (p0 : List GField) : Option (Bool) :=
  (slices_IndexFunc_3 p0).bind fun y1 => some (decide (0 ≤ y1))

def kind_Table_has (p0 : KindTable) (p1 : Int) : Option (Bool) :=
  bif decide (0 ≤ p1) then (some (decide (p1 < (List.length p0.list : Int)))) else (some false)

def kind_Table_may_2 (p0 : GField) (p1 : KindTable) : Option (Bool) :=
  (kind_Table_has p1 p0.Type_).bind fun y1 => some (!y1)

def slices_IndexFunc_4 (p0 : List GField) (p1 : KindTable) : Option (Int) :=
  (loopM (fun (x1 : Int) => (bif decide (x1 < (List.length p0 : Int)) then ((idx p0 x1).bind fun u1 => (kind_Table_may_2 u1 p1).bind fun y1 => bif y1 then (some (Lp.ret x1)) else (some (Lp.go (IntKind.wrap .i64 (x1 + 1))))) else (some (Lp.brk x1)) : Option (Lp (Int) (Int)))) NN 0).bind fun o => o.thn (fun (x1 : Int) => some (-1)) (fun r => some r)

def slices_ContainsFunc_2 (p0 : List GField) (p1 : KindTable) : Option (Bool) :=
  (slices_IndexFunc_4 p0 p1).bind fun y1 => some (decide (0 ≤ y1))

def kind_Table_Size (p0 : KindTable) (p1 : Int) : Option (Int) :=
  (kind_Table_has p0 p1).bind fun y1 => bif !y1 then (some 0) else ((idx p0.list p1).bind fun u1 => some u1.size)

def kind_Table_may_3 (p0 : GField) (p1 : KindTable) : Option (Bool) :=
  (kind_Table_Size p1 p0.Type_).bind fun y1 => some (y1 == 0)

def slices_IndexFunc_5 (p0 : List GField) (p1 : KindTable) : Option (Int) :=
  (loopM (fun (x1 : Int) => (bif decide (x1 < (List.length p0 : Int)) then ((idx p0 x1).bind fun u1 => (kind_Table_may_3 u1 p1).bind fun y1 => bif y1 then (some (Lp.ret x1)) else (some (Lp.go (IntKind.wrap .i64 (x1 + 1))))) else (some (Lp.brk x1)) : Option (Lp (Int) (Int)))) NN 0).bind fun o => o.thn (fun (x1 : Int) => some (-1)) (fun r => some r)

def slices_ContainsFunc_3 (p0 : List GField) (p1 : KindTable) : Option (Bool) :=
  (slices_IndexFunc_5 p0 p1).bind fun y1 => some (decide (0 ≤ y1))

def kind_Table_may_4 (p0 : GField) (p1 : GField) : Option (Bool) :=
  some (decide (p0.Name = p1.Name))

def slices_IndexFunc_6 (p0 : List GField) (p1 : GField) : Option (Int) :=
  (loopM (fun (x1 : Int) => (bif decide (x1 < (List.length p0 : Int)) then ((idx p0 x1).bind fun u1 => (kind_Table_may_4 u1 p1).bind fun y1 => bif y1 then (some (Lp.ret x1)) else (some (Lp.go (IntKind.wrap .i64 (x1 + 1))))) else (some (Lp.brk x1)) : Option (Lp (Int) (Int)))) NN 0).bind fun o => o.thn (fun (x1 : Int) => some (-1)) (fun r => some r)

def slices_ContainsFunc_4 (p0 : List GField) (p1 : GField) : Option (Bool) :=
  (slices_IndexFunc_6 p0 p1).bind fun y1 => some (decide (0 ≤ y1))

def kind_Table_may (p0 : KindTable) (p1 : List GField) : Option (Int) :=
  bif (List.length p1 : Int) == 0 then (some 1) else ((slices_ContainsFunc p1).bind fun y1 => bif y1 then (some 1) else ((slices_ContainsFunc_2 p1 p0).bind fun y2 => bif y2 then (some 4) else ((slices_ContainsFunc_3 p1 p0).bind fun y3 => bif y3 then (some 5) else ((loopM (fun (x1 : Int) => (bif decide (x1 < (List.length p1 : Int)) then ((idx p1 x1).bind fun u1 => (sub p1 0 x1).bind fun u2 => (slices_ContainsFunc_4 u2 u1).bind fun y4 => bif y4 then (some (Lp.ret 6)) else (some (Lp.go (IntKind.wrap .i64 (x1 + 1))))) else (some (Lp.brk x1)) : Option (Lp (Int) (Int)))) NN 0).bind fun o => o.thn (fun (x1 : Int) => some 0) (fun r => some r)))))

def slices_Clone (p0 : List GField) : Option ((List GField)) :=
  (room (List.length ([] : List GField) + List.length p0)).bind fun _ => some (([] : List GField) ++ p0)

def kind_Table_Align (p0 : KindTable) (p1 : Int) : Option (Int) :=
  (kind_Table_has p0 p1).bind fun y1 => bif !y1 then (some 0) else ((idx p0.list p1).bind fun u1 => some u1.align)

def kind_up (p0 : Int) (p1 : Int) : Option (Int) :=
  (nz p1).bind fun _ => some (IntKind.wrap .i64 ((IntKind.wrap .i64 (Int.tdiv (IntKind.wrap .i64 ((IntKind.wrap .i64 (p0 + p1)) - 1)) p1)) * p1))

def kind_Table_Struct_1 (p0 : GField) (p1 : Int) (p2 : KindTable) (p3 : Int) : Option (Bool × GField × Int × Int) :=
  (kind_Table_Align p2 p0.Type_).bind fun y1 => (kind_up p1 y1).bind fun y2 => (kind_Table_Size p2 p0.Type_).bind fun y3 => (kind_Table_Align p2 p0.Type_).bind fun y4 => some (decide ((IntKind.wrap .i64 (y2 + y3)) ≤ 32768), { p0 with At := y2 }, IntKind.wrap .i64 (y2 + y3), max p3 y4)

def kind_Table_Struct (p0 : KindTable) (p1 : List UInt8) (p2 : List GField) : Option (Int × Int × KindTable) :=
  (kind_Table_named p0 p1).bind fun y1 => bif decide (y1 < 0) then (some (0, 4, p0)) else ((idx p0.list y1).bind fun u1 => bif !u1.open_ then (some (0, 4, p0)) else ((kind_Table_may p0 p2).bind fun y2 => bif y2 != 0 then (some (0, y2, p0)) else ((slices_Clone p2).bind fun y3 => (loopM (fun (x1, x2, x3, x4) => (bif decide (x2 < (List.length y3 : Int)) then ((idx x1 x2).bind fun u2 => (idx x1 x2).bind fun u3 => (kind_Table_Struct_1 u3 x4 p0 x3).bind fun y4 => bif !y4.1 then (some (Lp.ret (0, 2, p0))) else (some (Lp.go (List.set x1 (Int.toNat x2) y4.2.1, IntKind.wrap .i64 (x2 + 1), y4.2.2.2, y4.2.2.1)))) else (some (Lp.brk (x1, x2, x3, x4))) : Option (Lp ((List GField) × Int × Int × Int) (Int × Int × KindTable)))) NN (y3, 0, 1, 0)).bind fun o => o.thn (fun (x1, x2, x3, x4) => (kind_up x4 x3).bind fun y5 => bif decide (32768 < y5) then (some (0, 2, p0)) else ((idx p0.list y1).bind fun u4 => (kind_up x4 x3).bind fun y6 => (idx p0.list y1).bind fun u5 => (idx (List.set p0.list (Int.toNat y1) ({ u5 with Type_ := { u5.Type_ with Fields := x1 } })) y1).bind fun u6 => (idx (List.set (List.set p0.list (Int.toNat y1) ({ u5 with Type_ := { u5.Type_ with Fields := x1 } })) (Int.toNat y1) ({ u6 with size := y6 })) y1).bind fun u7 => (idx (List.set (List.set (List.set p0.list (Int.toNat y1) ({ u5 with Type_ := { u5.Type_ with Fields := x1 } })) (Int.toNat y1) ({ u6 with size := y6 })) (Int.toNat y1) ({ u7 with align := x3 })) y1).bind fun u8 => some (y1, 0, (⟨List.set (List.set (List.set (List.set p0.list (Int.toNat y1) ({ u5 with Type_ := { u5.Type_ with Fields := x1 } })) (Int.toNat y1) ({ u6 with size := y6 })) (Int.toNat y1) ({ u7 with align := x3 })) (Int.toNat y1) ({ u8 with open_ := false })⟩ : KindTable)))) (fun r => some r))))

def kind_Table_Field (p0 : KindTable) (p1 : Int) (p2 : List UInt8) : Option (GField × Int) :=
  (kind_Table_has p0 p1).bind fun y1 => bif !y1 then (some ((⟨([] : List UInt8), 0, 0⟩ : GField), 4)) else ((idx p0.list p1).bind fun u1 => bif u1.Type_.Kind != 5 then (some ((⟨([] : List UInt8), 0, 0⟩ : GField), 5)) else ((idx p0.list p1).bind fun u2 => (loopM (fun (x1 : Int) => (bif decide (x1 < (List.length u2.Type_.Fields : Int)) then ((idx u2.Type_.Fields x1).bind fun u3 => bif decide (u3.Name = p2) then (some (Lp.ret (u3, 0))) else (some (Lp.go (IntKind.wrap .i64 (x1 + 1))))) else (some (Lp.brk x1)) : Option (Lp (Int) (GField × Int)))) NN 0).bind fun o => o.thn (fun (x1 : Int) => some ((⟨([] : List UInt8), 0, 0⟩ : GField), 4)) (fun r => some r)))

def kind_Table_Array (p0 : KindTable) (p1 : Int) (p2 : Int) : Option (Int × Int × KindTable) :=
  (kind_Table_has p0 p1).bind fun y1 => bif !y1 then (some (0, 4, p0)) else ((idx p0.list p1).bind fun u1 => bif u1.size == 0 then (some (0, 5, p0)) else (bif decide (p2 < 1) then (some (0, 1, p0)) else ((idx p0.list p1).bind fun u2 => (nz u2.size).bind fun _ => bif decide ((IntKind.wrap .i64 (Int.tdiv 32768 u2.size)) < p2) then (some (0, 2, p0)) else ((idx p0.list p1).bind fun u3 => (kind_Table_put p0 (⟨(⟨4, p1, p2, ([] : List UInt8), []⟩ : GType), IntKind.wrap .i64 (p2 * u3.size), u3.align, false⟩ : KindKnown)).bind fun y2 => some (y2.1, y2.2.1, y2.2.2)))))

def law08_awake  : Option (Bool) :=
  (kind_New).bind fun y1 => (kind_Table_Open y1 ([115] : List UInt8)).bind fun y2 => (kind_Table_Struct y2.2.2 ([115] : List UInt8) ([(⟨([97] : List UInt8), 2, 0⟩ : GField), (⟨([98] : List UInt8), 1, 0⟩ : GField), (⟨([99] : List UInt8), 2, 0⟩ : GField)] : List GField)).bind fun y3 => (kind_Table_Field y3.2.2 y3.1 ([99] : List UInt8)).bind fun y4 => (kind_Table_Array y3.2.2 2 3).bind fun y5 => bif y2.2.1 == 0 then (bif y3.2.1 == 0 then (bif y4.2 == 0 then (bif y5.2.1 == 0 then (bif y2.1 == y3.1 then (bif y4.1.At == 8 then ((kind_Table_Size y5.2.2 y3.1).bind fun y6 => bif y6 == 12 then ((kind_Table_Size y5.2.2 y5.1).bind fun y7 => some (y7 == 3)) else (some false)) else (some false)) else (some false)) else (some false)) else (some false)) else (some false)) else (some false)

def ref08_Begin  : Option ((List ref08Type)) :=
  some ([(⟨0, 0, 0, ([] : List UInt8), [], false⟩ : ref08Type), (⟨1, 0, 0, ([] : List UInt8), [], false⟩ : ref08Type), (⟨2, 0, 0, ([] : List UInt8), [], false⟩ : ref08Type)] : List ref08Type)

def kind_Table_Ptr (p0 : KindTable) (p1 : Int) : Option (Int × Int × KindTable) :=
  (kind_Table_has p0 p1).bind fun y1 => bif !y1 then (some (0, 4, p0)) else ((kind_Table_put p0 (⟨(⟨3, p1, 0, ([] : List UInt8), []⟩ : GType), 4, 4, false⟩ : KindKnown)).bind fun y2 => some (y2.1, y2.2.1, y2.2.2))

def ref08_Is (p0 : List ref08Type) (p1 : Int) : Option (Bool) :=
  bif decide (0 ≤ p1) then (some (decide (p1 < (List.length p0 : Int)))) else (some false)

def ref08_put (p0 : List ref08Type) (p1 : ref08Type) : Option (ref08Made) :=
  (loopM (fun (x1 : Int) => (bif decide (x1 < (List.length p0 : Int)) then ((idx p0 x1).bind fun u1 => bif u1.Kind == p1.Kind then ((idx p0 x1).bind fun u2 => bif u2.Elem == p1.Elem then ((idx p0 x1).bind fun u3 => bif u3.Len == p1.Len then (bif p1.Kind != 5 then (some (Lp.ret (⟨x1, p0, 0⟩ : ref08Made))) else (some (Lp.go (IntKind.wrap .i64 (x1 + 1))))) else (some (Lp.go (IntKind.wrap .i64 (x1 + 1))))) else (some (Lp.go (IntKind.wrap .i64 (x1 + 1))))) else (some (Lp.go (IntKind.wrap .i64 (x1 + 1))))) else (some (Lp.brk x1)) : Option (Lp (Int) (ref08Made)))) NN 0).bind fun o => o.thn (fun (x1 : Int) => bif decide (400 ≤ (List.length p0 : Int)) then (some (⟨0, p0, 8⟩ : ref08Made)) else ((loopM (fun (x2, x3) => (bif decide (x3 < (List.length p0 : Int)) then ((idx p0 x3).bind fun u4 => (room (List.length x2 + List.length ([u4] : List ref08Type))).bind fun _ => some (Lp.go (x2 ++ ([u4] : List ref08Type), IntKind.wrap .i64 (x3 + 1)))) else (some (Lp.brk (x2, x3))) : Option (Lp ((List ref08Type) × Int) (Unit)))) NN ([], 0)).bind fun o => o.thn (fun (x2, x3) => (room (List.length x2 + List.length ([p1] : List ref08Type))).bind fun _ => some (⟨(List.length p0 : Int), x2 ++ ([p1] : List ref08Type), 0⟩ : ref08Made)) (fun _ => none))) (fun r => some r)

def ref08_Ptr (p0 : List ref08Type) (p1 : Int) : Option (ref08Made) :=
  (ref08_Is p0 p1).bind fun y1 => bif !y1 then (some (⟨0, p0, 4⟩ : ref08Made)) else ((ref08_put p0 (⟨3, p1, 0, ([] : List UInt8), [], false⟩ : ref08Type)).bind fun y2 => some y2)

structure Rec1 where
  ref08_Align : (List ref08Type) → Int → Option (Int)

def ref08_Align_b (G : Rec1) (p0 : List ref08Type) (p1 : Int) : Option (Int) :=
  (ref08_Is p0 p1).bind fun y1 => bif !y1 then (some 0) else ((idx p0 p1).bind fun u1 => bif u1.Kind == 0 then (some 0) else ((idx p0 p1).bind fun u2 => bif u2.Open then (some 0) else ((idx p0 p1).bind fun u3 => bif u3.Kind == 2 then (some 1) else ((idx p0 p1).bind fun u4 => bif u4.Kind == 4 then ((idx p0 p1).bind fun u5 => (G.ref08_Align p0 u5.Elem).bind fun y2 => some y2) else ((idx p0 p1).bind fun u6 => bif u6.Kind == 5 then ((loopM (fun (x1, x2) => ((idx p0 p1).bind fun u7 => bif decide (x2 < (List.length u7.Fields : Int)) then ((idx p0 p1).bind fun u8 => (idx u8.Fields x2).bind fun u9 => (G.ref08_Align p0 u9.Type_).bind fun y3 => some (Lp.go (max x1 y3, IntKind.wrap .i64 (x2 + 1)))) else (some (Lp.brk (x1, x2))) : Option (Lp (Int × Int) (Unit)))) NN (1, 0)).bind fun o => o.thn (fun (x1, x2) => some x1) (fun _ => none)) else (some 4))))))
def rec1 : Nat → Rec1
  | 0 => ⟨fun _ _ => none⟩
  | n + 1 => ⟨ref08_Align_b (rec1 n)⟩
def ref08_Align (p0 : List ref08Type) (p1 : Int) : Option (Int) := (rec1 NN).ref08_Align p0 p1

def ref08_next (p0 : Int) (p1 : Int) : Option (Int) :=
  (loopM (fun (x1 : Int) => ((nz p1).bind fun _ => bif (Int.tmod x1 p1) != 0 then (some (Lp.go (IntKind.wrap .i64 (x1 + 1)))) else (some (Lp.brk x1)) : Option (Lp (Int) (Unit)))) NN p0).bind fun o => o.thn (fun (x1 : Int) => some x1) (fun _ => none)

structure Rec2 where
  ref08_Size : (List ref08Type) → Int → Option (Int)

def ref08_Size_b (G : Rec2) (p0 : List ref08Type) (p1 : Int) : Option (Int) :=
  (ref08_Is p0 p1).bind fun y1 => bif !y1 then (some 0) else ((idx p0 p1).bind fun u1 => bif u1.Kind == 0 then (some 0) else ((idx p0 p1).bind fun u2 => bif u2.Open then (some 0) else ((idx p0 p1).bind fun u3 => bif u3.Kind == 2 then (some 1) else ((idx p0 p1).bind fun u4 => bif u4.Kind == 4 then ((idx p0 p1).bind fun u5 => (idx p0 p1).bind fun u6 => (G.ref08_Size p0 u6.Elem).bind fun y2 => some (IntKind.wrap .i64 (u5.Len * y2))) else ((idx p0 p1).bind fun u7 => bif u7.Kind == 5 then ((loopM (fun (x1, x2) => ((idx p0 p1).bind fun u8 => bif decide (x2 < (List.length u8.Fields : Int)) then ((idx p0 p1).bind fun u9 => (idx u9.Fields x2).bind fun u10 => (ref08_Align p0 u10.Type_).bind fun y3 => (ref08_next x1 y3).bind fun y4 => (G.ref08_Size p0 u10.Type_).bind fun y5 => some (Lp.go (IntKind.wrap .i64 (y4 + y5), IntKind.wrap .i64 (x2 + 1)))) else (some (Lp.brk (x1, x2))) : Option (Lp (Int × Int) (Unit)))) NN (0, 0)).bind fun o => o.thn (fun (x1, x2) => (ref08_Align p0 p1).bind fun y6 => (ref08_next x1 y6).bind fun y7 => some y7) (fun _ => none)) else (some 4))))))
def rec2 : Nat → Rec2
  | 0 => ⟨fun _ _ => none⟩
  | n + 1 => ⟨ref08_Size_b (rec2 n)⟩
def ref08_Size (p0 : List ref08Type) (p1 : Int) : Option (Int) := (rec2 NN).ref08_Size p0 p1

def ref08_Array (p0 : List ref08Type) (p1 : Int) (p2 : Int) : Option (ref08Made) :=
  (ref08_Is p0 p1).bind fun y1 => bif !y1 then (some (⟨0, p0, 4⟩ : ref08Made)) else ((ref08_Size p0 p1).bind fun y2 => bif y2 == 0 then (some (⟨0, p0, 5⟩ : ref08Made)) else (bif decide (p2 < 1) then (some (⟨0, p0, 1⟩ : ref08Made)) else (bif decide (32768 < p2) then (some (⟨0, p0, 2⟩ : ref08Made)) else (bif decide (32768 < (IntKind.wrap .i64 (p2 * y2))) then (some (⟨0, p0, 2⟩ : ref08Made)) else ((ref08_put p0 (⟨4, p1, p2, ([] : List UInt8), [], false⟩ : ref08Type)).bind fun y3 => some y3)))))

def ref08_Find (p0 : List ref08Type) (p1 : List UInt8) : Option (Int) :=
  (loopM (fun (x1 : Int) => (bif decide (x1 < (List.length p0 : Int)) then ((idx p0 x1).bind fun u1 => bif u1.Kind == 5 then ((idx p0 x1).bind fun u2 => bif decide (u2.Name = p1) then (some (Lp.ret x1)) else (some (Lp.go (IntKind.wrap .i64 (x1 + 1))))) else (some (Lp.go (IntKind.wrap .i64 (x1 + 1))))) else (some (Lp.brk x1)) : Option (Lp (Int) (Int)))) NN 0).bind fun o => o.thn (fun (x1 : Int) => some (-1)) (fun r => some r)

def ref08_Open (p0 : List ref08Type) (p1 : List UInt8) : Option (ref08Made) :=
  bif decide (p1 = ([] : List UInt8)) then (some (⟨0, p0, 1⟩ : ref08Made)) else ((ref08_Find p0 p1).bind fun y1 => bif decide (0 ≤ y1) then (some (⟨0, p0, 6⟩ : ref08Made)) else ((ref08_put p0 (⟨5, 0, 0, p1, [], true⟩ : ref08Type)).bind fun y2 => some y2))

def ref08_may (p0 : List ref08Type) (p1 : List GField) : Option (Int) :=
  bif (List.length p1 : Int) == 0 then (some 1) else ((loopM (fun (x1 : Int) => (bif decide (x1 < (List.length p1 : Int)) then ((idx p1 x1).bind fun u1 => bif decide (u1.Name = ([] : List UInt8)) then (some (Lp.ret 1)) else (some (Lp.go (IntKind.wrap .i64 (x1 + 1))))) else (some (Lp.brk x1)) : Option (Lp (Int) (Int)))) NN 0).bind fun o => o.thn (fun (x1 : Int) => (loopM (fun (x2 : Int) => (bif decide (x2 < (List.length p1 : Int)) then ((idx p1 x2).bind fun u2 => (ref08_Is p0 u2.Type_).bind fun y1 => bif !y1 then (some (Lp.ret 4)) else (some (Lp.go (IntKind.wrap .i64 (x2 + 1))))) else (some (Lp.brk x2)) : Option (Lp (Int) (Int)))) NN 0).bind fun o => o.thn (fun (x2 : Int) => (loopM (fun (x3 : Int) => (bif decide (x3 < (List.length p1 : Int)) then ((idx p1 x3).bind fun u3 => (ref08_Size p0 u3.Type_).bind fun y2 => bif y2 == 0 then (some (Lp.ret 5)) else (some (Lp.go (IntKind.wrap .i64 (x3 + 1))))) else (some (Lp.brk x3)) : Option (Lp (Int) (Int)))) NN 0).bind fun o => o.thn (fun (x3 : Int) => (loopM (fun (x4 : Int) => (bif decide (x4 < (List.length p1 : Int)) then ((loopM (fun (x5 : Int) => (bif decide (x5 < x4) then ((idx p1 x5).bind fun u4 => (idx p1 x4).bind fun u5 => bif decide (u4.Name = u5.Name) then (some (Lp.ret 6)) else (some (Lp.go (IntKind.wrap .i64 (x5 + 1))))) else (some (Lp.brk x5)) : Option (Lp (Int) (Int)))) NN 0).bind fun o => o.thn (fun (x5 : Int) => some (Lp.go (IntKind.wrap .i64 (x4 + 1)))) (fun r => some (Lp.ret r))) else (some (Lp.brk x4)) : Option (Lp (Int) (Int)))) NN 0).bind fun o => o.thn (fun (x4 : Int) => some 0) (fun r => some r)) (fun r => some r)) (fun r => some r)) (fun r => some r))

def ref08_Struct (p0 : List ref08Type) (p1 : List UInt8) (p2 : List GField) : Option (ref08Made) :=
  (ref08_Find p0 p1).bind fun y1 => bif decide (y1 < 0) then (some (⟨0, p0, 4⟩ : ref08Made)) else ((idx p0 y1).bind fun u1 => bif !u1.Open then (some (⟨0, p0, 4⟩ : ref08Made)) else ((ref08_may p0 p2).bind fun y2 => bif y2 != 0 then ((ref08_may p0 p2).bind fun y3 => some (⟨0, p0, y3⟩ : ref08Made)) else ((loopM (fun (x1, x2, x3) => (bif decide (x3 < (List.length p2 : Int)) then ((idx p2 x3).bind fun u2 => (ref08_Align p0 u2.Type_).bind fun y4 => (ref08_next x2 y4).bind fun y5 => (idx p2 x3).bind fun u3 => (idx p2 x3).bind fun u4 => (room (List.length x1 + List.length ([(⟨u3.Name, u4.Type_, y5⟩ : GField)] : List GField))).bind fun _ => (idx p2 x3).bind fun u5 => (ref08_Size p0 u5.Type_).bind fun y6 => some (Lp.go (x1 ++ ([(⟨u3.Name, u4.Type_, y5⟩ : GField)] : List GField), IntKind.wrap .i64 (y5 + y6), IntKind.wrap .i64 (x3 + 1)))) else (some (Lp.brk (x1, x2, x3))) : Option (Lp ((List GField) × Int × Int) (Unit)))) NN ([], 0, 0)).bind fun o => o.thn (fun (x1, x2, x3) => (loopM (fun (x4, x5) => (bif decide (x5 < (List.length p0 : Int)) then ((idx p0 x5).bind fun u6 => jn (fun kk1 => bif x5 == y1 then (kk1 (⟨5, 0, 0, p1, x1, false⟩ : ref08Type)) else (kk1 u6)) (fun (x6 : ref08Type) => (room (List.length x4 + List.length ([x6] : List ref08Type))).bind fun _ => some (Lp.go (x4 ++ ([x6] : List ref08Type), IntKind.wrap .i64 (x5 + 1))))) else (some (Lp.brk (x4, x5))) : Option (Lp ((List ref08Type) × Int) (Unit)))) NN ([], 0)).bind fun o => o.thn (fun (x4, x5) => (ref08_Size x4 y1).bind fun y7 => bif decide (32768 < y7) then (some (⟨0, p0, 2⟩ : ref08Made)) else (some (⟨y1, x4, 0⟩ : ref08Made))) (fun _ => none)) (fun _ => none))))

def law08_Act_Done (p0 : law08Act) (p1 : KindTable) (p2 : List ref08Type) : Option (Int × Int × ref08Made × KindTable) :=
  bif p0.Kind == 0 then ((kind_Table_Ptr p1 p0.N).bind fun y1 => (ref08_Ptr p2 p0.N).bind fun y2 => some (y1.1, y1.2.1, y2, y1.2.2)) else (bif p0.Kind == 1 then ((kind_Table_Array p1 p0.N p0.Long).bind fun y3 => (ref08_Array p2 p0.N p0.Long).bind fun y4 => some (y3.1, y3.2.1, y4, y3.2.2)) else (bif p0.Kind == 2 then ((kind_Table_Open p1 p0.Name).bind fun y5 => (ref08_Open p2 p0.Name).bind fun y6 => some (y5.1, y5.2.1, y6, y5.2.2)) else ((loopM (fun (x1, x2) => (bif decide (x2 < (List.length p0.Fields : Int)) then ((idx p0.Fields x2).bind fun u1 => (room (List.length x1 + List.length ([u1] : List GField))).bind fun _ => some (Lp.go (x1 ++ ([u1] : List GField), IntKind.wrap .i64 (x2 + 1)))) else (some (Lp.brk (x1, x2))) : Option (Lp ((List GField) × Int) (Unit)))) NN ([], 0)).bind fun o => o.thn (fun (x1, x2) => (kind_Table_Struct p1 p0.Name p0.Fields).bind fun y7 => (ref08_Struct p2 p0.Name x1).bind fun y8 => some (y7.1, y7.2.1, y8, y7.2.2)) (fun _ => none))))

def kind_Table_Count (p0 : KindTable) : Option (Int) :=
  some (List.length p0.list : Int)

def law08_KindOnce (p0 : List law08Act) (p1 : Int) (p2 : Int) : Option (Bool) :=
  (law08_Few p0).bind fun y1 => bif !y1 then ((law08_awake).bind fun y2 => some y2) else ((kind_New).bind fun y3 => (loopM (fun (x2, x3) => (bif decide (x2 < (List.length p0 : Int)) then ((idx p0 x2).bind fun u1 => (ref08_Begin).bind fun y4 => (law08_Act_Done u1 x3 y4).bind fun y5 => some (Lp.go (IntKind.wrap .i64 (x2 + 1), y5.2.2.2))) else (some (Lp.brk (x2, x3))) : Option (Lp (Int × KindTable) (Unit)))) NN (0, y3)).bind fun o => o.thn (fun (x2, x3) => (kind_Table_Ptr x3 p1).bind fun y6 => (kind_Table_Array y6.2.2 p1 p2).bind fun y7 => (kind_Table_Count y7.2.2).bind fun y8 => (kind_Table_Ptr y7.2.2 p1).bind fun y9 => (kind_Table_Array y9.2.2 p1 p2).bind fun y10 => (law08_awake).bind fun y11 => bif y11 then (bif y6.1 == y9.1 then (bif y6.2.1 == y9.2.1 then (bif y7.1 == y10.1 then (bif y7.2.1 == y10.2.1 then ((kind_Table_Count y10.2.2).bind fun y12 => some (y12 == y8)) else (some false)) else (some false)) else (some false)) else (some false)) else (some false)) (fun _ => none))

def kind_Table_Find (p0 : KindTable) (p1 : List UInt8) : Option (Int × Int) :=
  (kind_Table_named p0 p1).bind fun y1 => bif decide (y1 < 0) then (some (0, 4)) else (some (y1, 0))

def law08_KindFinds (p0 : List law08Act) (p1 : Int) (p2 : List UInt8) : Option (Bool) :=
  (law08_Few p0).bind fun y1 => bif !y1 then ((law08_awake).bind fun y24 => some y24) else (bif decide (100 < (List.length p2 : Int)) then ((law08_awake).bind fun y2 => some y2) else ((kind_New).bind fun y3 => (ref08_Begin).bind fun y4 => (loopM (fun (x2, x3, x4) => (bif decide (x3 < (List.length p0 : Int)) then ((idx p0 x3).bind fun u1 => (law08_Act_Done u1 x4 x2).bind fun y5 => some (Lp.go (y5.2.2.1.T, IntKind.wrap .i64 (x3 + 1), y5.2.2.2))) else (some (Lp.brk (x2, x3, x4))) : Option (Lp ((List ref08Type) × Int × KindTable) (Unit)))) NN (y4, 0, y3)).bind fun o => o.thn (fun (x2, x3, x4) => (kind_Table_Find x4 p2).bind fun y6 => (ref08_Find x2 p2).bind fun y7 => bif !((y6.2 == 0) == (decide (0 ≤ y7))) then (some false) else (bif y6.2 != 0 then (bif y6.2 != 4 then (some false) else (bif y6.1 != 0 then (some false) else (bif y6.2 == 0 then (bif y6.1 != y7 then (some false) else ((kind_Table_Field x4 p1 p2).bind fun y8 => jn (fun kk1 => (ref08_Is x2 p1).bind fun y9 => bif y9 then ((idx x2 p1).bind fun u2 => bif u2.Kind != 5 then (kk1 5) else (kk1 4)) else (kk1 4)) (fun (x5 : Int) => jn (fun kk2 => (ref08_Is x2 p1).bind fun y10 => bif y10 then ((idx x2 p1).bind fun u3 => bif u3.Kind == 5 then ((loopM (fun (x8, x9, x10) => ((idx x2 p1).bind fun u4 => bif decide (x9 < (List.length u4.Fields : Int)) then (jn (fun kk3 => (idx x2 p1).bind fun u5 => (idx u5.Fields x9).bind fun u6 => bif decide (u6.Name = p2) then ((idx x2 p1).bind fun u7 => (idx u7.Fields x9).bind fun u8 => kk3 0 u8) else (kk3 x8 x10)) (fun (x11 : Int) (x12 : GField) => some (Lp.go (x11, IntKind.wrap .i64 (x9 + 1), x12)))) else (some (Lp.brk (x8, x9, x10))) : Option (Lp (Int × Int × GField) (Unit)))) NN (x5, 0, (⟨([] : List UInt8), 0, 0⟩ : GField))).bind fun o => o.thn (fun (x8, x9, x10) => kk2 x8 x10) (fun _ => none)) else (kk2 x5 (⟨([] : List UInt8), 0, 0⟩ : GField))) else (kk2 x5 (⟨([] : List UInt8), 0, 0⟩ : GField))) (fun (x6 : Int) (x7 : GField) => (law08_awake).bind fun y11 => bif y11 then (bif y8.2 == x6 then (some ((decide (y8.1.Name = x7.Name)) && (y8.1.Type_ == x7.Type_) && (y8.1.At == x7.At))) else (some false)) else (some false))))) else ((kind_Table_Field x4 p1 p2).bind fun y12 => jn (fun kk4 => (ref08_Is x2 p1).bind fun y13 => bif y13 then ((idx x2 p1).bind fun u9 => bif u9.Kind != 5 then (kk4 5) else (kk4 4)) else (kk4 4)) (fun (x13 : Int) => jn (fun kk5 => (ref08_Is x2 p1).bind fun y14 => bif y14 then ((idx x2 p1).bind fun u10 => bif u10.Kind == 5 then ((loopM (fun (x16, x17, x18) => ((idx x2 p1).bind fun u11 => bif decide (x17 < (List.length u11.Fields : Int)) then (jn (fun kk6 => (idx x2 p1).bind fun u12 => (idx u12.Fields x17).bind fun u13 => bif decide (u13.Name = p2) then ((idx x2 p1).bind fun u14 => (idx u14.Fields x17).bind fun u15 => kk6 0 u15) else (kk6 x16 x18)) (fun (x19 : Int) (x20 : GField) => some (Lp.go (x19, IntKind.wrap .i64 (x17 + 1), x20)))) else (some (Lp.brk (x16, x17, x18))) : Option (Lp (Int × Int × GField) (Unit)))) NN (x13, 0, (⟨([] : List UInt8), 0, 0⟩ : GField))).bind fun o => o.thn (fun (x16, x17, x18) => kk5 x16 x18) (fun _ => none)) else (kk5 x13 (⟨([] : List UInt8), 0, 0⟩ : GField))) else (kk5 x13 (⟨([] : List UInt8), 0, 0⟩ : GField))) (fun (x14 : Int) (x15 : GField) => (law08_awake).bind fun y15 => bif y15 then (bif y12.2 == x14 then (some ((decide (y12.1.Name = x15.Name)) && (y12.1.Type_ == x15.Type_) && (y12.1.At == x15.At))) else (some false)) else (some false))))))) else (bif y6.2 == 0 then (bif y6.1 != y7 then (some false) else ((kind_Table_Field x4 p1 p2).bind fun y16 => jn (fun kk7 => (ref08_Is x2 p1).bind fun y17 => bif y17 then ((idx x2 p1).bind fun u16 => bif u16.Kind != 5 then (kk7 5) else (kk7 4)) else (kk7 4)) (fun (x21 : Int) => jn (fun kk8 => (ref08_Is x2 p1).bind fun y18 => bif y18 then ((idx x2 p1).bind fun u17 => bif u17.Kind == 5 then ((loopM (fun (x24, x25, x26) => ((idx x2 p1).bind fun u18 => bif decide (x25 < (List.length u18.Fields : Int)) then (jn (fun kk9 => (idx x2 p1).bind fun u19 => (idx u19.Fields x25).bind fun u20 => bif decide (u20.Name = p2) then ((idx x2 p1).bind fun u21 => (idx u21.Fields x25).bind fun u22 => kk9 0 u22) else (kk9 x24 x26)) (fun (x27 : Int) (x28 : GField) => some (Lp.go (x27, IntKind.wrap .i64 (x25 + 1), x28)))) else (some (Lp.brk (x24, x25, x26))) : Option (Lp (Int × Int × GField) (Unit)))) NN (x21, 0, (⟨([] : List UInt8), 0, 0⟩ : GField))).bind fun o => o.thn (fun (x24, x25, x26) => kk8 x24 x26) (fun _ => none)) else (kk8 x21 (⟨([] : List UInt8), 0, 0⟩ : GField))) else (kk8 x21 (⟨([] : List UInt8), 0, 0⟩ : GField))) (fun (x22 : Int) (x23 : GField) => (law08_awake).bind fun y19 => bif y19 then (bif y16.2 == x22 then (some ((decide (y16.1.Name = x23.Name)) && (y16.1.Type_ == x23.Type_) && (y16.1.At == x23.At))) else (some false)) else (some false))))) else ((kind_Table_Field x4 p1 p2).bind fun y20 => jn (fun kk10 => (ref08_Is x2 p1).bind fun y21 => bif y21 then ((idx x2 p1).bind fun u23 => bif u23.Kind != 5 then (kk10 5) else (kk10 4)) else (kk10 4)) (fun (x29 : Int) => jn (fun kk11 => (ref08_Is x2 p1).bind fun y22 => bif y22 then ((idx x2 p1).bind fun u24 => bif u24.Kind == 5 then ((loopM (fun (x32, x33, x34) => ((idx x2 p1).bind fun u25 => bif decide (x33 < (List.length u25.Fields : Int)) then (jn (fun kk12 => (idx x2 p1).bind fun u26 => (idx u26.Fields x33).bind fun u27 => bif decide (u27.Name = p2) then ((idx x2 p1).bind fun u28 => (idx u28.Fields x33).bind fun u29 => kk12 0 u29) else (kk12 x32 x34)) (fun (x35 : Int) (x36 : GField) => some (Lp.go (x35, IntKind.wrap .i64 (x33 + 1), x36)))) else (some (Lp.brk (x32, x33, x34))) : Option (Lp (Int × Int × GField) (Unit)))) NN (x29, 0, (⟨([] : List UInt8), 0, 0⟩ : GField))).bind fun o => o.thn (fun (x32, x33, x34) => kk11 x32 x34) (fun _ => none)) else (kk11 x29 (⟨([] : List UInt8), 0, 0⟩ : GField))) else (kk11 x29 (⟨([] : List UInt8), 0, 0⟩ : GField))) (fun (x30 : Int) (x31 : GField) => (law08_awake).bind fun y23 => bif y23 then (bif y20.2 == x30 then (some ((decide (y20.1.Name = x31.Name)) && (y20.1.Type_ == x31.Type_) && (y20.1.At == x31.At))) else (some false)) else (some false))))))) (fun _ => none)))

def kind_Table_Type (p0 : KindTable) (p1 : Int) : Option (GType × Int) :=
  (kind_Table_has p0 p1).bind fun y1 => bif !y1 then (some ((⟨0, 0, 0, ([] : List UInt8), []⟩ : GType), 4)) else ((idx p0.list p1).bind fun u1 => (slices_Clone u1.Type_.Fields).bind fun y2 => some ({ u1.Type_ with Fields := y2 }, 0))

def law08_KindLies (p0 : List law08Act) : Option (Bool) :=
  (law08_Few p0).bind fun y1 => bif !y1 then ((law08_awake).bind fun y2 => some y2) else ((kind_New).bind fun y3 => (loopM (fun (x2, x3) => (bif decide (x2 < (List.length p0 : Int)) then ((idx p0 x2).bind fun u1 => (ref08_Begin).bind fun y4 => (law08_Act_Done u1 x3 y4).bind fun y5 => some (Lp.go (IntKind.wrap .i64 (x2 + 1), y5.2.2.2))) else (some (Lp.brk (x2, x3))) : Option (Lp (Int × KindTable) (Unit)))) NN (0, y3)).bind fun o => o.thn (fun (x2, x3) => (loopM (fun (x4 : Int) => ((kind_Table_Count x3).bind fun y6 => bif decide (x4 < y6) then (bif decide (x4 < 500) then ((kind_Table_Type x3 x4).bind fun y7 => (kind_Table_Size x3 x4).bind fun y8 => (kind_Table_Align x3 x4).bind fun y9 => bif y7.2 != 0 then (some (Lp.ret false)) else (bif decide (y8 < 0) then (some (Lp.ret false)) else (bif decide (32768 < y8) then (some (Lp.ret false)) else (bif decide (y9 < 0) then (some (Lp.ret false)) else (bif decide (0 < y8) then (bif decide (y9 < 1) then (some (Lp.ret false)) else ((nz y9).bind fun _ => bif (Int.tmod y8 y9) != 0 then (some (Lp.ret false)) else ((loopM (fun (x5, x6) => (bif decide (x6 < (List.length y7.1.Fields : Int)) then ((idx y7.1.Fields x6).bind fun u2 => (kind_Table_Align x3 u2.Type_).bind fun y10 => bif decide (u2.At < x5) then (some (Lp.ret false)) else (bif decide (y10 < 1) then (some (Lp.ret false)) else ((nz y10).bind fun _ => bif (Int.tmod u2.At y10) != 0 then (some (Lp.ret false)) else ((nz y10).bind fun _ => bif (Int.tmod y9 y10) != 0 then (some (Lp.ret false)) else ((kind_Table_Size x3 u2.Type_).bind fun y11 => some (Lp.go (IntKind.wrap .i64 (u2.At + y11), IntKind.wrap .i64 (x6 + 1)))))))) else (some (Lp.brk (x5, x6))) : Option (Lp (Int × Int) (Bool)))) NN (0, 0)).bind fun o => o.thn (fun (x5, x6) => bif decide (y8 < x5) then (some (Lp.ret false)) else (some (Lp.go (IntKind.wrap .i64 (x4 + 1))))) (fun r => some (Lp.ret r))))) else ((loopM (fun (x7, x8) => (bif decide (x8 < (List.length y7.1.Fields : Int)) then ((idx y7.1.Fields x8).bind fun u3 => (kind_Table_Align x3 u3.Type_).bind fun y12 => bif decide (u3.At < x7) then (some (Lp.ret false)) else (bif decide (y12 < 1) then (some (Lp.ret false)) else ((nz y12).bind fun _ => bif (Int.tmod u3.At y12) != 0 then (some (Lp.ret false)) else ((nz y12).bind fun _ => bif (Int.tmod y9 y12) != 0 then (some (Lp.ret false)) else ((kind_Table_Size x3 u3.Type_).bind fun y13 => some (Lp.go (IntKind.wrap .i64 (u3.At + y13), IntKind.wrap .i64 (x8 + 1)))))))) else (some (Lp.brk (x7, x8))) : Option (Lp (Int × Int) (Bool)))) NN (0, 0)).bind fun o => o.thn (fun (x7, x8) => bif decide (y8 < x7) then (some (Lp.ret false)) else (some (Lp.go (IntKind.wrap .i64 (x4 + 1))))) (fun r => some (Lp.ret r)))))))) else (some (Lp.brk x4))) else (some (Lp.brk x4)) : Option (Lp (Int) (Bool)))) NN 0).bind fun o => o.thn (fun (x4 : Int) => (law08_awake).bind fun y14 => some y14) (fun r => some r)) (fun _ => none))

def law08_same (p0 : GType) (p1 : ref08Type) : Option (Bool) :=
  bif p0.Kind != p1.Kind then (some false) else (bif p0.Elem != p1.Elem then (some false) else (bif p0.Len != p1.Len then (some false) else (bif !(decide (p0.Name = p1.Name)) then (some false) else (bif (List.length p0.Fields : Int) != (List.length p1.Fields : Int) then (some false) else ((loopM (fun (x1 : Int) => (bif decide (x1 < (List.length p0.Fields : Int)) then ((idx p0.Fields x1).bind fun u1 => (idx p1.Fields x1).bind fun u2 => bif !((decide (u1.Name = u2.Name)) && (u1.Type_ == u2.Type_) && (u1.At == u2.At)) then (some (Lp.ret false)) else (some (Lp.go (IntKind.wrap .i64 (x1 + 1))))) else (some (Lp.brk x1)) : Option (Lp (Int) (Bool)))) NN 0).bind fun o => o.thn (fun (x1 : Int) => some true) (fun r => some r))))))

def kind_Table_Scalar (p0 : KindTable) (p1 : Int) : Option (Bool) :=
  (kind_Table_has p0 p1).bind fun y1 => bif !y1 then (some false) else ((idx p0.list p1).bind fun u1 => bif u1.Type_.Kind == 1 then (some true) else (bif u1.Type_.Kind == 2 then (some true) else (some (u1.Type_.Kind == 3))))

def law08_KindMakes (p0 : List law08Act) : Option (Bool) :=
  (law08_Few p0).bind fun y1 => bif !y1 then ((law08_awake).bind fun y2 => some y2) else ((kind_New).bind fun y3 => (ref08_Begin).bind fun y4 => (loopM (fun (x2, x3, x4) => (bif decide (x3 < (List.length p0 : Int)) then ((idx p0 x3).bind fun u1 => (law08_Act_Done u1 x4 x2).bind fun y5 => bif y5.1 != y5.2.2.1.N then (some (Lp.ret false)) else (bif y5.2.1 != y5.2.2.1.E then (some (Lp.ret false)) else (some (Lp.go (y5.2.2.1.T, IntKind.wrap .i64 (x3 + 1), y5.2.2.2))))) else (some (Lp.brk (x2, x3, x4))) : Option (Lp ((List ref08Type) × Int × KindTable) (Bool)))) NN (y4, 0, y3)).bind fun o => o.thn (fun (x2, x3, x4) => (loopM (fun (x5 : Int) => (bif decide (x5 ≤ (List.length x2 : Int)) then ((kind_Table_Type x4 x5).bind fun y6 => bif decide (0 ≤ x5) then (bif !((y6.2 == 0) == (decide (x5 < (List.length x2 : Int)))) then (some (Lp.ret false)) else ((kind_Table_Size x4 x5).bind fun y7 => (ref08_Size x2 x5).bind fun y8 => bif y7 != y8 then (some (Lp.ret false)) else ((kind_Table_Align x4 x5).bind fun y9 => (ref08_Align x2 x5).bind fun y10 => bif y9 != y10 then (some (Lp.ret false)) else (bif y6.2 == 0 then ((idx x2 x5).bind fun u2 => (law08_same y6.1 u2).bind fun y11 => bif !y11 then (some (Lp.ret false)) else ((kind_Table_Scalar x4 x5).bind fun y12 => bif y6.2 == 0 then (bif y6.1.Kind == 1 then (bif !(y12 == true) then (some (Lp.ret false)) else (some (Lp.go (IntKind.wrap .i64 (x5 + 1))))) else (bif y6.1.Kind == 2 then (bif !(y12 == true) then (some (Lp.ret false)) else (some (Lp.go (IntKind.wrap .i64 (x5 + 1))))) else (bif !(y12 == (y6.1.Kind == 3)) then (some (Lp.ret false)) else (some (Lp.go (IntKind.wrap .i64 (x5 + 1))))))) else (bif !(y12 == false) then (some (Lp.ret false)) else (some (Lp.go (IntKind.wrap .i64 (x5 + 1))))))) else ((kind_Table_Scalar x4 x5).bind fun y13 => bif y6.2 == 0 then (bif y6.1.Kind == 1 then (bif !(y13 == true) then (some (Lp.ret false)) else (some (Lp.go (IntKind.wrap .i64 (x5 + 1))))) else (bif y6.1.Kind == 2 then (bif !(y13 == true) then (some (Lp.ret false)) else (some (Lp.go (IntKind.wrap .i64 (x5 + 1))))) else (bif !(y13 == (y6.1.Kind == 3)) then (some (Lp.ret false)) else (some (Lp.go (IntKind.wrap .i64 (x5 + 1))))))) else (bif !(y13 == false) then (some (Lp.ret false)) else (some (Lp.go (IntKind.wrap .i64 (x5 + 1)))))))))) else (bif !((y6.2 == 0) == false) then (some (Lp.ret false)) else ((kind_Table_Size x4 x5).bind fun y14 => (ref08_Size x2 x5).bind fun y15 => bif y14 != y15 then (some (Lp.ret false)) else ((kind_Table_Align x4 x5).bind fun y16 => (ref08_Align x2 x5).bind fun y17 => bif y16 != y17 then (some (Lp.ret false)) else (bif y6.2 == 0 then ((idx x2 x5).bind fun u3 => (law08_same y6.1 u3).bind fun y18 => bif !y18 then (some (Lp.ret false)) else ((kind_Table_Scalar x4 x5).bind fun y19 => bif y6.2 == 0 then (bif y6.1.Kind == 1 then (bif !(y19 == true) then (some (Lp.ret false)) else (some (Lp.go (IntKind.wrap .i64 (x5 + 1))))) else (bif y6.1.Kind == 2 then (bif !(y19 == true) then (some (Lp.ret false)) else (some (Lp.go (IntKind.wrap .i64 (x5 + 1))))) else (bif !(y19 == (y6.1.Kind == 3)) then (some (Lp.ret false)) else (some (Lp.go (IntKind.wrap .i64 (x5 + 1))))))) else (bif !(y19 == false) then (some (Lp.ret false)) else (some (Lp.go (IntKind.wrap .i64 (x5 + 1))))))) else ((kind_Table_Scalar x4 x5).bind fun y20 => bif y6.2 == 0 then (bif y6.1.Kind == 1 then (bif !(y20 == true) then (some (Lp.ret false)) else (some (Lp.go (IntKind.wrap .i64 (x5 + 1))))) else (bif y6.1.Kind == 2 then (bif !(y20 == true) then (some (Lp.ret false)) else (some (Lp.go (IntKind.wrap .i64 (x5 + 1))))) else (bif !(y20 == (y6.1.Kind == 3)) then (some (Lp.ret false)) else (some (Lp.go (IntKind.wrap .i64 (x5 + 1))))))) else (bif !(y20 == false) then (some (Lp.ret false)) else (some (Lp.go (IntKind.wrap .i64 (x5 + 1))))))))))) else (some (Lp.brk x5)) : Option (Lp (Int) (Bool)))) NN (-1)).bind fun o => o.thn (fun (x5 : Int) => (law08_awake).bind fun y21 => bif y21 then ((kind_Table_Count x4).bind fun y22 => some (y22 == (List.length x2 : Int))) else (some false)) (fun r => some r)) (fun r => some r))

def kind_Table_Ptr_2 (p0 : Int) : Option (Int × Int) :=
  some (0, 1)

def kind_Table_Array_2 (p0 : Int) (p1 : Int) : Option (Int × Int) :=
  some (0, 1)

def kind_Table_Open_2 (p0 : List UInt8) : Option (Int × Int) :=
  some (0, 1)

def kind_Table_Struct_2 (p0 : List UInt8) (p1 : List GField) : Option (Int × Int) :=
  some (0, 1)

def law08_Act_Done_2 (p0 : law08Act) (p1 : List ref08Type) : Option (Int × Int × ref08Made) :=
  bif p0.Kind == 0 then ((kind_Table_Ptr_2 p0.N).bind fun y1 => (ref08_Ptr p1 p0.N).bind fun y2 => some (y1.1, y1.2, y2)) else (bif p0.Kind == 1 then ((kind_Table_Array_2 p0.N p0.Long).bind fun y3 => (ref08_Array p1 p0.N p0.Long).bind fun y4 => some (y3.1, y3.2, y4)) else (bif p0.Kind == 2 then ((kind_Table_Open_2 p0.Name).bind fun y5 => (ref08_Open p1 p0.Name).bind fun y6 => some (y5.1, y5.2, y6)) else ((loopM (fun (x1, x2) => (bif decide (x2 < (List.length p0.Fields : Int)) then ((idx p0.Fields x2).bind fun u1 => (room (List.length x1 + List.length ([u1] : List GField))).bind fun _ => some (Lp.go (x1 ++ ([u1] : List GField), IntKind.wrap .i64 (x2 + 1)))) else (some (Lp.brk (x1, x2))) : Option (Lp ((List GField) × Int) (Unit)))) NN ([], 0)).bind fun o => o.thn (fun (x1, x2) => (kind_Table_Struct_2 p0.Name p0.Fields).bind fun y7 => (ref08_Struct p1 p0.Name x1).bind fun y8 => some (y7.1, y7.2, y8)) (fun _ => none))))

def kind_Table_Type_2 (p0 : Int) : Option (GType × Int) :=
  some ((⟨0, 0, 0, ([] : List UInt8), []⟩ : GType), 1)

def kind_Table_Find_2 (p0 : List UInt8) : Option (Int × Int) :=
  some (0, 1)

def kind_Table_Field_2 (p0 : Int) (p1 : List UInt8) : Option (GField × Int) :=
  some ((⟨([] : List UInt8), 0, 0⟩ : GField), 1)

def kind_Table_Count_2  : Option (Int) :=
  some 0

def kind_Table_has_2 (p0 : Int) : Option (Bool) :=
  some false

def kind_Table_Size_2 (p0 : Int) : Option (Int) :=
  (kind_Table_has_2 p0).bind fun y1 => bif !y1 then (some 0) else none

def kind_Table_Align_2 (p0 : Int) : Option (Int) :=
  (kind_Table_has_2 p0).bind fun y1 => bif !y1 then (some 0) else none

def kind_Table_Scalar_2 (p0 : Int) : Option (Bool) :=
  (kind_Table_has_2 p0).bind fun y1 => bif !y1 then (some false) else none

def law08_KindNone (p0 : law08Act) (p1 : Int) : Option (Bool) :=
  (law08_Few ([p0] : List law08Act)).bind fun y1 => bif !y1 then ((law08_awake).bind fun y2 => some y2) else ((ref08_Begin).bind fun y3 => (law08_Act_Done_2 p0 y3).bind fun y4 => (kind_Table_Type_2 p1).bind fun y5 => (kind_Table_Find_2 p0.Name).bind fun y6 => (kind_Table_Field_2 p1 p0.Name).bind fun y7 => (law08_awake).bind fun y8 => bif y8 then (bif y4.1 == 0 then (bif y4.2.1 == 1 then (bif y5.1.Kind == 0 then (bif y5.2 == 1 then (bif y6.1 == 0 then (bif y6.2 == 1 then (bif (decide (y7.1.Name = ([] : List UInt8))) && (y7.1.Type_ == 0) && (y7.1.At == 0) then (bif y7.2 == 1 then ((kind_Table_Count_2).bind fun y9 => (kind_Table_Size_2 p1).bind fun y10 => (kind_Table_Align_2 p1).bind fun y11 => bif (IntKind.wrap .i64 ((IntKind.wrap .i64 (y9 + y10)) + y11)) == 0 then ((kind_Table_Scalar_2 p1).bind fun y12 => some (!y12)) else (some false)) else (some false)) else (some false)) else (some false)) else (some false)) else (some false)) else (some false)) else (some false)) else (some false)) else (some false))
end Go.Proofs.Ytjbmmcbpdodalaa
