/- The models of Go functions: what each computes. Printed by gen.py. -/
import Derived.Test.YthkiglifgbamiaaModel
import Derived.Laws.Entries
set_option linter.unusedVariables false
namespace Go.Proofs.Ythkiglifgbamiaa
structure Record where
  Seq : Int
  Val : Int
  deriving DecidableEq
structure Replay where
  L : List Record
  From : Int
  To : Int
  Val : Int
  deriving DecidableEq


def ref04_ahead (p0 : List Record) (p1 : Int) : Option (Int) :=
  (loopM (fun (x1 : Int) => (bif decide (x1 < p1) then ((idx p0 x1).bind fun u1 => (idx p0 p1).bind fun u2 => bif u1.Seq == u2.Seq then (some (Lp.ret x1)) else (some (Lp.go (IntKind.wrap .i64 (x1 + 1))))) else (some (Lp.brk x1)) : Option (Lp (Int) (Int)))) NN 0).bind fun o => o.thn (fun (x1 : Int) => some (-1)) (fun r => some r)

def law04_Ref (p0 : List Record) : Option ((List Record)) :=
  (loopM (fun (x1, x2) => (bif decide (x2 < (List.length p0 : Int)) then ((idx p0 x2).bind fun u1 => (room ((x1).length + 1)).bind fun _ => some (Lp.go (x1 ++ [u1], IntKind.wrap .i64 (x2 + 1)))) else (some (Lp.brk (x1, x2))) : Option (Lp ((List Record) × Int) (Unit)))) NN ([], 0)).bind fun o => o.thn (fun (x1, x2) => some x1) (fun _ => none)

def record_First (p0 : List Record) : Option ((List Record)) :=
  (loopM (fun (x1, x2, x3) => (bif decide (x2 < (List.length p0 : Int)) then (jn (fun kk1 => (idx p0 x2).bind fun u1 => bif !((mGet x3 u1.Seq).getD false) then ((room ((x1).length + 1)).bind fun _ => kk1 (x1 ++ [u1]) (mSet x3 u1.Seq true)) else (kk1 x1 x3)) (fun (x4 : List Record) (x5 : List (Int × Bool)) => some (Lp.go (x4, IntKind.wrap .i64 (x2 + 1), x5)))) else (some (Lp.brk (x1, x2, x3))) : Option (Lp ((List Record) × Int × (List (Int × Bool))) (Unit)))) NN ([], 0, [])).bind fun o => o.thn (fun (x1, x2, x3) => some x1) (fun _ => none)

def ref04_First (p0 : List Record) : Option ((List Record)) :=
  (loopM (fun (x1, x2) => (bif decide (x2 < (List.length p0 : Int)) then (jn (fun kk1 => (ref04_ahead p0 x2).bind fun y1 => bif decide (y1 < 0) then ((idx p0 x2).bind fun u1 => (room ((x1).length + 1)).bind fun _ => kk1 (x1 ++ [u1])) else (kk1 x1)) (fun (x3 : List Record) => some (Lp.go (x3, IntKind.wrap .i64 (x2 + 1))))) else (some (Lp.brk (x1, x2))) : Option (Lp ((List Record) × Int) (Unit)))) NN ([], 0)).bind fun o => o.thn (fun (x1, x2) => some x1) (fun _ => none)

def record_Values (p0 : List Record) : Option ((List Int)) :=
  (record_First p0).bind fun y1 => (loopM (fun (x1, x2) => (bif decide (x2 < (List.length y1 : Int)) then ((idx y1 x2).bind fun u1 => (room ((x1).length + 1)).bind fun _ => some (Lp.go (x1 ++ [u1.Val], IntKind.wrap .i64 (x2 + 1)))) else (some (Lp.brk (x1, x2))) : Option (Lp ((List Int) × Int) (Unit)))) NN ([], 0)).bind fun o => o.thn (fun (x1, x2) => some x1) (fun _ => none)

def record_Replays (p0 : List Record) : Option (Int) :=
  (record_First p0).bind fun y1 => some (IntKind.wrap .i64 ((List.length p0 : Int) - (List.length y1 : Int)))

def record_Orderly (p0 : List Record) : Option (Bool) :=
  (loopM (fun (x1, x2) => (bif decide (x2 < (List.length p0 : Int)) then (jn (fun kk1 => (idx p0 x2).bind fun u1 => bif decide ((IntKind.wrap .u32 (List.length x1 : Int)) < u1.Seq) then (some (Lp.ret false)) else (bif u1.Seq == (IntKind.wrap .u32 (List.length x1 : Int)) then ((room ((x1).length + 1)).bind fun _ => kk1 (x1 ++ [u1.Val])) else ((idx x1 u1.Seq).bind fun u2 => bif u2 != u1.Val then (some (Lp.ret false)) else (kk1 x1)))) (fun (x3 : List Int) => some (Lp.go (x3, IntKind.wrap .i64 (x2 + 1))))) else (some (Lp.brk (x1, x2))) : Option (Lp ((List Int) × Int) (Bool)))) NN ([], 0)).bind fun o => o.thn (fun (x1, x2) => some true) (fun r => some r)

def ref04_Orderly (p0 : List Record) : Option (Bool) :=
  (loopM (fun (x1 : Int) => (bif decide (x1 < (List.length p0 : Int)) then ((loopM (fun (x2, x3) => (bif decide (x3 < x1) then (jn (fun kk1 => (idx p0 x3).bind fun u1 => bif decide (x2 < (IntKind.wrap .i64 u1.Seq)) then ((idx p0 x3).bind fun u2 => kk1 (IntKind.wrap .i64 u2.Seq)) else (kk1 x2)) (fun (x4 : Int) => some (Lp.go (x4, IntKind.wrap .i64 (x3 + 1))))) else (some (Lp.brk (x2, x3))) : Option (Lp (Int × Int) (Unit)))) NN ((-1), 0)).bind fun o => o.thn (fun (x2, x3) => (idx p0 x1).bind fun u3 => bif decide ((IntKind.wrap .i64 (x2 + 1)) < (IntKind.wrap .i64 u3.Seq)) then (some (Lp.ret false)) else ((ref04_ahead p0 x1).bind fun y1 => bif decide (0 ≤ y1) then ((idx p0 y1).bind fun u4 => (idx p0 x1).bind fun u5 => bif u4.Val != u5.Val then (some (Lp.ret false)) else (some (Lp.go (IntKind.wrap .i64 (x1 + 1))))) else (some (Lp.go (IntKind.wrap .i64 (x1 + 1)))))) (fun _ => none)) else (some (Lp.brk x1)) : Option (Lp (Int) (Bool)))) NN 0).bind fun o => o.thn (fun (x1 : Int) => some true) (fun r => some r)

def ref04_Begins (p0 : List Record) (p1 : List Int) : Option (Bool) :=
  (ref04_First p0).bind fun y1 => (loopM (fun (x1 : Int) => (bif decide (x1 < (List.length y1 : Int)) then (bif decide ((List.length p1 : Int) ≤ x1) then (some (Lp.ret false)) else ((idx y1 x1).bind fun u1 => (idx p1 x1).bind fun u2 => bif u1.Val != u2 then (some (Lp.ret false)) else (some (Lp.go (IntKind.wrap .i64 (x1 + 1)))))) else (some (Lp.brk x1)) : Option (Lp (Int) (Bool)))) NN 0).bind fun o => o.thn (fun (x1 : Int) => (ref04_Orderly p0).bind fun y2 => some y2) (fun r => some r)

def record_Begins (p0 : List Record) (p1 : List Int) : Option (Bool) :=
  (record_Values p0).bind fun y1 => (record_Orderly p0).bind fun y2 => bif !y2 then (some false) else (bif decide ((List.length p1 : Int) < (List.length y1 : Int)) then (some false) else ((loopM (fun (x1 : Int) => (bif decide (x1 < (List.length y1 : Int)) then ((idx y1 x1).bind fun u1 => (idx p1 x1).bind fun u2 => bif u1 != u2 then (some (Lp.ret false)) else (some (Lp.go (IntKind.wrap .i64 (x1 + 1))))) else (some (Lp.brk x1)) : Option (Lp (Int) (Bool)))) NN 0).bind fun o => o.thn (fun (x1 : Int) => some true) (fun r => some r)))

def record_Whole (p0 : List Record) (p1 : List Int) : Option (Bool) :=
  (record_Begins p0 p1).bind fun y1 => bif y1 then ((record_Values p0).bind fun y2 => some ((List.length y2 : Int) == (List.length p1 : Int))) else (some false)

def law04_awake  : Option (Bool) :=
  (record_Orderly ([(⟨0, 7⟩ : Record), (⟨1, 8⟩ : Record), (⟨0, 7⟩ : Record), (⟨1, 8⟩ : Record), (⟨2, 9⟩ : Record)])).bind fun y1 => bif y1 then ((record_First ([(⟨0, 7⟩ : Record), (⟨1, 8⟩ : Record), (⟨0, 7⟩ : Record), (⟨1, 8⟩ : Record), (⟨2, 9⟩ : Record)])).bind fun y2 => bif (List.length y2 : Int) == 3 then ((record_Replays ([(⟨0, 7⟩ : Record), (⟨1, 8⟩ : Record), (⟨0, 7⟩ : Record), (⟨1, 8⟩ : Record), (⟨2, 9⟩ : Record)])).bind fun y3 => bif y3 == 2 then ((record_Whole ([(⟨0, 7⟩ : Record), (⟨1, 8⟩ : Record), (⟨0, 7⟩ : Record), (⟨1, 8⟩ : Record), (⟨2, 9⟩ : Record)]) ([7, 8, 9])).bind fun y4 => bif y4 then ((record_Orderly ([(⟨0, 0⟩ : Record), (⟨2, 0⟩ : Record)])).bind fun y5 => bif !y5 then ((record_Orderly ([(⟨0, 1⟩ : Record), (⟨0, 2⟩ : Record)])).bind fun y6 => some (!y6)) else (some false)) else (some false)) else (some false)) else (some false)) else (some false)

def law04_RecordFirsts (p0 : List Record) : Option (Bool) :=
  bif decide (300 < (List.length p0 : Int)) then ((law04_awake).bind fun y1 => some y1) else ((law04_Ref p0).bind fun y2 => (record_First p0).bind fun y3 => (law04_Ref y3).bind fun y4 => (ref04_First y2).bind fun y5 => (record_Values p0).bind fun y6 => bif (List.length y4 : Int) != (List.length y5 : Int) then (some false) else (bif (List.length y6 : Int) != (List.length y5 : Int) then (some false) else ((record_Replays p0).bind fun y7 => bif y7 != (IntKind.wrap .i64 ((List.length p0 : Int) - (List.length y5 : Int))) then (some false) else ((record_Orderly p0).bind fun y8 => (ref04_Orderly y2).bind fun y9 => bif !(y8 == y9) then (some false) else ((loopM (fun (x1 : Int) => (bif decide (x1 < (List.length y4 : Int)) then ((idx y4 x1).bind fun u1 => (idx y5 x1).bind fun u2 => bif !((u1.Seq == u2.Seq) && (u1.Val == u2.Val)) then (some (Lp.ret false)) else ((idx y6 x1).bind fun u3 => (idx y5 x1).bind fun u4 => bif u3 != u4.Val then (some (Lp.ret false)) else (some (Lp.go (IntKind.wrap .i64 (x1 + 1)))))) else (some (Lp.brk x1)) : Option (Lp (Int) (Bool)))) NN 0).bind fun o => o.thn (fun (x1 : Int) => (law04_awake).bind fun y10 => some y10) (fun r => some r))))))

def law04_RecordBegins (p0 : List Record) (p1 : List Int) : Option (Bool) :=
  bif decide (300 < (List.length p0 : Int)) then ((law04_awake).bind fun y8 => some y8) else (bif decide (300 < (List.length p1 : Int)) then ((law04_awake).bind fun y1 => some y1) else ((law04_Ref p0).bind fun y2 => (ref04_Begins y2 p1).bind fun y3 => (law04_awake).bind fun y4 => bif y4 then ((record_Begins p0 p1).bind fun y5 => bif y5 == y3 then ((record_Whole p0 p1).bind fun y6 => bif y3 then ((ref04_First y2).bind fun y7 => some (y6 == ((List.length y7 : Int) == (List.length p1 : Int)))) else (some (y6 == false))) else (some false)) else (some false)))

def law04_RecordNumbers (p0 : List Record) : Option (Bool) :=
  bif decide (300 < (List.length p0 : Int)) then ((law04_awake).bind fun y5 => some y5) else ((record_Orderly p0).bind fun y1 => bif !y1 then ((law04_awake).bind fun y2 => some y2) else ((record_First p0).bind fun y3 => (loopM (fun (x1 : Int) => (bif decide (x1 < (List.length y3 : Int)) then ((idx y3 x1).bind fun u1 => bif u1.Seq != (IntKind.wrap .u32 x1) then (some (Lp.ret false)) else (some (Lp.go (IntKind.wrap .i64 (x1 + 1))))) else (some (Lp.brk x1)) : Option (Lp (Int) (Bool)))) NN 0).bind fun o => o.thn (fun (x1 : Int) => (law04_awake).bind fun y4 => some y4) (fun r => some r)))

def law04_RecordReplays (p0 : Replay) : Option (Bool) :=
  bif decide (300 < (List.length p0.L : Int)) then ((law04_awake).bind fun y13 => some y13) else (bif decide (p0.From < 0) then ((law04_awake).bind fun y12 => some y12) else (bif decide (p0.To ≤ p0.From) then ((law04_awake).bind fun y11 => some y11) else (bif decide ((List.length p0.L : Int) < p0.To) then ((law04_awake).bind fun y1 => some y1) else ((loopM (fun (x1, x2, x3) => (bif decide (x3 < p0.To) then ((idx p0.L x3).bind fun u1 => (room ((x1).length + 1)).bind fun _ => (idx p0.L x3).bind fun u2 => (room ((x2).length + 1)).bind fun _ => some (Lp.go (x1 ++ [u1], x2 ++ [u2], IntKind.wrap .i64 (x3 + 1)))) else (some (Lp.brk (x1, x2, x3))) : Option (Lp ((List Record) × (List Record) × Int) (Unit)))) NN ([], [], 0)).bind fun o => o.thn (fun (x1, x2, x3) => (idx p0.L p0.From).bind fun u3 => (room ((x1).length + 1)).bind fun _ => (idx p0.L p0.From).bind fun u4 => (room ((x2).length + 1)).bind fun _ => (loopM (fun (x4, x5, x6) => (bif decide (x6 < (List.length p0.L : Int)) then ((idx p0.L x6).bind fun u5 => (room ((x4).length + 1)).bind fun _ => (idx p0.L x6).bind fun u6 => (room ((x5).length + 1)).bind fun _ => some (Lp.go (x4 ++ [u5], x5 ++ [u6], IntKind.wrap .i64 (x6 + 1)))) else (some (Lp.brk (x4, x5, x6))) : Option (Lp ((List Record) × (List Record) × Int) (Unit)))) NN (x1 ++ [u3], x2 ++ [(⟨u4.Seq, p0.Val⟩ : Record)], p0.To)).bind fun o => o.thn (fun (x4, x5, x6) => (record_First p0.L).bind fun y2 => (record_First x4).bind fun y3 => bif (List.length y2 : Int) != (List.length y3 : Int) then (some false) else ((record_Replays x4).bind fun y4 => (record_Replays p0.L).bind fun y5 => bif y4 != (IntKind.wrap .i64 (y5 + 1)) then (some false) else ((loopM (fun (x7 : Int) => (bif decide (x7 < (List.length y2 : Int)) then ((idx y2 x7).bind fun u7 => (idx y3 x7).bind fun u8 => bif !((u7.Seq == u8.Seq) && (u7.Val == u8.Val)) then (some (Lp.ret false)) else (some (Lp.go (IntKind.wrap .i64 (x7 + 1))))) else (some (Lp.brk x7)) : Option (Lp (Int) (Bool)))) NN 0).bind fun o => o.thn (fun (x7 : Int) => (record_Orderly p0.L).bind fun y6 => bif !y6 then ((law04_awake).bind fun y7 => some y7) else ((law04_awake).bind fun y8 => bif y8 then ((record_Orderly x4).bind fun y9 => bif y9 then ((record_Orderly x5).bind fun y10 => (idx p0.L p0.From).bind fun u9 => some (y10 == (p0.Val == u9.Val))) else (some false)) else (some false))) (fun r => some r)))) (fun _ => none)) (fun _ => none)))))
end Go.Proofs.Ythkiglifgbamiaa
