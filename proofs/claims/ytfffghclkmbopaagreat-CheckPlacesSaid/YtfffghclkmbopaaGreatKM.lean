/- The models of Go functions: what each computes. Printed by gen2.py. -/
import Derived.Test.YtfffghclkmbopaaGreatKModel
import Derived.Laws.Entries
import Derived.Lib.Index
set_option linter.unusedVariables false
namespace Go.Proofs.YtfffghclkmbopaaGreat

def strings_Index (p0 p1:List UInt8):Option Int:=if p0.length < 4294967281 then some (Go.Lib.index p0 p1) else none
structure Pos where
  Line:Int
  Col:Int
  deriving DecidableEq
structure B3 where
  Word:List UInt8
  Name:List UInt8
  Stars:Int
  deriving DecidableEq
structure Z8 where
  Kind:Int
  Pos:Pos
  Op:List UInt8
  Name:List UInt8
  Num:Int
  Type_:B3
  Kids:List Z8
structure F2 where
  Pos:Pos
  Type_:B3
  Name:List UInt8
  Dims:List Int
  Init:List Z8
  Brace:Bool
structure D4 where
  Pos:Pos
  Name:List UInt8
  Fields:List F2
structure Y5r (S:Type) where
  Pos:Pos
  Default:Bool
  Num:Int
  Body:List S
structure U0 where
  Kind:Int
  Pos:Pos
  A:List Z8
  B:List Z8
  C:List Z8
  Var:List F2
  Body:List U0
  Else:List U0
  Cases:List (Y5r U0)
abbrev E8:=Y5r U0
structure P3 where
  Pos:Pos
  Ret:B3
  Name:List UInt8
  Params:List F2
  Body:List U0
structure J2 where
  Structs:List D4
  Globals:List F2
  Funcs:List P3
structure B9 where
  s:List UInt8
  pos:Pos
  deriving DecidableEq
structure V0 where
  Kind:Int
  Text:List UInt8
  Num:Int
  Pos:Pos
  deriving DecidableEq
structure Z0 where
  l:List V0
  end_:Pos
  depth:Int
  deriving DecidableEq
structure Y0 where
  pos:Pos
  e:Int
  deriving DecidableEq
structure Q7l where
  Name:List UInt8
  Size:Int
  Align:Int
  Cell:Int
  deriving DecidableEq
structure Y4 where
  Kind:Int
  Fn:Int
  Num:Int
  Var:Int
  Global:Bool
  Size:Int
  Post:Bool
  Ptr:Bool
  Kids:List Y4
structure X1t (S:Type) where
  Default:Bool
  Num:Int
  Body:List S
structure U6 where
  Kind:Int
  A:List Y4
  Post:List Y4
  First:Bool
  Body:List U6
  Else:List U6
  Cases:List (X1t U6)
  Var:Int
abbrev Q8c:=X1t U6
structure Q4d where
  Name:List UInt8
  Void:Bool
  Params:Int
  Slots:List Q7l
  Body:List U6
structure Z2u where
  Globals:List Q7l
  Data:List (List Int)
  Codes:List Q4d
  Main:Int
structure U8 where
  Name:List UInt8
  Type_:Int
  At:Int
  deriving DecidableEq
structure Q6f where
  Kind:Int
  Elem:Int
  Len:Int
  Name:List UInt8
  Fields:List U8
  deriving DecidableEq
structure U4 where
  Type_:Q6f
  size:Int
  align:Int
  open_:Bool
  deriving DecidableEq
structure Z6 where
  list:List U4
  deriving DecidableEq
structure M2 where
  ret:Int
  params:List Int
  deriving DecidableEq
structure G5 where
  ret:Int
  slots:List Q7l
  types:List Int
  scopes:List (Option (List ((List UInt8)×Int)))
  loops:Int
  breaks:Int
  deriving DecidableEq
structure Q0 where
  t:Z6
  u:Z2u
  globals:Option (List ((List UInt8)×Int))
  codes:Option (List ((List UInt8)×Int))
  gtypes:List Int
  signs:List M2
  fun_:O3 G5
structure Z7 where
  n:Int
  term:Y4
  lies:Bool
structure Z3 where
  pos:Pos
  e:Int
  deriving DecidableEq


def Q3u (p0:List UInt8) (p1:List UInt8):Option (Bool) :=
  bif decide ((List.length p1:Int)≤(List.length p0:Int)) then ((sub p0 0 (List.length p1:Int)).bind fun u1=>some (decide (u1=p1))) else (some false)

def P7 (p0:List UInt8) (p1:List UInt8):Option (Bool) :=
  (Q3u p0 p1).bind fun y1=>some y1

def Z2c (p0:Int):Option (Bool) :=
  bif p0 == 32 then (some true) else (bif p0 == 9 then (some true) else (bif p0 == 10 then (some true) else (some (p0 == 13))))

def Z8w (p0:List UInt8):Option (Int) :=
  (loopM (fun(x1:Int)=>(bif decide (x1 < (List.length p0:Int)) then ((idx p0 x1).bind fun u1=>(Z2c (UInt8.toNat u1:Int)).bind fun y1=>bif y1 then (some (Lp.go (IntKind.wrap .i64 (x1+1)))) else (some (Lp.brk x1))) else (some (Lp.brk x1)):Option (Lp (Int) (Unit)))) NN (0:Int)).bind fun o=>o.thn (fun(x1:Int)=>some x1) (fun _=>none)

def Z3i (p0:List UInt8):Option (Int) :=
  (P7 p0 ([47,47]:List UInt8)).bind fun y1=>bif y1 then ((strings_Index p0 ([10]:List UInt8)).bind fun y2=>bif decide (0≤y2) then (some y2) else (some (List.length p0:Int))) else ((P7 p0 ([47,42]:List UInt8)).bind fun y3=>bif y3 then ((sub p0 2 (List.length p0:Int)).bind fun u1=>(strings_Index u1 ([42,47]:List UInt8)).bind fun y4=>bif decide (y4 < 0) then (some ((-1):Int)) else (some (IntKind.wrap .i64 (y4+4)))) else ((Z8w p0).bind fun y5=>some y5))

def Q0c (p0:B9) (p1:Int):Option (B9) :=
  (sub p0.s 0 p1).bind fun u1=>(S0 (List.length u1)).bind fun _=>(loopM (fun(x1,x2)=>(bif decide (x1 < (List.length (A0 u1):Int)) then (jn (fun kk1=>(idx (A0 u1) x1).bind fun u2=>bif u2 == 10 then (kk1 (⟨x2.s,(⟨IntKind.wrap .i64 (x2.pos.Line+1),1⟩:Pos)⟩:B9)) else (kk1 (⟨x2.s,(⟨x2.pos.Line,IntKind.wrap .i64 (x2.pos.Col+1)⟩:Pos)⟩:B9))) (fun(x3:B9)=>some (Lp.go (IntKind.wrap .i64 (x1+1),x3)))) else (some (Lp.brk (x1,x2))):Option (Lp (Int×B9) (Unit)))) NN ((0:Int),p0)).bind fun o=>o.thn (fun(x1,x2)=>(sub x2.s p1 (List.length x2.s:Int)).bind fun u3=>some (⟨u3,x2.pos⟩:B9)) (fun _=>none)

def Z1k (p0:Int):Option (Bool) :=
  bif decide (97≤p0) then (bif decide (p0≤122) then (some true) else (bif decide (65≤p0) then (bif decide (p0≤90) then (some true) else (some (p0 == 95))) else (some (p0 == 95)))) else (bif decide (65≤p0) then (bif decide (p0≤90) then (some true) else (some (p0 == 95))) else (some (p0 == 95)))

def Z1l (p0:Int):Option (Bool) :=
  bif decide (48≤p0) then (some (decide (p0≤57))) else (some false)

def Z8y (p0:Int):Option (Bool) :=
  (Z1k p0).bind fun y1=>bif y1 then (some true) else ((Z1l p0).bind fun y2=>some y2)

def Q9n (p0:List UInt8):Option (Int) :=
  (loopM (fun(x1:Int)=>(bif decide (x1 < (List.length p0:Int)) then ((idx p0 x1).bind fun u1=>(Z8y (UInt8.toNat u1:Int)).bind fun y1=>bif y1 then (some (Lp.go (IntKind.wrap .i64 (x1+1)))) else (some (Lp.brk x1))) else (some (Lp.brk x1)):Option (Lp (Int) (Unit)))) NN (0:Int)).bind fun o=>o.thn (fun(x1:Int)=>some x1) (fun _=>none)

def Z4a (p0:List UInt8):Option (Bool) :=
  jn (fun kk1=>bif decide (p0=([98,114,101,97,107]:List UInt8)) then (kk1 (decide (p0=([98,114,101,97,107]:List UInt8)))) else (bif decide (p0=([99,97,115,101]:List UInt8)) then (kk1 (decide (p0=([99,97,115,101]:List UInt8)))) else (bif decide (p0=([99,104,97,114]:List UInt8)) then (kk1 (decide (p0=([99,104,97,114]:List UInt8)))) else (bif decide (p0=([99,111,110,116,105,110,117,101]:List UInt8)) then (kk1 (decide (p0=([99,111,110,116,105,110,117,101]:List UInt8)))) else (bif decide (p0=([100,101,102,97,117,108,116]:List UInt8)) then (kk1 (decide (p0=([100,101,102,97,117,108,116]:List UInt8)))) else (bif decide (p0=([100,111]:List UInt8)) then (kk1 (decide (p0=([100,111]:List UInt8)))) else (bif decide (p0=([101,108,115,101]:List UInt8)) then (kk1 (decide (p0=([101,108,115,101]:List UInt8)))) else (bif decide (p0=([102,111,114]:List UInt8)) then (kk1 (decide (p0=([102,111,114]:List UInt8)))) else (bif decide (p0=([105,102]:List UInt8)) then (kk1 (decide (p0=([105,102]:List UInt8)))) else (bif decide (p0=([105,110]:List UInt8)) then (kk1 (decide (p0=([105,110]:List UInt8)))) else (bif decide (p0=([105,110,116]:List UInt8)) then (kk1 (decide (p0=([105,110,116]:List UInt8)))) else (bif decide (p0=([111,117,116]:List UInt8)) then (kk1 (decide (p0=([111,117,116]:List UInt8)))) else (bif decide (p0=([114,101,116,117,114,110]:List UInt8)) then (kk1 (decide (p0=([114,101,116,117,114,110]:List UInt8)))) else (bif decide (p0=([115,105,122,101,111,102]:List UInt8)) then (kk1 (decide (p0=([115,105,122,101,111,102]:List UInt8)))) else (bif decide (p0=([115,116,114,117,99,116]:List UInt8)) then (kk1 (decide (p0=([115,116,114,117,99,116]:List UInt8)))) else (bif decide (p0=([115,119,105,116,99,104]:List UInt8)) then (kk1 (decide (p0=([115,119,105,116,99,104]:List UInt8)))) else (bif decide (p0=([118,111,105,100]:List UInt8)) then (kk1 (decide (p0=([118,111,105,100]:List UInt8)))) else (kk1 (decide (p0=([119,104,105,108,101]:List UInt8))))))))))))))))))))) (fun(x1:Bool)=>bif x1 then (some true) else (some false))

def Q7c (p0:Int):Option (Int) :=
  (Z1l p0).bind fun y1=>bif y1 then (some (IntKind.wrap .u64 (IntKind.wrap .u8 (p0 - 48)))) else (bif decide (97≤p0) then (bif decide (p0≤102) then (some (IntKind.wrap .u64 ((IntKind.wrap .u64 (IntKind.wrap .u8 (p0 - 97)))+10))) else (bif decide (65≤p0) then (bif decide (p0≤70) then (some (IntKind.wrap .u64 ((IntKind.wrap .u64 (IntKind.wrap .u8 (p0 - 65)))+10))) else (some (4294967295:Int))) else (some (4294967295:Int)))) else (bif decide (65≤p0) then (bif decide (p0≤70) then (some (IntKind.wrap .u64 ((IntKind.wrap .u64 (IntKind.wrap .u8 (p0 - 65)))+10))) else (some (4294967295:Int))) else (some (4294967295:Int))))

def Z1j (p0:List UInt8):Option (V0×Int) :=
  (Q9n p0).bind fun y1=>(sub p0 0 y1).bind fun u1=>jn (fun kk1=>(P7 u1 ([48,120]:List UInt8)).bind fun y2=>bif y2 then ((sub u1 2 (List.length u1:Int)).bind fun u3=>kk1 u3 (16:Int)) else ((P7 u1 ([48,88]:List UInt8)).bind fun y3=>bif y3 then ((sub u1 2 (List.length u1:Int)).bind fun u2=>kk1 u2 (16:Int)) else (kk1 u1 (10:Int)))) (fun(x1:List UInt8) (x2:Int)=>bif decide (x1=([]:List UInt8)) then (some ((⟨0,([]:List UInt8),0,(⟨0,0⟩:Pos)⟩:V0),(3:Int))) else ((S0 (List.length x1)).bind fun _=>(loopM (fun(x3,x4,x5)=>(bif decide (x5 < (List.length (A0 x1):Int)) then (jn (fun kk2=>(idx (A0 x1) x5).bind fun u4=>(Q7c u4).bind fun y4=>bif decide (x2≤y4) then (some (Lp.ret ((⟨0,([]:List UInt8),0,(⟨0,0⟩:Pos)⟩:V0),(3:Int)))) else ((Q7c u4).bind fun y5=>bif decide (4294967295 < (IntKind.wrap .u64 ((IntKind.wrap .u64 (x3 * x2))+y5))) then (kk2 (4294967295:Int) true) else (kk2 (IntKind.wrap .u64 ((IntKind.wrap .u64 (x3 * x2))+y5)) x4))) (fun(x6:Int) (x7:Bool)=>some (Lp.go (x6,x7,IntKind.wrap .i64 (x5+1))))) else (some (Lp.brk (x3,x4,x5))):Option (Lp (Int×Bool×Int) (V0×Int)))) NN ((0:Int),false,(0:Int))).bind fun o=>o.thn (fun(x3,x4,x5)=>bif x4 then (some ((⟨0,([]:List UInt8),0,(⟨0,0⟩:Pos)⟩:V0),(7:Int))) else (some ((⟨3,u1,IntKind.wrap .u32 x3,(⟨0,0⟩:Pos)⟩:V0),(0:Int)))) (fun r=>some r)))

def Q9o (p0:Int):Option (Int×Bool) :=
  bif p0 == 110 then (some ((10:Int),true)) else (bif p0 == 116 then (some ((9:Int),true)) else (bif p0 == 114 then (some ((13:Int),true)) else (bif p0 == 48 then (some ((0:Int),true)) else (jn (fun kk1=>bif p0 == 92 then (kk1 (p0 == 92)) else (kk1 (p0 == 39))) (fun(x1:Bool)=>bif x1 then (some (p0,true)) else (some ((0:Int),false)))))))

def Q3o (p0:List UInt8):Option (V0×Int) :=
  bif decide (4≤(List.length p0:Int)) then ((idx p0 1).bind fun u1=>bif (UInt8.toNat u1:Int) == 92 then ((idx p0 3).bind fun u2=>bif (UInt8.toNat u2:Int) == 39 then ((idx p0 2).bind fun u3=>(Q9o (UInt8.toNat u3:Int)).bind fun y1=>bif y1.2 then ((sub p0 0 4).bind fun u4=>some ((⟨3,u4,IntKind.wrap .u32 y1.1,(⟨0,0⟩:Pos)⟩:V0),(0:Int))) else (some ((⟨0,([]:List UInt8),0,(⟨0,0⟩:Pos)⟩:V0),(3:Int)))) else (bif decide (3≤(List.length p0:Int)) then ((idx p0 2).bind fun u5=>bif (UInt8.toNat u5:Int) == 39 then ((idx p0 1).bind fun u6=>bif decide (32≤(UInt8.toNat u6:Int)) then ((idx p0 1).bind fun u7=>bif decide ((UInt8.toNat u7:Int)≤126) then ((idx p0 1).bind fun u8=>bif (UInt8.toNat u8:Int) != 39 then ((idx p0 1).bind fun u9=>bif (UInt8.toNat u9:Int) != 92 then ((sub p0 0 3).bind fun u10=>(idx p0 1).bind fun u11=>some ((⟨3,u10,IntKind.wrap .u32 (UInt8.toNat u11:Int),(⟨0,0⟩:Pos)⟩:V0),(0:Int))) else (some ((⟨0,([]:List UInt8),0,(⟨0,0⟩:Pos)⟩:V0),(3:Int)))) else (some ((⟨0,([]:List UInt8),0,(⟨0,0⟩:Pos)⟩:V0),(3:Int)))) else (some ((⟨0,([]:List UInt8),0,(⟨0,0⟩:Pos)⟩:V0),(3:Int)))) else (some ((⟨0,([]:List UInt8),0,(⟨0,0⟩:Pos)⟩:V0),(3:Int)))) else (some ((⟨0,([]:List UInt8),0,(⟨0,0⟩:Pos)⟩:V0),(3:Int)))) else (some ((⟨0,([]:List UInt8),0,(⟨0,0⟩:Pos)⟩:V0),(3:Int))))) else (bif decide (3≤(List.length p0:Int)) then ((idx p0 2).bind fun u12=>bif (UInt8.toNat u12:Int) == 39 then ((idx p0 1).bind fun u13=>bif decide (32≤(UInt8.toNat u13:Int)) then ((idx p0 1).bind fun u14=>bif decide ((UInt8.toNat u14:Int)≤126) then ((idx p0 1).bind fun u15=>bif (UInt8.toNat u15:Int) != 39 then ((idx p0 1).bind fun u16=>bif (UInt8.toNat u16:Int) != 92 then ((sub p0 0 3).bind fun u17=>(idx p0 1).bind fun u18=>some ((⟨3,u17,IntKind.wrap .u32 (UInt8.toNat u18:Int),(⟨0,0⟩:Pos)⟩:V0),(0:Int))) else (some ((⟨0,([]:List UInt8),0,(⟨0,0⟩:Pos)⟩:V0),(3:Int)))) else (some ((⟨0,([]:List UInt8),0,(⟨0,0⟩:Pos)⟩:V0),(3:Int)))) else (some ((⟨0,([]:List UInt8),0,(⟨0,0⟩:Pos)⟩:V0),(3:Int)))) else (some ((⟨0,([]:List UInt8),0,(⟨0,0⟩:Pos)⟩:V0),(3:Int)))) else (some ((⟨0,([]:List UInt8),0,(⟨0,0⟩:Pos)⟩:V0),(3:Int)))) else (some ((⟨0,([]:List UInt8),0,(⟨0,0⟩:Pos)⟩:V0),(3:Int))))) else (bif decide (3≤(List.length p0:Int)) then ((idx p0 2).bind fun u19=>bif (UInt8.toNat u19:Int) == 39 then ((idx p0 1).bind fun u20=>bif decide (32≤(UInt8.toNat u20:Int)) then ((idx p0 1).bind fun u21=>bif decide ((UInt8.toNat u21:Int)≤126) then ((idx p0 1).bind fun u22=>bif (UInt8.toNat u22:Int) != 39 then ((idx p0 1).bind fun u23=>bif (UInt8.toNat u23:Int) != 92 then ((sub p0 0 3).bind fun u24=>(idx p0 1).bind fun u25=>some ((⟨3,u24,IntKind.wrap .u32 (UInt8.toNat u25:Int),(⟨0,0⟩:Pos)⟩:V0),(0:Int))) else (some ((⟨0,([]:List UInt8),0,(⟨0,0⟩:Pos)⟩:V0),(3:Int)))) else (some ((⟨0,([]:List UInt8),0,(⟨0,0⟩:Pos)⟩:V0),(3:Int)))) else (some ((⟨0,([]:List UInt8),0,(⟨0,0⟩:Pos)⟩:V0),(3:Int)))) else (some ((⟨0,([]:List UInt8),0,(⟨0,0⟩:Pos)⟩:V0),(3:Int)))) else (some ((⟨0,([]:List UInt8),0,(⟨0,0⟩:Pos)⟩:V0),(3:Int)))) else (some ((⟨0,([]:List UInt8),0,(⟨0,0⟩:Pos)⟩:V0),(3:Int))))

def Z5n (p0:List UInt8):Option ((List UInt8)) :=
  (loopM (fun(x1:Int)=>(bif decide (x1 < 45) then ((idx ([([60,60,61]:List UInt8),([62,62,61]:List UInt8),([45,62]:List UInt8),([43,43]:List UInt8),([45,45]:List UInt8),([60,60]:List UInt8),([62,62]:List UInt8),([60,61]:List UInt8),([62,61]:List UInt8),([61,61]:List UInt8),([33,61]:List UInt8),([38,38]:List UInt8),([124,124]:List UInt8),([43,61]:List UInt8),([45,61]:List UInt8),([42,61]:List UInt8),([47,61]:List UInt8),([37,61]:List UInt8),([38,61]:List UInt8),([124,61]:List UInt8),([94,61]:List UInt8),([43]:List UInt8),([45]:List UInt8),([42]:List UInt8),([47]:List UInt8),([37]:List UInt8),([38]:List UInt8),([124]:List UInt8),([94]:List UInt8),([126]:List UInt8),([33]:List UInt8),([60]:List UInt8),([62]:List UInt8),([61]:List UInt8),([63]:List UInt8),([58]:List UInt8),([59]:List UInt8),([44]:List UInt8),([46]:List UInt8),([40]:List UInt8),([41]:List UInt8),([91]:List UInt8),([93]:List UInt8),([123]:List UInt8),([125]:List UInt8)]:List (List UInt8)) x1).bind fun u1=>(P7 p0 u1).bind fun y1=>bif y1 then (some (Lp.ret u1)) else (some (Lp.go (IntKind.wrap .i64 (x1+1))))) else (some (Lp.brk x1)):Option (Lp (Int) ((List UInt8))))) NN (0:Int)).bind fun o=>o.thn (fun(x1:Int)=>some ([]:List UInt8)) (fun r=>some r)

def Q4j (p0:List UInt8):Option (V0×Int) :=
  (idx p0 0).bind fun u1=>(Z1k (UInt8.toNat u1:Int)).bind fun y1=>bif y1 then ((Q9n p0).bind fun y2=>(sub p0 0 y2).bind fun u2=>bif decide (31 < y2) then (some ((⟨1,u2,0,(⟨0,0⟩:Pos)⟩:V0),(2:Int))) else (jn (fun kk1=>(Z4a u2).bind fun y3=>bif y3 then (kk1 (⟨2,u2,0,(⟨0,0⟩:Pos)⟩:V0)) else (kk1 (⟨1,u2,0,(⟨0,0⟩:Pos)⟩:V0))) (fun(x1:V0)=>some (x1,(0:Int))))) else ((idx p0 0).bind fun u3=>(Z1l (UInt8.toNat u3:Int)).bind fun y4=>bif y4 then ((Z1j p0).bind fun y5=>some (y5.1,y5.2)) else ((idx p0 0).bind fun u4=>bif (UInt8.toNat u4:Int) == 39 then ((Q3o p0).bind fun y6=>some (y6.1,y6.2)) else ((Z5n p0).bind fun y7=>bif decide (y7=([]:List UInt8)) then (some ((⟨0,([]:List UInt8),0,(⟨0,0⟩:Pos)⟩:V0),(3:Int))) else (some ((⟨4,y7,0,(⟨0,0⟩:Pos)⟩:V0),(0:Int))))))

def Y2e (p0:List UInt8):Option ((List V0)×Pos×Int) :=
  bif decide (65536 < (List.length p0:Int)) then (some ([],(⟨1,1⟩:Pos),(2:Int))) else ((loopM (fun(x1,x2)=>(bif !(decide (x2.s=([]:List UInt8))) then ((Z3i x2.s).bind fun y1=>bif decide (y1 < 0) then (some (Lp.ret ([],x2.pos,(3:Int)))) else (bif decide (0 < y1) then ((Q0c x2 y1).bind fun y2=>some (Lp.go (x1,y2))) else ((Q4j x2.s).bind fun y3=>bif y3.2 != 0 then (some (Lp.ret ([],x2.pos,y3.2))) else ((S0 (List.length x1+List.length ([{y3.1 with Pos:=x2.pos}]:List V0))).bind fun _=>(Q0c x2 (List.length y3.1.Text:Int)).bind fun y4=>some (Lp.go (x1++([{y3.1 with Pos:=x2.pos}]:List V0),y4)))))) else (some (Lp.brk (x1,x2))):Option (Lp ((List V0)×B9) ((List V0)×Pos×Int)))) NN ([],(⟨p0,(⟨1,1⟩:Pos)⟩:B9))).bind fun o=>o.thn (fun(x1,x2)=>some (x1,x2.pos,(0:Int))) (fun r=>some r))

def F3 (p0:Z0):Option (Pos) :=
  bif (List.length p0.l:Int) == 0 then (some p0.end_) else ((idx p0.l 0).bind fun u1=>some u1.Pos)

def I7 (p0:Z0) (p1:Int) (p2:List UInt8):Option (Bool) :=
  bif decide (p1 < (List.length p0.l:Int)) then ((idx p0.l p1).bind fun u1=>bif decide (u1.Text=p2) then ((idx p0.l p1).bind fun u2=>bif u2.Kind == 2 then (some true) else ((idx p0.l p1).bind fun u3=>some (u3.Kind == 4))) else (some false)) else (some false)

def V7 (p0:Z0) (p1:List UInt8):Option (Bool) :=
  (I7 p0 0 p1).bind fun y1=>some y1

def X3 (p0:Z0) (p1:List UInt8):Option (Bool×Z0) :=
  (V7 p0 p1).bind fun y1=>bif !y1 then (some (false,p0)) else ((sub p0.l 1 (List.length p0.l:Int)).bind fun u1=>some (true,{p0 with l:=u1}))

def W8 (p0:Z0) (p1:Int):Option (Except (Y0) (Unit)) :=
  (F3 p0).bind fun y1=>some (Except.error (⟨y1,p1⟩:Y0))

def Y9 (p0:Z0) (p1:List UInt8):Option (Except (Y0×Z0) (Z0)) :=
  (X3 p0 p1).bind fun y1=>bif !y1.1 then ((W8 y1.2 3).bind fun y2=>exC y2 (fun y2=>some (Except.ok y1.2)) (fun e1=>some (Except.error (e1,y1.2)))) else (some (Except.ok y1.2))

def C9 (p0:Z0) (p1:Int):Option (Except (Y0×Z0) (V0×Z0)) :=
  jn (fun kk1=>bif (List.length p0.l:Int) == 0 then ((W8 p0 3).bind fun y2=>exC y2 (fun y2=>kk1 ()) (fun e2=>some (Except.error (e2,p0)))) else ((idx p0.l 0).bind fun u1=>bif u1.Kind != p1 then ((W8 p0 3).bind fun y1=>exC y1 (fun y1=>kk1 ()) (fun e1=>some (Except.error (e1,p0)))) else (kk1 ()))) (fun(_:Unit)=>(idx p0.l 0).bind fun u4=>(sub p0.l 1 (List.length p0.l:Int)).bind fun u5=>some (Except.ok (u4,{p0 with l:=u5})))

def J8 (p0:Z0):Option (Except (Y0×Z0) ((List UInt8)×Z0)) :=
  (C9 p0 1).bind fun y1=>exC y1 (fun y1=>some (Except.ok (y1.1.Text,y1.2))) (fun e1=>some (Except.error (e1.1,e1.2)))

def Q1q (p0:Z0):Option (Bool) :=
  (V7 p0 ([105,110,116]:List UInt8)).bind fun y1=>bif y1 then (some true) else ((V7 p0 ([99,104,97,114]:List UInt8)).bind fun y2=>bif y2 then (some true) else ((V7 p0 ([118,111,105,100]:List UInt8)).bind fun y3=>bif y3 then (some true) else ((V7 p0 ([115,116,114,117,99,116]:List UInt8)).bind fun y4=>some y4)))

def G6 (p0:Z0):Option (Except (Y0×Z0) (B3×Z0)) :=
  jn (fun kk1=>(Q1q p0).bind fun y1=>bif !y1 then ((W8 p0 3).bind fun y2=>exC y2 (fun y2=>kk1 ()) (fun e1=>some (Except.error (e1,p0)))) else (kk1 ())) (fun(_:Unit)=>(idx p0.l 0).bind fun u2=>(sub p0.l 1 (List.length p0.l:Int)).bind fun u3=>jn (fun kk2=>bif decide (u2.Text=([115,116,114,117,99,116]:List UInt8)) then ((J8 ({p0 with l:=u3})).bind fun y3=>exC y3 (fun y3=>kk2 (⟨u2.Text,y3.1,0⟩:B3) y3.2) (fun e2=>some (Except.error (e2.1,e2.2)))) else (kk2 (⟨u2.Text,([]:List UInt8),0⟩:B3) ({p0 with l:=u3}))) (fun(x1:B3) (x2:Z0)=>(loopM (fun(x3,x4)=>((X3 x4 ([42]:List UInt8)).bind fun y4=>bif y4.1 then (some (Lp.go ({x3 with Stars:=IntKind.wrap .i64 (x3.Stars+1)},y4.2))) else (some (Lp.brk (x3,y4.2))):Option (Lp (B3×Z0) (Unit)))) NN (x1,x2)).bind fun o=>o.thn (fun(x3,x4)=>some (Except.ok (x3,x4))) (fun _=>none)))

def Q3a (p0:Z0):Option (Except (Y0×Z0) ((List Int)×Z0)) :=
  (loopM (fun(x1,x2)=>((X3 x2 ([91]:List UInt8)).bind fun y1=>bif y1.1 then ((C9 y1.2 3).bind fun y2=>exC y2 (fun y2=>(S0 (List.length x1+List.length ([y2.1.Num]:List Int))).bind fun _=>(Y9 y2.2 ([93]:List UInt8)).bind fun y3=>exC y3 (fun y3=>some (Lp.go (x1++([y2.1.Num]:List Int),y3))) (fun e1=>some (Lp.ret (Except.error (e1.1,e1.2))))) (fun e2=>some (Lp.ret (Except.error (e2.1,e2.2))))) else (some (Lp.brk (x1,y1.2))):Option (Lp ((List Int)×Z0) (Except (Y0×Z0) ((List Int)×Z0))))) NN ([],p0)).bind fun o=>o.thn (fun(x1,x2)=>some (Except.ok (x1,x2))) (fun r=>some r)

def Q3f (p0:Z0):Option (Except (Y0×Z0) ((List F2)×Z0)) :=
  (Y9 p0 ([123]:List UInt8)).bind fun y1=>exC y1 (fun y1=>(loopM (fun(x1,x2)=>((X3 x2 ([125]:List UInt8)).bind fun y2=>bif !y2.1 then ((F3 y2.2).bind fun y3=>(G6 y2.2).bind fun y4=>exC y4 (fun y4=>(J8 y4.2).bind fun y5=>exC y5 (fun y5=>(Q3a y5.2).bind fun y6=>exC y6 (fun y6=>(Y9 y6.2 ([59]:List UInt8)).bind fun y7=>exC y7 (fun y7=>(S0 (List.length x1+List.length ([(⟨y3,y4.1,y5.1,y6.1,[],false⟩:F2)]:List F2))).bind fun _=>some (Lp.go (x1++([(⟨y3,y4.1,y5.1,y6.1,[],false⟩:F2)]:List F2),y7))) (fun e1=>some (Lp.ret (Except.error (e1.1,e1.2))))) (fun e2=>some (Lp.ret (Except.error (e2.1,e2.2))))) (fun e3=>some (Lp.ret (Except.error (e3.1,e3.2))))) (fun e4=>some (Lp.ret (Except.error (e4.1,e4.2))))) else (some (Lp.brk (x1,y2.2))):Option (Lp ((List F2)×Z0) (Except (Y0×Z0) ((List F2)×Z0))))) NN ([],y1)).bind fun o=>o.thn (fun(x1,x2)=>(Y9 x2 ([59]:List UInt8)).bind fun y8=>exC y8 (fun y8=>some (Except.ok (x1,y8))) (fun e5=>some (Except.error (e5.1,e5.2)))) (fun r=>some r)) (fun e7=>some (Except.error (e7.1,e7.2)))

def N8 (p0:Z0):Option (Except (Y0×Z0) (Z0)) :=
  jn (fun kk1=>bif p0.depth == 200 then ((W8 p0 2).bind fun y1=>exC y1 (fun y1=>kk1 ()) (fun e1=>some (Except.error (e1,p0)))) else (kk1 ())) (fun(_:Unit)=>some (Except.ok ({p0 with depth:=IntKind.wrap .i64 (p0.depth+1)})))

def E7 (p0:Z0):Option ((List UInt8)) :=
  bif (List.length p0.l:Int) == 0 then (some ([]:List UInt8)) else ((idx p0.l 0).bind fun u1=>bif u1.Kind != 4 then (some ([]:List UInt8)) else ((idx p0.l 0).bind fun u2=>some u2.Text))

def K8 (p0:Z0) (p1:Int):Option (Z8×Z0) :=
  (F3 p0).bind fun y1=>(E7 p0).bind fun y2=>(sub p0.l 1 (List.length p0.l:Int)).bind fun u1=>some ((⟨p1,y1,y2,([]:List UInt8),0,(⟨([]:List UInt8),([]:List UInt8),0⟩:B3),[]⟩:Z8),{p0 with l:=u1})

def Z3e (p0:List UInt8):Option (Int) :=
  bif decide (p0=([124,124]:List UInt8)) then (some (1:Int)) else (bif decide (p0=([38,38]:List UInt8)) then (some (2:Int)) else (bif decide (p0=([124]:List UInt8)) then (some (3:Int)) else (bif decide (p0=([94]:List UInt8)) then (some (4:Int)) else (bif decide (p0=([38]:List UInt8)) then (some (5:Int)) else (jn (fun kk1=>bif decide (p0=([61,61]:List UInt8)) then (kk1 (decide (p0=([61,61]:List UInt8)))) else (kk1 (decide (p0=([33,61]:List UInt8))))) (fun(x1:Bool)=>bif x1 then (some (6:Int)) else (jn (fun kk2=>bif decide (p0=([60]:List UInt8)) then (kk2 (decide (p0=([60]:List UInt8)))) else (bif decide (p0=([62]:List UInt8)) then (kk2 (decide (p0=([62]:List UInt8)))) else (bif decide (p0=([60,61]:List UInt8)) then (kk2 (decide (p0=([60,61]:List UInt8)))) else (kk2 (decide (p0=([62,61]:List UInt8))))))) (fun(x2:Bool)=>bif x2 then (some (7:Int)) else (jn (fun kk3=>bif decide (p0=([60,60]:List UInt8)) then (kk3 (decide (p0=([60,60]:List UInt8)))) else (kk3 (decide (p0=([62,62]:List UInt8))))) (fun(x3:Bool)=>bif x3 then (some (8:Int)) else (jn (fun kk4=>bif decide (p0=([43]:List UInt8)) then (kk4 (decide (p0=([43]:List UInt8)))) else (kk4 (decide (p0=([45]:List UInt8))))) (fun(x4:Bool)=>bif x4 then (some (9:Int)) else (jn (fun kk5=>bif decide (p0=([42]:List UInt8)) then (kk5 (decide (p0=([42]:List UInt8)))) else (bif decide (p0=([47]:List UInt8)) then (kk5 (decide (p0=([47]:List UInt8)))) else (kk5 (decide (p0=([37]:List UInt8)))))) (fun(x5:Bool)=>bif x5 then (some (10:Int)) else (some (0:Int))))))))))))))))

def Q7o (p0:Z0):Option (Z0) :=
  some ({p0 with depth:=IntKind.wrap .i64 (p0.depth - 1)})

def Q8f (p0:List UInt8):Option (Bool) :=
  jn (fun kk1=>bif decide (p0=([61]:List UInt8)) then (kk1 (decide (p0=([61]:List UInt8)))) else (bif decide (p0=([43,61]:List UInt8)) then (kk1 (decide (p0=([43,61]:List UInt8)))) else (bif decide (p0=([45,61]:List UInt8)) then (kk1 (decide (p0=([45,61]:List UInt8)))) else (bif decide (p0=([42,61]:List UInt8)) then (kk1 (decide (p0=([42,61]:List UInt8)))) else (bif decide (p0=([47,61]:List UInt8)) then (kk1 (decide (p0=([47,61]:List UInt8)))) else (bif decide (p0=([37,61]:List UInt8)) then (kk1 (decide (p0=([37,61]:List UInt8)))) else (bif decide (p0=([38,61]:List UInt8)) then (kk1 (decide (p0=([38,61]:List UInt8)))) else (bif decide (p0=([124,61]:List UInt8)) then (kk1 (decide (p0=([124,61]:List UInt8)))) else (bif decide (p0=([94,61]:List UInt8)) then (kk1 (decide (p0=([94,61]:List UInt8)))) else (bif decide (p0=([60,60,61]:List UInt8)) then (kk1 (decide (p0=([60,60,61]:List UInt8)))) else (kk1 (decide (p0=([62,62,61]:List UInt8)))))))))))))) (fun(x1:Bool)=>bif x1 then (some true) else (some false))

structure Z7w where
  U9:Z0→Option (Except (Y0×Z0) ((List Z8)×Z0))
  E1:Z0→Option (Except (Y0×Z0) ((List Z8)×Z0))
  A2:Z0→Option (Except (Y0×Z0) (Z8×Z0))
  C8:Z0→Option (Except (Y0×Z0) (Z8×Z0))
  F5:Z0→Option (Except (Y0×Z0) (Z8×Z0))
  E2:Z0→Int→Option (Except (Y0×Z0) (Z8×Z0))
  B4:Z0→Option (Except (Y0×Z0) (Z8×Z0))
  X5:Z0→Option (Except (Y0×Z0) (Z8×Z0))

def W9 (G:Z7w) (p0:Z0):Option (Except (Y0×Z0) ((List Z8)×Z0)) :=
  (Y9 p0 ([40]:List UInt8)).bind fun y1=>exC y1 (fun y1=>(G.X5 y1).bind fun y2=>exC y2 (fun y2=>(Y9 y2.2 ([41]:List UInt8)).bind fun y3=>exC y3 (fun y3=>some (Except.ok (([y2.1]:List Z8),y3))) (fun e1=>some (Except.error (e1.1,e1.2)))) (fun e2=>some (Except.error (e2.1,e2.2)))) (fun e3=>some (Except.error (e3.1,e3.2)))
def Q1k (G:Z7w) (p0:Z0):Option (Except (Y0×Z0) ((List Z8)×Z0)) :=
  (Y9 p0 ([40]:List UInt8)).bind fun y1=>exC y1 (fun y1=>(X3 y1 ([41]:List UInt8)).bind fun y2=>bif y2.1 then (some (Except.ok ([],y2.2))) else ((G.X5 y2.2).bind fun y3=>exC y3 (fun y3=>(loopM (fun(x1,x2)=>((X3 x2 ([44]:List UInt8)).bind fun y4=>bif y4.1 then ((G.X5 y4.2).bind fun y5=>exC y5 (fun y5=>(S0 (List.length x1+List.length ([y5.1]:List Z8))).bind fun _=>some (Lp.go (x1++([y5.1]:List Z8),y5.2))) (fun e1=>some (Lp.ret (Except.error (e1.1,e1.2))))) else (some (Lp.brk (x1,y4.2))):Option (Lp ((List Z8)×Z0) (Except (Y0×Z0) ((List Z8)×Z0))))) NN (([y3.1]:List Z8),y3.2)).bind fun o=>o.thn (fun(x1,x2)=>(Y9 x2 ([41]:List UInt8)).bind fun y6=>exC y6 (fun y6=>some (Except.ok (x1,y6))) (fun e2=>some (Except.error (e2.1,e2.2)))) (fun r=>some r)) (fun e4=>some (Except.error (e4.1,e4.2))))) (fun e5=>some (Except.error (e5.1,e5.2)))
def Q2l (G:Z7w) (p0:Z0):Option (Except (Y0×Z0) (Z8×Z0)) :=
  (F3 p0).bind fun y1=>jn (fun kk1=>(X3 p0 ([40]:List UInt8)).bind fun y2=>bif y2.1 then ((G.X5 y2.2).bind fun y3=>exC y3 (fun y3=>(Y9 y3.2 ([41]:List UInt8)).bind fun y4=>exC y4 (fun y4=>kk1 y3.1 y4) (fun e1=>some (Except.error (e1.1,e1.2)))) (fun e2=>some (Except.error (e2.1,e2.2)))) else ((X3 y2.2 ([105,110]:List UInt8)).bind fun y5=>bif y5.1 then ((Y9 y5.2 ([40]:List UInt8)).bind fun y6=>exC y6 (fun y6=>(Y9 y6 ([41]:List UInt8)).bind fun y7=>exC y7 (fun y7=>kk1 (⟨7,y1,([]:List UInt8),([105,110]:List UInt8),0,(⟨([]:List UInt8),([]:List UInt8),0⟩:B3),[]⟩:Z8) y7) (fun e3=>some (Except.error (e3.1,e3.2)))) (fun e4=>some (Except.error (e4.1,e4.2)))) else ((X3 y5.2 ([111,117,116]:List UInt8)).bind fun y8=>bif y8.1 then ((G.U9 y8.2).bind fun y9=>exC y9 (fun y9=>kk1 (⟨7,y1,([]:List UInt8),([111,117,116]:List UInt8),0,(⟨([]:List UInt8),([]:List UInt8),0⟩:B3),y9.1⟩:Z8) y9.2) (fun e5=>some (Except.error (e5.1,e5.2)))) else (bif decide (0 < (List.length y8.2.l:Int)) then ((idx y8.2.l 0).bind fun u6=>bif u6.Kind == 3 then ((C9 y8.2 3).bind fun y10=>exC y10 (fun y10=>kk1 (⟨1,y1,([]:List UInt8),([]:List UInt8),y10.1.Num,(⟨([]:List UInt8),([]:List UInt8),0⟩:B3),[]⟩:Z8) y10.2) (fun e6=>some (Except.error (e6.1,e6.2)))) else ((J8 y8.2).bind fun y11=>exC y11 (fun y11=>(V7 y11.2 ([40]:List UInt8)).bind fun y12=>bif y12 then ((G.E1 y11.2).bind fun y13=>exC y13 (fun y13=>kk1 (⟨7,y1,([]:List UInt8),y11.1,0,(⟨([]:List UInt8),([]:List UInt8),0⟩:B3),y13.1⟩:Z8) y13.2) (fun e7=>some (Except.error (e7.1,e7.2)))) else (kk1 (⟨2,y1,([]:List UInt8),y11.1,0,(⟨([]:List UInt8),([]:List UInt8),0⟩:B3),[]⟩:Z8) y11.2)) (fun e8=>some (Except.error (e8.1,e8.2))))) else ((J8 y8.2).bind fun y14=>exC y14 (fun y14=>(V7 y14.2 ([40]:List UInt8)).bind fun y15=>bif y15 then ((G.E1 y14.2).bind fun y16=>exC y16 (fun y16=>kk1 (⟨7,y1,([]:List UInt8),y14.1,0,(⟨([]:List UInt8),([]:List UInt8),0⟩:B3),y16.1⟩:Z8) y16.2) (fun e9=>some (Except.error (e9.1,e9.2)))) else (kk1 (⟨2,y1,([]:List UInt8),y14.1,0,(⟨([]:List UInt8),([]:List UInt8),0⟩:B3),[]⟩:Z8) y14.2)) (fun e10=>some (Except.error (e10.1,e10.2)))))))) (fun(x1:Z8) (x2:Z0)=>some (Except.ok (x1,x2)))
def Q3e (G:Z7w) (p0:Z0):Option (Except (Y0×Z0) (Z8×Z0)) :=
  (G.A2 p0).bind fun y1=>exC y1 (fun y1=>(loopM (fun(x1,x2)=>(jn (fun kk1=>(E7 x2).bind fun y2=>bif decide (y2=([91]:List UInt8)) then ((K8 x2 8).bind fun y3=>(G.X5 y3.2).bind fun y4=>exC y4 (fun y4=>(Y9 y4.2 ([93]:List UInt8)).bind fun y5=>exC y5 (fun y5=>kk1 ({y3.1 with Op:=([]:List UInt8),Kids:=([x1,y4.1]:List Z8)}) y5) (fun e1=>some (Lp.ret (Except.error (e1.1,e1.2))))) (fun e2=>some (Lp.ret (Except.error (e2.1,e2.2))))) else (jn (fun kk2=>bif decide (y2=([46]:List UInt8)) then (kk2 (decide (y2=([46]:List UInt8)))) else (kk2 (decide (y2=([45,62]:List UInt8))))) (fun(x6:Bool)=>bif x6 then ((K8 x2 9).bind fun y6=>(J8 y6.2).bind fun y7=>exC y7 (fun y7=>kk1 ({y6.1 with Name:=y7.1,Kids:=([x1]:List Z8)}) y7.2) (fun e3=>some (Lp.ret (Except.error (e3.1,e3.2))))) else (jn (fun kk3=>bif decide (y2=([43,43]:List UInt8)) then (kk3 (decide (y2=([43,43]:List UInt8)))) else (kk3 (decide (y2=([45,45]:List UInt8))))) (fun(x7:Bool)=>bif x7 then ((K8 x2 11).bind fun y8=>kk1 ({y8.1 with Kids:=([x1]:List Z8)}) y8.2) else (some (Lp.ret (Except.ok (x1,x2))))))))) (fun(x4:Z8) (x5:Z0)=>some (Lp.go (x4,x5))):Option (Lp (Z8×Z0) (Except (Y0×Z0) (Z8×Z0))))) NN (y1.1,y1.2)).bind fun o=>o.thn (fun(x1,x2)=>none) (fun r=>some r)) (fun e4=>some (Except.error (e4.1,e4.2)))
def Q2k (G:Z7w) (p0:Z0):Option (Except (Y0×Z0) (Z8×Z0)) :=
  (N8 p0).bind fun y1=>exC y1 (fun y1=>(E7 y1).bind fun y2=>jn (fun kk1=>bif decide (y2=([45]:List UInt8)) then (kk1 (decide (y2=([45]:List UInt8)))) else (bif decide (y2=([126]:List UInt8)) then (kk1 (decide (y2=([126]:List UInt8)))) else (bif decide (y2=([33]:List UInt8)) then (kk1 (decide (y2=([33]:List UInt8)))) else (bif decide (y2=([42]:List UInt8)) then (kk1 (decide (y2=([42]:List UInt8)))) else (kk1 (decide (y2=([38]:List UInt8)))))))) (fun(x1:Bool)=>bif x1 then ((K8 y1 3).bind fun y3=>(G.F5 y3.2).bind fun y4=>exC y4 (fun y4=>some (Except.ok ({y3.1 with Kids:=([y4.1]:List Z8)},{y4.2 with depth:=IntKind.wrap .i64 (y4.2.depth - 1)}))) (fun e1=>some (Except.error (e1.1,{e1.2 with depth:=IntKind.wrap .i64 (e1.2.depth - 1)})))) else (jn (fun kk2=>bif decide (y2=([43,43]:List UInt8)) then (kk2 (decide (y2=([43,43]:List UInt8)))) else (kk2 (decide (y2=([45,45]:List UInt8))))) (fun(x2:Bool)=>bif x2 then ((K8 y1 10).bind fun y5=>(G.F5 y5.2).bind fun y6=>exC y6 (fun y6=>some (Except.ok ({y5.1 with Kids:=([y6.1]:List Z8)},{y6.2 with depth:=IntKind.wrap .i64 (y6.2.depth - 1)}))) (fun e2=>some (Except.error (e2.1,{e2.2 with depth:=IntKind.wrap .i64 (e2.2.depth - 1)})))) else ((F3 y1).bind fun y7=>(X3 y1 ([115,105,122,101,111,102]:List UInt8)).bind fun y8=>bif y8.1 then ((Y9 y8.2 ([40]:List UInt8)).bind fun y9=>exC y9 (fun y9=>(G6 y9).bind fun y10=>exC y10 (fun y10=>(Y9 y10.2 ([41]:List UInt8)).bind fun y11=>exC y11 (fun y11=>some (Except.ok ((⟨12,y7,([]:List UInt8),([]:List UInt8),0,y10.1,[]⟩:Z8),{y11 with depth:=IntKind.wrap .i64 (y11.depth - 1)}))) (fun e4=>some (Except.error (e4.1,{e4.2 with depth:=IntKind.wrap .i64 (e4.2.depth - 1)})))) (fun e3=>some (Except.error (e3.1,{e3.2 with depth:=IntKind.wrap .i64 (e3.2.depth - 1)})))) (fun e5=>some (Except.error (e5.1,{e5.2 with depth:=IntKind.wrap .i64 (e5.2.depth - 1)})))) else ((G.C8 y8.2).bind fun y12=>exC y12 (fun y12=>some (Except.ok (y12.1,{y12.2 with depth:=IntKind.wrap .i64 (y12.2.depth - 1)}))) (fun e6=>some (Except.error (e6.1,{e6.2 with depth:=IntKind.wrap .i64 (e6.2.depth - 1)}))))))))) (fun e7=>some (Except.error (e7.1,e7.2)))
def Q1l (G:Z7w) (p0:Z0) (p1:Int):Option (Except (Y0×Z0) (Z8×Z0)) :=
  (G.F5 p0).bind fun y1=>exC y1 (fun y1=>(loopM (fun(x1,x2)=>((E7 x2).bind fun y2=>(Z3e y2).bind fun y3=>bif decide (y3 < p1) then (some (Lp.ret (Except.ok (x1,x2)))) else (bif y3 == 0 then (some (Lp.ret (Except.ok (x1,x2)))) else ((K8 x2 4).bind fun y4=>(G.E2 y4.2 (IntKind.wrap .i64 (y3+1))).bind fun y5=>exC y5 (fun y5=>some (Lp.go ({y4.1 with Kids:=([x1,y5.1]:List Z8)},y5.2))) (fun e1=>some (Lp.ret (Except.error (e1.1,e1.2)))))):Option (Lp (Z8×Z0) (Except (Y0×Z0) (Z8×Z0))))) NN (y1.1,y1.2)).bind fun o=>o.thn (fun(x1,x2)=>none) (fun r=>some r)) (fun e2=>some (Except.error (e2.1,e2.2)))
def Q3g (G:Z7w) (p0:Z0):Option (Except (Y0×Z0) (Z8×Z0)) :=
  (G.E2 p0 1).bind fun y1=>exC y1 (fun y1=>(E7 y1.2).bind fun y2=>bif !(decide (y2=([63]:List UInt8))) then (some (Except.ok (y1.1,y1.2))) else ((K8 y1.2 6).bind fun y3=>(G.X5 y3.2).bind fun y4=>exC y4 (fun y4=>(Y9 y4.2 ([58]:List UInt8)).bind fun y5=>exC y5 (fun y5=>(N8 y5).bind fun y6=>exC y6 (fun y6=>(G.B4 y6).bind fun y7=>exC y7 (fun y7=>(Q7o y7.2).bind fun y8=>some (Except.ok ({y3.1 with Op:=([]:List UInt8),Kids:=([y1.1,y4.1,y7.1]:List Z8)},y8))) (fun e1=>some (Except.error (e1.1,e1.2)))) (fun e2=>some (Except.error (e2.1,e2.2)))) (fun e3=>some (Except.error (e3.1,e3.2)))) (fun e4=>some (Except.error (e4.1,e4.2))))) (fun e5=>some (Except.error (e5.1,e5.2)))
def Q1m (G:Z7w) (p0:Z0):Option (Except (Y0×Z0) (Z8×Z0)) :=
  (N8 p0).bind fun y1=>exC y1 (fun y1=>(G.B4 y1).bind fun y2=>exC y2 (fun y2=>(E7 y2.2).bind fun y3=>(Q8f y3).bind fun y4=>bif !y4 then (some (Except.ok (y2.1,{y2.2 with depth:=IntKind.wrap .i64 (y2.2.depth - 1)}))) else ((K8 y2.2 5).bind fun y5=>(G.X5 y5.2).bind fun y6=>exC y6 (fun y6=>some (Except.ok ({y5.1 with Kids:=([y2.1,y6.1]:List Z8)},{y6.2 with depth:=IntKind.wrap .i64 (y6.2.depth - 1)}))) (fun e1=>some (Except.error (e1.1,{e1.2 with depth:=IntKind.wrap .i64 (e1.2.depth - 1)}))))) (fun e2=>some (Except.error (e2.1,{e2.2 with depth:=IntKind.wrap .i64 (e2.2.depth - 1)})))) (fun e3=>some (Except.error (e3.1,e3.2)))
def Q4s:Nat→Z7w
  | 0=>⟨fun _=>none,fun _=>none,fun _=>none,fun _=>none,fun _=>none,fun _ _=>none,fun _=>none,fun _=>none⟩
  | n+1=>⟨W9 (Q4s n),Q1k (Q4s n),Q2l (Q4s n),Q3e (Q4s n),Q2k (Q4s n),Q1l (Q4s n),Q3g (Q4s n),Q1m (Q4s n)⟩
def U9 (p0:Z0):Option (Except (Y0×Z0) ((List Z8)×Z0)):=(Q4s NN).U9 p0
def E1 (p0:Z0):Option (Except (Y0×Z0) ((List Z8)×Z0)):=(Q4s NN).E1 p0
def A2 (p0:Z0):Option (Except (Y0×Z0) (Z8×Z0)):=(Q4s NN).A2 p0
def C8 (p0:Z0):Option (Except (Y0×Z0) (Z8×Z0)):=(Q4s NN).C8 p0
def F5 (p0:Z0):Option (Except (Y0×Z0) (Z8×Z0)):=(Q4s NN).F5 p0
def E2 (p0:Z0) (p1:Int):Option (Except (Y0×Z0) (Z8×Z0)):=(Q4s NN).E2 p0 p1
def B4 (p0:Z0):Option (Except (Y0×Z0) (Z8×Z0)):=(Q4s NN).B4 p0
def X5 (p0:Z0):Option (Except (Y0×Z0) (Z8×Z0)):=(Q4s NN).X5 p0

def O1 (p0:Z0) (p1:F2):Option (Except (Y0×Z0) (F2×Z0)) :=
  (Q3a p0).bind fun y1=>exC y1 (fun y1=>jn (fun kk1=>(X3 y1.2 ([61]:List UInt8)).bind fun y2=>bif y2.1 then ((X3 y2.2 ([123]:List UInt8)).bind fun y3=>(X5 y3.2).bind fun y4=>exC y4 (fun y4=>(S0 (List.length ([]:List Z8)+List.length ([y4.1]:List Z8))).bind fun _=>(loopM (fun(x7,x8)=>(bif x7.Brace then ((X3 x8 ([44]:List UInt8)).bind fun y5=>bif y5.1 then ((X5 y5.2).bind fun y6=>exC y6 (fun y6=>(S0 (List.length x7.Init+List.length ([y6.1]:List Z8))).bind fun _=>some (Lp.go ({x7 with Init:=x7.Init++([y6.1]:List Z8)},y6.2))) (fun e1=>some (Lp.ret (Except.error (e1.1,e1.2))))) else (some (Lp.brk (x7,y5.2)))) else (some (Lp.brk (x7,x8))):Option (Lp (F2×Z0) (Except (Y0×Z0) (F2×Z0))))) NN ({p1 with Dims:=y1.1,Init:=([]:List Z8)++([y4.1]:List Z8),Brace:=y3.1},y4.2)).bind fun o=>o.thn (fun(x7,x8)=>bif x7.Brace then ((Y9 x8 ([125]:List UInt8)).bind fun y7=>exC y7 (fun y7=>kk1 x7 y7) (fun e2=>some (Except.error (e2.1,e2.2)))) else (kk1 x7 x8)) (fun r=>some r)) (fun e5=>some (Except.error (e5.1,e5.2)))) else (kk1 ({p1 with Dims:=y1.1,Init := []}) y2.2)) (fun(x3:F2) (x4:Z0)=>(Y9 x4 ([59]:List UInt8)).bind fun y10=>exC y10 (fun y10=>some (Except.ok (x3,y10))) (fun e6=>some (Except.error (e6.1,e6.2))))) (fun e7=>some (Except.error (e7.1,e7.2)))

def W5 (p0:Z0):Option (Except (Y0×Z0) ((List F2)×Z0)) :=
  (Y9 p0 ([40]:List UInt8)).bind fun y1=>exC y1 (fun y1=>jn (fun kk1=>(V7 y1 ([118,111,105,100]:List UInt8)).bind fun y2=>bif y2 then ((I7 y1 1 ([41]:List UInt8)).bind fun y3=>bif y3 then ((Y9 y1 ([118,111,105,100]:List UInt8)).bind fun y4=>exC y4 (fun y4=>kk1 y4) (fun e1=>some (Except.error (e1.1,e1.2)))) else (kk1 y1)) else (kk1 y1)) (fun(x1:Z0)=>(X3 x1 ([41]:List UInt8)).bind fun y5=>bif y5.1 then (some (Except.ok ([],y5.2))) else ((loopM (fun(x2,x3)=>((F3 x3).bind fun y6=>(G6 x3).bind fun y7=>exC y7 (fun y7=>(J8 y7.2).bind fun y8=>exC y8 (fun y8=>(S0 (List.length x2+List.length ([(⟨y6,y7.1,y8.1,[],[],false⟩:F2)]:List F2))).bind fun _=>(X3 y8.2 ([44]:List UInt8)).bind fun y9=>bif !y9.1 then ((Y9 y9.2 ([41]:List UInt8)).bind fun y10=>exC y10 (fun y10=>some (Lp.ret (Except.ok (x2++([(⟨y6,y7.1,y8.1,[],[],false⟩:F2)]:List F2),y10)))) (fun e2=>some (Lp.ret (Except.error (e2.1,e2.2))))) else (some (Lp.go (x2++([(⟨y6,y7.1,y8.1,[],[],false⟩:F2)]:List F2),y9.2)))) (fun e3=>some (Lp.ret (Except.error (e3.1,e3.2))))) (fun e4=>some (Lp.ret (Except.error (e4.1,e4.2)))):Option (Lp ((List F2)×Z0) (Except (Y0×Z0) ((List F2)×Z0))))) NN ([],y5.2)).bind fun o=>o.thn (fun(x2,x3)=>none) (fun r=>some r)))) (fun e5=>some (Except.error (e5.1,e5.2)))

def Q1j (p0:Z0):Option (Except (Y0×Z0) (F2×Z0)) :=
  (F3 p0).bind fun y1=>(G6 p0).bind fun y2=>exC y2 (fun y2=>(J8 y2.2).bind fun y3=>exC y3 (fun y3=>(O1 y3.2 (⟨y1,y2.1,y3.1,[],[],false⟩:F2)).bind fun y4=>exC y4 (fun y4=>some (Except.ok (y4.1,y4.2))) (fun e1=>some (Except.error (e1.1,e1.2)))) (fun e2=>some (Except.error (e2.1,e2.2)))) (fun e3=>some (Except.error (e3.1,e3.2)))

def L1 (p0:Z0) (p1:List UInt8):Option (Except (Y0×Z0) ((List Z8)×Z0)) :=
  (X3 p0 p1).bind fun y1=>bif y1.1 then (some (Except.ok ([],y1.2))) else ((X5 y1.2).bind fun y2=>exC y2 (fun y2=>(Y9 y2.2 p1).bind fun y3=>exC y3 (fun y3=>some (Except.ok (([y2.1]:List Z8),y3))) (fun e1=>some (Except.error (e1.1,e1.2)))) (fun e2=>some (Except.error (e2.1,e2.2))))

def Q4k (p0:Z0) (p1:U0):Option (Except (Y0×Z0×U0) (Z0×U0)) :=
  (X3 p0 ([114,101,116,117,114,110]:List UInt8)).bind fun y1=>bif y1.1 then ((L1 y1.2 ([59]:List UInt8)).bind fun y2=>exC y2 (fun y2=>some (Except.ok (y2.2,{p1 with Kind:=8,A:=y2.1}))) (fun e1=>some (Except.error (e1.1,e1.2,p1)))) else ((X3 y1.2 ([98,114,101,97,107]:List UInt8)).bind fun y3=>bif y3.1 then ((Y9 y3.2 ([59]:List UInt8)).bind fun y4=>exC y4 (fun y4=>some (Except.ok (y4,{p1 with Kind:=9}))) (fun e2=>some (Except.error (e2.1,e2.2,{p1 with Kind:=9})))) else ((X3 y3.2 ([99,111,110,116,105,110,117,101]:List UInt8)).bind fun y5=>bif y5.1 then ((Y9 y5.2 ([59]:List UInt8)).bind fun y6=>exC y6 (fun y6=>some (Except.ok (y6,{p1 with Kind:=10}))) (fun e3=>some (Except.error (e3.1,e3.2,{p1 with Kind:=10})))) else ((X5 y5.2).bind fun y7=>exC y7 (fun y7=>(Y9 y7.2 ([59]:List UInt8)).bind fun y8=>exC y8 (fun y8=>some (Except.ok (y8,{p1 with Kind:=1,A:=([y7.1]:List Z8)}))) (fun e4=>some (Except.error (e4.1,e4.2,{p1 with Kind:=1,A:=([y7.1]:List Z8)})))) (fun e5=>some (Except.error (e5.1,e5.2,p1))))))

structure Rec2 where
  J9:Z0→Option (Except (Y0×Z0) ((List U0)×Z0))
  A3:Z0→Option (Except (Y0×Z0) ((List E8)×Z0))
  G7:Z0→Option (Except (Y0×Z0) (U0×Z0))
  E0:Z0→Option (Except (Y0×Z0) ((List U0)×Z0))

def Q3h (G:Rec2) (p0:Z0):Option (Except (Y0×Z0) ((List U0)×Z0)) :=
  (G.G7 p0).bind fun y1=>exC y1 (fun y1=>bif y1.1.Kind == 11 then (some (Except.ok (y1.1.Body,y1.2))) else (some (Except.ok (([y1.1]:List U0),y1.2)))) (fun e1=>some (Except.error (e1.1,e1.2)))
def Q2m (G:Rec2) (p0:Z0):Option (Except (Y0×Z0) ((List E8)×Z0)) :=
  (Y9 p0 ([123]:List UInt8)).bind fun y1=>exC y1 (fun y1=>(loopM (fun(x1,x2)=>((X3 x2 ([125]:List UInt8)).bind fun y2=>bif !y2.1 then ((F3 y2.2).bind fun y3=>jn (fun kk1=>(X3 y2.2 ([100,101,102,97,117,108,116]:List UInt8)).bind fun y4=>bif y4.1 then (kk1 (⟨y3,true,0,[]⟩:E8) y4.2) else ((Y9 y4.2 ([99,97,115,101]:List UInt8)).bind fun y5=>exC y5 (fun y5=>(X3 y5 ([45]:List UInt8)).bind fun y6=>(C9 y6.2 3).bind fun y7=>exC y7 (fun y7=>bif y6.1 then (kk1 (⟨y3,false,IntKind.wrap .u32 (0 - y7.1.Num),[]⟩:E8) y7.2) else (kk1 (⟨y3,false,y7.1.Num,[]⟩:E8) y7.2)) (fun e1=>some (Lp.ret (Except.error (e1.1,e1.2))))) (fun e2=>some (Lp.ret (Except.error (e2.1,e2.2)))))) (fun(x4:E8) (x5:Z0)=>(Y9 x5 ([58]:List UInt8)).bind fun y8=>exC y8 (fun y8=>(loopM (fun(x7,x8)=>((V7 x8 ([99,97,115,101]:List UInt8)).bind fun y9=>bif !y9 then ((V7 x8 ([100,101,102,97,117,108,116]:List UInt8)).bind fun y10=>bif !y10 then ((V7 x8 ([125]:List UInt8)).bind fun y11=>bif !y11 then ((G.G7 x8).bind fun y12=>exC y12 (fun y12=>(S0 (List.length x7.Body+List.length ([y12.1]:List U0))).bind fun _=>some (Lp.go ({x7 with Body:=x7.Body++([y12.1]:List U0)},y12.2))) (fun e3=>some (Lp.ret (Except.error (e3.1,e3.2))))) else (some (Lp.brk (x7,x8)))) else (some (Lp.brk (x7,x8)))) else (some (Lp.brk (x7,x8))):Option (Lp (E8×Z0) (Except (Y0×Z0) ((List E8)×Z0))))) NN (x4,y8)).bind fun o=>o.thn (fun(x7,x8)=>(S0 (List.length x1+List.length ([x7]:List E8))).bind fun _=>some (Lp.go (x1++([x7]:List E8),x8))) (fun r=>some (Lp.ret r))) (fun e4=>some (Lp.ret (Except.error (e4.1,e4.2)))))) else (some (Lp.brk (x1,y2.2))):Option (Lp ((List E8)×Z0) (Except (Y0×Z0) ((List E8)×Z0))))) NN ([],y1)).bind fun o=>o.thn (fun(x1,x2)=>some (Except.ok (x1,x2))) (fun r=>some r)) (fun e5=>some (Except.error (e5.1,e5.2)))
def Q3d (G:Rec2) (p0:Z0):Option (Except (Y0×Z0) (U0×Z0)) :=
  (N8 p0).bind fun y1=>exC y1 (fun y1=>(F3 y1).bind fun y2=>jn (fun kk1=>(Q1q y1).bind fun y3=>bif y3 then ((Q1j y1).bind fun y4=>exC y4 (fun y4=>kk1 (⟨2,y2,[],[],[],([y4.1]:List F2),[],[],[]⟩:U0) y4.2) (fun e1=>some (Except.error (e1.1,{e1.2 with depth:=IntKind.wrap .i64 (e1.2.depth - 1)})))) else ((V7 y1 ([123]:List UInt8)).bind fun y5=>bif y5 then ((G.E0 y1).bind fun y6=>exC y6 (fun y6=>kk1 (⟨11,y2,[],[],[],[],y6.1,[],[]⟩:U0) y6.2) (fun e2=>some (Except.error (e2.1,{e2.2 with depth:=IntKind.wrap .i64 (e2.2.depth - 1)})))) else ((X3 y1 ([59]:List UInt8)).bind fun y7=>bif y7.1 then (kk1 (⟨12,y2,[],[],[],[],[],[],[]⟩:U0) y7.2) else ((X3 y7.2 ([105,102]:List UInt8)).bind fun y8=>bif y8.1 then ((U9 y8.2).bind fun y9=>exC y9 (fun y9=>(G.J9 y9.2).bind fun y10=>exC y10 (fun y10=>(X3 y10.2 ([101,108,115,101]:List UInt8)).bind fun y11=>bif y11.1 then ((G.J9 y11.2).bind fun y12=>exC y12 (fun y12=>kk1 (⟨3,y2,y9.1,[],[],[],y10.1,y12.1,[]⟩:U0) y12.2) (fun e3=>some (Except.error (e3.1,{e3.2 with depth:=IntKind.wrap .i64 (e3.2.depth - 1)})))) else (kk1 (⟨3,y2,y9.1,[],[],[],y10.1,[],[]⟩:U0) y11.2)) (fun e4=>some (Except.error (e4.1,{e4.2 with depth:=IntKind.wrap .i64 (e4.2.depth - 1)})))) (fun e5=>some (Except.error (e5.1,{e5.2 with depth:=IntKind.wrap .i64 (e5.2.depth - 1)})))) else ((X3 y8.2 ([119,104,105,108,101]:List UInt8)).bind fun y13=>bif y13.1 then ((U9 y13.2).bind fun y14=>exC y14 (fun y14=>(G.J9 y14.2).bind fun y15=>exC y15 (fun y15=>kk1 (⟨4,y2,y14.1,[],[],[],y15.1,[],[]⟩:U0) y15.2) (fun e6=>some (Except.error (e6.1,{e6.2 with depth:=IntKind.wrap .i64 (e6.2.depth - 1)})))) (fun e7=>some (Except.error (e7.1,{e7.2 with depth:=IntKind.wrap .i64 (e7.2.depth - 1)})))) else ((X3 y13.2 ([100,111]:List UInt8)).bind fun y16=>bif y16.1 then ((G.J9 y16.2).bind fun y17=>exC y17 (fun y17=>(Y9 y17.2 ([119,104,105,108,101]:List UInt8)).bind fun y18=>exC y18 (fun y18=>(U9 y18).bind fun y19=>exC y19 (fun y19=>(Y9 y19.2 ([59]:List UInt8)).bind fun y20=>exC y20 (fun y20=>kk1 (⟨5,y2,y19.1,[],[],[],y17.1,[],[]⟩:U0) y20) (fun e8=>some (Except.error (e8.1,{e8.2 with depth:=IntKind.wrap .i64 (e8.2.depth - 1)})))) (fun e9=>some (Except.error (e9.1,{e9.2 with depth:=IntKind.wrap .i64 (e9.2.depth - 1)})))) (fun e10=>some (Except.error (e10.1,{e10.2 with depth:=IntKind.wrap .i64 (e10.2.depth - 1)})))) (fun e11=>some (Except.error (e11.1,{e11.2 with depth:=IntKind.wrap .i64 (e11.2.depth - 1)})))) else ((X3 y16.2 ([102,111,114]:List UInt8)).bind fun y21=>bif y21.1 then ((Y9 y21.2 ([40]:List UInt8)).bind fun y22=>exC y22 (fun y22=>(L1 y22 ([59]:List UInt8)).bind fun y23=>exC y23 (fun y23=>(L1 y23.2 ([59]:List UInt8)).bind fun y24=>exC y24 (fun y24=>(L1 y24.2 ([41]:List UInt8)).bind fun y25=>exC y25 (fun y25=>(G.J9 y25.2).bind fun y26=>exC y26 (fun y26=>kk1 (⟨6,y2,y23.1,y24.1,y25.1,[],y26.1,[],[]⟩:U0) y26.2) (fun e12=>some (Except.error (e12.1,{e12.2 with depth:=IntKind.wrap .i64 (e12.2.depth - 1)})))) (fun e13=>some (Except.error (e13.1,{e13.2 with depth:=IntKind.wrap .i64 (e13.2.depth - 1)})))) (fun e14=>some (Except.error (e14.1,{e14.2 with depth:=IntKind.wrap .i64 (e14.2.depth - 1)})))) (fun e15=>some (Except.error (e15.1,{e15.2 with depth:=IntKind.wrap .i64 (e15.2.depth - 1)})))) (fun e16=>some (Except.error (e16.1,{e16.2 with depth:=IntKind.wrap .i64 (e16.2.depth - 1)})))) else ((X3 y21.2 ([115,119,105,116,99,104]:List UInt8)).bind fun y27=>bif y27.1 then ((U9 y27.2).bind fun y28=>exC y28 (fun y28=>(G.A3 y28.2).bind fun y29=>exC y29 (fun y29=>kk1 (⟨7,y2,y28.1,[],[],[],[],[],y29.1⟩:U0) y29.2) (fun e17=>some (Except.error (e17.1,{e17.2 with depth:=IntKind.wrap .i64 (e17.2.depth - 1)})))) (fun e18=>some (Except.error (e18.1,{e18.2 with depth:=IntKind.wrap .i64 (e18.2.depth - 1)})))) else ((Q4k y27.2 (⟨0,y2,[],[],[],[],[],[],[]⟩:U0)).bind fun y30=>exC y30 (fun y30=>kk1 y30.2 y30.1) (fun e19=>some (Except.error (e19.1,{e19.2.1 with depth:=IntKind.wrap .i64 (e19.2.1.depth - 1)})))))))))))) (fun(x1:U0) (x2:Z0)=>some (Except.ok (x1,{x2 with depth:=IntKind.wrap .i64 (x2.depth - 1)})))) (fun e20=>some (Except.error (e20.1,e20.2)))
def Q2n (G:Rec2) (p0:Z0):Option (Except (Y0×Z0) ((List U0)×Z0)) :=
  (Y9 p0 ([123]:List UInt8)).bind fun y1=>exC y1 (fun y1=>(loopM (fun(x1,x2)=>((X3 x2 ([125]:List UInt8)).bind fun y2=>bif !y2.1 then ((G.G7 y2.2).bind fun y3=>exC y3 (fun y3=>(S0 (List.length x1+List.length ([y3.1]:List U0))).bind fun _=>some (Lp.go (x1++([y3.1]:List U0),y3.2))) (fun e1=>some (Lp.ret (Except.error (e1.1,e1.2))))) else (some (Lp.brk (x1,y2.2))):Option (Lp ((List U0)×Z0) (Except (Y0×Z0) ((List U0)×Z0))))) NN ([],y1)).bind fun o=>o.thn (fun(x1,x2)=>some (Except.ok (x1,x2))) (fun r=>some r)) (fun e2=>some (Except.error (e2.1,e2.2)))
def Z3v:Nat→Rec2
  | 0=>⟨fun _=>none,fun _=>none,fun _=>none,fun _=>none⟩
  | n+1=>⟨Q3h (Z3v n),Q2m (Z3v n),Q3d (Z3v n),Q2n (Z3v n)⟩
def J9 (p0:Z0):Option (Except (Y0×Z0) ((List U0)×Z0)):=(Z3v NN).J9 p0
def A3 (p0:Z0):Option (Except (Y0×Z0) ((List E8)×Z0)):=(Z3v NN).A3 p0
def G7 (p0:Z0):Option (Except (Y0×Z0) (U0×Z0)):=(Z3v NN).G7 p0
def E0 (p0:Z0):Option (Except (Y0×Z0) ((List U0)×Z0)):=(Z3v NN).E0 p0

def Q1r (p0:Z0) (p1:J2):Option (Except (Y0×Z0×J2) (Z0×J2)) :=
  (F3 p0).bind fun y1=>(V7 p0 ([115,116,114,117,99,116]:List UInt8)).bind fun y2=>bif y2 then ((I7 p0 2 ([123]:List UInt8)).bind fun y3=>bif y3 then ((Y9 p0 ([115,116,114,117,99,116]:List UInt8)).bind fun y4=>exC y4 (fun y4=>jn (fun kk1=>(J8 y4).bind fun y5=>exC y5 (fun y5=>kk1 y5.2 (⟨y1,y5.1,[]⟩:D4)) (fun e1=>some (Except.error (e1.1,e1.2,p1)))) (fun(x1:Z0) (x2:D4)=>(Q3f x1).bind fun y6=>exC y6 (fun y6=>(S0 (List.length p1.Structs+List.length ([{x2 with Fields:=y6.1}]:List D4))).bind fun _=>some (Except.ok (y6.2,{p1 with Structs:=p1.Structs++([{x2 with Fields:=y6.1}]:List D4)}))) (fun e2=>some (Except.error (e2.1,e2.2,p1))))) (fun e3=>some (Except.error (e3.1,e3.2,p1)))) else ((G6 p0).bind fun y7=>exC y7 (fun y7=>(J8 y7.2).bind fun y8=>exC y8 (fun y8=>(V7 y8.2 ([40]:List UInt8)).bind fun y9=>bif !y9 then ((O1 y8.2 (⟨y1,y7.1,y8.1,[],[],false⟩:F2)).bind fun y10=>exC y10 (fun y10=>(S0 (List.length p1.Globals+List.length ([y10.1]:List F2))).bind fun _=>some (Except.ok (y10.2,{p1 with Globals:=p1.Globals++([y10.1]:List F2)}))) (fun e4=>some (Except.error (e4.1,e4.2,p1)))) else (jn (fun kk2=>(W5 y8.2).bind fun y11=>exC y11 (fun y11=>kk2 y11.2 (⟨y1,y7.1,y8.1,y11.1,[]⟩:P3)) (fun e5=>some (Except.error (e5.1,e5.2,p1)))) (fun(x3:Z0) (x4:P3)=>(E0 x3).bind fun y12=>exC y12 (fun y12=>(S0 (List.length p1.Funcs+List.length ([{x4 with Body:=y12.1}]:List P3))).bind fun _=>some (Except.ok (y12.2,{p1 with Funcs:=p1.Funcs++([{x4 with Body:=y12.1}]:List P3)}))) (fun e6=>some (Except.error (e6.1,e6.2,p1)))))) (fun e7=>some (Except.error (e7.1,e7.2,p1)))) (fun e8=>some (Except.error (e8.1,e8.2,p1))))) else ((G6 p0).bind fun y13=>exC y13 (fun y13=>(J8 y13.2).bind fun y14=>exC y14 (fun y14=>(V7 y14.2 ([40]:List UInt8)).bind fun y15=>bif !y15 then ((O1 y14.2 (⟨y1,y13.1,y14.1,[],[],false⟩:F2)).bind fun y16=>exC y16 (fun y16=>(S0 (List.length p1.Globals+List.length ([y16.1]:List F2))).bind fun _=>some (Except.ok (y16.2,{p1 with Globals:=p1.Globals++([y16.1]:List F2)}))) (fun e9=>some (Except.error (e9.1,e9.2,p1)))) else (jn (fun kk3=>(W5 y14.2).bind fun y17=>exC y17 (fun y17=>kk3 y17.2 (⟨y1,y13.1,y14.1,y17.1,[]⟩:P3)) (fun e10=>some (Except.error (e10.1,e10.2,p1)))) (fun(x5:Z0) (x6:P3)=>(E0 x5).bind fun y18=>exC y18 (fun y18=>(S0 (List.length p1.Funcs+List.length ([{x6 with Body:=y18.1}]:List P3))).bind fun _=>some (Except.ok (y18.2,{p1 with Funcs:=p1.Funcs++([{x6 with Body:=y18.1}]:List P3)}))) (fun e11=>some (Except.error (e11.1,e11.2,p1)))))) (fun e12=>some (Except.error (e12.1,e12.2,p1)))) (fun e13=>some (Except.error (e13.1,e13.2,p1))))

def Q6w (p0:Z0):Option (Except (J2×Y0×Z0) (J2×Z0)) :=
  (loopM (fun(x4,x5)=>(bif decide (0 < (List.length x5.l:Int)) then ((Q1r x5 x4).bind fun y1=>exC y1 (fun y1=>some (Lp.go (y1.2,y1.1))) (fun e1=>some (Lp.ret (Except.error ((⟨[],[],[]⟩:J2),e1.1,e1.2.1))))) else (some (Lp.brk (x4,x5))):Option (Lp (J2×Z0) (Except (J2×Y0×Z0) (J2×Z0))))) NN ((⟨[],[],[]⟩:J2),p0)).bind fun o=>o.thn (fun(x4,x5)=>some (Except.ok (x4,x5))) (fun r=>some r)

def Z3f (p0:List UInt8):Option (J2×Pos×Int) :=
  (Y2e p0).bind fun y1=>bif y1.2.2 != 0 then (some ((⟨[],[],[]⟩:J2),y1.2.1,y1.2.2)) else ((Q6w (⟨y1.1,y1.2.1,0⟩:Z0)).bind fun y2=>exC y2 (fun y2=>some (y2.1,y1.2.1,(0:Int))) (fun e1=>some ((⟨[],[],[]⟩:J2),e1.2.1.pos,e1.2.1.e)))

def Y2g  : Option (Z6) :=
  some (⟨([(⟨(⟨0,0,0,([]:List UInt8),[]⟩:Q6f),0,0,false⟩:U4),(⟨(⟨1,0,0,([]:List UInt8),[]⟩:Q6f),4,4,false⟩:U4),(⟨(⟨2,0,0,([]:List UInt8),[]⟩:Q6f),1,1,false⟩:U4)]:List U4)⟩:Z6)

def Q6r (p0:U4) (p1:List UInt8):Option (Bool) :=
  some ((p0.Type_.Kind == 5)&&(decide (p0.Type_.Name=p1)))

def Q5u (p0:List U4) (p1:List UInt8):Option (Int) :=
  (loopM (fun(x1:Int)=>(bif decide (x1 < (List.length p0:Int)) then ((idx p0 x1).bind fun u1=>(Q6r u1 p1).bind fun y1=>bif y1 then (some (Lp.ret x1)) else (some (Lp.go (IntKind.wrap .i64 (x1+1))))) else (some (Lp.brk x1)):Option (Lp (Int) (Int)))) NN (0:Int)).bind fun o=>o.thn (fun(x1:Int)=>some ((-1):Int)) (fun r=>some r)

def Q0z (p0:Z6) (p1:List UInt8):Option (Int) :=
  (Q5u p0.list p1).bind fun y1=>some y1

def Q8j (p0:U4) (p1:U4):Option (Bool) :=
  some ((((p0.Type_.Kind == p1.Type_.Kind)&&(p0.Type_.Elem == p1.Type_.Elem))&&(p0.Type_.Len == p1.Type_.Len))&&(p1.Type_.Kind != 5))

def Q3n (p0:List U4) (p1:U4):Option (Int) :=
  (loopM (fun(x1:Int)=>(bif decide (x1 < (List.length p0:Int)) then ((idx p0 x1).bind fun u1=>(Q8j u1 p1).bind fun y1=>bif y1 then (some (Lp.ret x1)) else (some (Lp.go (IntKind.wrap .i64 (x1+1))))) else (some (Lp.brk x1)):Option (Lp (Int) (Int)))) NN (0:Int)).bind fun o=>o.thn (fun(x1:Int)=>some ((-1):Int)) (fun r=>some r)

def Q3p (p0:Z6) (p1:U4):Option (Int×Int×Z6) :=
  (Q3n p0.list p1).bind fun y1=>bif decide (0≤y1) then (some (y1,(0:Int),p0)) else (bif decide (400≤(List.length p0.list:Int)) then (some ((0:Int),(8:Int),p0)) else ((S0 (List.length p0.list+List.length ([p1]:List U4))).bind fun _=>some (IntKind.wrap .i64 ((List.length (p0.list++([p1]:List U4)):Int) - 1),(0:Int),(⟨p0.list++([p1]:List U4)⟩:Z6))))

def Q6z (p0:Z6) (p1:List UInt8):Option (Int×Int×Z6) :=
  bif decide (p1=([]:List UInt8)) then (some ((0:Int),(1:Int),p0)) else ((Q0z p0 p1).bind fun y1=>bif decide (0≤y1) then (some ((0:Int),(6:Int),p0)) else ((Q3p p0 (⟨(⟨5,0,0,p1,[]⟩:Q6f),0,0,true⟩:U4)).bind fun y2=>some (y2.1,y2.2.1,y2.2.2)))

def Y6 (p0:Pos) (p1:Int):Option (Except (Z3) (Unit)) :=
  some (Except.error (⟨p0,p1⟩:Z3))

def I2 (p0:Pos) (p1:Int):Option (Except (Z3) (Unit)) :=
  bif p1 != 0 then ((Y6 p0 p1).bind fun y1=>exC y1 (fun y1=>none) (fun e1=>some (Except.error e1))) else (some (Except.ok ()))

def Q7a (p0:Z6) (p1:List UInt8):Option (Int×Int) :=
  (Q0z p0 p1).bind fun y1=>bif decide (y1 < 0) then (some ((0:Int),(4:Int))) else (some (y1,(0:Int)))

def I5 (p0:Z6) (p1:Int):Option (Bool) :=
  some ((decide (0≤p1))&&(decide (p1 < (List.length p0.list:Int))))

def Q3q (p0:Z6) (p1:Int):Option (Int×Int×Z6) :=
  (I5 p0 p1).bind fun y1=>bif !y1 then (some ((0:Int),(4:Int),p0)) else ((Q3p p0 (⟨(⟨3,p1,0,([]:List UInt8),[]⟩:Q6f),4,4,false⟩:U4)).bind fun y2=>some (y2.1,y2.2.1,y2.2.2))

def J5 (p0:Q0) (p1:Pos) (p2:B3):Option (Except (Z3×Q0) (Int×Q0)) :=
  jn (fun kk1=>bif decide (p2.Word=([105,110,116]:List UInt8)) then (kk1 (1:Int)) else (bif decide (p2.Word=([99,104,97,114]:List UInt8)) then (kk1 (2:Int)) else (bif decide (p2.Word=([115,116,114,117,99,116]:List UInt8)) then ((Q7a p0.t p2.Name).bind fun y1=>(I2 p1 y1.2).bind fun y2=>exC y2 (fun y2=>kk1 y1.1) (fun e1=>some (Except.error (e1,p0)))) else (kk1 (0:Int))))) (fun(x1:Int)=>(loopM (fun(x3,x4,x5)=>(bif decide (x4 < p2.Stars) then ((Q3q x5 x3).bind fun y3=>(I2 p1 y3.2.1).bind fun y4=>exC y4 (fun y4=>some (Lp.go (y3.1,IntKind.wrap .i64 (x4+1),y3.2.2))) (fun e2=>some (Lp.ret (Except.error (e2,{p0 with t:=y3.2.2}))))) else (some (Lp.brk (x3,x4,x5))):Option (Lp (Int×Int×Z6) (Except (Z3×Q0) (Int×Q0))))) NN (x1,(0:Int),p0.t)).bind fun o=>o.thn (fun(x3,x4,x5)=>some (Except.ok (x3,{p0 with t:=x5}))) (fun r=>some r))

def Q6b (p0:Z6) (p1:Int) (p2:Int):Option (Int×Int×Z6) :=
  (I5 p0 p1).bind fun y1=>bif !y1 then (some ((0:Int),(4:Int),p0)) else ((idx p0.list p1).bind fun u1=>bif u1.size == 0 then (some ((0:Int),(5:Int),p0)) else (bif decide (p2 < 1) then (some ((0:Int),(1:Int),p0)) else ((idx p0.list p1).bind fun u2=>(nz u2.size).bind fun _=>bif decide ((IntKind.wrap .i64 (Int.tdiv 32768 u2.size)) < p2) then (some ((0:Int),(2:Int),p0)) else ((idx p0.list p1).bind fun u3=>(Q3p p0 (⟨(⟨4,p1,p2,([]:List UInt8),[]⟩:Q6f),IntKind.wrap .i64 (p2 * u3.size),u3.align,false⟩:U4)).bind fun y2=>some (y2.1,y2.2.1,y2.2.2)))))

def D9 (p0:Q0) (p1:F2):Option (Except (Z3×Q0) (Int×Q0)) :=
  (J5 p0 p1.Pos p1.Type_).bind fun y1=>exC y1 (fun y1=>(loopM (fun(x2,x3,x4)=>(bif decide (0≤x3) then ((idx p1.Dims x3).bind fun u1=>(Q6b x4 x2 (IntKind.wrap .i64 u1)).bind fun y2=>(I2 p1.Pos y2.2.1).bind fun y3=>exC y3 (fun y3=>some (Lp.go (y2.1,IntKind.wrap .i64 (x3 - 1),y2.2.2))) (fun e1=>some (Lp.ret (Except.error (e1,{y1.2 with t:=y2.2.2}))))) else (some (Lp.brk (x2,x3,x4))):Option (Lp (Int×Int×Z6) (Except (Z3×Q0) (Int×Q0))))) NN (y1.1,IntKind.wrap .i64 ((List.length p1.Dims:Int) - 1),y1.2.t)).bind fun o=>o.thn (fun(x2,x3,x4)=>some (Except.ok (x2,{y1.2 with t:=x4}))) (fun r=>some r)) (fun e2=>some (Except.error (e2.1,e2.2)))

def Q8n (p0:U8):Option (Bool) :=
  some (decide (p0.Name=([]:List UInt8)))

def Q3m (p0:List U8):Option (Int) :=
  (loopM (fun(x1:Int)=>(bif decide (x1 < (List.length p0:Int)) then ((idx p0 x1).bind fun u1=>(Q8n u1).bind fun y1=>bif y1 then (some (Lp.ret x1)) else (some (Lp.go (IntKind.wrap .i64 (x1+1))))) else (some (Lp.brk x1)):Option (Lp (Int) (Int)))) NN (0:Int)).bind fun o=>o.thn (fun(x1:Int)=>some ((-1):Int)) (fun r=>some r)

def Q5q (p0:List U8):Option (Bool) :=
  (Q3m p0).bind fun y1=>some (decide (0≤y1))

def Q8m (p0:U8) (p1:Z6):Option (Bool) :=
  (I5 p1 p0.Type_).bind fun y1=>some (!y1)

def Q3l (p0:List U8) (p1:Z6):Option (Int) :=
  (loopM (fun(x1:Int)=>(bif decide (x1 < (List.length p0:Int)) then ((idx p0 x1).bind fun u1=>(Q8m u1 p1).bind fun y1=>bif y1 then (some (Lp.ret x1)) else (some (Lp.go (IntKind.wrap .i64 (x1+1))))) else (some (Lp.brk x1)):Option (Lp (Int) (Int)))) NN (0:Int)).bind fun o=>o.thn (fun(x1:Int)=>some ((-1):Int)) (fun r=>some r)

def Q3w (p0:List U8) (p1:Z6):Option (Bool) :=
  (Q3l p0 p1).bind fun y1=>some (decide (0≤y1))

def U1 (p0:Z6) (p1:Int):Option (Int) :=
  (I5 p0 p1).bind fun y1=>bif !y1 then (some (0:Int)) else ((idx p0.list p1).bind fun u1=>some u1.size)

def Q8l (p0:U8) (p1:Z6):Option (Bool) :=
  (U1 p1 p0.Type_).bind fun y1=>some (y1 == 0)

def Q3k (p0:List U8) (p1:Z6):Option (Int) :=
  (loopM (fun(x1:Int)=>(bif decide (x1 < (List.length p0:Int)) then ((idx p0 x1).bind fun u1=>(Q8l u1 p1).bind fun y1=>bif y1 then (some (Lp.ret x1)) else (some (Lp.go (IntKind.wrap .i64 (x1+1))))) else (some (Lp.brk x1)):Option (Lp (Int) (Int)))) NN (0:Int)).bind fun o=>o.thn (fun(x1:Int)=>some ((-1):Int)) (fun r=>some r)

def Q3v (p0:List U8) (p1:Z6):Option (Bool) :=
  (Q3k p0 p1).bind fun y1=>some (decide (0≤y1))

def Q8k (p0:U8) (p1:U8):Option (Bool) :=
  some (decide (p0.Name=p1.Name))

def Q3j (p0:List U8) (p1:U8):Option (Int) :=
  (loopM (fun(x1:Int)=>(bif decide (x1 < (List.length p0:Int)) then ((idx p0 x1).bind fun u1=>(Q8k u1 p1).bind fun y1=>bif y1 then (some (Lp.ret x1)) else (some (Lp.go (IntKind.wrap .i64 (x1+1))))) else (some (Lp.brk x1)):Option (Lp (Int) (Int)))) NN (0:Int)).bind fun o=>o.thn (fun(x1:Int)=>some ((-1):Int)) (fun r=>some r)

def Q0t (p0:List U8) (p1:U8):Option (Bool) :=
  (Q3j p0 p1).bind fun y1=>some (decide (0≤y1))

def Q7x (p0:Z6) (p1:List U8):Option (Int) :=
  bif (List.length p1:Int) == 0 then (some (1:Int)) else ((Q5q p1).bind fun y1=>bif y1 then (some (1:Int)) else ((Q3w p1 p0).bind fun y2=>bif y2 then (some (4:Int)) else ((Q3v p1 p0).bind fun y3=>bif y3 then (some (5:Int)) else ((loopM (fun(x1:Int)=>(bif decide (x1 < (List.length p1:Int)) then ((idx p1 x1).bind fun u1=>(sub p1 0 x1).bind fun u2=>(Q0t u2 u1).bind fun y4=>bif y4 then (some (Lp.ret (6:Int))) else (some (Lp.go (IntKind.wrap .i64 (x1+1))))) else (some (Lp.brk x1)):Option (Lp (Int) (Int)))) NN (0:Int)).bind fun o=>o.thn (fun(x1:Int)=>some (0:Int)) (fun r=>some r)))))

def Q8g (p0:List U8):Option ((List U8)) :=
  (S0 (List.length ([]:List U8)+List.length p0)).bind fun _=>some (([]:List U8)++p0)

def Q1a (p0:Z6) (p1:Int):Option (Int) :=
  (I5 p0 p1).bind fun y1=>bif !y1 then (some (0:Int)) else ((idx p0.list p1).bind fun u1=>some u1.align)

def Z6m (p0:Int) (p1:Int):Option (Int) :=
  (nz p1).bind fun _=>some (IntKind.wrap .i64 ((IntKind.wrap .i64 (Int.tdiv (IntKind.wrap .i64 ((IntKind.wrap .i64 (p0+p1)) - 1)) p1)) * p1))

def Q2o (p0:U8) (p1:Int) (p2:Z6) (p3:Int):Option (Bool×U8×Int×Int) :=
  (Q1a p2 p0.Type_).bind fun y1=>(Z6m p1 y1).bind fun y2=>(U1 p2 p0.Type_).bind fun y3=>(Q1a p2 p0.Type_).bind fun y4=>some (decide ((IntKind.wrap .i64 (y2+y3))≤32768),{p0 with At:=y2},IntKind.wrap .i64 (y2+y3),max p3 y4)

def Q4w (p0:Z6) (p1:List UInt8) (p2:List U8):Option (Int×Int×Z6) :=
  (Q0z p0 p1).bind fun y1=>bif decide (y1 < 0) then (some ((0:Int),(4:Int),p0)) else ((idx p0.list y1).bind fun u1=>bif !u1.open_ then (some ((0:Int),(4:Int),p0)) else ((Q7x p0 p2).bind fun y2=>bif y2 != 0 then (some ((0:Int),y2,p0)) else ((Q8g p2).bind fun y3=>(loopM (fun(x1,x2,x3,x4)=>(bif decide (x2 < (List.length y3:Int)) then ((idx x1 x2).bind fun u2=>(idx x1 x2).bind fun u3=>(Q2o u3 x4 p0 x3).bind fun y4=>bif !y4.1 then (some (Lp.ret ((0:Int),(2:Int),p0))) else (some (Lp.go (List.set x1 (Int.toNat x2) y4.2.1,IntKind.wrap .i64 (x2+1),y4.2.2.2,y4.2.2.1)))) else (some (Lp.brk (x1,x2,x3,x4))):Option (Lp ((List U8)×Int×Int×Int) (Int×Int×Z6)))) NN (y3,(0:Int),(1:Int),(0:Int))).bind fun o=>o.thn (fun(x1,x2,x3,x4)=>(Z6m x4 x3).bind fun y5=>bif decide (32768 < y5) then (some ((0:Int),(2:Int),p0)) else ((idx p0.list y1).bind fun u4=>(Z6m x4 x3).bind fun y6=>(idx p0.list y1).bind fun u5=>(idx (List.set p0.list (Int.toNat y1) ({u5 with Type_ := {u5.Type_ with Fields:=x1}})) y1).bind fun u6=>(idx (List.set (List.set p0.list (Int.toNat y1) ({u5 with Type_ := {u5.Type_ with Fields:=x1}})) (Int.toNat y1) ({u6 with size:=y6})) y1).bind fun u7=>(idx (List.set (List.set (List.set p0.list (Int.toNat y1) ({u5 with Type_ := {u5.Type_ with Fields:=x1}})) (Int.toNat y1) ({u6 with size:=y6})) (Int.toNat y1) ({u7 with align:=x3})) y1).bind fun u8=>some (y1,(0:Int),(⟨List.set (List.set (List.set (List.set p0.list (Int.toNat y1) ({u5 with Type_ := {u5.Type_ with Fields:=x1}})) (Int.toNat y1) ({u6 with size:=y6})) (Int.toNat y1) ({u7 with align:=x3})) (Int.toNat y1) ({u8 with open_:=false})⟩:Z6)))) (fun r=>some r))))

def M6 (p0:Q0) (p1:List D4):Option (Except (Z3×Q0) (Q0)) :=
  (loopM (fun(x2,x3)=>(bif decide (x2 < (List.length p1:Int)) then ((idx p1 x2).bind fun u1=>(Q6z x3 u1.Name).bind fun y1=>(I2 u1.Pos y1.2.1).bind fun y2=>exC y2 (fun y2=>some (Lp.go (IntKind.wrap .i64 (x2+1),y1.2.2))) (fun e1=>some (Lp.ret (Except.error (e1,{p0 with t:=y1.2.2}))))) else (some (Lp.brk (x2,x3))):Option (Lp (Int×Z6) (Except (Z3×Q0) (Q0))))) NN ((0:Int),p0.t)).bind fun o=>o.thn (fun(x2,x3)=>(loopM (fun(x12,x13,x14)=>(bif decide (x12 < (List.length p1:Int)) then ((idx p1 x12).bind fun u3=>(loopM (fun(x15,x24,x25,x26)=>(bif decide (x24 < (List.length u3.Fields:Int)) then ((idx u3.Fields x24).bind fun u4=>(D9 ({x25 with t:=x26}) u4).bind fun y3=>exC y3 (fun y3=>(S0 (List.length x15+List.length ([(⟨u4.Name,y3.1,0⟩:U8)]:List U8))).bind fun _=>some (Lp.go (x15++([(⟨u4.Name,y3.1,0⟩:U8)]:List U8),IntKind.wrap .i64 (x24+1),y3.2,y3.2.t))) (fun e2=>some (Lp.ret (Except.error (e2.1,e2.2))))) else (some (Lp.brk (x15,x24,{x25 with t:=x26},x26))):Option (Lp ((List U8)×Int×Q0×Z6) (Except (Z3×Q0) (Q0))))) NN ([],(0:Int),{x13 with t:=x14},x14)).bind fun o=>o.thn (fun(x15,x24,x25,x26)=>(Q4w x26 u3.Name x15).bind fun y4=>(I2 u3.Pos y4.2.1).bind fun y5=>exC y5 (fun y5=>some (Lp.go (IntKind.wrap .i64 (x12+1),{x25 with t:=y4.2.2},y4.2.2))) (fun e3=>some (Lp.ret (Except.error (e3,{x25 with t:=y4.2.2}))))) (fun r=>some (Lp.ret r))) else (some (Lp.brk (x12,{x13 with t:=x14},x14))):Option (Lp (Int×Q0×Z6) (Except (Z3×Q0) (Q0))))) NN ((0:Int),{p0 with t:=x3},x3)).bind fun o=>o.thn (fun(x12,x13,x14)=>some (Except.ok ({x13 with t:=x14}))) (fun r=>some r)) (fun r=>some r)

def C2 (p0:Q0) (p1:F2):Option (Except (Z3×Q0) (Int×Q0)) :=
  (D9 p0 p1).bind fun y1=>exC y1 (fun y1=>(U1 y1.2.t y1.1).bind fun y2=>bif y2 == 0 then ((Y6 p1.Pos 5).bind fun y3=>exC y3 (fun y3=>none) (fun e1=>some (Except.error (e1,y1.2)))) else (some (Except.ok (y1.1,y1.2)))) (fun e2=>some (Except.error (e2.1,e2.2)))

def L4 (p0:Q0) (p1:Pos) (p2:List UInt8):Option (Except (Z3×Q0) (Q0)) :=
  bif (((D3 p0.globals p2).isSome) || ((D3 p0.codes p2).isSome)) then ((Y6 p1 6).bind fun y1=>exC y1 (fun y1=>none) (fun e1=>some (Except.error (e1,p0)))) else (bif (Z3y p0.globals:Int) == 200 then ((Y6 p1 2).bind fun y2=>exC y2 (fun y2=>none) (fun e2=>some (Except.error (e2,p0)))) else ((p0.globals).bind fun u3=>some (Except.ok ({p0 with globals:=(some (Q7t u3 p2 (Z3y p0.globals:Int)))}))))

def B5 (p0:Z6) (p1:Int):Option (Bool) :=
  (I5 p0 p1).bind fun y1=>bif !y1 then (some false) else ((idx p0.list p1).bind fun u1=>some (((u1.Type_.Kind == 1) || (u1.Type_.Kind == 2)) || (u1.Type_.Kind == 3)))

def W7 (p0:Q0) (p1:Int):Option (Int) :=
  (B5 p0.t p1).bind fun y1=>bif !y1 then (some (0:Int)) else ((U1 p0.t p1).bind fun y2=>some y2)

def Q1b (p0:Q0) (p1:List UInt8) (p2:Int):Option (Q7l) :=
  (U1 p0.t p2).bind fun y1=>(Q1a p0.t p2).bind fun y2=>(W7 p0 p2).bind fun y3=>some (⟨p1,y1,y2,y3⟩:Q7l)

def P6 (p0:Z6) (p1:Int):Option (Q6f×Int) :=
  (I5 p0 p1).bind fun y1=>bif !y1 then (some ((⟨0,0,0,([]:List UInt8),[]⟩:Q6f),(4:Int))) else ((idx p0.list p1).bind fun u1=>(Q8g u1.Type_.Fields).bind fun y2=>some ({u1.Type_ with Fields:=y2},(0:Int)))

def O8 (p0:Q0) (p1:Int):Option (Int) :=
  (P6 p0.t p1).bind fun y1=>bif y1.1.Kind == 4 then (some y1.1.Elem) else (some p1)

def C5 (p0:Q0) (p1:F2) (p2:Int):Option (Except (Z3) ((List Z8))) :=
  bif (List.length p1.Init:Int) == 0 then (some (Except.ok [])) else ((P6 p0.t p2).bind fun y1=>bif !((y1.1.Kind == 4) == p1.Brace) then ((Y6 p1.Pos 5).bind fun y6=>exC y6 (fun y6=>none) (fun e3=>some (Except.error e3))) else ((O8 p0 p2).bind fun y2=>(W7 p0 y2).bind fun y3=>bif y3 == 0 then ((Y6 p1.Pos 5).bind fun y4=>exC y4 (fun y4=>none) (fun e1=>some (Except.error e1))) else (bif ((y1.1.Kind == 4)&&(decide (y1.1.Len < (List.length p1.Init:Int)))) then ((Y6 p1.Pos 2).bind fun y5=>exC y5 (fun y5=>none) (fun e2=>some (Except.error e2))) else (some (Except.ok p1.Init)))))

def Q0n (p0:G5) (p1:List UInt8):Option (Int×Bool) :=
  (loopM (fun(x1:Int)=>(bif decide (0≤x1) then ((idx p0.scopes x1).bind fun u1=>bif (D3 u1 p1).isSome then (some (Lp.ret ((D3 u1 p1).getD 0,true))) else (some (Lp.go (IntKind.wrap .i64 (x1 - 1))))) else (some (Lp.brk x1)):Option (Lp (Int) (Int×Bool)))) NN (IntKind.wrap .i64 ((List.length p0.scopes:Int) - 1))).bind fun o=>o.thn (fun(x1:Int)=>some ((0:Int),false)) (fun r=>some r)

def O9 (p0:Q0) (p1:Z8):Option (Except (Z3×Q0) (Z7×Q0)) :=
  jn (fun kk1=>(O3.isNil p0.fun_).bind fun u1=>bif !u1 then ((O3.get p0.fun_).bind fun u2=>(Q0n u2 p1.Name).bind fun y1=>bif y1.2 then ((idx u2.types y1.1).bind fun u3=>some (Except.ok ((⟨u3,(⟨2,0,0,y1.1,false,0,false,true,[]⟩:Y4),true⟩:Z7),p0))) else (kk1 ())) else (kk1 ())) (fun(_:Unit)=>bif !((D3 p0.globals p1.Name).isSome) then ((Y6 p1.Pos 4).bind fun y2=>exC y2 (fun y2=>none) (fun e1=>some (Except.error (e1,p0)))) else ((idx p0.gtypes ((D3 p0.globals p1.Name).getD 0)).bind fun u5=>some (Except.ok ((⟨u5,(⟨2,0,0,(D3 p0.globals p1.Name).getD 0,true,0,false,true,[]⟩:Y4),true⟩:Z7),p0))))

def C3 (p0:Q0) (p1:Pos) (p2:Int):Option (Except (Z3×Q0) (Int×Q0)) :=
  (Q3q p0.t p2).bind fun y1=>(I2 p1 y1.2.1).bind fun y2=>exC y2 (fun y2=>some (Except.ok (y1.1,{p0 with t:=y1.2.2}))) (fun e1=>some (Except.error (e1,{p0 with t:=y1.2.2})))

def M1 (p0:Q0) (p1:Int):Option (Int×Bool) :=
  (P6 p0.t p1).bind fun y1=>bif y1.1.Kind == 3 then ((U1 p0.t y1.1.Elem).bind fun y2=>some (y1.1.Elem,decide (0 < y2))) else (some (y1.1.Elem,false))

def Y7 (p0:Q0) (p1:Int):Option (Bool) :=
  (P6 p0.t p1).bind fun y1=>some (y1.1.Kind == 3)

def Q9s (p0:List UInt8):Option (Int) :=
  bif decide (p0=([43]:List UInt8)) then (some (1:Int)) else (bif decide (p0=([45]:List UInt8)) then (some (2:Int)) else (bif decide (p0=([42]:List UInt8)) then (some (3:Int)) else (bif decide (p0=([47]:List UInt8)) then (some (4:Int)) else (bif decide (p0=([37]:List UInt8)) then (some (5:Int)) else (bif decide (p0=([38]:List UInt8)) then (some (6:Int)) else (bif decide (p0=([124]:List UInt8)) then (some (7:Int)) else (bif decide (p0=([94]:List UInt8)) then (some (8:Int)) else (bif decide (p0=([60,60]:List UInt8)) then (some (9:Int)) else (bif decide (p0=([62,62]:List UInt8)) then (some (10:Int)) else (bif decide (p0=([61,61]:List UInt8)) then (some (11:Int)) else (bif decide (p0=([33,61]:List UInt8)) then (some (12:Int)) else (bif decide (p0=([60]:List UInt8)) then (some (13:Int)) else (bif decide (p0=([62]:List UInt8)) then (some (14:Int)) else (bif decide (p0=([60,61]:List UInt8)) then (some (15:Int)) else (some (16:Int))))))))))))))))

def Q2i (p0:Z8):Option (Bool) :=
  some ((p0.Kind == 1)&&(p0.Num == 0))

def Q1h  : Option (Y4) :=
  some (⟨1,0,0,0,false,0,false,true,[]⟩:Y4)

def L5 (p0:Q0) (p1:Z8) (p2:Z7) (p3:Z7):Option (Except (Z3) (Z7)) :=
  jn (fun kk1=>(idx p1.Kids 0).bind fun u1=>(idx p1.Kids 1).bind fun u2=>kk1 u1 u2) (fun(x1:Z8) (x2:Z8)=>(Q9s p1.Op).bind fun y1=>jn (fun kk2=>(Y7 p0 p2.n).bind fun y2=>bif y2 then ((Q2i x2).bind fun y3=>bif y3 then ((Q1h).bind fun y4=>kk2 (⟨6,y1,0,0,false,0,false,false,([p2.term,y4]:List Y4)⟩:Y4)) else ((Y7 p0 p3.n).bind fun y5=>bif y5 then ((Q2i x1).bind fun y6=>bif y6 then ((Q1h).bind fun y7=>kk2 (⟨6,y1,0,0,false,0,false,false,([y7,p3.term]:List Y4)⟩:Y4)) else (bif p2.n != 1 then ((Y7 p0 p2.n).bind fun y8=>bif !y8 then ((Y6 x1.Pos 5).bind fun y9=>exC y9 (fun y9=>none) (fun e1=>some (Except.error e1))) else ((Y6 x2.Pos 5).bind fun y10=>exC y10 (fun y10=>none) (fun e2=>some (Except.error e2)))) else ((Y6 x2.Pos 5).bind fun y11=>exC y11 (fun y11=>none) (fun e3=>some (Except.error e3))))) else (bif p2.n != 1 then ((Y7 p0 p2.n).bind fun y12=>bif !y12 then ((Y6 x1.Pos 5).bind fun y13=>exC y13 (fun y13=>none) (fun e4=>some (Except.error e4))) else ((Y6 x2.Pos 5).bind fun y14=>exC y14 (fun y14=>none) (fun e5=>some (Except.error e5)))) else ((Y6 x2.Pos 5).bind fun y15=>exC y15 (fun y15=>none) (fun e6=>some (Except.error e6)))))) else ((Y7 p0 p3.n).bind fun y16=>bif y16 then ((Q2i x1).bind fun y17=>bif y17 then ((Q1h).bind fun y18=>kk2 (⟨6,y1,0,0,false,0,false,false,([y18,p3.term]:List Y4)⟩:Y4)) else (bif p2.n != 1 then ((Y7 p0 p2.n).bind fun y19=>bif !y19 then ((Y6 x1.Pos 5).bind fun y20=>exC y20 (fun y20=>none) (fun e7=>some (Except.error e7))) else ((Y6 x2.Pos 5).bind fun y21=>exC y21 (fun y21=>none) (fun e8=>some (Except.error e8)))) else ((Y6 x2.Pos 5).bind fun y22=>exC y22 (fun y22=>none) (fun e9=>some (Except.error e9))))) else (bif p2.n != 1 then ((Y7 p0 p2.n).bind fun y23=>bif !y23 then ((Y6 x1.Pos 5).bind fun y24=>exC y24 (fun y24=>none) (fun e10=>some (Except.error e10))) else ((Y6 x2.Pos 5).bind fun y25=>exC y25 (fun y25=>none) (fun e11=>some (Except.error e11)))) else ((Y6 x2.Pos 5).bind fun y26=>exC y26 (fun y26=>none) (fun e12=>some (Except.error e12)))))) (fun(x4:Y4)=>some (Except.ok (⟨1,x4,false⟩:Z7))))

def S7 (p0:Q0) (p1:Y4) (p2:Y4) (p3:Int) (p4:Int):Option (Y4) :=
  (U1 p0.t p3).bind fun y1=>some (⟨14,p4,0,0,false,y1,false,true,([p1,p2]:List Y4)⟩:Y4)

def C4 (p0:Q0) (p1:Pos) (p2:Z7) (p3:Y4) (p4:Int):Option (Except (Z3) (Z7)) :=
  (M1 p0 p2.n).bind fun y1=>bif !y1.2 then ((Y6 p1 5).bind fun y2=>exC y2 (fun y2=>none) (fun e1=>some (Except.error e1))) else ((S7 p0 p2.term p3 y1.1 p4).bind fun y3=>some (Except.ok (⟨p2.n,y3,false⟩:Z7)))

def G8 (p0:Q0) (p1:Z8) (p2:Z7) (p3:Int):Option (Except (Z3) (Y4)) :=
  (Y7 p0 p3).bind fun y1=>bif y1 then ((Q2i p1).bind fun y2=>bif y2 then ((Q1h).bind fun y3=>some (Except.ok y3)) else ((Y7 p0 p3).bind fun y4=>bif (y4&&(p2.n == p3)) then (some (Except.ok p2.term)) else ((Y7 p0 p3).bind fun y5=>bif ((!y5)&&(p2.n == 1)) then (some (Except.ok p2.term)) else ((Y6 p1.Pos 5).bind fun y6=>exC y6 (fun y6=>none) (fun e1=>some (Except.error e1)))))) else ((Y7 p0 p3).bind fun y7=>bif (y7&&(p2.n == p3)) then (some (Except.ok p2.term)) else ((Y7 p0 p3).bind fun y8=>bif ((!y8)&&(p2.n == 1)) then (some (Except.ok p2.term)) else ((Y6 p1.Pos 5).bind fun y9=>exC y9 (fun y9=>none) (fun e2=>some (Except.error e2)))))

def F0 (p0:Q0) (p1:Int):Option (Int) :=
  bif p1 == 2 then (some (1:Int)) else (some p1)

def D8 (p0:Q0) (p1:Z8) (p2:Z7) (p3:Int):Option (Except (Z3) (Y4)) :=
  (G8 p0 p1 p2 p3).bind fun y1=>exC y1 (fun y1=>bif p3 == 2 then (some (Except.ok (⟨17,0,0,0,false,0,false,false,([y1]:List Y4)⟩:Y4))) else (some (Except.ok y1))) (fun e1=>some (Except.error e1))

def M0 (p0:Q0) (p1:Pos) (p2:Z7):Option (Except (Z3×Q0) (Z7×Q0)) :=
  bif !p2.lies then (some (Except.ok (p2,p0))) else (jn (fun kk1=>(P6 p0.t p2.n).bind fun y1=>kk1 y1.1) (fun(x1:Q6f)=>(U1 p0.t p2.n).bind fun y2=>bif x1.Kind == 4 then (jn (fun kk2=>bif p2.term.Kind != 2 then (kk2 (⟨13,0,0,0,false,y2,false,true,([p2.term]:List Y4)⟩:Y4)) else (kk2 p2.term)) (fun(x2:Y4)=>(C3 p0 p1 x1.Elem).bind fun y3=>exC y3 (fun y3=>some (Except.ok ((⟨y3.1,x2,false⟩:Z7),y3.2))) (fun e1=>some (Except.error (e1.1,e1.2))))) else ((B5 p0.t p2.n).bind fun y4=>bif !y4 then ((Y6 p1 5).bind fun y5=>exC y5 (fun y5=>none) (fun e2=>some (Except.error (e2,p0)))) else (jn (fun kk3=>bif p2.n == 2 then (kk3 (1:Int)) else (kk3 p2.n)) (fun(x3:Int)=>(Y7 p0 x3).bind fun y6=>some (Except.ok ((⟨x3,(⟨3,0,0,0,false,y2,false,y6,([p2.term]:List Y4)⟩:Y4),false⟩:Z7),p0)))))))

def Q3c (p0:Z6) (p1:Int) (p2:List UInt8):Option (U8×Int) :=
  (I5 p0 p1).bind fun y1=>bif !y1 then (some ((⟨([]:List UInt8),0,0⟩:U8),(4:Int))) else ((idx p0.list p1).bind fun u1=>bif u1.Type_.Kind != 5 then (some ((⟨([]:List UInt8),0,0⟩:U8),(5:Int))) else ((idx p0.list p1).bind fun u2=>(loopM (fun(x1:Int)=>(bif decide (x1 < (List.length u2.Type_.Fields:Int)) then ((idx u2.Type_.Fields x1).bind fun u3=>bif decide (u3.Name=p2) then (some (Lp.ret (u3,(0:Int)))) else (some (Lp.go (IntKind.wrap .i64 (x1+1))))) else (some (Lp.brk x1)):Option (Lp (Int) (U8×Int)))) NN (0:Int)).bind fun o=>o.thn (fun(x1:Int)=>some ((⟨([]:List UInt8),0,0⟩:U8),(4:Int))) (fun r=>some r)))

structure Q1d where
  X9:Q0→Z8→Option (Except (Z3×Q0) (Y4×Q0))
  X4:Q0→Z8→Option (Except (Z3×Q0) (Y4×Q0))
  J4:Q0→Z8→Option (Except (Z3×Q0) (Z7×Q0))
  K4:Q0→Int→Z8→Option (Except (Z3×Q0) (Z7×Q0))
  J0:Q0→Z8→Option (Except (Z3×Q0) (Z7×Q0))
  K7:Q0→Z8→Option (Except (Z3×Q0) (Z7×Q0))
  J1:Q0→Z8→Option (Except (Z3×Q0) (Z7×Q0))
  G3:Q0→Z8→Option (Except (Z3×Q0) (Z7×Q0))
  G4:Q0→Z8→Option (Except (Z3×Q0) (Z7×Q0))
  K9:Q0→Z8→Option (Except (Z3×Q0) (Z7×Q0))
  G0:Q0→Z8→Option (Except (Z3×Q0) (Z7×Q0))
  V2:Q0→Z8→Option (Except (Z3×Q0) (Z7×Q0))
  Z4:Q0→Z8→Option (Except (Z3×Q0) (Z7×Q0))

def M9 (G:Q1d) (p0:Q0) (p1:Z8):Option (Except (Z3×Q0) (Y4×Q0)) :=
  (G.Z4 p0 p1).bind fun y1=>exC y1 (fun y1=>bif y1.1.n != 1 then ((Y7 y1.2 y1.1.n).bind fun y2=>bif !y2 then ((Y6 p1.Pos 5).bind fun y3=>exC y3 (fun y3=>none) (fun e1=>some (Except.error (e1,y1.2)))) else (some (Except.ok (y1.1.term,y1.2)))) else (some (Except.ok (y1.1.term,y1.2)))) (fun e2=>some (Except.error (e2.1,e2.2)))
def N0 (G:Q1d) (p0:Q0) (p1:Z8):Option (Except (Z3×Q0) (Y4×Q0)) :=
  (G.Z4 p0 p1).bind fun y1=>exC y1 (fun y1=>bif y1.1.n != 1 then ((Y6 p1.Pos 5).bind fun y2=>exC y2 (fun y2=>none) (fun e1=>some (Except.error (e1,y1.2)))) else (some (Except.ok (y1.1.term,y1.2)))) (fun e2=>some (Except.error (e2.1,e2.2)))
def M5 (G:Q1d) (p0:Q0) (p1:Z8):Option (Except (Z3×Q0) (Z7×Q0)) :=
  (idx p1.Kids 0).bind fun u1=>jn (fun kk1=>bif decide (p1.Op=([38]:List UInt8)) then ((G.V2 p0 u1).bind fun y1=>exC y1 (fun y1=>jn (fun kk2=>(P6 y1.2.t y1.1.n).bind fun y2=>kk2 y2.1) (fun(x2:Q6f)=>bif ((!y1.1.lies) || (x2.Kind == 4)) then ((Y6 u1.Pos 5).bind fun y3=>exC y3 (fun y3=>none) (fun e1=>some (Except.error (e1,y1.2)))) else ((C3 y1.2 p1.Pos y1.1.n).bind fun y4=>exC y4 (fun y4=>some (Except.ok ((⟨y4.1,y1.1.term,false⟩:Z7),{y4.2 with fun_:=y1.2.fun_}))) (fun e2=>some (Except.error (e2.1,{e2.2 with fun_:=y1.2.fun_})))))) (fun e3=>some (Except.error (e3.1,e3.2)))) else (bif decide (p1.Op=([42]:List UInt8)) then ((G.Z4 p0 u1).bind fun y5=>exC y5 (fun y5=>(M1 y5.2 y5.1.n).bind fun y6=>bif !y6.2 then ((Y6 u1.Pos 5).bind fun y7=>exC y7 (fun y7=>none) (fun e4=>some (Except.error (e4,y5.2)))) else (some (Except.ok ((⟨y6.1,y5.1.term,true⟩:Z7),y5.2)))) (fun e5=>some (Except.error (e5.1,e5.2)))) else (bif decide (p1.Op=([33]:List UInt8)) then ((G.X9 p0 u1).bind fun y8=>exC y8 (fun y8=>some (Except.ok ((⟨1,(⟨5,19,0,0,false,0,false,false,([y8.1]:List Y4)⟩:Y4),false⟩:Z7),y8.2))) (fun e6=>some (Except.error (e6.1,e6.2)))) else (bif decide (p1.Op=([45]:List UInt8)) then (kk1 (17:Int)) else (kk1 (18:Int)))))) (fun(x1:Int)=>(G.X4 p0 u1).bind fun y9=>exC y9 (fun y9=>some (Except.ok ((⟨1,(⟨5,x1,0,0,false,0,false,false,([y9.1]:List Y4)⟩:Y4),false⟩:Z7),y9.2))) (fun e7=>some (Except.error (e7.1,e7.2))))
def H8 (G:Q1d) (p0:Q0) (p1:Int) (p2:Z8):Option (Except (Z3×Q0) (Z7×Q0)) :=
  (idx p2.Kids 0).bind fun u1=>(G.X9 p0 u1).bind fun y1=>exC y1 (fun y1=>(idx p2.Kids 1).bind fun u2=>(G.X9 y1.2 u2).bind fun y2=>exC y2 (fun y2=>some (Except.ok ((⟨1,(⟨p1,0,0,0,false,0,false,false,([y1.1,y2.1]:List Y4)⟩:Y4),false⟩:Z7),y2.2))) (fun e1=>some (Except.error (e1.1,e1.2)))) (fun e2=>some (Except.error (e2.1,e2.2)))
def N4 (G:Q1d) (p0:Q0) (p1:Z8):Option (Except (Z3×Q0) (Z7×Q0)) :=
  bif decide (p1.Op=([38,38]:List UInt8)) then ((G.K4 p0 7 p1).bind fun y1=>exC y1 (fun y1=>some (Except.ok (y1.1,y1.2))) (fun e1=>some (Except.error (e1.1,e1.2)))) else (bif decide (p1.Op=([124,124]:List UInt8)) then ((G.K4 p0 8 p1).bind fun y2=>exC y2 (fun y2=>some (Except.ok (y2.1,y2.2))) (fun e2=>some (Except.error (e2.1,e2.2)))) else (jn (fun kk1=>(idx p1.Kids 0).bind fun u3=>(idx p1.Kids 1).bind fun u4=>kk1 u3 u4) (fun(x1:Z8) (x2:Z8)=>jn (fun kk2=>(G.Z4 p0 x1).bind fun y3=>exC y3 (fun y3=>(G.Z4 y3.2 x2).bind fun y4=>exC y4 (fun y4=>kk2 y4.2 y4.2.t y3.1 y4.1) (fun e4=>some (Except.error (e4.1,e4.2)))) (fun e3=>some (Except.error (e3.1,e3.2)))) (fun(x12:Q0) (x13:Z6) (x14:Z7) (x15:Z7)=>(Q9s p1.Op).bind fun y5=>bif ((x14.n == 1)&&(x15.n == 1)) then (some (Except.ok ((⟨1,(⟨6,y5,0,0,false,0,false,false,([x14.term,x15.term]:List Y4)⟩:Y4),false⟩:Z7),{x12 with t:=x13}))) else (bif ((y5 == 11) || (y5 == 12)) then ((L5 ({x12 with t:=x13}) p1 x14 x15).bind fun y6=>exC y6 (fun y6=>some (Except.ok (y6,{x12 with t:=x13}))) (fun e5=>some (Except.error (e5,{x12 with t:=x13})))) else (bif ((y5 == 1)&&(x14.n == 1)) then ((C4 ({x12 with t:=x13}) x2.Pos x15 x14.term y5).bind fun y7=>exC y7 (fun y7=>some (Except.ok (y7,{x12 with t:=x13}))) (fun e6=>some (Except.error (e6,{x12 with t:=x13})))) else (bif (((y5 == 1) || (y5 == 2))&&(x15.n == 1)) then ((C4 ({x12 with t:=x13}) x1.Pos x14 x15.term y5).bind fun y8=>exC y8 (fun y8=>some (Except.ok (y8,{x12 with t:=x13}))) (fun e7=>some (Except.error (e7,{x12 with t:=x13})))) else (bif x14.n != 1 then ((Y7 ({x12 with t:=x13}) x14.n).bind fun y9=>bif ((!y9) || ((y5 != 1)&&(y5 != 2))) then ((Y6 x1.Pos 5).bind fun y10=>exC y10 (fun y10=>none) (fun e8=>some (Except.error (e8,{x12 with t:=x13})))) else ((Y6 x2.Pos 5).bind fun y11=>exC y11 (fun y11=>none) (fun e9=>some (Except.error (e9,{x12 with t:=x13}))))) else ((Y6 x2.Pos 5).bind fun y12=>exC y12 (fun y12=>none) (fun e10=>some (Except.error (e10,{x12 with t:=x13}))))))))))))
def M7 (G:Q1d) (p0:Q0) (p1:Z8):Option (Except (Z3×Q0) (Z7×Q0)) :=
  (G.V2 p0 p1).bind fun y1=>exC y1 (fun y1=>bif !y1.1.lies then ((Y6 p1.Pos 5).bind fun y4=>exC y4 (fun y4=>none) (fun e2=>some (Except.error (e2,y1.2)))) else ((B5 y1.2.t y1.1.n).bind fun y2=>bif !y2 then ((Y6 p1.Pos 5).bind fun y3=>exC y3 (fun y3=>none) (fun e1=>some (Except.error (e1,y1.2)))) else (some (Except.ok (y1.1,y1.2))))) (fun e3=>some (Except.error (e3.1,e3.2)))
def N5 (G:Q1d) (p0:Q0) (p1:Z8):Option (Except (Z3×Q0) (Z7×Q0)) :=
  jn (fun kk1=>(idx p1.Kids 0).bind fun u1=>(idx p1.Kids 1).bind fun u2=>kk1 u1 u2) (fun(x1:Z8) (x2:Z8)=>(G.K7 p0 x1).bind fun y1=>exC y1 (fun y1=>jn (fun kk2=>(U1 y1.2.t y1.1.n).bind fun y2=>(Y7 y1.2 y1.1.n).bind fun y3=>kk2 (⟨4,0,0,0,false,y2,false,y3,[]⟩:Y4)) (fun(x3:Y4)=>bif decide (p1.Op=([61]:List UInt8)) then ((G.Z4 y1.2 x2).bind fun y4=>exC y4 (fun y4=>(G8 y4.2 x2 y4.1 y1.1.n).bind fun y5=>exC y5 (fun y5=>(F0 y4.2 y1.1.n).bind fun y6=>some (Except.ok ((⟨y6,{x3 with Kids:=([y1.1.term,y5]:List Y4)},false⟩:Z7),y4.2))) (fun e1=>some (Except.error (e1,y4.2)))) (fun e2=>some (Except.error (e2.1,e2.2)))) else ((sub p1.Op 0 (IntKind.wrap .i64 ((List.length p1.Op:Int) - 1))).bind fun u5=>(Q9s u5).bind fun y7=>jn (fun kk3=>bif x3.Ptr then ((M1 y1.2 y1.1.n).bind fun y8=>bif ((!y8.2) || ((y7 != 1)&&(y7 != 2))) then ((Y6 x1.Pos 5).bind fun y9=>exC y9 (fun y9=>none) (fun e3=>some (Except.error (e3,y1.2)))) else ((U1 y1.2.t y8.1).bind fun y10=>kk3 ({x3 with Kind:=16,Fn:=y7,Num:=IntKind.wrap .u32 y10}))) else (kk3 ({x3 with Kind:=16,Fn:=y7}))) (fun(x4:Y4)=>(G.X4 y1.2 x2).bind fun y11=>exC y11 (fun y11=>(F0 y11.2 y1.1.n).bind fun y12=>some (Except.ok ((⟨y12,{x4 with Kids:=([y1.1.term,y11.1]:List Y4)},false⟩:Z7),y11.2))) (fun e4=>some (Except.error (e4.1,e4.2))))))) (fun e5=>some (Except.error (e5.1,e5.2))))
def H5 (G:Q1d) (p0:Q0) (p1:Z8):Option (Except (Z3×Q0) (Z7×Q0)) :=
  jn (fun kk1=>(idx p1.Kids 1).bind fun u1=>(idx p1.Kids 2).bind fun u2=>kk1 u1 u2) (fun(x1:Z8) (x2:Z8)=>(idx p1.Kids 0).bind fun u3=>(G.X9 p0 u3).bind fun y1=>exC y1 (fun y1=>jn (fun kk2=>(G.Z4 y1.2 x1).bind fun y2=>exC y2 (fun y2=>(G.Z4 y2.2 x2).bind fun y3=>exC y3 (fun y3=>kk2 y3.2 y3.2.t y2.1 y3.1) (fun e2=>some (Except.error (e2.1,e2.2)))) (fun e1=>some (Except.error (e1.1,e1.2)))) (fun(x12:Q0) (x13:Z6) (x14:Z7) (x15:Z7)=>bif ((x14.n == 1)&&(x15.n == 1)) then (some (Except.ok ((⟨1,(⟨9,0,0,0,false,0,false,false,([y1.1,x14.term,x15.term]:List Y4)⟩:Y4),false⟩:Z7),{x12 with t:=x13}))) else (jn (fun kk3=>(Y7 ({x12 with t:=x13}) x14.n).bind fun y4=>bif y4 then (bif x14.n == x15.n then (kk3 true) else ((Q2i x2).bind fun y5=>kk3 y5)) else (kk3 false)) (fun(x16:Bool)=>bif x16 then ((G8 ({x12 with t:=x13}) x2 x15 x14.n).bind fun y6=>exC y6 (fun y6=>(idx ([y1.1,x14.term,x15.term]:List Y4) 2).bind fun u6=>(idx ([y1.1,x14.term,x15.term]:List Y4) 2).bind fun u7=>some (Except.ok ((⟨x14.n,(⟨9,0,0,0,false,0,false,true,List.set ([y1.1,x14.term,x15.term]:List Y4) (Int.toNat 2) y6⟩:Y4),false⟩:Z7),{x12 with t:=x13}))) (fun e3=>some (Except.error (e3,{x12 with t:=x13})))) else ((Y7 ({x12 with t:=x13}) x15.n).bind fun y7=>bif y7 then ((Q2i x1).bind fun y8=>bif y8 then ((Q1h).bind fun y9=>(idx ([y1.1,x14.term,x15.term]:List Y4) 1).bind fun u9=>(idx ([y1.1,x14.term,x15.term]:List Y4) 1).bind fun u10=>some (Except.ok ((⟨x15.n,(⟨9,0,0,0,false,0,false,true,List.set ([y1.1,x14.term,x15.term]:List Y4) (Int.toNat 1) y9⟩:Y4),false⟩:Z7),{x12 with t:=x13}))) else (bif x14.n != 1 then ((Y7 ({x12 with t:=x13}) x14.n).bind fun y10=>bif !y10 then ((Y6 x1.Pos 5).bind fun y11=>exC y11 (fun y11=>none) (fun e4=>some (Except.error (e4,{x12 with t:=x13})))) else ((Y6 x2.Pos 5).bind fun y12=>exC y12 (fun y12=>none) (fun e5=>some (Except.error (e5,{x12 with t:=x13}))))) else ((Y6 x2.Pos 5).bind fun y13=>exC y13 (fun y13=>none) (fun e6=>some (Except.error (e6,{x12 with t:=x13})))))) else (bif x14.n != 1 then ((Y7 ({x12 with t:=x13}) x14.n).bind fun y14=>bif !y14 then ((Y6 x1.Pos 5).bind fun y15=>exC y15 (fun y15=>none) (fun e7=>some (Except.error (e7,{x12 with t:=x13})))) else ((Y6 x2.Pos 5).bind fun y16=>exC y16 (fun y16=>none) (fun e8=>some (Except.error (e8,{x12 with t:=x13}))))) else ((Y6 x2.Pos 5).bind fun y17=>exC y17 (fun y17=>none) (fun e9=>some (Except.error (e9,{x12 with t:=x13})))))))))) (fun e10=>some (Except.error (e10.1,e10.2))))
def H7 (G:Q1d) (p0:Q0) (p1:Z8):Option (Except (Z3×Q0) (Z7×Q0)) :=
  bif decide (p1.Name=([105,110]:List UInt8)) then (some (Except.ok ((⟨1,(⟨12,0,0,0,false,0,false,false,[]⟩:Y4),false⟩:Z7),p0))) else (bif decide (p1.Name=([111,117,116]:List UInt8)) then ((idx p1.Kids 0).bind fun u1=>(G.X4 p0 u1).bind fun y1=>exC y1 (fun y1=>some (Except.ok ((⟨0,(⟨11,0,0,0,false,0,false,false,([y1.1]:List Y4)⟩:Y4),false⟩:Z7),y1.2))) (fun e1=>some (Except.error (e1.1,e1.2)))) else (jn (fun kk1=>(O3.isNil p0.fun_).bind fun u3=>bif !u3 then ((O3.get p0.fun_).bind fun u4=>(Q0n u4 p1.Name).bind fun y2=>bif y2.2 then (kk1 false) else (kk1 ((D3 p0.codes p1.Name).isSome))) else (kk1 ((D3 p0.codes p1.Name).isSome))) (fun(x1:Bool)=>bif !x1 then ((Y6 p1.Pos 4).bind fun y3=>exC y3 (fun y3=>none) (fun e2=>some (Except.error (e2,p0)))) else ((idx p0.signs ((D3 p0.codes p1.Name).getD 0)).bind fun u6=>(Y7 p0 u6.ret).bind fun y4=>(loopM (fun(x12,x13,x14,x15)=>(bif decide (x12 < (List.length p1.Kids:Int)) then (jn (fun kk2=>(idx p1.Kids x12).bind fun u7=>(G.Z4 ({x14 with t:=x15}) u7).bind fun y5=>exC y5 (fun y5=>bif decide (x12 < (List.length u6.params:Int)) then ((idx u6.params x12).bind fun u8=>(D8 y5.2 u7 y5.1 u8).bind fun y6=>exC y6 (fun y6=>(S0 (List.length x13.Kids+List.length ([y6]:List Y4))).bind fun _=>kk2 ({x13 with Kids:=x13.Kids++([y6]:List Y4)}) y5.2 y5.2.t) (fun e3=>some (Lp.ret (Except.error (e3,y5.2))))) else (kk2 x13 y5.2 y5.2.t)) (fun e4=>some (Lp.ret (Except.error (e4.1,e4.2))))) (fun(x26:Y4) (x27:Q0) (x28:Z6)=>some (Lp.go (IntKind.wrap .i64 (x12+1),x26,{x27 with t:=x28},x28)))) else (some (Lp.brk (x12,x13,{x14 with t:=x15},x15))):Option (Lp (Int×Y4×Q0×Z6) (Except (Z3×Q0) (Z7×Q0))))) NN ((0:Int),(⟨10,0,0,(D3 p0.codes p1.Name).getD 0,false,0,false,y4,[]⟩:Y4),p0,p0.t)).bind fun o=>o.thn (fun(x12,x13,x14,x15)=>bif (List.length p1.Kids:Int) != (List.length u6.params:Int) then ((Y6 p1.Pos 5).bind fun y7=>exC y7 (fun y7=>none) (fun e5=>some (Except.error (e5,{x14 with t:=x15})))) else ((F0 ({x14 with t:=x15}) u6.ret).bind fun y8=>some (Except.ok ((⟨y8,x13,false⟩:Z7),{x14 with t:=x15})))) (fun r=>some r)))))
def N1 (G:Q1d) (p0:Q0) (p1:Z8):Option (Except (Z3×Q0) (Z7×Q0)) :=
  (idx p1.Kids 0).bind fun u1=>(G.V2 p0 u1).bind fun y1=>exC y1 (fun y1=>jn (fun kk1=>bif decide (p1.Op=([45,62]:List UInt8)) then ((M0 y1.2 u1.Pos y1.1).bind fun y2=>exC y2 (fun y2=>(M1 ({y2.2 with fun_:=y1.2.fun_}) y2.1.n).bind fun y3=>bif !y3.2 then ((Y6 u1.Pos 5).bind fun y4=>exC y4 (fun y4=>none) (fun e1=>some (Except.error (e1,{y2.2 with fun_:=y1.2.fun_})))) else (kk1 (⟨y3.1,y2.1.term,true⟩:Z7) ({y2.2 with fun_:=y1.2.fun_}) y2.2.t)) (fun e2=>some (Except.error (e2.1,{e2.2 with fun_:=y1.2.fun_})))) else (kk1 y1.1 y1.2 y1.2.t)) (fun(x10:Z7) (x11:Q0) (x12:Z6)=>jn (fun kk2=>(P6 x12 x10.n).bind fun y5=>kk2 y5.1) (fun(x13:Q6f)=>bif ((!x10.lies) || (x13.Kind != 5)) then ((Y6 u1.Pos 5).bind fun y6=>exC y6 (fun y6=>none) (fun e3=>some (Except.error (e3,{x11 with t:=x12})))) else (jn (fun kk3=>(Q3c x12 x10.n p1.Name).bind fun y7=>kk3 y7.1 y7.2) (fun(x14:U8) (x15:Int)=>(I2 p1.Pos x15).bind fun y8=>exC y8 (fun y8=>jn (fun kk4=>(U1 x12 x14.Type_).bind fun y9=>kk4 (⟨13,0,IntKind.wrap .u32 x14.At,0,false,y9,false,true,([x10.term]:List Y4)⟩:Y4)) (fun(x16:Y4)=>some (Except.ok ((⟨x14.Type_,x16,true⟩:Z7),{x11 with t:=x12})))) (fun e4=>some (Except.error (e4,{x11 with t:=x12})))))))) (fun e5=>some (Except.error (e5.1,e5.2)))
def A8 (G:Q1d) (p0:Q0) (p1:Z8):Option (Except (Z3×Q0) (Z7×Q0)) :=
  (idx p1.Kids 0).bind fun u1=>(G.K7 p0 u1).bind fun y1=>exC y1 (fun y1=>jn (fun kk1=>(Y7 y1.2 y1.1.n).bind fun y2=>bif y2 then ((M1 y1.2 y1.1.n).bind fun y3=>bif !y3.2 then ((Y6 u1.Pos 5).bind fun y4=>exC y4 (fun y4=>none) (fun e1=>some (Except.error (e1,y1.2)))) else ((U1 y1.2.t y3.1).bind fun y5=>kk1 y5)) else (kk1 (1:Int))) (fun(x1:Int)=>jn (fun kk2=>bif decide (p1.Op=([45,45]:List UInt8)) then (kk2 (IntKind.wrap .i64 (0 - x1))) else (kk2 x1)) (fun(x2:Int)=>jn (fun kk3=>(U1 y1.2.t y1.1.n).bind fun y6=>(Y7 y1.2 y1.1.n).bind fun y7=>kk3 (⟨15,0,IntKind.wrap .u32 x2,0,false,y6,p1.Kind == 11,y7,([y1.1.term]:List Y4)⟩:Y4)) (fun(x3:Y4)=>(F0 y1.2 y1.1.n).bind fun y8=>some (Except.ok ((⟨y8,x3,false⟩:Z7),y1.2)))))) (fun e2=>some (Except.error (e2.1,e2.2)))
def H4 (G:Q1d) (p0:Q0) (p1:Z8):Option (Except (Z3×Q0) (Z7×Q0)) :=
  bif p1.Kind == 1 then (some (Except.ok ((⟨1,(⟨1,0,p1.Num,0,false,0,false,false,[]⟩:Y4),false⟩:Z7),p0))) else (bif p1.Kind == 2 then ((O9 p0 p1).bind fun y1=>exC y1 (fun y1=>some (Except.ok (y1.1,y1.2))) (fun e1=>some (Except.error (e1.1,e1.2)))) else (bif p1.Kind == 3 then ((G.J4 p0 p1).bind fun y2=>exC y2 (fun y2=>some (Except.ok (y2.1,y2.2))) (fun e2=>some (Except.error (e2.1,e2.2)))) else (bif p1.Kind == 4 then ((G.J0 p0 p1).bind fun y3=>exC y3 (fun y3=>some (Except.ok (y3.1,y3.2))) (fun e3=>some (Except.error (e3.1,e3.2)))) else (bif p1.Kind == 5 then ((G.J1 p0 p1).bind fun y4=>exC y4 (fun y4=>some (Except.ok (y4.1,y4.2))) (fun e4=>some (Except.error (e4.1,e4.2)))) else (bif p1.Kind == 6 then ((G.G3 p0 p1).bind fun y5=>exC y5 (fun y5=>some (Except.ok (y5.1,y5.2))) (fun e5=>some (Except.error (e5.1,e5.2)))) else (bif p1.Kind == 7 then ((G.G4 p0 p1).bind fun y6=>exC y6 (fun y6=>some (Except.ok (y6.1,y6.2))) (fun e6=>some (Except.error (e6.1,e6.2)))) else (bif p1.Kind == 8 then ((idx p1.Kids 0).bind fun u7=>(G.Z4 p0 u7).bind fun y7=>exC y7 (fun y7=>(M1 y7.2 y7.1.n).bind fun y8=>bif !y8.2 then ((idx p1.Kids 0).bind fun u8=>(Y6 u8.Pos 5).bind fun y9=>exC y9 (fun y9=>none) (fun e7=>some (Except.error (e7,y7.2)))) else ((idx p1.Kids 1).bind fun u10=>(G.X4 y7.2 u10).bind fun y10=>exC y10 (fun y10=>(S7 y10.2 y7.1.term y10.1 y8.1 1).bind fun y11=>some (Except.ok ((⟨y8.1,y11,true⟩:Z7),y10.2))) (fun e8=>some (Except.error (e8.1,e8.2))))) (fun e9=>some (Except.error (e9.1,e9.2)))) else (bif p1.Kind == 9 then ((G.K9 p0 p1).bind fun y12=>exC y12 (fun y12=>some (Except.ok (y12.1,y12.2))) (fun e10=>some (Except.error (e10.1,e10.2)))) else (jn (fun kk1=>bif p1.Kind == 10 then (kk1 (p1.Kind == 10)) else (kk1 (p1.Kind == 11))) (fun(x1:Bool)=>bif x1 then ((G.G0 p0 p1).bind fun y13=>exC y13 (fun y13=>some (Except.ok (y13.1,y13.2))) (fun e11=>some (Except.error (e11.1,e11.2)))) else ((J5 p0 p1.Pos p1.Type_).bind fun y14=>exC y14 (fun y14=>(U1 y14.2.t y14.1).bind fun y15=>bif y15 == 0 then ((Y6 p1.Pos 5).bind fun y16=>exC y16 (fun y16=>none) (fun e12=>some (Except.error (e12,{y14.2 with fun_:=p0.fun_})))) else ((U1 y14.2.t y14.1).bind fun y17=>some (Except.ok ((⟨1,(⟨1,0,IntKind.wrap .u32 y17,0,false,0,false,false,[]⟩:Y4),false⟩:Z7),{y14.2 with fun_:=p0.fun_})))) (fun e13=>some (Except.error (e13.1,{e13.2 with fun_:=p0.fun_}))))))))))))))
def M4 (G:Q1d) (p0:Q0) (p1:Z8):Option (Except (Z3×Q0) (Z7×Q0)) :=
  (G.V2 p0 p1).bind fun y1=>exC y1 (fun y1=>(M0 y1.2 p1.Pos y1.1).bind fun y2=>exC y2 (fun y2=>some (Except.ok (y2.1,{y2.2 with fun_:=y1.2.fun_}))) (fun e1=>some (Except.error (e1.1,{e1.2 with fun_:=y1.2.fun_})))) (fun e2=>some (Except.error (e2.1,e2.2)))
def R4:Nat→Q1d
  | 0=>⟨fun _ _=>none,fun _ _=>none,fun _ _=>none,fun _ _ _=>none,fun _ _=>none,fun _ _=>none,fun _ _=>none,fun _ _=>none,fun _ _=>none,fun _ _=>none,fun _ _=>none,fun _ _=>none,fun _ _=>none⟩
  | n+1=>⟨M9 (R4 n),N0 (R4 n),M5 (R4 n),H8 (R4 n),N4 (R4 n),M7 (R4 n),N5 (R4 n),H5 (R4 n),H7 (R4 n),N1 (R4 n),A8 (R4 n),H4 (R4 n),M4 (R4 n)⟩
def X9 (p0:Q0) (p1:Z8):Option (Except (Z3×Q0) (Y4×Q0)):=(R4 NN).X9 p0 p1
def X4 (p0:Q0) (p1:Z8):Option (Except (Z3×Q0) (Y4×Q0)):=(R4 NN).X4 p0 p1
def J4 (p0:Q0) (p1:Z8):Option (Except (Z3×Q0) (Z7×Q0)):=(R4 NN).J4 p0 p1
def K4 (p0:Q0) (p1:Int) (p2:Z8):Option (Except (Z3×Q0) (Z7×Q0)):=(R4 NN).K4 p0 p1 p2
def J0 (p0:Q0) (p1:Z8):Option (Except (Z3×Q0) (Z7×Q0)):=(R4 NN).J0 p0 p1
def K7 (p0:Q0) (p1:Z8):Option (Except (Z3×Q0) (Z7×Q0)):=(R4 NN).K7 p0 p1
def J1 (p0:Q0) (p1:Z8):Option (Except (Z3×Q0) (Z7×Q0)):=(R4 NN).J1 p0 p1
def G3 (p0:Q0) (p1:Z8):Option (Except (Z3×Q0) (Z7×Q0)):=(R4 NN).G3 p0 p1
def G4 (p0:Q0) (p1:Z8):Option (Except (Z3×Q0) (Z7×Q0)):=(R4 NN).G4 p0 p1
def K9 (p0:Q0) (p1:Z8):Option (Except (Z3×Q0) (Z7×Q0)):=(R4 NN).K9 p0 p1
def G0 (p0:Q0) (p1:Z8):Option (Except (Z3×Q0) (Z7×Q0)):=(R4 NN).G0 p0 p1
def V2 (p0:Q0) (p1:Z8):Option (Except (Z3×Q0) (Z7×Q0)):=(R4 NN).V2 p0 p1
def Z4 (p0:Q0) (p1:Z8):Option (Except (Z3×Q0) (Z7×Q0)):=(R4 NN).Z4 p0 p1

def Q3r (p0:Int):Option (Int) :=
  bif p0 == 1 then (some (0:Int)) else (jn (fun kk1=>bif p0 == 5 then (kk1 (p0 == 5)) else (kk1 (p0 == 17))) (fun(x1:Bool)=>bif x1 then (some (1:Int)) else (jn (fun kk2=>bif p0 == 6 then (kk2 (p0 == 6)) else (bif p0 == 7 then (kk2 (p0 == 7)) else (kk2 (p0 == 8)))) (fun(x2:Bool)=>bif x2 then (some (2:Int)) else (bif p0 == 9 then (some (3:Int)) else (some ((-1):Int)))))))

structure Rec4 where
  E4:Y4→Option (Bool)

def Q2h (G:Rec4) (p0:Y4):Option (Bool) :=
  (Q3r p0.Kind).bind fun y1=>bif (List.length p0.Kids:Int) != y1 then (some false) else ((loopM (fun(x1:Int)=>(bif decide (x1 < (List.length p0.Kids:Int)) then ((idx p0.Kids x1).bind fun u1=>(G.E4 u1).bind fun y2=>bif !y2 then (some (Lp.ret false)) else (some (Lp.go (IntKind.wrap .i64 (x1+1))))) else (some (Lp.brk x1)):Option (Lp (Int) (Bool)))) NN (0:Int)).bind fun o=>o.thn (fun(x1:Int)=>some true) (fun r=>some r))
def Y2s:Nat→Rec4
  | 0=>⟨fun _=>none⟩
  | n+1=>⟨Q2h (Y2s n)⟩
def E4 (p0:Y4):Option (Bool):=(Y2s NN).E4 p0

def Y4d (p0:Int) (p1:Int):Option (Int) :=
  some (IntKind.wrap .u32 (p0+p1))

def Y1e (p0:Int) (p1:Int):Option (Int) :=
  some (IntKind.wrap .u32 (p0 - p1))

def Y4c (p0:Int) (p1:Int):Option (Int) :=
  some (IntKind.wrap .u32 (p0 * p1))

def Z6a (p0:Int) (p1:Int):Option (Int) :=
  (nz p1).bind fun _=>some (IntKind.wrap .i64 (Int.tdiv p0 p1))

def Z4h (p0:Int) (p1:Int):Option (Int) :=
  (Z6a (IntKind.wrap .i64 (IntKind.wrap .i32 p0)) (IntKind.wrap .i64 (IntKind.wrap .i32 p1))).bind fun y1=>some y1

def Z8b (p0:Int) (p1:Int):Option (Int) :=
  bif p1 == 0 then (some (4294967295:Int)) else ((Z4h p0 p1).bind fun y1=>some (IntKind.wrap .u32 y1))

def Z5z (p0:Int) (p1:Int):Option (Int) :=
  (nz p1).bind fun _=>some (Int.tmod p0 p1)

def Z1p (p0:Int) (p1:Int):Option (Int) :=
  (Z5z (IntKind.wrap .i64 (IntKind.wrap .i32 p0)) (IntKind.wrap .i64 (IntKind.wrap .i32 p1))).bind fun y1=>some y1

def Z7z (p0:Int) (p1:Int):Option (Int) :=
  bif p1 == 0 then (some p0) else ((Z1p p0 p1).bind fun y1=>some (IntKind.wrap .u32 y1))

def Z5f (p0:Int) (p1:Int):Option (Int) :=
  (nn (bits .and .u32 p1 31)).bind fun _=>some (IntKind.wrap .u32 (p0 * 2 ^ (min (Int.toNat (bits .and .u32 p1 31)) (IntKind.bits .u32))))

def Z1w (p0:Int) (p1:Int):Option (Int) :=
  (nn (bits .and .u32 p1 31)).bind fun _=>some (IntKind.wrap .u32 (Int.fdiv (IntKind.wrap .i32 p0) (2 ^ (min (Int.toNat (bits .and .u32 p1 31)) (IntKind.bits .i32)))))

def Q7d (p0:Bool):Option (Int) :=
  bif p0 then (some (1:Int)) else (some (0:Int))

def Y1c (p0:Bool):Option (Int) :=
  bif p0 then (some (1:Int)) else (some (0:Int))

def Q9v (p0:Int) (p1:Int):Option (Int) :=
  (Y1c (decide ((IntKind.wrap .i32 p0) < (IntKind.wrap .i32 p1)))).bind fun y1=>some y1

def Q8y (p0:Int) (p1:Int) (p2:Int):Option (Int×Int) :=
  bif p0 == 11 then ((Q7d (p1 == p2)).bind fun y1=>some (y1,(0:Int))) else (bif p0 == 12 then ((Q7d (p1 != p2)).bind fun y2=>some (y2,(0:Int))) else (bif p0 == 13 then ((Q9v p1 p2).bind fun y3=>some (y3,(0:Int))) else (bif p0 == 14 then ((Q9v p2 p1).bind fun y4=>some (y4,(0:Int))) else (bif p0 == 15 then ((Q9v p2 p1).bind fun y5=>some (IntKind.wrap .u32 (1 - y5),(0:Int))) else (bif p0 == 16 then ((Q9v p1 p2).bind fun y6=>some (IntKind.wrap .u32 (1 - y6),(0:Int))) else (some ((0:Int),(1:Int))))))))

def Q8b (p0:Int) (p1:Int) (p2:Int):Option (Int×Int) :=
  bif p0 == 1 then ((Y4d p1 p2).bind fun y1=>some (y1,(0:Int))) else (bif p0 == 2 then ((Y1e p1 p2).bind fun y2=>some (y2,(0:Int))) else (bif p0 == 3 then ((Y4c p1 p2).bind fun y3=>some (y3,(0:Int))) else (jn (fun kk1=>bif p0 == 4 then (kk1 (p0 == 4)) else (kk1 (p0 == 5))) (fun(x1:Bool)=>bif x1 then (bif p2 == 0 then (some ((0:Int),(11:Int))) else (bif p0 == 4 then ((Z8b p1 p2).bind fun y4=>some (y4,(0:Int))) else ((Z7z p1 p2).bind fun y5=>some (y5,(0:Int))))) else (bif p0 == 6 then (some (bits .and .u32 p1 p2,(0:Int))) else (bif p0 == 7 then (some (bits .or .u32 p1 p2,(0:Int))) else (bif p0 == 8 then (some (bits .xor .u32 p1 p2,(0:Int))) else (bif p0 == 9 then ((Z5f p1 p2).bind fun y6=>some (y6,(0:Int))) else (bif p0 == 10 then ((Z1w p1 p2).bind fun y7=>some (y7,(0:Int))) else (bif p0 == 17 then ((Y1e 0 p1).bind fun y8=>some (y8,(0:Int))) else (bif p0 == 18 then (some (bits .xor .u32 (if IntKind.signed .u32 then -1 else IntKind.max .u32) p1,(0:Int))) else (bif p0 == 19 then ((Q7d (p1 == 0)).bind fun y9=>some (y9,(0:Int))) else ((Q8y p0 p1 p2).bind fun y10=>some (y10.1,y10.2))))))))))))))

structure Rec5 where
  A1:Y4→Option (Int×Int)

def Z0u (G:Rec5) (p0:Y4):Option (Int×Int) :=
  bif p0.Kind == 1 then (some (p0.Num,(0:Int))) else ((idx p0.Kids 0).bind fun u1=>(G.A1 u1).bind fun y1=>bif y1.2 != 0 then (some ((0:Int),y1.2)) else (jn (fun kk1=>bif p0.Kind == 17 then (some (bits .and .u32 y1.1 255,(0:Int))) else (bif p0.Kind == 5 then ((Q8b p0.Fn y1.1 0).bind fun y2=>some (y2.1,y2.2)) else (bif p0.Kind == 9 then (bif y1.1 != 0 then ((idx p0.Kids 1).bind fun u2=>(G.A1 u2).bind fun y3=>some (y3.1,y3.2)) else ((idx p0.Kids 2).bind fun u3=>(G.A1 u3).bind fun y4=>some (y4.1,y4.2))) else (jn (fun kk2=>bif p0.Kind == 7 then (kk2 (p0.Kind == 7)) else (kk2 (p0.Kind == 8))) (fun(x1:Bool)=>bif x1 then (bif (y1.1 != 0) == (p0.Kind == 8) then ((Q7d (y1.1 != 0)).bind fun y5=>some (y5,(0:Int))) else (kk1 ())) else (kk1 ())))))) (fun(_:Unit)=>(idx p0.Kids 1).bind fun u4=>(G.A1 u4).bind fun y6=>bif y6.2 != 0 then (some ((0:Int),y6.2)) else (bif p0.Kind != 6 then ((Q7d (y6.1 != 0)).bind fun y7=>some (y7,(0:Int))) else ((Q8b p0.Fn y1.1 y6.1).bind fun y8=>some (y8.1,y8.2))))))
def rec5:Nat→Rec5
  | 0=>⟨fun _=>none⟩
  | n+1=>⟨Z0u (rec5 n)⟩
def A1 (p0:Y4):Option (Int×Int):=(rec5 NN).A1 p0

def Z4f (p0:Y4):Option (Int×Int) :=
  (E4 p0).bind fun y1=>bif !y1 then (some ((0:Int),(9:Int))) else ((A1 p0).bind fun y2=>some (y2.1,y2.2))

def R1 (p0:Q0) (p1:F2) (p2:Int):Option (Except (Z3×Q0) ((List Int)×Q0)) :=
  (U1 p0.t p2).bind fun y1=>(repl y1 0).bind fun u1=>(C5 p0 p1 p2).bind fun y2=>exC y2 (fun y2=>(loopM (fun(x1,x11,x12,x13)=>(bif decide (x11 < (List.length y2:Int)) then ((idx y2 x11).bind fun u2=>jn (fun kk1=>(Z4 ({x12 with t:=x13}) u2).bind fun y3=>exC y3 (fun y3=>(O8 y3.2 p2).bind fun y4=>(G8 y3.2 u2 y3.1 y4).bind fun y5=>exC y5 (fun y5=>kk1 y3.2 y3.2.t y5) (fun e2=>some (Lp.ret (Except.error (e2,y3.2))))) (fun e1=>some (Lp.ret (Except.error (e1.1,e1.2))))) (fun(x23:Q0) (x24:Z6) (x25:Y4)=>(Z4f x25).bind fun y6=>(I2 u2.Pos y6.2).bind fun y7=>exC y7 (fun y7=>(O8 ({x23 with t:=x24}) p2).bind fun y8=>(W7 ({x23 with t:=x24}) y8).bind fun y9=>(loopM (fun(x26,x27)=>(bif decide (x27 < y9) then ((nn (IntKind.wrap .i64 (8 * x27))).bind fun _=>(idx x26 (IntKind.wrap .i64 ((IntKind.wrap .i64 (y9 * x11))+x27))).bind fun u5=>(idx x26 (IntKind.wrap .i64 ((IntKind.wrap .i64 (y9 * x11))+x27))).bind fun u6=>some (Lp.go (List.set x26 (Int.toNat (IntKind.wrap .i64 ((IntKind.wrap .i64 (y9 * x11))+x27))) (IntKind.wrap .u8 (Int.fdiv y6.1 (2 ^ (min (Int.toNat (IntKind.wrap .i64 (8 * x27))) (IntKind.bits .u32))))),IntKind.wrap .i64 (x27+1)))) else (some (Lp.brk (x26,x27))):Option (Lp ((List Int)×Int) (Unit)))) NN (x1,(0:Int))).bind fun o=>o.thn (fun(x26,x27)=>some (Lp.go (x26,IntKind.wrap .i64 (x11+1),{x23 with t:=x24},x24))) (fun _=>none)) (fun e3=>some (Lp.ret (Except.error (e3,{x23 with t:=x24})))))) else (some (Lp.brk (x1,x11,{x12 with t:=x13},x13))):Option (Lp ((List Int)×Int×Q0×Z6) (Except (Z3×Q0) ((List Int)×Q0))))) NN (u1,(0:Int),p0,p0.t)).bind fun o=>o.thn (fun(x1,x11,x12,x13)=>some (Except.ok (x1,{x12 with t:=x13}))) (fun r=>some r)) (fun e4=>some (Except.error (e4,p0)))

def H0 (p0:Q0) (p1:F2):Option (Except (Z3×Q0) (Q0)) :=
  (C2 p0 p1).bind fun y1=>exC y1 (fun y1=>(L4 ({y1.2 with fun_:=p0.fun_}) p1.Pos p1.Name).bind fun y2=>exC y2 (fun y2=>(Q1b ({y2 with fun_:=p0.fun_}) p1.Name y1.1).bind fun y3=>(S0 (List.length y2.u.Globals+List.length ([y3]:List Q7l))).bind fun _=>(S0 (List.length y2.gtypes+List.length ([y1.1]:List Int))).bind fun _=>(R1 ({y2 with u := {y2.u with Globals:=y2.u.Globals++([y3]:List Q7l)},gtypes:=y2.gtypes++([y1.1]:List Int),fun_:=p0.fun_}) p1 y1.1).bind fun y4=>exC y4 (fun y4=>(S0 (List.length y4.2.u.Data+List.length ([y4.1]:List (List Int)))).bind fun _=>some (Except.ok ({y4.2 with u := {y4.2.u with Data:=y4.2.u.Data++([y4.1]:List (List Int))}}))) (fun e1=>some (Except.error (e1.1,e1.2)))) (fun e2=>some (Except.error (e2.1,{e2.2 with fun_:=p0.fun_})))) (fun e3=>some (Except.error (e3.1,{e3.2 with fun_:=p0.fun_})))

def E9 (p0:Q0) (p1:Pos) (p2:List UInt8):Option (Except (Z3×Q0) (Q0)) :=
  bif (((D3 p0.globals p2).isSome) || ((D3 p0.codes p2).isSome)) then ((Y6 p1 6).bind fun y1=>exC y1 (fun y1=>none) (fun e1=>some (Except.error (e1,p0)))) else (bif (Z3y p0.codes:Int) == 200 then ((Y6 p1 2).bind fun y2=>exC y2 (fun y2=>none) (fun e2=>some (Except.error (e2,p0)))) else ((p0.codes).bind fun u3=>some (Except.ok ({p0 with codes:=(some (Q7t u3 p2 (Z3y p0.codes:Int)))}))))

def A9 (p0:Q0) (p1:P3):Option (Except (Z3×Q0) (Q0)) :=
  (J5 p0 p1.Pos p1.Ret).bind fun y1=>exC y1 (fun y1=>bif y1.1 != 0 then ((B5 y1.2.t y1.1).bind fun y2=>bif !y2 then ((Y6 p1.Pos 5).bind fun y3=>exC y3 (fun y3=>none) (fun e1=>some (Except.error (e1,y1.2)))) else ((E9 y1.2 p1.Pos p1.Name).bind fun y4=>exC y4 (fun y4=>bif decide (6 < (List.length p1.Params:Int)) then ((Y6 p1.Pos 2).bind fun y5=>exC y5 (fun y5=>none) (fun e2=>some (Except.error (e2,y4)))) else ((loopM (fun(x10,x11,x12,x13)=>(bif decide (x10 < (List.length p1.Params:Int)) then ((idx p1.Params x10).bind fun u3=>(J5 ({x12 with t:=x13}) u3.Pos u3.Type_).bind fun y6=>exC y6 (fun y6=>(B5 y6.2.t y6.1).bind fun y7=>bif !y7 then ((Y6 u3.Pos 5).bind fun y8=>exC y8 (fun y8=>none) (fun e3=>some (Lp.ret (Except.error (e3,y6.2))))) else ((S0 (List.length x11.params+List.length ([y6.1]:List Int))).bind fun _=>some (Lp.go (IntKind.wrap .i64 (x10+1),(⟨x11.ret,x11.params++([y6.1]:List Int)⟩:M2),y6.2,y6.2.t)))) (fun e4=>some (Lp.ret (Except.error (e4.1,e4.2))))) else (some (Lp.brk (x10,x11,{x12 with t:=x13},x13))):Option (Lp (Int×M2×Q0×Z6) (Except (Z3×Q0) (Q0))))) NN ((0:Int),(⟨y1.1,[]⟩:M2),y4,y4.t)).bind fun o=>o.thn (fun(x10,x11,x12,x13)=>(S0 (List.length x12.signs+List.length ([x11]:List M2))).bind fun _=>(S0 (List.length x12.u.Codes+List.length ([(⟨p1.Name,y1.1 == 0,(List.length p1.Params:Int),[],[]⟩:Q4d)]:List Q4d))).bind fun _=>some (Except.ok ({x12 with t:=x13,u := {x12.u with Codes:=x12.u.Codes++([(⟨p1.Name,y1.1 == 0,(List.length p1.Params:Int),[],[]⟩:Q4d)]:List Q4d)},signs:=x12.signs++([x11]:List M2)}))) (fun r=>some r))) (fun e5=>some (Except.error (e5.1,e5.2))))) else ((E9 y1.2 p1.Pos p1.Name).bind fun y9=>exC y9 (fun y9=>bif decide (6 < (List.length p1.Params:Int)) then ((Y6 p1.Pos 2).bind fun y10=>exC y10 (fun y10=>none) (fun e6=>some (Except.error (e6,y9)))) else ((loopM (fun(x23,x24,x25,x26)=>(bif decide (x23 < (List.length p1.Params:Int)) then ((idx p1.Params x23).bind fun u8=>(J5 ({x25 with t:=x26}) u8.Pos u8.Type_).bind fun y11=>exC y11 (fun y11=>(B5 y11.2.t y11.1).bind fun y12=>bif !y12 then ((Y6 u8.Pos 5).bind fun y13=>exC y13 (fun y13=>none) (fun e7=>some (Lp.ret (Except.error (e7,y11.2))))) else ((S0 (List.length x24.params+List.length ([y11.1]:List Int))).bind fun _=>some (Lp.go (IntKind.wrap .i64 (x23+1),(⟨x24.ret,x24.params++([y11.1]:List Int)⟩:M2),y11.2,y11.2.t)))) (fun e8=>some (Lp.ret (Except.error (e8.1,e8.2))))) else (some (Lp.brk (x23,x24,{x25 with t:=x26},x26))):Option (Lp (Int×M2×Q0×Z6) (Except (Z3×Q0) (Q0))))) NN ((0:Int),(⟨y1.1,[]⟩:M2),y9,y9.t)).bind fun o=>o.thn (fun(x23,x24,x25,x26)=>(S0 (List.length x25.signs+List.length ([x24]:List M2))).bind fun _=>(S0 (List.length x25.u.Codes+List.length ([(⟨p1.Name,y1.1 == 0,(List.length p1.Params:Int),[],[]⟩:Q4d)]:List Q4d))).bind fun _=>some (Except.ok ({x25 with t:=x26,u := {x25.u with Codes:=x25.u.Codes++([(⟨p1.Name,y1.1 == 0,(List.length p1.Params:Int),[],[]⟩:Q4d)]:List Q4d)},signs:=x25.signs++([x24]:List M2)}))) (fun r=>some r))) (fun e9=>some (Except.error (e9.1,e9.2))))) (fun e10=>some (Except.error (e10.1,e10.2)))

def I3 (p0:Q0) (p1:List P3):Option (Except (Z3×Q0) (Q0)) :=
  bif !((D3 p0.codes ([109,97,105,110]:List UInt8)).isSome) then ((Y6 (⟨1,1⟩:Pos) 4).bind fun y1=>exC y1 (fun y1=>none) (fun e1=>some (Except.error (e1,p0)))) else ((idx p0.signs ((D3 p0.codes ([109,97,105,110]:List UInt8)).getD 0)).bind fun u2=>bif decide (0 < (List.length u2.params:Int)) then ((idx p1 ((D3 p0.codes ([109,97,105,110]:List UInt8)).getD 0)).bind fun u6=>(Y6 u6.Pos 5).bind fun y3=>exC y3 (fun y3=>none) (fun e3=>some (Except.error (e3,p0)))) else ((idx p0.signs ((D3 p0.codes ([109,97,105,110]:List UInt8)).getD 0)).bind fun u3=>bif u3.ret != 1 then ((idx p1 ((D3 p0.codes ([109,97,105,110]:List UInt8)).getD 0)).bind fun u4=>(Y6 u4.Pos 5).bind fun y2=>exC y2 (fun y2=>none) (fun e2=>some (Except.error (e2,p0)))) else (some (Except.ok ({p0 with u := {p0.u with Main:=(D3 p0.codes ([109,97,105,110]:List UInt8)).getD 0}})))))

def P0 (p0:Q0) (p1:Pos) (p2:List UInt8) (p3:Int):Option (Except (Z3×Q0) (Int×Q0)) :=
  (O3.get p0.fun_).bind fun u1=>(idx u1.scopes (IntKind.wrap .i64 ((List.length u1.scopes:Int) - 1))).bind fun u2=>bif (D3 u2 p2).isSome then ((Y6 p1 6).bind fun y1=>exC y1 (fun y1=>none) (fun e1=>some (Except.error (e1,p0)))) else (bif (List.length u1.slots:Int) == 200 then ((Y6 p1 2).bind fun y2=>exC y2 (fun y2=>none) (fun e2=>some (Except.error (e2,p0)))) else ((u2).bind fun u5=>(Q1b ({p0 with fun_:=(O3.some ({u1 with scopes:=List.set u1.scopes (Int.toNat (IntKind.wrap .i64 ((List.length u1.scopes:Int) - 1))) (some (Q7t u5 p2 (List.length u1.slots:Int)))}))}) p2 p3).bind fun y3=>(S0 (List.length u1.slots+List.length ([y3]:List Q7l))).bind fun _=>(S0 (List.length u1.types+List.length ([p3]:List Int))).bind fun _=>some (Except.ok (IntKind.wrap .i64 ((List.length (u1.slots++([y3]:List Q7l)):Int) - 1),{p0 with fun_:=(O3.some ({u1 with slots:=u1.slots++([y3]:List Q7l),types:=u1.types++([p3]:List Int),scopes:=List.set u1.scopes (Int.toNat (IntKind.wrap .i64 ((List.length u1.scopes:Int) - 1))) (some (Q7t u5 p2 (List.length u1.slots:Int)))}))}))))

def P1 (p0:Q0) (p1:Z8):Option (Except (Z3×Q0) (U6×Q0)) :=
  (V2 p0 p1).bind fun y1=>exC y1 (fun y1=>jn (fun kk1=>bif y1.1.lies then ((B5 y1.2.t y1.1.n).bind fun y2=>bif y2 then ((M0 y1.2 p1.Pos y1.1).bind fun y3=>exC y3 (fun y3=>kk1 y3.1 ({y3.2 with fun_:=y1.2.fun_}) y3.2.t) (fun e1=>some (Except.error (e1.1,{e1.2 with fun_:=y1.2.fun_})))) else (kk1 y1.1 y1.2 y1.2.t)) else (kk1 y1.1 y1.2 y1.2.t)) (fun(x10:Z7) (x11:Q0) (x12:Z6)=>some (Except.ok ((⟨1,([x10.term]:List Y4),[],false,[],[],[],0⟩:U6),{x11 with t:=x12})))) (fun e2=>some (Except.error (e2.1,e2.2)))

def I8 (p0:Y4) (p1:Y4) (p2:Q0) (p3:Int) (p4:List U6):Option ((List U6)) :=
  jn (fun kk1=>(U1 p2.t p3).bind fun y1=>(Y7 p2 p3).bind fun y2=>kk1 (⟨4,0,0,0,false,y1,false,y2,([p0,p1]:List Y4)⟩:Y4)) (fun(x1:Y4)=>(S0 (List.length p4+List.length ([(⟨0,[],[],false,[],[],[],0⟩:U6)]:List U6))).bind fun _=>(idx (p4++([(⟨0,[],[],false,[],[],[],0⟩:U6)]:List U6)) (List.length p4:Int)).bind fun u1=>some (List.set (p4++([(⟨0,[],[],false,[],[],[],0⟩:U6)]:List U6)) (Int.toNat (List.length p4:Int)) (⟨1,([x1]:List Y4),[],false,[],[],[],0⟩:U6)))

def P9 (p0:Q0) (p1:F2):Option (Except (Z3×Q0) ((List U6)×Q0)) :=
  (C2 p0 p1).bind fun y1=>exC y1 (fun y1=>(P0 ({y1.2 with fun_:=p0.fun_}) p1.Pos p1.Name y1.1).bind fun y2=>exC y2 (fun y2=>(O8 y2.2 y1.1).bind fun y3=>(P6 y2.2.t y1.1).bind fun y4=>(C5 y2.2 p1 y1.1).bind fun y5=>exC y5 (fun y5=>bif (List.length y5:Int) == 0 then (some (Except.ok (([(⟨9,[],[],false,[],[],[],y2.1⟩:U6)]:List U6),y2.2))) else (bif y4.1.Kind != 4 then ((idx y5 0).bind fun u1=>(idx y5 0).bind fun u2=>(Z4 y2.2 u2).bind fun y6=>exC y6 (fun y6=>(G8 y6.2 u1 y6.1 y1.1).bind fun y7=>exC y7 (fun y7=>(I8 (⟨2,0,0,y2.1,false,0,false,true,[]⟩:Y4) y7 y6.2 y3 ([(⟨9,[],[],false,[],[],[],y2.1⟩:U6)]:List U6)).bind fun y8=>some (Except.ok (y8,y6.2))) (fun e1=>some (Except.error (e1,y6.2)))) (fun e2=>some (Except.error (e2.1,e2.2)))) else ((loopM (fun(x11,x12,x13,x14)=>(bif decide (x11 < y4.1.Len) then ((Y7 ({x13 with t:=x14}) y3).bind fun y9=>jn (fun kk1=>bif decide (x11 < (List.length y5:Int)) then ((idx y5 x11).bind fun u5=>(idx y5 x11).bind fun u6=>(Z4 ({x13 with t:=x14}) u6).bind fun y10=>exC y10 (fun y10=>(G8 y10.2 u5 y10.1 y3).bind fun y11=>exC y11 (fun y11=>kk1 y11 y10.2 y10.2.t) (fun e3=>some (Lp.ret (Except.error (e3,y10.2))))) (fun e4=>some (Lp.ret (Except.error (e4.1,e4.2))))) else (kk1 (⟨1,0,0,0,false,0,false,y9,[]⟩:Y4) ({x13 with t:=x14}) x14)) (fun(x24:Y4) (x25:Q0) (x26:Z6)=>(S7 ({x25 with t:=x26}) (⟨2,0,0,y2.1,false,0,false,true,[]⟩:Y4) (⟨1,0,IntKind.wrap .u32 x11,0,false,0,false,false,[]⟩:Y4) y3 1).bind fun y12=>(I8 y12 x24 ({x25 with t:=x26}) y3 x12).bind fun y13=>some (Lp.go (IntKind.wrap .i64 (x11+1),y13,{x25 with t:=x26},x26)))) else (some (Lp.brk (x11,x12,{x13 with t:=x14},x14))):Option (Lp (Int×(List U6)×Q0×Z6) (Except (Z3×Q0) ((List U6)×Q0))))) NN ((0:Int),([(⟨9,[],[],false,[],[],[],y2.1⟩:U6)]:List U6),y2.2,y2.2.t)).bind fun o=>o.thn (fun(x11,x12,x13,x14)=>some (Except.ok (x12,{x13 with t:=x14}))) (fun r=>some r)))) (fun e5=>some (Except.error (e5,y2.2)))) (fun e6=>some (Except.error (e6.1,e6.2)))) (fun e7=>some (Except.error (e7.1,{e7.2 with fun_:=p0.fun_})))

def A4 (p0:Q0) (p1:Int) (p2:Z8):Option (Except (Z3×Q0) (U6×Q0)) :=
  (X9 p0 p2).bind fun y1=>exC y1 (fun y1=>some (Except.ok ((⟨p1,([y1.1]:List Y4),[],false,[],[],[],0⟩:U6),y1.2))) (fun e1=>some (Except.error (e1.1,e1.2)))

def H9 (p0:Q0) (p1:U0):Option (Except (Z3×Q0) (U6×Q0)) :=
  bif (List.length p1.A:Int) == 0 then ((O3.get p0.fun_).bind fun u1=>bif u1.ret != 0 then ((Y6 p1.Pos 5).bind fun y1=>exC y1 (fun y1=>none) (fun e1=>some (Except.error (e1,p0)))) else (some (Except.ok ((⟨5,[],[],false,[],[],[],0⟩:U6),p0)))) else ((idx p1.A 0).bind fun u3=>(Z4 p0 u3).bind fun y2=>exC y2 (fun y2=>(O3.get y2.2.fun_).bind fun u4=>bif u4.ret == 0 then ((Y6 u3.Pos 5).bind fun y3=>exC y3 (fun y3=>none) (fun e2=>some (Except.error (e2,y2.2)))) else ((D8 ({y2.2 with fun_:=(O3.some u4)}) u3 y2.1 u4.ret).bind fun y4=>exC y4 (fun y4=>some (Except.ok ((⟨5,([y4]:List Y4),[],false,[],[],[],0⟩:U6),y2.2))) (fun e3=>some (Except.error (e3,y2.2))))) (fun e4=>some (Except.error (e4.1,e4.2))))

structure Z1o where
  X7:Q0→(List U0)→Option (Except (Z3×Q0) ((List U6)×Q0))
  U2:Q0→(List U0)→Option (Except (Z3×Q0) ((List U6)×Q0))
  J7:Q0→U0→Option (Except (Z3×Q0) ((List U6)×Q0))
  J6:Q0→U0→Option (Except (Z3×Q0) (U6×Q0))
  F6:Q0→U0→Option (Except (Z3×Q0) ((List U6)×Q0))
  K1:Q0→(List U0)→Option (Except (Z3×Q0) ((List U6)×Q0))

def M8 (G:Z1o) (p0:Q0) (p1:List U0):Option (Except (Z3×Q0) ((List U6)×Q0)) :=
  (O3.get p0.fun_).bind fun u1=>(S0 (List.length u1.scopes+1)).bind fun _=>(G.K1 ({p0 with fun_:=(O3.some ({u1 with scopes:=u1.scopes ++ [(some [])]}))}) p1).bind fun y1=>exC y1 (fun y1=>(O3.get y1.2.fun_).bind fun u2=>(sub u2.scopes 0 (IntKind.wrap .i64 ((List.length u2.scopes:Int) - 1))).bind fun u3=>some (Except.ok (y1.1,{y1.2 with fun_:=(O3.some ({u2 with scopes:=u3}))}))) (fun e1=>some (Except.error (e1.1,e1.2)))
def N2 (G:Z1o) (p0:Q0) (p1:List U0):Option (Except (Z3×Q0) ((List U6)×Q0)) :=
  (O3.get p0.fun_).bind fun u1=>(G.X7 ({p0 with fun_:=(O3.some ({u1 with loops:=IntKind.wrap .i64 (u1.loops+1),breaks:=IntKind.wrap .i64 (u1.breaks+1)}))}) p1).bind fun y1=>exC y1 (fun y1=>(O3.get y1.2.fun_).bind fun u2=>some (Except.ok (y1.1,{y1.2 with fun_:=(O3.some ({u2 with loops:=IntKind.wrap .i64 (u2.loops - 1),breaks:=IntKind.wrap .i64 (u2.breaks - 1)}))}))) (fun e1=>some (Except.error (e1.1,e1.2)))
def N6 (G:Z1o) (p0:Q0) (p1:U0):Option (Except (Z3×Q0) ((List U6)×Q0)) :=
  (loopM (fun(x1,x11,x12,x13)=>(bif decide (x11 < (List.length p1.A:Int)) then ((idx p1.A x11).bind fun u1=>(P1 ({x12 with t:=x13}) u1).bind fun y1=>exC y1 (fun y1=>(S0 (List.length x1+List.length ([y1.1]:List U6))).bind fun _=>some (Lp.go (x1++([y1.1]:List U6),IntKind.wrap .i64 (x11+1),y1.2,y1.2.t))) (fun e1=>some (Lp.ret (Except.error (e1.1,e1.2))))) else (some (Lp.brk (x1,x11,{x12 with t:=x13},x13))):Option (Lp ((List U6)×Int×Q0×Z6) (Except (Z3×Q0) ((List U6)×Q0))))) NN ([],(0:Int),p0,p0.t)).bind fun o=>o.thn (fun(x1,x11,x12,x13)=>(loopM (fun(x24,x25,x26,x27)=>(bif decide (x24 < (List.length p1.B:Int)) then ((idx p1.B x24).bind fun u3=>(X9 ({x26 with t:=x27}) u3).bind fun y2=>exC y2 (fun y2=>(S0 (List.length x25.A+List.length ([y2.1]:List Y4))).bind fun _=>some (Lp.go (IntKind.wrap .i64 (x24+1),{x25 with A:=x25.A++([y2.1]:List Y4)},y2.2,y2.2.t))) (fun e2=>some (Lp.ret (Except.error (e2.1,e2.2))))) else (some (Lp.brk (x24,x25,{x26 with t:=x27},x27))):Option (Lp (Int×U6×Q0×Z6) (Except (Z3×Q0) ((List U6)×Q0))))) NN ((0:Int),(⟨3,[],[],false,[],[],[],0⟩:U6),{x12 with t:=x13},x13)).bind fun o=>o.thn (fun(x24,x25,x26,x27)=>(loopM (fun(x38,x39,x40,x41)=>(bif decide (x38 < (List.length p1.C:Int)) then ((idx p1.C x38).bind fun u5=>(P1 ({x40 with t:=x41}) u5).bind fun y3=>exC y3 (fun y3=>some (Lp.go (IntKind.wrap .i64 (x38+1),{x39 with Post:=y3.1.A},y3.2,y3.2.t))) (fun e3=>some (Lp.ret (Except.error (e3.1,e3.2))))) else (some (Lp.brk (x38,x39,{x40 with t:=x41},x41))):Option (Lp (Int×U6×Q0×Z6) (Except (Z3×Q0) ((List U6)×Q0))))) NN ((0:Int),x25,{x26 with t:=x27},x27)).bind fun o=>o.thn (fun(x38,x39,x40,x41)=>(G.U2 ({x40 with t:=x41}) p1.Body).bind fun y4=>exC y4 (fun y4=>(S0 (List.length x1+List.length ([{x39 with Body:=y4.1}]:List U6))).bind fun _=>some (Except.ok (x1++([{x39 with Body:=y4.1}]:List U6),y4.2))) (fun e4=>some (Except.error (e4.1,e4.2)))) (fun r=>some r)) (fun r=>some r)) (fun r=>some r)
def N3 (G:Z1o) (p0:Q0) (p1:U0):Option (Except (Z3×Q0) (U6×Q0)) :=
  (idx p1.A 0).bind fun u1=>(X4 p0 u1).bind fun y1=>exC y1 (fun y1=>(O3.get y1.2.fun_).bind fun u2=>(loopM (fun(x2,x13,x14,x15,x16,x17)=>(bif decide (x14 < (List.length p1.Cases:Int)) then ((idx p1.Cases x14).bind fun u3=>bif (u3.Default&&x13) then ((Y6 u3.Pos 6).bind fun y5=>exC y5 (fun y5=>none) (fun e4=>some (Lp.ret (Except.error (e4,{x16 with t:=x17}))))) else (bif !u3.Default then (bif (D3 x2 u3.Num).getD false then ((Y6 u3.Pos 6).bind fun y2=>exC y2 (fun y2=>none) (fun e1=>some (Lp.ret (Except.error (e1,{x16 with t:=x17}))))) else (jn (fun kk1=>bif u3.Default then (kk1 x2 true) else ((x2).bind fun u5=>kk1 (some (Q7t u5 u3.Num true)) x13)) (fun(x18:Option (List (Int×Bool))) (x19:Bool)=>(G.X7 ({x16 with t:=x17}) u3.Body).bind fun y3=>exC y3 (fun y3=>(S0 (List.length x15.Cases+List.length ([{u3 with Body:=y3.1}]:List Q8c))).bind fun _=>some (Lp.go (x18,x19,IntKind.wrap .i64 (x14+1),{x15 with Cases:=x15.Cases++([{u3 with Body:=y3.1}]:List Q8c)},y3.2,y3.2.t))) (fun e2=>some (Lp.ret (Except.error (e2.1,e2.2))))))) else (jn (fun kk2=>bif u3.Default then (kk2 x2 true) else ((x2).bind fun u7=>kk2 (some (Q7t u7 u3.Num true)) x13)) (fun(x20:Option (List (Int×Bool))) (x21:Bool)=>(G.X7 ({x16 with t:=x17}) u3.Body).bind fun y4=>exC y4 (fun y4=>(S0 (List.length x15.Cases+List.length ([{u3 with Body:=y4.1}]:List Q8c))).bind fun _=>some (Lp.go (x20,x21,IntKind.wrap .i64 (x14+1),{x15 with Cases:=x15.Cases++([{u3 with Body:=y4.1}]:List Q8c)},y4.2,y4.2.t))) (fun e3=>some (Lp.ret (Except.error (e3.1,e3.2)))))))) else (some (Lp.brk (x2,x13,x14,x15,{x16 with t:=x17},x17))):Option (Lp ((Option (List (Int×Bool)))×Bool×Int×U6×Q0×Z6) (Except (Z3×Q0) (U6×Q0))))) NN ((some []),false,(0:Int),(⟨4,([y1.1]:List Y4),[],false,[],[],[],0⟩:U6),{y1.2 with fun_:=(O3.some ({u2 with breaks:=IntKind.wrap .i64 (u2.breaks+1)}))},y1.2.t)).bind fun o=>o.thn (fun(x2,x13,x14,x15,x16,x17)=>(O3.get x16.fun_).bind fun u10=>some (Except.ok (x15,{x16 with t:=x17,fun_:=(O3.some ({u10 with breaks:=IntKind.wrap .i64 (u10.breaks - 1)}))}))) (fun r=>some r)) (fun e5=>some (Except.error (e5.1,e5.2)))
def A7 (G:Z1o) (p0:Q0) (p1:U0):Option (Except (Z3×Q0) ((List U6)×Q0)) :=
  bif p1.Kind == 1 then ((idx p1.A 0).bind fun u1=>(P1 p0 u1).bind fun y1=>exC y1 (fun y1=>some (Except.ok (([y1.1]:List U6),y1.2))) (fun e1=>some (Except.error (e1.1,e1.2)))) else (bif p1.Kind == 2 then ((idx p1.Var 0).bind fun u3=>(P9 p0 u3).bind fun y2=>exC y2 (fun y2=>some (Except.ok (y2.1,y2.2))) (fun e2=>some (Except.error (e2.1,e2.2)))) else (bif p1.Kind == 3 then ((idx p1.A 0).bind fun u5=>(A4 p0 2 u5).bind fun y3=>exC y3 (fun y3=>(G.X7 y3.2 p1.Body).bind fun y4=>exC y4 (fun y4=>(G.X7 y4.2 p1.Else).bind fun y5=>exC y5 (fun y5=>some (Except.ok (([{y3.1 with Body:=y4.1,Else:=y5.1}]:List U6),y5.2))) (fun e3=>some (Except.error (e3.1,e3.2)))) (fun e4=>some (Except.error (e4.1,e4.2)))) (fun e5=>some (Except.error (e5.1,e5.2)))) else (bif p1.Kind == 4 then ((idx p1.A 0).bind fun u9=>(A4 p0 3 u9).bind fun y6=>exC y6 (fun y6=>(G.U2 y6.2 p1.Body).bind fun y7=>exC y7 (fun y7=>some (Except.ok (([{y6.1 with Body:=y7.1}]:List U6),y7.2))) (fun e6=>some (Except.error (e6.1,e6.2)))) (fun e7=>some (Except.error (e7.1,e7.2)))) else (bif p1.Kind == 5 then ((G.U2 p0 p1.Body).bind fun y8=>exC y8 (fun y8=>(idx p1.A 0).bind fun u12=>(A4 y8.2 3 u12).bind fun y9=>exC y9 (fun y9=>some (Except.ok (([{y9.1 with First:=true,Body:=y8.1}]:List U6),y9.2))) (fun e8=>some (Except.error (e8.1,e8.2)))) (fun e9=>some (Except.error (e9.1,e9.2)))) else (bif p1.Kind == 6 then ((G.J7 p0 p1).bind fun y10=>exC y10 (fun y10=>some (Except.ok (([(⟨8,[],[],false,y10.1,[],[],0⟩:U6)]:List U6),y10.2))) (fun e10=>some (Except.error (e10.1,e10.2)))) else (bif p1.Kind == 7 then ((G.J6 p0 p1).bind fun y11=>exC y11 (fun y11=>some (Except.ok (([y11.1]:List U6),y11.2))) (fun e11=>some (Except.error (e11.1,e11.2)))) else (bif p1.Kind == 8 then ((H9 p0 p1).bind fun y12=>exC y12 (fun y12=>some (Except.ok (([y12.1]:List U6),y12.2))) (fun e12=>some (Except.error (e12.1,e12.2)))) else (bif p1.Kind == 11 then ((G.X7 p0 p1.Body).bind fun y13=>exC y13 (fun y13=>some (Except.ok (([(⟨8,[],[],false,y13.1,[],[],0⟩:U6)]:List U6),y13.2))) (fun e13=>some (Except.error (e13.1,e13.2)))) else (bif p1.Kind == 9 then ((O3.get p0.fun_).bind fun u19=>bif u19.breaks == 0 then ((Y6 p1.Pos 9).bind fun y14=>exC y14 (fun y14=>none) (fun e14=>some (Except.error (e14,p0)))) else (some (Except.ok (([(⟨6,[],[],false,[],[],[],0⟩:U6)]:List U6),p0)))) else (bif p1.Kind == 10 then ((O3.get p0.fun_).bind fun u21=>bif u21.loops == 0 then ((Y6 p1.Pos 9).bind fun y15=>exC y15 (fun y15=>none) (fun e15=>some (Except.error (e15,p0)))) else (some (Except.ok (([(⟨7,[],[],false,[],[],[],0⟩:U6)]:List U6),p0)))) else (some (Except.ok ([],p0)))))))))))))
def I0 (G:Z1o) (p0:Q0) (p1:List U0):Option (Except (Z3×Q0) ((List U6)×Q0)) :=
  (loopM (fun(x1,x11,x12,x13)=>(bif decide (x11 < (List.length p1:Int)) then ((idx p1 x11).bind fun u1=>(G.F6 ({x12 with t:=x13}) u1).bind fun y1=>exC y1 (fun y1=>(S0 (List.length x1+List.length y1.1)).bind fun _=>some (Lp.go (x1++y1.1,IntKind.wrap .i64 (x11+1),y1.2,y1.2.t))) (fun e1=>some (Lp.ret (Except.error (e1.1,e1.2))))) else (some (Lp.brk (x1,x11,{x12 with t:=x13},x13))):Option (Lp ((List U6)×Int×Q0×Z6) (Except (Z3×Q0) ((List U6)×Q0))))) NN ([],(0:Int),p0,p0.t)).bind fun o=>o.thn (fun(x1,x11,x12,x13)=>some (Except.ok (x1,{x12 with t:=x13}))) (fun r=>some r)
def Q8h:Nat→Z1o
  | 0=>⟨fun _ _=>none,fun _ _=>none,fun _ _=>none,fun _ _=>none,fun _ _=>none,fun _ _=>none⟩
  | n+1=>⟨M8 (Q8h n),N2 (Q8h n),N6 (Q8h n),N3 (Q8h n),A7 (Q8h n),I0 (Q8h n)⟩
def X7 (p0:Q0) (p1:List U0):Option (Except (Z3×Q0) ((List U6)×Q0)):=(Q8h NN).X7 p0 p1
def U2 (p0:Q0) (p1:List U0):Option (Except (Z3×Q0) ((List U6)×Q0)):=(Q8h NN).U2 p0 p1
def J7 (p0:Q0) (p1:U0):Option (Except (Z3×Q0) ((List U6)×Q0)):=(Q8h NN).J7 p0 p1
def J6 (p0:Q0) (p1:U0):Option (Except (Z3×Q0) (U6×Q0)):=(Q8h NN).J6 p0 p1
def F6 (p0:Q0) (p1:U0):Option (Except (Z3×Q0) ((List U6)×Q0)):=(Q8h NN).F6 p0 p1
def K1 (p0:Q0) (p1:List U0):Option (Except (Z3×Q0) ((List U6)×Q0)):=(Q8h NN).K1 p0 p1

def R3 (p0:Q0) (p1:Int) (p2:P3):Option (Except (Z3×Q0) (Q0)) :=
  (idx p0.signs p1).bind fun u1=>(loopM (fun(x2,x10,x11)=>(bif decide (x10 < (List.length p2.Params:Int)) then ((idx p2.Params x10).bind fun u2=>(idx x11.signs p1).bind fun u3=>(idx u3.params x10).bind fun u4=>(P0 ({x11 with t:=(⟨x2⟩:Z6)}) u2.Pos u2.Name u4).bind fun y1=>exC y1 (fun y1=>some (Lp.go (y1.2.t.list,IntKind.wrap .i64 (x10+1),y1.2))) (fun e1=>some (Lp.ret (Except.error (e1.1,e1.2))))) else (some (Lp.brk (x2,x10,{x11 with t:=(⟨x2⟩:Z6)}))):Option (Lp ((List U4)×Int×Q0) (Except (Z3×Q0) (Q0))))) NN (p0.t.list,(0:Int),{p0 with fun_:=(O3.some (⟨u1.ret,[],[],([(some [])]:List (Option (List ((List UInt8)×Int)))),0,0⟩:G5))})).bind fun o=>o.thn (fun(x2,x10,x11)=>(K1 ({x11 with t:=(⟨x2⟩:Z6)}) p2.Body).bind fun y2=>exC y2 (fun y2=>(O3.get y2.2.fun_).bind fun u6=>(idx y2.2.u.Codes p1).bind fun u7=>(idx y2.2.u.Codes p1).bind fun u8=>(idx (List.set y2.2.u.Codes (Int.toNat p1) ({u8 with Body:=y2.1})) p1).bind fun u9=>(idx (List.set y2.2.u.Codes (Int.toNat p1) ({u8 with Body:=y2.1})) p1).bind fun u10=>some (Except.ok ({y2.2 with u := {y2.2.u with Codes:=List.set (List.set y2.2.u.Codes (Int.toNat p1) ({u8 with Body:=y2.1})) (Int.toNat p1) ({u10 with Slots:=u6.slots})},fun_:=O3.dead}))) (fun e2=>some (Except.error (e2.1,e2.2)))) (fun r=>some r)

def S9 (p0:Q0) (p1:J2):Option (Except (Z3×Q0) (Q0)) :=
  (M6 p0 p1.Structs).bind fun y1=>exC y1 (fun y1=>(loopM (fun(x10,x11,x12)=>(bif decide (x10 < (List.length p1.Globals:Int)) then ((idx p1.Globals x10).bind fun u1=>(H0 ({x11 with t:=x12}) u1).bind fun y2=>exC y2 (fun y2=>some (Lp.go (IntKind.wrap .i64 (x10+1),y2,y2.t))) (fun e1=>some (Lp.ret (Except.error (e1.1,e1.2))))) else (some (Lp.brk (x10,{x11 with t:=x12},x12))):Option (Lp (Int×Q0×Z6) (Except (Z3×Q0) (Q0))))) NN ((0:Int),{y1 with fun_:=p0.fun_},y1.t)).bind fun o=>o.thn (fun(x10,x11,x12)=>(loopM (fun(x22,x23,x24)=>(bif decide (x22 < (List.length p1.Funcs:Int)) then ((idx p1.Funcs x22).bind fun u3=>(A9 ({x23 with t:=x24}) u3).bind fun y3=>exC y3 (fun y3=>some (Lp.go (IntKind.wrap .i64 (x22+1),{y3 with fun_:=x23.fun_},y3.t))) (fun e2=>some (Lp.ret (Except.error (e2.1,{e2.2 with fun_:=x23.fun_}))))) else (some (Lp.brk (x22,{x23 with t:=x24},x24))):Option (Lp (Int×Q0×Z6) (Except (Z3×Q0) (Q0))))) NN ((0:Int),{x11 with t:=x12},x12)).bind fun o=>o.thn (fun(x22,x23,x24)=>(I3 ({x23 with t:=x24}) p1.Funcs).bind fun y4=>exC y4 (fun y4=>(loopM (fun(x34,x35,x36)=>(bif decide (x34 < (List.length p1.Funcs:Int)) then ((idx p1.Funcs x34).bind fun u5=>(R3 ({x35 with t:=x36}) x34 u5).bind fun y5=>exC y5 (fun y5=>some (Lp.go (IntKind.wrap .i64 (x34+1),y5,y5.t))) (fun e3=>some (Lp.ret (Except.error (e3.1,e3.2))))) else (some (Lp.brk (x34,{x35 with t:=x36},x36))):Option (Lp (Int×Q0×Z6) (Except (Z3×Q0) (Q0))))) NN ((0:Int),{y4 with fun_:=x23.fun_},y4.t)).bind fun o=>o.thn (fun(x34,x35,x36)=>some (Except.ok ({x35 with t:=x36}))) (fun r=>some r)) (fun e4=>some (Except.error (e4.1,{e4.2 with fun_:=x23.fun_})))) (fun r=>some r)) (fun r=>some r)) (fun e12=>some (Except.error (e12.1,{e12.2 with fun_:=p0.fun_})))

def Q1p (p0:J2):Option (Z2u×Pos×Int) :=
  (Y2g).bind fun y1=>(S9 (⟨y1,(⟨[],[],[],0⟩:Z2u),(some []),(some []),[],[],O3.nil⟩:Q0) p0).bind fun y2=>exC y2 (fun y2=>some (y2.u,(⟨0,0⟩:Pos),(0:Int))) (fun e1=>some ((⟨[],[],[],0⟩:Z2u),e1.1.pos,e1.1.e))

def Q9z  : Option (Bool) :=
  (Z3f ([105,110,116,32,109,97,105,110,40,41,32,123,32,105,110,116,32,97,91,50,93,59,32,97,91,49,93,32,61,32,51,59,32,114,101,116,117,114,110,32,97,91,49,93,59,32,125]:List UInt8)).bind fun y1=>(Q1p y1.1).bind fun y2=>bif (((y1.2.2 == 0)&&(y2.2.2 == 0))&&((List.length y2.1.Codes:Int) == 1)) then ((idx y2.1.Codes 0).bind fun u1=>bif (List.length u1.Slots:Int) == 1 then ((idx y2.1.Codes 0).bind fun u2=>(idx u2.Slots 0).bind fun u3=>bif u3.Size == 8 then ((idx y2.1.Codes 0).bind fun u4=>some ((List.length u4.Body:Int) == 3)) else (some false)) else (some false)) else (some false)

def Z3t (p0:List D4):Option ((List D4)) :=
  (S0 (List.length ([]:List D4)+List.length p0)).bind fun _=>some (([]:List D4)++p0)

def Z3s (p0:List F2):Option ((List F2)) :=
  (S0 (List.length ([]:List F2)+List.length p0)).bind fun _=>some (([]:List F2)++p0)

def Z0n (p0:List Int):Option ((List Int)) :=
  (S0 (List.length ([]:List Int)+List.length p0)).bind fun _=>some (([]:List Int)++p0)

def Z3r (p0:List Z8):Option ((List Z8)) :=
  (S0 (List.length ([]:List Z8)+List.length p0)).bind fun _=>some (([]:List Z8)++p0)

structure Rec7 where
  O2:Z8→Option (Z8)
  L2:(List Z8)→Option ((List Z8))

def Q5t (G:Rec7) (p0:Z8):Option (Z8) :=
  (G.L2 p0.Kids).bind fun y1=>some ({p0 with Pos:=(⟨0,0⟩:Pos),Kids:=y1})
def Z4y (G:Rec7) (p0:List Z8):Option ((List Z8)) :=
  (Z3r p0).bind fun y1=>(loopM (fun(x1,x2)=>(bif decide (x2 < (List.length y1:Int)) then ((idx x1 x2).bind fun u1=>(G.O2 u1).bind fun y2=>(idx x1 x2).bind fun u2=>(idx x1 x2).bind fun u3=>some (Lp.go (List.set x1 (Int.toNat x2) y2,IntKind.wrap .i64 (x2+1)))) else (some (Lp.brk (x1,x2))):Option (Lp ((List Z8)×Int) (Unit)))) NN (y1,(0:Int))).bind fun o=>o.thn (fun(x1,x2)=>some x1) (fun _=>none)
def rec7:Nat→Rec7
  | 0=>⟨fun _=>none,fun _=>none⟩
  | n+1=>⟨Q5t (rec7 n),Z4y (rec7 n)⟩
def O2 (p0:Z8):Option (Z8):=(rec7 NN).O2 p0
def L2 (p0:List Z8):Option ((List Z8)):=(rec7 NN).L2 p0

def Q8w (p0:F2):Option (F2) :=
  (Z0n p0.Dims).bind fun y1=>(L2 p0.Init).bind fun y2=>some ({p0 with Pos:=(⟨0,0⟩:Pos),Dims:=y1,Init:=y2})

def Q7p (p0:List F2):Option ((List F2)) :=
  (Z3s p0).bind fun y1=>(loopM (fun(x1,x2)=>(bif decide (x2 < (List.length y1:Int)) then ((idx x1 x2).bind fun u1=>(Q8w u1).bind fun y2=>(idx x1 x2).bind fun u2=>(idx x1 x2).bind fun u3=>some (Lp.go (List.set x1 (Int.toNat x2) y2,IntKind.wrap .i64 (x2+1)))) else (some (Lp.brk (x1,x2))):Option (Lp ((List F2)×Int) (Unit)))) NN (y1,(0:Int))).bind fun o=>o.thn (fun(x1,x2)=>some x1) (fun _=>none)

def Z2w (p0:D4):Option (D4) :=
  (Q7p p0.Fields).bind fun y1=>some (⟨(⟨0,0⟩:Pos),p0.Name,y1⟩:D4)

def Z9m (p0:List D4):Option ((List D4)) :=
  (Z3t p0).bind fun y1=>(loopM (fun(x1,x2)=>(bif decide (x2 < (List.length y1:Int)) then ((idx x1 x2).bind fun u1=>(Z2w u1).bind fun y2=>(idx x1 x2).bind fun u2=>(idx x1 x2).bind fun u3=>some (Lp.go (List.set x1 (Int.toNat x2) y2,IntKind.wrap .i64 (x2+1)))) else (some (Lp.brk (x1,x2))):Option (Lp ((List D4)×Int) (Unit)))) NN (y1,(0:Int))).bind fun o=>o.thn (fun(x1,x2)=>some x1) (fun _=>none)

def Z3q (p0:List P3):Option ((List P3)) :=
  (S0 (List.length ([]:List P3)+List.length p0)).bind fun _=>some (([]:List P3)++p0)

def Z3p (p0:List U0):Option ((List U0)) :=
  (S0 (List.length ([]:List U0)+List.length p0)).bind fun _=>some (([]:List U0)++p0)

def Z3o (p0:List E8):Option ((List E8)) :=
  (S0 (List.length ([]:List E8)+List.length p0)).bind fun _=>some (([]:List E8)++p0)

structure Rec8 where
  R9:E8→Option (E8)
  Q4q:(List E8)→Option ((List E8))
  I4:U0→Option (U0)
  A6:(List U0)→Option ((List U0))

def Q3i (G:Rec8) (p0:E8):Option (E8) :=
  (G.A6 p0.Body).bind fun y1=>some ({p0 with Pos:=(⟨0,0⟩:Pos),Body:=y1})
def Z4w (G:Rec8) (p0:List E8):Option ((List E8)) :=
  (Z3o p0).bind fun y1=>(loopM (fun(x1,x2)=>(bif decide (x2 < (List.length y1:Int)) then ((idx x1 x2).bind fun u1=>(G.R9 u1).bind fun y2=>(idx x1 x2).bind fun u2=>(idx x1 x2).bind fun u3=>some (Lp.go (List.set x1 (Int.toNat x2) y2,IntKind.wrap .i64 (x2+1)))) else (some (Lp.brk (x1,x2))):Option (Lp ((List E8)×Int) (Unit)))) NN (y1,(0:Int))).bind fun o=>o.thn (fun(x1,x2)=>some x1) (fun _=>none)
def Q5s (G:Rec8) (p0:U0):Option (U0) :=
  (L2 p0.A).bind fun y1=>(L2 p0.B).bind fun y2=>(L2 p0.C).bind fun y3=>(Q7p p0.Var).bind fun y4=>(G.A6 p0.Body).bind fun y5=>(G.A6 p0.Else).bind fun y6=>(G.Q4q p0.Cases).bind fun y7=>some (⟨p0.Kind,(⟨0,0⟩:Pos),y1,y2,y3,y4,y5,y6,y7⟩:U0)
def Z4x (G:Rec8) (p0:List U0):Option ((List U0)) :=
  (Z3p p0).bind fun y1=>(loopM (fun(x1,x2)=>(bif decide (x2 < (List.length y1:Int)) then ((idx x1 x2).bind fun u1=>(G.I4 u1).bind fun y2=>(idx x1 x2).bind fun u2=>(idx x1 x2).bind fun u3=>some (Lp.go (List.set x1 (Int.toNat x2) y2,IntKind.wrap .i64 (x2+1)))) else (some (Lp.brk (x1,x2))):Option (Lp ((List U0)×Int) (Unit)))) NN (y1,(0:Int))).bind fun o=>o.thn (fun(x1,x2)=>some x1) (fun _=>none)
def Z7o:Nat→Rec8
  | 0=>⟨fun _=>none,fun _=>none,fun _=>none,fun _=>none⟩
  | n+1=>⟨Q3i (Z7o n),Z4w (Z7o n),Q5s (Z7o n),Z4x (Z7o n)⟩
def R9 (p0:E8):Option (E8):=(Z7o NN).R9 p0
def Q4q (p0:List E8):Option ((List E8)):=(Z7o NN).Q4q p0
def I4 (p0:U0):Option (U0):=(Z7o NN).I4 p0
def A6 (p0:List U0):Option ((List U0)):=(Z7o NN).A6 p0

def Z2v (p0:P3):Option (P3) :=
  (Q7p p0.Params).bind fun y1=>(A6 p0.Body).bind fun y2=>some (⟨(⟨0,0⟩:Pos),p0.Ret,p0.Name,y1,y2⟩:P3)

def Z4j (p0:List P3):Option ((List P3)) :=
  (Z3q p0).bind fun y1=>(loopM (fun(x1,x2)=>(bif decide (x2 < (List.length y1:Int)) then ((idx x1 x2).bind fun u1=>(Z2v u1).bind fun y2=>(idx x1 x2).bind fun u2=>(idx x1 x2).bind fun u3=>some (Lp.go (List.set x1 (Int.toNat x2) y2,IntKind.wrap .i64 (x2+1)))) else (some (Lp.brk (x1,x2))):Option (Lp ((List P3)×Int) (Unit)))) NN (y1,(0:Int))).bind fun o=>o.thn (fun(x1,x2)=>some x1) (fun _=>none)

def Z3n (p0:J2):Option (J2) :=
  (Z9m p0.Structs).bind fun y1=>(Q7p p0.Globals).bind fun y2=>(Z4j p0.Funcs).bind fun y3=>some (⟨y1,y2,y3⟩:J2)

def Q9y (p0:List Q7l) (p1:List Q7l):Option (Bool) :=
  bif (List.length p0:Int) != (List.length p1:Int) then (some false) else ((loopM (fun(x1:Int)=>(bif decide (x1 < (List.length p0:Int)) then ((idx p0 x1).bind fun u1=>(idx p1 x1).bind fun u2=>bif u1.Size != u2.Size then (some (Lp.ret false)) else ((idx p0 x1).bind fun u3=>(idx p1 x1).bind fun u4=>bif u3.Align != u4.Align then (some (Lp.ret false)) else ((idx p0 x1).bind fun u5=>(idx p1 x1).bind fun u6=>bif u5.Cell != u6.Cell then (some (Lp.ret false)) else (some (Lp.go (IntKind.wrap .i64 (x1+1))))))) else (some (Lp.brk x1)):Option (Lp (Int) (Bool)))) NN (0:Int)).bind fun o=>o.thn (fun(x1:Int)=>some true) (fun r=>some r))

structure Rec9 where
  Q0y:(List Y4)→(List Y4)→Option (Bool)

def Z0s (G:Rec9) (p0:List Y4) (p1:List Y4):Option (Bool) :=
  bif (List.length p0:Int) != (List.length p1:Int) then (some false) else ((loopM (fun(x1:Int)=>(bif decide (x1 < (List.length p0:Int)) then (jn (fun kk1=>(idx p0 x1).bind fun u1=>(idx p1 x1).bind fun u2=>kk1 u1 u2) (fun(x2:Y4) (x3:Y4)=>bif ((((((((x2.Kind != x3.Kind) || (x2.Fn != x3.Fn)) || (x2.Num != x3.Num)) || (x2.Var != x3.Var)) || (!(x2.Global == x3.Global))) || (x2.Size != x3.Size)) || (!(x2.Post == x3.Post))) || (!(x2.Ptr == x3.Ptr))) then (some (Lp.ret false)) else ((G.Q0y x2.Kids x3.Kids).bind fun y1=>bif !y1 then (some (Lp.ret false)) else (some (Lp.go (IntKind.wrap .i64 (x1+1))))))) else (some (Lp.brk x1)):Option (Lp (Int) (Bool)))) NN (0:Int)).bind fun o=>o.thn (fun(x1:Int)=>some true) (fun r=>some r))
def rec9:Nat→Rec9
  | 0=>⟨fun _ _=>none⟩
  | n+1=>⟨Z0s (rec9 n)⟩
def Q0y (p0:List Y4) (p1:List Y4):Option (Bool):=(rec9 NN).Q0y p0 p1

structure Rec10 where
  L3:(List U6)→(List U6)→Option (Bool)

def Q8x (G:Rec10) (p0:List U6) (p1:List U6):Option (Bool) :=
  bif (List.length p0:Int) != (List.length p1:Int) then (some false) else ((loopM (fun(x1:Int)=>(bif decide (x1 < (List.length p0:Int)) then (jn (fun kk1=>(idx p0 x1).bind fun u1=>(idx p1 x1).bind fun u2=>kk1 u1 u2) (fun(x2:U6) (x3:U6)=>bif (((x2.Kind != x3.Kind) || (!(x2.First == x3.First))) || (x2.Var != x3.Var)) then (some (Lp.ret false)) else ((Q0y x2.A x3.A).bind fun y1=>bif !y1 then (some (Lp.ret false)) else ((Q0y x2.Post x3.Post).bind fun y2=>bif !y2 then (some (Lp.ret false)) else ((G.L3 x2.Body x3.Body).bind fun y3=>bif !y3 then (some (Lp.ret false)) else ((G.L3 x2.Else x3.Else).bind fun y4=>bif ((!y4) || ((List.length x2.Cases:Int) != (List.length x3.Cases:Int))) then (some (Lp.ret false)) else ((loopM (fun(x4:Int)=>(bif decide (x4 < (List.length x2.Cases:Int)) then (jn (fun kk2=>(idx x2.Cases x4).bind fun u3=>(idx x3.Cases x4).bind fun u4=>kk2 u3 u4) (fun(x5:Q8c) (x6:Q8c)=>bif ((!(x5.Default == x6.Default)) || (x5.Num != x6.Num)) then (some (Lp.ret false)) else ((G.L3 x5.Body x6.Body).bind fun y5=>bif !y5 then (some (Lp.ret false)) else (some (Lp.go (IntKind.wrap .i64 (x4+1))))))) else (some (Lp.brk x4)):Option (Lp (Int) (Bool)))) NN (0:Int)).bind fun o=>o.thn (fun(x4:Int)=>some (Lp.go (IntKind.wrap .i64 (x1+1)))) (fun r=>some (Lp.ret r))))))))) else (some (Lp.brk x1)):Option (Lp (Int) (Bool)))) NN (0:Int)).bind fun o=>o.thn (fun(x1:Int)=>some true) (fun r=>some r))
def Y8w:Nat→Rec10
  | 0=>⟨fun _ _=>none⟩
  | n+1=>⟨Q8x (Y8w n)⟩
def L3 (p0:List U6) (p1:List U6):Option (Bool):=(Y8w NN).L3 p0 p1

def Z4b (p0:Z2u) (p1:Z2u):Option (Bool) :=
  (Q9y p0.Globals p1.Globals).bind fun y1=>bif ((((!y1) || ((List.length p0.Data:Int) != (List.length p1.Data:Int))) || ((List.length p0.Codes:Int) != (List.length p1.Codes:Int))) || (p0.Main != p1.Main)) then (some false) else ((loopM (fun(x1:Int)=>(bif decide (x1 < (List.length p0.Data:Int)) then ((idx p0.Data x1).bind fun u1=>(idx p1.Data x1).bind fun u2=>bif !(decide (Z9k u1=Z9k u2)) then (some (Lp.ret false)) else (some (Lp.go (IntKind.wrap .i64 (x1+1))))) else (some (Lp.brk x1)):Option (Lp (Int) (Bool)))) NN (0:Int)).bind fun o=>o.thn (fun(x1:Int)=>(loopM (fun(x2:Int)=>(bif decide (x2 < (List.length p0.Codes:Int)) then (jn (fun kk1=>(idx p0.Codes x2).bind fun u3=>(idx p1.Codes x2).bind fun u4=>kk1 u3 u4) (fun(x3:Q4d) (x4:Q4d)=>bif ((!(x3.Void == x4.Void)) || (x3.Params != x4.Params)) then (some (Lp.ret false)) else ((Q9y x3.Slots x4.Slots).bind fun y2=>bif !y2 then (some (Lp.ret false)) else ((L3 x3.Body x4.Body).bind fun y3=>bif !y3 then (some (Lp.ret false)) else (some (Lp.go (IntKind.wrap .i64 (x2+1)))))))) else (some (Lp.brk x2)):Option (Lp (Int) (Bool)))) NN (0:Int)).bind fun o=>o.thn (fun(x2:Int)=>some true) (fun r=>some r)) (fun r=>some r))

def Q4v (p0:List UInt8):Option (Bool) :=
  bif decide (4000 < (List.length p0:Int)) then ((Q9z).bind fun y1=>some y1) else ((Z3f p0).bind fun y2=>bif y2.2.2 != 0 then ((Q9z).bind fun y3=>some y3) else ((Q1p y2.1).bind fun y4=>(Z3n y2.1).bind fun y5=>(Q1p y5).bind fun y6=>bif y4.2.2 != y6.2.2 then (some false) else (bif !((y4.2.2 == 0) == ((y4.2.1.Line == 0)&&(y4.2.1.Col == 0))) then (some false) else ((Q9z).bind fun y7=>bif y7 then ((Z4b y4.1 y6.1).bind fun y8=>some y8) else (some false)))))
end Go.Proofs.YtfffghclkmbopaaGreat
