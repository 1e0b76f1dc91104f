/- The models of Go functions: what each computes. Printed by gen2.py. -/
import Derived.Test.YtbolaohekbmndaaGreatDoorModel
import Derived.Laws.Entries
import Derived.Lib.Index
import Derived.Lib.Join
import Derived.Lib.ItoaNum
set_option linter.unusedVariables false
namespace Go.Proofs.YtbolaohekbmndaaGreatDoor

def strings_Index (p0 p1:List UInt8):Option Int:=if p0.length < 4294967281 then some (Go.Lib.index p0 p1) else none
def strings_Join (p0:List (List UInt8)) (p1:List UInt8):Option (List UInt8):=if p0.length≤8589934592∧(Go.Lib.join p0 p1).length≤8589934592 then some (Go.Lib.join p0 p1) else none
def Q0l (p0 p1:Int):Option (List UInt8):=if 0≤p0∧p0 < 18446744073709551616∧p1=10 then some (Lib.itoa p0) else none
structure Pos where
  Line:Int
  Col:Int
  deriving DecidableEq
structure G5 where
  Word:List UInt8
  Name:List UInt8
  Stars:Int
  deriving DecidableEq
structure Z6 where
  Kind:Int
  Pos:Pos
  Op:List UInt8
  Name:List UInt8
  Num:Int
  Type_:G5
  Kids:List Z6
structure J8 where
  Pos:Pos
  Type_:G5
  Name:List UInt8
  Dims:List Int
  Init:List Z6
  Brace:Bool
structure F7 where
  Pos:Pos
  Name:List UInt8
  Fields:List J8
structure Z0b (S:Type) where
  Pos:Pos
  Default:Bool
  Num:Int
  Body:List S
structure U5 where
  Kind:Int
  Pos:Pos
  A:List Z6
  B:List Z6
  C:List Z6
  Var:List J8
  Body:List U5
  Else:List U5
  Cases:List (Z0b U5)
abbrev K7:=Z0b U5
structure P4 where
  Pos:Pos
  Ret:G5
  Name:List UInt8
  Params:List J8
  Body:List U5
structure K4 where
  Structs:List F7
  Globals:List J8
  Funcs:List P4
structure F9 where
  s:List UInt8
  pos:Pos
  deriving DecidableEq
structure Y6 where
  Kind:Int
  Text:List UInt8
  Num:Int
  Pos:Pos
  deriving DecidableEq
structure Q1 where
  l:List Y6
  end_:Pos
  depth:Int
  deriving DecidableEq
structure Q8 where
  pos:Pos
  e:Int
  deriving DecidableEq
structure Q5 where
  l:List (List UInt8)
  deriving DecidableEq


def O9 (p0:List UInt8) (p1:List UInt8):Option (Bool) :=
  bif decide ((List.length p1:Int)≤(List.length p0:Int)) then ((sub p0 0 (List.length p1:Int)).bind fun u1=>some (decide (u1=p1))) else (some false)

def P1 (p0:List UInt8) (p1:List UInt8):Option (Bool) :=
  (O9 p0 p1).bind fun y1=>some y1

def Q3l (p0:Int):Option (Bool) :=
  bif p0 == 32 then (some true) else (bif p0 == 9 then (some true) else (bif p0 == 10 then (some true) else (some (p0 == 13))))

def Q6y (p0:List UInt8):Option (Int) :=
  (V7 (fun(x1:Int)=>(bif decide (x1 < (List.length p0:Int)) then ((idx p0 x1).bind fun u1=>(Q3l (UInt8.toNat u1:Int)).bind fun y1=>bif y1 then (some (Lp.go (IntKind.wrap .i64 (x1+1)))) else (some (Lp.brk x1))) else (some (Lp.brk x1)):Option (Lp (Int) (Unit)))) NN (0:Int)).bind fun o=>o.thn (fun(x1:Int)=>some x1) (fun _=>none)

def Q3y (p0:List UInt8):Option (Int) :=
  (P1 p0 ([47,47]:List UInt8)).bind fun y1=>bif y1 then ((strings_Index p0 ([10]:List UInt8)).bind fun y2=>bif decide (0≤y2) then (some y2) else (some (List.length p0:Int))) else ((P1 p0 ([47,42]:List UInt8)).bind fun y3=>bif y3 then ((sub p0 2 (List.length p0:Int)).bind fun u1=>(strings_Index u1 ([42,47]:List UInt8)).bind fun y4=>bif decide (y4 < 0) then (some ((-1):Int)) else (some (IntKind.wrap .i64 (y4+4)))) else ((Q6y p0).bind fun y5=>some y5))

def H5 (p0:F9) (p1:Int):Option (F9) :=
  (sub p0.s 0 p1).bind fun u1=>(Q0q (List.length u1)).bind fun _=>(V7 (fun(x1,x2)=>(bif decide (x1 < (List.length (D7 u1):Int)) then (jn (fun kk1=>(idx (D7 u1) x1).bind fun u2=>bif u2 == 10 then (kk1 (⟨x2.s,(⟨IntKind.wrap .i64 (x2.pos.Line+1),1⟩:Pos)⟩:F9)) else (kk1 (⟨x2.s,(⟨x2.pos.Line,IntKind.wrap .i64 (x2.pos.Col+1)⟩:Pos)⟩:F9))) (fun(x3:F9)=>some (Lp.go (IntKind.wrap .i64 (x1+1),x3)))) else (some (Lp.brk (x1,x2))):Option (Lp (Int×F9) (Unit)))) NN ((0:Int),p0)).bind fun o=>o.thn (fun(x1,x2)=>(sub x2.s p1 (List.length x2.s:Int)).bind fun u3=>some (⟨u3,x2.pos⟩:F9)) (fun _=>none)

def Q2t (p0:Int):Option (Bool) :=
  bif decide (97≤p0) then (bif decide (p0≤122) then (some true) else (bif decide (65≤p0) then (bif decide (p0≤90) then (some true) else (some (p0 == 95))) else (some (p0 == 95)))) else (bif decide (65≤p0) then (bif decide (p0≤90) then (some true) else (some (p0 == 95))) else (some (p0 == 95)))

def Q2u (p0:Int):Option (Bool) :=
  bif decide (48≤p0) then (some (decide (p0≤57))) else (some false)

def Q6z (p0:Int):Option (Bool) :=
  (Q2t p0).bind fun y1=>bif y1 then (some true) else ((Q2u p0).bind fun y2=>some y2)

def Q1r (p0:List UInt8):Option (Int) :=
  (V7 (fun(x1:Int)=>(bif decide (x1 < (List.length p0:Int)) then ((idx p0 x1).bind fun u1=>(Q6z (UInt8.toNat u1:Int)).bind fun y1=>bif y1 then (some (Lp.go (IntKind.wrap .i64 (x1+1)))) else (some (Lp.brk x1))) else (some (Lp.brk x1)):Option (Lp (Int) (Unit)))) NN (0:Int)).bind fun o=>o.thn (fun(x1:Int)=>some x1) (fun _=>none)

def Q4n (p0:List UInt8):Option (Bool) :=
  jn (fun kk1=>bif decide (p0=([98,114,101,97,107]:List UInt8)) then (kk1 (decide (p0=([98,114,101,97,107]:List UInt8)))) else (bif decide (p0=([99,97,115,101]:List UInt8)) then (kk1 (decide (p0=([99,97,115,101]:List UInt8)))) else (bif decide (p0=([99,104,97,114]:List UInt8)) then (kk1 (decide (p0=([99,104,97,114]:List UInt8)))) else (bif decide (p0=([99,111,110,116,105,110,117,101]:List UInt8)) then (kk1 (decide (p0=([99,111,110,116,105,110,117,101]:List UInt8)))) else (bif decide (p0=([100,101,102,97,117,108,116]:List UInt8)) then (kk1 (decide (p0=([100,101,102,97,117,108,116]:List UInt8)))) else (bif decide (p0=([100,111]:List UInt8)) then (kk1 (decide (p0=([100,111]:List UInt8)))) else (bif decide (p0=([101,108,115,101]:List UInt8)) then (kk1 (decide (p0=([101,108,115,101]:List UInt8)))) else (bif decide (p0=([102,111,114]:List UInt8)) then (kk1 (decide (p0=([102,111,114]:List UInt8)))) else (bif decide (p0=([105,102]:List UInt8)) then (kk1 (decide (p0=([105,102]:List UInt8)))) else (bif decide (p0=([105,110]:List UInt8)) then (kk1 (decide (p0=([105,110]:List UInt8)))) else (bif decide (p0=([105,110,116]:List UInt8)) then (kk1 (decide (p0=([105,110,116]:List UInt8)))) else (bif decide (p0=([111,117,116]:List UInt8)) then (kk1 (decide (p0=([111,117,116]:List UInt8)))) else (bif decide (p0=([114,101,116,117,114,110]:List UInt8)) then (kk1 (decide (p0=([114,101,116,117,114,110]:List UInt8)))) else (bif decide (p0=([115,105,122,101,111,102]:List UInt8)) then (kk1 (decide (p0=([115,105,122,101,111,102]:List UInt8)))) else (bif decide (p0=([115,116,114,117,99,116]:List UInt8)) then (kk1 (decide (p0=([115,116,114,117,99,116]:List UInt8)))) else (bif decide (p0=([115,119,105,116,99,104]:List UInt8)) then (kk1 (decide (p0=([115,119,105,116,99,104]:List UInt8)))) else (bif decide (p0=([118,111,105,100]:List UInt8)) then (kk1 (decide (p0=([118,111,105,100]:List UInt8)))) else (kk1 (decide (p0=([119,104,105,108,101]:List UInt8))))))))))))))))))))) (fun(x1:Bool)=>bif x1 then (some true) else (some false))

def Q0v (p0:Int):Option (Int) :=
  (Q2u p0).bind fun y1=>bif y1 then (some (IntKind.wrap .u64 (IntKind.wrap .u8 (p0 - 48)))) else (bif decide (97≤p0) then (bif decide (p0≤102) then (some (IntKind.wrap .u64 ((IntKind.wrap .u64 (IntKind.wrap .u8 (p0 - 97)))+10))) else (bif decide (65≤p0) then (bif decide (p0≤70) then (some (IntKind.wrap .u64 ((IntKind.wrap .u64 (IntKind.wrap .u8 (p0 - 65)))+10))) else (some (4294967295:Int))) else (some (4294967295:Int)))) else (bif decide (65≤p0) then (bif decide (p0≤70) then (some (IntKind.wrap .u64 ((IntKind.wrap .u64 (IntKind.wrap .u8 (p0 - 65)))+10))) else (some (4294967295:Int))) else (some (4294967295:Int))))

def Q2s (p0:List UInt8):Option (Y6×Int) :=
  (Q1r p0).bind fun y1=>(sub p0 0 y1).bind fun u1=>jn (fun kk1=>(P1 u1 ([48,120]:List UInt8)).bind fun y2=>bif y2 then ((sub u1 2 (List.length u1:Int)).bind fun u3=>kk1 u3 (16:Int)) else ((P1 u1 ([48,88]:List UInt8)).bind fun y3=>bif y3 then ((sub u1 2 (List.length u1:Int)).bind fun u2=>kk1 u2 (16:Int)) else (kk1 u1 (10:Int)))) (fun(x1:List UInt8) (x2:Int)=>bif decide (x1=([]:List UInt8)) then (some ((⟨0,([]:List UInt8),0,(⟨0,0⟩:Pos)⟩:Y6),(3:Int))) else ((Q0q (List.length x1)).bind fun _=>(V7 (fun(x3,x4,x5)=>(bif decide (x5 < (List.length (D7 x1):Int)) then (jn (fun kk2=>(idx (D7 x1) x5).bind fun u4=>(Q0v u4).bind fun y4=>bif decide (x2≤y4) then (some (Lp.ret ((⟨0,([]:List UInt8),0,(⟨0,0⟩:Pos)⟩:Y6),(3:Int)))) else ((Q0v u4).bind fun y5=>bif decide (4294967295 < (IntKind.wrap .u64 ((IntKind.wrap .u64 (x3 * x2))+y5))) then (kk2 (4294967295:Int) true) else (kk2 (IntKind.wrap .u64 ((IntKind.wrap .u64 (x3 * x2))+y5)) x4))) (fun(x6:Int) (x7:Bool)=>some (Lp.go (x6,x7,IntKind.wrap .i64 (x5+1))))) else (some (Lp.brk (x3,x4,x5))):Option (Lp (Int×Bool×Int) (Y6×Int)))) NN ((0:Int),false,(0:Int))).bind fun o=>o.thn (fun(x3,x4,x5)=>bif x4 then (some ((⟨0,([]:List UInt8),0,(⟨0,0⟩:Pos)⟩:Y6),(7:Int))) else (some ((⟨3,u1,IntKind.wrap .u32 x3,(⟨0,0⟩:Pos)⟩:Y6),(0:Int)))) (fun r=>some r)))

def Q1s (p0:Int):Option (Int×Bool) :=
  bif p0 == 110 then (some ((10:Int),true)) else (bif p0 == 116 then (some ((9:Int),true)) else (bif p0 == 114 then (some ((13:Int),true)) else (bif p0 == 48 then (some ((0:Int),true)) else (jn (fun kk1=>bif p0 == 92 then (kk1 (p0 == 92)) else (kk1 (p0 == 39))) (fun(x1:Bool)=>bif x1 then (some (p0,true)) else (some ((0:Int),false)))))))

def O2 (p0:List UInt8):Option (Y6×Int) :=
  bif decide (4≤(List.length p0:Int)) then ((idx p0 1).bind fun u1=>bif (UInt8.toNat u1:Int) == 92 then ((idx p0 3).bind fun u2=>bif (UInt8.toNat u2:Int) == 39 then ((idx p0 2).bind fun u3=>(Q1s (UInt8.toNat u3:Int)).bind fun y1=>bif y1.2 then ((sub p0 0 4).bind fun u4=>some ((⟨3,u4,IntKind.wrap .u32 y1.1,(⟨0,0⟩:Pos)⟩:Y6),(0:Int))) else (some ((⟨0,([]:List UInt8),0,(⟨0,0⟩:Pos)⟩:Y6),(3:Int)))) else (bif decide (3≤(List.length p0:Int)) then ((idx p0 2).bind fun u5=>bif (UInt8.toNat u5:Int) == 39 then ((idx p0 1).bind fun u6=>bif decide (32≤(UInt8.toNat u6:Int)) then ((idx p0 1).bind fun u7=>bif decide ((UInt8.toNat u7:Int)≤126) then ((idx p0 1).bind fun u8=>bif (UInt8.toNat u8:Int) != 39 then ((idx p0 1).bind fun u9=>bif (UInt8.toNat u9:Int) != 92 then ((sub p0 0 3).bind fun u10=>(idx p0 1).bind fun u11=>some ((⟨3,u10,IntKind.wrap .u32 (UInt8.toNat u11:Int),(⟨0,0⟩:Pos)⟩:Y6),(0:Int))) else (some ((⟨0,([]:List UInt8),0,(⟨0,0⟩:Pos)⟩:Y6),(3:Int)))) else (some ((⟨0,([]:List UInt8),0,(⟨0,0⟩:Pos)⟩:Y6),(3:Int)))) else (some ((⟨0,([]:List UInt8),0,(⟨0,0⟩:Pos)⟩:Y6),(3:Int)))) else (some ((⟨0,([]:List UInt8),0,(⟨0,0⟩:Pos)⟩:Y6),(3:Int)))) else (some ((⟨0,([]:List UInt8),0,(⟨0,0⟩:Pos)⟩:Y6),(3:Int)))) else (some ((⟨0,([]:List UInt8),0,(⟨0,0⟩:Pos)⟩:Y6),(3:Int))))) else (bif decide (3≤(List.length p0:Int)) then ((idx p0 2).bind fun u12=>bif (UInt8.toNat u12:Int) == 39 then ((idx p0 1).bind fun u13=>bif decide (32≤(UInt8.toNat u13:Int)) then ((idx p0 1).bind fun u14=>bif decide ((UInt8.toNat u14:Int)≤126) then ((idx p0 1).bind fun u15=>bif (UInt8.toNat u15:Int) != 39 then ((idx p0 1).bind fun u16=>bif (UInt8.toNat u16:Int) != 92 then ((sub p0 0 3).bind fun u17=>(idx p0 1).bind fun u18=>some ((⟨3,u17,IntKind.wrap .u32 (UInt8.toNat u18:Int),(⟨0,0⟩:Pos)⟩:Y6),(0:Int))) else (some ((⟨0,([]:List UInt8),0,(⟨0,0⟩:Pos)⟩:Y6),(3:Int)))) else (some ((⟨0,([]:List UInt8),0,(⟨0,0⟩:Pos)⟩:Y6),(3:Int)))) else (some ((⟨0,([]:List UInt8),0,(⟨0,0⟩:Pos)⟩:Y6),(3:Int)))) else (some ((⟨0,([]:List UInt8),0,(⟨0,0⟩:Pos)⟩:Y6),(3:Int)))) else (some ((⟨0,([]:List UInt8),0,(⟨0,0⟩:Pos)⟩:Y6),(3:Int)))) else (some ((⟨0,([]:List UInt8),0,(⟨0,0⟩:Pos)⟩:Y6),(3:Int))))) else (bif decide (3≤(List.length p0:Int)) then ((idx p0 2).bind fun u19=>bif (UInt8.toNat u19:Int) == 39 then ((idx p0 1).bind fun u20=>bif decide (32≤(UInt8.toNat u20:Int)) then ((idx p0 1).bind fun u21=>bif decide ((UInt8.toNat u21:Int)≤126) then ((idx p0 1).bind fun u22=>bif (UInt8.toNat u22:Int) != 39 then ((idx p0 1).bind fun u23=>bif (UInt8.toNat u23:Int) != 92 then ((sub p0 0 3).bind fun u24=>(idx p0 1).bind fun u25=>some ((⟨3,u24,IntKind.wrap .u32 (UInt8.toNat u25:Int),(⟨0,0⟩:Pos)⟩:Y6),(0:Int))) else (some ((⟨0,([]:List UInt8),0,(⟨0,0⟩:Pos)⟩:Y6),(3:Int)))) else (some ((⟨0,([]:List UInt8),0,(⟨0,0⟩:Pos)⟩:Y6),(3:Int)))) else (some ((⟨0,([]:List UInt8),0,(⟨0,0⟩:Pos)⟩:Y6),(3:Int)))) else (some ((⟨0,([]:List UInt8),0,(⟨0,0⟩:Pos)⟩:Y6),(3:Int)))) else (some ((⟨0,([]:List UInt8),0,(⟨0,0⟩:Pos)⟩:Y6),(3:Int)))) else (some ((⟨0,([]:List UInt8),0,(⟨0,0⟩:Pos)⟩:Y6),(3:Int))))

def Q5m (p0:List UInt8):Option ((List UInt8)) :=
  (V7 (fun(x1:Int)=>(bif decide (x1 < 45) then ((idx ([([60,60,61]:List UInt8),([62,62,61]:List UInt8),([45,62]:List UInt8),([43,43]:List UInt8),([45,45]:List UInt8),([60,60]:List UInt8),([62,62]:List UInt8),([60,61]:List UInt8),([62,61]:List UInt8),([61,61]:List UInt8),([33,61]:List UInt8),([38,38]:List UInt8),([124,124]:List UInt8),([43,61]:List UInt8),([45,61]:List UInt8),([42,61]:List UInt8),([47,61]:List UInt8),([37,61]:List UInt8),([38,61]:List UInt8),([124,61]:List UInt8),([94,61]:List UInt8),([43]:List UInt8),([45]:List UInt8),([42]:List UInt8),([47]:List UInt8),([37]:List UInt8),([38]:List UInt8),([124]:List UInt8),([94]:List UInt8),([126]:List UInt8),([33]:List UInt8),([60]:List UInt8),([62]:List UInt8),([61]:List UInt8),([63]:List UInt8),([58]:List UInt8),([59]:List UInt8),([44]:List UInt8),([46]:List UInt8),([40]:List UInt8),([41]:List UInt8),([91]:List UInt8),([93]:List UInt8),([123]:List UInt8),([125]:List UInt8)]:List (List UInt8)) x1).bind fun u1=>(P1 p0 u1).bind fun y1=>bif y1 then (some (Lp.ret u1)) else (some (Lp.go (IntKind.wrap .i64 (x1+1))))) else (some (Lp.brk x1)):Option (Lp (Int) ((List UInt8))))) NN (0:Int)).bind fun o=>o.thn (fun(x1:Int)=>some ([]:List UInt8)) (fun r=>some r)

def W6 (p0:List UInt8):Option (Y6×Int) :=
  (idx p0 0).bind fun u1=>(Q2t (UInt8.toNat u1:Int)).bind fun y1=>bif y1 then ((Q1r p0).bind fun y2=>(sub p0 0 y2).bind fun u2=>bif decide (31 < y2) then (some ((⟨1,u2,0,(⟨0,0⟩:Pos)⟩:Y6),(2:Int))) else (jn (fun kk1=>(Q4n u2).bind fun y3=>bif y3 then (kk1 (⟨2,u2,0,(⟨0,0⟩:Pos)⟩:Y6)) else (kk1 (⟨1,u2,0,(⟨0,0⟩:Pos)⟩:Y6))) (fun(x1:Y6)=>some (x1,(0:Int))))) else ((idx p0 0).bind fun u3=>(Q2u (UInt8.toNat u3:Int)).bind fun y4=>bif y4 then ((Q2s p0).bind fun y5=>some (y5.1,y5.2)) else ((idx p0 0).bind fun u4=>bif (UInt8.toNat u4:Int) == 39 then ((O2 p0).bind fun y6=>some (y6.1,y6.2)) else ((Q5m p0).bind fun y7=>bif decide (y7=([]:List UInt8)) then (some ((⟨0,([]:List UInt8),0,(⟨0,0⟩:Pos)⟩:Y6),(3:Int))) else (some ((⟨4,y7,0,(⟨0,0⟩:Pos)⟩:Y6),(0:Int))))))

def Q5u (p0:List UInt8):Option ((List Y6)×Pos×Int) :=
  bif decide (65536 < (List.length p0:Int)) then (some ([],(⟨1,1⟩:Pos),(2:Int))) else ((V7 (fun(x1,x2)=>(bif !(decide (x2.s=([]:List UInt8))) then ((Q3y x2.s).bind fun y1=>bif decide (y1 < 0) then (some (Lp.ret ([],x2.pos,(3:Int)))) else (bif decide (0 < y1) then ((H5 x2 y1).bind fun y2=>some (Lp.go (x1,y2))) else ((W6 x2.s).bind fun y3=>bif y3.2 != 0 then (some (Lp.ret ([],x2.pos,y3.2))) else ((Q0q (List.length x1+List.length ([{y3.1 with Pos:=x2.pos}]:List Y6))).bind fun _=>(H5 x2 (List.length y3.1.Text:Int)).bind fun y4=>some (Lp.go (x1++([{y3.1 with Pos:=x2.pos}]:List Y6),y4)))))) else (some (Lp.brk (x1,x2))):Option (Lp ((List Y6)×F9) ((List Y6)×Pos×Int)))) NN ([],(⟨p0,(⟨1,1⟩:Pos)⟩:F9))).bind fun o=>o.thn (fun(x1,x2)=>some (x1,x2.pos,(0:Int))) (fun r=>some r))

def G6 (p0:Q1):Option (Pos) :=
  bif (List.length p0.l:Int) == 0 then (some p0.end_) else ((idx p0.l 0).bind fun u1=>some u1.Pos)

def M1 (p0:Q1) (p1:Int) (p2:List UInt8):Option (Bool) :=
  bif decide (p1 < (List.length p0.l:Int)) then ((idx p0.l p1).bind fun u1=>bif decide (u1.Text=p2) then ((idx p0.l p1).bind fun u2=>bif u2.Kind == 2 then (some true) else ((idx p0.l p1).bind fun u3=>some (u3.Kind == 4))) else (some false)) else (some false)

def U0 (p0:Q1) (p1:List UInt8):Option (Bool) :=
  (M1 p0 0 p1).bind fun y1=>some y1

def Y4 (p0:Q1) (p1:List UInt8):Option (Bool×Q1) :=
  (U0 p0 p1).bind fun y1=>bif !y1 then (some (false,p0)) else ((sub p0.l 1 (List.length p0.l:Int)).bind fun u1=>some (true,{p0 with l:=u1}))

def C8 (p0:Q1) (p1:Int):Option (Except (Q8) (Unit)) :=
  (G6 p0).bind fun y1=>some (Except.error (⟨y1,p1⟩:Q8))

def Y0 (p0:Q1) (p1:List UInt8):Option (Except (Q8×Q1) (Q1)) :=
  (Y4 p0 p1).bind fun y1=>bif !y1.1 then ((C8 y1.2 3).bind fun y2=>exC y2 (fun y2=>some (Except.ok y1.2)) (fun e1=>some (Except.error (e1,y1.2)))) else (some (Except.ok y1.2))

def P9 (p0:Q1) (p1:Int):Option (Except (Q8×Q1) (Y6×Q1)) :=
  jn (fun kk1=>bif (List.length p0.l:Int) == 0 then ((C8 p0 3).bind fun y2=>exC y2 (fun y2=>kk1 ()) (fun e2=>some (Except.error (e2,p0)))) else ((idx p0.l 0).bind fun u1=>bif u1.Kind != p1 then ((C8 p0 3).bind fun y1=>exC y1 (fun y1=>kk1 ()) (fun e1=>some (Except.error (e1,p0)))) else (kk1 ()))) (fun(_:Unit)=>(idx p0.l 0).bind fun u4=>(sub p0.l 1 (List.length p0.l:Int)).bind fun u5=>some (Except.ok (u4,{p0 with l:=u5})))

def K8 (p0:Q1):Option (Except (Q8×Q1) ((List UInt8)×Q1)) :=
  (P9 p0 1).bind fun y1=>exC y1 (fun y1=>some (Except.ok (y1.1.Text,y1.2))) (fun e1=>some (Except.error (e1.1,e1.2)))

def I7 (p0:Q1):Option (Bool) :=
  (U0 p0 ([105,110,116]:List UInt8)).bind fun y1=>bif y1 then (some true) else ((U0 p0 ([99,104,97,114]:List UInt8)).bind fun y2=>bif y2 then (some true) else ((U0 p0 ([118,111,105,100]:List UInt8)).bind fun y3=>bif y3 then (some true) else ((U0 p0 ([115,116,114,117,99,116]:List UInt8)).bind fun y4=>some y4)))

def J5 (p0:Q1):Option (Except (Q8×Q1) (G5×Q1)) :=
  jn (fun kk1=>(I7 p0).bind fun y1=>bif !y1 then ((C8 p0 3).bind fun y2=>exC y2 (fun y2=>kk1 ()) (fun e1=>some (Except.error (e1,p0)))) else (kk1 ())) (fun(_:Unit)=>(idx p0.l 0).bind fun u2=>(sub p0.l 1 (List.length p0.l:Int)).bind fun u3=>jn (fun kk2=>bif decide (u2.Text=([115,116,114,117,99,116]:List UInt8)) then ((K8 ({p0 with l:=u3})).bind fun y3=>exC y3 (fun y3=>kk2 (⟨u2.Text,y3.1,0⟩:G5) y3.2) (fun e2=>some (Except.error (e2.1,e2.2)))) else (kk2 (⟨u2.Text,([]:List UInt8),0⟩:G5) ({p0 with l:=u3}))) (fun(x1:G5) (x2:Q1)=>(V7 (fun(x3,x4)=>((Y4 x4 ([42]:List UInt8)).bind fun y4=>bif y4.1 then (some (Lp.go ({x3 with Stars:=IntKind.wrap .i64 (x3.Stars+1)},y4.2))) else (some (Lp.brk (x3,y4.2))):Option (Lp (G5×Q1) (Unit)))) NN (x1,x2)).bind fun o=>o.thn (fun(x3,x4)=>some (Except.ok (x3,x4))) (fun _=>none)))

def L6 (p0:Q1):Option (Except (Q8×Q1) ((List Int)×Q1)) :=
  (V7 (fun(x1,x2)=>((Y4 x2 ([91]:List UInt8)).bind fun y1=>bif y1.1 then ((P9 y1.2 3).bind fun y2=>exC y2 (fun y2=>(Q0q (List.length x1+List.length ([y2.1.Num]:List Int))).bind fun _=>(Y0 y2.2 ([93]:List UInt8)).bind fun y3=>exC y3 (fun y3=>some (Lp.go (x1++([y2.1.Num]:List Int),y3))) (fun e1=>some (Lp.ret (Except.error (e1.1,e1.2))))) (fun e2=>some (Lp.ret (Except.error (e2.1,e2.2))))) else (some (Lp.brk (x1,y1.2))):Option (Lp ((List Int)×Q1) (Except (Q8×Q1) ((List Int)×Q1))))) NN ([],p0)).bind fun o=>o.thn (fun(x1,x2)=>some (Except.ok (x1,x2))) (fun r=>some r)

def L9 (p0:Q1):Option (Except (Q8×Q1) ((List J8)×Q1)) :=
  (Y0 p0 ([123]:List UInt8)).bind fun y1=>exC y1 (fun y1=>(V7 (fun(x1,x2)=>((Y4 x2 ([125]:List UInt8)).bind fun y2=>bif !y2.1 then ((G6 y2.2).bind fun y3=>(J5 y2.2).bind fun y4=>exC y4 (fun y4=>(K8 y4.2).bind fun y5=>exC y5 (fun y5=>(L6 y5.2).bind fun y6=>exC y6 (fun y6=>(Y0 y6.2 ([59]:List UInt8)).bind fun y7=>exC y7 (fun y7=>(Q0q (List.length x1+List.length ([(⟨y3,y4.1,y5.1,y6.1,[],false⟩:J8)]:List J8))).bind fun _=>some (Lp.go (x1++([(⟨y3,y4.1,y5.1,y6.1,[],false⟩:J8)]:List J8),y7))) (fun e1=>some (Lp.ret (Except.error (e1.1,e1.2))))) (fun e2=>some (Lp.ret (Except.error (e2.1,e2.2))))) (fun e3=>some (Lp.ret (Except.error (e3.1,e3.2))))) (fun e4=>some (Lp.ret (Except.error (e4.1,e4.2))))) else (some (Lp.brk (x1,y2.2))):Option (Lp ((List J8)×Q1) (Except (Q8×Q1) ((List J8)×Q1))))) NN ([],y1)).bind fun o=>o.thn (fun(x1,x2)=>(Y0 x2 ([59]:List UInt8)).bind fun y8=>exC y8 (fun y8=>some (Except.ok (x1,y8))) (fun e5=>some (Except.error (e5.1,e5.2)))) (fun r=>some r)) (fun e7=>some (Except.error (e7.1,e7.2)))

def E3 (p0:Q1):Option (Except (Q8×Q1) (Q1)) :=
  jn (fun kk1=>bif p0.depth == 200 then ((C8 p0 2).bind fun y1=>exC y1 (fun y1=>kk1 ()) (fun e1=>some (Except.error (e1,p0)))) else (kk1 ())) (fun(_:Unit)=>some (Except.ok ({p0 with depth:=IntKind.wrap .i64 (p0.depth+1)})))

def E2 (p0:Q1):Option ((List UInt8)) :=
  bif (List.length p0.l:Int) == 0 then (some ([]:List UInt8)) else ((idx p0.l 0).bind fun u1=>bif u1.Kind != 4 then (some ([]:List UInt8)) else ((idx p0.l 0).bind fun u2=>some u2.Text))

def K9 (p0:Q1) (p1:Int):Option (Z6×Q1) :=
  (G6 p0).bind fun y1=>(E2 p0).bind fun y2=>(sub p0.l 1 (List.length p0.l:Int)).bind fun u1=>some ((⟨p1,y1,y2,([]:List UInt8),0,(⟨([]:List UInt8),([]:List UInt8),0⟩:G5),[]⟩:Z6),{p0 with l:=u1})

def Q2l (p0:List UInt8):Option (Int) :=
  bif decide (p0=([124,124]:List UInt8)) then (some (1:Int)) else (bif decide (p0=([38,38]:List UInt8)) then (some (2:Int)) else (bif decide (p0=([124]:List UInt8)) then (some (3:Int)) else (bif decide (p0=([94]:List UInt8)) then (some (4:Int)) else (bif decide (p0=([38]:List UInt8)) then (some (5:Int)) else (jn (fun kk1=>bif decide (p0=([61,61]:List UInt8)) then (kk1 (decide (p0=([61,61]:List UInt8)))) else (kk1 (decide (p0=([33,61]:List UInt8))))) (fun(x1:Bool)=>bif x1 then (some (6:Int)) else (jn (fun kk2=>bif decide (p0=([60]:List UInt8)) then (kk2 (decide (p0=([60]:List UInt8)))) else (bif decide (p0=([62]:List UInt8)) then (kk2 (decide (p0=([62]:List UInt8)))) else (bif decide (p0=([60,61]:List UInt8)) then (kk2 (decide (p0=([60,61]:List UInt8)))) else (kk2 (decide (p0=([62,61]:List UInt8))))))) (fun(x2:Bool)=>bif x2 then (some (7:Int)) else (jn (fun kk3=>bif decide (p0=([60,60]:List UInt8)) then (kk3 (decide (p0=([60,60]:List UInt8)))) else (kk3 (decide (p0=([62,62]:List UInt8))))) (fun(x3:Bool)=>bif x3 then (some (8:Int)) else (jn (fun kk4=>bif decide (p0=([43]:List UInt8)) then (kk4 (decide (p0=([43]:List UInt8)))) else (kk4 (decide (p0=([45]:List UInt8))))) (fun(x4:Bool)=>bif x4 then (some (9:Int)) else (jn (fun kk5=>bif decide (p0=([42]:List UInt8)) then (kk5 (decide (p0=([42]:List UInt8)))) else (bif decide (p0=([47]:List UInt8)) then (kk5 (decide (p0=([47]:List UInt8)))) else (kk5 (decide (p0=([37]:List UInt8)))))) (fun(x5:Bool)=>bif x5 then (some (10:Int)) else (some (0:Int))))))))))))))))

def Q1b (p0:Q1):Option (Q1) :=
  some ({p0 with depth:=IntKind.wrap .i64 (p0.depth - 1)})

def Q0k (p0:List UInt8):Option (Bool) :=
  jn (fun kk1=>bif decide (p0=([61]:List UInt8)) then (kk1 (decide (p0=([61]:List UInt8)))) else (bif decide (p0=([43,61]:List UInt8)) then (kk1 (decide (p0=([43,61]:List UInt8)))) else (bif decide (p0=([45,61]:List UInt8)) then (kk1 (decide (p0=([45,61]:List UInt8)))) else (bif decide (p0=([42,61]:List UInt8)) then (kk1 (decide (p0=([42,61]:List UInt8)))) else (bif decide (p0=([47,61]:List UInt8)) then (kk1 (decide (p0=([47,61]:List UInt8)))) else (bif decide (p0=([37,61]:List UInt8)) then (kk1 (decide (p0=([37,61]:List UInt8)))) else (bif decide (p0=([38,61]:List UInt8)) then (kk1 (decide (p0=([38,61]:List UInt8)))) else (bif decide (p0=([124,61]:List UInt8)) then (kk1 (decide (p0=([124,61]:List UInt8)))) else (bif decide (p0=([94,61]:List UInt8)) then (kk1 (decide (p0=([94,61]:List UInt8)))) else (bif decide (p0=([60,60,61]:List UInt8)) then (kk1 (decide (p0=([60,60,61]:List UInt8)))) else (kk1 (decide (p0=([62,62,61]:List UInt8)))))))))))))) (fun(x1:Bool)=>bif x1 then (some true) else (some false))

structure Q6b where
  K1:Q1→Option (Except (Q8×Q1) ((List Z6)×Q1))
  G1:Q1→Option (Except (Q8×Q1) ((List Z6)×Q1))
  F8:Q1→Option (Except (Q8×Q1) (Z6×Q1))
  F2:Q1→Option (Except (Q8×Q1) (Z6×Q1))
  K5:Q1→Option (Except (Q8×Q1) (Z6×Q1))
  J4:Q1→Int→Option (Except (Q8×Q1) (Z6×Q1))
  F3:Q1→Option (Except (Q8×Q1) (Z6×Q1))
  Y2:Q1→Option (Except (Q8×Q1) (Z6×Q1))

def H3 (G:Q6b) (p0:Q1):Option (Except (Q8×Q1) ((List Z6)×Q1)) :=
  (Y0 p0 ([40]:List UInt8)).bind fun y1=>exC y1 (fun y1=>(G.Y2 y1).bind fun y2=>exC y2 (fun y2=>(Y0 y2.2 ([41]:List UInt8)).bind fun y3=>exC y3 (fun y3=>some (Except.ok (([y2.1]:List Z6),y3))) (fun e1=>some (Except.error (e1.1,e1.2)))) (fun e2=>some (Except.error (e2.1,e2.2)))) (fun e3=>some (Except.error (e3.1,e3.2)))
def I5 (G:Q6b) (p0:Q1):Option (Except (Q8×Q1) ((List Z6)×Q1)) :=
  (Y0 p0 ([40]:List UInt8)).bind fun y1=>exC y1 (fun y1=>(Y4 y1 ([41]:List UInt8)).bind fun y2=>bif y2.1 then (some (Except.ok ([],y2.2))) else ((G.Y2 y2.2).bind fun y3=>exC y3 (fun y3=>(V7 (fun(x1,x2)=>((Y4 x2 ([44]:List UInt8)).bind fun y4=>bif y4.1 then ((G.Y2 y4.2).bind fun y5=>exC y5 (fun y5=>(Q0q (List.length x1+List.length ([y5.1]:List Z6))).bind fun _=>some (Lp.go (x1++([y5.1]:List Z6),y5.2))) (fun e1=>some (Lp.ret (Except.error (e1.1,e1.2))))) else (some (Lp.brk (x1,y4.2))):Option (Lp ((List Z6)×Q1) (Except (Q8×Q1) ((List Z6)×Q1))))) NN (([y3.1]:List Z6),y3.2)).bind fun o=>o.thn (fun(x1,x2)=>(Y0 x2 ([41]:List UInt8)).bind fun y6=>exC y6 (fun y6=>some (Except.ok (x1,y6))) (fun e2=>some (Except.error (e2.1,e2.2)))) (fun r=>some r)) (fun e4=>some (Except.error (e4.1,e4.2))))) (fun e5=>some (Except.error (e5.1,e5.2)))
def P7 (G:Q6b) (p0:Q1):Option (Except (Q8×Q1) (Z6×Q1)) :=
  (G6 p0).bind fun y1=>jn (fun kk1=>(Y4 p0 ([40]:List UInt8)).bind fun y2=>bif y2.1 then ((G.Y2 y2.2).bind fun y3=>exC y3 (fun y3=>(Y0 y3.2 ([41]:List UInt8)).bind fun y4=>exC y4 (fun y4=>kk1 y3.1 y4) (fun e1=>some (Except.error (e1.1,e1.2)))) (fun e2=>some (Except.error (e2.1,e2.2)))) else ((Y4 y2.2 ([105,110]:List UInt8)).bind fun y5=>bif y5.1 then ((Y0 y5.2 ([40]:List UInt8)).bind fun y6=>exC y6 (fun y6=>(Y0 y6 ([41]:List UInt8)).bind fun y7=>exC y7 (fun y7=>kk1 (⟨7,y1,([]:List UInt8),([105,110]:List UInt8),0,(⟨([]:List UInt8),([]:List UInt8),0⟩:G5),[]⟩:Z6) y7) (fun e3=>some (Except.error (e3.1,e3.2)))) (fun e4=>some (Except.error (e4.1,e4.2)))) else ((Y4 y5.2 ([111,117,116]:List UInt8)).bind fun y8=>bif y8.1 then ((G.K1 y8.2).bind fun y9=>exC y9 (fun y9=>kk1 (⟨7,y1,([]:List UInt8),([111,117,116]:List UInt8),0,(⟨([]:List UInt8),([]:List UInt8),0⟩:G5),y9.1⟩:Z6) y9.2) (fun e5=>some (Except.error (e5.1,e5.2)))) else (bif decide (0 < (List.length y8.2.l:Int)) then ((idx y8.2.l 0).bind fun u6=>bif u6.Kind == 3 then ((P9 y8.2 3).bind fun y10=>exC y10 (fun y10=>kk1 (⟨1,y1,([]:List UInt8),([]:List UInt8),y10.1.Num,(⟨([]:List UInt8),([]:List UInt8),0⟩:G5),[]⟩:Z6) y10.2) (fun e6=>some (Except.error (e6.1,e6.2)))) else ((K8 y8.2).bind fun y11=>exC y11 (fun y11=>(U0 y11.2 ([40]:List UInt8)).bind fun y12=>bif y12 then ((G.G1 y11.2).bind fun y13=>exC y13 (fun y13=>kk1 (⟨7,y1,([]:List UInt8),y11.1,0,(⟨([]:List UInt8),([]:List UInt8),0⟩:G5),y13.1⟩:Z6) y13.2) (fun e7=>some (Except.error (e7.1,e7.2)))) else (kk1 (⟨2,y1,([]:List UInt8),y11.1,0,(⟨([]:List UInt8),([]:List UInt8),0⟩:G5),[]⟩:Z6) y11.2)) (fun e8=>some (Except.error (e8.1,e8.2))))) else ((K8 y8.2).bind fun y14=>exC y14 (fun y14=>(U0 y14.2 ([40]:List UInt8)).bind fun y15=>bif y15 then ((G.G1 y14.2).bind fun y16=>exC y16 (fun y16=>kk1 (⟨7,y1,([]:List UInt8),y14.1,0,(⟨([]:List UInt8),([]:List UInt8),0⟩:G5),y16.1⟩:Z6) y16.2) (fun e9=>some (Except.error (e9.1,e9.2)))) else (kk1 (⟨2,y1,([]:List UInt8),y14.1,0,(⟨([]:List UInt8),([]:List UInt8),0⟩:G5),[]⟩:Z6) y14.2)) (fun e10=>some (Except.error (e10.1,e10.2)))))))) (fun(x1:Z6) (x2:Q1)=>some (Except.ok (x1,x2)))
def N6 (G:Q6b) (p0:Q1):Option (Except (Q8×Q1) (Z6×Q1)) :=
  (G.F8 p0).bind fun y1=>exC y1 (fun y1=>(V7 (fun(x1,x2)=>(jn (fun kk1=>(E2 x2).bind fun y2=>bif decide (y2=([91]:List UInt8)) then ((K9 x2 8).bind fun y3=>(G.Y2 y3.2).bind fun y4=>exC y4 (fun y4=>(Y0 y4.2 ([93]:List UInt8)).bind fun y5=>exC y5 (fun y5=>kk1 ({y3.1 with Op:=([]:List UInt8),Kids:=([x1,y4.1]:List Z6)}) y5) (fun e1=>some (Lp.ret (Except.error (e1.1,e1.2))))) (fun e2=>some (Lp.ret (Except.error (e2.1,e2.2))))) else (jn (fun kk2=>bif decide (y2=([46]:List UInt8)) then (kk2 (decide (y2=([46]:List UInt8)))) else (kk2 (decide (y2=([45,62]:List UInt8))))) (fun(x6:Bool)=>bif x6 then ((K9 x2 9).bind fun y6=>(K8 y6.2).bind fun y7=>exC y7 (fun y7=>kk1 ({y6.1 with Name:=y7.1,Kids:=([x1]:List Z6)}) y7.2) (fun e3=>some (Lp.ret (Except.error (e3.1,e3.2))))) else (jn (fun kk3=>bif decide (y2=([43,43]:List UInt8)) then (kk3 (decide (y2=([43,43]:List UInt8)))) else (kk3 (decide (y2=([45,45]:List UInt8))))) (fun(x7:Bool)=>bif x7 then ((K9 x2 11).bind fun y8=>kk1 ({y8.1 with Kids:=([x1]:List Z6)}) y8.2) else (some (Lp.ret (Except.ok (x1,x2))))))))) (fun(x4:Z6) (x5:Q1)=>some (Lp.go (x4,x5))):Option (Lp (Z6×Q1) (Except (Q8×Q1) (Z6×Q1))))) NN (y1.1,y1.2)).bind fun o=>o.thn (fun(x1,x2)=>none) (fun r=>some r)) (fun e4=>some (Except.error (e4.1,e4.2)))
def M5 (G:Q6b) (p0:Q1):Option (Except (Q8×Q1) (Z6×Q1)) :=
  (E3 p0).bind fun y1=>exC y1 (fun y1=>(E2 y1).bind fun y2=>jn (fun kk1=>bif decide (y2=([45]:List UInt8)) then (kk1 (decide (y2=([45]:List UInt8)))) else (bif decide (y2=([126]:List UInt8)) then (kk1 (decide (y2=([126]:List UInt8)))) else (bif decide (y2=([33]:List UInt8)) then (kk1 (decide (y2=([33]:List UInt8)))) else (bif decide (y2=([42]:List UInt8)) then (kk1 (decide (y2=([42]:List UInt8)))) else (kk1 (decide (y2=([38]:List UInt8)))))))) (fun(x1:Bool)=>bif x1 then ((K9 y1 3).bind fun y3=>(G.K5 y3.2).bind fun y4=>exC y4 (fun y4=>some (Except.ok ({y3.1 with Kids:=([y4.1]:List Z6)},{y4.2 with depth:=IntKind.wrap .i64 (y4.2.depth - 1)}))) (fun e1=>some (Except.error (e1.1,{e1.2 with depth:=IntKind.wrap .i64 (e1.2.depth - 1)})))) else (jn (fun kk2=>bif decide (y2=([43,43]:List UInt8)) then (kk2 (decide (y2=([43,43]:List UInt8)))) else (kk2 (decide (y2=([45,45]:List UInt8))))) (fun(x2:Bool)=>bif x2 then ((K9 y1 10).bind fun y5=>(G.K5 y5.2).bind fun y6=>exC y6 (fun y6=>some (Except.ok ({y5.1 with Kids:=([y6.1]:List Z6)},{y6.2 with depth:=IntKind.wrap .i64 (y6.2.depth - 1)}))) (fun e2=>some (Except.error (e2.1,{e2.2 with depth:=IntKind.wrap .i64 (e2.2.depth - 1)})))) else ((G6 y1).bind fun y7=>(Y4 y1 ([115,105,122,101,111,102]:List UInt8)).bind fun y8=>bif y8.1 then ((Y0 y8.2 ([40]:List UInt8)).bind fun y9=>exC y9 (fun y9=>(J5 y9).bind fun y10=>exC y10 (fun y10=>(Y0 y10.2 ([41]:List UInt8)).bind fun y11=>exC y11 (fun y11=>some (Except.ok ((⟨12,y7,([]:List UInt8),([]:List UInt8),0,y10.1,[]⟩:Z6),{y11 with depth:=IntKind.wrap .i64 (y11.depth - 1)}))) (fun e4=>some (Except.error (e4.1,{e4.2 with depth:=IntKind.wrap .i64 (e4.2.depth - 1)})))) (fun e3=>some (Except.error (e3.1,{e3.2 with depth:=IntKind.wrap .i64 (e3.2.depth - 1)})))) (fun e5=>some (Except.error (e5.1,{e5.2 with depth:=IntKind.wrap .i64 (e5.2.depth - 1)})))) else ((G.F2 y8.2).bind fun y12=>exC y12 (fun y12=>some (Except.ok (y12.1,{y12.2 with depth:=IntKind.wrap .i64 (y12.2.depth - 1)}))) (fun e6=>some (Except.error (e6.1,{e6.2 with depth:=IntKind.wrap .i64 (e6.2.depth - 1)}))))))))) (fun e7=>some (Except.error (e7.1,e7.2)))
def B9 (G:Q6b) (p0:Q1) (p1:Int):Option (Except (Q8×Q1) (Z6×Q1)) :=
  (G.K5 p0).bind fun y1=>exC y1 (fun y1=>(V7 (fun(x1,x2)=>((E2 x2).bind fun y2=>(Q2l y2).bind fun y3=>bif decide (y3 < p1) then (some (Lp.ret (Except.ok (x1,x2)))) else (bif y3 == 0 then (some (Lp.ret (Except.ok (x1,x2)))) else ((K9 x2 4).bind fun y4=>(G.J4 y4.2 (IntKind.wrap .i64 (y3+1))).bind fun y5=>exC y5 (fun y5=>some (Lp.go ({y4.1 with Kids:=([x1,y5.1]:List Z6)},y5.2))) (fun e1=>some (Lp.ret (Except.error (e1.1,e1.2)))))):Option (Lp (Z6×Q1) (Except (Q8×Q1) (Z6×Q1))))) NN (y1.1,y1.2)).bind fun o=>o.thn (fun(x1,x2)=>none) (fun r=>some r)) (fun e2=>some (Except.error (e2.1,e2.2)))
def N7 (G:Q6b) (p0:Q1):Option (Except (Q8×Q1) (Z6×Q1)) :=
  (G.J4 p0 1).bind fun y1=>exC y1 (fun y1=>(E2 y1.2).bind fun y2=>bif !(decide (y2=([63]:List UInt8))) then (some (Except.ok (y1.1,y1.2))) else ((K9 y1.2 6).bind fun y3=>(G.Y2 y3.2).bind fun y4=>exC y4 (fun y4=>(Y0 y4.2 ([58]:List UInt8)).bind fun y5=>exC y5 (fun y5=>(E3 y5).bind fun y6=>exC y6 (fun y6=>(G.F3 y6).bind fun y7=>exC y7 (fun y7=>(Q1b y7.2).bind fun y8=>some (Except.ok ({y3.1 with Op:=([]:List UInt8),Kids:=([y1.1,y4.1,y7.1]:List Z6)},y8))) (fun e1=>some (Except.error (e1.1,e1.2)))) (fun e2=>some (Except.error (e2.1,e2.2)))) (fun e3=>some (Except.error (e3.1,e3.2)))) (fun e4=>some (Except.error (e4.1,e4.2))))) (fun e5=>some (Except.error (e5.1,e5.2)))
def E0 (G:Q6b) (p0:Q1):Option (Except (Q8×Q1) (Z6×Q1)) :=
  (E3 p0).bind fun y1=>exC y1 (fun y1=>(G.F3 y1).bind fun y2=>exC y2 (fun y2=>(E2 y2.2).bind fun y3=>(Q0k y3).bind fun y4=>bif !y4 then (some (Except.ok (y2.1,{y2.2 with depth:=IntKind.wrap .i64 (y2.2.depth - 1)}))) else ((K9 y2.2 5).bind fun y5=>(G.Y2 y5.2).bind fun y6=>exC y6 (fun y6=>some (Except.ok ({y5.1 with Kids:=([y2.1,y6.1]:List Z6)},{y6.2 with depth:=IntKind.wrap .i64 (y6.2.depth - 1)}))) (fun e1=>some (Except.error (e1.1,{e1.2 with depth:=IntKind.wrap .i64 (e1.2.depth - 1)}))))) (fun e2=>some (Except.error (e2.1,{e2.2 with depth:=IntKind.wrap .i64 (e2.2.depth - 1)})))) (fun e3=>some (Except.error (e3.1,e3.2)))
def C1:Nat→Q6b
  | 0=>⟨fun _=>none,fun _=>none,fun _=>none,fun _=>none,fun _=>none,fun _ _=>none,fun _=>none,fun _=>none⟩
  | n+1=>⟨H3 (C1 n),I5 (C1 n),P7 (C1 n),N6 (C1 n),M5 (C1 n),B9 (C1 n),N7 (C1 n),E0 (C1 n)⟩
def K1 (p0:Q1):Option (Except (Q8×Q1) ((List Z6)×Q1)):=(C1 NN).K1 p0
def G1 (p0:Q1):Option (Except (Q8×Q1) ((List Z6)×Q1)):=(C1 NN).G1 p0
def F8 (p0:Q1):Option (Except (Q8×Q1) (Z6×Q1)):=(C1 NN).F8 p0
def F2 (p0:Q1):Option (Except (Q8×Q1) (Z6×Q1)):=(C1 NN).F2 p0
def K5 (p0:Q1):Option (Except (Q8×Q1) (Z6×Q1)):=(C1 NN).K5 p0
def J4 (p0:Q1) (p1:Int):Option (Except (Q8×Q1) (Z6×Q1)):=(C1 NN).J4 p0 p1
def F3 (p0:Q1):Option (Except (Q8×Q1) (Z6×Q1)):=(C1 NN).F3 p0
def Y2 (p0:Q1):Option (Except (Q8×Q1) (Z6×Q1)):=(C1 NN).Y2 p0

def C5 (p0:Q1) (p1:J8):Option (Except (Q8×Q1) (J8×Q1)) :=
  (L6 p0).bind fun y1=>exC y1 (fun y1=>jn (fun kk1=>(Y4 y1.2 ([61]:List UInt8)).bind fun y2=>bif y2.1 then ((Y4 y2.2 ([123]:List UInt8)).bind fun y3=>(Y2 y3.2).bind fun y4=>exC y4 (fun y4=>(Q0q (List.length ([]:List Z6)+List.length ([y4.1]:List Z6))).bind fun _=>(V7 (fun(x7,x8)=>(bif x7.Brace then ((Y4 x8 ([44]:List UInt8)).bind fun y5=>bif y5.1 then ((Y2 y5.2).bind fun y6=>exC y6 (fun y6=>(Q0q (List.length x7.Init+List.length ([y6.1]:List Z6))).bind fun _=>some (Lp.go ({x7 with Init:=x7.Init++([y6.1]:List Z6)},y6.2))) (fun e1=>some (Lp.ret (Except.error (e1.1,e1.2))))) else (some (Lp.brk (x7,y5.2)))) else (some (Lp.brk (x7,x8))):Option (Lp (J8×Q1) (Except (Q8×Q1) (J8×Q1))))) NN ({p1 with Dims:=y1.1,Init:=([]:List Z6)++([y4.1]:List Z6),Brace:=y3.1},y4.2)).bind fun o=>o.thn (fun(x7,x8)=>bif x7.Brace then ((Y0 x8 ([125]:List UInt8)).bind fun y7=>exC y7 (fun y7=>kk1 x7 y7) (fun e2=>some (Except.error (e2.1,e2.2)))) else (kk1 x7 x8)) (fun r=>some r)) (fun e5=>some (Except.error (e5.1,e5.2)))) else (kk1 ({p1 with Dims:=y1.1,Init := []}) y2.2)) (fun(x3:J8) (x4:Q1)=>(Y0 x4 ([59]:List UInt8)).bind fun y10=>exC y10 (fun y10=>some (Except.ok (x3,y10))) (fun e6=>some (Except.error (e6.1,e6.2))))) (fun e7=>some (Except.error (e7.1,e7.2)))

def A9 (p0:Q1):Option (Except (Q8×Q1) ((List J8)×Q1)) :=
  (Y0 p0 ([40]:List UInt8)).bind fun y1=>exC y1 (fun y1=>jn (fun kk1=>(U0 y1 ([118,111,105,100]:List UInt8)).bind fun y2=>bif y2 then ((M1 y1 1 ([41]:List UInt8)).bind fun y3=>bif y3 then ((Y0 y1 ([118,111,105,100]:List UInt8)).bind fun y4=>exC y4 (fun y4=>kk1 y4) (fun e1=>some (Except.error (e1.1,e1.2)))) else (kk1 y1)) else (kk1 y1)) (fun(x1:Q1)=>(Y4 x1 ([41]:List UInt8)).bind fun y5=>bif y5.1 then (some (Except.ok ([],y5.2))) else ((V7 (fun(x2,x3)=>((G6 x3).bind fun y6=>(J5 x3).bind fun y7=>exC y7 (fun y7=>(K8 y7.2).bind fun y8=>exC y8 (fun y8=>(Q0q (List.length x2+List.length ([(⟨y6,y7.1,y8.1,[],[],false⟩:J8)]:List J8))).bind fun _=>(Y4 y8.2 ([44]:List UInt8)).bind fun y9=>bif !y9.1 then ((Y0 y9.2 ([41]:List UInt8)).bind fun y10=>exC y10 (fun y10=>some (Lp.ret (Except.ok (x2++([(⟨y6,y7.1,y8.1,[],[],false⟩:J8)]:List J8),y10)))) (fun e2=>some (Lp.ret (Except.error (e2.1,e2.2))))) else (some (Lp.go (x2++([(⟨y6,y7.1,y8.1,[],[],false⟩:J8)]:List J8),y9.2)))) (fun e3=>some (Lp.ret (Except.error (e3.1,e3.2))))) (fun e4=>some (Lp.ret (Except.error (e4.1,e4.2)))):Option (Lp ((List J8)×Q1) (Except (Q8×Q1) ((List J8)×Q1))))) NN ([],y5.2)).bind fun o=>o.thn (fun(x2,x3)=>none) (fun r=>some r)))) (fun e5=>some (Except.error (e5.1,e5.2)))

def I4 (p0:Q1):Option (Except (Q8×Q1) (J8×Q1)) :=
  (G6 p0).bind fun y1=>(J5 p0).bind fun y2=>exC y2 (fun y2=>(K8 y2.2).bind fun y3=>exC y3 (fun y3=>(C5 y3.2 (⟨y1,y2.1,y3.1,[],[],false⟩:J8)).bind fun y4=>exC y4 (fun y4=>some (Except.ok (y4.1,y4.2))) (fun e1=>some (Except.error (e1.1,e1.2)))) (fun e2=>some (Except.error (e2.1,e2.2)))) (fun e3=>some (Except.error (e3.1,e3.2)))

def M6 (p0:Q1) (p1:List UInt8):Option (Except (Q8×Q1) ((List Z6)×Q1)) :=
  (Y4 p0 p1).bind fun y1=>bif y1.1 then (some (Except.ok ([],y1.2))) else ((Y2 y1.2).bind fun y2=>exC y2 (fun y2=>(Y0 y2.2 p1).bind fun y3=>exC y3 (fun y3=>some (Except.ok (([y2.1]:List Z6),y3))) (fun e1=>some (Except.error (e1.1,e1.2)))) (fun e2=>some (Except.error (e2.1,e2.2))))

def R4 (p0:Q1) (p1:U5):Option (Except (Q8×Q1×U5) (Q1×U5)) :=
  (Y4 p0 ([114,101,116,117,114,110]:List UInt8)).bind fun y1=>bif y1.1 then ((M6 y1.2 ([59]:List UInt8)).bind fun y2=>exC y2 (fun y2=>some (Except.ok (y2.2,{p1 with Kind:=8,A:=y2.1}))) (fun e1=>some (Except.error (e1.1,e1.2,p1)))) else ((Y4 y1.2 ([98,114,101,97,107]:List UInt8)).bind fun y3=>bif y3.1 then ((Y0 y3.2 ([59]:List UInt8)).bind fun y4=>exC y4 (fun y4=>some (Except.ok (y4,{p1 with Kind:=9}))) (fun e2=>some (Except.error (e2.1,e2.2,{p1 with Kind:=9})))) else ((Y4 y3.2 ([99,111,110,116,105,110,117,101]:List UInt8)).bind fun y5=>bif y5.1 then ((Y0 y5.2 ([59]:List UInt8)).bind fun y6=>exC y6 (fun y6=>some (Except.ok (y6,{p1 with Kind:=10}))) (fun e3=>some (Except.error (e3.1,e3.2,{p1 with Kind:=10})))) else ((Y2 y5.2).bind fun y7=>exC y7 (fun y7=>(Y0 y7.2 ([59]:List UInt8)).bind fun y8=>exC y8 (fun y8=>some (Except.ok (y8,{p1 with Kind:=1,A:=([y7.1]:List Z6)}))) (fun e4=>some (Except.error (e4.1,e4.2,{p1 with Kind:=1,A:=([y7.1]:List Z6)})))) (fun e5=>some (Except.error (e5.1,e5.2,p1))))))

structure Rec2 where
  U9:Q1→Option (Except (Q8×Q1) ((List U5)×Q1))
  B8:Q1→Option (Except (Q8×Q1) ((List K7)×Q1))
  J3:Q1→Option (Except (Q8×Q1) (U5×Q1))
  F0:Q1→Option (Except (Q8×Q1) ((List U5)×Q1))

def O0 (G:Rec2) (p0:Q1):Option (Except (Q8×Q1) ((List U5)×Q1)) :=
  (G.J3 p0).bind fun y1=>exC y1 (fun y1=>bif y1.1.Kind == 11 then (some (Except.ok (y1.1.Body,y1.2))) else (some (Except.ok (([y1.1]:List U5),y1.2)))) (fun e1=>some (Except.error (e1.1,e1.2)))
def L1 (G:Rec2) (p0:Q1):Option (Except (Q8×Q1) ((List K7)×Q1)) :=
  (Y0 p0 ([123]:List UInt8)).bind fun y1=>exC y1 (fun y1=>(V7 (fun(x1,x2)=>((Y4 x2 ([125]:List UInt8)).bind fun y2=>bif !y2.1 then ((G6 y2.2).bind fun y3=>jn (fun kk1=>(Y4 y2.2 ([100,101,102,97,117,108,116]:List UInt8)).bind fun y4=>bif y4.1 then (kk1 (⟨y3,true,0,[]⟩:K7) y4.2) else ((Y0 y4.2 ([99,97,115,101]:List UInt8)).bind fun y5=>exC y5 (fun y5=>(Y4 y5 ([45]:List UInt8)).bind fun y6=>(P9 y6.2 3).bind fun y7=>exC y7 (fun y7=>bif y6.1 then (kk1 (⟨y3,false,IntKind.wrap .u32 (0 - y7.1.Num),[]⟩:K7) y7.2) else (kk1 (⟨y3,false,y7.1.Num,[]⟩:K7) y7.2)) (fun e1=>some (Lp.ret (Except.error (e1.1,e1.2))))) (fun e2=>some (Lp.ret (Except.error (e2.1,e2.2)))))) (fun(x4:K7) (x5:Q1)=>(Y0 x5 ([58]:List UInt8)).bind fun y8=>exC y8 (fun y8=>(V7 (fun(x7,x8)=>((U0 x8 ([99,97,115,101]:List UInt8)).bind fun y9=>bif !y9 then ((U0 x8 ([100,101,102,97,117,108,116]:List UInt8)).bind fun y10=>bif !y10 then ((U0 x8 ([125]:List UInt8)).bind fun y11=>bif !y11 then ((G.J3 x8).bind fun y12=>exC y12 (fun y12=>(Q0q (List.length x7.Body+List.length ([y12.1]:List U5))).bind fun _=>some (Lp.go ({x7 with Body:=x7.Body++([y12.1]:List U5)},y12.2))) (fun e3=>some (Lp.ret (Except.error (e3.1,e3.2))))) else (some (Lp.brk (x7,x8)))) else (some (Lp.brk (x7,x8)))) else (some (Lp.brk (x7,x8))):Option (Lp (K7×Q1) (Except (Q8×Q1) ((List K7)×Q1))))) NN (x4,y8)).bind fun o=>o.thn (fun(x7,x8)=>(Q0q (List.length x1+List.length ([x7]:List K7))).bind fun _=>some (Lp.go (x1++([x7]:List K7),x8))) (fun r=>some (Lp.ret r))) (fun e4=>some (Lp.ret (Except.error (e4.1,e4.2)))))) else (some (Lp.brk (x1,y2.2))):Option (Lp ((List K7)×Q1) (Except (Q8×Q1) ((List K7)×Q1))))) NN ([],y1)).bind fun o=>o.thn (fun(x1,x2)=>some (Except.ok (x1,x2))) (fun r=>some r)) (fun e5=>some (Except.error (e5.1,e5.2)))
def L8 (G:Rec2) (p0:Q1):Option (Except (Q8×Q1) (U5×Q1)) :=
  (E3 p0).bind fun y1=>exC y1 (fun y1=>(G6 y1).bind fun y2=>jn (fun kk1=>(I7 y1).bind fun y3=>bif y3 then ((I4 y1).bind fun y4=>exC y4 (fun y4=>kk1 (⟨2,y2,[],[],[],([y4.1]:List J8),[],[],[]⟩:U5) y4.2) (fun e1=>some (Except.error (e1.1,{e1.2 with depth:=IntKind.wrap .i64 (e1.2.depth - 1)})))) else ((U0 y1 ([123]:List UInt8)).bind fun y5=>bif y5 then ((G.F0 y1).bind fun y6=>exC y6 (fun y6=>kk1 (⟨11,y2,[],[],[],[],y6.1,[],[]⟩:U5) y6.2) (fun e2=>some (Except.error (e2.1,{e2.2 with depth:=IntKind.wrap .i64 (e2.2.depth - 1)})))) else ((Y4 y1 ([59]:List UInt8)).bind fun y7=>bif y7.1 then (kk1 (⟨12,y2,[],[],[],[],[],[],[]⟩:U5) y7.2) else ((Y4 y7.2 ([105,102]:List UInt8)).bind fun y8=>bif y8.1 then ((K1 y8.2).bind fun y9=>exC y9 (fun y9=>(G.U9 y9.2).bind fun y10=>exC y10 (fun y10=>(Y4 y10.2 ([101,108,115,101]:List UInt8)).bind fun y11=>bif y11.1 then ((G.U9 y11.2).bind fun y12=>exC y12 (fun y12=>kk1 (⟨3,y2,y9.1,[],[],[],y10.1,y12.1,[]⟩:U5) y12.2) (fun e3=>some (Except.error (e3.1,{e3.2 with depth:=IntKind.wrap .i64 (e3.2.depth - 1)})))) else (kk1 (⟨3,y2,y9.1,[],[],[],y10.1,[],[]⟩:U5) y11.2)) (fun e4=>some (Except.error (e4.1,{e4.2 with depth:=IntKind.wrap .i64 (e4.2.depth - 1)})))) (fun e5=>some (Except.error (e5.1,{e5.2 with depth:=IntKind.wrap .i64 (e5.2.depth - 1)})))) else ((Y4 y8.2 ([119,104,105,108,101]:List UInt8)).bind fun y13=>bif y13.1 then ((K1 y13.2).bind fun y14=>exC y14 (fun y14=>(G.U9 y14.2).bind fun y15=>exC y15 (fun y15=>kk1 (⟨4,y2,y14.1,[],[],[],y15.1,[],[]⟩:U5) y15.2) (fun e6=>some (Except.error (e6.1,{e6.2 with depth:=IntKind.wrap .i64 (e6.2.depth - 1)})))) (fun e7=>some (Except.error (e7.1,{e7.2 with depth:=IntKind.wrap .i64 (e7.2.depth - 1)})))) else ((Y4 y13.2 ([100,111]:List UInt8)).bind fun y16=>bif y16.1 then ((G.U9 y16.2).bind fun y17=>exC y17 (fun y17=>(Y0 y17.2 ([119,104,105,108,101]:List UInt8)).bind fun y18=>exC y18 (fun y18=>(K1 y18).bind fun y19=>exC y19 (fun y19=>(Y0 y19.2 ([59]:List UInt8)).bind fun y20=>exC y20 (fun y20=>kk1 (⟨5,y2,y19.1,[],[],[],y17.1,[],[]⟩:U5) y20) (fun e8=>some (Except.error (e8.1,{e8.2 with depth:=IntKind.wrap .i64 (e8.2.depth - 1)})))) (fun e9=>some (Except.error (e9.1,{e9.2 with depth:=IntKind.wrap .i64 (e9.2.depth - 1)})))) (fun e10=>some (Except.error (e10.1,{e10.2 with depth:=IntKind.wrap .i64 (e10.2.depth - 1)})))) (fun e11=>some (Except.error (e11.1,{e11.2 with depth:=IntKind.wrap .i64 (e11.2.depth - 1)})))) else ((Y4 y16.2 ([102,111,114]:List UInt8)).bind fun y21=>bif y21.1 then ((Y0 y21.2 ([40]:List UInt8)).bind fun y22=>exC y22 (fun y22=>(M6 y22 ([59]:List UInt8)).bind fun y23=>exC y23 (fun y23=>(M6 y23.2 ([59]:List UInt8)).bind fun y24=>exC y24 (fun y24=>(M6 y24.2 ([41]:List UInt8)).bind fun y25=>exC y25 (fun y25=>(G.U9 y25.2).bind fun y26=>exC y26 (fun y26=>kk1 (⟨6,y2,y23.1,y24.1,y25.1,[],y26.1,[],[]⟩:U5) y26.2) (fun e12=>some (Except.error (e12.1,{e12.2 with depth:=IntKind.wrap .i64 (e12.2.depth - 1)})))) (fun e13=>some (Except.error (e13.1,{e13.2 with depth:=IntKind.wrap .i64 (e13.2.depth - 1)})))) (fun e14=>some (Except.error (e14.1,{e14.2 with depth:=IntKind.wrap .i64 (e14.2.depth - 1)})))) (fun e15=>some (Except.error (e15.1,{e15.2 with depth:=IntKind.wrap .i64 (e15.2.depth - 1)})))) (fun e16=>some (Except.error (e16.1,{e16.2 with depth:=IntKind.wrap .i64 (e16.2.depth - 1)})))) else ((Y4 y21.2 ([115,119,105,116,99,104]:List UInt8)).bind fun y27=>bif y27.1 then ((K1 y27.2).bind fun y28=>exC y28 (fun y28=>(G.B8 y28.2).bind fun y29=>exC y29 (fun y29=>kk1 (⟨7,y2,y28.1,[],[],[],[],[],y29.1⟩:U5) y29.2) (fun e17=>some (Except.error (e17.1,{e17.2 with depth:=IntKind.wrap .i64 (e17.2.depth - 1)})))) (fun e18=>some (Except.error (e18.1,{e18.2 with depth:=IntKind.wrap .i64 (e18.2.depth - 1)})))) else ((R4 y27.2 (⟨0,y2,[],[],[],[],[],[],[]⟩:U5)).bind fun y30=>exC y30 (fun y30=>kk1 y30.2 y30.1) (fun e19=>some (Except.error (e19.1,{e19.2.1 with depth:=IntKind.wrap .i64 (e19.2.1.depth - 1)})))))))))))) (fun(x1:U5) (x2:Q1)=>some (Except.ok (x1,{x2 with depth:=IntKind.wrap .i64 (x2.depth - 1)})))) (fun e20=>some (Except.error (e20.1,e20.2)))
def L2 (G:Rec2) (p0:Q1):Option (Except (Q8×Q1) ((List U5)×Q1)) :=
  (Y0 p0 ([123]:List UInt8)).bind fun y1=>exC y1 (fun y1=>(V7 (fun(x1,x2)=>((Y4 x2 ([125]:List UInt8)).bind fun y2=>bif !y2.1 then ((G.J3 y2.2).bind fun y3=>exC y3 (fun y3=>(Q0q (List.length x1+List.length ([y3.1]:List U5))).bind fun _=>some (Lp.go (x1++([y3.1]:List U5),y3.2))) (fun e1=>some (Lp.ret (Except.error (e1.1,e1.2))))) else (some (Lp.brk (x1,y2.2))):Option (Lp ((List U5)×Q1) (Except (Q8×Q1) ((List U5)×Q1))))) NN ([],y1)).bind fun o=>o.thn (fun(x1,x2)=>some (Except.ok (x1,x2))) (fun r=>some r)) (fun e2=>some (Except.error (e2.1,e2.2)))
def Q4k:Nat→Rec2
  | 0=>⟨fun _=>none,fun _=>none,fun _=>none,fun _=>none⟩
  | n+1=>⟨O0 (Q4k n),L1 (Q4k n),L8 (Q4k n),L2 (Q4k n)⟩
def U9 (p0:Q1):Option (Except (Q8×Q1) ((List U5)×Q1)):=(Q4k NN).U9 p0
def B8 (p0:Q1):Option (Except (Q8×Q1) ((List K7)×Q1)):=(Q4k NN).B8 p0
def J3 (p0:Q1):Option (Except (Q8×Q1) (U5×Q1)):=(Q4k NN).J3 p0
def F0 (p0:Q1):Option (Except (Q8×Q1) ((List U5)×Q1)):=(Q4k NN).F0 p0

def I8 (p0:Q1) (p1:K4):Option (Except (Q8×Q1×K4) (Q1×K4)) :=
  (G6 p0).bind fun y1=>(U0 p0 ([115,116,114,117,99,116]:List UInt8)).bind fun y2=>bif y2 then ((M1 p0 2 ([123]:List UInt8)).bind fun y3=>bif y3 then ((Y0 p0 ([115,116,114,117,99,116]:List UInt8)).bind fun y4=>exC y4 (fun y4=>jn (fun kk1=>(K8 y4).bind fun y5=>exC y5 (fun y5=>kk1 y5.2 (⟨y1,y5.1,[]⟩:F7)) (fun e1=>some (Except.error (e1.1,e1.2,p1)))) (fun(x1:Q1) (x2:F7)=>(L9 x1).bind fun y6=>exC y6 (fun y6=>(Q0q (List.length p1.Structs+List.length ([{x2 with Fields:=y6.1}]:List F7))).bind fun _=>some (Except.ok (y6.2,{p1 with Structs:=p1.Structs++([{x2 with Fields:=y6.1}]:List F7)}))) (fun e2=>some (Except.error (e2.1,e2.2,p1))))) (fun e3=>some (Except.error (e3.1,e3.2,p1)))) else ((J5 p0).bind fun y7=>exC y7 (fun y7=>(K8 y7.2).bind fun y8=>exC y8 (fun y8=>(U0 y8.2 ([40]:List UInt8)).bind fun y9=>bif !y9 then ((C5 y8.2 (⟨y1,y7.1,y8.1,[],[],false⟩:J8)).bind fun y10=>exC y10 (fun y10=>(Q0q (List.length p1.Globals+List.length ([y10.1]:List J8))).bind fun _=>some (Except.ok (y10.2,{p1 with Globals:=p1.Globals++([y10.1]:List J8)}))) (fun e4=>some (Except.error (e4.1,e4.2,p1)))) else (jn (fun kk2=>(A9 y8.2).bind fun y11=>exC y11 (fun y11=>kk2 y11.2 (⟨y1,y7.1,y8.1,y11.1,[]⟩:P4)) (fun e5=>some (Except.error (e5.1,e5.2,p1)))) (fun(x3:Q1) (x4:P4)=>(F0 x3).bind fun y12=>exC y12 (fun y12=>(Q0q (List.length p1.Funcs+List.length ([{x4 with Body:=y12.1}]:List P4))).bind fun _=>some (Except.ok (y12.2,{p1 with Funcs:=p1.Funcs++([{x4 with Body:=y12.1}]:List P4)}))) (fun e6=>some (Except.error (e6.1,e6.2,p1)))))) (fun e7=>some (Except.error (e7.1,e7.2,p1)))) (fun e8=>some (Except.error (e8.1,e8.2,p1))))) else ((J5 p0).bind fun y13=>exC y13 (fun y13=>(K8 y13.2).bind fun y14=>exC y14 (fun y14=>(U0 y14.2 ([40]:List UInt8)).bind fun y15=>bif !y15 then ((C5 y14.2 (⟨y1,y13.1,y14.1,[],[],false⟩:J8)).bind fun y16=>exC y16 (fun y16=>(Q0q (List.length p1.Globals+List.length ([y16.1]:List J8))).bind fun _=>some (Except.ok (y16.2,{p1 with Globals:=p1.Globals++([y16.1]:List J8)}))) (fun e9=>some (Except.error (e9.1,e9.2,p1)))) else (jn (fun kk3=>(A9 y14.2).bind fun y17=>exC y17 (fun y17=>kk3 y17.2 (⟨y1,y13.1,y14.1,y17.1,[]⟩:P4)) (fun e10=>some (Except.error (e10.1,e10.2,p1)))) (fun(x5:Q1) (x6:P4)=>(F0 x5).bind fun y18=>exC y18 (fun y18=>(Q0q (List.length p1.Funcs+List.length ([{x6 with Body:=y18.1}]:List P4))).bind fun _=>some (Except.ok (y18.2,{p1 with Funcs:=p1.Funcs++([{x6 with Body:=y18.1}]:List P4)}))) (fun e11=>some (Except.error (e11.1,e11.2,p1)))))) (fun e12=>some (Except.error (e12.1,e12.2,p1)))) (fun e13=>some (Except.error (e13.1,e13.2,p1))))

def Q0p (p0:Q1):Option (Except (K4×Q8×Q1) (K4×Q1)) :=
  (V7 (fun(x4,x5)=>(bif decide (0 < (List.length x5.l:Int)) then ((I8 x5 x4).bind fun y1=>exC y1 (fun y1=>some (Lp.go (y1.2,y1.1))) (fun e1=>some (Lp.ret (Except.error ((⟨[],[],[]⟩:K4),e1.1,e1.2.1))))) else (some (Lp.brk (x4,x5))):Option (Lp (K4×Q1) (Except (K4×Q8×Q1) (K4×Q1))))) NN ((⟨[],[],[]⟩:K4),p0)).bind fun o=>o.thn (fun(x4,x5)=>some (Except.ok (x4,x5))) (fun r=>some r)

def Q3v (p0:List UInt8):Option (K4×Pos×Int) :=
  (Q5u p0).bind fun y1=>bif y1.2.2 != 0 then (some ((⟨[],[],[]⟩:K4),y1.2.1,y1.2.2)) else ((Q0p (⟨y1.1,y1.2.1,0⟩:Q1)).bind fun y2=>exC y2 (fun y2=>some (y2.1,y1.2.1,(0:Int))) (fun e1=>some ((⟨[],[],[]⟩:K4),e1.2.1.pos,e1.2.1.e)))

def Z0 (p0:Q5) (p1:List (List UInt8)):Option (Q5) :=
  (Q0q (List.length p0.l+List.length p1)).bind fun _=>some (⟨p0.l++p1⟩:Q5)

def N3 (p0:Q5) (p1:G5):Option (Q5) :=
  (Z0 p0 ([p1.Word]:List (List UInt8))).bind fun y1=>jn (fun kk1=>bif decide (p1.Word=([115,116,114,117,99,116]:List UInt8)) then ((Z0 y1 ([p1.Name]:List (List UInt8))).bind fun y2=>kk1 y2) else (kk1 y1)) (fun(x2:Q5)=>(V7 (fun(x4,x5)=>(bif decide (x4 < p1.Stars) then ((Z0 x5 ([([42]:List UInt8)]:List (List UInt8))).bind fun y3=>some (Lp.go (IntKind.wrap .i64 (x4+1),y3))) else (some (Lp.brk (x4,x5))):Option (Lp (Int×Q5) (Unit)))) NN ((0:Int),x2)).bind fun o=>o.thn (fun(x4,x5)=>some x5) (fun _=>none))

def N5 (p0:Q5) (p1:Int):Option (Q5) :=
  (Q0l (IntKind.wrap .u64 p1) 10).bind fun y1=>(Z0 p0 ([y1]:List (List UInt8))).bind fun y2=>some y2

structure Z2j where
  V0:Q5→Z6→Option (Q5)
  G2:Q5→Z6→(List UInt8)→Option (Q5)
  U8:Q5→Z6→Option (Q5)
  K2:Q5→(List Z6)→Option (Q5)

def P5 (G:Z2j) (p0:Q5) (p1:Z6):Option (Q5) :=
  jn (fun kk1=>bif p1.Kind == 1 then (kk1 (p1.Kind == 1)) else (bif p1.Kind == 2 then (kk1 (p1.Kind == 2)) else (bif p1.Kind == 7 then (kk1 (p1.Kind == 7)) else (bif p1.Kind == 8 then (kk1 (p1.Kind == 8)) else (bif p1.Kind == 9 then (kk1 (p1.Kind == 9)) else (kk1 (p1.Kind == 12))))))) (fun(x1:Bool)=>bif x1 then ((G.U8 p0 p1).bind fun y1=>some y1) else ((Z0 p0 ([([40]:List UInt8)]:List (List UInt8))).bind fun y2=>(G.U8 y2 p1).bind fun y3=>(Z0 y3 ([([41]:List UInt8)]:List (List UInt8))).bind fun y4=>some y4))
def P6 (G:Z2j) (p0:Q5) (p1:Z6) (p2:List UInt8):Option (Q5) :=
  (idx p1.Kids 0).bind fun u1=>(G.V0 p0 u1).bind fun y1=>(Z0 y1 ([p2]:List (List UInt8))).bind fun y2=>(idx p1.Kids 1).bind fun u2=>(G.V0 y2 u2).bind fun y3=>some y3
def C4 (G:Z2j) (p0:Q5) (p1:Z6):Option (Q5) :=
  bif p1.Kind == 1 then ((N5 p0 p1.Num).bind fun y1=>some y1) else (bif p1.Kind == 2 then ((Z0 p0 ([p1.Name]:List (List UInt8))).bind fun y2=>some y2) else (jn (fun kk1=>bif p1.Kind == 3 then (kk1 (p1.Kind == 3)) else (kk1 (p1.Kind == 10))) (fun(x1:Bool)=>bif x1 then ((Z0 p0 ([p1.Op]:List (List UInt8))).bind fun y3=>(idx p1.Kids 0).bind fun u1=>(G.V0 y3 u1).bind fun y4=>some y4) else (jn (fun kk2=>bif p1.Kind == 4 then (kk2 (p1.Kind == 4)) else (kk2 (p1.Kind == 5))) (fun(x2:Bool)=>bif x2 then ((G.G2 p0 p1 p1.Op).bind fun y5=>some y5) else (bif p1.Kind == 6 then ((G.G2 p0 p1 ([63]:List UInt8)).bind fun y6=>(Z0 y6 ([([58]:List UInt8)]:List (List UInt8))).bind fun y7=>(idx p1.Kids 2).bind fun u2=>(G.V0 y7 u2).bind fun y8=>some y8) else (bif p1.Kind == 7 then ((Z0 p0 ([p1.Name,([40]:List UInt8)]:List (List UInt8))).bind fun y9=>(G.K2 y9 p1.Kids).bind fun y10=>(Z0 y10 ([([41]:List UInt8)]:List (List UInt8))).bind fun y11=>some y11) else (bif p1.Kind == 8 then ((idx p1.Kids 0).bind fun u3=>(G.V0 p0 u3).bind fun y12=>(Z0 y12 ([([91]:List UInt8)]:List (List UInt8))).bind fun y13=>(idx p1.Kids 1).bind fun u4=>(G.U8 y13 u4).bind fun y14=>(Z0 y14 ([([93]:List UInt8)]:List (List UInt8))).bind fun y15=>some y15) else (bif p1.Kind == 9 then ((idx p1.Kids 0).bind fun u5=>(G.V0 p0 u5).bind fun y16=>(Z0 y16 ([p1.Op,p1.Name]:List (List UInt8))).bind fun y17=>some y17) else (bif p1.Kind == 11 then ((idx p1.Kids 0).bind fun u6=>(G.V0 p0 u6).bind fun y18=>(Z0 y18 ([p1.Op]:List (List UInt8))).bind fun y19=>some y19) else (bif p1.Kind == 12 then ((Z0 p0 ([([115,105,122,101,111,102]:List UInt8),([40]:List UInt8)]:List (List UInt8))).bind fun y20=>(N3 y20 p1.Type_).bind fun y21=>(Z0 y21 ([([41]:List UInt8)]:List (List UInt8))).bind fun y22=>some y22) else (some p0))))))))))))
def C3 (G:Z2j) (p0:Q5) (p1:List Z6):Option (Q5) :=
  (V7 (fun(x2,x3)=>(bif decide (x2 < (List.length p1:Int)) then ((idx p1 x2).bind fun u1=>jn (fun kk1=>bif decide (0 < x2) then ((Z0 x3 ([([44]:List UInt8)]:List (List UInt8))).bind fun y1=>kk1 y1) else (kk1 x3)) (fun(x5:Q5)=>(G.U8 x5 u1).bind fun y2=>some (Lp.go (IntKind.wrap .i64 (x2+1),y2)))) else (some (Lp.brk (x2,x3))):Option (Lp (Int×Q5) (Unit)))) NN ((0:Int),p0)).bind fun o=>o.thn (fun(x2,x3)=>some x3) (fun _=>none)
def Q0w:Nat→Z2j
  | 0=>⟨fun _ _=>none,fun _ _ _=>none,fun _ _=>none,fun _ _=>none⟩
  | n+1=>⟨P5 (Q0w n),P6 (Q0w n),C4 (Q0w n),C3 (Q0w n)⟩
def V0 (p0:Q5) (p1:Z6):Option (Q5):=(Q0w NN).V0 p0 p1
def G2 (p0:Q5) (p1:Z6) (p2:List UInt8):Option (Q5):=(Q0w NN).G2 p0 p1 p2
def U8 (p0:Q5) (p1:Z6):Option (Q5):=(Q0w NN).U8 p0 p1
def K2 (p0:Q5) (p1:List Z6):Option (Q5):=(Q0w NN).K2 p0 p1

def U7 (p0:Q5) (p1:J8):Option (Q5) :=
  (N3 p0 p1.Type_).bind fun y1=>(Z0 y1 ([p1.Name]:List (List UInt8))).bind fun y2=>(V7 (fun(x2,x3)=>(bif decide (x2 < (List.length p1.Dims:Int)) then ((idx p1.Dims x2).bind fun u1=>(Z0 x3 ([([91]:List UInt8)]:List (List UInt8))).bind fun y3=>(N5 y3 u1).bind fun y4=>(Z0 y4 ([([93]:List UInt8)]:List (List UInt8))).bind fun y5=>some (Lp.go (IntKind.wrap .i64 (x2+1),y5))) else (some (Lp.brk (x2,x3))):Option (Lp (Int×Q5) (Unit)))) NN ((0:Int),y2)).bind fun o=>o.thn (fun(x2,x3)=>bif (List.length p1.Init:Int) == 0 then (some x3) else ((Z0 x3 ([([61]:List UInt8)]:List (List UInt8))).bind fun y6=>jn (fun kk1=>bif p1.Brace then ((Z0 y6 ([([123]:List UInt8)]:List (List UInt8))).bind fun y7=>kk1 y7) else (kk1 y6)) (fun(x5:Q5)=>(K2 x5 p1.Init).bind fun y8=>bif p1.Brace then ((Z0 y8 ([([125]:List UInt8)]:List (List UInt8))).bind fun y9=>some y9) else (some y8)))) (fun _=>none)

def D6 (p0:Q5) (p1:List UInt8) (p2:List Z6):Option (Q5) :=
  (Z0 p0 ([p1,([40]:List UInt8)]:List (List UInt8))).bind fun y1=>(K2 y1 p2).bind fun y2=>(Z0 y2 ([([41]:List UInt8)]:List (List UInt8))).bind fun y3=>some y3

def M9 (p0:Q5) (p1:U5):Option (Q5) :=
  jn (fun kk1=>bif p1.Kind == 8 then ((Z0 p0 ([([114,101,116,117,114,110]:List UInt8)]:List (List UInt8))).bind fun y1=>kk1 y1) else (bif p1.Kind == 9 then ((Z0 p0 ([([98,114,101,97,107]:List UInt8)]:List (List UInt8))).bind fun y2=>kk1 y2) else (bif p1.Kind == 10 then ((Z0 p0 ([([99,111,110,116,105,110,117,101]:List UInt8)]:List (List UInt8))).bind fun y3=>kk1 y3) else (kk1 p0)))) (fun(x2:Q5)=>(K2 x2 p1.A).bind fun y4=>(Z0 y4 ([([59]:List UInt8)]:List (List UInt8))).bind fun y5=>some y5)

structure Rec4 where
  B5:Q5→(List K7)→Option (Q5)
  J2:Q5→U5→Option (Q5)
  V4:Q5→(List U5)→Option (Q5)

def M3 (G:Rec4) (p0:Q5) (p1:List K7):Option (Q5) :=
  (Z0 p0 ([([123]:List UInt8)]:List (List UInt8))).bind fun y1=>(V7 (fun(x2,x3)=>(bif decide (x2 < (List.length p1:Int)) then ((idx p1 x2).bind fun u1=>jn (fun kk1=>bif u1.Default then ((Z0 x3 ([([100,101,102,97,117,108,116]:List UInt8)]:List (List UInt8))).bind fun y2=>kk1 y2) else ((Z0 x3 ([([99,97,115,101]:List UInt8)]:List (List UInt8))).bind fun y3=>(N5 y3 u1.Num).bind fun y4=>kk1 y4)) (fun(x5:Q5)=>(Z0 x5 ([([58]:List UInt8)]:List (List UInt8))).bind fun y5=>(V7 (fun(x7,x8)=>(bif decide (x7 < (List.length u1.Body:Int)) then ((idx u1.Body x7).bind fun u2=>(G.J2 x8 u2).bind fun y6=>some (Lp.go (IntKind.wrap .i64 (x7+1),y6))) else (some (Lp.brk (x7,x8))):Option (Lp (Int×Q5) (Unit)))) NN ((0:Int),y5)).bind fun o=>o.thn (fun(x7,x8)=>some (Lp.go (IntKind.wrap .i64 (x2+1),x8))) (fun _=>none))) else (some (Lp.brk (x2,x3))):Option (Lp (Int×Q5) (Unit)))) NN ((0:Int),y1)).bind fun o=>o.thn (fun(x2,x3)=>(Z0 x3 ([([125]:List UInt8)]:List (List UInt8))).bind fun y7=>some y7) (fun _=>none)
def C2 (G:Rec4) (p0:Q5) (p1:U5):Option (Q5) :=
  bif p1.Kind == 2 then ((V7 (fun(x2,x3)=>(bif decide (x2 < (List.length p1.Var:Int)) then ((idx p1.Var x2).bind fun u1=>(U7 x3 u1).bind fun y1=>some (Lp.go (IntKind.wrap .i64 (x2+1),y1))) else (some (Lp.brk (x2,x3))):Option (Lp (Int×Q5) (Unit)))) NN ((0:Int),p0)).bind fun o=>o.thn (fun(x2,x3)=>(Z0 x3 ([([59]:List UInt8)]:List (List UInt8))).bind fun y2=>some y2) (fun _=>none)) else (bif p1.Kind == 3 then ((D6 p0 ([105,102]:List UInt8) p1.A).bind fun y3=>(G.V4 y3 p1.Body).bind fun y4=>bif decide (0 < (List.length p1.Else:Int)) then ((Z0 y4 ([([101,108,115,101]:List UInt8)]:List (List UInt8))).bind fun y5=>(G.V4 y5 p1.Else).bind fun y6=>some y6) else (some y4)) else (bif p1.Kind == 4 then ((D6 p0 ([119,104,105,108,101]:List UInt8) p1.A).bind fun y7=>(G.V4 y7 p1.Body).bind fun y8=>some y8) else (bif p1.Kind == 5 then ((Z0 p0 ([([100,111]:List UInt8)]:List (List UInt8))).bind fun y9=>(G.V4 y9 p1.Body).bind fun y10=>(D6 y10 ([119,104,105,108,101]:List UInt8) p1.A).bind fun y11=>(Z0 y11 ([([59]:List UInt8)]:List (List UInt8))).bind fun y12=>some y12) else (bif p1.Kind == 6 then ((Z0 p0 ([([102,111,114]:List UInt8),([40]:List UInt8)]:List (List UInt8))).bind fun y13=>(K2 y13 p1.A).bind fun y14=>(Z0 y14 ([([59]:List UInt8)]:List (List UInt8))).bind fun y15=>(K2 y15 p1.B).bind fun y16=>(Z0 y16 ([([59]:List UInt8)]:List (List UInt8))).bind fun y17=>(K2 y17 p1.C).bind fun y18=>(Z0 y18 ([([41]:List UInt8)]:List (List UInt8))).bind fun y19=>(G.V4 y19 p1.Body).bind fun y20=>some y20) else (bif p1.Kind == 7 then ((D6 p0 ([115,119,105,116,99,104]:List UInt8) p1.A).bind fun y21=>(G.B5 y21 p1.Cases).bind fun y22=>some y22) else (bif p1.Kind == 11 then ((G.V4 p0 p1.Body).bind fun y23=>some y23) else ((M9 p0 p1).bind fun y24=>some y24)))))))
def M4 (G:Rec4) (p0:Q5) (p1:List U5):Option (Q5) :=
  (Z0 p0 ([([123]:List UInt8)]:List (List UInt8))).bind fun y1=>(V7 (fun(x2,x3)=>(bif decide (x2 < (List.length p1:Int)) then ((idx p1 x2).bind fun u1=>(G.J2 x3 u1).bind fun y2=>some (Lp.go (IntKind.wrap .i64 (x2+1),y2))) else (some (Lp.brk (x2,x3))):Option (Lp (Int×Q5) (Unit)))) NN ((0:Int),y1)).bind fun o=>o.thn (fun(x2,x3)=>(Z0 x3 ([([125]:List UInt8)]:List (List UInt8))).bind fun y3=>some y3) (fun _=>none)
def Q3g:Nat→Rec4
  | 0=>⟨fun _ _=>none,fun _ _=>none,fun _ _=>none⟩
  | n+1=>⟨M3 (Q3g n),C2 (Q3g n),M4 (Q3g n)⟩
def B5 (p0:Q5) (p1:List K7):Option (Q5):=(Q3g NN).B5 p0 p1
def J2 (p0:Q5) (p1:U5):Option (Q5):=(Q3g NN).J2 p0 p1
def V4 (p0:Q5) (p1:List U5):Option (Q5):=(Q3g NN).V4 p0 p1

def S4 (p0:K4):Option ((List UInt8)) :=
  (V7 (fun(x2,x3)=>(bif decide (x2 < (List.length p0.Structs:Int)) then ((idx p0.Structs x2).bind fun u1=>(Z0 x3 ([([115,116,114,117,99,116]:List UInt8),u1.Name,([123]:List UInt8)]:List (List UInt8))).bind fun y1=>(V7 (fun(x5,x6)=>(bif decide (x5 < (List.length u1.Fields:Int)) then ((idx u1.Fields x5).bind fun u2=>(U7 x6 u2).bind fun y2=>(Z0 y2 ([([59]:List UInt8)]:List (List UInt8))).bind fun y3=>some (Lp.go (IntKind.wrap .i64 (x5+1),y3))) else (some (Lp.brk (x5,x6))):Option (Lp (Int×Q5) (Unit)))) NN ((0:Int),y1)).bind fun o=>o.thn (fun(x5,x6)=>(Z0 x6 ([([125]:List UInt8),([59]:List UInt8)]:List (List UInt8))).bind fun y4=>some (Lp.go (IntKind.wrap .i64 (x2+1),y4))) (fun _=>none)) else (some (Lp.brk (x2,x3))):Option (Lp (Int×Q5) (Unit)))) NN ((0:Int),(⟨[]⟩:Q5))).bind fun o=>o.thn (fun(x2,x3)=>(V7 (fun(x8,x9)=>(bif decide (x8 < (List.length p0.Globals:Int)) then ((idx p0.Globals x8).bind fun u3=>(U7 x9 u3).bind fun y5=>(Z0 y5 ([([59]:List UInt8)]:List (List UInt8))).bind fun y6=>some (Lp.go (IntKind.wrap .i64 (x8+1),y6))) else (some (Lp.brk (x8,x9))):Option (Lp (Int×Q5) (Unit)))) NN ((0:Int),x3)).bind fun o=>o.thn (fun(x8,x9)=>(V7 (fun(x11,x12)=>(bif decide (x11 < (List.length p0.Funcs:Int)) then ((idx p0.Funcs x11).bind fun u4=>(N3 x12 u4.Ret).bind fun y7=>(Z0 y7 ([u4.Name,([40]:List UInt8)]:List (List UInt8))).bind fun y8=>(V7 (fun(x14,x15)=>(bif decide (x14 < (List.length u4.Params:Int)) then ((idx u4.Params x14).bind fun u5=>jn (fun kk1=>bif decide (0 < x14) then ((Z0 x15 ([([44]:List UInt8)]:List (List UInt8))).bind fun y9=>kk1 y9) else (kk1 x15)) (fun(x17:Q5)=>(U7 x17 u5).bind fun y10=>some (Lp.go (IntKind.wrap .i64 (x14+1),y10)))) else (some (Lp.brk (x14,x15))):Option (Lp (Int×Q5) (Unit)))) NN ((0:Int),y8)).bind fun o=>o.thn (fun(x14,x15)=>(Z0 x15 ([([41]:List UInt8)]:List (List UInt8))).bind fun y11=>(V4 y11 u4.Body).bind fun y12=>some (Lp.go (IntKind.wrap .i64 (x11+1),y12))) (fun _=>none)) else (some (Lp.brk (x11,x12))):Option (Lp (Int×Q5) (Unit)))) NN ((0:Int),x9)).bind fun o=>o.thn (fun(x11,x12)=>(strings_Join x12.l ([32]:List UInt8)).bind fun y13=>some y13) (fun _=>none)) (fun _=>none)) (fun _=>none)

def Q1t  : Option (Bool) :=
  (Q3v ([105,110,116,32,109,97,105,110,40,41,32,123,32,114,101,116,117,114,110,32,49,32,43,32,50,32,42,32,51,59,32,125]:List UInt8)).bind fun y1=>bif y1.2.2 == 0 then (bif (List.length y1.1.Funcs:Int) == 1 then ((S4 y1.1).bind fun y2=>some (decide (y2=([105,110,116,32,109,97,105,110,32,40,32,41,32,123,32,114,101,116,117,114,110,32,49,32,43,32,40,32,50,32,42,32,51,32,41,32,59,32,125]:List UInt8)))) else (some false)) else (some false)

def Q5q (p0:List F7):Option ((List F7)) :=
  (Q0q (List.length ([]:List F7)+List.length p0)).bind fun _=>some (([]:List F7)++p0)

def Q4i (p0:List J8):Option ((List J8)) :=
  (Q0q (List.length ([]:List J8)+List.length p0)).bind fun _=>some (([]:List J8)++p0)

def Q1x (p0:List Int):Option ((List Int)) :=
  (Q0q (List.length ([]:List Int)+List.length p0)).bind fun _=>some (([]:List Int)++p0)

def Q4h (p0:List Z6):Option ((List Z6)) :=
  (Q0q (List.length ([]:List Z6)+List.length p0)).bind fun _=>some (([]:List Z6)++p0)

structure Rec5 where
  C6:Z6→Option (Z6)
  C7:(List Z6)→Option ((List Z6))

def W5 (G:Rec5) (p0:Z6):Option (Z6) :=
  (G.C7 p0.Kids).bind fun y1=>some ({p0 with Pos:=(⟨0,0⟩:Pos),Kids:=y1})
def Q5d (G:Rec5) (p0:List Z6):Option ((List Z6)) :=
  (Q4h p0).bind fun y1=>(V7 (fun(x1,x2)=>(bif decide (x2 < (List.length y1:Int)) then ((idx x1 x2).bind fun u1=>(G.C6 u1).bind fun y2=>(idx x1 x2).bind fun u2=>(idx x1 x2).bind fun u3=>some (Lp.go (List.set x1 (Int.toNat x2) y2,IntKind.wrap .i64 (x2+1)))) else (some (Lp.brk (x1,x2))):Option (Lp ((List Z6)×Int) (Unit)))) NN (y1,(0:Int))).bind fun o=>o.thn (fun(x1,x2)=>some x1) (fun _=>none)
def rec5:Nat→Rec5
  | 0=>⟨fun _=>none,fun _=>none⟩
  | n+1=>⟨W5 (rec5 n),Q5d (rec5 n)⟩
def C6 (p0:Z6):Option (Z6):=(rec5 NN).C6 p0
def C7 (p0:List Z6):Option ((List Z6)):=(rec5 NN).C7 p0

def Q1k (p0:J8):Option (J8) :=
  (Q1x p0.Dims).bind fun y1=>(C7 p0.Init).bind fun y2=>some ({p0 with Pos:=(⟨0,0⟩:Pos),Dims:=y1,Init:=y2})

def Q1c (p0:List J8):Option ((List J8)) :=
  (Q4i p0).bind fun y1=>(V7 (fun(x1,x2)=>(bif decide (x2 < (List.length y1:Int)) then ((idx x1 x2).bind fun u1=>(Q1k u1).bind fun y2=>(idx x1 x2).bind fun u2=>(idx x1 x2).bind fun u3=>some (Lp.go (List.set x1 (Int.toNat x2) y2,IntKind.wrap .i64 (x2+1)))) else (some (Lp.brk (x1,x2))):Option (Lp ((List J8)×Int) (Unit)))) NN (y1,(0:Int))).bind fun o=>o.thn (fun(x1,x2)=>some x1) (fun _=>none)

def Q3s (p0:F7):Option (F7) :=
  (Q1c p0.Fields).bind fun y1=>some (⟨(⟨0,0⟩:Pos),p0.Name,y1⟩:F7)

def Q7h (p0:List F7):Option ((List F7)) :=
  (Q5q p0).bind fun y1=>(V7 (fun(x1,x2)=>(bif decide (x2 < (List.length y1:Int)) then ((idx x1 x2).bind fun u1=>(Q3s u1).bind fun y2=>(idx x1 x2).bind fun u2=>(idx x1 x2).bind fun u3=>some (Lp.go (List.set x1 (Int.toNat x2) y2,IntKind.wrap .i64 (x2+1)))) else (some (Lp.brk (x1,x2))):Option (Lp ((List F7)×Int) (Unit)))) NN (y1,(0:Int))).bind fun o=>o.thn (fun(x1,x2)=>some x1) (fun _=>none)

def Q4g (p0:List P4):Option ((List P4)) :=
  (Q0q (List.length ([]:List P4)+List.length p0)).bind fun _=>some (([]:List P4)++p0)

def Q4f (p0:List U5):Option ((List U5)) :=
  (Q0q (List.length ([]:List U5)+List.length p0)).bind fun _=>some (([]:List U5)++p0)

def Q4e (p0:List K7):Option ((List K7)) :=
  (Q0q (List.length ([]:List K7)+List.length p0)).bind fun _=>some (([]:List K7)++p0)

structure Rec6 where
  A0:K7→Option (K7)
  R9:(List K7)→Option ((List K7))
  N9:U5→Option (U5)
  M7:(List U5)→Option ((List U5))

def O1 (G:Rec6) (p0:K7):Option (K7) :=
  (G.M7 p0.Body).bind fun y1=>some ({p0 with Pos:=(⟨0,0⟩:Pos),Body:=y1})
def Q5b (G:Rec6) (p0:List K7):Option ((List K7)) :=
  (Q4e p0).bind fun y1=>(V7 (fun(x1,x2)=>(bif decide (x2 < (List.length y1:Int)) then ((idx x1 x2).bind fun u1=>(G.A0 u1).bind fun y2=>(idx x1 x2).bind fun u2=>(idx x1 x2).bind fun u3=>some (Lp.go (List.set x1 (Int.toNat x2) y2,IntKind.wrap .i64 (x2+1)))) else (some (Lp.brk (x1,x2))):Option (Lp ((List K7)×Int) (Unit)))) NN (y1,(0:Int))).bind fun o=>o.thn (fun(x1,x2)=>some x1) (fun _=>none)
def W4 (G:Rec6) (p0:U5):Option (U5) :=
  (C7 p0.A).bind fun y1=>(C7 p0.B).bind fun y2=>(C7 p0.C).bind fun y3=>(Q1c p0.Var).bind fun y4=>(G.M7 p0.Body).bind fun y5=>(G.M7 p0.Else).bind fun y6=>(G.R9 p0.Cases).bind fun y7=>some (⟨p0.Kind,(⟨0,0⟩:Pos),y1,y2,y3,y4,y5,y6,y7⟩:U5)
def Q5c (G:Rec6) (p0:List U5):Option ((List U5)) :=
  (Q4f p0).bind fun y1=>(V7 (fun(x1,x2)=>(bif decide (x2 < (List.length y1:Int)) then ((idx x1 x2).bind fun u1=>(G.N9 u1).bind fun y2=>(idx x1 x2).bind fun u2=>(idx x1 x2).bind fun u3=>some (Lp.go (List.set x1 (Int.toNat x2) y2,IntKind.wrap .i64 (x2+1)))) else (some (Lp.brk (x1,x2))):Option (Lp ((List U5)×Int) (Unit)))) NN (y1,(0:Int))).bind fun o=>o.thn (fun(x1,x2)=>some x1) (fun _=>none)
def Q6k:Nat→Rec6
  | 0=>⟨fun _=>none,fun _=>none,fun _=>none,fun _=>none⟩
  | n+1=>⟨O1 (Q6k n),Q5b (Q6k n),W4 (Q6k n),Q5c (Q6k n)⟩
def A0 (p0:K7):Option (K7):=(Q6k NN).A0 p0
def R9 (p0:List K7):Option ((List K7)):=(Q6k NN).R9 p0
def N9 (p0:U5):Option (U5):=(Q6k NN).N9 p0
def M7 (p0:List U5):Option ((List U5)):=(Q6k NN).M7 p0

def Q3r (p0:P4):Option (P4) :=
  (Q1c p0.Params).bind fun y1=>(M7 p0.Body).bind fun y2=>some (⟨(⟨0,0⟩:Pos),p0.Ret,p0.Name,y1,y2⟩:P4)

def Q4u (p0:List P4):Option ((List P4)) :=
  (Q4g p0).bind fun y1=>(V7 (fun(x1,x2)=>(bif decide (x2 < (List.length y1:Int)) then ((idx x1 x2).bind fun u1=>(Q3r u1).bind fun y2=>(idx x1 x2).bind fun u2=>(idx x1 x2).bind fun u3=>some (Lp.go (List.set x1 (Int.toNat x2) y2,IntKind.wrap .i64 (x2+1)))) else (some (Lp.brk (x1,x2))):Option (Lp ((List P4)×Int) (Unit)))) NN (y1,(0:Int))).bind fun o=>o.thn (fun(x1,x2)=>some x1) (fun _=>none)

def Q2m (p0:K4):Option (K4) :=
  (Q7h p0.Structs).bind fun y1=>(Q1c p0.Globals).bind fun y2=>(Q4u p0.Funcs).bind fun y3=>some (⟨y1,y2,y3⟩:K4)

structure Rec7 where
  E5:(List Z6)→(List Z6)→Bool→Option (Bool)

def S6 (G:Rec7) (p0:List Z6) (p1:List Z6) (p2:Bool):Option (Bool) :=
  bif (List.length p0:Int) != (List.length p1:Int) then (some false) else ((V7 (fun(x1:Int)=>(bif decide (x1 < (List.length p0:Int)) then (jn (fun kk1=>(idx p0 x1).bind fun u1=>(idx p1 x1).bind fun u2=>kk1 u1 u2) (fun(x2:Z6) (x3:Z6)=>bif x2.Kind != x3.Kind then (some (Lp.ret false)) else (bif !p2 then (bif !((x2.Pos.Line == x3.Pos.Line)&&(x2.Pos.Col == x3.Pos.Col)) then (some (Lp.ret false)) else (bif !(decide (x2.Op=x3.Op)) then (some (Lp.ret false)) else (bif !(decide (x2.Name=x3.Name)) then (some (Lp.ret false)) else (bif x2.Num != x3.Num then (some (Lp.ret false)) else (bif !((decide (x2.Type_.Word=x3.Type_.Word))&&(decide (x2.Type_.Name=x3.Type_.Name))&&(x2.Type_.Stars == x3.Type_.Stars)) then (some (Lp.ret false)) else ((G.E5 x2.Kids x3.Kids p2).bind fun y1=>bif !y1 then (some (Lp.ret false)) else (some (Lp.go (IntKind.wrap .i64 (x1+1)))))))))) else (bif !(decide (x2.Op=x3.Op)) then (some (Lp.ret false)) else (bif !(decide (x2.Name=x3.Name)) then (some (Lp.ret false)) else (bif x2.Num != x3.Num then (some (Lp.ret false)) else (bif !((decide (x2.Type_.Word=x3.Type_.Word))&&(decide (x2.Type_.Name=x3.Type_.Name))&&(x2.Type_.Stars == x3.Type_.Stars)) then (some (Lp.ret false)) else ((G.E5 x2.Kids x3.Kids p2).bind fun y2=>bif !y2 then (some (Lp.ret false)) else (some (Lp.go (IntKind.wrap .i64 (x1+1)))))))))))) else (some (Lp.brk x1)):Option (Lp (Int) (Bool)))) NN (0:Int)).bind fun o=>o.thn (fun(x1:Int)=>some true) (fun r=>some r))
def rec7:Nat→Rec7
  | 0=>⟨fun _ _ _=>none⟩
  | n+1=>⟨S6 (rec7 n)⟩
def E5 (p0:List Z6) (p1:List Z6) (p2:Bool):Option (Bool):=(rec7 NN).E5 p0 p1 p2

def O4 (p0:List J8) (p1:List J8) (p2:Bool):Option (Bool) :=
  bif (List.length p0:Int) != (List.length p1:Int) then (some false) else ((V7 (fun(x1:Int)=>(bif decide (x1 < (List.length p0:Int)) then (jn (fun kk1=>(idx p0 x1).bind fun u1=>(idx p1 x1).bind fun u2=>kk1 u1 u2) (fun(x2:J8) (x3:J8)=>bif !p2 then (bif !((x2.Pos.Line == x3.Pos.Line)&&(x2.Pos.Col == x3.Pos.Col)) then (some (Lp.ret false)) else (bif !((decide (x2.Type_.Word=x3.Type_.Word))&&(decide (x2.Type_.Name=x3.Type_.Name))&&(x2.Type_.Stars == x3.Type_.Stars)) then (some (Lp.ret false)) else (bif !(decide (x2.Name=x3.Name)) then (some (Lp.ret false)) else (bif !(x2.Brace == x3.Brace) then (some (Lp.ret false)) else (bif (List.length x2.Dims:Int) != (List.length x3.Dims:Int) then (some (Lp.ret false)) else ((E5 x2.Init x3.Init p2).bind fun y1=>bif !y1 then (some (Lp.ret false)) else ((V7 (fun(x4:Int)=>(bif decide (x4 < (List.length x2.Dims:Int)) then ((idx x2.Dims x4).bind fun u3=>(idx x3.Dims x4).bind fun u4=>bif u3 != u4 then (some (Lp.ret false)) else (some (Lp.go (IntKind.wrap .i64 (x4+1))))) else (some (Lp.brk x4)):Option (Lp (Int) (Bool)))) NN (0:Int)).bind fun o=>o.thn (fun(x4:Int)=>some (Lp.go (IntKind.wrap .i64 (x1+1)))) (fun r=>some (Lp.ret r))))))))) else (bif !((decide (x2.Type_.Word=x3.Type_.Word))&&(decide (x2.Type_.Name=x3.Type_.Name))&&(x2.Type_.Stars == x3.Type_.Stars)) then (some (Lp.ret false)) else (bif !(decide (x2.Name=x3.Name)) then (some (Lp.ret false)) else (bif !(x2.Brace == x3.Brace) then (some (Lp.ret false)) else (bif (List.length x2.Dims:Int) != (List.length x3.Dims:Int) then (some (Lp.ret false)) else ((E5 x2.Init x3.Init p2).bind fun y2=>bif !y2 then (some (Lp.ret false)) else ((V7 (fun(x5:Int)=>(bif decide (x5 < (List.length x2.Dims:Int)) then ((idx x2.Dims x5).bind fun u5=>(idx x3.Dims x5).bind fun u6=>bif u5 != u6 then (some (Lp.ret false)) else (some (Lp.go (IntKind.wrap .i64 (x5+1))))) else (some (Lp.brk x5)):Option (Lp (Int) (Bool)))) NN (0:Int)).bind fun o=>o.thn (fun(x5:Int)=>some (Lp.go (IntKind.wrap .i64 (x1+1)))) (fun r=>some (Lp.ret r)))))))))) else (some (Lp.brk x1)):Option (Lp (Int) (Bool)))) NN (0:Int)).bind fun o=>o.thn (fun(x1:Int)=>some true) (fun r=>some r))

structure Rec8 where
  J9:(List U5)→(List U5)→Bool→Option (Bool)

def S5 (G:Rec8) (p0:List U5) (p1:List U5) (p2:Bool):Option (Bool) :=
  bif (List.length p0:Int) != (List.length p1:Int) then (some false) else ((V7 (fun(x1:Int)=>(bif decide (x1 < (List.length p0:Int)) then (jn (fun kk1=>(idx p0 x1).bind fun u1=>(idx p1 x1).bind fun u2=>kk1 u1 u2) (fun(x2:U5) (x3:U5)=>bif x2.Kind != x3.Kind then (some (Lp.ret false)) else (bif !p2 then (bif !((x2.Pos.Line == x3.Pos.Line)&&(x2.Pos.Col == x3.Pos.Col)) then (some (Lp.ret false)) else ((E5 x2.A x3.A p2).bind fun y1=>bif !y1 then (some (Lp.ret false)) else ((E5 x2.B x3.B p2).bind fun y2=>bif !y2 then (some (Lp.ret false)) else ((E5 x2.C x3.C p2).bind fun y3=>bif !y3 then (some (Lp.ret false)) else ((O4 x2.Var x3.Var p2).bind fun y4=>bif !y4 then (some (Lp.ret false)) else ((G.J9 x2.Body x3.Body p2).bind fun y5=>bif !y5 then (some (Lp.ret false)) else ((G.J9 x2.Else x3.Else p2).bind fun y6=>bif !y6 then (some (Lp.ret false)) else (bif (List.length x2.Cases:Int) != (List.length x3.Cases:Int) then (some (Lp.ret false)) else ((V7 (fun(x4:Int)=>(bif decide (x4 < (List.length x2.Cases:Int)) then (jn (fun kk2=>(idx x2.Cases x4).bind fun u3=>(idx x3.Cases x4).bind fun u4=>kk2 u3 u4) (fun(x5:K7) (x6:K7)=>bif !(x5.Default == x6.Default) then (some (Lp.ret false)) else (bif !p2 then (bif !((x5.Pos.Line == x6.Pos.Line)&&(x5.Pos.Col == x6.Pos.Col)) then (some (Lp.ret false)) else (bif x5.Num != x6.Num then (some (Lp.ret false)) else ((G.J9 x5.Body x6.Body p2).bind fun y7=>bif !y7 then (some (Lp.ret false)) else (some (Lp.go (IntKind.wrap .i64 (x4+1))))))) else (bif x5.Num != x6.Num then (some (Lp.ret false)) else ((G.J9 x5.Body x6.Body p2).bind fun y8=>bif !y8 then (some (Lp.ret false)) else (some (Lp.go (IntKind.wrap .i64 (x4+1))))))))) else (some (Lp.brk x4)):Option (Lp (Int) (Bool)))) NN (0:Int)).bind fun o=>o.thn (fun(x4:Int)=>some (Lp.go (IntKind.wrap .i64 (x1+1)))) (fun r=>some (Lp.ret r))))))))))) else ((E5 x2.A x3.A p2).bind fun y9=>bif !y9 then (some (Lp.ret false)) else ((E5 x2.B x3.B p2).bind fun y10=>bif !y10 then (some (Lp.ret false)) else ((E5 x2.C x3.C p2).bind fun y11=>bif !y11 then (some (Lp.ret false)) else ((O4 x2.Var x3.Var p2).bind fun y12=>bif !y12 then (some (Lp.ret false)) else ((G.J9 x2.Body x3.Body p2).bind fun y13=>bif !y13 then (some (Lp.ret false)) else ((G.J9 x2.Else x3.Else p2).bind fun y14=>bif !y14 then (some (Lp.ret false)) else (bif (List.length x2.Cases:Int) != (List.length x3.Cases:Int) then (some (Lp.ret false)) else ((V7 (fun(x7:Int)=>(bif decide (x7 < (List.length x2.Cases:Int)) then (jn (fun kk3=>(idx x2.Cases x7).bind fun u5=>(idx x3.Cases x7).bind fun u6=>kk3 u5 u6) (fun(x8:K7) (x9:K7)=>bif !(x8.Default == x9.Default) then (some (Lp.ret false)) else (bif !p2 then (bif !((x8.Pos.Line == x9.Pos.Line)&&(x8.Pos.Col == x9.Pos.Col)) then (some (Lp.ret false)) else (bif x8.Num != x9.Num then (some (Lp.ret false)) else ((G.J9 x8.Body x9.Body p2).bind fun y15=>bif !y15 then (some (Lp.ret false)) else (some (Lp.go (IntKind.wrap .i64 (x7+1))))))) else (bif x8.Num != x9.Num then (some (Lp.ret false)) else ((G.J9 x8.Body x9.Body p2).bind fun y16=>bif !y16 then (some (Lp.ret false)) else (some (Lp.go (IntKind.wrap .i64 (x7+1))))))))) else (some (Lp.brk x7)):Option (Lp (Int) (Bool)))) NN (0:Int)).bind fun o=>o.thn (fun(x7:Int)=>some (Lp.go (IntKind.wrap .i64 (x1+1)))) (fun r=>some (Lp.ret r))))))))))))) else (some (Lp.brk x1)):Option (Lp (Int) (Bool)))) NN (0:Int)).bind fun o=>o.thn (fun(x1:Int)=>some true) (fun r=>some r))
def rec8:Nat→Rec8
  | 0=>⟨fun _ _ _=>none⟩
  | n+1=>⟨S5 (rec8 n)⟩
def J9 (p0:List U5) (p1:List U5) (p2:Bool):Option (Bool):=(rec8 NN).J9 p0 p1 p2

def Q2v (p0:K4) (p1:K4) (p2:Bool):Option (Bool) :=
  bif (List.length p0.Structs:Int) != (List.length p1.Structs:Int) then (some false) else (bif (List.length p0.Funcs:Int) != (List.length p1.Funcs:Int) then (some false) else ((O4 p0.Globals p1.Globals p2).bind fun y1=>bif !y1 then (some false) else ((V7 (fun(x1:Int)=>(bif decide (x1 < (List.length p0.Structs:Int)) then (jn (fun kk1=>(idx p0.Structs x1).bind fun u1=>(idx p1.Structs x1).bind fun u2=>kk1 u1 u2) (fun(x2:F7) (x3:F7)=>bif !(decide (x2.Name=x3.Name)) then (some (Lp.ret false)) else (bif !p2 then (bif !((x2.Pos.Line == x3.Pos.Line)&&(x2.Pos.Col == x3.Pos.Col)) then (some (Lp.ret false)) else ((O4 x2.Fields x3.Fields p2).bind fun y2=>bif !y2 then (some (Lp.ret false)) else (some (Lp.go (IntKind.wrap .i64 (x1+1)))))) else ((O4 x2.Fields x3.Fields p2).bind fun y3=>bif !y3 then (some (Lp.ret false)) else (some (Lp.go (IntKind.wrap .i64 (x1+1)))))))) else (some (Lp.brk x1)):Option (Lp (Int) (Bool)))) NN (0:Int)).bind fun o=>o.thn (fun(x1:Int)=>(V7 (fun(x4:Int)=>(bif decide (x4 < (List.length p0.Funcs:Int)) then (jn (fun kk2=>(idx p0.Funcs x4).bind fun u3=>(idx p1.Funcs x4).bind fun u4=>kk2 u3 u4) (fun(x5:P4) (x6:P4)=>bif !(decide (x5.Name=x6.Name)) then (some (Lp.ret false)) else (bif !p2 then (bif !((x5.Pos.Line == x6.Pos.Line)&&(x5.Pos.Col == x6.Pos.Col)) then (some (Lp.ret false)) else (bif !((decide (x5.Ret.Word=x6.Ret.Word))&&(decide (x5.Ret.Name=x6.Ret.Name))&&(x5.Ret.Stars == x6.Ret.Stars)) then (some (Lp.ret false)) else ((O4 x5.Params x6.Params p2).bind fun y4=>bif !y4 then (some (Lp.ret false)) else ((J9 x5.Body x6.Body p2).bind fun y5=>bif !y5 then (some (Lp.ret false)) else (some (Lp.go (IntKind.wrap .i64 (x4+1)))))))) else (bif !((decide (x5.Ret.Word=x6.Ret.Word))&&(decide (x5.Ret.Name=x6.Ret.Name))&&(x5.Ret.Stars == x6.Ret.Stars)) then (some (Lp.ret false)) else ((O4 x5.Params x6.Params p2).bind fun y6=>bif !y6 then (some (Lp.ret false)) else ((J9 x5.Body x6.Body p2).bind fun y7=>bif !y7 then (some (Lp.ret false)) else (some (Lp.go (IntKind.wrap .i64 (x4+1)))))))))) else (some (Lp.brk x4)):Option (Lp (Int) (Bool)))) NN (0:Int)).bind fun o=>o.thn (fun(x4:Int)=>some true) (fun r=>some r)) (fun r=>some r))))

def Q0r (p0:List UInt8):Option (Bool) :=
  bif decide (3000 < (List.length p0:Int)) then ((Q1t).bind fun y1=>some y1) else ((Q3v p0).bind fun y2=>bif y2.2.2 != 0 then ((Q1t).bind fun y3=>some y3) else ((Q2m y2.1).bind fun y4=>(Q1t).bind fun y5=>bif y5 then ((Q2v y4 y2.1 true).bind fun y6=>bif y6 then ((Q2m y4).bind fun y7=>(Q2v y7 y4 false).bind fun y8=>bif y8 then ((S4 y4).bind fun y9=>(S4 y2.1).bind fun y10=>some (decide (y9=y10))) else (some false)) else (some false)) else (some false)))
end Go.Proofs.YtbolaohekbmndaaGreatDoor
