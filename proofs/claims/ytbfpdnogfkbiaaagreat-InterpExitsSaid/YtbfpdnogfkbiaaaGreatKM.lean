/- The models of Go functions: what each computes. Printed by gen2.py. -/
import Derived.Test.YtbfpdnogfkbiaaaGreatKLA
import Derived.Laws.Entries
import Derived.Lib.Index
set_option linter.unusedVariables false
namespace Go.Proofs.YtbfpdnogfkbiaaaGreat
open List renaming length → qQ, set → qP
open IntKind renaming wrap → qJ
open Except renaming error → qK, ok → qX
open Int renaming toNat → qF
open UInt8 renaming toNat → qA
/-- What follows a call whose refusal is handed on. -/
abbrev exE {E F O B:Type} (y:Except (E×F) O) (f:O→Option (Except (E×F) B)):Option (Except (E×F) B):=exC y f (fun e=>some (qK (e.1,e.2)))
abbrev exL {E F O S B:Type} (y:Except (E×F) O) (f:O→Option (Lp S (Except (E×F) B))):Option (Lp S (Except (E×F) B)):=exC y f (fun e=>some (Lp.ret (qK (e.1,e.2))))

def strings_Index (p0 p1:List UInt8):Option Int:=if p0.length < 4294967281 then some (Go.Lib.index p0 p1) else none
structure Pos where
  Line:Int
  Col:Int
  deriving DecidableEq
structure P9 where
  Word:List UInt8
  Name:List UInt8
  Stars:Int
  deriving DecidableEq
structure Y7 where
  Kind:Int
  Pos:Pos
  Op:List UInt8
  Name:List UInt8
  Num:Int
  Type_:P9
  Kids:List Y7
structure N0 where
  Pos:Pos
  Type_:P9
  Name:List UInt8
  Dims:List Int
  Init:List Y7
  Brace:Bool
structure Q3b where
  Pos:Pos
  Name:List UInt8
  Fields:List N0
structure X2u (S:Type) where
  Pos:Pos
  Default:Bool
  Num:Int
  Body:List S
structure F6 where
  Kind:Int
  Pos:Pos
  A:List Y7
  B:List Y7
  C:List Y7
  Var:List N0
  Body:List F6
  Else:List F6
  Cases:List (X2u F6)
abbrev Q0o:=X2u F6
structure Q0n where
  Pos:Pos
  Ret:P9
  Name:List UInt8
  Params:List N0
  Body:List F6
structure E3 where
  Structs:List Q3b
  Globals:List N0
  Funcs:List Q0n
structure B0 where
  s:List UInt8
  pos:Pos
  deriving DecidableEq
structure U1 where
  Kind:Int
  Text:List UInt8
  Num:Int
  Pos:Pos
  deriving DecidableEq
structure Z0 where
  l:List U1
  end_:Pos
  depth:Int
  deriving DecidableEq
structure Y2 where
  pos:Pos
  e:Int
  deriving DecidableEq
structure Z3n where
  Name:List UInt8
  Size:Int
  Align:Int
  Cell:Int
  deriving DecidableEq
structure Y5 where
  Kind:Int
  Fn:Int
  Num:Int
  Var:Int
  Global:Bool
  Size:Int
  Post:Bool
  Ptr:Bool
  Kids:List Y5
structure X3m (S:Type) where
  Default:Bool
  Num:Int
  Body:List S
structure U7 where
  Kind:Int
  A:List Y5
  Post:List Y5
  First:Bool
  Body:List U7
  Else:List U7
  Cases:List (X3m U7)
  Var:Int
abbrev Z3z:=X3m U7
structure Q5s where
  Name:List UInt8
  Void:Bool
  Params:Int
  Slots:List Z3n
  Body:List U7
structure Q8k where
  Globals:List Z3n
  Data:List (List Int)
  Codes:List Q5s
  Main:Int
structure K5 where
  Name:List UInt8
  Type_:Int
  At:Int
  deriving DecidableEq
structure Q8l where
  Kind:Int
  Elem:Int
  Len:Int
  Name:List UInt8
  Fields:List K5
  deriving DecidableEq
structure K0 where
  Type_:Q8l
  size:Int
  align:Int
  open_:Bool
  deriving DecidableEq
structure Z7 where
  list:List K0
  deriving DecidableEq
structure M4 where
  ret:Int
  params:List Int
  deriving DecidableEq
structure J7 where
  ret:Int
  slots:List Z3n
  types:List Int
  scopes:List (Option (List ((List UInt8)×Int)))
  loops:Int
  breaks:Int
  deriving DecidableEq
structure Q0 where
  t:Z7
  u:Q8k
  globals:Option (List ((List UInt8)×Int))
  codes:Option (List ((List UInt8)×Int))
  gtypes:List Int
  signs:List M4
  fun_:O3 J7
structure Y1 where
  n:Int
  term:Y5
  lies:Bool
structure Z4 where
  pos:Pos
  e:Int
  deriving DecidableEq
structure Z3g where
  Out:List Int
  Ins:Int
  Exit:Int
  E:Int
  deriving DecidableEq
structure A1 where
  data:List Int
  set_:List Bool
  deriving DecidableEq
structure X9 where
  Obj:Int
  Lo:Int
  Hi:Int
  Off:Int
  deriving DecidableEq
structure J0 where
  bytes:A1
  ptrs:Option (List (Int×X9))
  gone:Bool
  deriving DecidableEq
structure Y8 where
  list:List J0
  deriving DecidableEq
structure Y4 where
  Num:Int
  Ptr:X9
  Is:Bool
  deriving DecidableEq
structure Z1 where
  u:Q8k
  mem:Y8
  inputs:List Int
  out:Z3g
  fuel:Int
  deep:Int
  vars:List X9
  ret:Y4


def Q5e (p0:List UInt8) (p1:List UInt8):Option (Bool) :=
  bif decide ((qQ p1:Int)≤(qQ p0:Int)) then ((sub p0 0 (qQ p1:Int)).bind fun u1=>some (decide (u1=p1))) else (some false)

def P1 (p0:List UInt8) (p1:List UInt8):Option (Bool) :=
  (Q5e p0 p1).bind fun y1=>some y1

def Z0l (p0:Int):Option (Bool) :=
  bif p0 == 32 then (some true) else (bif p0 == 9 then (some true) else (bif p0 == 10 then (some true) else (some (p0 == 13))))

def Y3u (p0:List UInt8):Option (Int) :=
  (X5 (fun(x1:Int)=>(bif decide (x1 < (qQ p0:Int)) then ((idx p0 x1).bind fun u1=>(Z0l (qA u1:Int)).bind fun y1=>bif y1 then (some (Lp.go (qJ .i64 (x1+1)))) else (some (Lp.brk x1))) else (some (Lp.brk x1)):Option (Lp (Int) (Unit)))) NN (0:Int)).bind fun o=>o.thn (fun(x1:Int)=>some x1) (fun _=>none)

def Z5f (p0:List UInt8):Option (Int) :=
  (P1 p0 ([47,47]:List UInt8)).bind fun y1=>bif y1 then ((strings_Index p0 ([10]:List UInt8)).bind fun y2=>bif decide (0≤y2) then (some y2) else (some (qQ p0:Int))) else ((P1 p0 ([47,42]:List UInt8)).bind fun y3=>bif y3 then ((sub p0 2 (qQ p0:Int)).bind fun u1=>(strings_Index u1 ([42,47]:List UInt8)).bind fun y4=>bif decide (y4 < 0) then (some ((-1):Int)) else (some (qJ .i64 (y4+4)))) else ((Y3u p0).bind fun y5=>some y5))

def I8 (p0:B0) (p1:Int):Option (B0) :=
  (sub p0.s 0 p1).bind fun u1=>(O8 (qQ u1)).bind fun _=>(X5 (fun(x1,x2)=>(bif decide (x1 < (qQ (M5 u1):Int)) then (jn (fun kk1=>(idx (M5 u1) x1).bind fun u2=>bif u2 == 10 then (kk1 (⟨x2.s,(⟨qJ .i64 (x2.pos.Line+1),1⟩:Pos)⟩:B0)) else (kk1 (⟨x2.s,(⟨x2.pos.Line,qJ .i64 (x2.pos.Col+1)⟩:Pos)⟩:B0))) (fun(x3:B0)=>some (Lp.go (qJ .i64 (x1+1),x3)))) else (some (Lp.brk (x1,x2))):Option (Lp (Int×B0) (Unit)))) NN ((0:Int),p0)).bind fun o=>o.thn (fun(x1,x2)=>(sub x2.s p1 (qQ x2.s:Int)).bind fun u3=>some (⟨u3,x2.pos⟩:B0)) (fun _=>none)

def Z3v (p0:Int):Option (Bool) :=
  bif decide (97≤p0) then (bif decide (p0≤122) then (some true) else (bif decide (65≤p0) then (bif decide (p0≤90) then (some true) else (some (p0 == 95))) else (some (p0 == 95)))) else (bif decide (65≤p0) then (bif decide (p0≤90) then (some true) else (some (p0 == 95))) else (some (p0 == 95)))

def Z3w (p0:Int):Option (Bool) :=
  bif decide (48≤p0) then (some (decide (p0≤57))) else (some false)

def Y0y (p0:Int):Option (Bool) :=
  (Z3v p0).bind fun y1=>bif y1 then (some true) else ((Z3w p0).bind fun y2=>some y2)

def Z5m (p0:List UInt8):Option (Int) :=
  (X5 (fun(x1:Int)=>(bif decide (x1 < (qQ p0:Int)) then ((idx p0 x1).bind fun u1=>(Y0y (qA u1:Int)).bind fun y1=>bif y1 then (some (Lp.go (qJ .i64 (x1+1)))) else (some (Lp.brk x1))) else (some (Lp.brk x1)):Option (Lp (Int) (Unit)))) NN (0:Int)).bind fun o=>o.thn (fun(x1:Int)=>some x1) (fun _=>none)

def Y1b (p0:List UInt8):Option (Bool) :=
  jn (fun kk1=>bif decide (p0=([98,114,101,97,107]:List UInt8)) then (kk1 (decide (p0=([98,114,101,97,107]:List UInt8)))) else (bif decide (p0=([99,97,115,101]:List UInt8)) then (kk1 (decide (p0=([99,97,115,101]:List UInt8)))) else (bif decide (p0=([99,104,97,114]:List UInt8)) then (kk1 (decide (p0=([99,104,97,114]:List UInt8)))) else (bif decide (p0=([99,111,110,116,105,110,117,101]:List UInt8)) then (kk1 (decide (p0=([99,111,110,116,105,110,117,101]:List UInt8)))) else (bif decide (p0=([100,101,102,97,117,108,116]:List UInt8)) then (kk1 (decide (p0=([100,101,102,97,117,108,116]:List UInt8)))) else (bif decide (p0=([100,111]:List UInt8)) then (kk1 (decide (p0=([100,111]:List UInt8)))) else (bif decide (p0=([101,108,115,101]:List UInt8)) then (kk1 (decide (p0=([101,108,115,101]:List UInt8)))) else (bif decide (p0=([102,111,114]:List UInt8)) then (kk1 (decide (p0=([102,111,114]:List UInt8)))) else (bif decide (p0=([105,102]:List UInt8)) then (kk1 (decide (p0=([105,102]:List UInt8)))) else (bif decide (p0=([105,110]:List UInt8)) then (kk1 (decide (p0=([105,110]:List UInt8)))) else (bif decide (p0=([105,110,116]:List UInt8)) then (kk1 (decide (p0=([105,110,116]:List UInt8)))) else (bif decide (p0=([111,117,116]:List UInt8)) then (kk1 (decide (p0=([111,117,116]:List UInt8)))) else (bif decide (p0=([114,101,116,117,114,110]:List UInt8)) then (kk1 (decide (p0=([114,101,116,117,114,110]:List UInt8)))) else (bif decide (p0=([115,105,122,101,111,102]:List UInt8)) then (kk1 (decide (p0=([115,105,122,101,111,102]:List UInt8)))) else (bif decide (p0=([115,116,114,117,99,116]:List UInt8)) then (kk1 (decide (p0=([115,116,114,117,99,116]:List UInt8)))) else (bif decide (p0=([115,119,105,116,99,104]:List UInt8)) then (kk1 (decide (p0=([115,119,105,116,99,104]:List UInt8)))) else (bif decide (p0=([118,111,105,100]:List UInt8)) then (kk1 (decide (p0=([118,111,105,100]:List UInt8)))) else (kk1 (decide (p0=([119,104,105,108,101]:List UInt8))))))))))))))))))))) (fun(x1:Bool)=>bif x1 then (some true) else (some false))

def Q9o (p0:Int):Option (Int) :=
  (Z3w p0).bind fun y1=>bif y1 then (some (qJ .u64 (qJ .u8 (p0 - 48)))) else (bif decide (97≤p0) then (bif decide (p0≤102) then (some (qJ .u64 ((qJ .u64 (qJ .u8 (p0 - 97)))+10))) else (bif decide (65≤p0) then (bif decide (p0≤70) then (some (qJ .u64 ((qJ .u64 (qJ .u8 (p0 - 65)))+10))) else (some (4294967295:Int))) else (some (4294967295:Int)))) else (bif decide (65≤p0) then (bif decide (p0≤70) then (some (qJ .u64 ((qJ .u64 (qJ .u8 (p0 - 65)))+10))) else (some (4294967295:Int))) else (some (4294967295:Int))))

def Z8b (p0:List UInt8):Option (U1×Int) :=
  (Z5m p0).bind fun y1=>(sub p0 0 y1).bind fun u1=>jn (fun kk1=>(P1 u1 ([48,120]:List UInt8)).bind fun y2=>bif y2 then ((sub u1 2 (qQ u1:Int)).bind fun u3=>kk1 u3 (16:Int)) else ((P1 u1 ([48,88]:List UInt8)).bind fun y3=>bif y3 then ((sub u1 2 (qQ u1:Int)).bind fun u2=>kk1 u2 (16:Int)) else (kk1 u1 (10:Int)))) (fun(x1:List UInt8) (x2:Int)=>bif decide (x1=([]:List UInt8)) then (some ((⟨0,([]:List UInt8),0,(⟨0,0⟩:Pos)⟩:U1),(3:Int))) else ((O8 (qQ x1)).bind fun _=>(X5 (fun(x3,x4,x5)=>(bif decide (x5 < (qQ (M5 x1):Int)) then (jn (fun kk2=>(idx (M5 x1) x5).bind fun u4=>(Q9o u4).bind fun y4=>bif decide (x2≤y4) then (some (Lp.ret ((⟨0,([]:List UInt8),0,(⟨0,0⟩:Pos)⟩:U1),(3:Int)))) else ((Q9o u4).bind fun y5=>bif decide (4294967295 < (qJ .u64 ((qJ .u64 (x3 * x2))+y5))) then (kk2 (4294967295:Int) true) else (kk2 (qJ .u64 ((qJ .u64 (x3 * x2))+y5)) x4))) (fun(x6:Int) (x7:Bool)=>some (Lp.go (x6,x7,qJ .i64 (x5+1))))) else (some (Lp.brk (x3,x4,x5))):Option (Lp (Int×Bool×Int) (U1×Int)))) NN ((0:Int),false,(0:Int))).bind fun o=>o.thn (fun(x3,x4,x5)=>bif x4 then (some ((⟨0,([]:List UInt8),0,(⟨0,0⟩:Pos)⟩:U1),(7:Int))) else (some ((⟨3,u1,qJ .u32 x3,(⟨0,0⟩:Pos)⟩:U1),(0:Int)))) (fun r=>some r)))

def Z5o (p0:Int):Option (Int×Bool) :=
  bif p0 == 110 then (some ((10:Int),true)) else (bif p0 == 116 then (some ((9:Int),true)) else (bif p0 == 114 then (some ((13:Int),true)) else (bif p0 == 48 then (some ((0:Int),true)) else (jn (fun kk1=>bif p0 == 92 then (kk1 (p0 == 92)) else (kk1 (p0 == 39))) (fun(x1:Bool)=>bif x1 then (some (p0,true)) else (some ((0:Int),false)))))))

def Z7b (p0:List UInt8):Option (U1×Int) :=
  bif decide (4≤(qQ p0:Int)) then ((idx p0 1).bind fun u1=>bif (qA u1:Int) == 92 then ((idx p0 3).bind fun u2=>bif (qA u2:Int) == 39 then ((idx p0 2).bind fun u3=>(Z5o (qA u3:Int)).bind fun y1=>bif y1.2 then ((sub p0 0 4).bind fun u4=>some ((⟨3,u4,qJ .u32 y1.1,(⟨0,0⟩:Pos)⟩:U1),(0:Int))) else (some ((⟨0,([]:List UInt8),0,(⟨0,0⟩:Pos)⟩:U1),(3:Int)))) else (bif decide (3≤(qQ p0:Int)) then ((idx p0 2).bind fun u5=>bif (qA u5:Int) == 39 then ((idx p0 1).bind fun u6=>bif decide (32≤(qA u6:Int)) then ((idx p0 1).bind fun u7=>bif decide ((qA u7:Int)≤126) then ((idx p0 1).bind fun u8=>bif (qA u8:Int) != 39 then ((idx p0 1).bind fun u9=>bif (qA u9:Int) != 92 then ((sub p0 0 3).bind fun u10=>(idx p0 1).bind fun u11=>some ((⟨3,u10,qJ .u32 (qA u11:Int),(⟨0,0⟩:Pos)⟩:U1),(0:Int))) else (some ((⟨0,([]:List UInt8),0,(⟨0,0⟩:Pos)⟩:U1),(3:Int)))) else (some ((⟨0,([]:List UInt8),0,(⟨0,0⟩:Pos)⟩:U1),(3:Int)))) else (some ((⟨0,([]:List UInt8),0,(⟨0,0⟩:Pos)⟩:U1),(3:Int)))) else (some ((⟨0,([]:List UInt8),0,(⟨0,0⟩:Pos)⟩:U1),(3:Int)))) else (some ((⟨0,([]:List UInt8),0,(⟨0,0⟩:Pos)⟩:U1),(3:Int)))) else (some ((⟨0,([]:List UInt8),0,(⟨0,0⟩:Pos)⟩:U1),(3:Int))))) else (bif decide (3≤(qQ p0:Int)) then ((idx p0 2).bind fun u12=>bif (qA u12:Int) == 39 then ((idx p0 1).bind fun u13=>bif decide (32≤(qA u13:Int)) then ((idx p0 1).bind fun u14=>bif decide ((qA u14:Int)≤126) then ((idx p0 1).bind fun u15=>bif (qA u15:Int) != 39 then ((idx p0 1).bind fun u16=>bif (qA u16:Int) != 92 then ((sub p0 0 3).bind fun u17=>(idx p0 1).bind fun u18=>some ((⟨3,u17,qJ .u32 (qA u18:Int),(⟨0,0⟩:Pos)⟩:U1),(0:Int))) else (some ((⟨0,([]:List UInt8),0,(⟨0,0⟩:Pos)⟩:U1),(3:Int)))) else (some ((⟨0,([]:List UInt8),0,(⟨0,0⟩:Pos)⟩:U1),(3:Int)))) else (some ((⟨0,([]:List UInt8),0,(⟨0,0⟩:Pos)⟩:U1),(3:Int)))) else (some ((⟨0,([]:List UInt8),0,(⟨0,0⟩:Pos)⟩:U1),(3:Int)))) else (some ((⟨0,([]:List UInt8),0,(⟨0,0⟩:Pos)⟩:U1),(3:Int)))) else (some ((⟨0,([]:List UInt8),0,(⟨0,0⟩:Pos)⟩:U1),(3:Int))))) else (bif decide (3≤(qQ p0:Int)) then ((idx p0 2).bind fun u19=>bif (qA u19:Int) == 39 then ((idx p0 1).bind fun u20=>bif decide (32≤(qA u20:Int)) then ((idx p0 1).bind fun u21=>bif decide ((qA u21:Int)≤126) then ((idx p0 1).bind fun u22=>bif (qA u22:Int) != 39 then ((idx p0 1).bind fun u23=>bif (qA u23:Int) != 92 then ((sub p0 0 3).bind fun u24=>(idx p0 1).bind fun u25=>some ((⟨3,u24,qJ .u32 (qA u25:Int),(⟨0,0⟩:Pos)⟩:U1),(0:Int))) else (some ((⟨0,([]:List UInt8),0,(⟨0,0⟩:Pos)⟩:U1),(3:Int)))) else (some ((⟨0,([]:List UInt8),0,(⟨0,0⟩:Pos)⟩:U1),(3:Int)))) else (some ((⟨0,([]:List UInt8),0,(⟨0,0⟩:Pos)⟩:U1),(3:Int)))) else (some ((⟨0,([]:List UInt8),0,(⟨0,0⟩:Pos)⟩:U1),(3:Int)))) else (some ((⟨0,([]:List UInt8),0,(⟨0,0⟩:Pos)⟩:U1),(3:Int)))) else (some ((⟨0,([]:List UInt8),0,(⟨0,0⟩:Pos)⟩:U1),(3:Int))))

def Y0z (p0:List UInt8):Option ((List UInt8)) :=
  (X5 (fun(x1:Int)=>(bif decide (x1 < 45) then ((idx ([([60,60,61]:List UInt8),([62,62,61]:List UInt8),([45,62]:List UInt8),([43,43]:List UInt8),([45,45]:List UInt8),([60,60]:List UInt8),([62,62]:List UInt8),([60,61]:List UInt8),([62,61]:List UInt8),([61,61]:List UInt8),([33,61]:List UInt8),([38,38]:List UInt8),([124,124]:List UInt8),([43,61]:List UInt8),([45,61]:List UInt8),([42,61]:List UInt8),([47,61]:List UInt8),([37,61]:List UInt8),([38,61]:List UInt8),([124,61]:List UInt8),([94,61]:List UInt8),([43]:List UInt8),([45]:List UInt8),([42]:List UInt8),([47]:List UInt8),([37]:List UInt8),([38]:List UInt8),([124]:List UInt8),([94]:List UInt8),([126]:List UInt8),([33]:List UInt8),([60]:List UInt8),([62]:List UInt8),([61]:List UInt8),([63]:List UInt8),([58]:List UInt8),([59]:List UInt8),([44]:List UInt8),([46]:List UInt8),([40]:List UInt8),([41]:List UInt8),([91]:List UInt8),([93]:List UInt8),([123]:List UInt8),([125]:List UInt8)]:List (List UInt8)) x1).bind fun u1=>(P1 p0 u1).bind fun y1=>bif y1 then (some (Lp.ret u1)) else (some (Lp.go (qJ .i64 (x1+1))))) else (some (Lp.brk x1)):Option (Lp (Int) ((List UInt8))))) NN (0:Int)).bind fun o=>o.thn (fun(x1:Int)=>some ([]:List UInt8)) (fun r=>some r)

def Z5e (p0:List UInt8):Option (U1×Int) :=
  (idx p0 0).bind fun u1=>(Z3v (qA u1:Int)).bind fun y1=>bif y1 then ((Z5m p0).bind fun y2=>(sub p0 0 y2).bind fun u2=>bif decide (31 < y2) then (some ((⟨1,u2,0,(⟨0,0⟩:Pos)⟩:U1),(2:Int))) else (jn (fun kk1=>(Y1b u2).bind fun y3=>bif y3 then (kk1 (⟨2,u2,0,(⟨0,0⟩:Pos)⟩:U1)) else (kk1 (⟨1,u2,0,(⟨0,0⟩:Pos)⟩:U1))) (fun(x1:U1)=>some (x1,(0:Int))))) else ((idx p0 0).bind fun u3=>(Z3w (qA u3:Int)).bind fun y4=>bif y4 then ((Z8b p0).bind fun y5=>some (y5.1,y5.2)) else ((idx p0 0).bind fun u4=>bif (qA u4:Int) == 39 then ((Z7b p0).bind fun y6=>some (y6.1,y6.2)) else ((Y0z p0).bind fun y7=>bif decide (y7=([]:List UInt8)) then (some ((⟨0,([]:List UInt8),0,(⟨0,0⟩:Pos)⟩:U1),(3:Int))) else (some ((⟨4,y7,0,(⟨0,0⟩:Pos)⟩:U1),(0:Int))))))

def Y3z (p0:List UInt8):Option ((List U1)×Pos×Int) :=
  bif decide (65536 < (qQ p0:Int)) then (some ([],(⟨1,1⟩:Pos),(2:Int))) else ((X5 (fun(x1,x2)=>(bif !(decide (x2.s=([]:List UInt8))) then ((Z5f x2.s).bind fun y1=>bif decide (y1 < 0) then (some (Lp.ret ([],x2.pos,(3:Int)))) else (bif decide (0 < y1) then ((I8 x2 y1).bind fun y2=>some (Lp.go (x1,y2))) else ((Z5e x2.s).bind fun y3=>bif y3.2 != 0 then (some (Lp.ret ([],x2.pos,y3.2))) else ((O8 (qQ x1+qQ ([{y3.1 with Pos:=x2.pos}]:List U1))).bind fun _=>(I8 x2 (qQ y3.1.Text:Int)).bind fun y4=>some (Lp.go (x1++([{y3.1 with Pos:=x2.pos}]:List U1),y4)))))) else (some (Lp.brk (x1,x2))):Option (Lp ((List U1)×B0) ((List U1)×Pos×Int)))) NN ([],(⟨p0,(⟨1,1⟩:Pos)⟩:B0))).bind fun o=>o.thn (fun(x1,x2)=>some (x1,x2.pos,(0:Int))) (fun r=>some r))

def G9 (p0:Z0):Option (Pos) :=
  bif (qQ p0.l:Int) == 0 then (some p0.end_) else ((idx p0.l 0).bind fun u1=>some u1.Pos)

def A4 (p0:Z0) (p1:Int) (p2:List UInt8):Option (Bool) :=
  bif decide (p1 < (qQ p0.l:Int)) then ((idx p0.l p1).bind fun u1=>bif decide (u1.Text=p2) then ((idx p0.l p1).bind fun u2=>bif u2.Kind == 2 then (some true) else ((idx p0.l p1).bind fun u3=>some (u3.Kind == 4))) else (some false)) else (some false)

def U2 (p0:Z0) (p1:List UInt8):Option (Bool) :=
  (A4 p0 0 p1).bind fun y1=>some y1

def X4 (p0:Z0) (p1:List UInt8):Option (Bool×Z0) :=
  (U2 p0 p1).bind fun y1=>bif !y1 then (some (false,p0)) else ((sub p0.l 1 (qQ p0.l:Int)).bind fun u1=>some (true,{p0 with l:=u1}))

def R4 (p0:Z0) (p1:Int):Option (Except (Y2) (Unit)) :=
  (G9 p0).bind fun y1=>some (qK (⟨y1,p1⟩:Y2))

def X2 (p0:Z0) (p1:List UInt8):Option (Except (Y2×Z0) (Z0)) :=
  (X4 p0 p1).bind fun y1=>bif !y1.1 then ((R4 y1.2 3).bind fun y2=>exC y2 (fun y2=>some (qX y1.2)) (fun e1=>some (qK (e1,y1.2)))) else (some (qX y1.2))

def C1 (p0:Z0) (p1:Int):Option (Except (Y2×Z0) (U1×Z0)) :=
  jn (fun kk1=>bif (qQ p0.l:Int) == 0 then ((R4 p0 3).bind fun y2=>exC y2 (fun y2=>kk1 ()) (fun e2=>some (qK (e2,p0)))) else ((idx p0.l 0).bind fun u1=>bif u1.Kind != p1 then ((R4 p0 3).bind fun y1=>exC y1 (fun y1=>kk1 ()) (fun e1=>some (qK (e1,p0)))) else (kk1 ()))) (fun(_:Unit)=>(idx p0.l 0).bind fun u4=>(sub p0.l 1 (qQ p0.l:Int)).bind fun u5=>some (qX (u4,{p0 with l:=u5})))

def J9 (p0:Z0):Option (Except (Y2×Z0) ((List UInt8)×Z0)) :=
  (C1 p0 1).bind fun y1=>exE y1 (fun y1=>some (qX (y1.1.Text,y1.2)))

def Q2j (p0:Z0):Option (Bool) :=
  (U2 p0 ([105,110,116]:List UInt8)).bind fun y1=>bif y1 then (some true) else ((U2 p0 ([99,104,97,114]:List UInt8)).bind fun y2=>bif y2 then (some true) else ((U2 p0 ([118,111,105,100]:List UInt8)).bind fun y3=>bif y3 then (some true) else ((U2 p0 ([115,116,114,117,99,116]:List UInt8)).bind fun y4=>some y4)))

def G5 (p0:Z0):Option (Except (Y2×Z0) (P9×Z0)) :=
  jn (fun kk1=>(Q2j p0).bind fun y1=>bif !y1 then ((R4 p0 3).bind fun y2=>exC y2 (fun y2=>kk1 ()) (fun e1=>some (qK (e1,p0)))) else (kk1 ())) (fun(_:Unit)=>(idx p0.l 0).bind fun u2=>(sub p0.l 1 (qQ p0.l:Int)).bind fun u3=>jn (fun kk2=>bif decide (u2.Text=([115,116,114,117,99,116]:List UInt8)) then ((J9 ({p0 with l:=u3})).bind fun y3=>exE y3 (fun y3=>kk2 (⟨u2.Text,y3.1,0⟩:P9) y3.2)) else (kk2 (⟨u2.Text,([]:List UInt8),0⟩:P9) ({p0 with l:=u3}))) (fun(x1:P9) (x2:Z0)=>(X5 (fun(x3,x4)=>((X4 x4 ([42]:List UInt8)).bind fun y4=>bif y4.1 then (some (Lp.go ({x3 with Stars:=qJ .i64 (x3.Stars+1)},y4.2))) else (some (Lp.brk (x3,y4.2))):Option (Lp (P9×Z0) (Unit)))) NN (x1,x2)).bind fun o=>o.thn (fun(x3,x4)=>some (qX (x3,x4))) (fun _=>none)))

def Q4e (p0:Z0):Option (Except (Y2×Z0) ((List Int)×Z0)) :=
  (X5 (fun(x1,x2)=>((X4 x2 ([91]:List UInt8)).bind fun y1=>bif y1.1 then ((C1 y1.2 3).bind fun y2=>exL y2 (fun y2=>(O8 (qQ x1+qQ ([y2.1.Num]:List Int))).bind fun _=>(X2 y2.2 ([93]:List UInt8)).bind fun y3=>exL y3 (fun y3=>some (Lp.go (x1++([y2.1.Num]:List Int),y3))))) else (some (Lp.brk (x1,y1.2))):Option (Lp ((List Int)×Z0) (Except (Y2×Z0) ((List Int)×Z0))))) NN ([],p0)).bind fun o=>o.thn (fun(x1,x2)=>some (qX (x1,x2))) (fun r=>some r)

def Q4l (p0:Z0):Option (Except (Y2×Z0) ((List N0)×Z0)) :=
  (X2 p0 ([123]:List UInt8)).bind fun y1=>exE y1 (fun y1=>(X5 (fun(x1,x2)=>((X4 x2 ([125]:List UInt8)).bind fun y2=>bif !y2.1 then ((G9 y2.2).bind fun y3=>(G5 y2.2).bind fun y4=>exL y4 (fun y4=>(J9 y4.2).bind fun y5=>exL y5 (fun y5=>(Q4e y5.2).bind fun y6=>exL y6 (fun y6=>(X2 y6.2 ([59]:List UInt8)).bind fun y7=>exL y7 (fun y7=>(O8 (qQ x1+qQ ([(⟨y3,y4.1,y5.1,y6.1,[],false⟩:N0)]:List N0))).bind fun _=>some (Lp.go (x1++([(⟨y3,y4.1,y5.1,y6.1,[],false⟩:N0)]:List N0),y7))))))) else (some (Lp.brk (x1,y2.2))):Option (Lp ((List N0)×Z0) (Except (Y2×Z0) ((List N0)×Z0))))) NN ([],y1)).bind fun o=>o.thn (fun(x1,x2)=>(X2 x2 ([59]:List UInt8)).bind fun y8=>exE y8 (fun y8=>some (qX (x1,y8)))) (fun r=>some r))

def N9 (p0:Z0):Option (Except (Y2×Z0) (Z0)) :=
  jn (fun kk1=>bif p0.depth == 200 then ((R4 p0 2).bind fun y1=>exC y1 (fun y1=>kk1 ()) (fun e1=>some (qK (e1,p0)))) else (kk1 ())) (fun(_:Unit)=>some (qX ({p0 with depth:=qJ .i64 (p0.depth+1)})))

def D5 (p0:Z0):Option ((List UInt8)) :=
  bif (qQ p0.l:Int) == 0 then (some ([]:List UInt8)) else ((idx p0.l 0).bind fun u1=>bif u1.Kind != 4 then (some ([]:List UInt8)) else ((idx p0.l 0).bind fun u2=>some u2.Text))

def J4 (p0:Z0) (p1:Int):Option (Y7×Z0) :=
  (G9 p0).bind fun y1=>(D5 p0).bind fun y2=>(sub p0.l 1 (qQ p0.l:Int)).bind fun u1=>some ((⟨p1,y1,y2,([]:List UInt8),0,(⟨([]:List UInt8),([]:List UInt8),0⟩:P9),[]⟩:Y7),{p0 with l:=u1})

def Z5b (p0:List UInt8):Option (Int) :=
  bif decide (p0=([124,124]:List UInt8)) then (some (1:Int)) else (bif decide (p0=([38,38]:List UInt8)) then (some (2:Int)) else (bif decide (p0=([124]:List UInt8)) then (some (3:Int)) else (bif decide (p0=([94]:List UInt8)) then (some (4:Int)) else (bif decide (p0=([38]:List UInt8)) then (some (5:Int)) else (jn (fun kk1=>bif decide (p0=([61,61]:List UInt8)) then (kk1 (decide (p0=([61,61]:List UInt8)))) else (kk1 (decide (p0=([33,61]:List UInt8))))) (fun(x1:Bool)=>bif x1 then (some (6:Int)) else (jn (fun kk2=>bif decide (p0=([60]:List UInt8)) then (kk2 (decide (p0=([60]:List UInt8)))) else (bif decide (p0=([62]:List UInt8)) then (kk2 (decide (p0=([62]:List UInt8)))) else (bif decide (p0=([60,61]:List UInt8)) then (kk2 (decide (p0=([60,61]:List UInt8)))) else (kk2 (decide (p0=([62,61]:List UInt8))))))) (fun(x2:Bool)=>bif x2 then (some (7:Int)) else (jn (fun kk3=>bif decide (p0=([60,60]:List UInt8)) then (kk3 (decide (p0=([60,60]:List UInt8)))) else (kk3 (decide (p0=([62,62]:List UInt8))))) (fun(x3:Bool)=>bif x3 then (some (8:Int)) else (jn (fun kk4=>bif decide (p0=([43]:List UInt8)) then (kk4 (decide (p0=([43]:List UInt8)))) else (kk4 (decide (p0=([45]:List UInt8))))) (fun(x4:Bool)=>bif x4 then (some (9:Int)) else (jn (fun kk5=>bif decide (p0=([42]:List UInt8)) then (kk5 (decide (p0=([42]:List UInt8)))) else (bif decide (p0=([47]:List UInt8)) then (kk5 (decide (p0=([47]:List UInt8)))) else (kk5 (decide (p0=([37]:List UInt8)))))) (fun(x5:Bool)=>bif x5 then (some (10:Int)) else (some (0:Int))))))))))))))))

def Z0b (p0:Z0):Option (Z0) :=
  some ({p0 with depth:=qJ .i64 (p0.depth - 1)})

def Z0v (p0:List UInt8):Option (Bool) :=
  jn (fun kk1=>bif decide (p0=([61]:List UInt8)) then (kk1 (decide (p0=([61]:List UInt8)))) else (bif decide (p0=([43,61]:List UInt8)) then (kk1 (decide (p0=([43,61]:List UInt8)))) else (bif decide (p0=([45,61]:List UInt8)) then (kk1 (decide (p0=([45,61]:List UInt8)))) else (bif decide (p0=([42,61]:List UInt8)) then (kk1 (decide (p0=([42,61]:List UInt8)))) else (bif decide (p0=([47,61]:List UInt8)) then (kk1 (decide (p0=([47,61]:List UInt8)))) else (bif decide (p0=([37,61]:List UInt8)) then (kk1 (decide (p0=([37,61]:List UInt8)))) else (bif decide (p0=([38,61]:List UInt8)) then (kk1 (decide (p0=([38,61]:List UInt8)))) else (bif decide (p0=([124,61]:List UInt8)) then (kk1 (decide (p0=([124,61]:List UInt8)))) else (bif decide (p0=([94,61]:List UInt8)) then (kk1 (decide (p0=([94,61]:List UInt8)))) else (bif decide (p0=([60,60,61]:List UInt8)) then (kk1 (decide (p0=([60,60,61]:List UInt8)))) else (kk1 (decide (p0=([62,62,61]:List UInt8)))))))))))))) (fun(x1:Bool)=>bif x1 then (some true) else (some false))

structure Z9x where
  K6:Z0→Option (Except (Y2×Z0) ((List Y7)×Z0))
  F8:Z0→Option (Except (Y2×Z0) ((List Y7)×Z0))
  C4:Z0→Option (Except (Y2×Z0) (Y7×Z0))
  C0:Z0→Option (Except (Y2×Z0) (Y7×Z0))
  F2:Z0→Option (Except (Y2×Z0) (Y7×Z0))
  F9:Z0→Int→Option (Except (Y2×Z0) (Y7×Z0))
  P0:Z0→Option (Except (Y2×Z0) (Y7×Z0))
  X8:Z0→Option (Except (Y2×Z0) (Y7×Z0))

def R5 (G:Z9x) (p0:Z0):Option (Except (Y2×Z0) ((List Y7)×Z0)) :=
  (X2 p0 ([40]:List UInt8)).bind fun y1=>exE y1 (fun y1=>(G.X8 y1).bind fun y2=>exE y2 (fun y2=>(X2 y2.2 ([41]:List UInt8)).bind fun y3=>exE y3 (fun y3=>some (qX (([y2.1]:List Y7),y3)))))
def Q1o (G:Z9x) (p0:Z0):Option (Except (Y2×Z0) ((List Y7)×Z0)) :=
  (X2 p0 ([40]:List UInt8)).bind fun y1=>exE y1 (fun y1=>(X4 y1 ([41]:List UInt8)).bind fun y2=>bif y2.1 then (some (qX ([],y2.2))) else ((G.X8 y2.2).bind fun y3=>exE y3 (fun y3=>(X5 (fun(x1,x2)=>((X4 x2 ([44]:List UInt8)).bind fun y4=>bif y4.1 then ((G.X8 y4.2).bind fun y5=>exL y5 (fun y5=>(O8 (qQ x1+qQ ([y5.1]:List Y7))).bind fun _=>some (Lp.go (x1++([y5.1]:List Y7),y5.2)))) else (some (Lp.brk (x1,y4.2))):Option (Lp ((List Y7)×Z0) (Except (Y2×Z0) ((List Y7)×Z0))))) NN (([y3.1]:List Y7),y3.2)).bind fun o=>o.thn (fun(x1,x2)=>(X2 x2 ([41]:List UInt8)).bind fun y6=>exE y6 (fun y6=>some (qX (x1,y6)))) (fun r=>some r))))
def Q3g (G:Z9x) (p0:Z0):Option (Except (Y2×Z0) (Y7×Z0)) :=
  (G9 p0).bind fun y1=>jn (fun kk1=>(X4 p0 ([40]:List UInt8)).bind fun y2=>bif y2.1 then ((G.X8 y2.2).bind fun y3=>exE y3 (fun y3=>(X2 y3.2 ([41]:List UInt8)).bind fun y4=>exE y4 (fun y4=>kk1 y3.1 y4))) else ((X4 y2.2 ([105,110]:List UInt8)).bind fun y5=>bif y5.1 then ((X2 y5.2 ([40]:List UInt8)).bind fun y6=>exE y6 (fun y6=>(X2 y6 ([41]:List UInt8)).bind fun y7=>exE y7 (fun y7=>kk1 (⟨7,y1,([]:List UInt8),([105,110]:List UInt8),0,(⟨([]:List UInt8),([]:List UInt8),0⟩:P9),[]⟩:Y7) y7))) else ((X4 y5.2 ([111,117,116]:List UInt8)).bind fun y8=>bif y8.1 then ((G.K6 y8.2).bind fun y9=>exE y9 (fun y9=>kk1 (⟨7,y1,([]:List UInt8),([111,117,116]:List UInt8),0,(⟨([]:List UInt8),([]:List UInt8),0⟩:P9),y9.1⟩:Y7) y9.2)) else (bif decide (0 < (qQ y8.2.l:Int)) then ((idx y8.2.l 0).bind fun u6=>bif u6.Kind == 3 then ((C1 y8.2 3).bind fun y10=>exE y10 (fun y10=>kk1 (⟨1,y1,([]:List UInt8),([]:List UInt8),y10.1.Num,(⟨([]:List UInt8),([]:List UInt8),0⟩:P9),[]⟩:Y7) y10.2)) else ((J9 y8.2).bind fun y11=>exE y11 (fun y11=>(U2 y11.2 ([40]:List UInt8)).bind fun y12=>bif y12 then ((G.F8 y11.2).bind fun y13=>exE y13 (fun y13=>kk1 (⟨7,y1,([]:List UInt8),y11.1,0,(⟨([]:List UInt8),([]:List UInt8),0⟩:P9),y13.1⟩:Y7) y13.2)) else (kk1 (⟨2,y1,([]:List UInt8),y11.1,0,(⟨([]:List UInt8),([]:List UInt8),0⟩:P9),[]⟩:Y7) y11.2)))) else ((J9 y8.2).bind fun y14=>exE y14 (fun y14=>(U2 y14.2 ([40]:List UInt8)).bind fun y15=>bif y15 then ((G.F8 y14.2).bind fun y16=>exE y16 (fun y16=>kk1 (⟨7,y1,([]:List UInt8),y14.1,0,(⟨([]:List UInt8),([]:List UInt8),0⟩:P9),y16.1⟩:Y7) y16.2)) else (kk1 (⟨2,y1,([]:List UInt8),y14.1,0,(⟨([]:List UInt8),([]:List UInt8),0⟩:P9),[]⟩:Y7) y14.2))))))) (fun(x1:Y7) (x2:Z0)=>some (qX (x1,x2)))
def Q4k (G:Z9x) (p0:Z0):Option (Except (Y2×Z0) (Y7×Z0)) :=
  (G.C4 p0).bind fun y1=>exE y1 (fun y1=>(X5 (fun(x1,x2)=>(jn (fun kk1=>(D5 x2).bind fun y2=>bif decide (y2=([91]:List UInt8)) then ((J4 x2 8).bind fun y3=>(G.X8 y3.2).bind fun y4=>exL y4 (fun y4=>(X2 y4.2 ([93]:List UInt8)).bind fun y5=>exL y5 (fun y5=>kk1 ({y3.1 with Op:=([]:List UInt8),Kids:=([x1,y4.1]:List Y7)}) y5))) else (jn (fun kk2=>bif decide (y2=([46]:List UInt8)) then (kk2 (decide (y2=([46]:List UInt8)))) else (kk2 (decide (y2=([45,62]:List UInt8))))) (fun(x6:Bool)=>bif x6 then ((J4 x2 9).bind fun y6=>(J9 y6.2).bind fun y7=>exL y7 (fun y7=>kk1 ({y6.1 with Name:=y7.1,Kids:=([x1]:List Y7)}) y7.2)) else (jn (fun kk3=>bif decide (y2=([43,43]:List UInt8)) then (kk3 (decide (y2=([43,43]:List UInt8)))) else (kk3 (decide (y2=([45,45]:List UInt8))))) (fun(x7:Bool)=>bif x7 then ((J4 x2 11).bind fun y8=>kk1 ({y8.1 with Kids:=([x1]:List Y7)}) y8.2) else (some (Lp.ret (qX (x1,x2))))))))) (fun(x4:Y7) (x5:Z0)=>some (Lp.go (x4,x5))):Option (Lp (Y7×Z0) (Except (Y2×Z0) (Y7×Z0))))) NN (y1.1,y1.2)).bind fun o=>o.thn (fun(x1,x2)=>none) (fun r=>some r))
def Q3f (G:Z9x) (p0:Z0):Option (Except (Y2×Z0) (Y7×Z0)) :=
  (N9 p0).bind fun y1=>exE y1 (fun y1=>(D5 y1).bind fun y2=>jn (fun kk1=>bif decide (y2=([45]:List UInt8)) then (kk1 (decide (y2=([45]:List UInt8)))) else (bif decide (y2=([126]:List UInt8)) then (kk1 (decide (y2=([126]:List UInt8)))) else (bif decide (y2=([33]:List UInt8)) then (kk1 (decide (y2=([33]:List UInt8)))) else (bif decide (y2=([42]:List UInt8)) then (kk1 (decide (y2=([42]:List UInt8)))) else (kk1 (decide (y2=([38]:List UInt8)))))))) (fun(x1:Bool)=>bif x1 then ((J4 y1 3).bind fun y3=>(G.F2 y3.2).bind fun y4=>exC y4 (fun y4=>some (qX ({y3.1 with Kids:=([y4.1]:List Y7)},{y4.2 with depth:=qJ .i64 (y4.2.depth - 1)}))) (fun e1=>some (qK (e1.1,{e1.2 with depth:=qJ .i64 (e1.2.depth - 1)})))) else (jn (fun kk2=>bif decide (y2=([43,43]:List UInt8)) then (kk2 (decide (y2=([43,43]:List UInt8)))) else (kk2 (decide (y2=([45,45]:List UInt8))))) (fun(x2:Bool)=>bif x2 then ((J4 y1 10).bind fun y5=>(G.F2 y5.2).bind fun y6=>exC y6 (fun y6=>some (qX ({y5.1 with Kids:=([y6.1]:List Y7)},{y6.2 with depth:=qJ .i64 (y6.2.depth - 1)}))) (fun e2=>some (qK (e2.1,{e2.2 with depth:=qJ .i64 (e2.2.depth - 1)})))) else ((G9 y1).bind fun y7=>(X4 y1 ([115,105,122,101,111,102]:List UInt8)).bind fun y8=>bif y8.1 then ((X2 y8.2 ([40]:List UInt8)).bind fun y9=>exC y9 (fun y9=>(G5 y9).bind fun y10=>exC y10 (fun y10=>(X2 y10.2 ([41]:List UInt8)).bind fun y11=>exC y11 (fun y11=>some (qX ((⟨12,y7,([]:List UInt8),([]:List UInt8),0,y10.1,[]⟩:Y7),{y11 with depth:=qJ .i64 (y11.depth - 1)}))) (fun e4=>some (qK (e4.1,{e4.2 with depth:=qJ .i64 (e4.2.depth - 1)})))) (fun e3=>some (qK (e3.1,{e3.2 with depth:=qJ .i64 (e3.2.depth - 1)})))) (fun e5=>some (qK (e5.1,{e5.2 with depth:=qJ .i64 (e5.2.depth - 1)})))) else ((G.C0 y8.2).bind fun y12=>exC y12 (fun y12=>some (qX (y12.1,{y12.2 with depth:=qJ .i64 (y12.2.depth - 1)}))) (fun e6=>some (qK (e6.1,{e6.2 with depth:=qJ .i64 (e6.2.depth - 1)})))))))))
def Q1p (G:Z9x) (p0:Z0) (p1:Int):Option (Except (Y2×Z0) (Y7×Z0)) :=
  (G.F2 p0).bind fun y1=>exE y1 (fun y1=>(X5 (fun(x1,x2)=>((D5 x2).bind fun y2=>(Z5b y2).bind fun y3=>bif decide (y3 < p1) then (some (Lp.ret (qX (x1,x2)))) else (bif y3 == 0 then (some (Lp.ret (qX (x1,x2)))) else ((J4 x2 4).bind fun y4=>(G.F9 y4.2 (qJ .i64 (y3+1))).bind fun y5=>exL y5 (fun y5=>some (Lp.go ({y4.1 with Kids:=([x1,y5.1]:List Y7)},y5.2))))):Option (Lp (Y7×Z0) (Except (Y2×Z0) (Y7×Z0))))) NN (y1.1,y1.2)).bind fun o=>o.thn (fun(x1,x2)=>none) (fun r=>some r))
def Q4m (G:Z9x) (p0:Z0):Option (Except (Y2×Z0) (Y7×Z0)) :=
  (G.F9 p0 1).bind fun y1=>exE y1 (fun y1=>(D5 y1.2).bind fun y2=>bif !(decide (y2=([63]:List UInt8))) then (some (qX (y1.1,y1.2))) else ((J4 y1.2 6).bind fun y3=>(G.X8 y3.2).bind fun y4=>exE y4 (fun y4=>(X2 y4.2 ([58]:List UInt8)).bind fun y5=>exE y5 (fun y5=>(N9 y5).bind fun y6=>exE y6 (fun y6=>(G.P0 y6).bind fun y7=>exE y7 (fun y7=>(Z0b y7.2).bind fun y8=>some (qX ({y3.1 with Op:=([]:List UInt8),Kids:=([y1.1,y4.1,y7.1]:List Y7)},y8))))))))
def Q1q (G:Z9x) (p0:Z0):Option (Except (Y2×Z0) (Y7×Z0)) :=
  (N9 p0).bind fun y1=>exE y1 (fun y1=>(G.P0 y1).bind fun y2=>exC y2 (fun y2=>(D5 y2.2).bind fun y3=>(Z0v y3).bind fun y4=>bif !y4 then (some (qX (y2.1,{y2.2 with depth:=qJ .i64 (y2.2.depth - 1)}))) else ((J4 y2.2 5).bind fun y5=>(G.X8 y5.2).bind fun y6=>exC y6 (fun y6=>some (qX ({y5.1 with Kids:=([y2.1,y6.1]:List Y7)},{y6.2 with depth:=qJ .i64 (y6.2.depth - 1)}))) (fun e1=>some (qK (e1.1,{e1.2 with depth:=qJ .i64 (e1.2.depth - 1)}))))) (fun e2=>some (qK (e2.1,{e2.2 with depth:=qJ .i64 (e2.2.depth - 1)}))))
def Q6k:Nat→Z9x
  | 0=>⟨fun _=>none,fun _=>none,fun _=>none,fun _=>none,fun _=>none,fun _ _=>none,fun _=>none,fun _=>none⟩
  | n+1=>⟨R5 (Q6k n),Q1o (Q6k n),Q3g (Q6k n),Q4k (Q6k n),Q3f (Q6k n),Q1p (Q6k n),Q4m (Q6k n),Q1q (Q6k n)⟩
def K6 (p0:Z0):Option (Except (Y2×Z0) ((List Y7)×Z0)):=(Q6k NN).K6 p0
def F8 (p0:Z0):Option (Except (Y2×Z0) ((List Y7)×Z0)):=(Q6k NN).F8 p0
def C4 (p0:Z0):Option (Except (Y2×Z0) (Y7×Z0)):=(Q6k NN).C4 p0
def C0 (p0:Z0):Option (Except (Y2×Z0) (Y7×Z0)):=(Q6k NN).C0 p0
def F2 (p0:Z0):Option (Except (Y2×Z0) (Y7×Z0)):=(Q6k NN).F2 p0
def F9 (p0:Z0) (p1:Int):Option (Except (Y2×Z0) (Y7×Z0)):=(Q6k NN).F9 p0 p1
def P0 (p0:Z0):Option (Except (Y2×Z0) (Y7×Z0)):=(Q6k NN).P0 p0
def X8 (p0:Z0):Option (Except (Y2×Z0) (Y7×Z0)):=(Q6k NN).X8 p0

def H8 (p0:Z0) (p1:N0):Option (Except (Y2×Z0) (N0×Z0)) :=
  (Q4e p0).bind fun y1=>exE y1 (fun y1=>jn (fun kk1=>(X4 y1.2 ([61]:List UInt8)).bind fun y2=>bif y2.1 then ((X4 y2.2 ([123]:List UInt8)).bind fun y3=>(X8 y3.2).bind fun y4=>exE y4 (fun y4=>(O8 (qQ ([]:List Y7)+qQ ([y4.1]:List Y7))).bind fun _=>(X5 (fun(x7,x8)=>(bif x7.Brace then ((X4 x8 ([44]:List UInt8)).bind fun y5=>bif y5.1 then ((X8 y5.2).bind fun y6=>exL y6 (fun y6=>(O8 (qQ x7.Init+qQ ([y6.1]:List Y7))).bind fun _=>some (Lp.go ({x7 with Init:=x7.Init++([y6.1]:List Y7)},y6.2)))) else (some (Lp.brk (x7,y5.2)))) else (some (Lp.brk (x7,x8))):Option (Lp (N0×Z0) (Except (Y2×Z0) (N0×Z0))))) NN ({p1 with Dims:=y1.1,Init:=([]:List Y7)++([y4.1]:List Y7),Brace:=y3.1},y4.2)).bind fun o=>o.thn (fun(x7,x8)=>bif x7.Brace then ((X2 x8 ([125]:List UInt8)).bind fun y7=>exE y7 (fun y7=>kk1 x7 y7)) else (kk1 x7 x8)) (fun r=>some r))) else (kk1 ({p1 with Dims:=y1.1,Init := []}) y2.2)) (fun(x3:N0) (x4:Z0)=>(X2 x4 ([59]:List UInt8)).bind fun y10=>exE y10 (fun y10=>some (qX (x3,y10)))))

def O6 (p0:Z0):Option (Except (Y2×Z0) ((List N0)×Z0)) :=
  (X2 p0 ([40]:List UInt8)).bind fun y1=>exE y1 (fun y1=>jn (fun kk1=>(U2 y1 ([118,111,105,100]:List UInt8)).bind fun y2=>bif y2 then ((A4 y1 1 ([41]:List UInt8)).bind fun y3=>bif y3 then ((X2 y1 ([118,111,105,100]:List UInt8)).bind fun y4=>exE y4 (fun y4=>kk1 y4)) else (kk1 y1)) else (kk1 y1)) (fun(x1:Z0)=>(X4 x1 ([41]:List UInt8)).bind fun y5=>bif y5.1 then (some (qX ([],y5.2))) else ((X5 (fun(x2,x3)=>((G9 x3).bind fun y6=>(G5 x3).bind fun y7=>exL y7 (fun y7=>(J9 y7.2).bind fun y8=>exL y8 (fun y8=>(O8 (qQ x2+qQ ([(⟨y6,y7.1,y8.1,[],[],false⟩:N0)]:List N0))).bind fun _=>(X4 y8.2 ([44]:List UInt8)).bind fun y9=>bif !y9.1 then ((X2 y9.2 ([41]:List UInt8)).bind fun y10=>exL y10 (fun y10=>some (Lp.ret (qX (x2++([(⟨y6,y7.1,y8.1,[],[],false⟩:N0)]:List N0),y10))))) else (some (Lp.go (x2++([(⟨y6,y7.1,y8.1,[],[],false⟩:N0)]:List N0),y9.2))))):Option (Lp ((List N0)×Z0) (Except (Y2×Z0) ((List N0)×Z0))))) NN ([],y5.2)).bind fun o=>o.thn (fun(x2,x3)=>none) (fun r=>some r))))

def Q1n (p0:Z0):Option (Except (Y2×Z0) (N0×Z0)) :=
  (G9 p0).bind fun y1=>(G5 p0).bind fun y2=>exE y2 (fun y2=>(J9 y2.2).bind fun y3=>exE y3 (fun y3=>(H8 y3.2 (⟨y1,y2.1,y3.1,[],[],false⟩:N0)).bind fun y4=>exE y4 (fun y4=>some (qX (y4.1,y4.2)))))

def A8 (p0:Z0) (p1:List UInt8):Option (Except (Y2×Z0) ((List Y7)×Z0)) :=
  (X4 p0 p1).bind fun y1=>bif y1.1 then (some (qX ([],y1.2))) else ((X8 y1.2).bind fun y2=>exE y2 (fun y2=>(X2 y2.2 p1).bind fun y3=>exE y3 (fun y3=>some (qX (([y2.1]:List Y7),y3)))))

def Q6a (p0:Z0) (p1:F6):Option (Except (Y2×Z0×F6) (Z0×F6)) :=
  (X4 p0 ([114,101,116,117,114,110]:List UInt8)).bind fun y1=>bif y1.1 then ((A8 y1.2 ([59]:List UInt8)).bind fun y2=>exC y2 (fun y2=>some (qX (y2.2,{p1 with Kind:=8,A:=y2.1}))) (fun e1=>some (qK (e1.1,e1.2,p1)))) else ((X4 y1.2 ([98,114,101,97,107]:List UInt8)).bind fun y3=>bif y3.1 then ((X2 y3.2 ([59]:List UInt8)).bind fun y4=>exC y4 (fun y4=>some (qX (y4,{p1 with Kind:=9}))) (fun e2=>some (qK (e2.1,e2.2,{p1 with Kind:=9})))) else ((X4 y3.2 ([99,111,110,116,105,110,117,101]:List UInt8)).bind fun y5=>bif y5.1 then ((X2 y5.2 ([59]:List UInt8)).bind fun y6=>exC y6 (fun y6=>some (qX (y6,{p1 with Kind:=10}))) (fun e3=>some (qK (e3.1,e3.2,{p1 with Kind:=10})))) else ((X8 y5.2).bind fun y7=>exC y7 (fun y7=>(X2 y7.2 ([59]:List UInt8)).bind fun y8=>exC y8 (fun y8=>some (qX (y8,{p1 with Kind:=1,A:=([y7.1]:List Y7)}))) (fun e4=>some (qK (e4.1,e4.2,{p1 with Kind:=1,A:=([y7.1]:List Y7)})))) (fun e5=>some (qK (e5.1,e5.2,p1))))))

structure Rec2 where
  G0:Z0→Option (Except (Y2×Z0) ((List F6)×Z0))
  C5:Z0→Option (Except (Y2×Z0) ((List Q0o)×Z0))
  G6:Z0→Option (Except (Y2×Z0) (F6×Z0))
  F7:Z0→Option (Except (Y2×Z0) ((List F6)×Z0))

def Q4n (G:Rec2) (p0:Z0):Option (Except (Y2×Z0) ((List F6)×Z0)) :=
  (G.G6 p0).bind fun y1=>exE y1 (fun y1=>bif y1.1.Kind == 11 then (some (qX (y1.1.Body,y1.2))) else (some (qX (([y1.1]:List F6),y1.2))))
def Q3h (G:Rec2) (p0:Z0):Option (Except (Y2×Z0) ((List Q0o)×Z0)) :=
  (X2 p0 ([123]:List UInt8)).bind fun y1=>exE y1 (fun y1=>(X5 (fun(x1,x2)=>((X4 x2 ([125]:List UInt8)).bind fun y2=>bif !y2.1 then ((G9 y2.2).bind fun y3=>jn (fun kk1=>(X4 y2.2 ([100,101,102,97,117,108,116]:List UInt8)).bind fun y4=>bif y4.1 then (kk1 (⟨y3,true,0,[]⟩:Q0o) y4.2) else ((X2 y4.2 ([99,97,115,101]:List UInt8)).bind fun y5=>exL y5 (fun y5=>(X4 y5 ([45]:List UInt8)).bind fun y6=>(C1 y6.2 3).bind fun y7=>exL y7 (fun y7=>bif y6.1 then (kk1 (⟨y3,false,qJ .u32 (0 - y7.1.Num),[]⟩:Q0o) y7.2) else (kk1 (⟨y3,false,y7.1.Num,[]⟩:Q0o) y7.2))))) (fun(x4:Q0o) (x5:Z0)=>(X2 x5 ([58]:List UInt8)).bind fun y8=>exL y8 (fun y8=>(X5 (fun(x7,x8)=>((U2 x8 ([99,97,115,101]:List UInt8)).bind fun y9=>bif !y9 then ((U2 x8 ([100,101,102,97,117,108,116]:List UInt8)).bind fun y10=>bif !y10 then ((U2 x8 ([125]:List UInt8)).bind fun y11=>bif !y11 then ((G.G6 x8).bind fun y12=>exL y12 (fun y12=>(O8 (qQ x7.Body+qQ ([y12.1]:List F6))).bind fun _=>some (Lp.go ({x7 with Body:=x7.Body++([y12.1]:List F6)},y12.2)))) else (some (Lp.brk (x7,x8)))) else (some (Lp.brk (x7,x8)))) else (some (Lp.brk (x7,x8))):Option (Lp (Q0o×Z0) (Except (Y2×Z0) ((List Q0o)×Z0))))) NN (x4,y8)).bind fun o=>o.thn (fun(x7,x8)=>(O8 (qQ x1+qQ ([x7]:List Q0o))).bind fun _=>some (Lp.go (x1++([x7]:List Q0o),x8))) (fun r=>some (Lp.ret r))))) else (some (Lp.brk (x1,y2.2))):Option (Lp ((List Q0o)×Z0) (Except (Y2×Z0) ((List Q0o)×Z0))))) NN ([],y1)).bind fun o=>o.thn (fun(x1,x2)=>some (qX (x1,x2))) (fun r=>some r))
def Q4j (G:Rec2) (p0:Z0):Option (Except (Y2×Z0) (F6×Z0)) :=
  (N9 p0).bind fun y1=>exE y1 (fun y1=>(G9 y1).bind fun y2=>jn (fun kk1=>(Q2j y1).bind fun y3=>bif y3 then ((Q1n y1).bind fun y4=>exC y4 (fun y4=>kk1 (⟨2,y2,[],[],[],([y4.1]:List N0),[],[],[]⟩:F6) y4.2) (fun e1=>some (qK (e1.1,{e1.2 with depth:=qJ .i64 (e1.2.depth - 1)})))) else ((U2 y1 ([123]:List UInt8)).bind fun y5=>bif y5 then ((G.F7 y1).bind fun y6=>exC y6 (fun y6=>kk1 (⟨11,y2,[],[],[],[],y6.1,[],[]⟩:F6) y6.2) (fun e2=>some (qK (e2.1,{e2.2 with depth:=qJ .i64 (e2.2.depth - 1)})))) else ((X4 y1 ([59]:List UInt8)).bind fun y7=>bif y7.1 then (kk1 (⟨12,y2,[],[],[],[],[],[],[]⟩:F6) y7.2) else ((X4 y7.2 ([105,102]:List UInt8)).bind fun y8=>bif y8.1 then ((K6 y8.2).bind fun y9=>exC y9 (fun y9=>(G.G0 y9.2).bind fun y10=>exC y10 (fun y10=>(X4 y10.2 ([101,108,115,101]:List UInt8)).bind fun y11=>bif y11.1 then ((G.G0 y11.2).bind fun y12=>exC y12 (fun y12=>kk1 (⟨3,y2,y9.1,[],[],[],y10.1,y12.1,[]⟩:F6) y12.2) (fun e3=>some (qK (e3.1,{e3.2 with depth:=qJ .i64 (e3.2.depth - 1)})))) else (kk1 (⟨3,y2,y9.1,[],[],[],y10.1,[],[]⟩:F6) y11.2)) (fun e4=>some (qK (e4.1,{e4.2 with depth:=qJ .i64 (e4.2.depth - 1)})))) (fun e5=>some (qK (e5.1,{e5.2 with depth:=qJ .i64 (e5.2.depth - 1)})))) else ((X4 y8.2 ([119,104,105,108,101]:List UInt8)).bind fun y13=>bif y13.1 then ((K6 y13.2).bind fun y14=>exC y14 (fun y14=>(G.G0 y14.2).bind fun y15=>exC y15 (fun y15=>kk1 (⟨4,y2,y14.1,[],[],[],y15.1,[],[]⟩:F6) y15.2) (fun e6=>some (qK (e6.1,{e6.2 with depth:=qJ .i64 (e6.2.depth - 1)})))) (fun e7=>some (qK (e7.1,{e7.2 with depth:=qJ .i64 (e7.2.depth - 1)})))) else ((X4 y13.2 ([100,111]:List UInt8)).bind fun y16=>bif y16.1 then ((G.G0 y16.2).bind fun y17=>exC y17 (fun y17=>(X2 y17.2 ([119,104,105,108,101]:List UInt8)).bind fun y18=>exC y18 (fun y18=>(K6 y18).bind fun y19=>exC y19 (fun y19=>(X2 y19.2 ([59]:List UInt8)).bind fun y20=>exC y20 (fun y20=>kk1 (⟨5,y2,y19.1,[],[],[],y17.1,[],[]⟩:F6) y20) (fun e8=>some (qK (e8.1,{e8.2 with depth:=qJ .i64 (e8.2.depth - 1)})))) (fun e9=>some (qK (e9.1,{e9.2 with depth:=qJ .i64 (e9.2.depth - 1)})))) (fun e10=>some (qK (e10.1,{e10.2 with depth:=qJ .i64 (e10.2.depth - 1)})))) (fun e11=>some (qK (e11.1,{e11.2 with depth:=qJ .i64 (e11.2.depth - 1)})))) else ((X4 y16.2 ([102,111,114]:List UInt8)).bind fun y21=>bif y21.1 then ((X2 y21.2 ([40]:List UInt8)).bind fun y22=>exC y22 (fun y22=>(A8 y22 ([59]:List UInt8)).bind fun y23=>exC y23 (fun y23=>(A8 y23.2 ([59]:List UInt8)).bind fun y24=>exC y24 (fun y24=>(A8 y24.2 ([41]:List UInt8)).bind fun y25=>exC y25 (fun y25=>(G.G0 y25.2).bind fun y26=>exC y26 (fun y26=>kk1 (⟨6,y2,y23.1,y24.1,y25.1,[],y26.1,[],[]⟩:F6) y26.2) (fun e12=>some (qK (e12.1,{e12.2 with depth:=qJ .i64 (e12.2.depth - 1)})))) (fun e13=>some (qK (e13.1,{e13.2 with depth:=qJ .i64 (e13.2.depth - 1)})))) (fun e14=>some (qK (e14.1,{e14.2 with depth:=qJ .i64 (e14.2.depth - 1)})))) (fun e15=>some (qK (e15.1,{e15.2 with depth:=qJ .i64 (e15.2.depth - 1)})))) (fun e16=>some (qK (e16.1,{e16.2 with depth:=qJ .i64 (e16.2.depth - 1)})))) else ((X4 y21.2 ([115,119,105,116,99,104]:List UInt8)).bind fun y27=>bif y27.1 then ((K6 y27.2).bind fun y28=>exC y28 (fun y28=>(G.C5 y28.2).bind fun y29=>exC y29 (fun y29=>kk1 (⟨7,y2,y28.1,[],[],[],[],[],y29.1⟩:F6) y29.2) (fun e17=>some (qK (e17.1,{e17.2 with depth:=qJ .i64 (e17.2.depth - 1)})))) (fun e18=>some (qK (e18.1,{e18.2 with depth:=qJ .i64 (e18.2.depth - 1)})))) else ((Q6a y27.2 (⟨0,y2,[],[],[],[],[],[],[]⟩:F6)).bind fun y30=>exC y30 (fun y30=>kk1 y30.2 y30.1) (fun e19=>some (qK (e19.1,{e19.2.1 with depth:=qJ .i64 (e19.2.1.depth - 1)})))))))))))) (fun(x1:F6) (x2:Z0)=>some (qX (x1,{x2 with depth:=qJ .i64 (x2.depth - 1)}))))
def Q3i (G:Rec2) (p0:Z0):Option (Except (Y2×Z0) ((List F6)×Z0)) :=
  (X2 p0 ([123]:List UInt8)).bind fun y1=>exE y1 (fun y1=>(X5 (fun(x1,x2)=>((X4 x2 ([125]:List UInt8)).bind fun y2=>bif !y2.1 then ((G.G6 y2.2).bind fun y3=>exL y3 (fun y3=>(O8 (qQ x1+qQ ([y3.1]:List F6))).bind fun _=>some (Lp.go (x1++([y3.1]:List F6),y3.2)))) else (some (Lp.brk (x1,y2.2))):Option (Lp ((List F6)×Z0) (Except (Y2×Z0) ((List F6)×Z0))))) NN ([],y1)).bind fun o=>o.thn (fun(x1,x2)=>some (qX (x1,x2))) (fun r=>some r))
def Z5j:Nat→Rec2
  | 0=>⟨fun _=>none,fun _=>none,fun _=>none,fun _=>none⟩
  | n+1=>⟨Q4n (Z5j n),Q3h (Z5j n),Q4j (Z5j n),Q3i (Z5j n)⟩
def G0 (p0:Z0):Option (Except (Y2×Z0) ((List F6)×Z0)):=(Z5j NN).G0 p0
def C5 (p0:Z0):Option (Except (Y2×Z0) ((List Q0o)×Z0)):=(Z5j NN).C5 p0
def G6 (p0:Z0):Option (Except (Y2×Z0) (F6×Z0)):=(Z5j NN).G6 p0
def F7 (p0:Z0):Option (Except (Y2×Z0) ((List F6)×Z0)):=(Z5j NN).F7 p0

def Q2k (p0:Z0) (p1:E3):Option (Except (Y2×Z0×E3) (Z0×E3)) :=
  (G9 p0).bind fun y1=>(U2 p0 ([115,116,114,117,99,116]:List UInt8)).bind fun y2=>bif y2 then ((A4 p0 2 ([123]:List UInt8)).bind fun y3=>bif y3 then ((X2 p0 ([115,116,114,117,99,116]:List UInt8)).bind fun y4=>exC y4 (fun y4=>jn (fun kk1=>(J9 y4).bind fun y5=>exC y5 (fun y5=>kk1 y5.2 (⟨y1,y5.1,[]⟩:Q3b)) (fun e1=>some (qK (e1.1,e1.2,p1)))) (fun(x1:Z0) (x2:Q3b)=>(Q4l x1).bind fun y6=>exC y6 (fun y6=>(O8 (qQ p1.Structs+qQ ([{x2 with Fields:=y6.1}]:List Q3b))).bind fun _=>some (qX (y6.2,{p1 with Structs:=p1.Structs++([{x2 with Fields:=y6.1}]:List Q3b)}))) (fun e2=>some (qK (e2.1,e2.2,p1))))) (fun e3=>some (qK (e3.1,e3.2,p1)))) else ((G5 p0).bind fun y7=>exC y7 (fun y7=>(J9 y7.2).bind fun y8=>exC y8 (fun y8=>(U2 y8.2 ([40]:List UInt8)).bind fun y9=>bif !y9 then ((H8 y8.2 (⟨y1,y7.1,y8.1,[],[],false⟩:N0)).bind fun y10=>exC y10 (fun y10=>(O8 (qQ p1.Globals+qQ ([y10.1]:List N0))).bind fun _=>some (qX (y10.2,{p1 with Globals:=p1.Globals++([y10.1]:List N0)}))) (fun e4=>some (qK (e4.1,e4.2,p1)))) else (jn (fun kk2=>(O6 y8.2).bind fun y11=>exC y11 (fun y11=>kk2 y11.2 (⟨y1,y7.1,y8.1,y11.1,[]⟩:Q0n)) (fun e5=>some (qK (e5.1,e5.2,p1)))) (fun(x3:Z0) (x4:Q0n)=>(F7 x3).bind fun y12=>exC y12 (fun y12=>(O8 (qQ p1.Funcs+qQ ([{x4 with Body:=y12.1}]:List Q0n))).bind fun _=>some (qX (y12.2,{p1 with Funcs:=p1.Funcs++([{x4 with Body:=y12.1}]:List Q0n)}))) (fun e6=>some (qK (e6.1,e6.2,p1)))))) (fun e7=>some (qK (e7.1,e7.2,p1)))) (fun e8=>some (qK (e8.1,e8.2,p1))))) else ((G5 p0).bind fun y13=>exC y13 (fun y13=>(J9 y13.2).bind fun y14=>exC y14 (fun y14=>(U2 y14.2 ([40]:List UInt8)).bind fun y15=>bif !y15 then ((H8 y14.2 (⟨y1,y13.1,y14.1,[],[],false⟩:N0)).bind fun y16=>exC y16 (fun y16=>(O8 (qQ p1.Globals+qQ ([y16.1]:List N0))).bind fun _=>some (qX (y16.2,{p1 with Globals:=p1.Globals++([y16.1]:List N0)}))) (fun e9=>some (qK (e9.1,e9.2,p1)))) else (jn (fun kk3=>(O6 y14.2).bind fun y17=>exC y17 (fun y17=>kk3 y17.2 (⟨y1,y13.1,y14.1,y17.1,[]⟩:Q0n)) (fun e10=>some (qK (e10.1,e10.2,p1)))) (fun(x5:Z0) (x6:Q0n)=>(F7 x5).bind fun y18=>exC y18 (fun y18=>(O8 (qQ p1.Funcs+qQ ([{x6 with Body:=y18.1}]:List Q0n))).bind fun _=>some (qX (y18.2,{p1 with Funcs:=p1.Funcs++([{x6 with Body:=y18.1}]:List Q0n)}))) (fun e11=>some (qK (e11.1,e11.2,p1)))))) (fun e12=>some (qK (e12.1,e12.2,p1)))) (fun e13=>some (qK (e13.1,e13.2,p1))))

def Q9i (p0:Z0):Option (Except (E3×Y2×Z0) (E3×Z0)) :=
  (X5 (fun(x4,x5)=>(bif decide (0 < (qQ x5.l:Int)) then ((Q2k x5 x4).bind fun y1=>exC y1 (fun y1=>some (Lp.go (y1.2,y1.1))) (fun e1=>some (Lp.ret (qK ((⟨[],[],[]⟩:E3),e1.1,e1.2.1))))) else (some (Lp.brk (x4,x5))):Option (Lp (E3×Z0) (Except (E3×Y2×Z0) (E3×Z0))))) NN ((⟨[],[],[]⟩:E3),p0)).bind fun o=>o.thn (fun(x4,x5)=>some (qX (x4,x5))) (fun r=>some r)

def Z6t (p0:List UInt8):Option (E3×Pos×Int) :=
  (Y3z p0).bind fun y1=>bif y1.2.2 != 0 then (some ((⟨[],[],[]⟩:E3),y1.2.1,y1.2.2)) else ((Q9i (⟨y1.1,y1.2.1,0⟩:Z0)).bind fun y2=>exC y2 (fun y2=>some (y2.1,y1.2.1,(0:Int))) (fun e1=>some ((⟨[],[],[]⟩:E3),e1.2.1.pos,e1.2.1.e)))

def Y4b  : Option (Z7) :=
  some (⟨([(⟨(⟨0,0,0,([]:List UInt8),[]⟩:Q8l),0,0,false⟩:K0),(⟨(⟨1,0,0,([]:List UInt8),[]⟩:Q8l),4,4,false⟩:K0),(⟨(⟨2,0,0,([]:List UInt8),[]⟩:Q8l),1,1,false⟩:K0)]:List K0)⟩:Z7)

def Q8z (p0:K0) (p1:List UInt8):Option (Bool) :=
  some ((p0.Type_.Kind == 5)&&(decide (p0.Type_.Name=p1)))

def Q7z (p0:List K0) (p1:List UInt8):Option (Int) :=
  (X5 (fun(x1:Int)=>(bif decide (x1 < (qQ p0:Int)) then ((idx p0 x1).bind fun u1=>(Q8z u1 p1).bind fun y1=>bif y1 then (some (Lp.ret x1)) else (some (Lp.go (qJ .i64 (x1+1))))) else (some (Lp.brk x1)):Option (Lp (Int) (Int)))) NN (0:Int)).bind fun o=>o.thn (fun(x1:Int)=>some ((-1):Int)) (fun r=>some r)

def Q1d (p0:Z7) (p1:List UInt8):Option (Int) :=
  (Q7z p0.list p1).bind fun y1=>some y1

def Z0z (p0:K0) (p1:K0):Option (Bool) :=
  some ((((p0.Type_.Kind == p1.Type_.Kind)&&(p0.Type_.Elem == p1.Type_.Elem))&&(p0.Type_.Len == p1.Type_.Len))&&(p1.Type_.Kind != 5))

def Q4t (p0:List K0) (p1:K0):Option (Int) :=
  (X5 (fun(x1:Int)=>(bif decide (x1 < (qQ p0:Int)) then ((idx p0 x1).bind fun u1=>(Z0z u1 p1).bind fun y1=>bif y1 then (some (Lp.ret x1)) else (some (Lp.go (qJ .i64 (x1+1))))) else (some (Lp.brk x1)):Option (Lp (Int) (Int)))) NN (0:Int)).bind fun o=>o.thn (fun(x1:Int)=>some ((-1):Int)) (fun r=>some r)

def Q4w (p0:Z7) (p1:K0):Option (Int×Int×Z7) :=
  (Q4t p0.list p1).bind fun y1=>bif decide (0≤y1) then (some (y1,(0:Int),p0)) else (bif decide (400≤(qQ p0.list:Int)) then (some ((0:Int),(8:Int),p0)) else ((O8 (qQ p0.list+qQ ([p1]:List K0))).bind fun _=>some (qJ .i64 ((qQ (p0.list++([p1]:List K0)):Int) - 1),(0:Int),(⟨p0.list++([p1]:List K0)⟩:Z7))))

def Q9l (p0:Z7) (p1:List UInt8):Option (Int×Int×Z7) :=
  bif decide (p1=([]:List UInt8)) then (some ((0:Int),(1:Int),p0)) else ((Q1d p0 p1).bind fun y1=>bif decide (0≤y1) then (some ((0:Int),(6:Int),p0)) else ((Q4w p0 (⟨(⟨5,0,0,p1,[]⟩:Q8l),0,0,true⟩:K0)).bind fun y2=>some (y2.1,y2.2.1,y2.2.2)))

def X0 (p0:Pos) (p1:Int):Option (Except (Z4) (Unit)) :=
  some (qK (⟨p0,p1⟩:Z4))

def L6 (p0:Pos) (p1:Int):Option (Except (Z4) (Unit)) :=
  bif p1 != 0 then ((X0 p0 p1).bind fun y1=>exC y1 (fun y1=>none) (fun e1=>some (qK e1))) else (some (qX ()))

def Q9m (p0:Z7) (p1:List UInt8):Option (Int×Int) :=
  (Q1d p0 p1).bind fun y1=>bif decide (y1 < 0) then (some ((0:Int),(4:Int))) else (some (y1,(0:Int)))

def A3 (p0:Z7) (p1:Int):Option (Bool) :=
  some ((decide (0≤p1))&&(decide (p1 < (qQ p0.list:Int))))

def Q4x (p0:Z7) (p1:Int):Option (Int×Int×Z7) :=
  (A3 p0 p1).bind fun y1=>bif !y1 then (some ((0:Int),(4:Int),p0)) else ((Q4w p0 (⟨(⟨3,p1,0,([]:List UInt8),[]⟩:Q8l),4,4,false⟩:K0)).bind fun y2=>some (y2.1,y2.2.1,y2.2.2))

def E8 (p0:Q0) (p1:Pos) (p2:P9):Option (Except (Z4×Q0) (Int×Q0)) :=
  jn (fun kk1=>bif decide (p2.Word=([105,110,116]:List UInt8)) then (kk1 (1:Int)) else (bif decide (p2.Word=([99,104,97,114]:List UInt8)) then (kk1 (2:Int)) else (bif decide (p2.Word=([115,116,114,117,99,116]:List UInt8)) then ((Q9m p0.t p2.Name).bind fun y1=>(L6 p1 y1.2).bind fun y2=>exC y2 (fun y2=>kk1 y1.1) (fun e1=>some (qK (e1,p0)))) else (kk1 (0:Int))))) (fun(x1:Int)=>(X5 (fun(x3,x4,x5)=>(bif decide (x4 < p2.Stars) then ((Q4x x5 x3).bind fun y3=>(L6 p1 y3.2.1).bind fun y4=>exC y4 (fun y4=>some (Lp.go (y3.1,qJ .i64 (x4+1),y3.2.2))) (fun e2=>some (Lp.ret (qK (e2,{p0 with t:=y3.2.2}))))) else (some (Lp.brk (x3,x4,x5))):Option (Lp (Int×Int×Z7) (Except (Z4×Q0) (Int×Q0))))) NN (x1,(0:Int),p0.t)).bind fun o=>o.thn (fun(x3,x4,x5)=>some (qX (x3,{p0 with t:=x5}))) (fun r=>some r))

def Q8e (p0:Z7) (p1:Int) (p2:Int):Option (Int×Int×Z7) :=
  (A3 p0 p1).bind fun y1=>bif !y1 then (some ((0:Int),(4:Int),p0)) else ((idx p0.list p1).bind fun u1=>bif u1.size == 0 then (some ((0:Int),(5:Int),p0)) else (bif decide (p2 < 1) then (some ((0:Int),(1:Int),p0)) else ((idx p0.list p1).bind fun u2=>(nz u2.size).bind fun _=>bif decide ((qJ .i64 (Int.tdiv 32768 u2.size)) < p2) then (some ((0:Int),(2:Int),p0)) else ((idx p0.list p1).bind fun u3=>(Q4w p0 (⟨(⟨4,p1,p2,([]:List UInt8),[]⟩:Q8l),qJ .i64 (p2 * u3.size),u3.align,false⟩:K0)).bind fun y2=>some (y2.1,y2.2.1,y2.2.2)))))

def I2 (p0:Q0) (p1:N0):Option (Except (Z4×Q0) (Int×Q0)) :=
  (E8 p0 p1.Pos p1.Type_).bind fun y1=>exE y1 (fun y1=>(X5 (fun(x2,x3,x4)=>(bif decide (0≤x3) then ((idx p1.Dims x3).bind fun u1=>(Q8e x4 x2 (qJ .i64 u1)).bind fun y2=>(L6 p1.Pos y2.2.1).bind fun y3=>exC y3 (fun y3=>some (Lp.go (y2.1,qJ .i64 (x3 - 1),y2.2.2))) (fun e1=>some (Lp.ret (qK (e1,{y1.2 with t:=y2.2.2}))))) else (some (Lp.brk (x2,x3,x4))):Option (Lp (Int×Int×Z7) (Except (Z4×Q0) (Int×Q0))))) NN (y1.1,qJ .i64 ((qQ p1.Dims:Int) - 1),y1.2.t)).bind fun o=>o.thn (fun(x2,x3,x4)=>some (qX (x2,{y1.2 with t:=x4}))) (fun r=>some r))

def Z1d (p0:K5):Option (Bool) :=
  some (decide (p0.Name=([]:List UInt8)))

def Q4s (p0:List K5):Option (Int) :=
  (X5 (fun(x1:Int)=>(bif decide (x1 < (qQ p0:Int)) then ((idx p0 x1).bind fun u1=>(Z1d u1).bind fun y1=>bif y1 then (some (Lp.ret x1)) else (some (Lp.go (qJ .i64 (x1+1))))) else (some (Lp.brk x1)):Option (Lp (Int) (Int)))) NN (0:Int)).bind fun o=>o.thn (fun(x1:Int)=>some ((-1):Int)) (fun r=>some r)

def Q7r (p0:List K5):Option (Bool) :=
  (Q4s p0).bind fun y1=>some (decide (0≤y1))

def Z1c (p0:K5) (p1:Z7):Option (Bool) :=
  (A3 p1 p0.Type_).bind fun y1=>some (!y1)

def Q4r (p0:List K5) (p1:Z7):Option (Int) :=
  (X5 (fun(x1:Int)=>(bif decide (x1 < (qQ p0:Int)) then ((idx p0 x1).bind fun u1=>(Z1c u1 p1).bind fun y1=>bif y1 then (some (Lp.ret x1)) else (some (Lp.go (qJ .i64 (x1+1))))) else (some (Lp.brk x1)):Option (Lp (Int) (Int)))) NN (0:Int)).bind fun o=>o.thn (fun(x1:Int)=>some ((-1):Int)) (fun r=>some r)

def Q5h (p0:List K5) (p1:Z7):Option (Bool) :=
  (Q4r p0 p1).bind fun y1=>some (decide (0≤y1))

def U8 (p0:Z7) (p1:Int):Option (Int) :=
  (A3 p0 p1).bind fun y1=>bif !y1 then (some (0:Int)) else ((idx p0.list p1).bind fun u1=>some u1.size)

def Z1b (p0:K5) (p1:Z7):Option (Bool) :=
  (U8 p1 p0.Type_).bind fun y1=>some (y1 == 0)

def Q4q (p0:List K5) (p1:Z7):Option (Int) :=
  (X5 (fun(x1:Int)=>(bif decide (x1 < (qQ p0:Int)) then ((idx p0 x1).bind fun u1=>(Z1b u1 p1).bind fun y1=>bif y1 then (some (Lp.ret x1)) else (some (Lp.go (qJ .i64 (x1+1))))) else (some (Lp.brk x1)):Option (Lp (Int) (Int)))) NN (0:Int)).bind fun o=>o.thn (fun(x1:Int)=>some ((-1):Int)) (fun r=>some r)

def Q5g (p0:List K5) (p1:Z7):Option (Bool) :=
  (Q4q p0 p1).bind fun y1=>some (decide (0≤y1))

def Z1a (p0:K5) (p1:K5):Option (Bool) :=
  some (decide (p0.Name=p1.Name))

def Q4p (p0:List K5) (p1:K5):Option (Int) :=
  (X5 (fun(x1:Int)=>(bif decide (x1 < (qQ p0:Int)) then ((idx p0 x1).bind fun u1=>(Z1a u1 p1).bind fun y1=>bif y1 then (some (Lp.ret x1)) else (some (Lp.go (qJ .i64 (x1+1))))) else (some (Lp.brk x1)):Option (Lp (Int) (Int)))) NN (0:Int)).bind fun o=>o.thn (fun(x1:Int)=>some ((-1):Int)) (fun r=>some r)

def Q0r (p0:List K5) (p1:K5):Option (Bool) :=
  (Q4p p0 p1).bind fun y1=>some (decide (0≤y1))

def Z0p (p0:Z7) (p1:List K5):Option (Int) :=
  bif (qQ p1:Int) == 0 then (some (1:Int)) else ((Q7r p1).bind fun y1=>bif y1 then (some (1:Int)) else ((Q5h p1 p0).bind fun y2=>bif y2 then (some (4:Int)) else ((Q5g p1 p0).bind fun y3=>bif y3 then (some (5:Int)) else ((X5 (fun(x1:Int)=>(bif decide (x1 < (qQ p1:Int)) then ((idx p1 x1).bind fun u1=>(sub p1 0 x1).bind fun u2=>(Q0r u2 u1).bind fun y4=>bif y4 then (some (Lp.ret (6:Int))) else (some (Lp.go (qJ .i64 (x1+1))))) else (some (Lp.brk x1)):Option (Lp (Int) (Int)))) NN (0:Int)).bind fun o=>o.thn (fun(x1:Int)=>some (0:Int)) (fun r=>some r)))))

def Z0x (p0:List K5):Option ((List K5)) :=
  (O8 (qQ ([]:List K5)+qQ p0)).bind fun _=>some (([]:List K5)++p0)

def Q1e (p0:Z7) (p1:Int):Option (Int) :=
  (A3 p0 p1).bind fun y1=>bif !y1 then (some (0:Int)) else ((idx p0.list p1).bind fun u1=>some u1.align)

def Z8c (p0:Int) (p1:Int):Option (Int) :=
  (nz p1).bind fun _=>some (qJ .i64 ((qJ .i64 (Int.tdiv (qJ .i64 ((qJ .i64 (p0+p1)) - 1)) p1)) * p1))

def Q3n (p0:K5) (p1:Int) (p2:Z7) (p3:Int):Option (Bool×K5×Int×Int) :=
  (Q1e p2 p0.Type_).bind fun y1=>(Z8c p1 y1).bind fun y2=>(U8 p2 p0.Type_).bind fun y3=>(Q1e p2 p0.Type_).bind fun y4=>some (decide ((qJ .i64 (y2+y3))≤32768),{p0 with At:=y2},qJ .i64 (y2+y3),max p3 y4)

def Q6o (p0:Z7) (p1:List UInt8) (p2:List K5):Option (Int×Int×Z7) :=
  (Q1d p0 p1).bind fun y1=>bif decide (y1 < 0) then (some ((0:Int),(4:Int),p0)) else ((idx p0.list y1).bind fun u1=>bif !u1.open_ then (some ((0:Int),(4:Int),p0)) else ((Z0p p0 p2).bind fun y2=>bif y2 != 0 then (some ((0:Int),y2,p0)) else ((Z0x p2).bind fun y3=>(X5 (fun(x1,x2,x3,x4)=>(bif decide (x2 < (qQ y3:Int)) then ((idx x1 x2).bind fun u2=>(idx x1 x2).bind fun u3=>(Q3n u3 x4 p0 x3).bind fun y4=>bif !y4.1 then (some (Lp.ret ((0:Int),(2:Int),p0))) else (some (Lp.go (qP x1 (qF x2) y4.2.1,qJ .i64 (x2+1),y4.2.2.2,y4.2.2.1)))) else (some (Lp.brk (x1,x2,x3,x4))):Option (Lp ((List K5)×Int×Int×Int) (Int×Int×Z7)))) NN (y3,(0:Int),(1:Int),(0:Int))).bind fun o=>o.thn (fun(x1,x2,x3,x4)=>(Z8c x4 x3).bind fun y5=>bif decide (32768 < y5) then (some ((0:Int),(2:Int),p0)) else ((idx p0.list y1).bind fun u4=>(Z8c x4 x3).bind fun y6=>(idx p0.list y1).bind fun u5=>(idx (qP p0.list (qF y1) ({u5 with Type_ := {u5.Type_ with Fields:=x1}})) y1).bind fun u6=>(idx (qP (qP p0.list (qF y1) ({u5 with Type_ := {u5.Type_ with Fields:=x1}})) (qF y1) ({u6 with size:=y6})) y1).bind fun u7=>(idx (qP (qP (qP p0.list (qF y1) ({u5 with Type_ := {u5.Type_ with Fields:=x1}})) (qF y1) ({u6 with size:=y6})) (qF y1) ({u7 with align:=x3})) y1).bind fun u8=>some (y1,(0:Int),(⟨qP (qP (qP (qP p0.list (qF y1) ({u5 with Type_ := {u5.Type_ with Fields:=x1}})) (qF y1) ({u6 with size:=y6})) (qF y1) ({u7 with align:=x3})) (qF y1) ({u8 with open_:=false})⟩:Z7)))) (fun r=>some r))))

def Q0x (p0:Q0) (p1:List Q3b):Option (Except (Z4×Q0) (Q0)) :=
  (X5 (fun(x2,x3)=>(bif decide (x2 < (qQ p1:Int)) then ((idx p1 x2).bind fun u1=>(Q9l x3 u1.Name).bind fun y1=>(L6 u1.Pos y1.2.1).bind fun y2=>exC y2 (fun y2=>some (Lp.go (qJ .i64 (x2+1),y1.2.2))) (fun e1=>some (Lp.ret (qK (e1,{p0 with t:=y1.2.2}))))) else (some (Lp.brk (x2,x3))):Option (Lp (Int×Z7) (Except (Z4×Q0) (Q0))))) NN ((0:Int),p0.t)).bind fun o=>o.thn (fun(x2,x3)=>(X5 (fun(x12,x13,x14)=>(bif decide (x12 < (qQ p1:Int)) then ((idx p1 x12).bind fun u3=>(X5 (fun(x15,x24,x25,x26)=>(bif decide (x24 < (qQ u3.Fields:Int)) then ((idx u3.Fields x24).bind fun u4=>(I2 ({x25 with t:=x26}) u4).bind fun y3=>exL y3 (fun y3=>(O8 (qQ x15+qQ ([(⟨u4.Name,y3.1,0⟩:K5)]:List K5))).bind fun _=>some (Lp.go (x15++([(⟨u4.Name,y3.1,0⟩:K5)]:List K5),qJ .i64 (x24+1),y3.2,y3.2.t)))) else (some (Lp.brk (x15,x24,{x25 with t:=x26},x26))):Option (Lp ((List K5)×Int×Q0×Z7) (Except (Z4×Q0) (Q0))))) NN ([],(0:Int),{x13 with t:=x14},x14)).bind fun o=>o.thn (fun(x15,x24,x25,x26)=>(Q6o x26 u3.Name x15).bind fun y4=>(L6 u3.Pos y4.2.1).bind fun y5=>exC y5 (fun y5=>some (Lp.go (qJ .i64 (x12+1),{x25 with t:=y4.2.2},y4.2.2))) (fun e3=>some (Lp.ret (qK (e3,{x25 with t:=y4.2.2}))))) (fun r=>some (Lp.ret r))) else (some (Lp.brk (x12,{x13 with t:=x14},x14))):Option (Lp (Int×Q0×Z7) (Except (Z4×Q0) (Q0))))) NN ((0:Int),{p0 with t:=x3},x3)).bind fun o=>o.thn (fun(x12,x13,x14)=>some (qX ({x13 with t:=x14}))) (fun r=>some r)) (fun r=>some r)

def Q0g (p0:Q0) (p1:N0):Option (Except (Z4×Q0) (Int×Q0)) :=
  (I2 p0 p1).bind fun y1=>exE y1 (fun y1=>(U8 y1.2.t y1.1).bind fun y2=>bif y2 == 0 then ((X0 p1.Pos 5).bind fun y3=>exC y3 (fun y3=>none) (fun e1=>some (qK (e1,y1.2)))) else (some (qX (y1.1,y1.2))))

def Q3r (p0:Q0) (p1:Pos) (p2:List UInt8):Option (Except (Z4×Q0) (Q0)) :=
  bif (((E2 p0.globals p2).isSome) || ((E2 p0.codes p2).isSome)) then ((X0 p1 6).bind fun y1=>exC y1 (fun y1=>none) (fun e1=>some (qK (e1,p0)))) else (bif (Z3k p0.globals:Int) == 200 then ((X0 p1 2).bind fun y2=>exC y2 (fun y2=>none) (fun e2=>some (qK (e2,p0)))) else ((p0.globals).bind fun u3=>some (qX ({p0 with globals:=(some (Q9k u3 p2 (Z3k p0.globals:Int)))}))))

def P3 (p0:Z7) (p1:Int):Option (Bool) :=
  (A3 p0 p1).bind fun y1=>bif !y1 then (some false) else ((idx p0.list p1).bind fun u1=>some (((u1.Type_.Kind == 1) || (u1.Type_.Kind == 2)) || (u1.Type_.Kind == 3)))

def R1 (p0:Q0) (p1:Int):Option (Int) :=
  (P3 p0.t p1).bind fun y1=>bif !y1 then (some (0:Int)) else ((U8 p0.t p1).bind fun y2=>some y2)

def Q1g (p0:Q0) (p1:List UInt8) (p2:Int):Option (Z3n) :=
  (U8 p0.t p2).bind fun y1=>(Q1e p0.t p2).bind fun y2=>(R1 p0 p2).bind fun y3=>some (⟨p1,y1,y2,y3⟩:Z3n)

def N6 (p0:Z7) (p1:Int):Option (Q8l×Int) :=
  (A3 p0 p1).bind fun y1=>bif !y1 then (some ((⟨0,0,0,([]:List UInt8),[]⟩:Q8l),(4:Int))) else ((idx p0.list p1).bind fun u1=>(Z0x u1.Type_.Fields).bind fun y2=>some ({u1.Type_ with Fields:=y2},(0:Int)))

def I0 (p0:Q0) (p1:Int):Option (Int) :=
  (N6 p0.t p1).bind fun y1=>bif y1.1.Kind == 4 then (some y1.1.Elem) else (some p1)

def Q0j (p0:Q0) (p1:N0) (p2:Int):Option (Except (Z4) ((List Y7))) :=
  bif (qQ p1.Init:Int) == 0 then (some (qX [])) else ((N6 p0.t p2).bind fun y1=>bif !((y1.1.Kind == 4) == p1.Brace) then ((X0 p1.Pos 5).bind fun y6=>exC y6 (fun y6=>none) (fun e3=>some (qK e3))) else ((I0 p0 p2).bind fun y2=>(R1 p0 y2).bind fun y3=>bif y3 == 0 then ((X0 p1.Pos 5).bind fun y4=>exC y4 (fun y4=>none) (fun e1=>some (qK e1))) else (bif ((y1.1.Kind == 4)&&(decide (y1.1.Len < (qQ p1.Init:Int)))) then ((X0 p1.Pos 2).bind fun y5=>exC y5 (fun y5=>none) (fun e2=>some (qK e2))) else (some (qX p1.Init)))))

def Q0f (p0:J7) (p1:List UInt8):Option (Int×Bool) :=
  (X5 (fun(x1:Int)=>(bif decide (0≤x1) then ((idx p0.scopes x1).bind fun u1=>bif (E2 u1 p1).isSome then (some (Lp.ret ((E2 u1 p1).getD 0,true))) else (some (Lp.go (qJ .i64 (x1 - 1))))) else (some (Lp.brk x1)):Option (Lp (Int) (Int×Bool)))) NN (qJ .i64 ((qQ p0.scopes:Int) - 1))).bind fun o=>o.thn (fun(x1:Int)=>some ((0:Int),false)) (fun r=>some r)

def Q5b (p0:Q0) (p1:Y7):Option (Except (Z4×Q0) (Y1×Q0)) :=
  jn (fun kk1=>(O3.isNil p0.fun_).bind fun u1=>bif !u1 then ((O3.get p0.fun_).bind fun u2=>(Q0f u2 p1.Name).bind fun y1=>bif y1.2 then ((idx u2.types y1.1).bind fun u3=>some (qX ((⟨u3,(⟨2,0,0,y1.1,false,0,false,true,[]⟩:Y5),true⟩:Y1),p0))) else (kk1 ())) else (kk1 ())) (fun(_:Unit)=>bif !((E2 p0.globals p1.Name).isSome) then ((X0 p1.Pos 4).bind fun y2=>exC y2 (fun y2=>none) (fun e1=>some (qK (e1,p0)))) else ((idx p0.gtypes ((E2 p0.globals p1.Name).getD 0)).bind fun u5=>some (qX ((⟨u5,(⟨2,0,0,(E2 p0.globals p1.Name).getD 0,true,0,false,true,[]⟩:Y5),true⟩:Y1),p0))))

def Q0h (p0:Q0) (p1:Pos) (p2:Int):Option (Except (Z4×Q0) (Int×Q0)) :=
  (Q4x p0.t p2).bind fun y1=>(L6 p1 y1.2.1).bind fun y2=>exC y2 (fun y2=>some (qX (y1.1,{p0 with t:=y1.2.2}))) (fun e1=>some (qK (e1,{p0 with t:=y1.2.2})))

def M2 (p0:Q0) (p1:Int):Option (Int×Bool) :=
  (N6 p0.t p1).bind fun y1=>bif y1.1.Kind == 3 then ((U8 p0.t y1.1.Elem).bind fun y2=>some (y1.1.Elem,decide (0 < y2))) else (some (y1.1.Elem,false))

def X1 (p0:Q0) (p1:Int):Option (Bool) :=
  (N6 p0.t p1).bind fun y1=>some (y1.1.Kind == 3)

def Z2e (p0:List UInt8):Option (Int) :=
  bif decide (p0=([43]:List UInt8)) then (some (1:Int)) else (bif decide (p0=([45]:List UInt8)) then (some (2:Int)) else (bif decide (p0=([42]:List UInt8)) then (some (3:Int)) else (bif decide (p0=([47]:List UInt8)) then (some (4:Int)) else (bif decide (p0=([37]:List UInt8)) then (some (5:Int)) else (bif decide (p0=([38]:List UInt8)) then (some (6:Int)) else (bif decide (p0=([124]:List UInt8)) then (some (7:Int)) else (bif decide (p0=([94]:List UInt8)) then (some (8:Int)) else (bif decide (p0=([60,60]:List UInt8)) then (some (9:Int)) else (bif decide (p0=([62,62]:List UInt8)) then (some (10:Int)) else (bif decide (p0=([61,61]:List UInt8)) then (some (11:Int)) else (bif decide (p0=([33,61]:List UInt8)) then (some (12:Int)) else (bif decide (p0=([60]:List UInt8)) then (some (13:Int)) else (bif decide (p0=([62]:List UInt8)) then (some (14:Int)) else (bif decide (p0=([60,61]:List UInt8)) then (some (15:Int)) else (some (16:Int))))))))))))))))

def Q9d (p0:Y7):Option (Bool) :=
  some ((p0.Kind == 1)&&(p0.Num == 0))

def Q1l  : Option (Y5) :=
  some (⟨1,0,0,0,false,0,false,true,[]⟩:Y5)

def Q3s (p0:Q0) (p1:Y7) (p2:Y1) (p3:Y1):Option (Except (Z4) (Y1)) :=
  jn (fun kk1=>(idx p1.Kids 0).bind fun u1=>(idx p1.Kids 1).bind fun u2=>kk1 u1 u2) (fun(x1:Y7) (x2:Y7)=>(Z2e p1.Op).bind fun y1=>jn (fun kk2=>(X1 p0 p2.n).bind fun y2=>bif y2 then ((Q9d x2).bind fun y3=>bif y3 then ((Q1l).bind fun y4=>kk2 (⟨6,y1,0,0,false,0,false,false,([p2.term,y4]:List Y5)⟩:Y5)) else ((X1 p0 p3.n).bind fun y5=>bif y5 then ((Q9d x1).bind fun y6=>bif y6 then ((Q1l).bind fun y7=>kk2 (⟨6,y1,0,0,false,0,false,false,([y7,p3.term]:List Y5)⟩:Y5)) else (bif p2.n != 1 then ((X1 p0 p2.n).bind fun y8=>bif !y8 then ((X0 x1.Pos 5).bind fun y9=>exC y9 (fun y9=>none) (fun e1=>some (qK e1))) else ((X0 x2.Pos 5).bind fun y10=>exC y10 (fun y10=>none) (fun e2=>some (qK e2)))) else ((X0 x2.Pos 5).bind fun y11=>exC y11 (fun y11=>none) (fun e3=>some (qK e3))))) else (bif p2.n != 1 then ((X1 p0 p2.n).bind fun y12=>bif !y12 then ((X0 x1.Pos 5).bind fun y13=>exC y13 (fun y13=>none) (fun e4=>some (qK e4))) else ((X0 x2.Pos 5).bind fun y14=>exC y14 (fun y14=>none) (fun e5=>some (qK e5)))) else ((X0 x2.Pos 5).bind fun y15=>exC y15 (fun y15=>none) (fun e6=>some (qK e6)))))) else ((X1 p0 p3.n).bind fun y16=>bif y16 then ((Q9d x1).bind fun y17=>bif y17 then ((Q1l).bind fun y18=>kk2 (⟨6,y1,0,0,false,0,false,false,([y18,p3.term]:List Y5)⟩:Y5)) else (bif p2.n != 1 then ((X1 p0 p2.n).bind fun y19=>bif !y19 then ((X0 x1.Pos 5).bind fun y20=>exC y20 (fun y20=>none) (fun e7=>some (qK e7))) else ((X0 x2.Pos 5).bind fun y21=>exC y21 (fun y21=>none) (fun e8=>some (qK e8)))) else ((X0 x2.Pos 5).bind fun y22=>exC y22 (fun y22=>none) (fun e9=>some (qK e9))))) else (bif p2.n != 1 then ((X1 p0 p2.n).bind fun y23=>bif !y23 then ((X0 x1.Pos 5).bind fun y24=>exC y24 (fun y24=>none) (fun e10=>some (qK e10))) else ((X0 x2.Pos 5).bind fun y25=>exC y25 (fun y25=>none) (fun e11=>some (qK e11)))) else ((X0 x2.Pos 5).bind fun y26=>exC y26 (fun y26=>none) (fun e12=>some (qK e12)))))) (fun(x4:Y5)=>some (qX (⟨1,x4,false⟩:Y1))))

def L7 (p0:Q0) (p1:Y5) (p2:Y5) (p3:Int) (p4:Int):Option (Y5) :=
  (U8 p0.t p3).bind fun y1=>some (⟨14,p4,0,0,false,y1,false,true,([p1,p2]:List Y5)⟩:Y5)

def Q0i (p0:Q0) (p1:Pos) (p2:Y1) (p3:Y5) (p4:Int):Option (Except (Z4) (Y1)) :=
  (M2 p0 p2.n).bind fun y1=>bif !y1.2 then ((X0 p1 5).bind fun y2=>exC y2 (fun y2=>none) (fun e1=>some (qK e1))) else ((L7 p0 p2.term p3 y1.1 p4).bind fun y3=>some (qX (⟨p2.n,y3,false⟩:Y1)))

def B6 (p0:Q0) (p1:Y7) (p2:Y1) (p3:Int):Option (Except (Z4) (Y5)) :=
  (X1 p0 p3).bind fun y1=>bif y1 then ((Q9d p1).bind fun y2=>bif y2 then ((Q1l).bind fun y3=>some (qX y3)) else ((X1 p0 p3).bind fun y4=>bif (y4&&(p2.n == p3)) then (some (qX p2.term)) else ((X1 p0 p3).bind fun y5=>bif ((!y5)&&(p2.n == 1)) then (some (qX p2.term)) else ((X0 p1.Pos 5).bind fun y6=>exC y6 (fun y6=>none) (fun e1=>some (qK e1)))))) else ((X1 p0 p3).bind fun y7=>bif (y7&&(p2.n == p3)) then (some (qX p2.term)) else ((X1 p0 p3).bind fun y8=>bif ((!y8)&&(p2.n == 1)) then (some (qX p2.term)) else ((X0 p1.Pos 5).bind fun y9=>exC y9 (fun y9=>none) (fun e2=>some (qK e2)))))

def G8 (p0:Q0) (p1:Int):Option (Int) :=
  bif p1 == 2 then (some (1:Int)) else (some p1)

def I1 (p0:Q0) (p1:Y7) (p2:Y1) (p3:Int):Option (Except (Z4) (Y5)) :=
  (B6 p0 p1 p2 p3).bind fun y1=>exC y1 (fun y1=>bif p3 == 2 then (some (qX (⟨17,0,0,0,false,0,false,false,([y1]:List Y5)⟩:Y5))) else (some (qX y1))) (fun e1=>some (qK e1))

def O9 (p0:Q0) (p1:Pos) (p2:Y1):Option (Except (Z4×Q0) (Y1×Q0)) :=
  bif !p2.lies then (some (qX (p2,p0))) else (jn (fun kk1=>(N6 p0.t p2.n).bind fun y1=>kk1 y1.1) (fun(x1:Q8l)=>(U8 p0.t p2.n).bind fun y2=>bif x1.Kind == 4 then (jn (fun kk2=>bif p2.term.Kind != 2 then (kk2 (⟨13,0,0,0,false,y2,false,true,([p2.term]:List Y5)⟩:Y5)) else (kk2 p2.term)) (fun(x2:Y5)=>(Q0h p0 p1 x1.Elem).bind fun y3=>exE y3 (fun y3=>some (qX ((⟨y3.1,x2,false⟩:Y1),y3.2))))) else ((P3 p0.t p2.n).bind fun y4=>bif !y4 then ((X0 p1 5).bind fun y5=>exC y5 (fun y5=>none) (fun e2=>some (qK (e2,p0)))) else (jn (fun kk3=>bif p2.n == 2 then (kk3 (1:Int)) else (kk3 p2.n)) (fun(x3:Int)=>(X1 p0 x3).bind fun y6=>some (qX ((⟨x3,(⟨3,0,0,0,false,y2,false,y6,([p2.term]:List Y5)⟩:Y5),false⟩:Y1),p0)))))))

def Q4h (p0:Z7) (p1:Int) (p2:List UInt8):Option (K5×Int) :=
  (A3 p0 p1).bind fun y1=>bif !y1 then (some ((⟨([]:List UInt8),0,0⟩:K5),(4:Int))) else ((idx p0.list p1).bind fun u1=>bif u1.Type_.Kind != 5 then (some ((⟨([]:List UInt8),0,0⟩:K5),(5:Int))) else ((idx p0.list p1).bind fun u2=>(X5 (fun(x1:Int)=>(bif decide (x1 < (qQ u2.Type_.Fields:Int)) then ((idx u2.Type_.Fields x1).bind fun u3=>bif decide (u3.Name=p2) then (some (Lp.ret (u3,(0:Int)))) else (some (Lp.go (qJ .i64 (x1+1))))) else (some (Lp.brk x1)):Option (Lp (Int) (K5×Int)))) NN (0:Int)).bind fun o=>o.thn (fun(x1:Int)=>some ((⟨([]:List UInt8),0,0⟩:K5),(4:Int))) (fun r=>some r)))

structure Z3i where
  U9:Q0→Y7→Option (Except (Z4×Q0) (Y5×Q0))
  V3:Q0→Y7→Option (Except (Z4×Q0) (Y5×Q0))
  D8:Q0→Y7→Option (Except (Z4×Q0) (Y1×Q0))
  F4:Q0→Int→Y7→Option (Except (Z4×Q0) (Y1×Q0))
  D3:Q0→Y7→Option (Except (Z4×Q0) (Y1×Q0))
  E4:Q0→Y7→Option (Except (Z4×Q0) (Y1×Q0))
  D4:Q0→Y7→Option (Except (Z4×Q0) (Y1×Q0))
  P7:Q0→Y7→Option (Except (Z4×Q0) (Y1×Q0))
  P8:Q0→Y7→Option (Except (Z4×Q0) (Y1×Q0))
  E9:Q0→Y7→Option (Except (Z4×Q0) (Y1×Q0))
  P6:Q0→Y7→Option (Except (Z4×Q0) (Y1×Q0))
  K7:Q0→Y7→Option (Except (Z4×Q0) (Y1×Q0))
  Z6:Q0→Y7→Option (Except (Z4×Q0) (Y1×Q0))

def Q1b (G:Z3i) (p0:Q0) (p1:Y7):Option (Except (Z4×Q0) (Y5×Q0)) :=
  (G.Z6 p0 p1).bind fun y1=>exE y1 (fun y1=>bif y1.1.n != 1 then ((X1 y1.2 y1.1.n).bind fun y2=>bif !y2 then ((X0 p1.Pos 5).bind fun y3=>exC y3 (fun y3=>none) (fun e1=>some (qK (e1,y1.2)))) else (some (qX (y1.1.term,y1.2)))) else (some (qX (y1.1.term,y1.2))))
def W4 (G:Z3i) (p0:Q0) (p1:Y7):Option (Except (Z4×Q0) (Y5×Q0)) :=
  (G.Z6 p0 p1).bind fun y1=>exE y1 (fun y1=>bif y1.1.n != 1 then ((X0 p1.Pos 5).bind fun y2=>exC y2 (fun y2=>none) (fun e1=>some (qK (e1,y1.2)))) else (some (qX (y1.1.term,y1.2))))
def Q0w (G:Z3i) (p0:Q0) (p1:Y7):Option (Except (Z4×Q0) (Y1×Q0)) :=
  (idx p1.Kids 0).bind fun u1=>jn (fun kk1=>bif decide (p1.Op=([38]:List UInt8)) then ((G.K7 p0 u1).bind fun y1=>exE y1 (fun y1=>jn (fun kk2=>(N6 y1.2.t y1.1.n).bind fun y2=>kk2 y2.1) (fun(x2:Q8l)=>bif ((!y1.1.lies) || (x2.Kind == 4)) then ((X0 u1.Pos 5).bind fun y3=>exC y3 (fun y3=>none) (fun e1=>some (qK (e1,y1.2)))) else ((Q0h y1.2 p1.Pos y1.1.n).bind fun y4=>exC y4 (fun y4=>some (qX ((⟨y4.1,y1.1.term,false⟩:Y1),{y4.2 with fun_:=y1.2.fun_}))) (fun e2=>some (qK (e2.1,{e2.2 with fun_:=y1.2.fun_}))))))) else (bif decide (p1.Op=([42]:List UInt8)) then ((G.Z6 p0 u1).bind fun y5=>exE y5 (fun y5=>(M2 y5.2 y5.1.n).bind fun y6=>bif !y6.2 then ((X0 u1.Pos 5).bind fun y7=>exC y7 (fun y7=>none) (fun e4=>some (qK (e4,y5.2)))) else (some (qX ((⟨y6.1,y5.1.term,true⟩:Y1),y5.2))))) else (bif decide (p1.Op=([33]:List UInt8)) then ((G.U9 p0 u1).bind fun y8=>exE y8 (fun y8=>some (qX ((⟨1,(⟨5,19,0,0,false,0,false,false,([y8.1]:List Y5)⟩:Y5),false⟩:Y1),y8.2)))) else (bif decide (p1.Op=([45]:List UInt8)) then (kk1 (17:Int)) else (kk1 (18:Int)))))) (fun(x1:Int)=>(G.V3 p0 u1).bind fun y9=>exE y9 (fun y9=>some (qX ((⟨1,(⟨5,x1,0,0,false,0,false,false,([y9.1]:List Y5)⟩:Y5),false⟩:Y1),y9.2))))
def Q2g (G:Z3i) (p0:Q0) (p1:Int) (p2:Y7):Option (Except (Z4×Q0) (Y1×Q0)) :=
  (idx p2.Kids 0).bind fun u1=>(G.U9 p0 u1).bind fun y1=>exE y1 (fun y1=>(idx p2.Kids 1).bind fun u2=>(G.U9 y1.2 u2).bind fun y2=>exE y2 (fun y2=>some (qX ((⟨1,(⟨p1,0,0,0,false,0,false,false,([y1.1,y2.1]:List Y5)⟩:Y5),false⟩:Y1),y2.2))))
def Q0a (G:Z3i) (p0:Q0) (p1:Y7):Option (Except (Z4×Q0) (Y1×Q0)) :=
  bif decide (p1.Op=([38,38]:List UInt8)) then ((G.F4 p0 7 p1).bind fun y1=>exE y1 (fun y1=>some (qX (y1.1,y1.2)))) else (bif decide (p1.Op=([124,124]:List UInt8)) then ((G.F4 p0 8 p1).bind fun y2=>exE y2 (fun y2=>some (qX (y2.1,y2.2)))) else (jn (fun kk1=>(idx p1.Kids 0).bind fun u3=>(idx p1.Kids 1).bind fun u4=>kk1 u3 u4) (fun(x1:Y7) (x2:Y7)=>jn (fun kk2=>(G.Z6 p0 x1).bind fun y3=>exE y3 (fun y3=>(G.Z6 y3.2 x2).bind fun y4=>exE y4 (fun y4=>kk2 y4.2 y4.2.t y3.1 y4.1))) (fun(x12:Q0) (x13:Z7) (x14:Y1) (x15:Y1)=>(Z2e p1.Op).bind fun y5=>bif ((x14.n == 1)&&(x15.n == 1)) then (some (qX ((⟨1,(⟨6,y5,0,0,false,0,false,false,([x14.term,x15.term]:List Y5)⟩:Y5),false⟩:Y1),{x12 with t:=x13}))) else (bif ((y5 == 11) || (y5 == 12)) then ((Q3s ({x12 with t:=x13}) p1 x14 x15).bind fun y6=>exC y6 (fun y6=>some (qX (y6,{x12 with t:=x13}))) (fun e5=>some (qK (e5,{x12 with t:=x13})))) else (bif ((y5 == 1)&&(x14.n == 1)) then ((Q0i ({x12 with t:=x13}) x2.Pos x15 x14.term y5).bind fun y7=>exC y7 (fun y7=>some (qX (y7,{x12 with t:=x13}))) (fun e6=>some (qK (e6,{x12 with t:=x13})))) else (bif (((y5 == 1) || (y5 == 2))&&(x15.n == 1)) then ((Q0i ({x12 with t:=x13}) x1.Pos x14 x15.term y5).bind fun y8=>exC y8 (fun y8=>some (qX (y8,{x12 with t:=x13}))) (fun e7=>some (qK (e7,{x12 with t:=x13})))) else (bif x14.n != 1 then ((X1 ({x12 with t:=x13}) x14.n).bind fun y9=>bif ((!y9) || ((y5 != 1)&&(y5 != 2))) then ((X0 x1.Pos 5).bind fun y10=>exC y10 (fun y10=>none) (fun e8=>some (qK (e8,{x12 with t:=x13})))) else ((X0 x2.Pos 5).bind fun y11=>exC y11 (fun y11=>none) (fun e9=>some (qK (e9,{x12 with t:=x13}))))) else ((X0 x2.Pos 5).bind fun y12=>exC y12 (fun y12=>none) (fun e10=>some (qK (e10,{x12 with t:=x13}))))))))))))
def Q0z (G:Z3i) (p0:Q0) (p1:Y7):Option (Except (Z4×Q0) (Y1×Q0)) :=
  (G.K7 p0 p1).bind fun y1=>exE y1 (fun y1=>bif !y1.1.lies then ((X0 p1.Pos 5).bind fun y4=>exC y4 (fun y4=>none) (fun e2=>some (qK (e2,y1.2)))) else ((P3 y1.2.t y1.1.n).bind fun y2=>bif !y2 then ((X0 p1.Pos 5).bind fun y3=>exC y3 (fun y3=>none) (fun e1=>some (qK (e1,y1.2)))) else (some (qX (y1.1,y1.2)))))
def Q0b (G:Z3i) (p0:Q0) (p1:Y7):Option (Except (Z4×Q0) (Y1×Q0)) :=
  jn (fun kk1=>(idx p1.Kids 0).bind fun u1=>(idx p1.Kids 1).bind fun u2=>kk1 u1 u2) (fun(x1:Y7) (x2:Y7)=>(G.E4 p0 x1).bind fun y1=>exE y1 (fun y1=>jn (fun kk2=>(U8 y1.2.t y1.1.n).bind fun y2=>(X1 y1.2 y1.1.n).bind fun y3=>kk2 (⟨4,0,0,0,false,y2,false,y3,[]⟩:Y5)) (fun(x3:Y5)=>bif decide (p1.Op=([61]:List UInt8)) then ((G.Z6 y1.2 x2).bind fun y4=>exE y4 (fun y4=>(B6 y4.2 x2 y4.1 y1.1.n).bind fun y5=>exC y5 (fun y5=>(G8 y4.2 y1.1.n).bind fun y6=>some (qX ((⟨y6,{x3 with Kids:=([y1.1.term,y5]:List Y5)},false⟩:Y1),y4.2))) (fun e1=>some (qK (e1,y4.2))))) else ((sub p1.Op 0 (qJ .i64 ((qQ p1.Op:Int) - 1))).bind fun u5=>(Z2e u5).bind fun y7=>jn (fun kk3=>bif x3.Ptr then ((M2 y1.2 y1.1.n).bind fun y8=>bif ((!y8.2) || ((y7 != 1)&&(y7 != 2))) then ((X0 x1.Pos 5).bind fun y9=>exC y9 (fun y9=>none) (fun e3=>some (qK (e3,y1.2)))) else ((U8 y1.2.t y8.1).bind fun y10=>kk3 ({x3 with Kind:=16,Fn:=y7,Num:=qJ .u32 y10}))) else (kk3 ({x3 with Kind:=16,Fn:=y7}))) (fun(x4:Y5)=>(G.V3 y1.2 x2).bind fun y11=>exE y11 (fun y11=>(G8 y11.2 y1.1.n).bind fun y12=>some (qX ((⟨y12,{x4 with Kids:=([y1.1.term,y11.1]:List Y5)},false⟩:Y1),y11.2))))))))
def Q2e (G:Z3i) (p0:Q0) (p1:Y7):Option (Except (Z4×Q0) (Y1×Q0)) :=
  jn (fun kk1=>(idx p1.Kids 1).bind fun u1=>(idx p1.Kids 2).bind fun u2=>kk1 u1 u2) (fun(x1:Y7) (x2:Y7)=>(idx p1.Kids 0).bind fun u3=>(G.U9 p0 u3).bind fun y1=>exE y1 (fun y1=>jn (fun kk2=>(G.Z6 y1.2 x1).bind fun y2=>exE y2 (fun y2=>(G.Z6 y2.2 x2).bind fun y3=>exE y3 (fun y3=>kk2 y3.2 y3.2.t y2.1 y3.1))) (fun(x12:Q0) (x13:Z7) (x14:Y1) (x15:Y1)=>bif ((x14.n == 1)&&(x15.n == 1)) then (some (qX ((⟨1,(⟨9,0,0,0,false,0,false,false,([y1.1,x14.term,x15.term]:List Y5)⟩:Y5),false⟩:Y1),{x12 with t:=x13}))) else (jn (fun kk3=>(X1 ({x12 with t:=x13}) x14.n).bind fun y4=>bif y4 then (bif x14.n == x15.n then (kk3 true) else ((Q9d x2).bind fun y5=>kk3 y5)) else (kk3 false)) (fun(x16:Bool)=>bif x16 then ((B6 ({x12 with t:=x13}) x2 x15 x14.n).bind fun y6=>exC y6 (fun y6=>(idx ([y1.1,x14.term,x15.term]:List Y5) 2).bind fun u6=>(idx ([y1.1,x14.term,x15.term]:List Y5) 2).bind fun u7=>some (qX ((⟨x14.n,(⟨9,0,0,0,false,0,false,true,qP ([y1.1,x14.term,x15.term]:List Y5) (qF 2) y6⟩:Y5),false⟩:Y1),{x12 with t:=x13}))) (fun e3=>some (qK (e3,{x12 with t:=x13})))) else ((X1 ({x12 with t:=x13}) x15.n).bind fun y7=>bif y7 then ((Q9d x1).bind fun y8=>bif y8 then ((Q1l).bind fun y9=>(idx ([y1.1,x14.term,x15.term]:List Y5) 1).bind fun u9=>(idx ([y1.1,x14.term,x15.term]:List Y5) 1).bind fun u10=>some (qX ((⟨x15.n,(⟨9,0,0,0,false,0,false,true,qP ([y1.1,x14.term,x15.term]:List Y5) (qF 1) y9⟩:Y5),false⟩:Y1),{x12 with t:=x13}))) else (bif x14.n != 1 then ((X1 ({x12 with t:=x13}) x14.n).bind fun y10=>bif !y10 then ((X0 x1.Pos 5).bind fun y11=>exC y11 (fun y11=>none) (fun e4=>some (qK (e4,{x12 with t:=x13})))) else ((X0 x2.Pos 5).bind fun y12=>exC y12 (fun y12=>none) (fun e5=>some (qK (e5,{x12 with t:=x13}))))) else ((X0 x2.Pos 5).bind fun y13=>exC y13 (fun y13=>none) (fun e6=>some (qK (e6,{x12 with t:=x13})))))) else (bif x14.n != 1 then ((X1 ({x12 with t:=x13}) x14.n).bind fun y14=>bif !y14 then ((X0 x1.Pos 5).bind fun y15=>exC y15 (fun y15=>none) (fun e7=>some (qK (e7,{x12 with t:=x13})))) else ((X0 x2.Pos 5).bind fun y16=>exC y16 (fun y16=>none) (fun e8=>some (qK (e8,{x12 with t:=x13}))))) else ((X0 x2.Pos 5).bind fun y17=>exC y17 (fun y17=>none) (fun e9=>some (qK (e9,{x12 with t:=x13})))))))))))
def Q2f (G:Z3i) (p0:Q0) (p1:Y7):Option (Except (Z4×Q0) (Y1×Q0)) :=
  bif decide (p1.Name=([105,110]:List UInt8)) then (some (qX ((⟨1,(⟨12,0,0,0,false,0,false,false,[]⟩:Y5),false⟩:Y1),p0))) else (bif decide (p1.Name=([111,117,116]:List UInt8)) then ((idx p1.Kids 0).bind fun u1=>(G.V3 p0 u1).bind fun y1=>exE y1 (fun y1=>some (qX ((⟨0,(⟨11,0,0,0,false,0,false,false,([y1.1]:List Y5)⟩:Y5),false⟩:Y1),y1.2)))) else (jn (fun kk1=>(O3.isNil p0.fun_).bind fun u3=>bif !u3 then ((O3.get p0.fun_).bind fun u4=>(Q0f u4 p1.Name).bind fun y2=>bif y2.2 then (kk1 false) else (kk1 ((E2 p0.codes p1.Name).isSome))) else (kk1 ((E2 p0.codes p1.Name).isSome))) (fun(x1:Bool)=>bif !x1 then ((X0 p1.Pos 4).bind fun y3=>exC y3 (fun y3=>none) (fun e2=>some (qK (e2,p0)))) else ((idx p0.signs ((E2 p0.codes p1.Name).getD 0)).bind fun u6=>(X1 p0 u6.ret).bind fun y4=>(X5 (fun(x12,x13,x14,x15)=>(bif decide (x12 < (qQ p1.Kids:Int)) then (jn (fun kk2=>(idx p1.Kids x12).bind fun u7=>(G.Z6 ({x14 with t:=x15}) u7).bind fun y5=>exL y5 (fun y5=>bif decide (x12 < (qQ u6.params:Int)) then ((idx u6.params x12).bind fun u8=>(I1 y5.2 u7 y5.1 u8).bind fun y6=>exC y6 (fun y6=>(O8 (qQ x13.Kids+qQ ([y6]:List Y5))).bind fun _=>kk2 ({x13 with Kids:=x13.Kids++([y6]:List Y5)}) y5.2 y5.2.t) (fun e3=>some (Lp.ret (qK (e3,y5.2))))) else (kk2 x13 y5.2 y5.2.t))) (fun(x26:Y5) (x27:Q0) (x28:Z7)=>some (Lp.go (qJ .i64 (x12+1),x26,{x27 with t:=x28},x28)))) else (some (Lp.brk (x12,x13,{x14 with t:=x15},x15))):Option (Lp (Int×Y5×Q0×Z7) (Except (Z4×Q0) (Y1×Q0))))) NN ((0:Int),(⟨10,0,0,(E2 p0.codes p1.Name).getD 0,false,0,false,y4,[]⟩:Y5),p0,p0.t)).bind fun o=>o.thn (fun(x12,x13,x14,x15)=>bif (qQ p1.Kids:Int) != (qQ u6.params:Int) then ((X0 p1.Pos 5).bind fun y7=>exC y7 (fun y7=>none) (fun e5=>some (qK (e5,{x14 with t:=x15})))) else ((G8 ({x14 with t:=x15}) u6.ret).bind fun y8=>some (qX ((⟨y8,x13,false⟩:Y1),{x14 with t:=x15})))) (fun r=>some r)))))
def W5 (G:Z3i) (p0:Q0) (p1:Y7):Option (Except (Z4×Q0) (Y1×Q0)) :=
  (idx p1.Kids 0).bind fun u1=>(G.K7 p0 u1).bind fun y1=>exE y1 (fun y1=>jn (fun kk1=>bif decide (p1.Op=([45,62]:List UInt8)) then ((O9 y1.2 u1.Pos y1.1).bind fun y2=>exC y2 (fun y2=>(M2 ({y2.2 with fun_:=y1.2.fun_}) y2.1.n).bind fun y3=>bif !y3.2 then ((X0 u1.Pos 5).bind fun y4=>exC y4 (fun y4=>none) (fun e1=>some (qK (e1,{y2.2 with fun_:=y1.2.fun_})))) else (kk1 (⟨y3.1,y2.1.term,true⟩:Y1) ({y2.2 with fun_:=y1.2.fun_}) y2.2.t)) (fun e2=>some (qK (e2.1,{e2.2 with fun_:=y1.2.fun_})))) else (kk1 y1.1 y1.2 y1.2.t)) (fun(x10:Y1) (x11:Q0) (x12:Z7)=>jn (fun kk2=>(N6 x12 x10.n).bind fun y5=>kk2 y5.1) (fun(x13:Q8l)=>bif ((!x10.lies) || (x13.Kind != 5)) then ((X0 u1.Pos 5).bind fun y6=>exC y6 (fun y6=>none) (fun e3=>some (qK (e3,{x11 with t:=x12})))) else (jn (fun kk3=>(Q4h x12 x10.n p1.Name).bind fun y7=>kk3 y7.1 y7.2) (fun(x14:K5) (x15:Int)=>(L6 p1.Pos x15).bind fun y8=>exC y8 (fun y8=>jn (fun kk4=>(U8 x12 x14.Type_).bind fun y9=>kk4 (⟨13,0,qJ .u32 x14.At,0,false,y9,false,true,([x10.term]:List Y5)⟩:Y5)) (fun(x16:Y5)=>some (qX ((⟨x14.Type_,x16,true⟩:Y1),{x11 with t:=x12})))) (fun e4=>some (qK (e4,{x11 with t:=x12}))))))))
def Q2a (G:Z3i) (p0:Q0) (p1:Y7):Option (Except (Z4×Q0) (Y1×Q0)) :=
  (idx p1.Kids 0).bind fun u1=>(G.E4 p0 u1).bind fun y1=>exE y1 (fun y1=>jn (fun kk1=>(X1 y1.2 y1.1.n).bind fun y2=>bif y2 then ((M2 y1.2 y1.1.n).bind fun y3=>bif !y3.2 then ((X0 u1.Pos 5).bind fun y4=>exC y4 (fun y4=>none) (fun e1=>some (qK (e1,y1.2)))) else ((U8 y1.2.t y3.1).bind fun y5=>kk1 y5)) else (kk1 (1:Int))) (fun(x1:Int)=>jn (fun kk2=>bif decide (p1.Op=([45,45]:List UInt8)) then (kk2 (qJ .i64 (0 - x1))) else (kk2 x1)) (fun(x2:Int)=>jn (fun kk3=>(U8 y1.2.t y1.1.n).bind fun y6=>(X1 y1.2 y1.1.n).bind fun y7=>kk3 (⟨15,0,qJ .u32 x2,0,false,y6,p1.Kind == 11,y7,([y1.1.term]:List Y5)⟩:Y5)) (fun(x3:Y5)=>(G8 y1.2 y1.1.n).bind fun y8=>some (qX ((⟨y8,x3,false⟩:Y1),y1.2))))))
def Q2d (G:Z3i) (p0:Q0) (p1:Y7):Option (Except (Z4×Q0) (Y1×Q0)) :=
  bif p1.Kind == 1 then (some (qX ((⟨1,(⟨1,0,p1.Num,0,false,0,false,false,[]⟩:Y5),false⟩:Y1),p0))) else (bif p1.Kind == 2 then ((Q5b p0 p1).bind fun y1=>exE y1 (fun y1=>some (qX (y1.1,y1.2)))) else (bif p1.Kind == 3 then ((G.D8 p0 p1).bind fun y2=>exE y2 (fun y2=>some (qX (y2.1,y2.2)))) else (bif p1.Kind == 4 then ((G.D3 p0 p1).bind fun y3=>exE y3 (fun y3=>some (qX (y3.1,y3.2)))) else (bif p1.Kind == 5 then ((G.D4 p0 p1).bind fun y4=>exE y4 (fun y4=>some (qX (y4.1,y4.2)))) else (bif p1.Kind == 6 then ((G.P7 p0 p1).bind fun y5=>exE y5 (fun y5=>some (qX (y5.1,y5.2)))) else (bif p1.Kind == 7 then ((G.P8 p0 p1).bind fun y6=>exE y6 (fun y6=>some (qX (y6.1,y6.2)))) else (bif p1.Kind == 8 then ((idx p1.Kids 0).bind fun u7=>(G.Z6 p0 u7).bind fun y7=>exE y7 (fun y7=>(M2 y7.2 y7.1.n).bind fun y8=>bif !y8.2 then ((idx p1.Kids 0).bind fun u8=>(X0 u8.Pos 5).bind fun y9=>exC y9 (fun y9=>none) (fun e7=>some (qK (e7,y7.2)))) else ((idx p1.Kids 1).bind fun u10=>(G.V3 y7.2 u10).bind fun y10=>exE y10 (fun y10=>(L7 y10.2 y7.1.term y10.1 y8.1 1).bind fun y11=>some (qX ((⟨y8.1,y11,true⟩:Y1),y10.2)))))) else (bif p1.Kind == 9 then ((G.E9 p0 p1).bind fun y12=>exE y12 (fun y12=>some (qX (y12.1,y12.2)))) else (jn (fun kk1=>bif p1.Kind == 10 then (kk1 (p1.Kind == 10)) else (kk1 (p1.Kind == 11))) (fun(x1:Bool)=>bif x1 then ((G.P6 p0 p1).bind fun y13=>exE y13 (fun y13=>some (qX (y13.1,y13.2)))) else ((E8 p0 p1.Pos p1.Type_).bind fun y14=>exC y14 (fun y14=>(U8 y14.2.t y14.1).bind fun y15=>bif y15 == 0 then ((X0 p1.Pos 5).bind fun y16=>exC y16 (fun y16=>none) (fun e12=>some (qK (e12,{y14.2 with fun_:=p0.fun_})))) else ((U8 y14.2.t y14.1).bind fun y17=>some (qX ((⟨1,(⟨1,0,qJ .u32 y17,0,false,0,false,false,[]⟩:Y5),false⟩:Y1),{y14.2 with fun_:=p0.fun_})))) (fun e13=>some (qK (e13.1,{e13.2 with fun_:=p0.fun_}))))))))))))))
def Q0v (G:Z3i) (p0:Q0) (p1:Y7):Option (Except (Z4×Q0) (Y1×Q0)) :=
  (G.K7 p0 p1).bind fun y1=>exE y1 (fun y1=>(O9 y1.2 p1.Pos y1.1).bind fun y2=>exC y2 (fun y2=>some (qX (y2.1,{y2.2 with fun_:=y1.2.fun_}))) (fun e1=>some (qK (e1.1,{e1.2 with fun_:=y1.2.fun_}))))
def I7:Nat→Z3i
  | 0=>⟨fun _ _=>none,fun _ _=>none,fun _ _=>none,fun _ _ _=>none,fun _ _=>none,fun _ _=>none,fun _ _=>none,fun _ _=>none,fun _ _=>none,fun _ _=>none,fun _ _=>none,fun _ _=>none,fun _ _=>none⟩
  | n+1=>⟨Q1b (I7 n),W4 (I7 n),Q0w (I7 n),Q2g (I7 n),Q0a (I7 n),Q0z (I7 n),Q0b (I7 n),Q2e (I7 n),Q2f (I7 n),W5 (I7 n),Q2a (I7 n),Q2d (I7 n),Q0v (I7 n)⟩
def U9 (p0:Q0) (p1:Y7):Option (Except (Z4×Q0) (Y5×Q0)):=(I7 NN).U9 p0 p1
def V3 (p0:Q0) (p1:Y7):Option (Except (Z4×Q0) (Y5×Q0)):=(I7 NN).V3 p0 p1
def D8 (p0:Q0) (p1:Y7):Option (Except (Z4×Q0) (Y1×Q0)):=(I7 NN).D8 p0 p1
def F4 (p0:Q0) (p1:Int) (p2:Y7):Option (Except (Z4×Q0) (Y1×Q0)):=(I7 NN).F4 p0 p1 p2
def D3 (p0:Q0) (p1:Y7):Option (Except (Z4×Q0) (Y1×Q0)):=(I7 NN).D3 p0 p1
def E4 (p0:Q0) (p1:Y7):Option (Except (Z4×Q0) (Y1×Q0)):=(I7 NN).E4 p0 p1
def D4 (p0:Q0) (p1:Y7):Option (Except (Z4×Q0) (Y1×Q0)):=(I7 NN).D4 p0 p1
def P7 (p0:Q0) (p1:Y7):Option (Except (Z4×Q0) (Y1×Q0)):=(I7 NN).P7 p0 p1
def P8 (p0:Q0) (p1:Y7):Option (Except (Z4×Q0) (Y1×Q0)):=(I7 NN).P8 p0 p1
def E9 (p0:Q0) (p1:Y7):Option (Except (Z4×Q0) (Y1×Q0)):=(I7 NN).E9 p0 p1
def P6 (p0:Q0) (p1:Y7):Option (Except (Z4×Q0) (Y1×Q0)):=(I7 NN).P6 p0 p1
def K7 (p0:Q0) (p1:Y7):Option (Except (Z4×Q0) (Y1×Q0)):=(I7 NN).K7 p0 p1
def Z6 (p0:Q0) (p1:Y7):Option (Except (Z4×Q0) (Y1×Q0)):=(I7 NN).Z6 p0 p1

def Q4z (p0:Int):Option (Int) :=
  bif p0 == 1 then (some (0:Int)) else (jn (fun kk1=>bif p0 == 5 then (kk1 (p0 == 5)) else (kk1 (p0 == 17))) (fun(x1:Bool)=>bif x1 then (some (1:Int)) else (jn (fun kk2=>bif p0 == 6 then (kk2 (p0 == 6)) else (bif p0 == 7 then (kk2 (p0 == 7)) else (kk2 (p0 == 8)))) (fun(x2:Bool)=>bif x2 then (some (2:Int)) else (bif p0 == 9 then (some (3:Int)) else (some ((-1):Int)))))))

structure Rec4 where
  E6:Y5→Option (Bool)

def Q3d (G:Rec4) (p0:Y5):Option (Bool) :=
  (Q4z p0.Kind).bind fun y1=>bif (qQ p0.Kids:Int) != y1 then (some false) else ((X5 (fun(x1:Int)=>(bif decide (x1 < (qQ p0.Kids:Int)) then ((idx p0.Kids x1).bind fun u1=>(G.E6 u1).bind fun y2=>bif !y2 then (some (Lp.ret false)) else (some (Lp.go (qJ .i64 (x1+1))))) else (some (Lp.brk x1)):Option (Lp (Int) (Bool)))) NN (0:Int)).bind fun o=>o.thn (fun(x1:Int)=>some true) (fun r=>some r))
def Y4m:Nat→Rec4
  | 0=>⟨fun _=>none⟩
  | n+1=>⟨Q3d (Y4m n)⟩
def E6 (p0:Y5):Option (Bool):=(Y4m NN).E6 p0

def Y6b (p0:Int) (p1:Int):Option (Int) :=
  some (qJ .u32 (p0+p1))

def Y3e (p0:Int) (p1:Int):Option (Int) :=
  some (qJ .u32 (p0 - p1))

def Y6a (p0:Int) (p1:Int):Option (Int) :=
  some (qJ .u32 (p0 * p1))

def Z7p (p0:Int) (p1:Int):Option (Int) :=
  (nz p1).bind fun _=>some (qJ .i64 (Int.tdiv p0 p1))

def Z5y (p0:Int) (p1:Int):Option (Int) :=
  (Z7p (qJ .i64 (qJ .i32 p0)) (qJ .i64 (qJ .i32 p1))).bind fun y1=>some y1

def Y0c (p0:Int) (p1:Int):Option (Int) :=
  bif p1 == 0 then (some (4294967295:Int)) else ((Z5y p0 p1).bind fun y1=>some (qJ .u32 y1))

def Z7o (p0:Int) (p1:Int):Option (Int) :=
  (nz p1).bind fun _=>some (Int.tmod p0 p1)

def Z4a (p0:Int) (p1:Int):Option (Int) :=
  (Z7o (qJ .i64 (qJ .i32 p0)) (qJ .i64 (qJ .i32 p1))).bind fun y1=>some y1

def Y0a (p0:Int) (p1:Int):Option (Int) :=
  bif p1 == 0 then (some p0) else ((Z4a p0 p1).bind fun y1=>some (qJ .u32 y1))

def Z6r (p0:Int) (p1:Int):Option (Int) :=
  (nn (bits .and .u32 p1 31)).bind fun _=>some (qJ .u32 (p0 * 2 ^ (min (qF (bits .and .u32 p1 31)) (IntKind.bits .u32))))

def Z4e (p0:Int) (p1:Int):Option (Int) :=
  (nn (bits .and .u32 p1 31)).bind fun _=>some (qJ .u32 (Int.fdiv (qJ .i32 p0) (2 ^ (min (qF (bits .and .u32 p1 31)) (IntKind.bits .i32)))))

def Q9p (p0:Bool):Option (Int) :=
  bif p0 then (some (1:Int)) else (some (0:Int))

def Y3c (p0:Bool):Option (Int) :=
  bif p0 then (some (1:Int)) else (some (0:Int))

def Z2f (p0:Int) (p1:Int):Option (Int) :=
  (Y3c (decide ((qJ .i32 p0) < (qJ .i32 p1)))).bind fun y1=>some y1

def Z1o (p0:Int) (p1:Int) (p2:Int):Option (Int×Int) :=
  bif p0 == 11 then ((Q9p (p1 == p2)).bind fun y1=>some (y1,(0:Int))) else (bif p0 == 12 then ((Q9p (p1 != p2)).bind fun y2=>some (y2,(0:Int))) else (bif p0 == 13 then ((Z2f p1 p2).bind fun y3=>some (y3,(0:Int))) else (bif p0 == 14 then ((Z2f p2 p1).bind fun y4=>some (y4,(0:Int))) else (bif p0 == 15 then ((Z2f p2 p1).bind fun y5=>some (qJ .u32 (1 - y5),(0:Int))) else (bif p0 == 16 then ((Z2f p1 p2).bind fun y6=>some (qJ .u32 (1 - y6),(0:Int))) else (some ((0:Int),(1:Int))))))))

def Q7d (p0:Int) (p1:Int) (p2:Int):Option (Int×Int) :=
  bif p0 == 1 then ((Y6b p1 p2).bind fun y1=>some (y1,(0:Int))) else (bif p0 == 2 then ((Y3e p1 p2).bind fun y2=>some (y2,(0:Int))) else (bif p0 == 3 then ((Y6a p1 p2).bind fun y3=>some (y3,(0:Int))) else (jn (fun kk1=>bif p0 == 4 then (kk1 (p0 == 4)) else (kk1 (p0 == 5))) (fun(x1:Bool)=>bif x1 then (bif p2 == 0 then (some ((0:Int),(11:Int))) else (bif p0 == 4 then ((Y0c p1 p2).bind fun y4=>some (y4,(0:Int))) else ((Y0a p1 p2).bind fun y5=>some (y5,(0:Int))))) else (bif p0 == 6 then (some (bits .and .u32 p1 p2,(0:Int))) else (bif p0 == 7 then (some (bits .or .u32 p1 p2,(0:Int))) else (bif p0 == 8 then (some (bits .xor .u32 p1 p2,(0:Int))) else (bif p0 == 9 then ((Z6r p1 p2).bind fun y6=>some (y6,(0:Int))) else (bif p0 == 10 then ((Z4e p1 p2).bind fun y7=>some (y7,(0:Int))) else (bif p0 == 17 then ((Y3e 0 p1).bind fun y8=>some (y8,(0:Int))) else (bif p0 == 18 then (some (bits .xor .u32 (if IntKind.signed .u32 then -1 else IntKind.max .u32) p1,(0:Int))) else (bif p0 == 19 then ((Q9p (p1 == 0)).bind fun y9=>some (y9,(0:Int))) else ((Z1o p0 p1 p2).bind fun y10=>some (y10.1,y10.2))))))))))))))

structure Rec5 where
  C3:Y5→Option (Int×Int)

def Z3b (G:Rec5) (p0:Y5):Option (Int×Int) :=
  bif p0.Kind == 1 then (some (p0.Num,(0:Int))) else ((idx p0.Kids 0).bind fun u1=>(G.C3 u1).bind fun y1=>bif y1.2 != 0 then (some ((0:Int),y1.2)) else (jn (fun kk1=>bif p0.Kind == 17 then (some (bits .and .u32 y1.1 255,(0:Int))) else (bif p0.Kind == 5 then ((Q7d p0.Fn y1.1 0).bind fun y2=>some (y2.1,y2.2)) else (bif p0.Kind == 9 then (bif y1.1 != 0 then ((idx p0.Kids 1).bind fun u2=>(G.C3 u2).bind fun y3=>some (y3.1,y3.2)) else ((idx p0.Kids 2).bind fun u3=>(G.C3 u3).bind fun y4=>some (y4.1,y4.2))) else (jn (fun kk2=>bif p0.Kind == 7 then (kk2 (p0.Kind == 7)) else (kk2 (p0.Kind == 8))) (fun(x1:Bool)=>bif x1 then (bif (y1.1 != 0) == (p0.Kind == 8) then ((Q9p (y1.1 != 0)).bind fun y5=>some (y5,(0:Int))) else (kk1 ())) else (kk1 ())))))) (fun(_:Unit)=>(idx p0.Kids 1).bind fun u4=>(G.C3 u4).bind fun y6=>bif y6.2 != 0 then (some ((0:Int),y6.2)) else (bif p0.Kind != 6 then ((Q9p (y6.1 != 0)).bind fun y7=>some (y7,(0:Int))) else ((Q7d p0.Fn y1.1 y6.1).bind fun y8=>some (y8.1,y8.2))))))
def rec5:Nat→Rec5
  | 0=>⟨fun _=>none⟩
  | n+1=>⟨Z3b (rec5 n)⟩
def C3 (p0:Y5):Option (Int×Int):=(rec5 NN).C3 p0

def Z5u (p0:Y5):Option (Int×Int) :=
  (E6 p0).bind fun y1=>bif !y1 then (some ((0:Int),(9:Int))) else ((C3 p0).bind fun y2=>some (y2.1,y2.2))

def Q5c (p0:Q0) (p1:N0) (p2:Int):Option (Except (Z4×Q0) ((List Int)×Q0)) :=
  (U8 p0.t p2).bind fun y1=>(repl y1 0).bind fun u1=>(Q0j p0 p1 p2).bind fun y2=>exC y2 (fun y2=>(X5 (fun(x1,x11,x12,x13)=>(bif decide (x11 < (qQ y2:Int)) then ((idx y2 x11).bind fun u2=>jn (fun kk1=>(Z6 ({x12 with t:=x13}) u2).bind fun y3=>exL y3 (fun y3=>(I0 y3.2 p2).bind fun y4=>(B6 y3.2 u2 y3.1 y4).bind fun y5=>exC y5 (fun y5=>kk1 y3.2 y3.2.t y5) (fun e2=>some (Lp.ret (qK (e2,y3.2)))))) (fun(x23:Q0) (x24:Z7) (x25:Y5)=>(Z5u x25).bind fun y6=>(L6 u2.Pos y6.2).bind fun y7=>exC y7 (fun y7=>(I0 ({x23 with t:=x24}) p2).bind fun y8=>(R1 ({x23 with t:=x24}) y8).bind fun y9=>(X5 (fun(x26,x27)=>(bif decide (x27 < y9) then ((nn (qJ .i64 (8 * x27))).bind fun _=>(idx x26 (qJ .i64 ((qJ .i64 (y9 * x11))+x27))).bind fun u5=>(idx x26 (qJ .i64 ((qJ .i64 (y9 * x11))+x27))).bind fun u6=>some (Lp.go (qP x26 (qF (qJ .i64 ((qJ .i64 (y9 * x11))+x27))) (qJ .u8 (Int.fdiv y6.1 (2 ^ (min (qF (qJ .i64 (8 * x27))) (IntKind.bits .u32))))),qJ .i64 (x27+1)))) else (some (Lp.brk (x26,x27))):Option (Lp ((List Int)×Int) (Unit)))) NN (x1,(0:Int))).bind fun o=>o.thn (fun(x26,x27)=>some (Lp.go (x26,qJ .i64 (x11+1),{x23 with t:=x24},x24))) (fun _=>none)) (fun e3=>some (Lp.ret (qK (e3,{x23 with t:=x24})))))) else (some (Lp.brk (x1,x11,{x12 with t:=x13},x13))):Option (Lp ((List Int)×Int×Q0×Z7) (Except (Z4×Q0) ((List Int)×Q0))))) NN (u1,(0:Int),p0,p0.t)).bind fun o=>o.thn (fun(x1,x11,x12,x13)=>some (qX (x1,{x12 with t:=x13}))) (fun r=>some r)) (fun e4=>some (qK (e4,p0)))

def Q2c (p0:Q0) (p1:N0):Option (Except (Z4×Q0) (Q0)) :=
  (Q0g p0 p1).bind fun y1=>exC y1 (fun y1=>(Q3r ({y1.2 with fun_:=p0.fun_}) p1.Pos p1.Name).bind fun y2=>exC y2 (fun y2=>(Q1g ({y2 with fun_:=p0.fun_}) p1.Name y1.1).bind fun y3=>(O8 (qQ y2.u.Globals+qQ ([y3]:List Z3n))).bind fun _=>(O8 (qQ y2.gtypes+qQ ([y1.1]:List Int))).bind fun _=>(Q5c ({y2 with u := {y2.u with Globals:=y2.u.Globals++([y3]:List Z3n)},gtypes:=y2.gtypes++([y1.1]:List Int),fun_:=p0.fun_}) p1 y1.1).bind fun y4=>exE y4 (fun y4=>(O8 (qQ y4.2.u.Data+qQ ([y4.1]:List (List Int)))).bind fun _=>some (qX ({y4.2 with u := {y4.2.u with Data:=y4.2.u.Data++([y4.1]:List (List Int))}})))) (fun e2=>some (qK (e2.1,{e2.2 with fun_:=p0.fun_})))) (fun e3=>some (qK (e3.1,{e3.2 with fun_:=p0.fun_})))

def H5 (p0:Q0) (p1:Pos) (p2:List UInt8):Option (Except (Z4×Q0) (Q0)) :=
  bif (((E2 p0.globals p2).isSome) || ((E2 p0.codes p2).isSome)) then ((X0 p1 6).bind fun y1=>exC y1 (fun y1=>none) (fun e1=>some (qK (e1,p0)))) else (bif (Z3k p0.codes:Int) == 200 then ((X0 p1 2).bind fun y2=>exC y2 (fun y2=>none) (fun e2=>some (qK (e2,p0)))) else ((p0.codes).bind fun u3=>some (qX ({p0 with codes:=(some (Q9k u3 p2 (Z3k p0.codes:Int)))}))))

def Q2b (p0:Q0) (p1:Q0n):Option (Except (Z4×Q0) (Q0)) :=
  (E8 p0 p1.Pos p1.Ret).bind fun y1=>exE y1 (fun y1=>bif y1.1 != 0 then ((P3 y1.2.t y1.1).bind fun y2=>bif !y2 then ((X0 p1.Pos 5).bind fun y3=>exC y3 (fun y3=>none) (fun e1=>some (qK (e1,y1.2)))) else ((H5 y1.2 p1.Pos p1.Name).bind fun y4=>exE y4 (fun y4=>bif decide (6 < (qQ p1.Params:Int)) then ((X0 p1.Pos 2).bind fun y5=>exC y5 (fun y5=>none) (fun e2=>some (qK (e2,y4)))) else ((X5 (fun(x10,x11,x12,x13)=>(bif decide (x10 < (qQ p1.Params:Int)) then ((idx p1.Params x10).bind fun u3=>(E8 ({x12 with t:=x13}) u3.Pos u3.Type_).bind fun y6=>exL y6 (fun y6=>(P3 y6.2.t y6.1).bind fun y7=>bif !y7 then ((X0 u3.Pos 5).bind fun y8=>exC y8 (fun y8=>none) (fun e3=>some (Lp.ret (qK (e3,y6.2))))) else ((O8 (qQ x11.params+qQ ([y6.1]:List Int))).bind fun _=>some (Lp.go (qJ .i64 (x10+1),(⟨x11.ret,x11.params++([y6.1]:List Int)⟩:M4),y6.2,y6.2.t))))) else (some (Lp.brk (x10,x11,{x12 with t:=x13},x13))):Option (Lp (Int×M4×Q0×Z7) (Except (Z4×Q0) (Q0))))) NN ((0:Int),(⟨y1.1,[]⟩:M4),y4,y4.t)).bind fun o=>o.thn (fun(x10,x11,x12,x13)=>(O8 (qQ x12.signs+qQ ([x11]:List M4))).bind fun _=>(O8 (qQ x12.u.Codes+qQ ([(⟨p1.Name,y1.1 == 0,(qQ p1.Params:Int),[],[]⟩:Q5s)]:List Q5s))).bind fun _=>some (qX ({x12 with t:=x13,u := {x12.u with Codes:=x12.u.Codes++([(⟨p1.Name,y1.1 == 0,(qQ p1.Params:Int),[],[]⟩:Q5s)]:List Q5s)},signs:=x12.signs++([x11]:List M4)}))) (fun r=>some r))))) else ((H5 y1.2 p1.Pos p1.Name).bind fun y9=>exE y9 (fun y9=>bif decide (6 < (qQ p1.Params:Int)) then ((X0 p1.Pos 2).bind fun y10=>exC y10 (fun y10=>none) (fun e6=>some (qK (e6,y9)))) else ((X5 (fun(x23,x24,x25,x26)=>(bif decide (x23 < (qQ p1.Params:Int)) then ((idx p1.Params x23).bind fun u8=>(E8 ({x25 with t:=x26}) u8.Pos u8.Type_).bind fun y11=>exL y11 (fun y11=>(P3 y11.2.t y11.1).bind fun y12=>bif !y12 then ((X0 u8.Pos 5).bind fun y13=>exC y13 (fun y13=>none) (fun e7=>some (Lp.ret (qK (e7,y11.2))))) else ((O8 (qQ x24.params+qQ ([y11.1]:List Int))).bind fun _=>some (Lp.go (qJ .i64 (x23+1),(⟨x24.ret,x24.params++([y11.1]:List Int)⟩:M4),y11.2,y11.2.t))))) else (some (Lp.brk (x23,x24,{x25 with t:=x26},x26))):Option (Lp (Int×M4×Q0×Z7) (Except (Z4×Q0) (Q0))))) NN ((0:Int),(⟨y1.1,[]⟩:M4),y9,y9.t)).bind fun o=>o.thn (fun(x23,x24,x25,x26)=>(O8 (qQ x25.signs+qQ ([x24]:List M4))).bind fun _=>(O8 (qQ x25.u.Codes+qQ ([(⟨p1.Name,y1.1 == 0,(qQ p1.Params:Int),[],[]⟩:Q5s)]:List Q5s))).bind fun _=>some (qX ({x25 with t:=x26,u := {x25.u with Codes:=x25.u.Codes++([(⟨p1.Name,y1.1 == 0,(qQ p1.Params:Int),[],[]⟩:Q5s)]:List Q5s)},signs:=x25.signs++([x24]:List M4)}))) (fun r=>some r)))))

def Q1h (p0:Q0) (p1:List Q0n):Option (Except (Z4×Q0) (Q0)) :=
  bif !((E2 p0.codes ([109,97,105,110]:List UInt8)).isSome) then ((X0 (⟨1,1⟩:Pos) 4).bind fun y1=>exC y1 (fun y1=>none) (fun e1=>some (qK (e1,p0)))) else ((idx p0.signs ((E2 p0.codes ([109,97,105,110]:List UInt8)).getD 0)).bind fun u2=>bif decide (0 < (qQ u2.params:Int)) then ((idx p1 ((E2 p0.codes ([109,97,105,110]:List UInt8)).getD 0)).bind fun u6=>(X0 u6.Pos 5).bind fun y3=>exC y3 (fun y3=>none) (fun e3=>some (qK (e3,p0)))) else ((idx p0.signs ((E2 p0.codes ([109,97,105,110]:List UInt8)).getD 0)).bind fun u3=>bif u3.ret != 1 then ((idx p1 ((E2 p0.codes ([109,97,105,110]:List UInt8)).getD 0)).bind fun u4=>(X0 u4.Pos 5).bind fun y2=>exC y2 (fun y2=>none) (fun e2=>some (qK (e2,p0)))) else (some (qX ({p0 with u := {p0.u with Main:=(E2 p0.codes ([109,97,105,110]:List UInt8)).getD 0}})))))

def O2 (p0:Q0) (p1:Pos) (p2:List UInt8) (p3:Int):Option (Except (Z4×Q0) (Int×Q0)) :=
  (O3.get p0.fun_).bind fun u1=>(idx u1.scopes (qJ .i64 ((qQ u1.scopes:Int) - 1))).bind fun u2=>bif (E2 u2 p2).isSome then ((X0 p1 6).bind fun y1=>exC y1 (fun y1=>none) (fun e1=>some (qK (e1,p0)))) else (bif (qQ u1.slots:Int) == 200 then ((X0 p1 2).bind fun y2=>exC y2 (fun y2=>none) (fun e2=>some (qK (e2,p0)))) else ((u2).bind fun u5=>(Q1g ({p0 with fun_:=(O3.some ({u1 with scopes:=qP u1.scopes (qF (qJ .i64 ((qQ u1.scopes:Int) - 1))) (some (Q9k u5 p2 (qQ u1.slots:Int)))}))}) p2 p3).bind fun y3=>(O8 (qQ u1.slots+qQ ([y3]:List Z3n))).bind fun _=>(O8 (qQ u1.types+qQ ([p3]:List Int))).bind fun _=>some (qX (qJ .i64 ((qQ (u1.slots++([y3]:List Z3n)):Int) - 1),{p0 with fun_:=(O3.some ({u1 with slots:=u1.slots++([y3]:List Z3n),types:=u1.types++([p3]:List Int),scopes:=qP u1.scopes (qF (qJ .i64 ((qQ u1.scopes:Int) - 1))) (some (Q9k u5 p2 (qQ u1.slots:Int)))}))}))))

def L8 (p0:Q0) (p1:Y7):Option (Except (Z4×Q0) (U7×Q0)) :=
  (K7 p0 p1).bind fun y1=>exE y1 (fun y1=>jn (fun kk1=>bif y1.1.lies then ((P3 y1.2.t y1.1.n).bind fun y2=>bif y2 then ((O9 y1.2 p1.Pos y1.1).bind fun y3=>exC y3 (fun y3=>kk1 y3.1 ({y3.2 with fun_:=y1.2.fun_}) y3.2.t) (fun e1=>some (qK (e1.1,{e1.2 with fun_:=y1.2.fun_})))) else (kk1 y1.1 y1.2 y1.2.t)) else (kk1 y1.1 y1.2 y1.2.t)) (fun(x10:Y1) (x11:Q0) (x12:Z7)=>some (qX ((⟨1,([x10.term]:List Y5),[],false,[],[],[],0⟩:U7),{x11 with t:=x12}))))

def A5 (p0:Y5) (p1:Y5) (p2:Q0) (p3:Int) (p4:List U7):Option ((List U7)) :=
  jn (fun kk1=>(U8 p2.t p3).bind fun y1=>(X1 p2 p3).bind fun y2=>kk1 (⟨4,0,0,0,false,y1,false,y2,([p0,p1]:List Y5)⟩:Y5)) (fun(x1:Y5)=>(O8 (qQ p4+qQ ([(⟨0,[],[],false,[],[],[],0⟩:U7)]:List U7))).bind fun _=>(idx (p4++([(⟨0,[],[],false,[],[],[],0⟩:U7)]:List U7)) (qQ p4:Int)).bind fun u1=>some (qP (p4++([(⟨0,[],[],false,[],[],[],0⟩:U7)]:List U7)) (qF (qQ p4:Int)) (⟨1,([x1]:List Y5),[],false,[],[],[],0⟩:U7)))

def W2 (p0:Q0) (p1:N0):Option (Except (Z4×Q0) ((List U7)×Q0)) :=
  (Q0g p0 p1).bind fun y1=>exC y1 (fun y1=>(O2 ({y1.2 with fun_:=p0.fun_}) p1.Pos p1.Name y1.1).bind fun y2=>exE y2 (fun y2=>(I0 y2.2 y1.1).bind fun y3=>(N6 y2.2.t y1.1).bind fun y4=>(Q0j y2.2 p1 y1.1).bind fun y5=>exC y5 (fun y5=>bif (qQ y5:Int) == 0 then (some (qX (([(⟨9,[],[],false,[],[],[],y2.1⟩:U7)]:List U7),y2.2))) else (bif y4.1.Kind != 4 then ((idx y5 0).bind fun u1=>(idx y5 0).bind fun u2=>(Z6 y2.2 u2).bind fun y6=>exE y6 (fun y6=>(B6 y6.2 u1 y6.1 y1.1).bind fun y7=>exC y7 (fun y7=>(A5 (⟨2,0,0,y2.1,false,0,false,true,[]⟩:Y5) y7 y6.2 y3 ([(⟨9,[],[],false,[],[],[],y2.1⟩:U7)]:List U7)).bind fun y8=>some (qX (y8,y6.2))) (fun e1=>some (qK (e1,y6.2))))) else ((X5 (fun(x11,x12,x13,x14)=>(bif decide (x11 < y4.1.Len) then ((X1 ({x13 with t:=x14}) y3).bind fun y9=>jn (fun kk1=>bif decide (x11 < (qQ y5:Int)) then ((idx y5 x11).bind fun u5=>(idx y5 x11).bind fun u6=>(Z6 ({x13 with t:=x14}) u6).bind fun y10=>exL y10 (fun y10=>(B6 y10.2 u5 y10.1 y3).bind fun y11=>exC y11 (fun y11=>kk1 y11 y10.2 y10.2.t) (fun e3=>some (Lp.ret (qK (e3,y10.2)))))) else (kk1 (⟨1,0,0,0,false,0,false,y9,[]⟩:Y5) ({x13 with t:=x14}) x14)) (fun(x24:Y5) (x25:Q0) (x26:Z7)=>(L7 ({x25 with t:=x26}) (⟨2,0,0,y2.1,false,0,false,true,[]⟩:Y5) (⟨1,0,qJ .u32 x11,0,false,0,false,false,[]⟩:Y5) y3 1).bind fun y12=>(A5 y12 x24 ({x25 with t:=x26}) y3 x12).bind fun y13=>some (Lp.go (qJ .i64 (x11+1),y13,{x25 with t:=x26},x26)))) else (some (Lp.brk (x11,x12,{x13 with t:=x14},x14))):Option (Lp (Int×(List U7)×Q0×Z7) (Except (Z4×Q0) ((List U7)×Q0))))) NN ((0:Int),([(⟨9,[],[],false,[],[],[],y2.1⟩:U7)]:List U7),y2.2,y2.2.t)).bind fun o=>o.thn (fun(x11,x12,x13,x14)=>some (qX (x12,{x13 with t:=x14}))) (fun r=>some r)))) (fun e5=>some (qK (e5,y2.2))))) (fun e7=>some (qK (e7.1,{e7.2 with fun_:=p0.fun_})))

def W3 (p0:Q0) (p1:Int) (p2:Y7):Option (Except (Z4×Q0) (U7×Q0)) :=
  (U9 p0 p2).bind fun y1=>exE y1 (fun y1=>some (qX ((⟨p1,([y1.1]:List Y5),[],false,[],[],[],0⟩:U7),y1.2)))

def Q2h (p0:Q0) (p1:F6):Option (Except (Z4×Q0) (U7×Q0)) :=
  bif (qQ p1.A:Int) == 0 then ((O3.get p0.fun_).bind fun u1=>bif u1.ret != 0 then ((X0 p1.Pos 5).bind fun y1=>exC y1 (fun y1=>none) (fun e1=>some (qK (e1,p0)))) else (some (qX ((⟨5,[],[],false,[],[],[],0⟩:U7),p0)))) else ((idx p1.A 0).bind fun u3=>(Z6 p0 u3).bind fun y2=>exE y2 (fun y2=>(O3.get y2.2.fun_).bind fun u4=>bif u4.ret == 0 then ((X0 u3.Pos 5).bind fun y3=>exC y3 (fun y3=>none) (fun e2=>some (qK (e2,y2.2)))) else ((I1 ({y2.2 with fun_:=(O3.some u4)}) u3 y2.1 u4.ret).bind fun y4=>exC y4 (fun y4=>some (qX ((⟨5,([y4]:List Y5),[],false,[],[],[],0⟩:U7),y2.2))) (fun e3=>some (qK (e3,y2.2))))))

structure Y4i where
  V6:Q0→(List F6)→Option (Except (Z4×Q0) ((List U7)×Q0))
  J5:Q0→(List F6)→Option (Except (Z4×Q0) ((List U7)×Q0))
  B8:Q0→F6→Option (Except (Z4×Q0) ((List U7)×Q0))
  B7:Q0→F6→Option (Except (Z4×Q0) (U7×Q0))
  M1:Q0→F6→Option (Except (Z4×Q0) ((List U7)×Q0))
  E1:Q0→(List F6)→Option (Except (Z4×Q0) ((List U7)×Q0))

def Q1a (G:Y4i) (p0:Q0) (p1:List F6):Option (Except (Z4×Q0) ((List U7)×Q0)) :=
  (O3.get p0.fun_).bind fun u1=>(O8 (qQ u1.scopes+1)).bind fun _=>(G.E1 ({p0 with fun_:=(O3.some ({u1 with scopes:=u1.scopes ++ [(some [])]}))}) p1).bind fun y1=>exE y1 (fun y1=>(O3.get y1.2.fun_).bind fun u2=>(sub u2.scopes 0 (qJ .i64 ((qQ u2.scopes:Int) - 1))).bind fun u3=>some (qX (y1.1,{y1.2 with fun_:=(O3.some ({u2 with scopes:=u3}))})))
def W6 (G:Y4i) (p0:Q0) (p1:List F6):Option (Except (Z4×Q0) ((List U7)×Q0)) :=
  (O3.get p0.fun_).bind fun u1=>(G.V6 ({p0 with fun_:=(O3.some ({u1 with loops:=qJ .i64 (u1.loops+1),breaks:=qJ .i64 (u1.breaks+1)}))}) p1).bind fun y1=>exE y1 (fun y1=>(O3.get y1.2.fun_).bind fun u2=>some (qX (y1.1,{y1.2 with fun_:=(O3.some ({u2 with loops:=qJ .i64 (u2.loops - 1),breaks:=qJ .i64 (u2.breaks - 1)}))})))
def Q0c (G:Y4i) (p0:Q0) (p1:F6):Option (Except (Z4×Q0) ((List U7)×Q0)) :=
  (X5 (fun(x1,x11,x12,x13)=>(bif decide (x11 < (qQ p1.A:Int)) then ((idx p1.A x11).bind fun u1=>(L8 ({x12 with t:=x13}) u1).bind fun y1=>exL y1 (fun y1=>(O8 (qQ x1+qQ ([y1.1]:List U7))).bind fun _=>some (Lp.go (x1++([y1.1]:List U7),qJ .i64 (x11+1),y1.2,y1.2.t)))) else (some (Lp.brk (x1,x11,{x12 with t:=x13},x13))):Option (Lp ((List U7)×Int×Q0×Z7) (Except (Z4×Q0) ((List U7)×Q0))))) NN ([],(0:Int),p0,p0.t)).bind fun o=>o.thn (fun(x1,x11,x12,x13)=>(X5 (fun(x24,x25,x26,x27)=>(bif decide (x24 < (qQ p1.B:Int)) then ((idx p1.B x24).bind fun u3=>(U9 ({x26 with t:=x27}) u3).bind fun y2=>exL y2 (fun y2=>(O8 (qQ x25.A+qQ ([y2.1]:List Y5))).bind fun _=>some (Lp.go (qJ .i64 (x24+1),{x25 with A:=x25.A++([y2.1]:List Y5)},y2.2,y2.2.t)))) else (some (Lp.brk (x24,x25,{x26 with t:=x27},x27))):Option (Lp (Int×U7×Q0×Z7) (Except (Z4×Q0) ((List U7)×Q0))))) NN ((0:Int),(⟨3,[],[],false,[],[],[],0⟩:U7),{x12 with t:=x13},x13)).bind fun o=>o.thn (fun(x24,x25,x26,x27)=>(X5 (fun(x38,x39,x40,x41)=>(bif decide (x38 < (qQ p1.C:Int)) then ((idx p1.C x38).bind fun u5=>(L8 ({x40 with t:=x41}) u5).bind fun y3=>exL y3 (fun y3=>some (Lp.go (qJ .i64 (x38+1),{x39 with Post:=y3.1.A},y3.2,y3.2.t)))) else (some (Lp.brk (x38,x39,{x40 with t:=x41},x41))):Option (Lp (Int×U7×Q0×Z7) (Except (Z4×Q0) ((List U7)×Q0))))) NN ((0:Int),x25,{x26 with t:=x27},x27)).bind fun o=>o.thn (fun(x38,x39,x40,x41)=>(G.J5 ({x40 with t:=x41}) p1.Body).bind fun y4=>exE y4 (fun y4=>(O8 (qQ x1+qQ ([{x39 with Body:=y4.1}]:List U7))).bind fun _=>some (qX (x1++([{x39 with Body:=y4.1}]:List U7),y4.2)))) (fun r=>some r)) (fun r=>some r)) (fun r=>some r)
def W8 (G:Y4i) (p0:Q0) (p1:F6):Option (Except (Z4×Q0) (U7×Q0)) :=
  (idx p1.A 0).bind fun u1=>(V3 p0 u1).bind fun y1=>exE y1 (fun y1=>(O3.get y1.2.fun_).bind fun u2=>(X5 (fun(x2,x13,x14,x15,x16,x17)=>(bif decide (x14 < (qQ p1.Cases:Int)) then ((idx p1.Cases x14).bind fun u3=>bif (u3.Default&&x13) then ((X0 u3.Pos 6).bind fun y5=>exC y5 (fun y5=>none) (fun e4=>some (Lp.ret (qK (e4,{x16 with t:=x17}))))) else (bif !u3.Default then (bif (E2 x2 u3.Num).getD false then ((X0 u3.Pos 6).bind fun y2=>exC y2 (fun y2=>none) (fun e1=>some (Lp.ret (qK (e1,{x16 with t:=x17}))))) else (jn (fun kk1=>bif u3.Default then (kk1 x2 true) else ((x2).bind fun u5=>kk1 (some (Q9k u5 u3.Num true)) x13)) (fun(x18:Option (List (Int×Bool))) (x19:Bool)=>(G.V6 ({x16 with t:=x17}) u3.Body).bind fun y3=>exL y3 (fun y3=>(O8 (qQ x15.Cases+qQ ([{u3 with Body:=y3.1}]:List Z3z))).bind fun _=>some (Lp.go (x18,x19,qJ .i64 (x14+1),{x15 with Cases:=x15.Cases++([{u3 with Body:=y3.1}]:List Z3z)},y3.2,y3.2.t)))))) else (jn (fun kk2=>bif u3.Default then (kk2 x2 true) else ((x2).bind fun u7=>kk2 (some (Q9k u7 u3.Num true)) x13)) (fun(x20:Option (List (Int×Bool))) (x21:Bool)=>(G.V6 ({x16 with t:=x17}) u3.Body).bind fun y4=>exL y4 (fun y4=>(O8 (qQ x15.Cases+qQ ([{u3 with Body:=y4.1}]:List Z3z))).bind fun _=>some (Lp.go (x20,x21,qJ .i64 (x14+1),{x15 with Cases:=x15.Cases++([{u3 with Body:=y4.1}]:List Z3z)},y4.2,y4.2.t))))))) else (some (Lp.brk (x2,x13,x14,x15,{x16 with t:=x17},x17))):Option (Lp ((Option (List (Int×Bool)))×Bool×Int×U7×Q0×Z7) (Except (Z4×Q0) (U7×Q0))))) NN ((some []),false,(0:Int),(⟨4,([y1.1]:List Y5),[],false,[],[],[],0⟩:U7),{y1.2 with fun_:=(O3.some ({u2 with breaks:=qJ .i64 (u2.breaks+1)}))},y1.2.t)).bind fun o=>o.thn (fun(x2,x13,x14,x15,x16,x17)=>(O3.get x16.fun_).bind fun u10=>some (qX (x15,{x16 with t:=x17,fun_:=(O3.some ({u10 with breaks:=qJ .i64 (u10.breaks - 1)}))}))) (fun r=>some r))
def Q1z (G:Y4i) (p0:Q0) (p1:F6):Option (Except (Z4×Q0) ((List U7)×Q0)) :=
  bif p1.Kind == 1 then ((idx p1.A 0).bind fun u1=>(L8 p0 u1).bind fun y1=>exE y1 (fun y1=>some (qX (([y1.1]:List U7),y1.2)))) else (bif p1.Kind == 2 then ((idx p1.Var 0).bind fun u3=>(W2 p0 u3).bind fun y2=>exE y2 (fun y2=>some (qX (y2.1,y2.2)))) else (bif p1.Kind == 3 then ((idx p1.A 0).bind fun u5=>(W3 p0 2 u5).bind fun y3=>exE y3 (fun y3=>(G.V6 y3.2 p1.Body).bind fun y4=>exE y4 (fun y4=>(G.V6 y4.2 p1.Else).bind fun y5=>exE y5 (fun y5=>some (qX (([{y3.1 with Body:=y4.1,Else:=y5.1}]:List U7),y5.2)))))) else (bif p1.Kind == 4 then ((idx p1.A 0).bind fun u9=>(W3 p0 3 u9).bind fun y6=>exE y6 (fun y6=>(G.J5 y6.2 p1.Body).bind fun y7=>exE y7 (fun y7=>some (qX (([{y6.1 with Body:=y7.1}]:List U7),y7.2))))) else (bif p1.Kind == 5 then ((G.J5 p0 p1.Body).bind fun y8=>exE y8 (fun y8=>(idx p1.A 0).bind fun u12=>(W3 y8.2 3 u12).bind fun y9=>exE y9 (fun y9=>some (qX (([{y9.1 with First:=true,Body:=y8.1}]:List U7),y9.2))))) else (bif p1.Kind == 6 then ((G.B8 p0 p1).bind fun y10=>exE y10 (fun y10=>some (qX (([(⟨8,[],[],false,y10.1,[],[],0⟩:U7)]:List U7),y10.2)))) else (bif p1.Kind == 7 then ((G.B7 p0 p1).bind fun y11=>exE y11 (fun y11=>some (qX (([y11.1]:List U7),y11.2)))) else (bif p1.Kind == 8 then ((Q2h p0 p1).bind fun y12=>exE y12 (fun y12=>some (qX (([y12.1]:List U7),y12.2)))) else (bif p1.Kind == 11 then ((G.V6 p0 p1.Body).bind fun y13=>exE y13 (fun y13=>some (qX (([(⟨8,[],[],false,y13.1,[],[],0⟩:U7)]:List U7),y13.2)))) else (bif p1.Kind == 9 then ((O3.get p0.fun_).bind fun u19=>bif u19.breaks == 0 then ((X0 p1.Pos 9).bind fun y14=>exC y14 (fun y14=>none) (fun e14=>some (qK (e14,p0)))) else (some (qX (([(⟨6,[],[],false,[],[],[],0⟩:U7)]:List U7),p0)))) else (bif p1.Kind == 10 then ((O3.get p0.fun_).bind fun u21=>bif u21.loops == 0 then ((X0 p1.Pos 9).bind fun y15=>exC y15 (fun y15=>none) (fun e15=>some (qK (e15,p0)))) else (some (qX (([(⟨7,[],[],false,[],[],[],0⟩:U7)]:List U7),p0)))) else (some (qX ([],p0)))))))))))))
def Q2i (G:Y4i) (p0:Q0) (p1:List F6):Option (Except (Z4×Q0) ((List U7)×Q0)) :=
  (X5 (fun(x1,x11,x12,x13)=>(bif decide (x11 < (qQ p1:Int)) then ((idx p1 x11).bind fun u1=>(G.M1 ({x12 with t:=x13}) u1).bind fun y1=>exL y1 (fun y1=>(O8 (qQ x1+qQ y1.1)).bind fun _=>some (Lp.go (x1++y1.1,qJ .i64 (x11+1),y1.2,y1.2.t)))) else (some (Lp.brk (x1,x11,{x12 with t:=x13},x13))):Option (Lp ((List U7)×Int×Q0×Z7) (Except (Z4×Q0) ((List U7)×Q0))))) NN ([],(0:Int),p0,p0.t)).bind fun o=>o.thn (fun(x1,x11,x12,x13)=>some (qX (x1,{x12 with t:=x13}))) (fun r=>some r)
def Z1j:Nat→Y4i
  | 0=>⟨fun _ _=>none,fun _ _=>none,fun _ _=>none,fun _ _=>none,fun _ _=>none,fun _ _=>none⟩
  | n+1=>⟨Q1a (Z1j n),W6 (Z1j n),Q0c (Z1j n),W8 (Z1j n),Q1z (Z1j n),Q2i (Z1j n)⟩
def V6 (p0:Q0) (p1:List F6):Option (Except (Z4×Q0) ((List U7)×Q0)):=(Z1j NN).V6 p0 p1
def J5 (p0:Q0) (p1:List F6):Option (Except (Z4×Q0) ((List U7)×Q0)):=(Z1j NN).J5 p0 p1
def B8 (p0:Q0) (p1:F6):Option (Except (Z4×Q0) ((List U7)×Q0)):=(Z1j NN).B8 p0 p1
def B7 (p0:Q0) (p1:F6):Option (Except (Z4×Q0) (U7×Q0)):=(Z1j NN).B7 p0 p1
def M1 (p0:Q0) (p1:F6):Option (Except (Z4×Q0) ((List U7)×Q0)):=(Z1j NN).M1 p0 p1
def E1 (p0:Q0) (p1:List F6):Option (Except (Z4×Q0) ((List U7)×Q0)):=(Z1j NN).E1 p0 p1

def Q5d (p0:Q0) (p1:Int) (p2:Q0n):Option (Except (Z4×Q0) (Q0)) :=
  (idx p0.signs p1).bind fun u1=>(X5 (fun(x2,x10,x11)=>(bif decide (x10 < (qQ p2.Params:Int)) then ((idx p2.Params x10).bind fun u2=>(idx x11.signs p1).bind fun u3=>(idx u3.params x10).bind fun u4=>(O2 ({x11 with t:=(⟨x2⟩:Z7)}) u2.Pos u2.Name u4).bind fun y1=>exL y1 (fun y1=>some (Lp.go (y1.2.t.list,qJ .i64 (x10+1),y1.2)))) else (some (Lp.brk (x2,x10,{x11 with t:=(⟨x2⟩:Z7)}))):Option (Lp ((List K0)×Int×Q0) (Except (Z4×Q0) (Q0))))) NN (p0.t.list,(0:Int),{p0 with fun_:=(O3.some (⟨u1.ret,[],[],([(some [])]:List (Option (List ((List UInt8)×Int)))),0,0⟩:J7))})).bind fun o=>o.thn (fun(x2,x10,x11)=>(E1 ({x11 with t:=(⟨x2⟩:Z7)}) p2.Body).bind fun y2=>exE y2 (fun y2=>(O3.get y2.2.fun_).bind fun u6=>(idx y2.2.u.Codes p1).bind fun u7=>(idx y2.2.u.Codes p1).bind fun u8=>(idx (qP y2.2.u.Codes (qF p1) ({u8 with Body:=y2.1})) p1).bind fun u9=>(idx (qP y2.2.u.Codes (qF p1) ({u8 with Body:=y2.1})) p1).bind fun u10=>some (qX ({y2.2 with u := {y2.2.u with Codes:=qP (qP y2.2.u.Codes (qF p1) ({u8 with Body:=y2.1})) (qF p1) ({u10 with Slots:=u6.slots})},fun_:=O3.dead})))) (fun r=>some r)

def Q6v (p0:Q0) (p1:E3):Option (Except (Z4×Q0) (Q0)) :=
  (Q0x p0 p1.Structs).bind fun y1=>exC y1 (fun y1=>(X5 (fun(x10,x11,x12)=>(bif decide (x10 < (qQ p1.Globals:Int)) then ((idx p1.Globals x10).bind fun u1=>(Q2c ({x11 with t:=x12}) u1).bind fun y2=>exL y2 (fun y2=>some (Lp.go (qJ .i64 (x10+1),y2,y2.t)))) else (some (Lp.brk (x10,{x11 with t:=x12},x12))):Option (Lp (Int×Q0×Z7) (Except (Z4×Q0) (Q0))))) NN ((0:Int),{y1 with fun_:=p0.fun_},y1.t)).bind fun o=>o.thn (fun(x10,x11,x12)=>(X5 (fun(x22,x23,x24)=>(bif decide (x22 < (qQ p1.Funcs:Int)) then ((idx p1.Funcs x22).bind fun u3=>(Q2b ({x23 with t:=x24}) u3).bind fun y3=>exC y3 (fun y3=>some (Lp.go (qJ .i64 (x22+1),{y3 with fun_:=x23.fun_},y3.t))) (fun e2=>some (Lp.ret (qK (e2.1,{e2.2 with fun_:=x23.fun_}))))) else (some (Lp.brk (x22,{x23 with t:=x24},x24))):Option (Lp (Int×Q0×Z7) (Except (Z4×Q0) (Q0))))) NN ((0:Int),{x11 with t:=x12},x12)).bind fun o=>o.thn (fun(x22,x23,x24)=>(Q1h ({x23 with t:=x24}) p1.Funcs).bind fun y4=>exC y4 (fun y4=>(X5 (fun(x34,x35,x36)=>(bif decide (x34 < (qQ p1.Funcs:Int)) then ((idx p1.Funcs x34).bind fun u5=>(Q5d ({x35 with t:=x36}) x34 u5).bind fun y5=>exL y5 (fun y5=>some (Lp.go (qJ .i64 (x34+1),y5,y5.t)))) else (some (Lp.brk (x34,{x35 with t:=x36},x36))):Option (Lp (Int×Q0×Z7) (Except (Z4×Q0) (Q0))))) NN ((0:Int),{y4 with fun_:=x23.fun_},y4.t)).bind fun o=>o.thn (fun(x34,x35,x36)=>some (qX ({x35 with t:=x36}))) (fun r=>some r)) (fun e4=>some (qK (e4.1,{e4.2 with fun_:=x23.fun_})))) (fun r=>some r)) (fun r=>some r)) (fun e12=>some (qK (e12.1,{e12.2 with fun_:=p0.fun_})))

def Z4q (p0:E3):Option (Q8k×Pos×Int) :=
  (Y4b).bind fun y1=>(Q6v (⟨y1,(⟨[],[],[],0⟩:Q8k),(some []),(some []),[],[],O3.nil⟩:Q0) p0).bind fun y2=>exC y2 (fun y2=>some (y2.u,(⟨0,0⟩:Pos),(0:Int))) (fun e1=>some ((⟨[],[],[],0⟩:Q8k),e1.1.pos,e1.1.e))

def Z1z (p0:List UInt8):Option (Q8k×Bool) :=
  bif decide (4000 < (qQ p0:Int)) then (some ((⟨[],[],[],0⟩:Q8k),false)) else ((Z6t p0).bind fun y1=>bif y1.2.2 != 0 then (some ((⟨[],[],[],0⟩:Q8k),false)) else ((Z4q y1.1).bind fun y2=>some (y2.1,y2.2.2 == 0)))

def Y4l  : Option (Y8) :=
  some (⟨[]⟩:Y8)

def Q4f (p0:Y8) (p1:Int):Option (X9×Int×Y8) :=
  bif ((decide (p1 < 1)) || (decide (32768 < p1))) then (some ((⟨0,0,0,0⟩:X9),(1:Int),p0)) else (bif decide (1048576≤(qQ p0.list:Int)) then (some ((⟨0,0,0,0⟩:X9),(8:Int),p0)) else ((repl p1 0).bind fun u1=>(repl p1 false).bind fun u2=>(O8 (qQ p0.list+1)).bind fun _=>some ((⟨(qQ (p0.list ++ [(⟨(⟨u1,u2⟩:A1),none,false⟩:J0)]):Int),0,p1,0⟩:X9),(0:Int),(⟨p0.list ++ [(⟨(⟨u1,u2⟩:A1),none,false⟩:J0)]⟩:Y8))))

def M0 (p0:Z1) (p1:Int):Option (Bool×Z1) :=
  jn (fun kk1=>bif p0.out.E == 0 then (kk1 ({p0 with out := {p0.out with E:=p1}})) else (kk1 p0)) (fun(x2:Z1)=>some (false,{x2 with mem:=p0.mem}))

def E0 (p0:Z1) (p1:Int):Option (Bool×Z1) :=
  jn (fun kk1=>bif p1 == 8 then (kk1 (16:Int)) else (kk1 p1)) (fun(x1:Int)=>bif x1 != 0 then ((M0 p0 x1).bind fun y1=>some (y1.1,y1.2)) else (some (true,p0)))

def O7 (p0:Y8) (p1:Int):Option (Int×Int) :=
  bif ((decide (p1 < 1)) || (decide ((qQ p0.list:Int) < p1))) then (some ((-1:Int),(4:Int))) else ((idx p0.list (qJ .i64 (p1 - 1))).bind fun u1=>bif u1.gone then (some ((-1:Int),(4:Int))) else ((idx p0.list (qJ .i64 (p1 - 1))).bind fun u2=>some ((qJ .i64 (p1 - 1):Int),(0:Int))))

def Q0e (p0:J0) (p1:Int) (p2:Int):Option (J0) :=
  (X5 (fun(x1,x2)=>(bif ((decide (x2 < (qJ .i64 (p1+p2))))&&(decide (0 < (Z3k x1:Int)))) then (some (Lp.go ((Option.map (fun z=>mDel z x2) x1),qJ .i64 (x2+1)))) else (some (Lp.brk (x1,x2))):Option (Lp ((Option (List (Int×X9)))×Int) (Unit)))) NN (p0.ptrs,qJ .i64 ((qJ .i64 (p1 - 4))+1))).bind fun o=>o.thn (fun(x1,x2)=>some ({p0 with ptrs:=x1})) (fun _=>none)

def Q7x (p0:Y8) (p1:Int) (p2:List Int):Option (Int×Y8) :=
  (O7 p0 p1).bind fun y1=>bif y1.2 != 0 then (some (y1.2,p0)) else ((idx p0.list y1.1).bind fun u1=>bif decide ((qQ u1.bytes.data:Int) < (qQ p2:Int)) then (some ((1:Int),p0)) else ((X5 (fun(x4,x5)=>(bif decide (x4 < (qQ p2:Int)) then ((idx p2 x4).bind fun u2=>(Q0e x5 x4 1).bind fun y2=>(idx y2.bytes.data x4).bind fun u3=>(idx y2.bytes.data x4).bind fun u4=>(idx y2.bytes.set_ x4).bind fun u5=>(idx y2.bytes.set_ x4).bind fun u6=>some (Lp.go (qJ .i64 (x4+1),{y2 with bytes:=(⟨qP y2.bytes.data (qF x4) u2,qP y2.bytes.set_ (qF x4) true⟩:A1)}))) else (some (Lp.brk (x4,x5))):Option (Lp (Int×J0) (Unit)))) NN ((0:Int),u1)).bind fun o=>o.thn (fun(x4,x5)=>some ((0:Int),(⟨qP p0.list (qF y1.1) x5⟩:Y8))) (fun _=>none)))

def Q3p (p0:Z1):Option (Bool×Z1) :=
  (X5 (fun(x3,x4,x5)=>(bif decide (x3 < (qQ p0.u.Globals:Int)) then ((idx p0.u.Globals x3).bind fun u1=>jn (fun kk1=>(Q4f x5 u1.Size).bind fun y1=>kk1 y1.2.2 y1.1 y1.2.1) (fun(x7:Y8) (x8:X9) (x9:Int)=>(E0 ({x4 with mem:=x7}) x9).bind fun y2=>bif !y2.1 then (some (Lp.ret (false,y2.2))) else ((idx y2.2.u.Data x3).bind fun u2=>(Q7x y2.2.mem x8.Obj u2).bind fun y3=>(E0 ({y2.2 with mem:=y3.2}) y3.1).bind fun y4=>bif !y4.1 then (some (Lp.ret (false,y4.2))) else (some (Lp.go (qJ .i64 (x3+1),y4.2,y4.2.mem)))))) else (some (Lp.brk (x3,{x4 with mem:=x5},x5))):Option (Lp (Int×Z1×Y8) (Bool×Z1)))) NN ((0:Int),p0,p0.mem)).bind fun o=>o.thn (fun(x3,x4,x5)=>some (true,{x4 with mem:=x5})) (fun r=>some r)

def Z6c (p0:Bool):Option (Y4) :=
  some (⟨0,(⟨0,0,0,0⟩:X9),p0⟩:Y4)

def Q9c (p0:Y4) (p1:Int):Option (Y4) :=
  jn (fun kk1=>bif ((!p0.Is)&&(p1 == 1)) then (kk1 ({p0 with Num:=bits .and .u32 p0.Num 255})) else (kk1 p0)) (fun(x1:Y4)=>some x1)

def Q0m (p0:Y8) (p1:X9):Option (Int×Int) :=
  bif p1.Obj == 0 then (some ((-1:Int),(14:Int))) else (bif decide (p1.Obj < 0) then (some ((-1:Int),(4:Int))) else (bif decide ((qQ p0.list:Int) < p1.Obj) then (some ((-1:Int),(4:Int))) else ((idx p0.list (qJ .i64 (p1.Obj - 1))).bind fun u1=>bif u1.gone then (some ((-1:Int),(15:Int))) else ((idx p0.list (qJ .i64 (p1.Obj - 1))).bind fun u2=>some ((qJ .i64 (p1.Obj - 1):Int),(0:Int))))))

def Q8r (p0:X9) (p1:Int) (p2:Int):Option (Bool) :=
  some (((((decide (0≤p1))&&(decide (1≤p2)))&&(decide (p0.Off≤p0.Hi)))&&(decide (p1≤(qJ .i64 (p0.Hi - p0.Off)))))&&(decide (p2≤(qJ .i64 ((qJ .i64 (p0.Hi - p0.Off)) - p1)))))

def Q2n (p0:Y8) (p1:X9) (p2:Int) (p3:Bool):Option (Int×Int) :=
  bif (((p2 != 1)&&(p2 != 4)) || (p3&&(p2 != 4))) then (some ((-1:Int),(1:Int))) else ((Q0m p0 p1).bind fun y1=>bif y1.2 != 0 then (some ((-1:Int),y1.2)) else (bif decide (p1.Off < p1.Lo) then (some ((-1:Int),(12:Int))) else ((Q8r p1 0 p2).bind fun y2=>bif !y2 then (some ((-1:Int),(12:Int))) else (bif decide (p1.Off < 0) then (some ((-1:Int),(12:Int))) else ((idx p0.list y1.1).bind fun u1=>bif decide ((qQ u1.bytes.data:Int) < p2) then (some ((-1:Int),(12:Int))) else (bif decide ((qJ .i64 ((qQ u1.bytes.data:Int) - p2)) < p1.Off) then (some ((-1:Int),(12:Int))) else (some ((y1.1:Int),(0:Int)))))))))

def A2 (p0:Y8) (p1:X9) (p2:Int) (p3:Y4):Option (Int×Y8) :=
  (Q2n p0 p1 p2 p3.Is).bind fun y1=>bif y1.2 != 0 then (some (y1.2,p0)) else ((idx p0.list y1.1).bind fun u1=>(Q0e u1 p1.Off p2).bind fun y2=>jn (fun kk1=>bif p3.Is then (jn (fun kk2=>bif Option.isNone y2.ptrs then (kk2 ({y2 with ptrs:=(some [])})) else (kk2 y2)) (fun(x9:J0)=>(x9.ptrs).bind fun u2=>kk1 (0:Int) ({x9 with ptrs:=(some (Q9k u2 p1.Off p3.Ptr))}))) else (kk1 p3.Num y2)) (fun(x4:Int) (x5:J0)=>(X5 (fun(x10,x11,x12)=>(bif decide (x12 < p2) then ((nn (qJ .i64 (8 * x12))).bind fun _=>(idx x10 (qJ .i64 (p1.Off+x12))).bind fun u3=>(idx x10 (qJ .i64 (p1.Off+x12))).bind fun u4=>(idx x11 (qJ .i64 (p1.Off+x12))).bind fun u5=>(idx x11 (qJ .i64 (p1.Off+x12))).bind fun u6=>some (Lp.go (qP x10 (qF (qJ .i64 (p1.Off+x12))) (qJ .u8 (Int.fdiv x4 (2 ^ (min (qF (qJ .i64 (8 * x12))) (IntKind.bits .u32))))),qP x11 (qF (qJ .i64 (p1.Off+x12))) true,qJ .i64 (x12+1)))) else (some (Lp.brk (x10,x11,x12))):Option (Lp ((List Int)×(List Bool)×Int) (Unit)))) NN (x5.bytes.data,x5.bytes.set_,(0:Int))).bind fun o=>o.thn (fun(x10,x11,x12)=>some ((0:Int),(⟨qP p0.list (qF y1.1) ({x5 with bytes:=(⟨x10,x11⟩:A1)})⟩:Y8))) (fun _=>none)))

def Q3o (p0:Z1) (p1:Q5s) (p2:List Y4):Option (Bool×Z1) :=
  (X5 (fun(x4,x5,x6)=>(bif decide (x4 < (qQ p1.Slots:Int)) then ((idx p1.Slots x4).bind fun u1=>jn (fun kk1=>(Q4f x6 u1.Size).bind fun y1=>kk1 y1.2.2 y1.1 y1.2.1) (fun(x8:Y8) (x9:X9) (x10:Int)=>(E0 ({x5 with mem:=x8}) x10).bind fun y2=>bif !y2.1 then (some (Lp.ret (false,{y2.2 with vars:=x5.vars}))) else ((O8 (qQ x5.vars+qQ ([x9]:List X9))).bind fun _=>some (Lp.go (qJ .i64 (x4+1),{y2.2 with vars:=x5.vars++([x9]:List X9)},y2.2.mem))))) else (some (Lp.brk (x4,{x5 with mem:=x6},x6))):Option (Lp (Int×Z1×Y8) (Bool×Z1)))) NN ((0:Int),{p0 with vars := []},p0.mem)).bind fun o=>o.thn (fun(x4,x5,x6)=>(X5 (fun(x12,x14,x15)=>(bif decide (x14 < (qQ p2:Int)) then ((idx p2 x14).bind fun u2=>(idx x15.vars x14).bind fun u3=>(idx p1.Slots x14).bind fun u4=>(idx p1.Slots x14).bind fun u5=>(Q9c u2 u5.Size).bind fun y3=>(A2 (⟨x12⟩:Y8) u3 u4.Size y3).bind fun y4=>(E0 ({x15 with mem:=y4.2}) y4.1).bind fun y5=>bif !y5.1 then (some (Lp.ret (false,{y5.2 with vars:=x15.vars}))) else (some (Lp.go (y5.2.mem.list,qJ .i64 (x14+1),{y5.2 with vars:=x15.vars})))) else (some (Lp.brk (x12,x14,{x15 with mem:=(⟨x12⟩:Y8)}))):Option (Lp ((List J0)×Int×Z1) (Bool×Z1)))) NN (x6.list,(0:Int),{x5 with mem:=x6})).bind fun o=>o.thn (fun(x12,x14,x15)=>some (true,{x15 with mem:=(⟨x12⟩:Y8)})) (fun r=>some r)) (fun r=>some r)

def A0 (p0:Z1):Option (Bool×Z1) :=
  bif p0.out.E != 0 then (some (false,p0)) else (bif p0.fuel == 0 then ((M0 p0 16).bind fun y1=>some (y1.1,y1.2)) else (some (true,{p0 with fuel:=qJ .i64 (p0.fuel - 1)})))

def S5 (p0:Int):Option (Y4) :=
  some (⟨p0,(⟨0,0,0,0⟩:X9),false⟩:Y4)

def Q1f (p0:Bool):Option (Y4) :=
  bif p0 then ((S5 1).bind fun y1=>some y1) else ((S5 0).bind fun y2=>some y2)

def Q7s (p0:Z1) (p1:Y5):Option (X9) :=
  bif p1.Global then ((idx p0.u.Globals p1.Var).bind fun u1=>some (⟨qJ .i64 (p1.Var+1),0,u1.Size,0⟩:X9)) else ((idx p0.vars p1.Var).bind fun u2=>some u2)

def Q4g (p0:Y8) (p1:X9) (p2:Int) (p3:Bool):Option (Y4×Int) :=
  (Q2n p0 p1 p2 p3).bind fun y1=>bif y1.2 != 0 then (some ((⟨0,(⟨0,0,0,0⟩:X9),false⟩:Y4),y1.2)) else ((X5 (fun(x1,x2)=>(bif decide (x2 < p2) then ((idx p0.list y1.1).bind fun u1=>(idx u1.bytes.set_ (qJ .i64 (p1.Off+x2))).bind fun u2=>bif !u2 then (some (Lp.ret ((⟨0,(⟨0,0,0,0⟩:X9),false⟩:Y4),(13:Int)))) else ((idx u1.bytes.data (qJ .i64 (p1.Off+x2))).bind fun u3=>(nn (qJ .i64 (8 * x2))).bind fun _=>some (Lp.go (bits .or .u32 x1 (qJ .u32 ((qJ .u32 u3) * 2 ^ (min (qF (qJ .i64 (8 * x2))) (IntKind.bits .u32)))),qJ .i64 (x2+1))))) else (some (Lp.brk (x1,x2))):Option (Lp (Int×Int) (Y4×Int)))) NN ((0:Int),(0:Int))).bind fun o=>o.thn (fun(x1,x2)=>bif p3 then ((idx p0.list y1.1).bind fun u4=>some ((⟨0,((E2 u4.ptrs p1.Off).getD (⟨0,0,0,0⟩:X9)),true⟩:Y4),(0:Int))) else (some ((⟨x1,(⟨0,0,0,0⟩:X9),false⟩:Y4),(0:Int)))) (fun r=>some r))

def Q6p (p0:Y4):Option (Bool) :=
  bif p0.Is then (some (p0.Ptr.Obj == 0)) else (some (p0.Num == 0))

def Q5z (p0:Int) (p1:List Y4):Option (Y4×Int) :=
  (idx p1 0).bind fun u1=>jn (fun kk1=>bif decide (1 < (qQ p1:Int)) then ((idx p1 1).bind fun u2=>kk1 u2) else (kk1 (⟨0,(⟨0,0,0,0⟩:X9),false⟩:Y4))) (fun(x1:Y4)=>bif u1.Is then ((Q6p u1).bind fun y1=>bif y1 then (bif (qQ p1:Int) == 1 then ((Q1f (true == (p0 != 12))).bind fun y4=>some (y4,(0:Int))) else ((Q6p x1).bind fun y2=>(Q1f (y2 == (p0 != 12))).bind fun y3=>some (y3,(0:Int)))) else ((Q1f (false == (p0 != 12))).bind fun y5=>some (y5,(0:Int)))) else ((Q7d p0 u1.Num x1.Num).bind fun y6=>(S5 y6.1).bind fun y7=>some (y7,y6.2)))

def Q7v (p0:Y8) (p1:X9) (p2:Int) (p3:Int):Option (X9×Int) :=
  (Q0m p0 p1).bind fun y1=>bif y1.2 != 0 then (some ((⟨0,0,0,0⟩:X9),y1.2)) else ((Q8r p1 p2 p3).bind fun y2=>bif !y2 then (some ((⟨0,0,0,0⟩:X9),(12:Int))) else (some ((⟨p1.Obj,qJ .i64 (p1.Off+p2),qJ .i64 ((qJ .i64 (p1.Off+p2))+p3),qJ .i64 (p1.Off+p2)⟩:X9),(0:Int))))

def Q7w (p0:Y8) (p1:X9) (p2:Int):Option (X9×Int) :=
  (Q0m p0 p1).bind fun y1=>bif y1.2 != 0 then (some ((⟨0,0,0,0⟩:X9),y1.2)) else (bif ((decide (p2 < (qJ .i64 (p1.Lo - p1.Off)))) || (decide ((qJ .i64 (p1.Hi - p1.Off)) < p2))) then (some ((⟨0,0,0,0⟩:X9),(12:Int))) else (some ({p1 with Off:=qJ .i64 (p1.Off+p2)},(0:Int))))

def L5 (p0:Z1) (p1:X9) (p2:Int) (p3:Int) (p4:Int):Option (Y4×Int) :=
  jn (fun kk1=>bif p4 == 2 then (kk1 (qJ .i64 (0 - (qJ .i64 ((qJ .i64 (qJ .i32 p2)) * p3))))) else (kk1 (qJ .i64 ((qJ .i64 (qJ .i32 p2)) * p3)))) (fun(x1:Int)=>(Q7w p0.mem p1 x1).bind fun y1=>some ((⟨0,y1.1,true⟩:Y4),y1.2))

def Q0t (p0:Z1) (p1:Y5) (p2:List Y4):Option (Y4×Int×Z1) :=
  (idx p2 0).bind fun u1=>jn (fun kk1=>(Q4g p0.mem u1.Ptr p1.Size p1.Ptr).bind fun y1=>kk1 y1.1 y1.2) (fun(x1:Y4) (x2:Int)=>bif x2 != 0 then (some ((⟨0,(⟨0,0,0,0⟩:X9),false⟩:Y4),x2,p0)) else (jn (fun kk2=>bif ((p1.Kind == 15)&&p1.Ptr) then ((L5 p0 x1.Ptr p1.Num 1 1).bind fun y2=>kk2 y2.2 y2.1) else (bif p1.Kind == 15 then ((S5 (qJ .u32 (x1.Num+p1.Num))).bind fun y3=>kk2 x2 y3) else (bif p1.Ptr then ((idx p2 1).bind fun u2=>(L5 p0 x1.Ptr u2.Num (qJ .i64 p1.Num) p1.Fn).bind fun y4=>kk2 y4.2 y4.1) else ((idx p2 1).bind fun u3=>(Q5z p1.Fn ([x1,u3]:List Y4)).bind fun y5=>kk2 y5.2 y5.1)))) (fun(x3:Int) (x4:Y4)=>bif x3 != 0 then (some ((⟨0,(⟨0,0,0,0⟩:X9),false⟩:Y4),x3,p0)) else ((Q9c x4 p1.Size).bind fun y6=>bif p1.Post then ((A2 p0.mem u1.Ptr p1.Size y6).bind fun y7=>some (x1,y7.1,{p0 with mem:=y7.2})) else ((A2 p0.mem u1.Ptr p1.Size y6).bind fun y8=>some (y6,y8.1,{p0 with mem:=y8.2}))))))

def Q4y (p0:Z1) (p1:Y5) (p2:List Y4):Option (Y4×Int×Z1) :=
  bif p1.Kind == 2 then ((Q7s p0 p1).bind fun y1=>some ((⟨0,y1,true⟩:Y4),(0:Int),p0)) else (bif p1.Kind == 3 then ((idx p2 0).bind fun u1=>(Q4g p0.mem u1.Ptr p1.Size p1.Ptr).bind fun y2=>some (y2.1,y2.2,p0)) else (bif p1.Kind == 4 then (jn (fun kk1=>(idx p2 1).bind fun u2=>(Q9c u2 p1.Size).bind fun y3=>kk1 y3) (fun(x1:Y4)=>(idx p2 0).bind fun u3=>(A2 p0.mem u3.Ptr p1.Size x1).bind fun y4=>some (x1,y4.1,{p0 with mem:=y4.2}))) else (jn (fun kk2=>bif p1.Kind == 5 then (kk2 (p1.Kind == 5)) else (kk2 (p1.Kind == 6))) (fun(x2:Bool)=>bif x2 then ((Q5z p1.Fn p2).bind fun y5=>some (y5.1,y5.2,p0)) else (bif p1.Kind == 11 then ((idx p2 0).bind fun u4=>(O8 (qQ p0.out.Out+qQ ([u4.Num]:List Int))).bind fun _=>some ((⟨0,(⟨0,0,0,0⟩:X9),false⟩:Y4),(0:Int),{p0 with out := {p0.out with Out:=p0.out.Out++([u4.Num]:List Int)}})) else (bif p1.Kind == 12 then (bif decide ((qJ .i64 (p0.out.Ins+1))≤(qQ p0.inputs:Int)) then ((idx p0.inputs (qJ .i64 ((qJ .i64 (p0.out.Ins+1)) - 1))).bind fun u5=>(S5 u5).bind fun y6=>some (y6,(0:Int),{p0 with out := {p0.out with Ins:=qJ .i64 (p0.out.Ins+1)}})) else ((S5 0).bind fun y7=>some (y7,(0:Int),{p0 with out := {p0.out with Ins:=qJ .i64 (p0.out.Ins+1)}}))) else (bif p1.Kind == 13 then ((idx p2 0).bind fun u6=>(Q7v p0.mem u6.Ptr (qJ .i64 p1.Num) p1.Size).bind fun y8=>some ((⟨0,y8.1,true⟩:Y4),y8.2,p0)) else (bif p1.Kind == 14 then ((idx p2 0).bind fun u7=>(idx p2 1).bind fun u8=>(L5 p0 u7.Ptr u8.Num p1.Size p1.Fn).bind fun y9=>some (y9.1,y9.2,p0)) else (bif p1.Kind == 17 then ((idx p2 0).bind fun u9=>(Q9c u9 1).bind fun y10=>some (y10,(0:Int),p0)) else ((Q0t p0 p1 p2).bind fun y11=>some (y11.1,y11.2.1,y11.2.2)))))))))))

def Q6f (p0:Y8) (p1:Int):Option (Int×Y8) :=
  (O7 p0 p1).bind fun y1=>bif y1.2 != 0 then (some (y1.2,p0)) else ((idx p0.list y1.1).bind fun u1=>(repl (qQ u1.bytes.data:Int) 0).bind fun u2=>(repl (qQ u1.bytes.data:Int) false).bind fun u3=>some ((0:Int),(⟨qP p0.list (qF y1.1) (⟨(⟨u2,u3⟩:A1),none,u1.gone⟩:J0)⟩:Y8)))

def Q7y (p0:Y8) (p1:Int):Option (Int×Y8) :=
  (O7 p0 p1).bind fun y1=>bif y1.2 != 0 then (some (y1.2,p0)) else ((idx p0.list y1.1).bind fun u1=>some ((0:Int),(⟨qP p0.list (qF y1.1) (⟨(⟨[],[]⟩:A1),none,true⟩:J0)⟩:Y8)))

structure Z9w where
  N1:Z1→(List Y5)→Option ((List Y4)×Bool×Z1)
  V1:Z1→Y5→Option (Y4×Bool×Z1)
  U0:Z1→Y5→Option (Bool×Bool×Z1)
  P5:Z1→U7→Option (Int×Z1)
  E7:Z1→U7→Option (Int×Z1)
  C6:Z1→U7→Option (Int×Z1)
  U3:Z1→(List U7)→Option (Int×Z1)
  D6:Z1→Int→(List Y4)→Bool→Option (Y4×Bool×Z1)

def Q0s (G:Z9w) (p0:Z1) (p1:List Y5):Option ((List Y4)×Bool×Z1) :=
  (X5 (fun(x1,x4,x5,x6)=>(bif decide (x4 < (qQ p1:Int)) then ((idx p1 x4).bind fun u1=>(G.V1 ({x5 with mem:=x6}) u1).bind fun y1=>bif !y1.2.1 then (some (Lp.ret ([],false,y1.2.2))) else ((O8 (qQ x1+qQ ([y1.1]:List Y4))).bind fun _=>some (Lp.go (x1++([y1.1]:List Y4),qJ .i64 (x4+1),y1.2.2,y1.2.2.mem)))) else (some (Lp.brk (x1,x4,{x5 with mem:=x6},x6))):Option (Lp ((List Y4)×Int×Z1×Y8) ((List Y4)×Bool×Z1)))) NN ([],(0:Int),p0,p0.mem)).bind fun o=>o.thn (fun(x1,x4,x5,x6)=>some (x1,true,{x5 with mem:=x6})) (fun r=>some r)
def Q1u (G:Z9w) (p0:Z1) (p1:Y5):Option (Y4×Bool×Z1) :=
  (A0 p0).bind fun y1=>bif !y1.1 then (some ((⟨0,(⟨0,0,0,0⟩:X9),false⟩:Y4),false,y1.2)) else (bif p1.Kind == 1 then (bif p1.Ptr then ((Z6c true).bind fun y2=>some (y2,true,y1.2)) else ((S5 p1.Num).bind fun y3=>some (y3,true,y1.2))) else (jn (fun kk1=>bif p1.Kind == 7 then (kk1 (p1.Kind == 7)) else (kk1 (p1.Kind == 8))) (fun(x1:Bool)=>bif x1 then ((idx p1.Kids 0).bind fun u1=>(G.U0 y1.2 u1).bind fun y4=>jn (fun kk2=>bif (y4.2.1&&(y4.1 == (p1.Kind == 7))) then ((idx p1.Kids 1).bind fun u2=>(G.U0 y4.2.2 u2).bind fun y5=>kk2 y5.1 y5.2.1 y5.2.2 y5.2.2.mem) else (kk2 y4.1 y4.2.1 y4.2.2 y4.2.2.mem)) (fun(x4:Bool) (x5:Bool) (x6:Z1) (x7:Y8)=>(Q1f x4).bind fun y6=>some (y6,x5,{x6 with mem:=x7}))) else (bif p1.Kind == 9 then ((idx p1.Kids 0).bind fun u3=>(G.U0 y1.2 u3).bind fun y7=>bif !y7.2.1 then (some ((⟨0,(⟨0,0,0,0⟩:X9),false⟩:Y4),false,y7.2.2)) else (bif y7.1 then ((idx p1.Kids 1).bind fun u4=>(G.V1 y7.2.2 u4).bind fun y8=>some (y8.1,y8.2.1,y8.2.2)) else ((idx p1.Kids 2).bind fun u5=>(G.V1 y7.2.2 u5).bind fun y9=>some (y9.1,y9.2.1,y9.2.2)))) else ((G.N1 y1.2 p1.Kids).bind fun y10=>bif !y10.2.1 then (some ((⟨0,(⟨0,0,0,0⟩:X9),false⟩:Y4),false,y10.2.2)) else (bif p1.Kind == 10 then ((G.D6 y10.2.2 p1.Var y10.1 p1.Ptr).bind fun y11=>some (y11.1,y11.2.1,y11.2.2)) else ((Q4y y10.2.2 p1 y10.1).bind fun y12=>(E0 y12.2.2 y12.2.1).bind fun y13=>some (y12.1,y13.1,y13.2))))))))
def Q0u (G:Z9w) (p0:Z1) (p1:Y5):Option (Bool×Bool×Z1) :=
  (G.V1 p0 p1).bind fun y1=>(Q6p y1.1).bind fun y2=>some (!y2,y1.2.1,y1.2.2)
def Q1v (G:Z9w) (p0:Z1) (p1:U7):Option (Int×Z1) :=
  (X5 (fun(x3,x4,x5)=>((X5 (fun(x8,x9,x10)=>(bif decide (x8 < (qQ p1.A:Int)) then ((idx p1.A x8).bind fun u1=>bif !x3 then (some (Lp.brk (x8,{x9 with mem:=x10},x10))) else ((G.U0 ({x9 with mem:=x10}) u1).bind fun y9=>bif !y9.2.1 then (some (Lp.ret ((4:Int),y9.2.2))) else (bif !y9.1 then ((some ((0:Int),y9.2.2)).bind fun r=>some (Lp.ret r)) else (some (Lp.go (qJ .i64 (x8+1),y9.2.2,y9.2.2.mem)))))) else (some (Lp.brk (x8,{x9 with mem:=x10},x10))):Option (Lp (Int×Z1×Y8) (Int×Z1)))) NN ((0:Int),{x4 with mem:=x5},x5)).bind fun o=>o.thn (fun(x8,x9,x10)=>(G.U3 ({x9 with mem:=x10}) p1.Body).bind fun y1=>bif y1.1 == 1 then (some (Lp.brk (true,y1.2,y1.2.mem))) else (jn (fun kk1=>bif y1.1 == 3 then (kk1 (y1.1 == 3)) else (kk1 (y1.1 == 4))) (fun(x11:Bool)=>bif x11 then (some (Lp.ret (y1.1,y1.2))) else ((X5 (fun(x14,x15,x16)=>(bif decide (x14 < (qQ p1.Post:Int)) then ((idx p1.Post x14).bind fun u2=>(G.V1 ({x15 with mem:=x16}) u2).bind fun y2=>bif !y2.2.1 then (some (Lp.ret ((4:Int),y2.2.2))) else (some (Lp.go (qJ .i64 (x14+1),y2.2.2,y2.2.2.mem)))) else (some (Lp.brk (x14,{x15 with mem:=x16},x16))):Option (Lp (Int×Z1×Y8) (Int×Z1)))) NN ((0:Int),y1.2,y1.2.mem)).bind fun o=>o.thn (fun(x14,x15,x16)=>(A0 ({x15 with mem:=x16})).bind fun y3=>bif !y3.1 then (some (Lp.ret ((4:Int),y3.2))) else (some (Lp.go (true,y3.2,y3.2.mem)))) (fun r=>some (Lp.ret r)))))) (fun r=>some (Lp.ret r)):Option (Lp (Bool×Z1×Y8) (Int×Z1)))) NN (!p1.First,p0,p0.mem)).bind fun o=>o.thn (fun(x3,x4,x5)=>some ((0:Int),{x4 with mem:=x5})) (fun r=>some r)
def W0 (G:Z9w) (p0:Z1) (p1:U7):Option (Int×Z1) :=
  (idx p1.A 0).bind fun u1=>(G.V1 p0 u1).bind fun y1=>bif !y1.2.1 then (some ((4:Int),y1.2.2)) else ((X5 (fun(x1,x2)=>(bif decide (0≤x2) then (jn (fun kk1=>(idx p1.Cases x2).bind fun u2=>bif u2.Default then (kk1 x2) else (kk1 x1)) (fun(x3:Int)=>some (Lp.go (x3,qJ .i64 (x2 - 1))))) else (some (Lp.brk (x1,x2))):Option (Lp (Int×Int) (Unit)))) NN ((qQ p1.Cases:Int),qJ .i64 ((qQ p1.Cases:Int) - 1))).bind fun o=>o.thn (fun(x1,x2)=>(X5 (fun(x4,x5)=>(bif decide (0≤x5) then (jn (fun kk2=>(idx p1.Cases x5).bind fun u3=>bif !u3.Default then ((idx p1.Cases x5).bind fun u4=>bif u4.Num == y1.1.Num then (kk2 x5) else (kk2 x4)) else (kk2 x4)) (fun(x6:Int)=>some (Lp.go (x6,qJ .i64 (x5 - 1))))) else (some (Lp.brk (x4,x5))):Option (Lp (Int×Int) (Unit)))) NN (x1,qJ .i64 ((qQ p1.Cases:Int) - 1))).bind fun o=>o.thn (fun(x4,x5)=>(sub p1.Cases x4 (qQ p1.Cases:Int)).bind fun u5=>(X5 (fun(x9,x10,x11)=>(bif decide (x9 < (qQ u5:Int)) then ((idx u5 x9).bind fun u6=>(G.U3 ({x10 with mem:=x11}) u6.Body).bind fun y2=>bif y2.1 == 1 then (some (Lp.ret ((0:Int),y2.2))) else (bif y2.1 == 0 then (some (Lp.go (qJ .i64 (x9+1),y2.2,y2.2.mem))) else (some (Lp.ret (y2.1,y2.2))))) else (some (Lp.brk (x9,{x10 with mem:=x11},x11))):Option (Lp (Int×Z1×Y8) (Int×Z1)))) NN ((0:Int),y1.2.2,y1.2.2.mem)).bind fun o=>o.thn (fun(x9,x10,x11)=>some ((0:Int),{x10 with mem:=x11})) (fun r=>some r)) (fun _=>none)) (fun _=>none))
def Q3q (G:Z9w) (p0:Z1) (p1:U7):Option (Int×Z1) :=
  (A0 p0).bind fun y1=>bif !y1.1 then (some ((4:Int),y1.2)) else (bif p1.Kind == 2 then ((idx p1.A 0).bind fun u1=>(G.U0 y1.2 u1).bind fun y2=>bif !y2.2.1 then (some ((4:Int),y2.2.2)) else (bif y2.1 then ((G.U3 y2.2.2 p1.Body).bind fun y3=>some (y3.1,y3.2)) else ((G.U3 y2.2.2 p1.Else).bind fun y4=>some (y4.1,y4.2)))) else (bif p1.Kind == 3 then ((G.P5 y1.2 p1).bind fun y5=>some (y5.1,y5.2)) else (bif p1.Kind == 4 then ((G.E7 y1.2 p1).bind fun y6=>some (y6.1,y6.2)) else (bif p1.Kind == 8 then ((G.U3 y1.2 p1.Body).bind fun y7=>some (y7.1,y7.2)) else (bif p1.Kind == 6 then (some ((1:Int),y1.2)) else (bif p1.Kind == 7 then (some ((2:Int),y1.2)) else (bif p1.Kind == 9 then ((idx y1.2.vars p1.Var).bind fun u2=>(Q6f y1.2.mem u2.Obj).bind fun y8=>(E0 ({y1.2 with mem:=y8.2}) y8.1).bind fun y9=>bif !y9.1 then (some ((4:Int),y9.2)) else (some ((0:Int),y9.2))) else ((X5 (fun(x3,x4,x5)=>(bif decide (x3 < (qQ p1.A:Int)) then (jn (fun kk1=>(idx p1.A x3).bind fun u3=>(G.V1 ({x4 with mem:=x5}) u3).bind fun y10=>bif !y10.2.1 then (some (Lp.ret ((4:Int),y10.2.2))) else (bif p1.Kind == 5 then (kk1 ({y10.2.2 with ret:=y10.1}) y10.2.2.mem) else (kk1 y10.2.2 y10.2.2.mem))) (fun(x8:Z1) (x9:Y8)=>some (Lp.go (qJ .i64 (x3+1),{x8 with mem:=x9},x9)))) else (some (Lp.brk (x3,{x4 with mem:=x5},x5))):Option (Lp (Int×Z1×Y8) (Int×Z1)))) NN ((0:Int),y1.2,y1.2.mem)).bind fun o=>o.thn (fun(x3,x4,x5)=>bif p1.Kind == 5 then (some ((3:Int),{x4 with mem:=x5})) else (some ((0:Int),{x4 with mem:=x5}))) (fun r=>some r)))))))))
def Q1x (G:Z9w) (p0:Z1) (p1:List U7):Option (Int×Z1) :=
  (X5 (fun(x3,x4,x5)=>(bif decide (x3 < (qQ p1:Int)) then ((idx p1 x3).bind fun u1=>(G.C6 ({x4 with mem:=x5}) u1).bind fun y1=>bif y1.1 != 0 then (some (Lp.ret (y1.1,y1.2))) else (some (Lp.go (qJ .i64 (x3+1),y1.2,y1.2.mem)))) else (some (Lp.brk (x3,{x4 with mem:=x5},x5))):Option (Lp (Int×Z1×Y8) (Int×Z1)))) NN ((0:Int),p0,p0.mem)).bind fun o=>o.thn (fun(x3,x4,x5)=>some ((0:Int),{x4 with mem:=x5})) (fun r=>some r)
def Q1w (G:Z9w) (p0:Z1) (p1:Int) (p2:List Y4) (p3:Bool):Option (Y4×Bool×Z1) :=
  bif p0.deep == 5000 then ((M0 p0 16).bind fun y1=>some ((⟨0,(⟨0,0,0,0⟩:X9),false⟩:Y4),y1.1,y1.2)) else ((idx p0.u.Codes p1).bind fun u1=>(Z6c p3).bind fun y2=>(Q3o ({p0 with deep:=qJ .i64 (p0.deep+1),ret:=y2}) u1 p2).bind fun y3=>bif !y3.1 then (some ((⟨0,(⟨0,0,0,0⟩:X9),false⟩:Y4),false,y3.2)) else ((G.U3 y3.2 u1.Body).bind fun y4=>bif y4.1 == 4 then (some ((⟨0,(⟨0,0,0,0⟩:X9),false⟩:Y4),false,y4.2)) else ((X5 (fun(x1,x2)=>(bif decide (x2 < (qQ y4.2.vars:Int)) then ((idx y4.2.vars x2).bind fun u2=>(Q7y (⟨x1⟩:Y8) u2.Obj).bind fun y5=>some (Lp.go (y5.2.list,qJ .i64 (x2+1)))) else (some (Lp.brk (x1,x2))):Option (Lp ((List J0)×Int) (Unit)))) NN (y4.2.mem.list,(0:Int))).bind fun o=>o.thn (fun(x1,x2)=>some (y4.2.ret,true,{y4.2 with mem:=(⟨x1⟩:Y8),deep:=qJ .i64 (y4.2.deep - 1),vars:=p0.vars,ret:=p0.ret})) (fun _=>none))))
def Q4u:Nat→Z9w
  | 0=>⟨fun _ _=>none,fun _ _=>none,fun _ _=>none,fun _ _=>none,fun _ _=>none,fun _ _=>none,fun _ _=>none,fun _ _ _ _=>none⟩
  | n+1=>⟨Q0s (Q4u n),Q1u (Q4u n),Q0u (Q4u n),Q1v (Q4u n),W0 (Q4u n),Q3q (Q4u n),Q1x (Q4u n),Q1w (Q4u n)⟩
def N1 (p0:Z1) (p1:List Y5):Option ((List Y4)×Bool×Z1):=(Q4u NN).N1 p0 p1
def V1 (p0:Z1) (p1:Y5):Option (Y4×Bool×Z1):=(Q4u NN).V1 p0 p1
def U0 (p0:Z1) (p1:Y5):Option (Bool×Bool×Z1):=(Q4u NN).U0 p0 p1
def P5 (p0:Z1) (p1:U7):Option (Int×Z1):=(Q4u NN).P5 p0 p1
def E7 (p0:Z1) (p1:U7):Option (Int×Z1):=(Q4u NN).E7 p0 p1
def C6 (p0:Z1) (p1:U7):Option (Int×Z1):=(Q4u NN).C6 p0 p1
def U3 (p0:Z1) (p1:List U7):Option (Int×Z1):=(Q4u NN).U3 p0 p1
def D6 (p0:Z1) (p1:Int) (p2:List Y4) (p3:Bool):Option (Y4×Bool×Z1):=(Q4u NN).D6 p0 p1 p2 p3

def Z2c (p0:Q8k) (p1:List Int) (p2:Int):Option (Z3g) :=
  (Y4l).bind fun y1=>(Q3p (⟨p0,y1,p1,(⟨[],0,0,0⟩:Z3g),min (max p2 0) 10000000,0,[],(⟨0,(⟨0,0,0,0⟩:X9),false⟩:Y4)⟩:Z1)).bind fun y2=>bif !y2.1 then (some ({y2.2.out with Out := []})) else (jn (fun kk1=>(D6 ({y2.2 with vars := []}) p0.Main [] false).bind fun y3=>bif y3.2.1 then (kk1 ({y3.2.2 with out := {y3.2.2.out with Exit:=bits .and .u32 y3.1.Num 255}}) y3.2.2.mem) else (kk1 y3.2.2 y3.2.2.mem)) (fun(x3:Z1) (x4:Y8)=>some x3.out))

def Z4i  : Option (Bool) :=
  (Z1z ([105,110,116,32,109,97,105,110,40,41,32,123,32,111,117,116,40,105,110,40,41,32,43,32,49,41,59,32,114,101,116,117,114,110,32,51,48,48,59,32,125]:List UInt8)).bind fun y1=>(Z1z ([105,110,116,32,109,97,105,110,40,41,32,123,32,105,110,116,32,120,59,32,114,101,116,117,114,110,32,120,59,32,125]:List UInt8)).bind fun y2=>jn (fun kk1=>(Z2c y1.1 ([4]:List Int) 100).bind fun y3=>(Z2c y2.1 [] 100).bind fun y4=>kk1 y3 y4) (fun(x1:Z3g) (x2:Z3g)=>bif ((y1.2&&y2.2)&&((qQ x1.Out:Int) == 1)) then ((idx x1.Out 0).bind fun u1=>some (((((u1 == 5)&&(x1.Exit == 44))&&(x1.E == 0))&&(x1.Ins == 1))&&(x2.E == 13))) else (some false))

def Q6n (p0:List UInt8) (p1:List Int) (p2:Int):Option (Bool) :=
  (Z1z p0).bind fun y1=>bif (((!y1.2) || (decide (40 < (qQ p1:Int)))) || (decide (20000 < p2))) then ((Z4i).bind fun y2=>some y2) else ((Z2c y1.1 p1 p2).bind fun y3=>(Z4i).bind fun y4=>some (((y4&&(decide (y3.Exit≤255)))&&((y3.E == 0) || (y3.Exit == 0)))&&(decide (0≤y3.Ins))))
end Go.Proofs.YtbfpdnogfkbiaaaGreat
