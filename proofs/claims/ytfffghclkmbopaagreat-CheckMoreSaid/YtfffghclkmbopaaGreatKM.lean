/- The models of Go functions: what each computes. Printed by gen2.py. -/
import Derived.Test.YtfffghclkmbopaaGreatKLA
import Derived.Laws.Entries
import Derived.Lib.Index
set_option linter.unusedVariables false
namespace Go.Proofs.YtfffghclkmbopaaGreat
open List renaming length → qQ, set → qP
open IntKind renaming wrap → qJ
open Except renaming error → qK, ok → qX
open Int renaming toNat → qF
open UInt8 renaming toNat → qA
/-- What follows a call whose refusal is handed on. -/
abbrev exE{E F O B:Type}(y:Except (E×F) O)(f:O->Option (Except (E×F) B)):Option (Except (E×F) B):=exC y f (fun e=>some (qK (e.1,e.2)))
abbrev exL{E F O S B:Type}(y:Except (E×F) O)(f:O->Option (Lp S (Except (E×F) B))):Option (Lp S (Except (E×F) B)):=exC y f (fun e=>some (Lp.ret (qK (e.1,e.2))))

def strings_Index(p0 p1:List UInt8):Option Int:=if p0.length<4294967281 then some (Go.Lib.index p0 p1)else none
structure Pos where
 Line:Int
 Col:Int
 deriving DecidableEq
structure F9 where
 Word:List UInt8
 Name:List UInt8
 Stars:Int
 deriving DecidableEq
structure Y2 where
 Kind:Int
 Pos:Pos
 Op:List UInt8
 Name:List UInt8
 Num:Int
 Type_:F9
 Kids:List Y2
structure G9 where
 Pos:Pos
 Type_:F9
 Name:List UInt8
 Dims:List Int
 Init:List Y2
 Brace:Bool
structure Q2n where
 Pos:Pos
 Name:List UInt8
 Fields:List G9
structure X0x(S:Type) where
 Pos:Pos
 Default:Bool
 Num:Int
 Body:List S
structure E0 where
 Kind:Int
 Pos:Pos
 A:List Y2
 B:List Y2
 C:List Y2
 Var:List G9
 Body:List E0
 Else:List E0
 Cases:List (X0x E0)
abbrev Q1d:=X0x E0
structure I1 where
 Pos:Pos
 Ret:F9
 Name:List UInt8
 Params:List G9
 Body:List E0
structure K1 where
 Structs:List Q2n
 Globals:List G9
 Funcs:List I1
structure N4 where
 s:List UInt8
 pos:Pos
 deriving DecidableEq
structure X5 where
 Kind:Int
 Text:List UInt8
 Num:Int
 Pos:Pos
 deriving DecidableEq
structure Z0 where
 l:List X5
 end_:Pos
 depth:Int
 deriving DecidableEq
structure Z6 where
 pos:Pos
 e:Int
 deriving DecidableEq
structure Q5u where
 Name:List UInt8
 Size:Int
 Align:Int
 Cell:Int
 deriving DecidableEq
structure Y1 where
 Kind:Int
 Fn:Int
 Num:Int
 Var:Int
 Global:Bool
 Size:Int
 Post:Bool
 Ptr:Bool
 Kids:List Y1
structure X2a(S:Type) where
 Default:Bool
 Num:Int
 Body:List S
structure K2 where
 Kind:Int
 A:List Y1
 Post:List Y1
 First:Bool
 Body:List K2
 Else:List K2
 Cases:List (X2a K2)
 Var:Int
abbrev Q8a:=X2a K2
structure Q1m where
 Name:List UInt8
 Void:Bool
 Params:Int
 Slots:List Q5u
 Body:List K2
structure Q9x where
 Globals:List Q5u
 Data:List (List Int)
 Codes:List Q1m
 Main:Int
structure K5 where
 Name:List UInt8
 Type_:Int
 At:Int
 deriving DecidableEq
structure Q5t where
 Kind:Int
 Elem:Int
 Len:Int
 Name:List UInt8
 Fields:List K5
 deriving DecidableEq
structure U8 where
 Type_:Q5t
 size:Int
 align:Int
 open_:Bool
 deriving DecidableEq
structure Z5 where
 list:List U8
 deriving DecidableEq
structure G8 where
 ret:Int
 params:List Int
 deriving DecidableEq
structure G0 where
 ret:Int
 slots:List Q5u
 types:List Int
 scopes:List (Option (List ((List UInt8)×Int)))
 loops:Int
 breaks:Int
 deriving DecidableEq
structure Q0 where
 t:Z5
 u:Q9x
 globals:Option (List ((List UInt8)×Int))
 codes:Option (List ((List UInt8)×Int))
 gtypes:List Int
 signs:List G8
 fun_:O3 G0
structure Z8 where
 n:Int
 term:Y1
 lies:Bool
structure Z1 where
 pos:Pos
 e:Int
 deriving DecidableEq


def Q3q(p0:List UInt8)(p1:List UInt8):Option (Bool):=
 bif decide ((qQ p1:Int)<=(qQ p0:Int))then((sub p0 0 (qQ p1:Int)).bind fun u1=>some (decide (u1=p1)))else(some false)

def C5(p0:List UInt8)(p1:List UInt8):Option (Bool):=
 (Q3q p0 p1).bind fun y1=>some y1

def Z1w(p0:Int):Option (Bool):=
 bif p0==32 then(some true)else(bif p0==9 then(some true)else(bif p0==10 then(some true)else(some (p0==13))))

def Z7z(p0:List UInt8):Option (Int):=
 (X8 (fun(x1:Int)=>(bif decide (x1<(qQ p0:Int))then((idx p0 x1).bind fun u1=>(Z1w (qA u1:Int)).bind fun y1=>bif y1 then(some (Lp.go (qJ .i64 (x1+1))))else(some (Lp.brk x1)))else(some (Lp.brk x1)):Option (Lp (Int) (Unit)))) NN (0:Int)).bind fun o=>o.thn (fun(x1:Int)=>some x1) (fun _=>none)

def Z2z(p0:List UInt8):Option (Int):=
 (C5 p0 ([47,47]:List UInt8)).bind fun y1=>bif y1 then((strings_Index p0 ([10]:List UInt8)).bind fun y2=>bif decide (0<=y2)then(some y2)else(some (qQ p0:Int)))else((C5 p0 ([47,42]:List UInt8)).bind fun y3=>bif y3 then((sub p0 2 (qQ p0:Int)).bind fun u1=>(strings_Index u1 ([42,47]:List UInt8)).bind fun y4=>bif decide (y4<0)then(some ((-1):Int))else(some (qJ .i64 (y4+4))))else((Z7z p0).bind fun y5=>some y5))

def Q0n(p0:N4)(p1:Int):Option (N4):=
 (sub p0.s 0 p1).bind fun u1=>(W8 (qQ u1)).bind fun _=>(X8 (fun(x1,x2)=>(bif decide (x1<(qQ (I6 u1):Int))then(jn (fun kk1=>(idx (I6 u1) x1).bind fun u2=>bif u2==10 then(kk1 (⟨x2.s,(⟨qJ .i64 (x2.pos.Line+1),1⟩:Pos)⟩:N4))else(kk1 (⟨x2.s,(⟨x2.pos.Line,qJ .i64 (x2.pos.Col+1)⟩:Pos)⟩:N4))) (fun(x3:N4)=>some (Lp.go (qJ .i64 (x1+1),x3))))else(some (Lp.brk (x1,x2))):Option (Lp (Int×N4) (Unit)))) NN ((0:Int),p0)).bind fun o=>o.thn (fun(x1,x2)=>(sub x2.s p1 (qQ x2.s:Int)).bind fun u3=>some (⟨u3,x2.pos⟩:N4)) (fun _=>none)

def Z1i(p0:Int):Option (Bool):=
 bif decide (97<=p0)then(bif decide (p0<=122)then(some true)else(bif decide (65<=p0)then(bif decide (p0<=90)then(some true)else(some (p0==95)))else(some (p0==95))))else(bif decide (65<=p0)then(bif decide (p0<=90)then(some true)else(some (p0==95)))else(some (p0==95)))

def Z1j(p0:Int):Option (Bool):=
 bif decide (48<=p0)then(some (decide (p0<=57)))else(some false)

def Z8b(p0:Int):Option (Bool):=
 (Z1i p0).bind fun y1=>bif y1 then(some true)else((Z1j p0).bind fun y2=>some y2)

def Q7n(p0:List UInt8):Option (Int):=
 (X8 (fun(x1:Int)=>(bif decide (x1<(qQ p0:Int))then((idx p0 x1).bind fun u1=>(Z8b (qA u1:Int)).bind fun y1=>bif y1 then(some (Lp.go (qJ .i64 (x1+1))))else(some (Lp.brk x1)))else(some (Lp.brk x1)):Option (Lp (Int) (Unit)))) NN (0:Int)).bind fun o=>o.thn (fun(x1:Int)=>some x1) (fun _=>none)

def Z1x(p0:List UInt8):Option (Bool):=
 jn (fun kk1=>bif decide (p0=([98,114,101,97,107]:List UInt8))then(kk1 (decide (p0=([98,114,101,97,107]:List UInt8))))else(bif decide (p0=([99,97,115,101]:List UInt8))then(kk1 (decide (p0=([99,97,115,101]:List UInt8))))else(bif decide (p0=([99,104,97,114]:List UInt8))then(kk1 (decide (p0=([99,104,97,114]:List UInt8))))else(bif decide (p0=([99,111,110,116,105,110,117,101]:List UInt8))then(kk1 (decide (p0=([99,111,110,116,105,110,117,101]:List UInt8))))else(bif decide (p0=([100,101,102,97,117,108,116]:List UInt8))then(kk1 (decide (p0=([100,101,102,97,117,108,116]:List UInt8))))else(bif decide (p0=([100,111]:List UInt8))then(kk1 (decide (p0=([100,111]:List UInt8))))else(bif decide (p0=([101,108,115,101]:List UInt8))then(kk1 (decide (p0=([101,108,115,101]:List UInt8))))else(bif decide (p0=([102,111,114]:List UInt8))then(kk1 (decide (p0=([102,111,114]:List UInt8))))else(bif decide (p0=([105,102]:List UInt8))then(kk1 (decide (p0=([105,102]:List UInt8))))else(bif decide (p0=([105,110]:List UInt8))then(kk1 (decide (p0=([105,110]:List UInt8))))else(bif decide (p0=([105,110,116]:List UInt8))then(kk1 (decide (p0=([105,110,116]:List UInt8))))else(bif decide (p0=([111,117,116]:List UInt8))then(kk1 (decide (p0=([111,117,116]:List UInt8))))else(bif decide (p0=([114,101,116,117,114,110]:List UInt8))then(kk1 (decide (p0=([114,101,116,117,114,110]:List UInt8))))else(bif decide (p0=([115,105,122,101,111,102]:List UInt8))then(kk1 (decide (p0=([115,105,122,101,111,102]:List UInt8))))else(bif decide (p0=([115,116,114,117,99,116]:List UInt8))then(kk1 (decide (p0=([115,116,114,117,99,116]:List UInt8))))else(bif decide (p0=([115,119,105,116,99,104]:List UInt8))then(kk1 (decide (p0=([115,119,105,116,99,104]:List UInt8))))else(bif decide (p0=([118,111,105,100]:List UInt8))then(kk1 (decide (p0=([118,111,105,100]:List UInt8))))else(kk1 (decide (p0=([119,104,105,108,101]:List UInt8))))))))))))))))))))) (fun(x1:Bool)=>bif x1 then(some true)else(some false))

def Q6u(p0:Int):Option (Int):=
 (Z1j p0).bind fun y1=>bif y1 then(some (qJ .u64 (qJ .u8 (p0-48))))else(bif decide (97<=p0)then(bif decide (p0<=102)then(some (qJ .u64 ((qJ .u64 (qJ .u8 (p0-97)))+10)))else(bif decide (65<=p0)then(bif decide (p0<=70)then(some (qJ .u64 ((qJ .u64 (qJ .u8 (p0-65)))+10)))else(some (4294967295:Int)))else(some (4294967295:Int))))else(bif decide (65<=p0)then(bif decide (p0<=70)then(some (qJ .u64 ((qJ .u64 (qJ .u8 (p0-65)))+10)))else(some (4294967295:Int)))else(some (4294967295:Int))))

def Q9j(p0:List UInt8):Option (X5×Int):=
 (Q7n p0).bind fun y1=>(sub p0 0 y1).bind fun u1=>jn (fun kk1=>(C5 u1 ([48,120]:List UInt8)).bind fun y2=>bif y2 then((sub u1 2 (qQ u1:Int)).bind fun u3=>kk1 u3 (16:Int))else((C5 u1 ([48,88]:List UInt8)).bind fun y3=>bif y3 then((sub u1 2 (qQ u1:Int)).bind fun u2=>kk1 u2 (16:Int))else(kk1 u1 (10:Int)))) (fun(x1:List UInt8)(x2:Int)=>bif decide (x1=([]:List UInt8))then(some ((⟨0,([]:List UInt8),0,(⟨0,0⟩:Pos)⟩:X5),(3:Int)))else((W8 (qQ x1)).bind fun _=>(X8 (fun(x3,x4,x5)=>(bif decide (x5<(qQ (I6 x1):Int))then(jn (fun kk2=>(idx (I6 x1) x5).bind fun u4=>(Q6u u4).bind fun y4=>bif decide (x2<=y4)then(some (Lp.ret ((⟨0,([]:List UInt8),0,(⟨0,0⟩:Pos)⟩:X5),(3:Int))))else((Q6u u4).bind fun y5=>bif decide (4294967295<(qJ .u64 ((qJ .u64 (x3*x2))+y5)))then(kk2 (4294967295:Int) true)else(kk2 (qJ .u64 ((qJ .u64 (x3*x2))+y5)) x4))) (fun(x6:Int)(x7:Bool)=>some (Lp.go (x6,x7,qJ .i64 (x5+1)))))else(some (Lp.brk (x3,x4,x5))):Option (Lp (Int×Bool×Int) (X5×Int)))) NN ((0:Int),false,(0:Int))).bind fun o=>o.thn (fun(x3,x4,x5)=>bif x4 then(some ((⟨0,([]:List UInt8),0,(⟨0,0⟩:Pos)⟩:X5),(7:Int)))else(some ((⟨3,u1,qJ .u32 x3,(⟨0,0⟩:Pos)⟩:X5),(0:Int)))) (fun r=>some r)))

def Q9k(p0:Int):Option (Int×Bool):=
 bif p0==110 then(some ((10:Int),true))else(bif p0==116 then(some ((9:Int),true))else(bif p0==114 then(some ((13:Int),true))else(bif p0==48 then(some ((0:Int),true))else(jn (fun kk1=>bif p0==92 then(kk1 (p0==92))else(kk1 (p0==39))) (fun(x1:Bool)=>bif x1 then(some (p0,true))else(some ((0:Int),false)))))))

def Q2q(p0:List UInt8):Option (X5×Int):=
 bif decide (4<=(qQ p0:Int))then((idx p0 1).bind fun u1=>bif (qA u1:Int)==92 then((idx p0 3).bind fun u2=>bif (qA u2:Int)==39 then((idx p0 2).bind fun u3=>(Q9k (qA u3:Int)).bind fun y1=>bif y1.2 then((sub p0 0 4).bind fun u4=>some ((⟨3,u4,qJ .u32 y1.1,(⟨0,0⟩:Pos)⟩:X5),(0:Int)))else(some ((⟨0,([]:List UInt8),0,(⟨0,0⟩:Pos)⟩:X5),(3:Int))))else(bif decide (3<=(qQ p0:Int))then((idx p0 2).bind fun u5=>bif (qA u5:Int)==39 then((idx p0 1).bind fun u6=>bif decide (32<=(qA u6:Int))then((idx p0 1).bind fun u7=>bif decide ((qA u7:Int)<=126)then((idx p0 1).bind fun u8=>bif (qA u8:Int)!=39 then((idx p0 1).bind fun u9=>bif (qA u9:Int)!=92 then((sub p0 0 3).bind fun u10=>(idx p0 1).bind fun u11=>some ((⟨3,u10,qJ .u32 (qA u11:Int),(⟨0,0⟩:Pos)⟩:X5),(0:Int)))else(some ((⟨0,([]:List UInt8),0,(⟨0,0⟩:Pos)⟩:X5),(3:Int))))else(some ((⟨0,([]:List UInt8),0,(⟨0,0⟩:Pos)⟩:X5),(3:Int))))else(some ((⟨0,([]:List UInt8),0,(⟨0,0⟩:Pos)⟩:X5),(3:Int))))else(some ((⟨0,([]:List UInt8),0,(⟨0,0⟩:Pos)⟩:X5),(3:Int))))else(some ((⟨0,([]:List UInt8),0,(⟨0,0⟩:Pos)⟩:X5),(3:Int))))else(some ((⟨0,([]:List UInt8),0,(⟨0,0⟩:Pos)⟩:X5),(3:Int)))))else(bif decide (3<=(qQ p0:Int))then((idx p0 2).bind fun u12=>bif (qA u12:Int)==39 then((idx p0 1).bind fun u13=>bif decide (32<=(qA u13:Int))then((idx p0 1).bind fun u14=>bif decide ((qA u14:Int)<=126)then((idx p0 1).bind fun u15=>bif (qA u15:Int)!=39 then((idx p0 1).bind fun u16=>bif (qA u16:Int)!=92 then((sub p0 0 3).bind fun u17=>(idx p0 1).bind fun u18=>some ((⟨3,u17,qJ .u32 (qA u18:Int),(⟨0,0⟩:Pos)⟩:X5),(0:Int)))else(some ((⟨0,([]:List UInt8),0,(⟨0,0⟩:Pos)⟩:X5),(3:Int))))else(some ((⟨0,([]:List UInt8),0,(⟨0,0⟩:Pos)⟩:X5),(3:Int))))else(some ((⟨0,([]:List UInt8),0,(⟨0,0⟩:Pos)⟩:X5),(3:Int))))else(some ((⟨0,([]:List UInt8),0,(⟨0,0⟩:Pos)⟩:X5),(3:Int))))else(some ((⟨0,([]:List UInt8),0,(⟨0,0⟩:Pos)⟩:X5),(3:Int))))else(some ((⟨0,([]:List UInt8),0,(⟨0,0⟩:Pos)⟩:X5),(3:Int)))))else(bif decide (3<=(qQ p0:Int))then((idx p0 2).bind fun u19=>bif (qA u19:Int)==39 then((idx p0 1).bind fun u20=>bif decide (32<=(qA u20:Int))then((idx p0 1).bind fun u21=>bif decide ((qA u21:Int)<=126)then((idx p0 1).bind fun u22=>bif (qA u22:Int)!=39 then((idx p0 1).bind fun u23=>bif (qA u23:Int)!=92 then((sub p0 0 3).bind fun u24=>(idx p0 1).bind fun u25=>some ((⟨3,u24,qJ .u32 (qA u25:Int),(⟨0,0⟩:Pos)⟩:X5),(0:Int)))else(some ((⟨0,([]:List UInt8),0,(⟨0,0⟩:Pos)⟩:X5),(3:Int))))else(some ((⟨0,([]:List UInt8),0,(⟨0,0⟩:Pos)⟩:X5),(3:Int))))else(some ((⟨0,([]:List UInt8),0,(⟨0,0⟩:Pos)⟩:X5),(3:Int))))else(some ((⟨0,([]:List UInt8),0,(⟨0,0⟩:Pos)⟩:X5),(3:Int))))else(some ((⟨0,([]:List UInt8),0,(⟨0,0⟩:Pos)⟩:X5),(3:Int))))else(some ((⟨0,([]:List UInt8),0,(⟨0,0⟩:Pos)⟩:X5),(3:Int))))

def Z3f(p0:List UInt8):Option ((List UInt8)):=
 (X8 (fun(x1:Int)=>(bif decide (x1<45)then((idx ([([60,60,61]:List UInt8),([62,62,61]:List UInt8),([45,62]:List UInt8),([43,43]:List UInt8),([45,45]:List UInt8),([60,60]:List UInt8),([62,62]:List UInt8),([60,61]:List UInt8),([62,61]:List UInt8),([61,61]:List UInt8),([33,61]:List UInt8),([38,38]:List UInt8),([124,124]:List UInt8),([43,61]:List UInt8),([45,61]:List UInt8),([42,61]:List UInt8),([47,61]:List UInt8),([37,61]:List UInt8),([38,61]:List UInt8),([124,61]:List UInt8),([94,61]:List UInt8),([43]:List UInt8),([45]:List UInt8),([42]:List UInt8),([47]:List UInt8),([37]:List UInt8),([38]:List UInt8),([124]:List UInt8),([94]:List UInt8),([126]:List UInt8),([33]:List UInt8),([60]:List UInt8),([62]:List UInt8),([61]:List UInt8),([63]:List UInt8),([58]:List UInt8),([59]:List UInt8),([44]:List UInt8),([46]:List UInt8),([40]:List UInt8),([41]:List UInt8),([91]:List UInt8),([93]:List UInt8),([123]:List UInt8),([125]:List UInt8)]:List (List UInt8)) x1).bind fun u1=>(C5 p0 u1).bind fun y1=>bif y1 then(some (Lp.ret u1))else(some (Lp.go (qJ .i64 (x1+1)))))else(some (Lp.brk x1)):Option (Lp (Int) ((List UInt8))))) NN (0:Int)).bind fun o=>o.thn (fun(x1:Int)=>some ([]:List UInt8)) (fun r=>some r)

def Q0g(p0:List UInt8):Option (X5×Int):=
 (idx p0 0).bind fun u1=>(Z1i (qA u1:Int)).bind fun y1=>bif y1 then((Q7n p0).bind fun y2=>(sub p0 0 y2).bind fun u2=>bif decide (31<y2)then(some ((⟨1,u2,0,(⟨0,0⟩:Pos)⟩:X5),(2:Int)))else(jn (fun kk1=>(Z1x u2).bind fun y3=>bif y3 then(kk1 (⟨2,u2,0,(⟨0,0⟩:Pos)⟩:X5))else(kk1 (⟨1,u2,0,(⟨0,0⟩:Pos)⟩:X5))) (fun(x1:X5)=>some (x1,(0:Int)))))else((idx p0 0).bind fun u3=>(Z1j (qA u3:Int)).bind fun y4=>bif y4 then((Q9j p0).bind fun y5=>some (y5.1,y5.2))else((idx p0 0).bind fun u4=>bif (qA u4:Int)==39 then((Q2q p0).bind fun y6=>some (y6.1,y6.2))else((Z3f p0).bind fun y7=>bif decide (y7=([]:List UInt8))then(some ((⟨0,([]:List UInt8),0,(⟨0,0⟩:Pos)⟩:X5),(3:Int)))else(some ((⟨4,y7,0,(⟨0,0⟩:Pos)⟩:X5),(0:Int))))))

def Z0k(p0:List UInt8):Option ((List X5)×Pos×Int):=
 bif decide (65536<(qQ p0:Int))then(some ([],(⟨1,1⟩:Pos),(2:Int)))else((X8 (fun(x1,x2)=>(bif !(decide (x2.s=([]:List UInt8)))then((Z2z x2.s).bind fun y1=>bif decide (y1<0)then(some (Lp.ret ([],x2.pos,(3:Int))))else(bif decide (0<y1)then((Q0n x2 y1).bind fun y2=>some (Lp.go (x1,y2)))else((Q0g x2.s).bind fun y3=>bif y3.2 !=0 then(some (Lp.ret ([],x2.pos,y3.2)))else((W8 (qQ x1+qQ ([{y3.1 with Pos:=x2.pos}]:List X5))).bind fun _=>(Q0n x2 (qQ y3.1.Text:Int)).bind fun y4=>some (Lp.go (x1++([{y3.1 with Pos:=x2.pos}]:List X5),y4))))))else(some (Lp.brk (x1,x2))):Option (Lp ((List X5)×N4) ((List X5)×Pos×Int)))) NN ([],(⟨p0,(⟨1,1⟩:Pos)⟩:N4))).bind fun o=>o.thn (fun(x1,x2)=>some (x1,x2.pos,(0:Int))) (fun r=>some r))

def K6(p0:Z0):Option (Pos):=
 bif (qQ p0.l:Int)==0 then(some p0.end_)else((idx p0.l 0).bind fun u1=>some u1.Pos)

def P5(p0:Z0)(p1:Int)(p2:List UInt8):Option (Bool):=
 bif decide (p1<(qQ p0.l:Int))then((idx p0.l p1).bind fun u1=>bif decide (u1.Text=p2)then((idx p0.l p1).bind fun u2=>bif u2.Kind==2 then(some true)else((idx p0.l p1).bind fun u3=>some (u3.Kind==4)))else(some false))else(some false)

def V0(p0:Z0)(p1:List UInt8):Option (Bool):=
 (P5 p0 0 p1).bind fun y1=>some y1

def Y9(p0:Z0)(p1:List UInt8):Option (Bool×Z0):=
 (V0 p0 p1).bind fun y1=>bif !y1 then(some (false,p0))else((sub p0.l 1 (qQ p0.l:Int)).bind fun u1=>some (true,{p0 with l:=u1}))

def W3(p0:Z0)(p1:Int):Option (Except (Z6) (Unit)):=
 (K6 p0).bind fun y1=>some (qK (⟨y1,p1⟩:Z6))

def Y7(p0:Z0)(p1:List UInt8):Option (Except (Z6×Z0) (Z0)):=
 (Y9 p0 p1).bind fun y1=>bif !y1.1 then((W3 y1.2 3).bind fun y2=>exC y2 (fun y2=>some (qX y1.2)) (fun e1=>some (qK (e1,y1.2))))else(some (qX y1.2))

def D9(p0:Z0)(p1:Int):Option (Except (Z6×Z0) (X5×Z0)):=
 jn (fun kk1=>bif (qQ p0.l:Int)==0 then((W3 p0 3).bind fun y2=>exC y2 (fun y2=>kk1 ()) (fun e2=>some (qK (e2,p0))))else((idx p0.l 0).bind fun u1=>bif u1.Kind !=p1 then((W3 p0 3).bind fun y1=>exC y1 (fun y1=>kk1 ()) (fun e1=>some (qK (e1,p0))))else(kk1 ()))) (fun(_:Unit)=>(idx p0.l 0).bind fun u4=>(sub p0.l 1 (qQ p0.l:Int)).bind fun u5=>some (qX (u4,{p0 with l:=u5})))

def V6(p0:Z0):Option (Except (Z6×Z0) ((List UInt8)×Z0)):=
 (D9 p0 1).bind fun y1=>exE y1 (fun y1=>some (qX (y1.1.Text,y1.2)))

def R5(p0:Z0):Option (Bool):=
 (V0 p0 ([105,110,116]:List UInt8)).bind fun y1=>bif y1 then(some true)else((V0 p0 ([99,104,97,114]:List UInt8)).bind fun y2=>bif y2 then(some true)else((V0 p0 ([118,111,105,100]:List UInt8)).bind fun y3=>bif y3 then(some true)else((V0 p0 ([115,116,114,117,99,116]:List UInt8)).bind fun y4=>some y4)))

def U6(p0:Z0):Option (Except (Z6×Z0) (F9×Z0)):=
 jn (fun kk1=>(R5 p0).bind fun y1=>bif !y1 then((W3 p0 3).bind fun y2=>exC y2 (fun y2=>kk1 ()) (fun e1=>some (qK (e1,p0))))else(kk1 ())) (fun(_:Unit)=>(idx p0.l 0).bind fun u2=>(sub p0.l 1 (qQ p0.l:Int)).bind fun u3=>jn (fun kk2=>bif decide (u2.Text=([115,116,114,117,99,116]:List UInt8))then((V6 ({p0 with l:=u3})).bind fun y3=>exE y3 (fun y3=>kk2 (⟨u2.Text,y3.1,0⟩:F9) y3.2))else(kk2 (⟨u2.Text,([]:List UInt8),0⟩:F9) ({p0 with l:=u3}))) (fun(x1:F9)(x2:Z0)=>(X8 (fun(x3,x4)=>((Y9 x4 ([42]:List UInt8)).bind fun y4=>bif y4.1 then(some (Lp.go ({x3 with Stars:=qJ .i64 (x3.Stars+1)},y4.2)))else(some (Lp.brk (x3,y4.2))):Option (Lp (F9×Z0) (Unit)))) NN (x1,x2)).bind fun o=>o.thn (fun(x3,x4)=>some (qX (x3,x4))) (fun _=>none)))

def W4(p0:Z0):Option (Except (Z6×Z0) ((List Int)×Z0)):=
 (X8 (fun(x1,x2)=>((Y9 x2 ([91]:List UInt8)).bind fun y1=>bif y1.1 then((D9 y1.2 3).bind fun y2=>exL y2 (fun y2=>(W8 (qQ x1+qQ ([y2.1.Num]:List Int))).bind fun _=>(Y7 y2.2 ([93]:List UInt8)).bind fun y3=>exL y3 (fun y3=>some (Lp.go (x1++([y2.1.Num]:List Int),y3)))))else(some (Lp.brk (x1,y1.2))):Option (Lp ((List Int)×Z0) (Except (Z6×Z0) ((List Int)×Z0))))) NN ([],p0)).bind fun o=>o.thn (fun(x1,x2)=>some (qX (x1,x2))) (fun r=>some r)

def R9(p0:Z0):Option (Except (Z6×Z0) ((List G9)×Z0)):=
 (Y7 p0 ([123]:List UInt8)).bind fun y1=>exE y1 (fun y1=>(X8 (fun(x1,x2)=>((Y9 x2 ([125]:List UInt8)).bind fun y2=>bif !y2.1 then((K6 y2.2).bind fun y3=>(U6 y2.2).bind fun y4=>exL y4 (fun y4=>(V6 y4.2).bind fun y5=>exL y5 (fun y5=>(W4 y5.2).bind fun y6=>exL y6 (fun y6=>(Y7 y6.2 ([59]:List UInt8)).bind fun y7=>exL y7 (fun y7=>(W8 (qQ x1+qQ ([(⟨y3,y4.1,y5.1,y6.1,[],false⟩:G9)]:List G9))).bind fun _=>some (Lp.go (x1++([(⟨y3,y4.1,y5.1,y6.1,[],false⟩:G9)]:List G9),y7)))))))else(some (Lp.brk (x1,y2.2))):Option (Lp ((List G9)×Z0) (Except (Z6×Z0) ((List G9)×Z0))))) NN ([],y1)).bind fun o=>o.thn (fun(x1,x2)=>(Y7 x2 ([59]:List UInt8)).bind fun y8=>exE y8 (fun y8=>some (qX (x1,y8)))) (fun r=>some r))

def F0(p0:Z0):Option (Except (Z6×Z0) (Z0)):=
 jn (fun kk1=>bif p0.depth==200 then((W3 p0 2).bind fun y1=>exC y1 (fun y1=>kk1 ()) (fun e1=>some (qK (e1,p0))))else(kk1 ())) (fun(_:Unit)=>some (qX ({p0 with depth:=qJ .i64 (p0.depth+1)})))

def E6(p0:Z0):Option ((List UInt8)):=
 bif (qQ p0.l:Int)==0 then(some ([]:List UInt8))else((idx p0.l 0).bind fun u1=>bif u1.Kind !=4 then(some ([]:List UInt8))else((idx p0.l 0).bind fun u2=>some u2.Text))

def K0(p0:Z0)(p1:Int):Option (Y2×Z0):=
 (K6 p0).bind fun y1=>(E6 p0).bind fun y2=>(sub p0.l 1 (qQ p0.l:Int)).bind fun u1=>some ((⟨p1,y1,y2,([]:List UInt8),0,(⟨([]:List UInt8),([]:List UInt8),0⟩:F9),[]⟩:Y2),{p0 with l:=u1})

def Z2w(p0:List UInt8):Option (Int):=
 bif decide (p0=([124,124]:List UInt8))then(some (1:Int))else(bif decide (p0=([38,38]:List UInt8))then(some (2:Int))else(bif decide (p0=([124]:List UInt8))then(some (3:Int))else(bif decide (p0=([94]:List UInt8))then(some (4:Int))else(bif decide (p0=([38]:List UInt8))then(some (5:Int))else(jn (fun kk1=>bif decide (p0=([61,61]:List UInt8))then(kk1 (decide (p0=([61,61]:List UInt8))))else(kk1 (decide (p0=([33,61]:List UInt8))))) (fun(x1:Bool)=>bif x1 then(some (6:Int))else(jn (fun kk2=>bif decide (p0=([60]:List UInt8))then(kk2 (decide (p0=([60]:List UInt8))))else(bif decide (p0=([62]:List UInt8))then(kk2 (decide (p0=([62]:List UInt8))))else(bif decide (p0=([60,61]:List UInt8))then(kk2 (decide (p0=([60,61]:List UInt8))))else(kk2 (decide (p0=([62,61]:List UInt8))))))) (fun(x2:Bool)=>bif x2 then(some (7:Int))else(jn (fun kk3=>bif decide (p0=([60,60]:List UInt8))then(kk3 (decide (p0=([60,60]:List UInt8))))else(kk3 (decide (p0=([62,62]:List UInt8))))) (fun(x3:Bool)=>bif x3 then(some (8:Int))else(jn (fun kk4=>bif decide (p0=([43]:List UInt8))then(kk4 (decide (p0=([43]:List UInt8))))else(kk4 (decide (p0=([45]:List UInt8))))) (fun(x4:Bool)=>bif x4 then(some (9:Int))else(jn (fun kk5=>bif decide (p0=([42]:List UInt8))then(kk5 (decide (p0=([42]:List UInt8))))else(bif decide (p0=([47]:List UInt8))then(kk5 (decide (p0=([47]:List UInt8))))else(kk5 (decide (p0=([37]:List UInt8)))))) (fun(x5:Bool)=>bif x5 then(some (10:Int))else(some (0:Int))))))))))))))))

def Q7g(p0:Z0):Option (Z0):=
 some ({p0 with depth:=qJ .i64 (p0.depth-1)})

def Q8c(p0:List UInt8):Option (Bool):=
 jn (fun kk1=>bif decide (p0=([61]:List UInt8))then(kk1 (decide (p0=([61]:List UInt8))))else(bif decide (p0=([43,61]:List UInt8))then(kk1 (decide (p0=([43,61]:List UInt8))))else(bif decide (p0=([45,61]:List UInt8))then(kk1 (decide (p0=([45,61]:List UInt8))))else(bif decide (p0=([42,61]:List UInt8))then(kk1 (decide (p0=([42,61]:List UInt8))))else(bif decide (p0=([47,61]:List UInt8))then(kk1 (decide (p0=([47,61]:List UInt8))))else(bif decide (p0=([37,61]:List UInt8))then(kk1 (decide (p0=([37,61]:List UInt8))))else(bif decide (p0=([38,61]:List UInt8))then(kk1 (decide (p0=([38,61]:List UInt8))))else(bif decide (p0=([124,61]:List UInt8))then(kk1 (decide (p0=([124,61]:List UInt8))))else(bif decide (p0=([94,61]:List UInt8))then(kk1 (decide (p0=([94,61]:List UInt8))))else(bif decide (p0=([60,60,61]:List UInt8))then(kk1 (decide (p0=([60,60,61]:List UInt8))))else(kk1 (decide (p0=([62,62,61]:List UInt8)))))))))))))) (fun(x1:Bool)=>bif x1 then(some true)else(some false))

structure Z6y where
 U2:Z0->Option (Except (Z6×Z0) ((List Y2)×Z0))
 J6:Z0->Option (Except (Z6×Z0) ((List Y2)×Z0))
 P4:Z0->Option (Except (Z6×Z0) (Y2×Z0))
 D8:Z0->Option (Except (Z6×Z0) (Y2×Z0))
 J8:Z0->Option (Except (Z6×Z0) (Y2×Z0))
 G3:Z0->Int->Option (Except (Z6×Z0) (Y2×Z0))
 E7:Z0->Option (Except (Z6×Z0) (Y2×Z0))
 X6:Z0->Option (Except (Z6×Z0) (Y2×Z0))

def M8(G:Z6y)(p0:Z0):Option (Except (Z6×Z0) ((List Y2)×Z0)):=
 (Y7 p0 ([40]:List UInt8)).bind fun y1=>exE y1 (fun y1=>(G.X6 y1).bind fun y2=>exE y2 (fun y2=>(Y7 y2.2 ([41]:List UInt8)).bind fun y3=>exE y3 (fun y3=>some (qX (([y2.1]:List Y2),y3)))))
def L2(G:Z6y)(p0:Z0):Option (Except (Z6×Z0) ((List Y2)×Z0)):=
 (Y7 p0 ([40]:List UInt8)).bind fun y1=>exE y1 (fun y1=>(Y9 y1 ([41]:List UInt8)).bind fun y2=>bif y2.1 then(some (qX ([],y2.2)))else((G.X6 y2.2).bind fun y3=>exE y3 (fun y3=>(X8 (fun(x1,x2)=>((Y9 x2 ([44]:List UInt8)).bind fun y4=>bif y4.1 then((G.X6 y4.2).bind fun y5=>exL y5 (fun y5=>(W8 (qQ x1+qQ ([y5.1]:List Y2))).bind fun _=>some (Lp.go (x1++([y5.1]:List Y2),y5.2))))else(some (Lp.brk (x1,y4.2))):Option (Lp ((List Y2)×Z0) (Except (Z6×Z0) ((List Y2)×Z0))))) NN (([y3.1]:List Y2),y3.2)).bind fun o=>o.thn (fun(x1,x2)=>(Y7 x2 ([41]:List UInt8)).bind fun y6=>exE y6 (fun y6=>some (qX (x1,y6)))) (fun r=>some r))))
def M9(G:Z6y)(p0:Z0):Option (Except (Z6×Z0) (Y2×Z0)):=
 (K6 p0).bind fun y1=>jn (fun kk1=>(Y9 p0 ([40]:List UInt8)).bind fun y2=>bif y2.1 then((G.X6 y2.2).bind fun y3=>exE y3 (fun y3=>(Y7 y3.2 ([41]:List UInt8)).bind fun y4=>exE y4 (fun y4=>kk1 y3.1 y4)))else((Y9 y2.2 ([105,110]:List UInt8)).bind fun y5=>bif y5.1 then((Y7 y5.2 ([40]:List UInt8)).bind fun y6=>exE y6 (fun y6=>(Y7 y6 ([41]:List UInt8)).bind fun y7=>exE y7 (fun y7=>kk1 (⟨7,y1,([]:List UInt8),([105,110]:List UInt8),0,(⟨([]:List UInt8),([]:List UInt8),0⟩:F9),[]⟩:Y2) y7)))else((Y9 y5.2 ([111,117,116]:List UInt8)).bind fun y8=>bif y8.1 then((G.U2 y8.2).bind fun y9=>exE y9 (fun y9=>kk1 (⟨7,y1,([]:List UInt8),([111,117,116]:List UInt8),0,(⟨([]:List UInt8),([]:List UInt8),0⟩:F9),y9.1⟩:Y2) y9.2))else(bif decide (0<(qQ y8.2.l:Int))then((idx y8.2.l 0).bind fun u6=>bif u6.Kind==3 then((D9 y8.2 3).bind fun y10=>exE y10 (fun y10=>kk1 (⟨1,y1,([]:List UInt8),([]:List UInt8),y10.1.Num,(⟨([]:List UInt8),([]:List UInt8),0⟩:F9),[]⟩:Y2) y10.2))else((V6 y8.2).bind fun y11=>exE y11 (fun y11=>(V0 y11.2 ([40]:List UInt8)).bind fun y12=>bif y12 then((G.J6 y11.2).bind fun y13=>exE y13 (fun y13=>kk1 (⟨7,y1,([]:List UInt8),y11.1,0,(⟨([]:List UInt8),([]:List UInt8),0⟩:F9),y13.1⟩:Y2) y13.2))else(kk1 (⟨2,y1,([]:List UInt8),y11.1,0,(⟨([]:List UInt8),([]:List UInt8),0⟩:F9),[]⟩:Y2) y11.2))))else((V6 y8.2).bind fun y14=>exE y14 (fun y14=>(V0 y14.2 ([40]:List UInt8)).bind fun y15=>bif y15 then((G.J6 y14.2).bind fun y16=>exE y16 (fun y16=>kk1 (⟨7,y1,([]:List UInt8),y14.1,0,(⟨([]:List UInt8),([]:List UInt8),0⟩:F9),y16.1⟩:Y2) y16.2))else(kk1 (⟨2,y1,([]:List UInt8),y14.1,0,(⟨([]:List UInt8),([]:List UInt8),0⟩:F9),[]⟩:Y2) y14.2))))))) (fun(x1:Y2)(x2:Z0)=>some (qX (x1,x2)))
def R7(G:Z6y)(p0:Z0):Option (Except (Z6×Z0) (Y2×Z0)):=
 (G.P4 p0).bind fun y1=>exE y1 (fun y1=>(X8 (fun(x1,x2)=>(jn (fun kk1=>(E6 x2).bind fun y2=>bif decide (y2=([91]:List UInt8))then((K0 x2 8).bind fun y3=>(G.X6 y3.2).bind fun y4=>exL y4 (fun y4=>(Y7 y4.2 ([93]:List UInt8)).bind fun y5=>exL y5 (fun y5=>kk1 ({y3.1 with Op:=([]:List UInt8),Kids:=([x1,y4.1]:List Y2)}) y5)))else(jn (fun kk2=>bif decide (y2=([46]:List UInt8))then(kk2 (decide (y2=([46]:List UInt8))))else(kk2 (decide (y2=([45,62]:List UInt8))))) (fun(x6:Bool)=>bif x6 then((K0 x2 9).bind fun y6=>(V6 y6.2).bind fun y7=>exL y7 (fun y7=>kk1 ({y6.1 with Name:=y7.1,Kids:=([x1]:List Y2)}) y7.2))else(jn (fun kk3=>bif decide (y2=([43,43]:List UInt8))then(kk3 (decide (y2=([43,43]:List UInt8))))else(kk3 (decide (y2=([45,45]:List UInt8))))) (fun(x7:Bool)=>bif x7 then((K0 x2 11).bind fun y8=>kk1 ({y8.1 with Kids:=([x1]:List Y2)}) y8.2)else(some (Lp.ret (qX (x1,x2))))))))) (fun(x4:Y2)(x5:Z0)=>some (Lp.go (x4,x5))):Option (Lp (Y2×Z0) (Except (Z6×Z0) (Y2×Z0))))) NN (y1.1,y1.2)).bind fun o=>o.thn (fun(x1,x2)=>none) (fun r=>some r))
def N1(G:Z6y)(p0:Z0):Option (Except (Z6×Z0) (Y2×Z0)):=
 (F0 p0).bind fun y1=>exE y1 (fun y1=>(E6 y1).bind fun y2=>jn (fun kk1=>bif decide (y2=([45]:List UInt8))then(kk1 (decide (y2=([45]:List UInt8))))else(bif decide (y2=([126]:List UInt8))then(kk1 (decide (y2=([126]:List UInt8))))else(bif decide (y2=([33]:List UInt8))then(kk1 (decide (y2=([33]:List UInt8))))else(bif decide (y2=([42]:List UInt8))then(kk1 (decide (y2=([42]:List UInt8))))else(kk1 (decide (y2=([38]:List UInt8)))))))) (fun(x1:Bool)=>bif x1 then((K0 y1 3).bind fun y3=>(G.J8 y3.2).bind fun y4=>exC y4 (fun y4=>some (qX ({y3.1 with Kids:=([y4.1]:List Y2)},{y4.2 with depth:=qJ .i64 (y4.2.depth-1)}))) (fun e1=>some (qK (e1.1,{e1.2 with depth:=qJ .i64 (e1.2.depth-1)}))))else(jn (fun kk2=>bif decide (y2=([43,43]:List UInt8))then(kk2 (decide (y2=([43,43]:List UInt8))))else(kk2 (decide (y2=([45,45]:List UInt8))))) (fun(x2:Bool)=>bif x2 then((K0 y1 10).bind fun y5=>(G.J8 y5.2).bind fun y6=>exC y6 (fun y6=>some (qX ({y5.1 with Kids:=([y6.1]:List Y2)},{y6.2 with depth:=qJ .i64 (y6.2.depth-1)}))) (fun e2=>some (qK (e2.1,{e2.2 with depth:=qJ .i64 (e2.2.depth-1)}))))else((K6 y1).bind fun y7=>(Y9 y1 ([115,105,122,101,111,102]:List UInt8)).bind fun y8=>bif y8.1 then((Y7 y8.2 ([40]:List UInt8)).bind fun y9=>exC y9 (fun y9=>(U6 y9).bind fun y10=>exC y10 (fun y10=>(Y7 y10.2 ([41]:List UInt8)).bind fun y11=>exC y11 (fun y11=>some (qX ((⟨12,y7,([]:List UInt8),([]:List UInt8),0,y10.1,[]⟩:Y2),{y11 with depth:=qJ .i64 (y11.depth-1)}))) (fun e4=>some (qK (e4.1,{e4.2 with depth:=qJ .i64 (e4.2.depth-1)})))) (fun e3=>some (qK (e3.1,{e3.2 with depth:=qJ .i64 (e3.2.depth-1)})))) (fun e5=>some (qK (e5.1,{e5.2 with depth:=qJ .i64 (e5.2.depth-1)}))))else((G.D8 y8.2).bind fun y12=>exC y12 (fun y12=>some (qX (y12.1,{y12.2 with depth:=qJ .i64 (y12.2.depth-1)}))) (fun e6=>some (qK (e6.1,{e6.2 with depth:=qJ .i64 (e6.2.depth-1)})))))))))
def L3(G:Z6y)(p0:Z0)(p1:Int):Option (Except (Z6×Z0) (Y2×Z0)):=
 (G.J8 p0).bind fun y1=>exE y1 (fun y1=>(X8 (fun(x1,x2)=>((E6 x2).bind fun y2=>(Z2w y2).bind fun y3=>bif decide (y3<p1)then(some (Lp.ret (qX (x1,x2))))else(bif y3==0 then(some (Lp.ret (qX (x1,x2))))else((K0 x2 4).bind fun y4=>(G.G3 y4.2 (qJ .i64 (y3+1))).bind fun y5=>exL y5 (fun y5=>some (Lp.go ({y4.1 with Kids:=([x1,y5.1]:List Y2)},y5.2))))):Option (Lp (Y2×Z0) (Except (Z6×Z0) (Y2×Z0))))) NN (y1.1,y1.2)).bind fun o=>o.thn (fun(x1,x2)=>none) (fun r=>some r))
def S0(G:Z6y)(p0:Z0):Option (Except (Z6×Z0) (Y2×Z0)):=
 (G.G3 p0 1).bind fun y1=>exE y1 (fun y1=>(E6 y1.2).bind fun y2=>bif !(decide (y2=([63]:List UInt8)))then(some (qX (y1.1,y1.2)))else((K0 y1.2 6).bind fun y3=>(G.X6 y3.2).bind fun y4=>exE y4 (fun y4=>(Y7 y4.2 ([58]:List UInt8)).bind fun y5=>exE y5 (fun y5=>(F0 y5).bind fun y6=>exE y6 (fun y6=>(G.E7 y6).bind fun y7=>exE y7 (fun y7=>(Q7g y7.2).bind fun y8=>some (qX ({y3.1 with Op:=([]:List UInt8),Kids:=([y1.1,y4.1,y7.1]:List Y2)},y8))))))))
def L4(G:Z6y)(p0:Z0):Option (Except (Z6×Z0) (Y2×Z0)):=
 (F0 p0).bind fun y1=>exE y1 (fun y1=>(G.E7 y1).bind fun y2=>exC y2 (fun y2=>(E6 y2.2).bind fun y3=>(Q8c y3).bind fun y4=>bif !y4 then(some (qX (y2.1,{y2.2 with depth:=qJ .i64 (y2.2.depth-1)})))else((K0 y2.2 5).bind fun y5=>(G.X6 y5.2).bind fun y6=>exC y6 (fun y6=>some (qX ({y5.1 with Kids:=([y2.1,y6.1]:List Y2)},{y6.2 with depth:=qJ .i64 (y6.2.depth-1)}))) (fun e1=>some (qK (e1.1,{e1.2 with depth:=qJ .i64 (e1.2.depth-1)}))))) (fun e2=>some (qK (e2.1,{e2.2 with depth:=qJ .i64 (e2.2.depth-1)}))))
def C6:Nat->Z6y
 |0=>⟨fun _=>none,fun _=>none,fun _=>none,fun _=>none,fun _=>none,fun _ _=>none,fun _=>none,fun _=>none⟩
 |n+1=>⟨M8 (C6 n),L2 (C6 n),M9 (C6 n),R7 (C6 n),N1 (C6 n),L3 (C6 n),S0 (C6 n),L4 (C6 n)⟩
def U2(p0:Z0):Option (Except (Z6×Z0) ((List Y2)×Z0)):=(C6 NN).U2 p0
def J6(p0:Z0):Option (Except (Z6×Z0) ((List Y2)×Z0)):=(C6 NN).J6 p0
def P4(p0:Z0):Option (Except (Z6×Z0) (Y2×Z0)):=(C6 NN).P4 p0
def D8(p0:Z0):Option (Except (Z6×Z0) (Y2×Z0)):=(C6 NN).D8 p0
def J8(p0:Z0):Option (Except (Z6×Z0) (Y2×Z0)):=(C6 NN).J8 p0
def G3(p0:Z0)(p1:Int):Option (Except (Z6×Z0) (Y2×Z0)):=(C6 NN).G3 p0 p1
def E7(p0:Z0):Option (Except (Z6×Z0) (Y2×Z0)):=(C6 NN).E7 p0
def X6(p0:Z0):Option (Except (Z6×Z0) (Y2×Z0)):=(C6 NN).X6 p0

def E4(p0:Z0)(p1:G9):Option (Except (Z6×Z0) (G9×Z0)):=
 (W4 p0).bind fun y1=>exE y1 (fun y1=>jn (fun kk1=>(Y9 y1.2 ([61]:List UInt8)).bind fun y2=>bif y2.1 then((Y9 y2.2 ([123]:List UInt8)).bind fun y3=>(X6 y3.2).bind fun y4=>exE y4 (fun y4=>(W8 (qQ ([]:List Y2)+qQ ([y4.1]:List Y2))).bind fun _=>(X8 (fun(x7,x8)=>(bif x7.Brace then((Y9 x8 ([44]:List UInt8)).bind fun y5=>bif y5.1 then((X6 y5.2).bind fun y6=>exL y6 (fun y6=>(W8 (qQ x7.Init+qQ ([y6.1]:List Y2))).bind fun _=>some (Lp.go ({x7 with Init:=x7.Init++([y6.1]:List Y2)},y6.2))))else(some (Lp.brk (x7,y5.2))))else(some (Lp.brk (x7,x8))):Option (Lp (G9×Z0) (Except (Z6×Z0) (G9×Z0))))) NN ({p1 with Dims:=y1.1,Init:=([]:List Y2)++([y4.1]:List Y2),Brace:=y3.1},y4.2)).bind fun o=>o.thn (fun(x7,x8)=>bif x7.Brace then((Y7 x8 ([125]:List UInt8)).bind fun y7=>exE y7 (fun y7=>kk1 x7 y7))else(kk1 x7 x8)) (fun r=>some r)))else(kk1 ({p1 with Dims:=y1.1,Init:=[]}) y2.2)) (fun(x3:G9)(x4:Z0)=>(Y7 x4 ([59]:List UInt8)).bind fun y10=>exE y10 (fun y10=>some (qX (x3,y10)))))

def M6(p0:Z0):Option (Except (Z6×Z0) ((List G9)×Z0)):=
 (Y7 p0 ([40]:List UInt8)).bind fun y1=>exE y1 (fun y1=>jn (fun kk1=>(V0 y1 ([118,111,105,100]:List UInt8)).bind fun y2=>bif y2 then((P5 y1 1 ([41]:List UInt8)).bind fun y3=>bif y3 then((Y7 y1 ([118,111,105,100]:List UInt8)).bind fun y4=>exE y4 (fun y4=>kk1 y4))else(kk1 y1))else(kk1 y1)) (fun(x1:Z0)=>(Y9 x1 ([41]:List UInt8)).bind fun y5=>bif y5.1 then(some (qX ([],y5.2)))else((X8 (fun(x2,x3)=>((K6 x3).bind fun y6=>(U6 x3).bind fun y7=>exL y7 (fun y7=>(V6 y7.2).bind fun y8=>exL y8 (fun y8=>(W8 (qQ x2+qQ ([(⟨y6,y7.1,y8.1,[],[],false⟩:G9)]:List G9))).bind fun _=>(Y9 y8.2 ([44]:List UInt8)).bind fun y9=>bif !y9.1 then((Y7 y9.2 ([41]:List UInt8)).bind fun y10=>exL y10 (fun y10=>some (Lp.ret (qX (x2++([(⟨y6,y7.1,y8.1,[],[],false⟩:G9)]:List G9),y10)))))else(some (Lp.go (x2++([(⟨y6,y7.1,y8.1,[],[],false⟩:G9)]:List G9),y9.2))))):Option (Lp ((List G9)×Z0) (Except (Z6×Z0) ((List G9)×Z0))))) NN ([],y5.2)).bind fun o=>o.thn (fun(x2,x3)=>none) (fun r=>some r))))

def L1(p0:Z0):Option (Except (Z6×Z0) (G9×Z0)):=
 (K6 p0).bind fun y1=>(U6 p0).bind fun y2=>exE y2 (fun y2=>(V6 y2.2).bind fun y3=>exE y3 (fun y3=>(E4 y3.2 (⟨y1,y2.1,y3.1,[],[],false⟩:G9)).bind fun y4=>exE y4 (fun y4=>some (qX (y4.1,y4.2)))))

def N2(p0:Z0)(p1:List UInt8):Option (Except (Z6×Z0) ((List Y2)×Z0)):=
 (Y9 p0 p1).bind fun y1=>bif y1.1 then(some (qX ([],y1.2)))else((X6 y1.2).bind fun y2=>exE y2 (fun y2=>(Y7 y2.2 p1).bind fun y3=>exE y3 (fun y3=>some (qX (([y2.1]:List Y2),y3)))))

def I8(p0:Z0)(p1:E0):Option (Except (Z6×Z0×E0) (Z0×E0)):=
 (Y9 p0 ([114,101,116,117,114,110]:List UInt8)).bind fun y1=>bif y1.1 then((N2 y1.2 ([59]:List UInt8)).bind fun y2=>exC y2 (fun y2=>some (qX (y2.2,{p1 with Kind:=8,A:=y2.1}))) (fun e1=>some (qK (e1.1,e1.2,p1))))else((Y9 y1.2 ([98,114,101,97,107]:List UInt8)).bind fun y3=>bif y3.1 then((Y7 y3.2 ([59]:List UInt8)).bind fun y4=>exC y4 (fun y4=>some (qX (y4,{p1 with Kind:=9}))) (fun e2=>some (qK (e2.1,e2.2,{p1 with Kind:=9}))))else((Y9 y3.2 ([99,111,110,116,105,110,117,101]:List UInt8)).bind fun y5=>bif y5.1 then((Y7 y5.2 ([59]:List UInt8)).bind fun y6=>exC y6 (fun y6=>some (qX (y6,{p1 with Kind:=10}))) (fun e3=>some (qK (e3.1,e3.2,{p1 with Kind:=10}))))else((X6 y5.2).bind fun y7=>exC y7 (fun y7=>(Y7 y7.2 ([59]:List UInt8)).bind fun y8=>exC y8 (fun y8=>some (qX (y8,{p1 with Kind:=1,A:=([y7.1]:List Y2)}))) (fun e4=>some (qK (e4.1,e4.2,{p1 with Kind:=1,A:=([y7.1]:List Y2)})))) (fun e5=>some (qK (e5.1,e5.2,p1))))))

structure Rec2 where
 J2:Z0->Option (Except (Z6×Z0) ((List E0)×Z0))
 M4:Z0->Option (Except (Z6×Z0) ((List Q1d)×Z0))
 J9:Z0->Option (Except (Z6×Z0) (E0×Z0))
 J0:Z0->Option (Except (Z6×Z0) ((List E0)×Z0))

def S4(G:Rec2)(p0:Z0):Option (Except (Z6×Z0) ((List E0)×Z0)):=
 (G.J9 p0).bind fun y1=>exE y1 (fun y1=>bif y1.1.Kind==11 then(some (qX (y1.1.Body,y1.2)))else(some (qX (([y1.1]:List E0),y1.2))))
def O8(G:Rec2)(p0:Z0):Option (Except (Z6×Z0) ((List Q1d)×Z0)):=
 (Y7 p0 ([123]:List UInt8)).bind fun y1=>exE y1 (fun y1=>(X8 (fun(x1,x2)=>((Y9 x2 ([125]:List UInt8)).bind fun y2=>bif !y2.1 then((K6 y2.2).bind fun y3=>jn (fun kk1=>(Y9 y2.2 ([100,101,102,97,117,108,116]:List UInt8)).bind fun y4=>bif y4.1 then(kk1 (⟨y3,true,0,[]⟩:Q1d) y4.2)else((Y7 y4.2 ([99,97,115,101]:List UInt8)).bind fun y5=>exL y5 (fun y5=>(Y9 y5 ([45]:List UInt8)).bind fun y6=>(D9 y6.2 3).bind fun y7=>exL y7 (fun y7=>bif y6.1 then(kk1 (⟨y3,false,qJ .u32 (0-y7.1.Num),[]⟩:Q1d) y7.2)else(kk1 (⟨y3,false,y7.1.Num,[]⟩:Q1d) y7.2))))) (fun(x4:Q1d)(x5:Z0)=>(Y7 x5 ([58]:List UInt8)).bind fun y8=>exL y8 (fun y8=>(X8 (fun(x7,x8)=>((V0 x8 ([99,97,115,101]:List UInt8)).bind fun y9=>bif !y9 then((V0 x8 ([100,101,102,97,117,108,116]:List UInt8)).bind fun y10=>bif !y10 then((V0 x8 ([125]:List UInt8)).bind fun y11=>bif !y11 then((G.J9 x8).bind fun y12=>exL y12 (fun y12=>(W8 (qQ x7.Body+qQ ([y12.1]:List E0))).bind fun _=>some (Lp.go ({x7 with Body:=x7.Body++([y12.1]:List E0)},y12.2))))else(some (Lp.brk (x7,x8))))else(some (Lp.brk (x7,x8))))else(some (Lp.brk (x7,x8))):Option (Lp (Q1d×Z0) (Except (Z6×Z0) ((List Q1d)×Z0))))) NN (x4,y8)).bind fun o=>o.thn (fun(x7,x8)=>(W8 (qQ x1+qQ ([x7]:List Q1d))).bind fun _=>some (Lp.go (x1++([x7]:List Q1d),x8))) (fun r=>some (Lp.ret r)))))else(some (Lp.brk (x1,y2.2))):Option (Lp ((List Q1d)×Z0) (Except (Z6×Z0) ((List Q1d)×Z0))))) NN ([],y1)).bind fun o=>o.thn (fun(x1,x2)=>some (qX (x1,x2))) (fun r=>some r))
def A9(G:Rec2)(p0:Z0):Option (Except (Z6×Z0) (E0×Z0)):=
 (F0 p0).bind fun y1=>exE y1 (fun y1=>(K6 y1).bind fun y2=>jn (fun kk1=>(R5 y1).bind fun y3=>bif y3 then((L1 y1).bind fun y4=>exC y4 (fun y4=>kk1 (⟨2,y2,[],[],[],([y4.1]:List G9),[],[],[]⟩:E0) y4.2) (fun e1=>some (qK (e1.1,{e1.2 with depth:=qJ .i64 (e1.2.depth-1)}))))else((V0 y1 ([123]:List UInt8)).bind fun y5=>bif y5 then((G.J0 y1).bind fun y6=>exC y6 (fun y6=>kk1 (⟨11,y2,[],[],[],[],y6.1,[],[]⟩:E0) y6.2) (fun e2=>some (qK (e2.1,{e2.2 with depth:=qJ .i64 (e2.2.depth-1)}))))else((Y9 y1 ([59]:List UInt8)).bind fun y7=>bif y7.1 then(kk1 (⟨12,y2,[],[],[],[],[],[],[]⟩:E0) y7.2)else((Y9 y7.2 ([105,102]:List UInt8)).bind fun y8=>bif y8.1 then((U2 y8.2).bind fun y9=>exC y9 (fun y9=>(G.J2 y9.2).bind fun y10=>exC y10 (fun y10=>(Y9 y10.2 ([101,108,115,101]:List UInt8)).bind fun y11=>bif y11.1 then((G.J2 y11.2).bind fun y12=>exC y12 (fun y12=>kk1 (⟨3,y2,y9.1,[],[],[],y10.1,y12.1,[]⟩:E0) y12.2) (fun e3=>some (qK (e3.1,{e3.2 with depth:=qJ .i64 (e3.2.depth-1)}))))else(kk1 (⟨3,y2,y9.1,[],[],[],y10.1,[],[]⟩:E0) y11.2)) (fun e4=>some (qK (e4.1,{e4.2 with depth:=qJ .i64 (e4.2.depth-1)})))) (fun e5=>some (qK (e5.1,{e5.2 with depth:=qJ .i64 (e5.2.depth-1)}))))else((Y9 y8.2 ([119,104,105,108,101]:List UInt8)).bind fun y13=>bif y13.1 then((U2 y13.2).bind fun y14=>exC y14 (fun y14=>(G.J2 y14.2).bind fun y15=>exC y15 (fun y15=>kk1 (⟨4,y2,y14.1,[],[],[],y15.1,[],[]⟩:E0) y15.2) (fun e6=>some (qK (e6.1,{e6.2 with depth:=qJ .i64 (e6.2.depth-1)})))) (fun e7=>some (qK (e7.1,{e7.2 with depth:=qJ .i64 (e7.2.depth-1)}))))else((Y9 y13.2 ([100,111]:List UInt8)).bind fun y16=>bif y16.1 then((G.J2 y16.2).bind fun y17=>exC y17 (fun y17=>(Y7 y17.2 ([119,104,105,108,101]:List UInt8)).bind fun y18=>exC y18 (fun y18=>(U2 y18).bind fun y19=>exC y19 (fun y19=>(Y7 y19.2 ([59]:List UInt8)).bind fun y20=>exC y20 (fun y20=>kk1 (⟨5,y2,y19.1,[],[],[],y17.1,[],[]⟩:E0) y20) (fun e8=>some (qK (e8.1,{e8.2 with depth:=qJ .i64 (e8.2.depth-1)})))) (fun e9=>some (qK (e9.1,{e9.2 with depth:=qJ .i64 (e9.2.depth-1)})))) (fun e10=>some (qK (e10.1,{e10.2 with depth:=qJ .i64 (e10.2.depth-1)})))) (fun e11=>some (qK (e11.1,{e11.2 with depth:=qJ .i64 (e11.2.depth-1)}))))else((Y9 y16.2 ([102,111,114]:List UInt8)).bind fun y21=>bif y21.1 then((Y7 y21.2 ([40]:List UInt8)).bind fun y22=>exC y22 (fun y22=>(N2 y22 ([59]:List UInt8)).bind fun y23=>exC y23 (fun y23=>(N2 y23.2 ([59]:List UInt8)).bind fun y24=>exC y24 (fun y24=>(N2 y24.2 ([41]:List UInt8)).bind fun y25=>exC y25 (fun y25=>(G.J2 y25.2).bind fun y26=>exC y26 (fun y26=>kk1 (⟨6,y2,y23.1,y24.1,y25.1,[],y26.1,[],[]⟩:E0) y26.2) (fun e12=>some (qK (e12.1,{e12.2 with depth:=qJ .i64 (e12.2.depth-1)})))) (fun e13=>some (qK (e13.1,{e13.2 with depth:=qJ .i64 (e13.2.depth-1)})))) (fun e14=>some (qK (e14.1,{e14.2 with depth:=qJ .i64 (e14.2.depth-1)})))) (fun e15=>some (qK (e15.1,{e15.2 with depth:=qJ .i64 (e15.2.depth-1)})))) (fun e16=>some (qK (e16.1,{e16.2 with depth:=qJ .i64 (e16.2.depth-1)}))))else((Y9 y21.2 ([115,119,105,116,99,104]:List UInt8)).bind fun y27=>bif y27.1 then((U2 y27.2).bind fun y28=>exC y28 (fun y28=>(G.M4 y28.2).bind fun y29=>exC y29 (fun y29=>kk1 (⟨7,y2,y28.1,[],[],[],[],[],y29.1⟩:E0) y29.2) (fun e17=>some (qK (e17.1,{e17.2 with depth:=qJ .i64 (e17.2.depth-1)})))) (fun e18=>some (qK (e18.1,{e18.2 with depth:=qJ .i64 (e18.2.depth-1)}))))else((I8 y27.2 (⟨0,y2,[],[],[],[],[],[],[]⟩:E0)).bind fun y30=>exC y30 (fun y30=>kk1 y30.2 y30.1) (fun e19=>some (qK (e19.1,{e19.2.1 with depth:=qJ .i64 (e19.2.1.depth-1)})))))))))))) (fun(x1:E0)(x2:Z0)=>some (qX (x1,{x2 with depth:=qJ .i64 (x2.depth-1)}))))
def O9(G:Rec2)(p0:Z0):Option (Except (Z6×Z0) ((List E0)×Z0)):=
 (Y7 p0 ([123]:List UInt8)).bind fun y1=>exE y1 (fun y1=>(X8 (fun(x1,x2)=>((Y9 x2 ([125]:List UInt8)).bind fun y2=>bif !y2.1 then((G.J9 y2.2).bind fun y3=>exL y3 (fun y3=>(W8 (qQ x1+qQ ([y3.1]:List E0))).bind fun _=>some (Lp.go (x1++([y3.1]:List E0),y3.2))))else(some (Lp.brk (x1,y2.2))):Option (Lp ((List E0)×Z0) (Except (Z6×Z0) ((List E0)×Z0))))) NN ([],y1)).bind fun o=>o.thn (fun(x1,x2)=>some (qX (x1,x2))) (fun r=>some r))
def Q5s:Nat->Rec2
 |0=>⟨fun _=>none,fun _=>none,fun _=>none,fun _=>none⟩
 |n+1=>⟨S4 (Q5s n),O8 (Q5s n),A9 (Q5s n),O9 (Q5s n)⟩
def J2(p0:Z0):Option (Except (Z6×Z0) ((List E0)×Z0)):=(Q5s NN).J2 p0
def M4(p0:Z0):Option (Except (Z6×Z0) ((List Q1d)×Z0)):=(Q5s NN).M4 p0
def J9(p0:Z0):Option (Except (Z6×Z0) (E0×Z0)):=(Q5s NN).J9 p0
def J0(p0:Z0):Option (Except (Z6×Z0) ((List E0)×Z0)):=(Q5s NN).J0 p0

def G5(p0:Z0)(p1:K1):Option (Except (Z6×Z0×K1) (Z0×K1)):=
 (K6 p0).bind fun y1=>(V0 p0 ([115,116,114,117,99,116]:List UInt8)).bind fun y2=>bif y2 then((P5 p0 2 ([123]:List UInt8)).bind fun y3=>bif y3 then((Y7 p0 ([115,116,114,117,99,116]:List UInt8)).bind fun y4=>exC y4 (fun y4=>jn (fun kk1=>(V6 y4).bind fun y5=>exC y5 (fun y5=>kk1 y5.2 (⟨y1,y5.1,[]⟩:Q2n)) (fun e1=>some (qK (e1.1,e1.2,p1)))) (fun(x1:Z0)(x2:Q2n)=>(R9 x1).bind fun y6=>exC y6 (fun y6=>(W8 (qQ p1.Structs+qQ ([{x2 with Fields:=y6.1}]:List Q2n))).bind fun _=>some (qX (y6.2,{p1 with Structs:=p1.Structs++([{x2 with Fields:=y6.1}]:List Q2n)}))) (fun e2=>some (qK (e2.1,e2.2,p1))))) (fun e3=>some (qK (e3.1,e3.2,p1))))else((U6 p0).bind fun y7=>exC y7 (fun y7=>(V6 y7.2).bind fun y8=>exC y8 (fun y8=>(V0 y8.2 ([40]:List UInt8)).bind fun y9=>bif !y9 then((E4 y8.2 (⟨y1,y7.1,y8.1,[],[],false⟩:G9)).bind fun y10=>exC y10 (fun y10=>(W8 (qQ p1.Globals+qQ ([y10.1]:List G9))).bind fun _=>some (qX (y10.2,{p1 with Globals:=p1.Globals++([y10.1]:List G9)}))) (fun e4=>some (qK (e4.1,e4.2,p1))))else(jn (fun kk2=>(M6 y8.2).bind fun y11=>exC y11 (fun y11=>kk2 y11.2 (⟨y1,y7.1,y8.1,y11.1,[]⟩:I1)) (fun e5=>some (qK (e5.1,e5.2,p1)))) (fun(x3:Z0)(x4:I1)=>(J0 x3).bind fun y12=>exC y12 (fun y12=>(W8 (qQ p1.Funcs+qQ ([{x4 with Body:=y12.1}]:List I1))).bind fun _=>some (qX (y12.2,{p1 with Funcs:=p1.Funcs++([{x4 with Body:=y12.1}]:List I1)}))) (fun e6=>some (qK (e6.1,e6.2,p1)))))) (fun e7=>some (qK (e7.1,e7.2,p1)))) (fun e8=>some (qK (e8.1,e8.2,p1)))))else((U6 p0).bind fun y13=>exC y13 (fun y13=>(V6 y13.2).bind fun y14=>exC y14 (fun y14=>(V0 y14.2 ([40]:List UInt8)).bind fun y15=>bif !y15 then((E4 y14.2 (⟨y1,y13.1,y14.1,[],[],false⟩:G9)).bind fun y16=>exC y16 (fun y16=>(W8 (qQ p1.Globals+qQ ([y16.1]:List G9))).bind fun _=>some (qX (y16.2,{p1 with Globals:=p1.Globals++([y16.1]:List G9)}))) (fun e9=>some (qK (e9.1,e9.2,p1))))else(jn (fun kk3=>(M6 y14.2).bind fun y17=>exC y17 (fun y17=>kk3 y17.2 (⟨y1,y13.1,y14.1,y17.1,[]⟩:I1)) (fun e10=>some (qK (e10.1,e10.2,p1)))) (fun(x5:Z0)(x6:I1)=>(J0 x5).bind fun y18=>exC y18 (fun y18=>(W8 (qQ p1.Funcs+qQ ([{x6 with Body:=y18.1}]:List I1))).bind fun _=>some (qX (y18.2,{p1 with Funcs:=p1.Funcs++([{x6 with Body:=y18.1}]:List I1)}))) (fun e11=>some (qK (e11.1,e11.2,p1)))))) (fun e12=>some (qK (e12.1,e12.2,p1)))) (fun e13=>some (qK (e13.1,e13.2,p1))))

def Q0j(p0:Z0):Option (Except (K1×Z6×Z0) (K1×Z0)):=
 (X8 (fun(x4,x5)=>(bif decide (0<(qQ x5.l:Int))then((G5 x5 x4).bind fun y1=>exC y1 (fun y1=>some (Lp.go (y1.2,y1.1))) (fun e1=>some (Lp.ret (qK ((⟨[],[],[]⟩:K1),e1.1,e1.2.1)))))else(some (Lp.brk (x4,x5))):Option (Lp (K1×Z0) (Except (K1×Z6×Z0) (K1×Z0))))) NN ((⟨[],[],[]⟩:K1),p0)).bind fun o=>o.thn (fun(x4,x5)=>some (qX (x4,x5))) (fun r=>some r)

def Q5j(p0:List UInt8):Option (K1×Pos×Int):=
 (Z0k p0).bind fun y1=>bif y1.2.2 !=0 then(some ((⟨[],[],[]⟩:K1),y1.2.1,y1.2.2))else((Q0j (⟨y1.1,y1.2.1,0⟩:Z0)).bind fun y2=>exC y2 (fun y2=>some (y2.1,y1.2.1,(0:Int))) (fun e1=>some ((⟨[],[],[]⟩:K1),e1.2.1.pos,e1.2.1.e)))

def Y1b:Option (Z5):=
 some (⟨([(⟨(⟨0,0,0,([]:List UInt8),[]⟩:Q5t),0,0,false⟩:U8),(⟨(⟨1,0,0,([]:List UInt8),[]⟩:Q5t),4,4,false⟩:U8),(⟨(⟨2,0,0,([]:List UInt8),[]⟩:Q5t),1,1,false⟩:U8)]:List U8)⟩:Z5)

def Q6j(p0:U8)(p1:List UInt8):Option (Bool):=
 some ((p0.Type_.Kind==5)&&(decide (p0.Type_.Name=p1)))

def Q5k(p0:List U8)(p1:List UInt8):Option (Int):=
 (X8 (fun(x1:Int)=>(bif decide (x1<(qQ p0:Int))then((idx p0 x1).bind fun u1=>(Q6j u1 p1).bind fun y1=>bif y1 then(some (Lp.ret x1))else(some (Lp.go (qJ .i64 (x1+1)))))else(some (Lp.brk x1)):Option (Lp (Int) (Int)))) NN (0:Int)).bind fun o=>o.thn (fun(x1:Int)=>some ((-1):Int)) (fun r=>some r)

def Q1p(p0:Z5)(p1:List UInt8):Option (Int):=
 (Q5k p0.list p1).bind fun y1=>some y1

def Q8f(p0:U8)(p1:U8):Option (Bool):=
 some ((((p0.Type_.Kind==p1.Type_.Kind)&&(p0.Type_.Elem==p1.Type_.Elem))&&(p0.Type_.Len==p1.Type_.Len))&&(p1.Type_.Kind !=5))

def Q3k(p0:List U8)(p1:U8):Option (Int):=
 (X8 (fun(x1:Int)=>(bif decide (x1<(qQ p0:Int))then((idx p0 x1).bind fun u1=>(Q8f u1 p1).bind fun y1=>bif y1 then(some (Lp.ret x1))else(some (Lp.go (qJ .i64 (x1+1)))))else(some (Lp.brk x1)):Option (Lp (Int) (Int)))) NN (0:Int)).bind fun o=>o.thn (fun(x1:Int)=>some ((-1):Int)) (fun r=>some r)

def Q3m(p0:Z5)(p1:U8):Option (Int×Int×Z5):=
 (Q3k p0.list p1).bind fun y1=>bif decide (0<=y1)then(some (y1,(0:Int),p0))else(bif decide (400<=(qQ p0.list:Int))then(some ((0:Int),(8:Int),p0))else((W8 (qQ p0.list+qQ ([p1]:List U8))).bind fun _=>some (qJ .i64 ((qQ (p0.list++([p1]:List U8)):Int)-1),(0:Int),(⟨p0.list++([p1]:List U8)⟩:Z5))))

def Q6s(p0:Z5)(p1:List UInt8):Option (Int×Int×Z5):=
 bif decide (p1=([]:List UInt8))then(some ((0:Int),(1:Int),p0))else((Q1p p0 p1).bind fun y1=>bif decide (0<=y1)then(some ((0:Int),(6:Int),p0))else((Q3m p0 (⟨(⟨5,0,0,p1,[]⟩:Q5t),0,0,true⟩:U8)).bind fun y2=>some (y2.1,y2.2.1,y2.2.2)))

def X0(p0:Pos)(p1:Int):Option (Except (Z1) (Unit)):=
 some (qK (⟨p0,p1⟩:Z1))

def R4(p0:Pos)(p1:Int):Option (Except (Z1) (Unit)):=
 bif p1 !=0 then((X0 p0 p1).bind fun y1=>exC y1 (fun y1=>none) (fun e1=>some (qK e1)))else(some (qX ()))

def Q6t(p0:Z5)(p1:List UInt8):Option (Int×Int):=
 (Q1p p0 p1).bind fun y1=>bif decide (y1<0)then(some ((0:Int),(4:Int)))else(some (y1,(0:Int)))

def M7(p0:Z5)(p1:Int):Option (Bool):=
 some ((decide (0<=p1))&&(decide (p1<(qQ p0.list:Int))))

def Q0u(p0:Z5)(p1:Int):Option (Int×Int×Z5):=
 (M7 p0 p1).bind fun y1=>bif !y1 then(some ((0:Int),(4:Int),p0))else((Q3m p0 (⟨(⟨3,p1,0,([]:List UInt8),[]⟩:Q5t),4,4,false⟩:U8)).bind fun y2=>some (y2.1,y2.2.1,y2.2.2))

def K7(p0:Q0)(p1:Pos)(p2:F9):Option (Except (Z1×Q0) (Int×Q0)):=
 jn (fun kk1=>bif decide (p2.Word=([105,110,116]:List UInt8))then(kk1 (1:Int))else(bif decide (p2.Word=([99,104,97,114]:List UInt8))then(kk1 (2:Int))else(bif decide (p2.Word=([115,116,114,117,99,116]:List UInt8))then((Q6t p0.t p2.Name).bind fun y1=>(R4 p1 y1.2).bind fun y2=>exC y2 (fun y2=>kk1 y1.1) (fun e1=>some (qK (e1,p0))))else(kk1 (0:Int))))) (fun(x1:Int)=>(X8 (fun(x3,x4,x5)=>(bif decide (x4<p2.Stars)then((Q0u x5 x3).bind fun y3=>(R4 p1 y3.2.1).bind fun y4=>exC y4 (fun y4=>some (Lp.go (y3.1,qJ .i64 (x4+1),y3.2.2))) (fun e2=>some (Lp.ret (qK (e2,{p0 with t:=y3.2.2})))))else(some (Lp.brk (x3,x4,x5))):Option (Lp (Int×Int×Z5) (Except (Z1×Q0) (Int×Q0))))) NN (x1,(0:Int),p0.t)).bind fun o=>o.thn (fun(x3,x4,x5)=>some (qX (x3,{p0 with t:=x5}))) (fun r=>some r))

def Q5p(p0:Z5)(p1:Int)(p2:Int):Option (Int×Int×Z5):=
 (M7 p0 p1).bind fun y1=>bif !y1 then(some ((0:Int),(4:Int),p0))else((idx p0.list p1).bind fun u1=>bif u1.size==0 then(some ((0:Int),(5:Int),p0))else(bif decide (p2<1)then(some ((0:Int),(1:Int),p0))else((idx p0.list p1).bind fun u2=>(nz u2.size).bind fun _=>bif decide ((qJ .i64 (Int.tdiv 32768 u2.size))<p2)then(some ((0:Int),(2:Int),p0))else((idx p0.list p1).bind fun u3=>(Q3m p0 (⟨(⟨4,p1,p2,([]:List UInt8),[]⟩:Q5t),qJ .i64 (p2*u3.size),u3.align,false⟩:U8)).bind fun y2=>some (y2.1,y2.2.1,y2.2.2)))))

def M0(p0:Q0)(p1:G9):Option (Except (Z1×Q0) (Int×Q0)):=
 (K7 p0 p1.Pos p1.Type_).bind fun y1=>exE y1 (fun y1=>(X8 (fun(x2,x3,x4)=>(bif decide (0<=x3)then((idx p1.Dims x3).bind fun u1=>(Q5p x4 x2 (qJ .i64 u1)).bind fun y2=>(R4 p1.Pos y2.2.1).bind fun y3=>exC y3 (fun y3=>some (Lp.go (y2.1,qJ .i64 (x3-1),y2.2.2))) (fun e1=>some (Lp.ret (qK (e1,{y1.2 with t:=y2.2.2})))))else(some (Lp.brk (x2,x3,x4))):Option (Lp (Int×Int×Z5) (Except (Z1×Q0) (Int×Q0))))) NN (y1.1,qJ .i64 ((qQ p1.Dims:Int)-1),y1.2.t)).bind fun o=>o.thn (fun(x2,x3,x4)=>some (qX (x2,{y1.2 with t:=x4}))) (fun r=>some r))

def Q8j(p0:K5):Option (Bool):=
 some (decide (p0.Name=([]:List UInt8)))

def Q3j(p0:List K5):Option (Int):=
 (X8 (fun(x1:Int)=>(bif decide (x1<(qQ p0:Int))then((idx p0 x1).bind fun u1=>(Q8j u1).bind fun y1=>bif y1 then(some (Lp.ret x1))else(some (Lp.go (qJ .i64 (x1+1)))))else(some (Lp.brk x1)):Option (Lp (Int) (Int)))) NN (0:Int)).bind fun o=>o.thn (fun(x1:Int)=>some ((-1):Int)) (fun r=>some r)

def Q5i(p0:List K5):Option (Bool):=
 (Q3j p0).bind fun y1=>some (decide (0<=y1))

def Q8i(p0:K5)(p1:Z5):Option (Bool):=
 (M7 p1 p0.Type_).bind fun y1=>some (!y1)

def Q3i(p0:List K5)(p1:Z5):Option (Int):=
 (X8 (fun(x1:Int)=>(bif decide (x1<(qQ p0:Int))then((idx p0 x1).bind fun u1=>(Q8i u1 p1).bind fun y1=>bif y1 then(some (Lp.ret x1))else(some (Lp.go (qJ .i64 (x1+1)))))else(some (Lp.brk x1)):Option (Lp (Int) (Int)))) NN (0:Int)).bind fun o=>o.thn (fun(x1:Int)=>some ((-1):Int)) (fun r=>some r)

def Q3s(p0:List K5)(p1:Z5):Option (Bool):=
 (Q3i p0 p1).bind fun y1=>some (decide (0<=y1))

def U9(p0:Z5)(p1:Int):Option (Int):=
 (M7 p0 p1).bind fun y1=>bif !y1 then(some (0:Int))else((idx p0.list p1).bind fun u1=>some u1.size)

def Q8h(p0:K5)(p1:Z5):Option (Bool):=
 (U9 p1 p0.Type_).bind fun y1=>some (y1==0)

def Q3h(p0:List K5)(p1:Z5):Option (Int):=
 (X8 (fun(x1:Int)=>(bif decide (x1<(qQ p0:Int))then((idx p0 x1).bind fun u1=>(Q8h u1 p1).bind fun y1=>bif y1 then(some (Lp.ret x1))else(some (Lp.go (qJ .i64 (x1+1)))))else(some (Lp.brk x1)):Option (Lp (Int) (Int)))) NN (0:Int)).bind fun o=>o.thn (fun(x1:Int)=>some ((-1):Int)) (fun r=>some r)

def Q3r(p0:List K5)(p1:Z5):Option (Bool):=
 (Q3h p0 p1).bind fun y1=>some (decide (0<=y1))

def Q8g(p0:K5)(p1:K5):Option (Bool):=
 some (decide (p0.Name=p1.Name))

def Q3g(p0:List K5)(p1:K5):Option (Int):=
 (X8 (fun(x1:Int)=>(bif decide (x1<(qQ p0:Int))then((idx p0 x1).bind fun u1=>(Q8g u1 p1).bind fun y1=>bif y1 then(some (Lp.ret x1))else(some (Lp.go (qJ .i64 (x1+1)))))else(some (Lp.brk x1)):Option (Lp (Int) (Int)))) NN (0:Int)).bind fun o=>o.thn (fun(x1:Int)=>some ((-1):Int)) (fun r=>some r)

def Q1i(p0:List K5)(p1:K5):Option (Bool):=
 (Q3g p0 p1).bind fun y1=>some (decide (0<=y1))

def Q7t(p0:Z5)(p1:List K5):Option (Int):=
 bif (qQ p1:Int)==0 then(some (1:Int))else((Q5i p1).bind fun y1=>bif y1 then(some (1:Int))else((Q3s p1 p0).bind fun y2=>bif y2 then(some (4:Int))else((Q3r p1 p0).bind fun y3=>bif y3 then(some (5:Int))else((X8 (fun(x1:Int)=>(bif decide (x1<(qQ p1:Int))then((idx p1 x1).bind fun u1=>(sub p1 0 x1).bind fun u2=>(Q1i u2 u1).bind fun y4=>bif y4 then(some (Lp.ret (6:Int)))else(some (Lp.go (qJ .i64 (x1+1)))))else(some (Lp.brk x1)):Option (Lp (Int) (Int)))) NN (0:Int)).bind fun o=>o.thn (fun(x1:Int)=>some (0:Int)) (fun r=>some r)))))

def Q8d(p0:List K5):Option ((List K5)):=
 (W8 (qQ ([]:List K5)+qQ p0)).bind fun _=>some (([]:List K5)++p0)

def W9(p0:Z5)(p1:Int):Option (Int):=
 (M7 p0 p1).bind fun y1=>bif !y1 then(some (0:Int))else((idx p0.list p1).bind fun u1=>some u1.align)

def Z5p(p0:Int)(p1:Int):Option (Int):=
 (nz p1).bind fun _=>some (qJ .i64 ((qJ .i64 (Int.tdiv (qJ .i64 ((qJ .i64 (p0+p1))-1)) p1))*p1))

def Q2r(p0:K5)(p1:Int)(p2:Z5)(p3:Int):Option (Bool×K5×Int×Int):=
 (W9 p2 p0.Type_).bind fun y1=>(Z5p p1 y1).bind fun y2=>(U9 p2 p0.Type_).bind fun y3=>(W9 p2 p0.Type_).bind fun y4=>some (decide ((qJ .i64 (y2+y3))<=32768),{p0 with At:=y2},qJ .i64 (y2+y3),max p3 y4)

def Q4n(p0:Z5)(p1:List UInt8)(p2:List K5):Option (Int×Int×Z5):=
 (Q1p p0 p1).bind fun y1=>bif decide (y1<0)then(some ((0:Int),(4:Int),p0))else((idx p0.list y1).bind fun u1=>bif !u1.open_ then(some ((0:Int),(4:Int),p0))else((Q7t p0 p2).bind fun y2=>bif y2 !=0 then(some ((0:Int),y2,p0))else((Q8d p2).bind fun y3=>(X8 (fun(x1,x2,x3,x4)=>(bif decide (x2<(qQ y3:Int))then((idx x1 x2).bind fun u2=>(idx x1 x2).bind fun u3=>(Q2r u3 x4 p0 x3).bind fun y4=>bif !y4.1 then(some (Lp.ret ((0:Int),(2:Int),p0)))else(some (Lp.go (qP x1 (qF x2) y4.2.1,qJ .i64 (x2+1),y4.2.2.2,y4.2.2.1))))else(some (Lp.brk (x1,x2,x3,x4))):Option (Lp ((List K5)×Int×Int×Int) (Int×Int×Z5)))) NN (y3,(0:Int),(1:Int),(0:Int))).bind fun o=>o.thn (fun(x1,x2,x3,x4)=>(Z5p x4 x3).bind fun y5=>bif decide (32768<y5)then(some ((0:Int),(2:Int),p0))else((idx p0.list y1).bind fun u4=>(Z5p x4 x3).bind fun y6=>(idx p0.list y1).bind fun u5=>(idx (qP p0.list (qF y1) ({u5 with Type_:={u5.Type_ with Fields:=x1}})) y1).bind fun u6=>(idx (qP (qP p0.list (qF y1) ({u5 with Type_:={u5.Type_ with Fields:=x1}})) (qF y1) ({u6 with size:=y6})) y1).bind fun u7=>(idx (qP (qP (qP p0.list (qF y1) ({u5 with Type_:={u5.Type_ with Fields:=x1}})) (qF y1) ({u6 with size:=y6})) (qF y1) ({u7 with align:=x3})) y1).bind fun u8=>some (y1,(0:Int),(⟨qP (qP (qP (qP p0.list (qF y1) ({u5 with Type_:={u5.Type_ with Fields:=x1}})) (qF y1) ({u6 with size:=y6})) (qF y1) ({u7 with align:=x3})) (qF y1) ({u8 with open_:=false})⟩:Z5)))) (fun r=>some r))))

def Q1j(p0:Q0)(p1:List Q2n):Option (Except (Z1×Q0) (Q0)):=
 (X8 (fun(x2,x3)=>(bif decide (x2<(qQ p1:Int))then((idx p1 x2).bind fun u1=>(Q6s x3 u1.Name).bind fun y1=>(R4 u1.Pos y1.2.1).bind fun y2=>exC y2 (fun y2=>some (Lp.go (qJ .i64 (x2+1),y1.2.2))) (fun e1=>some (Lp.ret (qK (e1,{p0 with t:=y1.2.2})))))else(some (Lp.brk (x2,x3))):Option (Lp (Int×Z5) (Except (Z1×Q0) (Q0))))) NN ((0:Int),p0.t)).bind fun o=>o.thn (fun(x2,x3)=>(X8 (fun(x12,x13,x14)=>(bif decide (x12<(qQ p1:Int))then((idx p1 x12).bind fun u3=>(X8 (fun(x15,x24,x25,x26)=>(bif decide (x24<(qQ u3.Fields:Int))then((idx u3.Fields x24).bind fun u4=>(M0 ({x25 with t:=x26}) u4).bind fun y3=>exL y3 (fun y3=>(W8 (qQ x15+qQ ([(⟨u4.Name,y3.1,0⟩:K5)]:List K5))).bind fun _=>some (Lp.go (x15++([(⟨u4.Name,y3.1,0⟩:K5)]:List K5),qJ .i64 (x24+1),y3.2,y3.2.t))))else(some (Lp.brk (x15,x24,{x25 with t:=x26},x26))):Option (Lp ((List K5)×Int×Q0×Z5) (Except (Z1×Q0) (Q0))))) NN ([],(0:Int),{x13 with t:=x14},x14)).bind fun o=>o.thn (fun(x15,x24,x25,x26)=>(Q4n x26 u3.Name x15).bind fun y4=>(R4 u3.Pos y4.2.1).bind fun y5=>exC y5 (fun y5=>some (Lp.go (qJ .i64 (x12+1),{x25 with t:=y4.2.2},y4.2.2))) (fun e3=>some (Lp.ret (qK (e3,{x25 with t:=y4.2.2}))))) (fun r=>some (Lp.ret r)))else(some (Lp.brk (x12,{x13 with t:=x14},x14))):Option (Lp (Int×Q0×Z5) (Except (Z1×Q0) (Q0))))) NN ((0:Int),{p0 with t:=x3},x3)).bind fun o=>o.thn (fun(x12,x13,x14)=>some (qX ({x13 with t:=x14}))) (fun r=>some r)) (fun r=>some r)

def I3(p0:Q0)(p1:G9):Option (Except (Z1×Q0) (Int×Q0)):=
 (M0 p0 p1).bind fun y1=>exE y1 (fun y1=>(U9 y1.2.t y1.1).bind fun y2=>bif y2==0 then((X0 p1.Pos 5).bind fun y3=>exC y3 (fun y3=>none) (fun e1=>some (qK (e1,y1.2))))else(some (qX (y1.1,y1.2))))

def Q2s(p0:Q0)(p1:Pos)(p2:List UInt8):Option (Except (Z1×Q0) (Q0)):=
 bif (((J5 p0.globals p2).isSome)||((J5 p0.codes p2).isSome))then((X0 p1 6).bind fun y1=>exC y1 (fun y1=>none) (fun e1=>some (qK (e1,p0))))else(bif (Q9t p0.globals:Int)==200 then((X0 p1 2).bind fun y2=>exC y2 (fun y2=>none) (fun e2=>some (qK (e2,p0))))else((p0.globals).bind fun u3=>some (qX ({p0 with globals:=(some (Q4l u3 p2 (Q9t p0.globals:Int)))}))))

def V1(p0:Z5)(p1:Int):Option (Bool):=
 (M7 p0 p1).bind fun y1=>bif !y1 then(some false)else((idx p0.list p1).bind fun u1=>some (((u1.Type_.Kind==1)||(u1.Type_.Kind==2))||(u1.Type_.Kind==3)))

def W2(p0:Q0)(p1:Int):Option (Int):=
 (V1 p0.t p1).bind fun y1=>bif !y1 then(some (0:Int))else((U9 p0.t p1).bind fun y2=>some y2)

def W0(p0:Q0)(p1:List UInt8)(p2:Int):Option (Q5u):=
 (U9 p0.t p2).bind fun y1=>(W9 p0.t p2).bind fun y2=>(W2 p0 p2).bind fun y3=>some (⟨p1,y1,y2,y3⟩:Q5u)

def M5(p0:Z5)(p1:Int):Option (Q5t×Int):=
 (M7 p0 p1).bind fun y1=>bif !y1 then(some ((⟨0,0,0,([]:List UInt8),[]⟩:Q5t),(4:Int)))else((idx p0.list p1).bind fun u1=>(Q8d u1.Type_.Fields).bind fun y2=>some ({u1.Type_ with Fields:=y2},(0:Int)))

def W1(p0:Q0)(p1:Int):Option (Int):=
 (M5 p0.t p1).bind fun y1=>bif y1.1.Kind==4 then(some y1.1.Elem)else(some p1)

def Q1a(p0:Q0)(p1:G9)(p2:Int):Option (Except (Z1) ((List Y2))):=
 bif (qQ p1.Init:Int)==0 then(some (qX []))else((M5 p0.t p2).bind fun y1=>bif !((y1.1.Kind==4)==p1.Brace)then((X0 p1.Pos 5).bind fun y6=>exC y6 (fun y6=>none) (fun e3=>some (qK e3)))else((W1 p0 p2).bind fun y2=>(W2 p0 y2).bind fun y3=>bif y3==0 then((X0 p1.Pos 5).bind fun y4=>exC y4 (fun y4=>none) (fun e1=>some (qK e1)))else(bif ((y1.1.Kind==4)&&(decide (y1.1.Len<(qQ p1.Init:Int))))then((X0 p1.Pos 2).bind fun y5=>exC y5 (fun y5=>none) (fun e2=>some (qK e2)))else(some (qX p1.Init)))))

def Q0y(p0:G0)(p1:List UInt8):Option (Int×Bool):=
 (X8 (fun(x1:Int)=>(bif decide (0<=x1)then((idx p0.scopes x1).bind fun u1=>bif (J5 u1 p1).isSome then(some (Lp.ret ((J5 u1 p1).getD 0,true)))else(some (Lp.go (qJ .i64 (x1-1)))))else(some (Lp.brk x1)):Option (Lp (Int) (Int×Bool)))) NN (qJ .i64 ((qQ p0.scopes:Int)-1))).bind fun o=>o.thn (fun(x1:Int)=>some ((0:Int),false)) (fun r=>some r)

def O4(p0:Q0)(p1:Y2):Option (Except (Z1×Q0) (Z8×Q0)):=
 jn (fun kk1=>(O3.isNil p0.fun_).bind fun u1=>bif !u1 then((O3.get p0.fun_).bind fun u2=>(Q0y u2 p1.Name).bind fun y1=>bif y1.2 then((idx u2.types y1.1).bind fun u3=>some (qX ((⟨u3,(⟨2,0,0,y1.1,false,0,false,true,[]⟩:Y1),true⟩:Z8),p0)))else(kk1 ()))else(kk1 ())) (fun(_:Unit)=>bif !((J5 p0.globals p1.Name).isSome)then((X0 p1.Pos 4).bind fun y2=>exC y2 (fun y2=>none) (fun e1=>some (qK (e1,p0))))else((idx p0.gtypes ((J5 p0.globals p1.Name).getD 0)).bind fun u5=>some (qX ((⟨u5,(⟨2,0,0,(J5 p0.globals p1.Name).getD 0,true,0,false,true,[]⟩:Y1),true⟩:Z8),p0))))

def I4(p0:Q0)(p1:Pos)(p2:Int):Option (Except (Z1×Q0) (Int×Q0)):=
 (Q0u p0.t p2).bind fun y1=>(R4 p1 y1.2.1).bind fun y2=>exC y2 (fun y2=>some (qX (y1.1,{p0 with t:=y1.2.2}))) (fun e1=>some (qK (e1,{p0 with t:=y1.2.2})))

def H4(p0:Q0)(p1:Int):Option (Int×Bool):=
 (M5 p0.t p1).bind fun y1=>bif y1.1.Kind==3 then((U9 p0.t y1.1.Elem).bind fun y2=>some (y1.1.Elem,decide (0<y2)))else(some (y1.1.Elem,false))

def Y8(p0:Q0)(p1:Int):Option (Bool):=
 (M5 p0.t p1).bind fun y1=>some (y1.1.Kind==3)

def Q9p(p0:List UInt8):Option (Int):=
 bif decide (p0=([43]:List UInt8))then(some (1:Int))else(bif decide (p0=([45]:List UInt8))then(some (2:Int))else(bif decide (p0=([42]:List UInt8))then(some (3:Int))else(bif decide (p0=([47]:List UInt8))then(some (4:Int))else(bif decide (p0=([37]:List UInt8))then(some (5:Int))else(bif decide (p0=([38]:List UInt8))then(some (6:Int))else(bif decide (p0=([124]:List UInt8))then(some (7:Int))else(bif decide (p0=([94]:List UInt8))then(some (8:Int))else(bif decide (p0=([60,60]:List UInt8))then(some (9:Int))else(bif decide (p0=([62,62]:List UInt8))then(some (10:Int))else(bif decide (p0=([61,61]:List UInt8))then(some (11:Int))else(bif decide (p0=([33,61]:List UInt8))then(some (12:Int))else(bif decide (p0=([60]:List UInt8))then(some (13:Int))else(bif decide (p0=([62]:List UInt8))then(some (14:Int))else(bif decide (p0=([60,61]:List UInt8))then(some (15:Int))else(some (16:Int))))))))))))))))

def Q6l(p0:Y2):Option (Bool):=
 some ((p0.Kind==1)&&(p0.Num==0))

def Q1t:Option (Y1):=
 some (⟨1,0,0,0,false,0,false,true,[]⟩:Y1)

def Q2t(p0:Q0)(p1:Y2)(p2:Z8)(p3:Z8):Option (Except (Z1) (Z8)):=
 jn (fun kk1=>(idx p1.Kids 0).bind fun u1=>(idx p1.Kids 1).bind fun u2=>kk1 u1 u2) (fun(x1:Y2)(x2:Y2)=>(Q9p p1.Op).bind fun y1=>jn (fun kk2=>(Y8 p0 p2.n).bind fun y2=>bif y2 then((Q6l x2).bind fun y3=>bif y3 then((Q1t).bind fun y4=>kk2 (⟨6,y1,0,0,false,0,false,false,([p2.term,y4]:List Y1)⟩:Y1))else((Y8 p0 p3.n).bind fun y5=>bif y5 then((Q6l x1).bind fun y6=>bif y6 then((Q1t).bind fun y7=>kk2 (⟨6,y1,0,0,false,0,false,false,([y7,p3.term]:List Y1)⟩:Y1))else(bif p2.n !=1 then((Y8 p0 p2.n).bind fun y8=>bif !y8 then((X0 x1.Pos 5).bind fun y9=>exC y9 (fun y9=>none) (fun e1=>some (qK e1)))else((X0 x2.Pos 5).bind fun y10=>exC y10 (fun y10=>none) (fun e2=>some (qK e2))))else((X0 x2.Pos 5).bind fun y11=>exC y11 (fun y11=>none) (fun e3=>some (qK e3)))))else(bif p2.n !=1 then((Y8 p0 p2.n).bind fun y12=>bif !y12 then((X0 x1.Pos 5).bind fun y13=>exC y13 (fun y13=>none) (fun e4=>some (qK e4)))else((X0 x2.Pos 5).bind fun y14=>exC y14 (fun y14=>none) (fun e5=>some (qK e5))))else((X0 x2.Pos 5).bind fun y15=>exC y15 (fun y15=>none) (fun e6=>some (qK e6))))))else((Y8 p0 p3.n).bind fun y16=>bif y16 then((Q6l x1).bind fun y17=>bif y17 then((Q1t).bind fun y18=>kk2 (⟨6,y1,0,0,false,0,false,false,([y18,p3.term]:List Y1)⟩:Y1))else(bif p2.n !=1 then((Y8 p0 p2.n).bind fun y19=>bif !y19 then((X0 x1.Pos 5).bind fun y20=>exC y20 (fun y20=>none) (fun e7=>some (qK e7)))else((X0 x2.Pos 5).bind fun y21=>exC y21 (fun y21=>none) (fun e8=>some (qK e8))))else((X0 x2.Pos 5).bind fun y22=>exC y22 (fun y22=>none) (fun e9=>some (qK e9)))))else(bif p2.n !=1 then((Y8 p0 p2.n).bind fun y23=>bif !y23 then((X0 x1.Pos 5).bind fun y24=>exC y24 (fun y24=>none) (fun e10=>some (qK e10)))else((X0 x2.Pos 5).bind fun y25=>exC y25 (fun y25=>none) (fun e11=>some (qK e11))))else((X0 x2.Pos 5).bind fun y26=>exC y26 (fun y26=>none) (fun e12=>some (qK e12)))))) (fun(x4:Y1)=>some (qX (⟨1,x4,false⟩:Z8))))

def Q0c(p0:Q0)(p1:Y1)(p2:Y1)(p3:Int)(p4:Int):Option (Y1):=
 (U9 p0.t p3).bind fun y1=>some (⟨14,p4,0,0,false,y1,false,true,([p1,p2]:List Y1)⟩:Y1)

def Q0z(p0:Q0)(p1:Pos)(p2:Z8)(p3:Y1)(p4:Int):Option (Except (Z1) (Z8)):=
 (H4 p0 p2.n).bind fun y1=>bif !y1.2 then((X0 p1 5).bind fun y2=>exC y2 (fun y2=>none) (fun e1=>some (qK e1)))else((Q0c p0 p2.term p3 y1.1 p4).bind fun y3=>some (qX (⟨p2.n,y3,false⟩:Z8)))

def D3(p0:Q0)(p1:Y2)(p2:Z8)(p3:Int):Option (Except (Z1) (Y1)):=
 (Y8 p0 p3).bind fun y1=>bif y1 then((Q6l p1).bind fun y2=>bif y2 then((Q1t).bind fun y3=>some (qX y3))else((Y8 p0 p3).bind fun y4=>bif (y4&&(p2.n==p3))then(some (qX p2.term))else((Y8 p0 p3).bind fun y5=>bif ((!y5)&&(p2.n==1))then(some (qX p2.term))else((X0 p1.Pos 5).bind fun y6=>exC y6 (fun y6=>none) (fun e1=>some (qK e1))))))else((Y8 p0 p3).bind fun y7=>bif (y7&&(p2.n==p3))then(some (qX p2.term))else((Y8 p0 p3).bind fun y8=>bif ((!y8)&&(p2.n==1))then(some (qX p2.term))else((X0 p1.Pos 5).bind fun y9=>exC y9 (fun y9=>none) (fun e2=>some (qK e2)))))

def J7(p0:Q0)(p1:Int):Option (Int):=
 bif p1==2 then(some (1:Int))else(some p1)

def P2(p0:Q0)(p1:Y2)(p2:Z8)(p3:Int):Option (Except (Z1) (Y1)):=
 (D3 p0 p1 p2 p3).bind fun y1=>exC y1 (fun y1=>bif p3==2 then(some (qX (⟨17,0,0,0,false,0,false,false,([y1]:List Y1)⟩:Y1)))else(some (qX y1))) (fun e1=>some (qK e1))

def P9(p0:Q0)(p1:Pos)(p2:Z8):Option (Except (Z1×Q0) (Z8×Q0)):=
 bif !p2.lies then(some (qX (p2,p0)))else(jn (fun kk1=>(M5 p0.t p2.n).bind fun y1=>kk1 y1.1) (fun(x1:Q5t)=>(U9 p0.t p2.n).bind fun y2=>bif x1.Kind==4 then(jn (fun kk2=>bif p2.term.Kind !=2 then(kk2 (⟨13,0,0,0,false,y2,false,true,([p2.term]:List Y1)⟩:Y1))else(kk2 p2.term)) (fun(x2:Y1)=>(I4 p0 p1 x1.Elem).bind fun y3=>exE y3 (fun y3=>some (qX ((⟨y3.1,x2,false⟩:Z8),y3.2)))))else((V1 p0.t p2.n).bind fun y4=>bif !y4 then((X0 p1 5).bind fun y5=>exC y5 (fun y5=>none) (fun e2=>some (qK (e2,p0))))else(jn (fun kk3=>bif p2.n==2 then(kk3 (1:Int))else(kk3 p2.n)) (fun(x3:Int)=>(Y8 p0 x3).bind fun y6=>some (qX ((⟨x3,(⟨3,0,0,0,false,y2,false,y6,([p2.term]:List Y1)⟩:Y1),false⟩:Z8),p0)))))))

def Q3f(p0:Z5)(p1:Int)(p2:List UInt8):Option (K5×Int):=
 (M7 p0 p1).bind fun y1=>bif !y1 then(some ((⟨([]:List UInt8),0,0⟩:K5),(4:Int)))else((idx p0.list p1).bind fun u1=>bif u1.Type_.Kind !=5 then(some ((⟨([]:List UInt8),0,0⟩:K5),(5:Int)))else((idx p0.list p1).bind fun u2=>(X8 (fun(x1:Int)=>(bif decide (x1<(qQ u2.Type_.Fields:Int))then((idx u2.Type_.Fields x1).bind fun u3=>bif decide (u3.Name=p2)then(some (Lp.ret (u3,(0:Int))))else(some (Lp.go (qJ .i64 (x1+1)))))else(some (Lp.brk x1)):Option (Lp (Int) (K5×Int)))) NN (0:Int)).bind fun o=>o.thn (fun(x1:Int)=>some ((⟨([]:List UInt8),0,0⟩:K5),(4:Int))) (fun r=>some r)))

structure Z0x where
 V5:Q0->Y2->Option (Except (Z1×Q0) (Y1×Q0))
 V2:Q0->Y2->Option (Except (Z1×Q0) (Y1×Q0))
 E8:Q0->Y2->Option (Except (Z1×Q0) (Z8×Q0))
 G4:Q0->Int->Y2->Option (Except (Z1×Q0) (Z8×Q0))
 F5:Q0->Y2->Option (Except (Z1×Q0) (Z8×Q0))
 F1:Q0->Y2->Option (Except (Z1×Q0) (Z8×Q0))
 F6:Q0->Y2->Option (Except (Z1×Q0) (Z8×Q0))
 B6:Q0->Y2->Option (Except (Z1×Q0) (Z8×Q0))
 B7:Q0->Y2->Option (Except (Z1×Q0) (Z8×Q0))
 F4:Q0->Y2->Option (Except (Z1×Q0) (Z8×Q0))
 B4:Q0->Y2->Option (Except (Z1×Q0) (Z8×Q0))
 U0:Q0->Y2->Option (Except (Z1×Q0) (Z8×Q0))
 Z3:Q0->Y2->Option (Except (Z1×Q0) (Z8×Q0))

def H9(G:Z0x)(p0:Q0)(p1:Y2):Option (Except (Z1×Q0) (Y1×Q0)):=
 (G.Z3 p0 p1).bind fun y1=>exE y1 (fun y1=>bif y1.1.n !=1 then((Y8 y1.2 y1.1.n).bind fun y2=>bif !y2 then((X0 p1.Pos 5).bind fun y3=>exC y3 (fun y3=>none) (fun e1=>some (qK (e1,y1.2))))else(some (qX (y1.1.term,y1.2))))else(some (qX (y1.1.term,y1.2))))
def A0(G:Z0x)(p0:Q0)(p1:Y2):Option (Except (Z1×Q0) (Y1×Q0)):=
 (G.Z3 p0 p1).bind fun y1=>exE y1 (fun y1=>bif y1.1.n !=1 then((X0 p1.Pos 5).bind fun y2=>exC y2 (fun y2=>none) (fun e1=>some (qK (e1,y1.2))))else(some (qX (y1.1.term,y1.2))))
def H6(G:Z0x)(p0:Q0)(p1:Y2):Option (Except (Z1×Q0) (Z8×Q0)):=
 (idx p1.Kids 0).bind fun u1=>jn (fun kk1=>bif decide (p1.Op=([38]:List UInt8))then((G.U0 p0 u1).bind fun y1=>exE y1 (fun y1=>jn (fun kk2=>(M5 y1.2.t y1.1.n).bind fun y2=>kk2 y2.1) (fun(x2:Q5t)=>bif ((!y1.1.lies)||(x2.Kind==4))then((X0 u1.Pos 5).bind fun y3=>exC y3 (fun y3=>none) (fun e1=>some (qK (e1,y1.2))))else((I4 y1.2 p1.Pos y1.1.n).bind fun y4=>exC y4 (fun y4=>some (qX ((⟨y4.1,y1.1.term,false⟩:Z8),{y4.2 with fun_:=y1.2.fun_}))) (fun e2=>some (qK (e2.1,{e2.2 with fun_:=y1.2.fun_})))))))else(bif decide (p1.Op=([42]:List UInt8))then((G.Z3 p0 u1).bind fun y5=>exE y5 (fun y5=>(H4 y5.2 y5.1.n).bind fun y6=>bif !y6.2 then((X0 u1.Pos 5).bind fun y7=>exC y7 (fun y7=>none) (fun e4=>some (qK (e4,y5.2))))else(some (qX ((⟨y6.1,y5.1.term,true⟩:Z8),y5.2)))))else(bif decide (p1.Op=([33]:List UInt8))then((G.V5 p0 u1).bind fun y8=>exE y8 (fun y8=>some (qX ((⟨1,(⟨5,19,0,0,false,0,false,false,([y8.1]:List Y1)⟩:Y1),false⟩:Z8),y8.2))))else(bif decide (p1.Op=([45]:List UInt8))then(kk1 (17:Int))else(kk1 (18:Int)))))) (fun(x1:Int)=>(G.V2 p0 u1).bind fun y9=>exE y9 (fun y9=>some (qX ((⟨1,(⟨5,x1,0,0,false,0,false,false,([y9.1]:List Y1)⟩:Y1),false⟩:Z8),y9.2))))
def L9(G:Z0x)(p0:Q0)(p1:Int)(p2:Y2):Option (Except (Z1×Q0) (Z8×Q0)):=
 (idx p2.Kids 0).bind fun u1=>(G.V5 p0 u1).bind fun y1=>exE y1 (fun y1=>(idx p2.Kids 1).bind fun u2=>(G.V5 y1.2 u2).bind fun y2=>exE y2 (fun y2=>some (qX ((⟨1,(⟨p1,0,0,0,false,0,false,false,([y1.1,y2.1]:List Y1)⟩:Y1),false⟩:Z8),y2.2))))
def A4(G:Z0x)(p0:Q0)(p1:Y2):Option (Except (Z1×Q0) (Z8×Q0)):=
 bif decide (p1.Op=([38,38]:List UInt8))then((G.G4 p0 7 p1).bind fun y1=>exE y1 (fun y1=>some (qX (y1.1,y1.2))))else(bif decide (p1.Op=([124,124]:List UInt8))then((G.G4 p0 8 p1).bind fun y2=>exE y2 (fun y2=>some (qX (y2.1,y2.2))))else(jn (fun kk1=>(idx p1.Kids 0).bind fun u3=>(idx p1.Kids 1).bind fun u4=>kk1 u3 u4) (fun(x1:Y2)(x2:Y2)=>jn (fun kk2=>(G.Z3 p0 x1).bind fun y3=>exE y3 (fun y3=>(G.Z3 y3.2 x2).bind fun y4=>exE y4 (fun y4=>kk2 y4.2 y4.2.t y3.1 y4.1))) (fun(x12:Q0)(x13:Z5)(x14:Z8)(x15:Z8)=>(Q9p p1.Op).bind fun y5=>bif ((x14.n==1)&&(x15.n==1))then(some (qX ((⟨1,(⟨6,y5,0,0,false,0,false,false,([x14.term,x15.term]:List Y1)⟩:Y1),false⟩:Z8),{x12 with t:=x13})))else(bif ((y5==11)||(y5==12))then((Q2t ({x12 with t:=x13}) p1 x14 x15).bind fun y6=>exC y6 (fun y6=>some (qX (y6,{x12 with t:=x13}))) (fun e5=>some (qK (e5,{x12 with t:=x13}))))else(bif ((y5==1)&&(x14.n==1))then((Q0z ({x12 with t:=x13}) x2.Pos x15 x14.term y5).bind fun y7=>exC y7 (fun y7=>some (qX (y7,{x12 with t:=x13}))) (fun e6=>some (qK (e6,{x12 with t:=x13}))))else(bif (((y5==1)||(y5==2))&&(x15.n==1))then((Q0z ({x12 with t:=x13}) x1.Pos x14 x15.term y5).bind fun y8=>exC y8 (fun y8=>some (qX (y8,{x12 with t:=x13}))) (fun e7=>some (qK (e7,{x12 with t:=x13}))))else(bif x14.n !=1 then((Y8 ({x12 with t:=x13}) x14.n).bind fun y9=>bif ((!y9)||((y5 !=1)&&(y5 !=2)))then((X0 x1.Pos 5).bind fun y10=>exC y10 (fun y10=>none) (fun e8=>some (qK (e8,{x12 with t:=x13}))))else((X0 x2.Pos 5).bind fun y11=>exC y11 (fun y11=>none) (fun e9=>some (qK (e9,{x12 with t:=x13})))))else((X0 x2.Pos 5).bind fun y12=>exC y12 (fun y12=>none) (fun e10=>some (qK (e10,{x12 with t:=x13}))))))))))))
def H7(G:Z0x)(p0:Q0)(p1:Y2):Option (Except (Z1×Q0) (Z8×Q0)):=
 (G.U0 p0 p1).bind fun y1=>exE y1 (fun y1=>bif !y1.1.lies then((X0 p1.Pos 5).bind fun y4=>exC y4 (fun y4=>none) (fun e2=>some (qK (e2,y1.2))))else((V1 y1.2.t y1.1.n).bind fun y2=>bif !y2 then((X0 p1.Pos 5).bind fun y3=>exC y3 (fun y3=>none) (fun e1=>some (qK (e1,y1.2))))else(some (qX (y1.1,y1.2)))))
def A5(G:Z0x)(p0:Q0)(p1:Y2):Option (Except (Z1×Q0) (Z8×Q0)):=
 jn (fun kk1=>(idx p1.Kids 0).bind fun u1=>(idx p1.Kids 1).bind fun u2=>kk1 u1 u2) (fun(x1:Y2)(x2:Y2)=>(G.F1 p0 x1).bind fun y1=>exE y1 (fun y1=>jn (fun kk2=>(U9 y1.2.t y1.1.n).bind fun y2=>(Y8 y1.2 y1.1.n).bind fun y3=>kk2 (⟨4,0,0,0,false,y2,false,y3,[]⟩:Y1)) (fun(x3:Y1)=>bif decide (p1.Op=([61]:List UInt8))then((G.Z3 y1.2 x2).bind fun y4=>exE y4 (fun y4=>(D3 y4.2 x2 y4.1 y1.1.n).bind fun y5=>exC y5 (fun y5=>(J7 y4.2 y1.1.n).bind fun y6=>some (qX ((⟨y6,{x3 with Kids:=([y1.1.term,y5]:List Y1)},false⟩:Z8),y4.2))) (fun e1=>some (qK (e1,y4.2)))))else((sub p1.Op 0 (qJ .i64 ((qQ p1.Op:Int)-1))).bind fun u5=>(Q9p u5).bind fun y7=>jn (fun kk3=>bif x3.Ptr then((H4 y1.2 y1.1.n).bind fun y8=>bif ((!y8.2)||((y7 !=1)&&(y7 !=2)))then((X0 x1.Pos 5).bind fun y9=>exC y9 (fun y9=>none) (fun e3=>some (qK (e3,y1.2))))else((U9 y1.2.t y8.1).bind fun y10=>kk3 ({x3 with Kind:=16,Fn:=y7,Num:=qJ .u32 y10})))else(kk3 ({x3 with Kind:=16,Fn:=y7}))) (fun(x4:Y1)=>(G.V2 y1.2 x2).bind fun y11=>exE y11 (fun y11=>(J7 y11.2 y1.1.n).bind fun y12=>some (qX ((⟨y12,{x4 with Kids:=([y1.1.term,y11.1]:List Y1)},false⟩:Z8),y11.2))))))))
def L7(G:Z0x)(p0:Q0)(p1:Y2):Option (Except (Z1×Q0) (Z8×Q0)):=
 jn (fun kk1=>(idx p1.Kids 1).bind fun u1=>(idx p1.Kids 2).bind fun u2=>kk1 u1 u2) (fun(x1:Y2)(x2:Y2)=>(idx p1.Kids 0).bind fun u3=>(G.V5 p0 u3).bind fun y1=>exE y1 (fun y1=>jn (fun kk2=>(G.Z3 y1.2 x1).bind fun y2=>exE y2 (fun y2=>(G.Z3 y2.2 x2).bind fun y3=>exE y3 (fun y3=>kk2 y3.2 y3.2.t y2.1 y3.1))) (fun(x12:Q0)(x13:Z5)(x14:Z8)(x15:Z8)=>bif ((x14.n==1)&&(x15.n==1))then(some (qX ((⟨1,(⟨9,0,0,0,false,0,false,false,([y1.1,x14.term,x15.term]:List Y1)⟩:Y1),false⟩:Z8),{x12 with t:=x13})))else(jn (fun kk3=>(Y8 ({x12 with t:=x13}) x14.n).bind fun y4=>bif y4 then(bif x14.n==x15.n then(kk3 true)else((Q6l x2).bind fun y5=>kk3 y5))else(kk3 false)) (fun(x16:Bool)=>bif x16 then((D3 ({x12 with t:=x13}) x2 x15 x14.n).bind fun y6=>exC y6 (fun y6=>(idx ([y1.1,x14.term,x15.term]:List Y1) 2).bind fun u6=>(idx ([y1.1,x14.term,x15.term]:List Y1) 2).bind fun u7=>some (qX ((⟨x14.n,(⟨9,0,0,0,false,0,false,true,qP ([y1.1,x14.term,x15.term]:List Y1) (qF 2) y6⟩:Y1),false⟩:Z8),{x12 with t:=x13}))) (fun e3=>some (qK (e3,{x12 with t:=x13}))))else((Y8 ({x12 with t:=x13}) x15.n).bind fun y7=>bif y7 then((Q6l x1).bind fun y8=>bif y8 then((Q1t).bind fun y9=>(idx ([y1.1,x14.term,x15.term]:List Y1) 1).bind fun u9=>(idx ([y1.1,x14.term,x15.term]:List Y1) 1).bind fun u10=>some (qX ((⟨x15.n,(⟨9,0,0,0,false,0,false,true,qP ([y1.1,x14.term,x15.term]:List Y1) (qF 1) y9⟩:Y1),false⟩:Z8),{x12 with t:=x13})))else(bif x14.n !=1 then((Y8 ({x12 with t:=x13}) x14.n).bind fun y10=>bif !y10 then((X0 x1.Pos 5).bind fun y11=>exC y11 (fun y11=>none) (fun e4=>some (qK (e4,{x12 with t:=x13}))))else((X0 x2.Pos 5).bind fun y12=>exC y12 (fun y12=>none) (fun e5=>some (qK (e5,{x12 with t:=x13})))))else((X0 x2.Pos 5).bind fun y13=>exC y13 (fun y13=>none) (fun e6=>some (qK (e6,{x12 with t:=x13}))))))else(bif x14.n !=1 then((Y8 ({x12 with t:=x13}) x14.n).bind fun y14=>bif !y14 then((X0 x1.Pos 5).bind fun y15=>exC y15 (fun y15=>none) (fun e7=>some (qK (e7,{x12 with t:=x13}))))else((X0 x2.Pos 5).bind fun y16=>exC y16 (fun y16=>none) (fun e8=>some (qK (e8,{x12 with t:=x13})))))else((X0 x2.Pos 5).bind fun y17=>exC y17 (fun y17=>none) (fun e9=>some (qK (e9,{x12 with t:=x13})))))))))))
def L8(G:Z0x)(p0:Q0)(p1:Y2):Option (Except (Z1×Q0) (Z8×Q0)):=
 bif decide (p1.Name=([105,110]:List UInt8))then(some (qX ((⟨1,(⟨12,0,0,0,false,0,false,false,[]⟩:Y1),false⟩:Z8),p0)))else(bif decide (p1.Name=([111,117,116]:List UInt8))then((idx p1.Kids 0).bind fun u1=>(G.V2 p0 u1).bind fun y1=>exE y1 (fun y1=>some (qX ((⟨0,(⟨11,0,0,0,false,0,false,false,([y1.1]:List Y1)⟩:Y1),false⟩:Z8),y1.2))))else(jn (fun kk1=>(O3.isNil p0.fun_).bind fun u3=>bif !u3 then((O3.get p0.fun_).bind fun u4=>(Q0y u4 p1.Name).bind fun y2=>bif y2.2 then(kk1 false)else(kk1 ((J5 p0.codes p1.Name).isSome)))else(kk1 ((J5 p0.codes p1.Name).isSome))) (fun(x1:Bool)=>bif !x1 then((X0 p1.Pos 4).bind fun y3=>exC y3 (fun y3=>none) (fun e2=>some (qK (e2,p0))))else((idx p0.signs ((J5 p0.codes p1.Name).getD 0)).bind fun u6=>(Y8 p0 u6.ret).bind fun y4=>(X8 (fun(x12,x13,x14,x15)=>(bif decide (x12<(qQ p1.Kids:Int))then(jn (fun kk2=>(idx p1.Kids x12).bind fun u7=>(G.Z3 ({x14 with t:=x15}) u7).bind fun y5=>exL y5 (fun y5=>bif decide (x12<(qQ u6.params:Int))then((idx u6.params x12).bind fun u8=>(P2 y5.2 u7 y5.1 u8).bind fun y6=>exC y6 (fun y6=>(W8 (qQ x13.Kids+qQ ([y6]:List Y1))).bind fun _=>kk2 ({x13 with Kids:=x13.Kids++([y6]:List Y1)}) y5.2 y5.2.t) (fun e3=>some (Lp.ret (qK (e3,y5.2)))))else(kk2 x13 y5.2 y5.2.t))) (fun(x26:Y1)(x27:Q0)(x28:Z5)=>some (Lp.go (qJ .i64 (x12+1),x26,{x27 with t:=x28},x28))))else(some (Lp.brk (x12,x13,{x14 with t:=x15},x15))):Option (Lp (Int×Y1×Q0×Z5) (Except (Z1×Q0) (Z8×Q0))))) NN ((0:Int),(⟨10,0,0,(J5 p0.codes p1.Name).getD 0,false,0,false,y4,[]⟩:Y1),p0,p0.t)).bind fun o=>o.thn (fun(x12,x13,x14,x15)=>bif (qQ p1.Kids:Int)!=(qQ u6.params:Int)then((X0 p1.Pos 5).bind fun y7=>exC y7 (fun y7=>none) (fun e5=>some (qK (e5,{x14 with t:=x15}))))else((J7 ({x14 with t:=x15}) u6.ret).bind fun y8=>some (qX ((⟨y8,x13,false⟩:Z8),{x14 with t:=x15})))) (fun r=>some r)))))
def A1(G:Z0x)(p0:Q0)(p1:Y2):Option (Except (Z1×Q0) (Z8×Q0)):=
 (idx p1.Kids 0).bind fun u1=>(G.U0 p0 u1).bind fun y1=>exE y1 (fun y1=>jn (fun kk1=>bif decide (p1.Op=([45,62]:List UInt8))then((P9 y1.2 u1.Pos y1.1).bind fun y2=>exC y2 (fun y2=>(H4 ({y2.2 with fun_:=y1.2.fun_}) y2.1.n).bind fun y3=>bif !y3.2 then((X0 u1.Pos 5).bind fun y4=>exC y4 (fun y4=>none) (fun e1=>some (qK (e1,{y2.2 with fun_:=y1.2.fun_}))))else(kk1 (⟨y3.1,y2.1.term,true⟩:Z8) ({y2.2 with fun_:=y1.2.fun_}) y2.2.t)) (fun e2=>some (qK (e2.1,{e2.2 with fun_:=y1.2.fun_}))))else(kk1 y1.1 y1.2 y1.2.t)) (fun(x10:Z8)(x11:Q0)(x12:Z5)=>jn (fun kk2=>(M5 x12 x10.n).bind fun y5=>kk2 y5.1) (fun(x13:Q5t)=>bif ((!x10.lies)||(x13.Kind !=5))then((X0 u1.Pos 5).bind fun y6=>exC y6 (fun y6=>none) (fun e3=>some (qK (e3,{x11 with t:=x12}))))else(jn (fun kk3=>(Q3f x12 x10.n p1.Name).bind fun y7=>kk3 y7.1 y7.2) (fun(x14:K5)(x15:Int)=>(R4 p1.Pos x15).bind fun y8=>exC y8 (fun y8=>jn (fun kk4=>(U9 x12 x14.Type_).bind fun y9=>kk4 (⟨13,0,qJ .u32 x14.At,0,false,y9,false,true,([x10.term]:List Y1)⟩:Y1)) (fun(x16:Y1)=>some (qX ((⟨x14.Type_,x16,true⟩:Z8),{x11 with t:=x12})))) (fun e4=>some (qK (e4,{x11 with t:=x12}))))))))
def L5(G:Z0x)(p0:Q0)(p1:Y2):Option (Except (Z1×Q0) (Z8×Q0)):=
 (idx p1.Kids 0).bind fun u1=>(G.F1 p0 u1).bind fun y1=>exE y1 (fun y1=>jn (fun kk1=>(Y8 y1.2 y1.1.n).bind fun y2=>bif y2 then((H4 y1.2 y1.1.n).bind fun y3=>bif !y3.2 then((X0 u1.Pos 5).bind fun y4=>exC y4 (fun y4=>none) (fun e1=>some (qK (e1,y1.2))))else((U9 y1.2.t y3.1).bind fun y5=>kk1 y5))else(kk1 (1:Int))) (fun(x1:Int)=>jn (fun kk2=>bif decide (p1.Op=([45,45]:List UInt8))then(kk2 (qJ .i64 (0-x1)))else(kk2 x1)) (fun(x2:Int)=>jn (fun kk3=>(U9 y1.2.t y1.1.n).bind fun y6=>(Y8 y1.2 y1.1.n).bind fun y7=>kk3 (⟨15,0,qJ .u32 x2,0,false,y6,p1.Kind==11,y7,([y1.1.term]:List Y1)⟩:Y1)) (fun(x3:Y1)=>(J7 y1.2 y1.1.n).bind fun y8=>some (qX ((⟨y8,x3,false⟩:Z8),y1.2))))))
def N9(G:Z0x)(p0:Q0)(p1:Y2):Option (Except (Z1×Q0) (Z8×Q0)):=
 bif p1.Kind==1 then(some (qX ((⟨1,(⟨1,0,p1.Num,0,false,0,false,false,[]⟩:Y1),false⟩:Z8),p0)))else(bif p1.Kind==2 then((O4 p0 p1).bind fun y1=>exE y1 (fun y1=>some (qX (y1.1,y1.2))))else(bif p1.Kind==3 then((G.E8 p0 p1).bind fun y2=>exE y2 (fun y2=>some (qX (y2.1,y2.2))))else(bif p1.Kind==4 then((G.F5 p0 p1).bind fun y3=>exE y3 (fun y3=>some (qX (y3.1,y3.2))))else(bif p1.Kind==5 then((G.F6 p0 p1).bind fun y4=>exE y4 (fun y4=>some (qX (y4.1,y4.2))))else(bif p1.Kind==6 then((G.B6 p0 p1).bind fun y5=>exE y5 (fun y5=>some (qX (y5.1,y5.2))))else(bif p1.Kind==7 then((G.B7 p0 p1).bind fun y6=>exE y6 (fun y6=>some (qX (y6.1,y6.2))))else(bif p1.Kind==8 then((idx p1.Kids 0).bind fun u7=>(G.Z3 p0 u7).bind fun y7=>exE y7 (fun y7=>(H4 y7.2 y7.1.n).bind fun y8=>bif !y8.2 then((idx p1.Kids 0).bind fun u8=>(X0 u8.Pos 5).bind fun y9=>exC y9 (fun y9=>none) (fun e7=>some (qK (e7,y7.2))))else((idx p1.Kids 1).bind fun u10=>(G.V2 y7.2 u10).bind fun y10=>exE y10 (fun y10=>(Q0c y10.2 y7.1.term y10.1 y8.1 1).bind fun y11=>some (qX ((⟨y8.1,y11,true⟩:Z8),y10.2))))))else(bif p1.Kind==9 then((G.F4 p0 p1).bind fun y12=>exE y12 (fun y12=>some (qX (y12.1,y12.2))))else(jn (fun kk1=>bif p1.Kind==10 then(kk1 (p1.Kind==10))else(kk1 (p1.Kind==11))) (fun(x1:Bool)=>bif x1 then((G.B4 p0 p1).bind fun y13=>exE y13 (fun y13=>some (qX (y13.1,y13.2))))else((K7 p0 p1.Pos p1.Type_).bind fun y14=>exC y14 (fun y14=>(U9 y14.2.t y14.1).bind fun y15=>bif y15==0 then((X0 p1.Pos 5).bind fun y16=>exC y16 (fun y16=>none) (fun e12=>some (qK (e12,{y14.2 with fun_:=p0.fun_}))))else((U9 y14.2.t y14.1).bind fun y17=>some (qX ((⟨1,(⟨1,0,qJ .u32 y17,0,false,0,false,false,[]⟩:Y1),false⟩:Z8),{y14.2 with fun_:=p0.fun_})))) (fun e13=>some (qK (e13.1,{e13.2 with fun_:=p0.fun_}))))))))))))))
def P7(G:Z0x)(p0:Q0)(p1:Y2):Option (Except (Z1×Q0) (Z8×Q0)):=
 (G.U0 p0 p1).bind fun y1=>exE y1 (fun y1=>(P9 y1.2 p1.Pos y1.1).bind fun y2=>exC y2 (fun y2=>some (qX (y2.1,{y2.2 with fun_:=y1.2.fun_}))) (fun e1=>some (qK (e1.1,{e1.2 with fun_:=y1.2.fun_}))))
def F2:Nat->Z0x
 |0=>⟨fun _ _=>none,fun _ _=>none,fun _ _=>none,fun _ _ _=>none,fun _ _=>none,fun _ _=>none,fun _ _=>none,fun _ _=>none,fun _ _=>none,fun _ _=>none,fun _ _=>none,fun _ _=>none,fun _ _=>none⟩
 |n+1=>⟨H9 (F2 n),A0 (F2 n),H6 (F2 n),L9 (F2 n),A4 (F2 n),H7 (F2 n),A5 (F2 n),L7 (F2 n),L8 (F2 n),A1 (F2 n),L5 (F2 n),N9 (F2 n),P7 (F2 n)⟩
def V5(p0:Q0)(p1:Y2):Option (Except (Z1×Q0) (Y1×Q0)):=(F2 NN).V5 p0 p1
def V2(p0:Q0)(p1:Y2):Option (Except (Z1×Q0) (Y1×Q0)):=(F2 NN).V2 p0 p1
def E8(p0:Q0)(p1:Y2):Option (Except (Z1×Q0) (Z8×Q0)):=(F2 NN).E8 p0 p1
def G4(p0:Q0)(p1:Int)(p2:Y2):Option (Except (Z1×Q0) (Z8×Q0)):=(F2 NN).G4 p0 p1 p2
def F5(p0:Q0)(p1:Y2):Option (Except (Z1×Q0) (Z8×Q0)):=(F2 NN).F5 p0 p1
def F1(p0:Q0)(p1:Y2):Option (Except (Z1×Q0) (Z8×Q0)):=(F2 NN).F1 p0 p1
def F6(p0:Q0)(p1:Y2):Option (Except (Z1×Q0) (Z8×Q0)):=(F2 NN).F6 p0 p1
def B6(p0:Q0)(p1:Y2):Option (Except (Z1×Q0) (Z8×Q0)):=(F2 NN).B6 p0 p1
def B7(p0:Q0)(p1:Y2):Option (Except (Z1×Q0) (Z8×Q0)):=(F2 NN).B7 p0 p1
def F4(p0:Q0)(p1:Y2):Option (Except (Z1×Q0) (Z8×Q0)):=(F2 NN).F4 p0 p1
def B4(p0:Q0)(p1:Y2):Option (Except (Z1×Q0) (Z8×Q0)):=(F2 NN).B4 p0 p1
def U0(p0:Q0)(p1:Y2):Option (Except (Z1×Q0) (Z8×Q0)):=(F2 NN).U0 p0 p1
def Z3(p0:Q0)(p1:Y2):Option (Except (Z1×Q0) (Z8×Q0)):=(F2 NN).Z3 p0 p1

def Q3n(p0:Int):Option (Int):=
 bif p0==1 then(some (0:Int))else(jn (fun kk1=>bif p0==5 then(kk1 (p0==5))else(kk1 (p0==17))) (fun(x1:Bool)=>bif x1 then(some (1:Int))else(jn (fun kk2=>bif p0==6 then(kk2 (p0==6))else(bif p0==7 then(kk2 (p0==7))else(kk2 (p0==8)))) (fun(x2:Bool)=>bif x2 then(some (2:Int))else(bif p0==9 then(some (3:Int))else(some ((-1):Int)))))))

structure Rec4 where
 P0:Y1->Option (Bool)

def Q2o(G:Rec4)(p0:Y1):Option (Bool):=
 (Q3n p0.Kind).bind fun y1=>bif (qQ p0.Kids:Int)!=y1 then(some false)else((X8 (fun(x1:Int)=>(bif decide (x1<(qQ p0.Kids:Int))then((idx p0.Kids x1).bind fun u1=>(G.P0 u1).bind fun y2=>bif !y2 then(some (Lp.ret false))else(some (Lp.go (qJ .i64 (x1+1)))))else(some (Lp.brk x1)):Option (Lp (Int) (Bool)))) NN (0:Int)).bind fun o=>o.thn (fun(x1:Int)=>some true) (fun r=>some r))
def Y1t:Nat->Rec4
 |0=>⟨fun _=>none⟩
 |n+1=>⟨Q2o (Y1t n)⟩
def P0(p0:Y1):Option (Bool):=(Y1t NN).P0 p0

def Y3e(p0:Int)(p1:Int):Option (Int):=
 some (qJ .u32 (p0+p1))

def Y0k(p0:Int)(p1:Int):Option (Int):=
 some (qJ .u32 (p0-p1))

def Y3d(p0:Int)(p1:Int):Option (Int):=
 some (qJ .u32 (p0*p1))

def Z5c(p0:Int)(p1:Int):Option (Int):=
 (nz p1).bind fun _=>some (qJ .i64 (Int.tdiv p0 p1))

def Z3q(p0:Int)(p1:Int):Option (Int):=
 (Z5c (qJ .i64 (qJ .i32 p0)) (qJ .i64 (qJ .i32 p1))).bind fun y1=>some y1

def Z7d(p0:Int)(p1:Int):Option (Int):=
 bif p1==0 then(some (4294967295:Int))else((Z3q p0 p1).bind fun y1=>some (qJ .u32 y1))

def Z5b(p0:Int)(p1:Int):Option (Int):=
 (nz p1).bind fun _=>some (Int.tmod p0 p1)

def Z1m(p0:Int)(p1:Int):Option (Int):=
 (Z5b (qJ .i64 (qJ .i32 p0)) (qJ .i64 (qJ .i32 p1))).bind fun y1=>some y1

def Z7b(p0:Int)(p1:Int):Option (Int):=
 bif p1==0 then(some p0)else((Z1m p0 p1).bind fun y1=>some (qJ .u32 y1))

def Z4g(p0:Int)(p1:Int):Option (Int):=
 (nn (bits .and .u32 p1 31)).bind fun _=>some (qJ .u32 (p0*2^(min (qF (bits .and .u32 p1 31)) (IntKind.bits .u32))))

def Z1s(p0:Int)(p1:Int):Option (Int):=
 (nn (bits .and .u32 p1 31)).bind fun _=>some (qJ .u32 (Int.fdiv (qJ .i32 p0) (2^(min (qF (bits .and .u32 p1 31)) (IntKind.bits .i32)))))

def Q6v(p0:Bool):Option (Int):=
 bif p0 then(some (1:Int))else(some (0:Int))

def Y0i(p0:Bool):Option (Int):=
 bif p0 then(some (1:Int))else(some (0:Int))

def Q9q(p0:Int)(p1:Int):Option (Int):=
 (Y0i (decide ((qJ .i32 p0)<(qJ .i32 p1)))).bind fun y1=>some y1

def Q8w(p0:Int)(p1:Int)(p2:Int):Option (Int×Int):=
 bif p0==11 then((Q6v (p1==p2)).bind fun y1=>some (y1,(0:Int)))else(bif p0==12 then((Q6v (p1 !=p2)).bind fun y2=>some (y2,(0:Int)))else(bif p0==13 then((Q9q p1 p2).bind fun y3=>some (y3,(0:Int)))else(bif p0==14 then((Q9q p2 p1).bind fun y4=>some (y4,(0:Int)))else(bif p0==15 then((Q9q p2 p1).bind fun y5=>some (qJ .u32 (1-y5),(0:Int)))else(bif p0==16 then((Q9q p1 p2).bind fun y6=>some (qJ .u32 (1-y6),(0:Int)))else(some ((0:Int),(1:Int))))))))

def Q7z(p0:Int)(p1:Int)(p2:Int):Option (Int×Int):=
 bif p0==1 then((Y3e p1 p2).bind fun y1=>some (y1,(0:Int)))else(bif p0==2 then((Y0k p1 p2).bind fun y2=>some (y2,(0:Int)))else(bif p0==3 then((Y3d p1 p2).bind fun y3=>some (y3,(0:Int)))else(jn (fun kk1=>bif p0==4 then(kk1 (p0==4))else(kk1 (p0==5))) (fun(x1:Bool)=>bif x1 then(bif p2==0 then(some ((0:Int),(11:Int)))else(bif p0==4 then((Z7d p1 p2).bind fun y4=>some (y4,(0:Int)))else((Z7b p1 p2).bind fun y5=>some (y5,(0:Int)))))else(bif p0==6 then(some (bits .and .u32 p1 p2,(0:Int)))else(bif p0==7 then(some (bits .or .u32 p1 p2,(0:Int)))else(bif p0==8 then(some (bits .xor .u32 p1 p2,(0:Int)))else(bif p0==9 then((Z4g p1 p2).bind fun y6=>some (y6,(0:Int)))else(bif p0==10 then((Z1s p1 p2).bind fun y7=>some (y7,(0:Int)))else(bif p0==17 then((Y0k 0 p1).bind fun y8=>some (y8,(0:Int)))else(bif p0==18 then(some (bits .xor .u32 (if IntKind.signed .u32 then -1 else IntKind.max .u32) p1,(0:Int)))else(bif p0==19 then((Q6v (p1==0)).bind fun y9=>some (y9,(0:Int)))else((Q8w p0 p1 p2).bind fun y10=>some (y10.1,y10.2))))))))))))))

structure Rec5 where
 I7:Y1->Option (Int×Int)

def Z0p(G:Rec5)(p0:Y1):Option (Int×Int):=
 bif p0.Kind==1 then(some (p0.Num,(0:Int)))else((idx p0.Kids 0).bind fun u1=>(G.I7 u1).bind fun y1=>bif y1.2 !=0 then(some ((0:Int),y1.2))else(jn (fun kk1=>bif p0.Kind==17 then(some (bits .and .u32 y1.1 255,(0:Int)))else(bif p0.Kind==5 then((Q7z p0.Fn y1.1 0).bind fun y2=>some (y2.1,y2.2))else(bif p0.Kind==9 then(bif y1.1 !=0 then((idx p0.Kids 1).bind fun u2=>(G.I7 u2).bind fun y3=>some (y3.1,y3.2))else((idx p0.Kids 2).bind fun u3=>(G.I7 u3).bind fun y4=>some (y4.1,y4.2)))else(jn (fun kk2=>bif p0.Kind==7 then(kk2 (p0.Kind==7))else(kk2 (p0.Kind==8))) (fun(x1:Bool)=>bif x1 then(bif (y1.1 !=0)==(p0.Kind==8)then((Q6v (y1.1 !=0)).bind fun y5=>some (y5,(0:Int)))else(kk1 ()))else(kk1 ())))))) (fun(_:Unit)=>(idx p0.Kids 1).bind fun u4=>(G.I7 u4).bind fun y6=>bif y6.2 !=0 then(some ((0:Int),y6.2))else(bif p0.Kind !=6 then((Q6v (y6.1 !=0)).bind fun y7=>some (y7,(0:Int)))else((Q7z p0.Fn y1.1 y6.1).bind fun y8=>some (y8.1,y8.2))))))
def rec5:Nat->Rec5
 |0=>⟨fun _=>none⟩
 |n+1=>⟨Z0p (rec5 n)⟩
def I7(p0:Y1):Option (Int×Int):=(rec5 NN).I7 p0

def Z3m(p0:Y1):Option (Int×Int):=
 (P0 p0).bind fun y1=>bif !y1 then(some ((0:Int),(9:Int)))else((I7 p0).bind fun y2=>some (y2.1,y2.2))

def Q3p(p0:Q0)(p1:G9)(p2:Int):Option (Except (Z1×Q0) ((List Int)×Q0)):=
 (U9 p0.t p2).bind fun y1=>(repl y1 0).bind fun u1=>(Q1a p0 p1 p2).bind fun y2=>exC y2 (fun y2=>(X8 (fun(x1,x11,x12,x13)=>(bif decide (x11<(qQ y2:Int))then((idx y2 x11).bind fun u2=>jn (fun kk1=>(Z3 ({x12 with t:=x13}) u2).bind fun y3=>exL y3 (fun y3=>(W1 y3.2 p2).bind fun y4=>(D3 y3.2 u2 y3.1 y4).bind fun y5=>exC y5 (fun y5=>kk1 y3.2 y3.2.t y5) (fun e2=>some (Lp.ret (qK (e2,y3.2)))))) (fun(x23:Q0)(x24:Z5)(x25:Y1)=>(Z3m x25).bind fun y6=>(R4 u2.Pos y6.2).bind fun y7=>exC y7 (fun y7=>(W1 ({x23 with t:=x24}) p2).bind fun y8=>(W2 ({x23 with t:=x24}) y8).bind fun y9=>(X8 (fun(x26,x27)=>(bif decide (x27<y9)then((nn (qJ .i64 (8*x27))).bind fun _=>(idx x26 (qJ .i64 ((qJ .i64 (y9*x11))+x27))).bind fun u5=>(idx x26 (qJ .i64 ((qJ .i64 (y9*x11))+x27))).bind fun u6=>some (Lp.go (qP x26 (qF (qJ .i64 ((qJ .i64 (y9*x11))+x27))) (qJ .u8 (Int.fdiv y6.1 (2^(min (qF (qJ .i64 (8*x27))) (IntKind.bits .u32))))),qJ .i64 (x27+1))))else(some (Lp.brk (x26,x27))):Option (Lp ((List Int)×Int) (Unit)))) NN (x1,(0:Int))).bind fun o=>o.thn (fun(x26,x27)=>some (Lp.go (x26,qJ .i64 (x11+1),{x23 with t:=x24},x24))) (fun _=>none)) (fun e3=>some (Lp.ret (qK (e3,{x23 with t:=x24}))))))else(some (Lp.brk (x1,x11,{x12 with t:=x13},x13))):Option (Lp ((List Int)×Int×Q0×Z5) (Except (Z1×Q0) ((List Int)×Q0))))) NN (u1,(0:Int),p0,p0.t)).bind fun o=>o.thn (fun(x1,x11,x12,x13)=>some (qX (x1,{x12 with t:=x13}))) (fun r=>some r)) (fun e4=>some (qK (e4,p0)))

def L6(p0:Q0)(p1:G9):Option (Except (Z1×Q0) (Q0)):=
 (I3 p0 p1).bind fun y1=>exC y1 (fun y1=>(Q2s ({y1.2 with fun_:=p0.fun_}) p1.Pos p1.Name).bind fun y2=>exC y2 (fun y2=>(W0 ({y2 with fun_:=p0.fun_}) p1.Name y1.1).bind fun y3=>(W8 (qQ y2.u.Globals+qQ ([y3]:List Q5u))).bind fun _=>(W8 (qQ y2.gtypes+qQ ([y1.1]:List Int))).bind fun _=>(Q3p ({y2 with u:={y2.u with Globals:=y2.u.Globals++([y3]:List Q5u)},gtypes:=y2.gtypes++([y1.1]:List Int),fun_:=p0.fun_}) p1 y1.1).bind fun y4=>exE y4 (fun y4=>(W8 (qQ y4.2.u.Data+qQ ([y4.1]:List (List Int)))).bind fun _=>some (qX ({y4.2 with u:={y4.2.u with Data:=y4.2.u.Data++([y4.1]:List (List Int))}})))) (fun e2=>some (qK (e2.1,{e2.2 with fun_:=p0.fun_})))) (fun e3=>some (qK (e3.1,{e3.2 with fun_:=p0.fun_})))

def F7(p0:Q0)(p1:Pos)(p2:List UInt8):Option (Except (Z1×Q0) (Q0)):=
 bif (((J5 p0.globals p2).isSome)||((J5 p0.codes p2).isSome))then((X0 p1 6).bind fun y1=>exC y1 (fun y1=>none) (fun e1=>some (qK (e1,p0))))else(bif (Q9t p0.codes:Int)==200 then((X0 p1 2).bind fun y2=>exC y2 (fun y2=>none) (fun e2=>some (qK (e2,p0))))else((p0.codes).bind fun u3=>some (qX ({p0 with codes:=(some (Q4l u3 p2 (Q9t p0.codes:Int)))}))))

def P1(p0:Q0)(p1:I1):Option (Except (Z1×Q0) (Q0)):=
 (K7 p0 p1.Pos p1.Ret).bind fun y1=>exE y1 (fun y1=>bif y1.1 !=0 then((V1 y1.2.t y1.1).bind fun y2=>bif !y2 then((X0 p1.Pos 5).bind fun y3=>exC y3 (fun y3=>none) (fun e1=>some (qK (e1,y1.2))))else((F7 y1.2 p1.Pos p1.Name).bind fun y4=>exE y4 (fun y4=>bif decide (6<(qQ p1.Params:Int))then((X0 p1.Pos 2).bind fun y5=>exC y5 (fun y5=>none) (fun e2=>some (qK (e2,y4))))else((X8 (fun(x10,x11,x12,x13)=>(bif decide (x10<(qQ p1.Params:Int))then((idx p1.Params x10).bind fun u3=>(K7 ({x12 with t:=x13}) u3.Pos u3.Type_).bind fun y6=>exL y6 (fun y6=>(V1 y6.2.t y6.1).bind fun y7=>bif !y7 then((X0 u3.Pos 5).bind fun y8=>exC y8 (fun y8=>none) (fun e3=>some (Lp.ret (qK (e3,y6.2)))))else((W8 (qQ x11.params+qQ ([y6.1]:List Int))).bind fun _=>some (Lp.go (qJ .i64 (x10+1),(⟨x11.ret,x11.params++([y6.1]:List Int)⟩:G8),y6.2,y6.2.t)))))else(some (Lp.brk (x10,x11,{x12 with t:=x13},x13))):Option (Lp (Int×G8×Q0×Z5) (Except (Z1×Q0) (Q0))))) NN ((0:Int),(⟨y1.1,[]⟩:G8),y4,y4.t)).bind fun o=>o.thn (fun(x10,x11,x12,x13)=>(W8 (qQ x12.signs+qQ ([x11]:List G8))).bind fun _=>(W8 (qQ x12.u.Codes+qQ ([(⟨p1.Name,y1.1==0,(qQ p1.Params:Int),[],[]⟩:Q1m)]:List Q1m))).bind fun _=>some (qX ({x12 with t:=x13,u:={x12.u with Codes:=x12.u.Codes++([(⟨p1.Name,y1.1==0,(qQ p1.Params:Int),[],[]⟩:Q1m)]:List Q1m)},signs:=x12.signs++([x11]:List G8)}))) (fun r=>some r)))))else((F7 y1.2 p1.Pos p1.Name).bind fun y9=>exE y9 (fun y9=>bif decide (6<(qQ p1.Params:Int))then((X0 p1.Pos 2).bind fun y10=>exC y10 (fun y10=>none) (fun e6=>some (qK (e6,y9))))else((X8 (fun(x23,x24,x25,x26)=>(bif decide (x23<(qQ p1.Params:Int))then((idx p1.Params x23).bind fun u8=>(K7 ({x25 with t:=x26}) u8.Pos u8.Type_).bind fun y11=>exL y11 (fun y11=>(V1 y11.2.t y11.1).bind fun y12=>bif !y12 then((X0 u8.Pos 5).bind fun y13=>exC y13 (fun y13=>none) (fun e7=>some (Lp.ret (qK (e7,y11.2)))))else((W8 (qQ x24.params+qQ ([y11.1]:List Int))).bind fun _=>some (Lp.go (qJ .i64 (x23+1),(⟨x24.ret,x24.params++([y11.1]:List Int)⟩:G8),y11.2,y11.2.t)))))else(some (Lp.brk (x23,x24,{x25 with t:=x26},x26))):Option (Lp (Int×G8×Q0×Z5) (Except (Z1×Q0) (Q0))))) NN ((0:Int),(⟨y1.1,[]⟩:G8),y9,y9.t)).bind fun o=>o.thn (fun(x23,x24,x25,x26)=>(W8 (qQ x25.signs+qQ ([x24]:List G8))).bind fun _=>(W8 (qQ x25.u.Codes+qQ ([(⟨p1.Name,y1.1==0,(qQ p1.Params:Int),[],[]⟩:Q1m)]:List Q1m))).bind fun _=>some (qX ({x25 with t:=x26,u:={x25.u with Codes:=x25.u.Codes++([(⟨p1.Name,y1.1==0,(qQ p1.Params:Int),[],[]⟩:Q1m)]:List Q1m)},signs:=x25.signs++([x24]:List G8)}))) (fun r=>some r)))))

def N0(p0:Q0)(p1:List I1):Option (Except (Z1×Q0) (Q0)):=
 bif !((J5 p0.codes ([109,97,105,110]:List UInt8)).isSome)then((X0 (⟨1,1⟩:Pos) 4).bind fun y1=>exC y1 (fun y1=>none) (fun e1=>some (qK (e1,p0))))else((idx p0.signs ((J5 p0.codes ([109,97,105,110]:List UInt8)).getD 0)).bind fun u2=>bif decide (0<(qQ u2.params:Int))then((idx p1 ((J5 p0.codes ([109,97,105,110]:List UInt8)).getD 0)).bind fun u6=>(X0 u6.Pos 5).bind fun y3=>exC y3 (fun y3=>none) (fun e3=>some (qK (e3,p0))))else((idx p0.signs ((J5 p0.codes ([109,97,105,110]:List UInt8)).getD 0)).bind fun u3=>bif u3.ret !=1 then((idx p1 ((J5 p0.codes ([109,97,105,110]:List UInt8)).getD 0)).bind fun u4=>(X0 u4.Pos 5).bind fun y2=>exC y2 (fun y2=>none) (fun e2=>some (qK (e2,p0))))else(some (qX ({p0 with u:={p0.u with Main:=(J5 p0.codes ([109,97,105,110]:List UInt8)).getD 0}})))))

def D7(p0:Q0)(p1:Pos)(p2:List UInt8)(p3:Int):Option (Except (Z1×Q0) (Int×Q0)):=
 (O3.get p0.fun_).bind fun u1=>(idx u1.scopes (qJ .i64 ((qQ u1.scopes:Int)-1))).bind fun u2=>bif (J5 u2 p2).isSome then((X0 p1 6).bind fun y1=>exC y1 (fun y1=>none) (fun e1=>some (qK (e1,p0))))else(bif (qQ u1.slots:Int)==200 then((X0 p1 2).bind fun y2=>exC y2 (fun y2=>none) (fun e2=>some (qK (e2,p0))))else((u2).bind fun u5=>(W0 ({p0 with fun_:=(O3.some ({u1 with scopes:=qP u1.scopes (qF (qJ .i64 ((qQ u1.scopes:Int)-1))) (some (Q4l u5 p2 (qQ u1.slots:Int)))}))}) p2 p3).bind fun y3=>(W8 (qQ u1.slots+qQ ([y3]:List Q5u))).bind fun _=>(W8 (qQ u1.types+qQ ([p3]:List Int))).bind fun _=>some (qX (qJ .i64 ((qQ (u1.slots++([y3]:List Q5u)):Int)-1),{p0 with fun_:=(O3.some ({u1 with slots:=u1.slots++([y3]:List Q5u),types:=u1.types++([p3]:List Int),scopes:=qP u1.scopes (qF (qJ .i64 ((qQ u1.scopes:Int)-1))) (some (Q4l u5 p2 (qQ u1.slots:Int)))}))}))))

def C1(p0:Q0)(p1:Y2):Option (Except (Z1×Q0) (K2×Q0)):=
 (U0 p0 p1).bind fun y1=>exE y1 (fun y1=>jn (fun kk1=>bif y1.1.lies then((V1 y1.2.t y1.1.n).bind fun y2=>bif y2 then((P9 y1.2 p1.Pos y1.1).bind fun y3=>exC y3 (fun y3=>kk1 y3.1 ({y3.2 with fun_:=y1.2.fun_}) y3.2.t) (fun e1=>some (qK (e1.1,{e1.2 with fun_:=y1.2.fun_}))))else(kk1 y1.1 y1.2 y1.2.t))else(kk1 y1.1 y1.2 y1.2.t)) (fun(x10:Z8)(x11:Q0)(x12:Z5)=>some (qX ((⟨1,([x10.term]:List Y1),[],false,[],[],[],0⟩:K2),{x11 with t:=x12}))))

def O5(p0:Y1)(p1:Y1)(p2:Q0)(p3:Int)(p4:List K2):Option ((List K2)):=
 jn (fun kk1=>(U9 p2.t p3).bind fun y1=>(Y8 p2 p3).bind fun y2=>kk1 (⟨4,0,0,0,false,y1,false,y2,([p0,p1]:List Y1)⟩:Y1)) (fun(x1:Y1)=>(W8 (qQ p4+qQ ([(⟨0,[],[],false,[],[],[],0⟩:K2)]:List K2))).bind fun _=>(idx (p4++([(⟨0,[],[],false,[],[],[],0⟩:K2)]:List K2)) (qQ p4:Int)).bind fun u1=>some (qP (p4++([(⟨0,[],[],false,[],[],[],0⟩:K2)]:List K2)) (qF (qQ p4:Int)) (⟨1,([x1]:List Y1),[],false,[],[],[],0⟩:K2)))

def C9(p0:Q0)(p1:G9):Option (Except (Z1×Q0) ((List K2)×Q0)):=
 (I3 p0 p1).bind fun y1=>exC y1 (fun y1=>(D7 ({y1.2 with fun_:=p0.fun_}) p1.Pos p1.Name y1.1).bind fun y2=>exE y2 (fun y2=>(W1 y2.2 y1.1).bind fun y3=>(M5 y2.2.t y1.1).bind fun y4=>(Q1a y2.2 p1 y1.1).bind fun y5=>exC y5 (fun y5=>bif (qQ y5:Int)==0 then(some (qX (([(⟨9,[],[],false,[],[],[],y2.1⟩:K2)]:List K2),y2.2)))else(bif y4.1.Kind !=4 then((idx y5 0).bind fun u1=>(idx y5 0).bind fun u2=>(Z3 y2.2 u2).bind fun y6=>exE y6 (fun y6=>(D3 y6.2 u1 y6.1 y1.1).bind fun y7=>exC y7 (fun y7=>(O5 (⟨2,0,0,y2.1,false,0,false,true,[]⟩:Y1) y7 y6.2 y3 ([(⟨9,[],[],false,[],[],[],y2.1⟩:K2)]:List K2)).bind fun y8=>some (qX (y8,y6.2))) (fun e1=>some (qK (e1,y6.2)))))else((X8 (fun(x11,x12,x13,x14)=>(bif decide (x11<y4.1.Len)then((Y8 ({x13 with t:=x14}) y3).bind fun y9=>jn (fun kk1=>bif decide (x11<(qQ y5:Int))then((idx y5 x11).bind fun u5=>(idx y5 x11).bind fun u6=>(Z3 ({x13 with t:=x14}) u6).bind fun y10=>exL y10 (fun y10=>(D3 y10.2 u5 y10.1 y3).bind fun y11=>exC y11 (fun y11=>kk1 y11 y10.2 y10.2.t) (fun e3=>some (Lp.ret (qK (e3,y10.2))))))else(kk1 (⟨1,0,0,0,false,0,false,y9,[]⟩:Y1) ({x13 with t:=x14}) x14)) (fun(x24:Y1)(x25:Q0)(x26:Z5)=>(Q0c ({x25 with t:=x26}) (⟨2,0,0,y2.1,false,0,false,true,[]⟩:Y1) (⟨1,0,qJ .u32 x11,0,false,0,false,false,[]⟩:Y1) y3 1).bind fun y12=>(O5 y12 x24 ({x25 with t:=x26}) y3 x12).bind fun y13=>some (Lp.go (qJ .i64 (x11+1),y13,{x25 with t:=x26},x26))))else(some (Lp.brk (x11,x12,{x13 with t:=x14},x14))):Option (Lp (Int×(List K2)×Q0×Z5) (Except (Z1×Q0) ((List K2)×Q0))))) NN ((0:Int),([(⟨9,[],[],false,[],[],[],y2.1⟩:K2)]:List K2),y2.2,y2.2.t)).bind fun o=>o.thn (fun(x11,x12,x13,x14)=>some (qX (x12,{x13 with t:=x14}))) (fun r=>some r)))) (fun e5=>some (qK (e5,y2.2))))) (fun e7=>some (qK (e7.1,{e7.2 with fun_:=p0.fun_})))

def I9(p0:Q0)(p1:Int)(p2:Y2):Option (Except (Z1×Q0) (K2×Q0)):=
 (V5 p0 p2).bind fun y1=>exE y1 (fun y1=>some (qX ((⟨p1,([y1.1]:List Y1),[],false,[],[],[],0⟩:K2),y1.2)))

def M1(p0:Q0)(p1:E0):Option (Except (Z1×Q0) (K2×Q0)):=
 bif (qQ p1.A:Int)==0 then((O3.get p0.fun_).bind fun u1=>bif u1.ret !=0 then((X0 p1.Pos 5).bind fun y1=>exC y1 (fun y1=>none) (fun e1=>some (qK (e1,p0))))else(some (qX ((⟨5,[],[],false,[],[],[],0⟩:K2),p0))))else((idx p1.A 0).bind fun u3=>(Z3 p0 u3).bind fun y2=>exE y2 (fun y2=>(O3.get y2.2.fun_).bind fun u4=>bif u4.ret==0 then((X0 u3.Pos 5).bind fun y3=>exC y3 (fun y3=>none) (fun e2=>some (qK (e2,y2.2))))else((P2 ({y2.2 with fun_:=(O3.some u4)}) u3 y2.1 u4.ret).bind fun y4=>exC y4 (fun y4=>some (qX ((⟨5,([y4]:List Y1),[],false,[],[],[],0⟩:K2),y2.2))) (fun e3=>some (qK (e3,y2.2))))))

structure Y1n where
 V4:Q0->(List E0)->Option (Except (Z1×Q0) ((List K2)×Q0))
 K8:Q0->(List E0)->Option (Except (Z1×Q0) ((List K2)×Q0))
 D5:Q0->E0->Option (Except (Z1×Q0) ((List K2)×Q0))
 D4:Q0->E0->Option (Except (Z1×Q0) (K2×Q0))
 B3:Q0->E0->Option (Except (Z1×Q0) ((List K2)×Q0))
 K3:Q0->(List E0)->Option (Except (Z1×Q0) ((List K2)×Q0))

def H8(G:Y1n)(p0:Q0)(p1:List E0):Option (Except (Z1×Q0) ((List K2)×Q0)):=
 (O3.get p0.fun_).bind fun u1=>(W8 (qQ u1.scopes+1)).bind fun _=>(G.K3 ({p0 with fun_:=(O3.some ({u1 with scopes:=u1.scopes++[(some [])]}))}) p1).bind fun y1=>exE y1 (fun y1=>(O3.get y1.2.fun_).bind fun u2=>(sub u2.scopes 0 (qJ .i64 ((qQ u2.scopes:Int)-1))).bind fun u3=>some (qX (y1.1,{y1.2 with fun_:=(O3.some ({u2 with scopes:=u3}))})))
def A2(G:Y1n)(p0:Q0)(p1:List E0):Option (Except (Z1×Q0) ((List K2)×Q0)):=
 (O3.get p0.fun_).bind fun u1=>(G.V4 ({p0 with fun_:=(O3.some ({u1 with loops:=qJ .i64 (u1.loops+1),breaks:=qJ .i64 (u1.breaks+1)}))}) p1).bind fun y1=>exE y1 (fun y1=>(O3.get y1.2.fun_).bind fun u2=>some (qX (y1.1,{y1.2 with fun_:=(O3.some ({u2 with loops:=qJ .i64 (u2.loops-1),breaks:=qJ .i64 (u2.breaks-1)}))})))
def A6(G:Y1n)(p0:Q0)(p1:E0):Option (Except (Z1×Q0) ((List K2)×Q0)):=
 (X8 (fun(x1,x11,x12,x13)=>(bif decide (x11<(qQ p1.A:Int))then((idx p1.A x11).bind fun u1=>(C1 ({x12 with t:=x13}) u1).bind fun y1=>exL y1 (fun y1=>(W8 (qQ x1+qQ ([y1.1]:List K2))).bind fun _=>some (Lp.go (x1++([y1.1]:List K2),qJ .i64 (x11+1),y1.2,y1.2.t))))else(some (Lp.brk (x1,x11,{x12 with t:=x13},x13))):Option (Lp ((List K2)×Int×Q0×Z5) (Except (Z1×Q0) ((List K2)×Q0))))) NN ([],(0:Int),p0,p0.t)).bind fun o=>o.thn (fun(x1,x11,x12,x13)=>(X8 (fun(x24,x25,x26,x27)=>(bif decide (x24<(qQ p1.B:Int))then((idx p1.B x24).bind fun u3=>(V5 ({x26 with t:=x27}) u3).bind fun y2=>exL y2 (fun y2=>(W8 (qQ x25.A+qQ ([y2.1]:List Y1))).bind fun _=>some (Lp.go (qJ .i64 (x24+1),{x25 with A:=x25.A++([y2.1]:List Y1)},y2.2,y2.2.t))))else(some (Lp.brk (x24,x25,{x26 with t:=x27},x27))):Option (Lp (Int×K2×Q0×Z5) (Except (Z1×Q0) ((List K2)×Q0))))) NN ((0:Int),(⟨3,[],[],false,[],[],[],0⟩:K2),{x12 with t:=x13},x13)).bind fun o=>o.thn (fun(x24,x25,x26,x27)=>(X8 (fun(x38,x39,x40,x41)=>(bif decide (x38<(qQ p1.C:Int))then((idx p1.C x38).bind fun u5=>(C1 ({x40 with t:=x41}) u5).bind fun y3=>exL y3 (fun y3=>some (Lp.go (qJ .i64 (x38+1),{x39 with Post:=y3.1.A},y3.2,y3.2.t))))else(some (Lp.brk (x38,x39,{x40 with t:=x41},x41))):Option (Lp (Int×K2×Q0×Z5) (Except (Z1×Q0) ((List K2)×Q0))))) NN ((0:Int),x25,{x26 with t:=x27},x27)).bind fun o=>o.thn (fun(x38,x39,x40,x41)=>(G.K8 ({x40 with t:=x41}) p1.Body).bind fun y4=>exE y4 (fun y4=>(W8 (qQ x1+qQ ([{x39 with Body:=y4.1}]:List K2))).bind fun _=>some (qX (x1++([{x39 with Body:=y4.1}]:List K2),y4.2)))) (fun r=>some r)) (fun r=>some r)) (fun r=>some r)
def A3(G:Y1n)(p0:Q0)(p1:E0):Option (Except (Z1×Q0) (K2×Q0)):=
 (idx p1.A 0).bind fun u1=>(V2 p0 u1).bind fun y1=>exE y1 (fun y1=>(O3.get y1.2.fun_).bind fun u2=>(X8 (fun(x2,x13,x14,x15,x16,x17)=>(bif decide (x14<(qQ p1.Cases:Int))then((idx p1.Cases x14).bind fun u3=>bif (u3.Default&&x13)then((X0 u3.Pos 6).bind fun y5=>exC y5 (fun y5=>none) (fun e4=>some (Lp.ret (qK (e4,{x16 with t:=x17})))))else(bif !u3.Default then(bif (J5 x2 u3.Num).getD false then((X0 u3.Pos 6).bind fun y2=>exC y2 (fun y2=>none) (fun e1=>some (Lp.ret (qK (e1,{x16 with t:=x17})))))else(jn (fun kk1=>bif u3.Default then(kk1 x2 true)else((x2).bind fun u5=>kk1 (some (Q4l u5 u3.Num true)) x13)) (fun(x18:Option (List (Int×Bool)))(x19:Bool)=>(G.V4 ({x16 with t:=x17}) u3.Body).bind fun y3=>exL y3 (fun y3=>(W8 (qQ x15.Cases+qQ ([{u3 with Body:=y3.1}]:List Q8a))).bind fun _=>some (Lp.go (x18,x19,qJ .i64 (x14+1),{x15 with Cases:=x15.Cases++([{u3 with Body:=y3.1}]:List Q8a)},y3.2,y3.2.t))))))else(jn (fun kk2=>bif u3.Default then(kk2 x2 true)else((x2).bind fun u7=>kk2 (some (Q4l u7 u3.Num true)) x13)) (fun(x20:Option (List (Int×Bool)))(x21:Bool)=>(G.V4 ({x16 with t:=x17}) u3.Body).bind fun y4=>exL y4 (fun y4=>(W8 (qQ x15.Cases+qQ ([{u3 with Body:=y4.1}]:List Q8a))).bind fun _=>some (Lp.go (x20,x21,qJ .i64 (x14+1),{x15 with Cases:=x15.Cases++([{u3 with Body:=y4.1}]:List Q8a)},y4.2,y4.2.t)))))))else(some (Lp.brk (x2,x13,x14,x15,{x16 with t:=x17},x17))):Option (Lp ((Option (List (Int×Bool)))×Bool×Int×K2×Q0×Z5) (Except (Z1×Q0) (K2×Q0))))) NN ((some []),false,(0:Int),(⟨4,([y1.1]:List Y1),[],false,[],[],[],0⟩:K2),{y1.2 with fun_:=(O3.some ({u2 with breaks:=qJ .i64 (u2.breaks+1)}))},y1.2.t)).bind fun o=>o.thn (fun(x2,x13,x14,x15,x16,x17)=>(O3.get x16.fun_).bind fun u10=>some (qX (x15,{x16 with t:=x17,fun_:=(O3.some ({u10 with breaks:=qJ .i64 (u10.breaks-1)}))}))) (fun r=>some r))
def N8(G:Y1n)(p0:Q0)(p1:E0):Option (Except (Z1×Q0) ((List K2)×Q0)):=
 bif p1.Kind==1 then((idx p1.A 0).bind fun u1=>(C1 p0 u1).bind fun y1=>exE y1 (fun y1=>some (qX (([y1.1]:List K2),y1.2))))else(bif p1.Kind==2 then((idx p1.Var 0).bind fun u3=>(C9 p0 u3).bind fun y2=>exE y2 (fun y2=>some (qX (y2.1,y2.2))))else(bif p1.Kind==3 then((idx p1.A 0).bind fun u5=>(I9 p0 2 u5).bind fun y3=>exE y3 (fun y3=>(G.V4 y3.2 p1.Body).bind fun y4=>exE y4 (fun y4=>(G.V4 y4.2 p1.Else).bind fun y5=>exE y5 (fun y5=>some (qX (([{y3.1 with Body:=y4.1,Else:=y5.1}]:List K2),y5.2))))))else(bif p1.Kind==4 then((idx p1.A 0).bind fun u9=>(I9 p0 3 u9).bind fun y6=>exE y6 (fun y6=>(G.K8 y6.2 p1.Body).bind fun y7=>exE y7 (fun y7=>some (qX (([{y6.1 with Body:=y7.1}]:List K2),y7.2)))))else(bif p1.Kind==5 then((G.K8 p0 p1.Body).bind fun y8=>exE y8 (fun y8=>(idx p1.A 0).bind fun u12=>(I9 y8.2 3 u12).bind fun y9=>exE y9 (fun y9=>some (qX (([{y9.1 with First:=true,Body:=y8.1}]:List K2),y9.2)))))else(bif p1.Kind==6 then((G.D5 p0 p1).bind fun y10=>exE y10 (fun y10=>some (qX (([(⟨8,[],[],false,y10.1,[],[],0⟩:K2)]:List K2),y10.2))))else(bif p1.Kind==7 then((G.D4 p0 p1).bind fun y11=>exE y11 (fun y11=>some (qX (([y11.1]:List K2),y11.2))))else(bif p1.Kind==8 then((M1 p0 p1).bind fun y12=>exE y12 (fun y12=>some (qX (([y12.1]:List K2),y12.2))))else(bif p1.Kind==11 then((G.V4 p0 p1.Body).bind fun y13=>exE y13 (fun y13=>some (qX (([(⟨8,[],[],false,y13.1,[],[],0⟩:K2)]:List K2),y13.2))))else(bif p1.Kind==9 then((O3.get p0.fun_).bind fun u19=>bif u19.breaks==0 then((X0 p1.Pos 9).bind fun y14=>exC y14 (fun y14=>none) (fun e14=>some (qK (e14,p0))))else(some (qX (([(⟨6,[],[],false,[],[],[],0⟩:K2)]:List K2),p0))))else(bif p1.Kind==10 then((O3.get p0.fun_).bind fun u21=>bif u21.loops==0 then((X0 p1.Pos 9).bind fun y15=>exC y15 (fun y15=>none) (fun e15=>some (qK (e15,p0))))else(some (qX (([(⟨7,[],[],false,[],[],[],0⟩:K2)]:List K2),p0))))else(some (qX ([],p0)))))))))))))
def M2(G:Y1n)(p0:Q0)(p1:List E0):Option (Except (Z1×Q0) ((List K2)×Q0)):=
 (X8 (fun(x1,x11,x12,x13)=>(bif decide (x11<(qQ p1:Int))then((idx p1 x11).bind fun u1=>(G.B3 ({x12 with t:=x13}) u1).bind fun y1=>exL y1 (fun y1=>(W8 (qQ x1+qQ y1.1)).bind fun _=>some (Lp.go (x1++y1.1,qJ .i64 (x11+1),y1.2,y1.2.t))))else(some (Lp.brk (x1,x11,{x12 with t:=x13},x13))):Option (Lp ((List K2)×Int×Q0×Z5) (Except (Z1×Q0) ((List K2)×Q0))))) NN ([],(0:Int),p0,p0.t)).bind fun o=>o.thn (fun(x1,x11,x12,x13)=>some (qX (x1,{x12 with t:=x13}))) (fun r=>some r)
def Q0s:Nat->Y1n
 |0=>⟨fun _ _=>none,fun _ _=>none,fun _ _=>none,fun _ _=>none,fun _ _=>none,fun _ _=>none⟩
 |n+1=>⟨H8 (Q0s n),A2 (Q0s n),A6 (Q0s n),A3 (Q0s n),N8 (Q0s n),M2 (Q0s n)⟩
def V4(p0:Q0)(p1:List E0):Option (Except (Z1×Q0) ((List K2)×Q0)):=(Q0s NN).V4 p0 p1
def K8(p0:Q0)(p1:List E0):Option (Except (Z1×Q0) ((List K2)×Q0)):=(Q0s NN).K8 p0 p1
def D5(p0:Q0)(p1:E0):Option (Except (Z1×Q0) ((List K2)×Q0)):=(Q0s NN).D5 p0 p1
def D4(p0:Q0)(p1:E0):Option (Except (Z1×Q0) (K2×Q0)):=(Q0s NN).D4 p0 p1
def B3(p0:Q0)(p1:E0):Option (Except (Z1×Q0) ((List K2)×Q0)):=(Q0s NN).B3 p0 p1
def K3(p0:Q0)(p1:List E0):Option (Except (Z1×Q0) ((List K2)×Q0)):=(Q0s NN).K3 p0 p1

def B8(p0:Q0)(p1:Int)(p2:I1):Option (Except (Z1×Q0) (Q0)):=
 (idx p0.signs p1).bind fun u1=>(X8 (fun(x2,x10,x11)=>(bif decide (x10<(qQ p2.Params:Int))then((idx p2.Params x10).bind fun u2=>(idx x11.signs p1).bind fun u3=>(idx u3.params x10).bind fun u4=>(D7 ({x11 with t:=(⟨x2⟩:Z5)}) u2.Pos u2.Name u4).bind fun y1=>exL y1 (fun y1=>some (Lp.go (y1.2.t.list,qJ .i64 (x10+1),y1.2))))else(some (Lp.brk (x2,x10,{x11 with t:=(⟨x2⟩:Z5)}))):Option (Lp ((List U8)×Int×Q0) (Except (Z1×Q0) (Q0))))) NN (p0.t.list,(0:Int),{p0 with fun_:=(O3.some (⟨u1.ret,[],[],([(some [])]:List (Option (List ((List UInt8)×Int)))),0,0⟩:G0))})).bind fun o=>o.thn (fun(x2,x10,x11)=>(K3 ({x11 with t:=(⟨x2⟩:Z5)}) p2.Body).bind fun y2=>exE y2 (fun y2=>(O3.get y2.2.fun_).bind fun u6=>(idx y2.2.u.Codes p1).bind fun u7=>(idx y2.2.u.Codes p1).bind fun u8=>(idx (qP y2.2.u.Codes (qF p1) ({u8 with Body:=y2.1})) p1).bind fun u9=>(idx (qP y2.2.u.Codes (qF p1) ({u8 with Body:=y2.1})) p1).bind fun u10=>some (qX ({y2.2 with u:={y2.2.u with Codes:=qP (qP y2.2.u.Codes (qF p1) ({u8 with Body:=y2.1})) (qF p1) ({u10 with Slots:=u6.slots})},fun_:=O3.dead})))) (fun r=>some r)

def Q0e(p0:Q0)(p1:K1):Option (Except (Z1×Q0) (Q0)):=
 (Q1j p0 p1.Structs).bind fun y1=>exC y1 (fun y1=>(X8 (fun(x10,x11,x12)=>(bif decide (x10<(qQ p1.Globals:Int))then((idx p1.Globals x10).bind fun u1=>(L6 ({x11 with t:=x12}) u1).bind fun y2=>exL y2 (fun y2=>some (Lp.go (qJ .i64 (x10+1),y2,y2.t))))else(some (Lp.brk (x10,{x11 with t:=x12},x12))):Option (Lp (Int×Q0×Z5) (Except (Z1×Q0) (Q0))))) NN ((0:Int),{y1 with fun_:=p0.fun_},y1.t)).bind fun o=>o.thn (fun(x10,x11,x12)=>(X8 (fun(x22,x23,x24)=>(bif decide (x22<(qQ p1.Funcs:Int))then((idx p1.Funcs x22).bind fun u3=>(P1 ({x23 with t:=x24}) u3).bind fun y3=>exC y3 (fun y3=>some (Lp.go (qJ .i64 (x22+1),{y3 with fun_:=x23.fun_},y3.t))) (fun e2=>some (Lp.ret (qK (e2.1,{e2.2 with fun_:=x23.fun_})))))else(some (Lp.brk (x22,{x23 with t:=x24},x24))):Option (Lp (Int×Q0×Z5) (Except (Z1×Q0) (Q0))))) NN ((0:Int),{x11 with t:=x12},x12)).bind fun o=>o.thn (fun(x22,x23,x24)=>(N0 ({x23 with t:=x24}) p1.Funcs).bind fun y4=>exC y4 (fun y4=>(X8 (fun(x34,x35,x36)=>(bif decide (x34<(qQ p1.Funcs:Int))then((idx p1.Funcs x34).bind fun u5=>(B8 ({x35 with t:=x36}) x34 u5).bind fun y5=>exL y5 (fun y5=>some (Lp.go (qJ .i64 (x34+1),y5,y5.t))))else(some (Lp.brk (x34,{x35 with t:=x36},x36))):Option (Lp (Int×Q0×Z5) (Except (Z1×Q0) (Q0))))) NN ((0:Int),{y4 with fun_:=x23.fun_},y4.t)).bind fun o=>o.thn (fun(x34,x35,x36)=>some (qX ({x35 with t:=x36}))) (fun r=>some r)) (fun e4=>some (qK (e4.1,{e4.2 with fun_:=x23.fun_})))) (fun r=>some r)) (fun r=>some r)) (fun e12=>some (qK (e12.1,{e12.2 with fun_:=p0.fun_})))

def Q1y(p0:K1):Option (Q9x×Pos×Int):=
 (Y1b).bind fun y1=>(Q0e (⟨y1,(⟨[],[],[],0⟩:Q9x),(some []),(some []),[],[],O3.nil⟩:Q0) p0).bind fun y2=>exC y2 (fun y2=>some (y2.u,(⟨0,0⟩:Pos),(0:Int))) (fun e1=>some ((⟨[],[],[],0⟩:Q9x),e1.1.pos,e1.1.e))

def Q7q(p0:List UInt8):Option (Q9x×Bool):=
 bif decide (4000<(qQ p0:Int))then(some ((⟨[],[],[],0⟩:Q9x),false))else((Q5j p0).bind fun y1=>bif y1.2.2 !=0 then(some ((⟨[],[],[],0⟩:Q9x),false))else((Q1y y1.1).bind fun y2=>some (y2.1,y2.2.2==0)))

def Q7p:Option (Bool):=
 (Q5j ([105,110,116,32,109,97,105,110,40,41,32,123,32,105,110,116,32,97,91,50,93,59,32,97,91,49,93,32,61,32,51,59,32,114,101,116,117,114,110,32,97,91,49,93,59,32,125]:List UInt8)).bind fun y1=>(Q1y y1.1).bind fun y2=>bif (((y1.2.2==0)&&(y2.2.2==0))&&((qQ y2.1.Codes:Int)==1))then((idx y2.1.Codes 0).bind fun u1=>bif (qQ u1.Slots:Int)==1 then((idx y2.1.Codes 0).bind fun u2=>(idx u2.Slots 0).bind fun u3=>bif u3.Size==8 then((idx y2.1.Codes 0).bind fun u4=>some ((qQ u4.Body:Int)==3))else(some false))else(some false))else(some false)

def Q9u(p0:List Q5u)(p1:List Q5u):Option (Bool):=
 bif (qQ p0:Int)!=(qQ p1:Int)then(some false)else((X8 (fun(x1:Int)=>(bif decide (x1<(qQ p0:Int))then((idx p0 x1).bind fun u1=>(idx p1 x1).bind fun u2=>bif u1.Size !=u2.Size then(some (Lp.ret false))else((idx p0 x1).bind fun u3=>(idx p1 x1).bind fun u4=>bif u3.Align !=u4.Align then(some (Lp.ret false))else((idx p0 x1).bind fun u5=>(idx p1 x1).bind fun u6=>bif u5.Cell !=u6.Cell then(some (Lp.ret false))else(some (Lp.go (qJ .i64 (x1+1)))))))else(some (Lp.brk x1)):Option (Lp (Int) (Bool)))) NN (0:Int)).bind fun o=>o.thn (fun(x1:Int)=>some true) (fun r=>some r))

structure Rec7 where
 Q1o:(List Y1)->(List Y1)->Option (Bool)

def Z0m(G:Rec7)(p0:List Y1)(p1:List Y1):Option (Bool):=
 bif (qQ p0:Int)!=(qQ p1:Int)then(some false)else((X8 (fun(x1:Int)=>(bif decide (x1<(qQ p0:Int))then(jn (fun kk1=>(idx p0 x1).bind fun u1=>(idx p1 x1).bind fun u2=>kk1 u1 u2) (fun(x2:Y1)(x3:Y1)=>bif ((((((((x2.Kind !=x3.Kind)||(x2.Fn !=x3.Fn))||(x2.Num !=x3.Num))||(x2.Var !=x3.Var))||(!(x2.Global==x3.Global)))||(x2.Size !=x3.Size))||(!(x2.Post==x3.Post)))||(!(x2.Ptr==x3.Ptr)))then(some (Lp.ret false))else((G.Q1o x2.Kids x3.Kids).bind fun y1=>bif !y1 then(some (Lp.ret false))else(some (Lp.go (qJ .i64 (x1+1)))))))else(some (Lp.brk x1)):Option (Lp (Int) (Bool)))) NN (0:Int)).bind fun o=>o.thn (fun(x1:Int)=>some true) (fun r=>some r))
def rec7:Nat->Rec7
 |0=>⟨fun _ _=>none⟩
 |n+1=>⟨Z0m (rec7 n)⟩
def Q1o(p0:List Y1)(p1:List Y1):Option (Bool):=(rec7 NN).Q1o p0 p1

structure Rec8 where
 R1:(List K2)->(List K2)->Option (Bool)

def Q8u(G:Rec8)(p0:List K2)(p1:List K2):Option (Bool):=
 bif (qQ p0:Int)!=(qQ p1:Int)then(some false)else((X8 (fun(x1:Int)=>(bif decide (x1<(qQ p0:Int))then(jn (fun kk1=>(idx p0 x1).bind fun u1=>(idx p1 x1).bind fun u2=>kk1 u1 u2) (fun(x2:K2)(x3:K2)=>bif (((x2.Kind !=x3.Kind)||(!(x2.First==x3.First)))||(x2.Var !=x3.Var))then(some (Lp.ret false))else((Q1o x2.A x3.A).bind fun y1=>bif !y1 then(some (Lp.ret false))else((Q1o x2.Post x3.Post).bind fun y2=>bif !y2 then(some (Lp.ret false))else((G.R1 x2.Body x3.Body).bind fun y3=>bif !y3 then(some (Lp.ret false))else((G.R1 x2.Else x3.Else).bind fun y4=>bif ((!y4)||((qQ x2.Cases:Int)!=(qQ x3.Cases:Int)))then(some (Lp.ret false))else((X8 (fun(x4:Int)=>(bif decide (x4<(qQ x2.Cases:Int))then(jn (fun kk2=>(idx x2.Cases x4).bind fun u3=>(idx x3.Cases x4).bind fun u4=>kk2 u3 u4) (fun(x5:Q8a)(x6:Q8a)=>bif ((!(x5.Default==x6.Default))||(x5.Num !=x6.Num))then(some (Lp.ret false))else((G.R1 x5.Body x6.Body).bind fun y5=>bif !y5 then(some (Lp.ret false))else(some (Lp.go (qJ .i64 (x4+1)))))))else(some (Lp.brk x4)):Option (Lp (Int) (Bool)))) NN (0:Int)).bind fun o=>o.thn (fun(x4:Int)=>some (Lp.go (qJ .i64 (x1+1)))) (fun r=>some (Lp.ret r)))))))))else(some (Lp.brk x1)):Option (Lp (Int) (Bool)))) NN (0:Int)).bind fun o=>o.thn (fun(x1:Int)=>some true) (fun r=>some r))
def rec8:Nat->Rec8
 |0=>⟨fun _ _=>none⟩
 |n+1=>⟨Q8u (rec8 n)⟩
def R1(p0:List K2)(p1:List K2):Option (Bool):=(rec8 NN).R1 p0 p1

def Z1k(p0:Q9x)(p1:Q9x):Option (Bool):=
 (Q9u p0.Globals p1.Globals).bind fun y1=>bif ((((!y1)||((qQ p0.Data:Int)!=(qQ p1.Data:Int)))||((qQ p0.Codes:Int)!=(qQ p1.Codes:Int)))||(p0.Main !=p1.Main))then(some false)else((X8 (fun(x1:Int)=>(bif decide (x1<(qQ p0.Data:Int))then((idx p0.Data x1).bind fun u1=>(idx p1.Data x1).bind fun u2=>bif !(decide (Z8o u1=Z8o u2))then(some (Lp.ret false))else(some (Lp.go (qJ .i64 (x1+1)))))else(some (Lp.brk x1)):Option (Lp (Int) (Bool)))) NN (0:Int)).bind fun o=>o.thn (fun(x1:Int)=>(X8 (fun(x2:Int)=>(bif decide (x2<(qQ p0.Codes:Int))then(jn (fun kk1=>(idx p0.Codes x2).bind fun u3=>(idx p1.Codes x2).bind fun u4=>kk1 u3 u4) (fun(x3:Q1m)(x4:Q1m)=>bif ((!(x3.Void==x4.Void))||(x3.Params !=x4.Params))then(some (Lp.ret false))else((Q9u x3.Slots x4.Slots).bind fun y2=>bif !y2 then(some (Lp.ret false))else((R1 x3.Body x4.Body).bind fun y3=>bif !y3 then(some (Lp.ret false))else(some (Lp.go (qJ .i64 (x2+1))))))))else(some (Lp.brk x2)):Option (Lp (Int) (Bool)))) NN (0:Int)).bind fun o=>o.thn (fun(x2:Int)=>some true) (fun r=>some r)) (fun r=>some r))

def Q6r(p0:List UInt8):Option (Bool):=
 (Q7q p0).bind fun y1=>bif ((!y1.2)||(decide (100<=(qQ y1.1.Codes:Int))))then((Q7p).bind fun y2=>some y2)else((X8 (fun(x1:Int)=>(bif decide ((qJ .i64 (x1+3))<=(qQ p0:Int))then((sub p0 x1 (qJ .i64 (x1+3))).bind fun u1=>bif decide (u1=([122,122,57]:List UInt8))then((Q7p).bind fun y3=>some (Lp.ret y3))else(some (Lp.go (qJ .i64 (x1+1)))))else(some (Lp.brk x1)):Option (Lp (Int) (Bool)))) NN (0:Int)).bind fun o=>o.thn (fun(x1:Int)=>(W8 (qQ p0+qQ ([10,105,110,116,32,122,122,57,40,105,110,116,32,97,41,32,123,32,114,101,116,117,114,110,32,97,59,32,125]:List UInt8))).bind fun _=>(Q7q (p0++([10,105,110,116,32,122,122,57,40,105,110,116,32,97,41,32,123,32,114,101,116,117,114,110,32,97,59,32,125]:List UInt8))).bind fun y4=>bif decide (3900<(qQ p0:Int))then((Q7p).bind fun y5=>some y5)else(bif ((!y4.2)||((qQ y4.1.Codes:Int)!=(qJ .i64 ((qQ y1.1.Codes:Int)+1))))then(some false)else((idx y4.1.Codes (qQ y1.1.Codes:Int)).bind fun u2=>bif !(decide (u2.Name=([122,122,57]:List UInt8)))then(some false)else((sub y4.1.Codes 0 (qQ y1.1.Codes:Int)).bind fun u3=>(Q7p).bind fun y6=>bif y6 then((Z1k y1.1 ({y4.1 with Codes:=u3})).bind fun y7=>some y7)else(some false))))) (fun r=>some r))
end Go.Proofs.YtfffghclkmbopaaGreat
