/- The models of Go functions: what each computes. Printed by gen2.py. -/
import Derived.Test.YtjohcgibbiebkaaGreatDoorKLA
import Derived.Laws.Entries
import Derived.Lib.Index
import Derived.Lib.Join
import Derived.Lib.ItoaNum
set_option linter.unusedVariables false
namespace Go.Proofs.YtjohcgibbiebkaaGreatDoor
open List renaming length → qQ, set → qP
open IntKind renaming wrap → qJ
open Except renaming error → qK, ok → qX
open Int renaming toNat → qF
open UInt8 renaming toNat → qA
/-- What follows a call whose refusal is handed on. -/
abbrev exE{E F O B:Type}(y:Except (E×F) O)(f:O->Option (Except (E×F) B)):Option (Except (E×F) B):=exC y f (fun e=>some (qK (e.1,e.2)))
abbrev exL{E F O S B:Type}(y:Except (E×F) O)(f:O->Option (Lp S (Except (E×F) B))):Option (Lp S (Except (E×F) B)):=exC y f (fun e=>some (Lp.ret (qK (e.1,e.2))))

def strings_Index(p0 p1:Aa):Option Int:=if p0.length<4294967281 then some (Go.Lib.index p0 p1)else none
def strings_Join(p0:List (Aa))(p1:Aa):Option (Aa):=if p0.length<=8589934592/\(Go.Lib.join p0 p1).length<=8589934592 then some (Go.Lib.join p0 p1)else none
def Q7n(p0 p1:Int):Option (Aa):=if 0<=p0/\p0<18446744073709551616/\p1=10 then some (Lib.itoa p0)else none
structure Pos where
 Line:Int
 Col:Int
 deriving DecidableEq
structure K6 where
 Word:Aa
 Name:Aa
 Stars:Int
 deriving DecidableEq
structure Z5 where
 Kind:Int
 Pos:Pos
 Op:Aa
 Name:Aa
 Num:Int
 Type_:K6
 Kids:List Z5
structure J2 where
 Pos:Pos
 Type_:K6
 Name:Aa
 Dims:List Int
 Init:List Z5
 Brace:Bool
structure S8 where
 Pos:Pos
 Name:Aa
 Fields:List J2
structure X4z(S:Type) where
 Pos:Pos
 Default:Bool
 Num:Int
 Body:List S
structure V8 where
 Kind:Int
 Pos:Pos
 A:List Z5
 B:List Z5
 C:List Z5
 Var:List J2
 Body:List V8
 Else:List V8
 Cases:List (X4z V8)
abbrev R5:=X4z V8
structure L6 where
 Pos:Pos
 Ret:K6
 Name:Aa
 Params:List J2
 Body:List V8
structure U3 where
 Structs:List S8
 Globals:List J2
 Funcs:List L6
structure M3 where
 s:Aa
 pos:Pos
 deriving DecidableEq
structure Y8 where
 Kind:Int
 Text:Aa
 Num:Int
 Pos:Pos
 deriving DecidableEq
structure Z0 where
 l:List Y8
 end_:Pos
 depth:Int
 deriving DecidableEq
structure Z7 where
 pos:Pos
 e:Int
 deriving DecidableEq
structure Q9j where
 Name:Aa
 Size:Int
 Align:Int
 Cell:Int
 deriving DecidableEq
structure Y9 where
 Kind:Int
 Fn:Int
 Num:Int
 Var:Int
 Global:Bool
 Size:Int
 Post:Bool
 Ptr:Bool
 Kids:List Y9
structure X6h(S:Type) where
 Default:Bool
 Num:Int
 Body:List S
structure K4 where
 Kind:Int
 A:List Y9
 Post:List Y9
 First:Bool
 Body:List K4
 Else:List K4
 Cases:List (X6h K4)
 Var:Int
abbrev Q9k:=X6h K4
structure Q5b where
 Name:Aa
 Void:Bool
 Params:Int
 Slots:List Q9j
 Body:List K4
structure Z4a where
 Globals:List Q9j
 Data:List (List Int)
 Codes:List Q5b
 Main:Int
structure K8 where
 Name:Aa
 Type_:Int
 At:Int
 deriving DecidableEq
structure Q7d where
 Kind:Int
 Elem:Int
 Len:Int
 Name:Aa
 Fields:List K8
 deriving DecidableEq
structure K3 where
 Type_:Q7d
 size:Int
 align:Int
 open_:Bool
 deriving DecidableEq
structure Z9 where
 list:List K3
 deriving DecidableEq
structure H7 where
 ret:Int
 params:List Int
 deriving DecidableEq
structure E1 where
 ret:Int
 slots:List Q9j
 types:List Int
 scopes:List (Option (List ((Aa)×Int)))
 loops:Int
 breaks:Int
 deriving DecidableEq
structure Q0 where
 t:Z9
 u:Z4a
 globals:Option (List ((Aa)×Int))
 codes:Option (List ((Aa)×Int))
 gtypes:List Int
 signs:List H7
 fun_:O3 E1
structure Y0 where
 n:Int
 term:Y9
 lies:Bool
structure Z2 where
 pos:Pos
 e:Int
 deriving DecidableEq
structure Z8 where
 l:List (Aa)
 deriving DecidableEq


def Q4s(p0:Aa)(p1:Aa):Option (Bool):=
 bif decide ((qQ p1:Int)<=(qQ p0:Int))then((sub p0 0 (qQ p1:Int)).bind fun u1=>some (decide (u1=p1)))else(some false)

def C7(p0:Aa)(p1:Aa):Option (Bool):=
 (Q4s p0 p1).bind fun y1=>some y1

def Z3l(p0:Int):Option (Bool):=
 bif p0==32 then(some true)else(bif p0==9 then(some true)else(bif p0==10 then(some true)else(some (p0==13))))

def Y0v(p0:Aa):Option (Int):=
 (loopM (fun(x1:Int)=>(bif decide (x1<(qQ p0:Int))then((idx p0 x1).bind fun u1=>(Z3l (qA u1:Int)).bind fun y1=>bif y1 then(some (Lp.go (qJ .i64 (x1+1))))else(some (Lp.brk x1)))else(some (Lp.brk x1)):Option (Lp (Int) (Unit)))) NN (0:Int)).bind fun o=>o.thn (fun(x1:Int)=>some x1) (fun _=>none)

def Z4m(p0:Aa):Option (Int):=
 (C7 p0 ([47,47]:Aa)).bind fun y1=>bif y1 then((strings_Index p0 ([10]:Aa)).bind fun y2=>bif decide (0<=y2)then(some y2)else(some (qQ p0:Int)))else((C7 p0 ([47,42]:Aa)).bind fun y3=>bif y3 then((sub p0 2 (qQ p0:Int)).bind fun u1=>(strings_Index u1 ([42,47]:Aa)).bind fun y4=>bif decide (y4<0)then(some ((-1):Int))else(some (qJ .i64 (y4+4))))else((Y0v p0).bind fun y5=>some y5))

def Q1k(p0:M3)(p1:Int):Option (M3):=
 (sub p0.s 0 p1).bind fun u1=>(Q1d (qQ u1)).bind fun _=>(loopM (fun(x1,x2)=>(bif decide (x1<(qQ (N0 u1):Int))then(jn (fun kk1=>(idx (N0 u1) x1).bind fun u2=>bif u2==10 then(kk1 (⟨x2.s,(⟨qJ .i64 (x2.pos.Line+1),1⟩:Pos)⟩:M3))else(kk1 (⟨x2.s,(⟨x2.pos.Line,qJ .i64 (x2.pos.Col+1)⟩:Pos)⟩:M3))) (fun(x3:M3)=>some (Lp.go (qJ .i64 (x1+1),x3))))else(some (Lp.brk (x1,x2))):Option (Lp (Int×M3) (Unit)))) NN ((0:Int),p0)).bind fun o=>o.thn (fun(x1,x2)=>(sub x2.s p1 (qQ x2.s:Int)).bind fun u3=>some (⟨u3,x2.pos⟩:M3)) (fun _=>none)

def Z2w(p0:Int):Option (Bool):=
 bif decide (97<=p0)then(bif decide (p0<=122)then(some true)else(bif decide (65<=p0)then(bif decide (p0<=90)then(some true)else(some (p0==95)))else(some (p0==95))))else(bif decide (65<=p0)then(bif decide (p0<=90)then(some true)else(some (p0==95)))else(some (p0==95)))

def Z2x(p0:Int):Option (Bool):=
 bif decide (48<=p0)then(some (decide (p0<=57)))else(some false)

def Y0x(p0:Int):Option (Bool):=
 (Z2w p0).bind fun y1=>bif y1 then(some true)else((Z2x p0).bind fun y2=>some y2)

def Z1b(p0:Aa):Option (Int):=
 (loopM (fun(x1:Int)=>(bif decide (x1<(qQ p0:Int))then((idx p0 x1).bind fun u1=>(Y0x (qA u1:Int)).bind fun y1=>bif y1 then(some (Lp.go (qJ .i64 (x1+1))))else(some (Lp.brk x1)))else(some (Lp.brk x1)):Option (Lp (Int) (Unit)))) NN (0:Int)).bind fun o=>o.thn (fun(x1:Int)=>some x1) (fun _=>none)

def Z5a(p0:Aa):Option (Bool):=
 jn (fun kk1=>bif decide (p0=([98,114,101,97,107]:Aa))then(kk1 (decide (p0=([98,114,101,97,107]:Aa))))else(bif decide (p0=([99,97,115,101]:Aa))then(kk1 (decide (p0=([99,97,115,101]:Aa))))else(bif decide (p0=([99,104,97,114]:Aa))then(kk1 (decide (p0=([99,104,97,114]:Aa))))else(bif decide (p0=([99,111,110,116,105,110,117,101]:Aa))then(kk1 (decide (p0=([99,111,110,116,105,110,117,101]:Aa))))else(bif decide (p0=([100,101,102,97,117,108,116]:Aa))then(kk1 (decide (p0=([100,101,102,97,117,108,116]:Aa))))else(bif decide (p0=([100,111]:Aa))then(kk1 (decide (p0=([100,111]:Aa))))else(bif decide (p0=([101,108,115,101]:Aa))then(kk1 (decide (p0=([101,108,115,101]:Aa))))else(bif decide (p0=([102,111,114]:Aa))then(kk1 (decide (p0=([102,111,114]:Aa))))else(bif decide (p0=([105,102]:Aa))then(kk1 (decide (p0=([105,102]:Aa))))else(bif decide (p0=([105,110]:Aa))then(kk1 (decide (p0=([105,110]:Aa))))else(bif decide (p0=([105,110,116]:Aa))then(kk1 (decide (p0=([105,110,116]:Aa))))else(bif decide (p0=([111,117,116]:Aa))then(kk1 (decide (p0=([111,117,116]:Aa))))else(bif decide (p0=([114,101,116,117,114,110]:Aa))then(kk1 (decide (p0=([114,101,116,117,114,110]:Aa))))else(bif decide (p0=([115,105,122,101,111,102]:Aa))then(kk1 (decide (p0=([115,105,122,101,111,102]:Aa))))else(bif decide (p0=([115,116,114,117,99,116]:Aa))then(kk1 (decide (p0=([115,116,114,117,99,116]:Aa))))else(bif decide (p0=([115,119,105,116,99,104]:Aa))then(kk1 (decide (p0=([115,119,105,116,99,104]:Aa))))else(bif decide (p0=([118,111,105,100]:Aa))then(kk1 (decide (p0=([118,111,105,100]:Aa))))else(kk1 (decide (p0=([119,104,105,108,101]:Aa))))))))))))))))))))) (fun(x1:Bool)=>bif x1 then(some true)else(some false))

def Q5k(p0:Int):Option (Int):=
 (Z2x p0).bind fun y1=>bif y1 then(some (qJ .u64 (qJ .u8 (p0-48))))else(bif decide (97<=p0)then(bif decide (p0<=102)then(some (qJ .u64 ((qJ .u64 (qJ .u8 (p0-97)))+10)))else(bif decide (65<=p0)then(bif decide (p0<=70)then(some (qJ .u64 ((qJ .u64 (qJ .u8 (p0-65)))+10)))else(some (4294967295:Int)))else(some (4294967295:Int))))else(bif decide (65<=p0)then(bif decide (p0<=70)then(some (qJ .u64 ((qJ .u64 (qJ .u8 (p0-65)))+10)))else(some (4294967295:Int)))else(some (4294967295:Int))))

def Z1c(p0:Aa):Option (Y8×Int):=
 (Z1b p0).bind fun y1=>(sub p0 0 y1).bind fun u1=>jn (fun kk1=>(C7 u1 ([48,120]:Aa)).bind fun y2=>bif y2 then((sub u1 2 (qQ u1:Int)).bind fun u3=>kk1 u3 (16:Int))else((C7 u1 ([48,88]:Aa)).bind fun y3=>bif y3 then((sub u1 2 (qQ u1:Int)).bind fun u2=>kk1 u2 (16:Int))else(kk1 u1 (10:Int)))) (fun(x1:Aa)(x2:Int)=>bif decide (x1=([]:Aa))then(some ((⟨0,([]:Aa),0,(⟨0,0⟩:Pos)⟩:Y8),(3:Int)))else((Q1d (qQ x1)).bind fun _=>(loopM (fun(x3,x4,x5)=>(bif decide (x5<(qQ (N0 x1):Int))then(jn (fun kk2=>(idx (N0 x1) x5).bind fun u4=>(Q5k u4).bind fun y4=>bif decide (x2<=y4)then(some (Lp.ret ((⟨0,([]:Aa),0,(⟨0,0⟩:Pos)⟩:Y8),(3:Int))))else((Q5k u4).bind fun y5=>bif decide (4294967295<(qJ .u64 ((qJ .u64 (x3*x2))+y5)))then(kk2 (4294967295:Int) true)else(kk2 (qJ .u64 ((qJ .u64 (x3*x2))+y5)) x4))) (fun(x6:Int)(x7:Bool)=>some (Lp.go (x6,x7,qJ .i64 (x5+1)))))else(some (Lp.brk (x3,x4,x5))):Option (Lp (Int×Bool×Int) (Y8×Int)))) NN ((0:Int),false,(0:Int))).bind fun o=>o.thn (fun(x3,x4,x5)=>bif x4 then(some ((⟨0,([]:Aa),0,(⟨0,0⟩:Pos)⟩:Y8),(7:Int)))else(some ((⟨3,u1,qJ .u32 x3,(⟨0,0⟩:Pos)⟩:Y8),(0:Int)))) (fun r=>some r)))

def Z1d(p0:Int):Option (Int×Bool):=
 bif p0==110 then(some ((10:Int),true))else(bif p0==116 then(some ((9:Int),true))else(bif p0==114 then(some ((13:Int),true))else(bif p0==48 then(some ((0:Int),true))else(jn (fun kk1=>bif p0==92 then(kk1 (p0==92))else(kk1 (p0==39))) (fun(x1:Bool)=>bif x1 then(some (p0,true))else(some ((0:Int),false)))))))

def Q2s(p0:Aa):Option (Y8×Int):=
 bif decide (4<=(qQ p0:Int))then((idx p0 1).bind fun u1=>bif (qA u1:Int)==92 then((idx p0 3).bind fun u2=>bif (qA u2:Int)==39 then((idx p0 2).bind fun u3=>(Z1d (qA u3:Int)).bind fun y1=>bif y1.2 then((sub p0 0 4).bind fun u4=>some ((⟨3,u4,qJ .u32 y1.1,(⟨0,0⟩:Pos)⟩:Y8),(0:Int)))else(some ((⟨0,([]:Aa),0,(⟨0,0⟩:Pos)⟩:Y8),(3:Int))))else(bif decide (3<=(qQ p0:Int))then((idx p0 2).bind fun u5=>bif (qA u5:Int)==39 then((idx p0 1).bind fun u6=>bif decide (32<=(qA u6:Int))then((idx p0 1).bind fun u7=>bif decide ((qA u7:Int)<=126)then((idx p0 1).bind fun u8=>bif (qA u8:Int)!=39 then((idx p0 1).bind fun u9=>bif (qA u9:Int)!=92 then((sub p0 0 3).bind fun u10=>(idx p0 1).bind fun u11=>some ((⟨3,u10,qJ .u32 (qA u11:Int),(⟨0,0⟩:Pos)⟩:Y8),(0:Int)))else(some ((⟨0,([]:Aa),0,(⟨0,0⟩:Pos)⟩:Y8),(3:Int))))else(some ((⟨0,([]:Aa),0,(⟨0,0⟩:Pos)⟩:Y8),(3:Int))))else(some ((⟨0,([]:Aa),0,(⟨0,0⟩:Pos)⟩:Y8),(3:Int))))else(some ((⟨0,([]:Aa),0,(⟨0,0⟩:Pos)⟩:Y8),(3:Int))))else(some ((⟨0,([]:Aa),0,(⟨0,0⟩:Pos)⟩:Y8),(3:Int))))else(some ((⟨0,([]:Aa),0,(⟨0,0⟩:Pos)⟩:Y8),(3:Int)))))else(bif decide (3<=(qQ p0:Int))then((idx p0 2).bind fun u12=>bif (qA u12:Int)==39 then((idx p0 1).bind fun u13=>bif decide (32<=(qA u13:Int))then((idx p0 1).bind fun u14=>bif decide ((qA u14:Int)<=126)then((idx p0 1).bind fun u15=>bif (qA u15:Int)!=39 then((idx p0 1).bind fun u16=>bif (qA u16:Int)!=92 then((sub p0 0 3).bind fun u17=>(idx p0 1).bind fun u18=>some ((⟨3,u17,qJ .u32 (qA u18:Int),(⟨0,0⟩:Pos)⟩:Y8),(0:Int)))else(some ((⟨0,([]:Aa),0,(⟨0,0⟩:Pos)⟩:Y8),(3:Int))))else(some ((⟨0,([]:Aa),0,(⟨0,0⟩:Pos)⟩:Y8),(3:Int))))else(some ((⟨0,([]:Aa),0,(⟨0,0⟩:Pos)⟩:Y8),(3:Int))))else(some ((⟨0,([]:Aa),0,(⟨0,0⟩:Pos)⟩:Y8),(3:Int))))else(some ((⟨0,([]:Aa),0,(⟨0,0⟩:Pos)⟩:Y8),(3:Int))))else(some ((⟨0,([]:Aa),0,(⟨0,0⟩:Pos)⟩:Y8),(3:Int)))))else(bif decide (3<=(qQ p0:Int))then((idx p0 2).bind fun u19=>bif (qA u19:Int)==39 then((idx p0 1).bind fun u20=>bif decide (32<=(qA u20:Int))then((idx p0 1).bind fun u21=>bif decide ((qA u21:Int)<=126)then((idx p0 1).bind fun u22=>bif (qA u22:Int)!=39 then((idx p0 1).bind fun u23=>bif (qA u23:Int)!=92 then((sub p0 0 3).bind fun u24=>(idx p0 1).bind fun u25=>some ((⟨3,u24,qJ .u32 (qA u25:Int),(⟨0,0⟩:Pos)⟩:Y8),(0:Int)))else(some ((⟨0,([]:Aa),0,(⟨0,0⟩:Pos)⟩:Y8),(3:Int))))else(some ((⟨0,([]:Aa),0,(⟨0,0⟩:Pos)⟩:Y8),(3:Int))))else(some ((⟨0,([]:Aa),0,(⟨0,0⟩:Pos)⟩:Y8),(3:Int))))else(some ((⟨0,([]:Aa),0,(⟨0,0⟩:Pos)⟩:Y8),(3:Int))))else(some ((⟨0,([]:Aa),0,(⟨0,0⟩:Pos)⟩:Y8),(3:Int))))else(some ((⟨0,([]:Aa),0,(⟨0,0⟩:Pos)⟩:Y8),(3:Int))))

def Z6v(p0:Aa):Option ((Aa)):=
 (loopM (fun(x1:Int)=>(bif decide (x1<45)then((idx ([([60,60,61]:Aa),([62,62,61]:Aa),([45,62]:Aa),([43,43]:Aa),([45,45]:Aa),([60,60]:Aa),([62,62]:Aa),([60,61]:Aa),([62,61]:Aa),([61,61]:Aa),([33,61]:Aa),([38,38]:Aa),([124,124]:Aa),([43,61]:Aa),([45,61]:Aa),([42,61]:Aa),([47,61]:Aa),([37,61]:Aa),([38,61]:Aa),([124,61]:Aa),([94,61]:Aa),([43]:Aa),([45]:Aa),([42]:Aa),([47]:Aa),([37]:Aa),([38]:Aa),([124]:Aa),([94]:Aa),([126]:Aa),([33]:Aa),([60]:Aa),([62]:Aa),([61]:Aa),([63]:Aa),([58]:Aa),([59]:Aa),([44]:Aa),([46]:Aa),([40]:Aa),([41]:Aa),([91]:Aa),([93]:Aa),([123]:Aa),([125]:Aa)]:List (Aa)) x1).bind fun u1=>(C7 p0 u1).bind fun y1=>bif y1 then(some (Lp.ret u1))else(some (Lp.go (qJ .i64 (x1+1)))))else(some (Lp.brk x1)):Option (Lp (Int) ((Aa))))) NN (0:Int)).bind fun o=>o.thn (fun(x1:Int)=>some ([]:Aa)) (fun r=>some r)

def Q0r(p0:Aa):Option (Y8×Int):=
 (idx p0 0).bind fun u1=>(Z2w (qA u1:Int)).bind fun y1=>bif y1 then((Z1b p0).bind fun y2=>(sub p0 0 y2).bind fun u2=>bif decide (31<y2)then(some ((⟨1,u2,0,(⟨0,0⟩:Pos)⟩:Y8),(2:Int)))else(jn (fun kk1=>(Z5a u2).bind fun y3=>bif y3 then(kk1 (⟨2,u2,0,(⟨0,0⟩:Pos)⟩:Y8))else(kk1 (⟨1,u2,0,(⟨0,0⟩:Pos)⟩:Y8))) (fun(x1:Y8)=>some (x1,(0:Int)))))else((idx p0 0).bind fun u3=>(Z2x (qA u3:Int)).bind fun y4=>bif y4 then((Z1c p0).bind fun y5=>some (y5.1,y5.2))else((idx p0 0).bind fun u4=>bif (qA u4:Int)==39 then((Q2s p0).bind fun y6=>some (y6.1,y6.2))else((Z6v p0).bind fun y7=>bif decide (y7=([]:Aa))then(some ((⟨0,([]:Aa),0,(⟨0,0⟩:Pos)⟩:Y8),(3:Int)))else(some ((⟨4,y7,0,(⟨0,0⟩:Pos)⟩:Y8),(0:Int))))))

def Z7z(p0:Aa):Option ((List Y8)×Pos×Int):=
 bif decide (65536<(qQ p0:Int))then(some ([],(⟨1,1⟩:Pos),(2:Int)))else((loopM (fun(x1,x2)=>(bif !(decide (x2.s=([]:Aa)))then((Z4m x2.s).bind fun y1=>bif decide (y1<0)then(some (Lp.ret ([],x2.pos,(3:Int))))else(bif decide (0<y1)then((Q1k x2 y1).bind fun y2=>some (Lp.go (x1,y2)))else((Q0r x2.s).bind fun y3=>bif y3.2 !=0 then(some (Lp.ret ([],x2.pos,y3.2)))else((Q1d (qQ x1+qQ ([{y3.1 with Pos:=x2.pos}]:List Y8))).bind fun _=>(Q1k x2 (qQ y3.1.Text:Int)).bind fun y4=>some (Lp.go (x1++([{y3.1 with Pos:=x2.pos}]:List Y8),y4))))))else(some (Lp.brk (x1,x2))):Option (Lp ((List Y8)×M3) ((List Y8)×Pos×Int)))) NN ([],(⟨p0,(⟨1,1⟩:Pos)⟩:M3))).bind fun o=>o.thn (fun(x1,x2)=>some (x1,x2.pos,(0:Int))) (fun r=>some r))

def F7(p0:Z0):Option (Pos):=
 bif (qQ p0.l:Int)==0 then(some p0.end_)else((idx p0.l 0).bind fun u1=>some u1.Pos)

def P1(p0:Z0)(p1:Int)(p2:Aa):Option (Bool):=
 bif decide (p1<(qQ p0.l:Int))then((idx p0.l p1).bind fun u1=>bif decide (u1.Text=p2)then((idx p0.l p1).bind fun u2=>bif u2.Kind==2 then(some true)else((idx p0.l p1).bind fun u3=>some (u3.Kind==4)))else(some false))else(some false)

def X8(p0:Z0)(p1:Aa):Option (Bool):=
 (P1 p0 0 p1).bind fun y1=>some y1

def Y6(p0:Z0)(p1:Aa):Option (Bool×Z0):=
 (X8 p0 p1).bind fun y1=>bif !y1 then(some (false,p0))else((sub p0.l 1 (qQ p0.l:Int)).bind fun u1=>some (true,{p0 with l:=u1}))

def Q0m(p0:Z0)(p1:Int):Option (Except (Z7) (Unit)):=
 (F7 p0).bind fun y1=>some (qK (⟨y1,p1⟩:Z7))

abbrev An:=Except (Z7×Z0)
def Y7(p0:Z0)(p1:Aa):Option (An (Z0)):=
 (Y6 p0 p1).bind fun y1=>bif !y1.1 then((Q0m y1.2 3).bind fun y2=>exC y2 (fun y2=>some (qX y1.2)) (fun e1=>some (qK (e1,y1.2))))else(some (qX y1.2))

def B4(p0:Z0)(p1:Int):Option (An (Y8×Z0)):=
 jn (fun kk1=>bif (qQ p0.l:Int)==0 then((Q0m p0 3).bind fun y2=>exC y2 (fun y2=>kk1 ()) (fun e2=>some (qK (e2,p0))))else((idx p0.l 0).bind fun u1=>bif u1.Kind !=p1 then((Q0m p0 3).bind fun y1=>exC y1 (fun y1=>kk1 ()) (fun e1=>some (qK (e1,p0))))else(kk1 ()))) (fun(_:Unit)=>(idx p0.l 0).bind fun u4=>(sub p0.l 1 (qQ p0.l:Int)).bind fun u5=>some (qX (u4,{p0 with l:=u5})))

def U7(p0:Z0):Option (An ((Aa)×Z0)):=
 (B4 p0 1).bind fun y1=>exE y1 (fun y1=>some (qX (y1.1.Text,y1.2)))

def P0(p0:Z0):Option (Bool):=
 (X8 p0 ([105,110,116]:Aa)).bind fun y1=>bif y1 then(some true)else((X8 p0 ([99,104,97,114]:Aa)).bind fun y2=>bif y2 then(some true)else((X8 p0 ([118,111,105,100]:Aa)).bind fun y3=>bif y3 then(some true)else((X8 p0 ([115,116,114,117,99,116]:Aa)).bind fun y4=>some y4)))

def U6(p0:Z0):Option (An (K6×Z0)):=
 jn (fun kk1=>(P0 p0).bind fun y1=>bif !y1 then((Q0m p0 3).bind fun y2=>exC y2 (fun y2=>kk1 ()) (fun e1=>some (qK (e1,p0))))else(kk1 ())) (fun(_:Unit)=>(idx p0.l 0).bind fun u2=>(sub p0.l 1 (qQ p0.l:Int)).bind fun u3=>jn (fun kk2=>bif decide (u2.Text=([115,116,114,117,99,116]:Aa))then((U7 ({p0 with l:=u3})).bind fun y3=>exE y3 (fun y3=>kk2 (⟨u2.Text,y3.1,0⟩:K6) y3.2))else(kk2 (⟨u2.Text,([]:Aa),0⟩:K6) ({p0 with l:=u3}))) (fun(x1:K6)(x2:Z0)=>(loopM (fun(x3,x4)=>((Y6 x4 ([42]:Aa)).bind fun y4=>bif y4.1 then(some (Lp.go ({x3 with Stars:=qJ .i64 (x3.Stars+1)},y4.2)))else(some (Lp.brk (x3,y4.2))):Option (Lp (K6×Z0) (Unit)))) NN (x1,x2)).bind fun o=>o.thn (fun(x3,x4)=>some (qX (x3,x4))) (fun _=>none)))

def W0(p0:Z0):Option (An ((List Int)×Z0)):=
 (loopM (fun(x1,x2)=>((Y6 x2 ([91]:Aa)).bind fun y1=>bif y1.1 then((B4 y1.2 3).bind fun y2=>exL y2 (fun y2=>(Q1d (qQ x1+qQ ([y2.1.Num]:List Int))).bind fun _=>(Y7 y2.2 ([93]:Aa)).bind fun y3=>exL y3 (fun y3=>some (Lp.go (x1++([y2.1.Num]:List Int),y3)))))else(some (Lp.brk (x1,y1.2))):Option (Lp ((List Int)×Z0) (An ((List Int)×Z0))))) NN ([],p0)).bind fun o=>o.thn (fun(x1,x2)=>some (qX (x1,x2))) (fun r=>some r)

def R8(p0:Z0):Option (An ((List J2)×Z0)):=
 (Y7 p0 ([123]:Aa)).bind fun y1=>exE y1 (fun y1=>(loopM (fun(x1,x2)=>((Y6 x2 ([125]:Aa)).bind fun y2=>bif !y2.1 then((F7 y2.2).bind fun y3=>(U6 y2.2).bind fun y4=>exL y4 (fun y4=>(U7 y4.2).bind fun y5=>exL y5 (fun y5=>(W0 y5.2).bind fun y6=>exL y6 (fun y6=>(Y7 y6.2 ([59]:Aa)).bind fun y7=>exL y7 (fun y7=>(Q1d (qQ x1+qQ ([(⟨y3,y4.1,y5.1,y6.1,[],false⟩:J2)]:List J2))).bind fun _=>some (Lp.go (x1++([(⟨y3,y4.1,y5.1,y6.1,[],false⟩:J2)]:List J2),y7)))))))else(some (Lp.brk (x1,y2.2))):Option (Lp ((List J2)×Z0) (An ((List J2)×Z0))))) NN ([],y1)).bind fun o=>o.thn (fun(x1,x2)=>(Y7 x2 ([59]:Aa)).bind fun y8=>exE y8 (fun y8=>some (qX (x1,y8)))) (fun r=>some r))

def D5(p0:Z0):Option (An (Z0)):=
 jn (fun kk1=>bif p0.depth==200 then((Q0m p0 2).bind fun y1=>exC y1 (fun y1=>kk1 ()) (fun e1=>some (qK (e1,p0))))else(kk1 ())) (fun(_:Unit)=>some (qX ({p0 with depth:=qJ .i64 (p0.depth+1)})))

def F6(p0:Z0):Option ((Aa)):=
 bif (qQ p0.l:Int)==0 then(some ([]:Aa))else((idx p0.l 0).bind fun u1=>bif u1.Kind !=4 then(some ([]:Aa))else((idx p0.l 0).bind fun u2=>some u2.Text))

def V4(p0:Z0)(p1:Int):Option (Z5×Z0):=
 (F7 p0).bind fun y1=>(F6 p0).bind fun y2=>(sub p0.l 1 (qQ p0.l:Int)).bind fun u1=>some ((⟨p1,y1,y2,([]:Aa),0,(⟨([]:Aa),([]:Aa),0⟩:K6),[]⟩:Z5),{p0 with l:=u1})

def Q2g(p0:Aa):Option (Int):=
 bif decide (p0=([124,124]:Aa))then(some (1:Int))else(bif decide (p0=([38,38]:Aa))then(some (2:Int))else(bif decide (p0=([124]:Aa))then(some (3:Int))else(bif decide (p0=([94]:Aa))then(some (4:Int))else(bif decide (p0=([38]:Aa))then(some (5:Int))else(jn (fun kk1=>bif decide (p0=([61,61]:Aa))then(kk1 (decide (p0=([61,61]:Aa))))else(kk1 (decide (p0=([33,61]:Aa))))) (fun(x1:Bool)=>bif x1 then(some (6:Int))else(jn (fun kk2=>bif decide (p0=([60]:Aa))then(kk2 (decide (p0=([60]:Aa))))else(bif decide (p0=([62]:Aa))then(kk2 (decide (p0=([62]:Aa))))else(bif decide (p0=([60,61]:Aa))then(kk2 (decide (p0=([60,61]:Aa))))else(kk2 (decide (p0=([62,61]:Aa))))))) (fun(x2:Bool)=>bif x2 then(some (7:Int))else(jn (fun kk3=>bif decide (p0=([60,60]:Aa))then(kk3 (decide (p0=([60,60]:Aa))))else(kk3 (decide (p0=([62,62]:Aa))))) (fun(x3:Bool)=>bif x3 then(some (8:Int))else(jn (fun kk4=>bif decide (p0=([43]:Aa))then(kk4 (decide (p0=([43]:Aa))))else(kk4 (decide (p0=([45]:Aa))))) (fun(x4:Bool)=>bif x4 then(some (9:Int))else(jn (fun kk5=>bif decide (p0=([42]:Aa))then(kk5 (decide (p0=([42]:Aa))))else(bif decide (p0=([47]:Aa))then(kk5 (decide (p0=([47]:Aa))))else(kk5 (decide (p0=([37]:Aa)))))) (fun(x5:Bool)=>bif x5 then(some (10:Int))else(some (0:Int))))))))))))))))

def Q8q(p0:Z0):Option (Z0):=
 some ({p0 with depth:=qJ .i64 (p0.depth-1)})

def Q0q(p0:Aa):Option (Bool):=
 jn (fun kk1=>bif decide (p0=([61]:Aa))then(kk1 (decide (p0=([61]:Aa))))else(bif decide (p0=([43,61]:Aa))then(kk1 (decide (p0=([43,61]:Aa))))else(bif decide (p0=([45,61]:Aa))then(kk1 (decide (p0=([45,61]:Aa))))else(bif decide (p0=([42,61]:Aa))then(kk1 (decide (p0=([42,61]:Aa))))else(bif decide (p0=([47,61]:Aa))then(kk1 (decide (p0=([47,61]:Aa))))else(bif decide (p0=([37,61]:Aa))then(kk1 (decide (p0=([37,61]:Aa))))else(bif decide (p0=([38,61]:Aa))then(kk1 (decide (p0=([38,61]:Aa))))else(bif decide (p0=([124,61]:Aa))then(kk1 (decide (p0=([124,61]:Aa))))else(bif decide (p0=([94,61]:Aa))then(kk1 (decide (p0=([94,61]:Aa))))else(bif decide (p0=([60,60,61]:Aa))then(kk1 (decide (p0=([60,60,61]:Aa))))else(kk1 (decide (p0=([62,62,61]:Aa)))))))))))))) (fun(x1:Bool)=>bif x1 then(some true)else(some false))

structure Z1q where
 U1:Z0->Option (An ((List Z5)×Z0))
 F0:Z0->Option (An ((List Z5)×Z0))
 J7:Z0->Option (An (Z5×Z0))
 C2:Z0->Option (An (Z5×Z0))
 X9:Z0->Option (An (Z5×Z0))
 J4:Z0->Int->Option (An (Z5×Z0))
 D8:Z0->Option (An (Z5×Z0))
 X3:Z0->Option (An (Z5×Z0))

def P2(G:Z1q)(p0:Z0):Option (An ((List Z5)×Z0)):=
 (Y7 p0 ([40]:Aa)).bind fun y1=>exE y1 (fun y1=>(G.X3 y1).bind fun y2=>exE y2 (fun y2=>(Y7 y2.2 ([41]:Aa)).bind fun y3=>exE y3 (fun y3=>some (qX (([y2.1]:List Z5),y3)))))
def C6(G:Z1q)(p0:Z0):Option (An ((List Z5)×Z0)):=
 (Y7 p0 ([40]:Aa)).bind fun y1=>exE y1 (fun y1=>(Y6 y1 ([41]:Aa)).bind fun y2=>bif y2.1 then(some (qX ([],y2.2)))else((G.X3 y2.2).bind fun y3=>exE y3 (fun y3=>(loopM (fun(x1,x2)=>((Y6 x2 ([44]:Aa)).bind fun y4=>bif y4.1 then((G.X3 y4.2).bind fun y5=>exL y5 (fun y5=>(Q1d (qQ x1+qQ ([y5.1]:List Z5))).bind fun _=>some (Lp.go (x1++([y5.1]:List Z5),y5.2))))else(some (Lp.brk (x1,y4.2))):Option (Lp ((List Z5)×Z0) (An ((List Z5)×Z0))))) NN (([y3.1]:List Z5),y3.2)).bind fun o=>o.thn (fun(x1,x2)=>(Y7 x2 ([41]:Aa)).bind fun y6=>exE y6 (fun y6=>some (qX (x1,y6)))) (fun r=>some r))))
def J3(G:Z1q)(p0:Z0):Option (An (Z5×Z0)):=
 (F7 p0).bind fun y1=>jn (fun kk1=>(Y6 p0 ([40]:Aa)).bind fun y2=>bif y2.1 then((G.X3 y2.2).bind fun y3=>exE y3 (fun y3=>(Y7 y3.2 ([41]:Aa)).bind fun y4=>exE y4 (fun y4=>kk1 y3.1 y4)))else((Y6 y2.2 ([105,110]:Aa)).bind fun y5=>bif y5.1 then((Y7 y5.2 ([40]:Aa)).bind fun y6=>exE y6 (fun y6=>(Y7 y6 ([41]:Aa)).bind fun y7=>exE y7 (fun y7=>kk1 (⟨7,y1,([]:Aa),([105,110]:Aa),0,(⟨([]:Aa),([]:Aa),0⟩:K6),[]⟩:Z5) y7)))else((Y6 y5.2 ([111,117,116]:Aa)).bind fun y8=>bif y8.1 then((G.U1 y8.2).bind fun y9=>exE y9 (fun y9=>kk1 (⟨7,y1,([]:Aa),([111,117,116]:Aa),0,(⟨([]:Aa),([]:Aa),0⟩:K6),y9.1⟩:Z5) y9.2))else(bif decide (0<(qQ y8.2.l:Int))then((idx y8.2.l 0).bind fun u6=>bif u6.Kind==3 then((B4 y8.2 3).bind fun y10=>exE y10 (fun y10=>kk1 (⟨1,y1,([]:Aa),([]:Aa),y10.1.Num,(⟨([]:Aa),([]:Aa),0⟩:K6),[]⟩:Z5) y10.2))else((U7 y8.2).bind fun y11=>exE y11 (fun y11=>(X8 y11.2 ([40]:Aa)).bind fun y12=>bif y12 then((G.F0 y11.2).bind fun y13=>exE y13 (fun y13=>kk1 (⟨7,y1,([]:Aa),y11.1,0,(⟨([]:Aa),([]:Aa),0⟩:K6),y13.1⟩:Z5) y13.2))else(kk1 (⟨2,y1,([]:Aa),y11.1,0,(⟨([]:Aa),([]:Aa),0⟩:K6),[]⟩:Z5) y11.2))))else((U7 y8.2).bind fun y14=>exE y14 (fun y14=>(X8 y14.2 ([40]:Aa)).bind fun y15=>bif y15 then((G.F0 y14.2).bind fun y16=>exE y16 (fun y16=>kk1 (⟨7,y1,([]:Aa),y14.1,0,(⟨([]:Aa),([]:Aa),0⟩:K6),y16.1⟩:Z5) y16.2))else(kk1 (⟨2,y1,([]:Aa),y14.1,0,(⟨([]:Aa),([]:Aa),0⟩:K6),[]⟩:Z5) y14.2))))))) (fun(x1:Z5)(x2:Z0)=>some (qX (x1,x2)))
def D4(G:Z1q)(p0:Z0):Option (An (Z5×Z0)):=
 (G.J7 p0).bind fun y1=>exE y1 (fun y1=>(loopM (fun(x1,x2)=>(jn (fun kk1=>(F6 x2).bind fun y2=>bif decide (y2=([91]:Aa))then((V4 x2 8).bind fun y3=>(G.X3 y3.2).bind fun y4=>exL y4 (fun y4=>(Y7 y4.2 ([93]:Aa)).bind fun y5=>exL y5 (fun y5=>kk1 ({y3.1 with Op:=([]:Aa),Kids:=([x1,y4.1]:List Z5)}) y5)))else(jn (fun kk2=>bif decide (y2=([46]:Aa))then(kk2 (decide (y2=([46]:Aa))))else(kk2 (decide (y2=([45,62]:Aa))))) (fun(x6:Bool)=>bif x6 then((V4 x2 9).bind fun y6=>(U7 y6.2).bind fun y7=>exL y7 (fun y7=>kk1 ({y6.1 with Name:=y7.1,Kids:=([x1]:List Z5)}) y7.2))else(jn (fun kk3=>bif decide (y2=([43,43]:Aa))then(kk3 (decide (y2=([43,43]:Aa))))else(kk3 (decide (y2=([45,45]:Aa))))) (fun(x7:Bool)=>bif x7 then((V4 x2 11).bind fun y8=>kk1 ({y8.1 with Kids:=([x1]:List Z5)}) y8.2)else(some (Lp.ret (qX (x1,x2))))))))) (fun(x4:Z5)(x5:Z0)=>some (Lp.go (x4,x5))):Option (Lp (Z5×Z0) (An (Z5×Z0))))) NN (y1.1,y1.2)).bind fun o=>o.thn (fun(x1,x2)=>none) (fun r=>some r))
def G9(G:Z1q)(p0:Z0):Option (An (Z5×Z0)):=
 (D5 p0).bind fun y1=>exE y1 (fun y1=>(F6 y1).bind fun y2=>jn (fun kk1=>bif decide (y2=([45]:Aa))then(kk1 (decide (y2=([45]:Aa))))else(bif decide (y2=([126]:Aa))then(kk1 (decide (y2=([126]:Aa))))else(bif decide (y2=([33]:Aa))then(kk1 (decide (y2=([33]:Aa))))else(bif decide (y2=([42]:Aa))then(kk1 (decide (y2=([42]:Aa))))else(kk1 (decide (y2=([38]:Aa)))))))) (fun(x1:Bool)=>bif x1 then((V4 y1 3).bind fun y3=>(G.X9 y3.2).bind fun y4=>exC y4 (fun y4=>some (qX ({y3.1 with Kids:=([y4.1]:List Z5)},{y4.2 with depth:=qJ .i64 (y4.2.depth-1)}))) (fun e1=>some (qK (e1.1,{e1.2 with depth:=qJ .i64 (e1.2.depth-1)}))))else(jn (fun kk2=>bif decide (y2=([43,43]:Aa))then(kk2 (decide (y2=([43,43]:Aa))))else(kk2 (decide (y2=([45,45]:Aa))))) (fun(x2:Bool)=>bif x2 then((V4 y1 10).bind fun y5=>(G.X9 y5.2).bind fun y6=>exC y6 (fun y6=>some (qX ({y5.1 with Kids:=([y6.1]:List Z5)},{y6.2 with depth:=qJ .i64 (y6.2.depth-1)}))) (fun e2=>some (qK (e2.1,{e2.2 with depth:=qJ .i64 (e2.2.depth-1)}))))else((F7 y1).bind fun y7=>(Y6 y1 ([115,105,122,101,111,102]:Aa)).bind fun y8=>bif y8.1 then((Y7 y8.2 ([40]:Aa)).bind fun y9=>exC y9 (fun y9=>(U6 y9).bind fun y10=>exC y10 (fun y10=>(Y7 y10.2 ([41]:Aa)).bind fun y11=>exC y11 (fun y11=>some (qX ((⟨12,y7,([]:Aa),([]:Aa),0,y10.1,[]⟩:Z5),{y11 with depth:=qJ .i64 (y11.depth-1)}))) (fun e4=>some (qK (e4.1,{e4.2 with depth:=qJ .i64 (e4.2.depth-1)})))) (fun e3=>some (qK (e3.1,{e3.2 with depth:=qJ .i64 (e3.2.depth-1)})))) (fun e5=>some (qK (e5.1,{e5.2 with depth:=qJ .i64 (e5.2.depth-1)}))))else((G.C2 y8.2).bind fun y12=>exC y12 (fun y12=>some (qX (y12.1,{y12.2 with depth:=qJ .i64 (y12.2.depth-1)}))) (fun e6=>some (qK (e6.1,{e6.2 with depth:=qJ .i64 (e6.2.depth-1)})))))))))
def D9(G:Z1q)(p0:Z0)(p1:Int):Option (An (Z5×Z0)):=
 (G.X9 p0).bind fun y1=>exE y1 (fun y1=>(loopM (fun(x1,x2)=>((F6 x2).bind fun y2=>(Q2g y2).bind fun y3=>bif decide (y3<p1)then(some (Lp.ret (qX (x1,x2))))else(bif y3==0 then(some (Lp.ret (qX (x1,x2))))else((V4 x2 4).bind fun y4=>(G.J4 y4.2 (qJ .i64 (y3+1))).bind fun y5=>exL y5 (fun y5=>some (Lp.go ({y4.1 with Kids:=([x1,y5.1]:List Z5)},y5.2))))):Option (Lp (Z5×Z0) (An (Z5×Z0))))) NN (y1.1,y1.2)).bind fun o=>o.thn (fun(x1,x2)=>none) (fun r=>some r))
def M2(G:Z1q)(p0:Z0):Option (An (Z5×Z0)):=
 (G.J4 p0 1).bind fun y1=>exE y1 (fun y1=>(F6 y1.2).bind fun y2=>bif !(decide (y2=([63]:Aa)))then(some (qX (y1.1,y1.2)))else((V4 y1.2 6).bind fun y3=>(G.X3 y3.2).bind fun y4=>exE y4 (fun y4=>(Y7 y4.2 ([58]:Aa)).bind fun y5=>exE y5 (fun y5=>(D5 y5).bind fun y6=>exE y6 (fun y6=>(G.D8 y6).bind fun y7=>exE y7 (fun y7=>(Q8q y7.2).bind fun y8=>some (qX ({y3.1 with Op:=([]:Aa),Kids:=([y1.1,y4.1,y7.1]:List Z5)},y8))))))))
def B9(G:Z1q)(p0:Z0):Option (An (Z5×Z0)):=
 (D5 p0).bind fun y1=>exE y1 (fun y1=>(G.D8 y1).bind fun y2=>exC y2 (fun y2=>(F6 y2.2).bind fun y3=>(Q0q y3).bind fun y4=>bif !y4 then(some (qX (y2.1,{y2.2 with depth:=qJ .i64 (y2.2.depth-1)})))else((V4 y2.2 5).bind fun y5=>(G.X3 y5.2).bind fun y6=>exC y6 (fun y6=>some (qX ({y5.1 with Kids:=([y2.1,y6.1]:List Z5)},{y6.2 with depth:=qJ .i64 (y6.2.depth-1)}))) (fun e1=>some (qK (e1.1,{e1.2 with depth:=qJ .i64 (e1.2.depth-1)}))))) (fun e2=>some (qK (e2.1,{e2.2 with depth:=qJ .i64 (e2.2.depth-1)}))))
def M1:Nat->Z1q
 |0=>⟨fun _=>none,fun _=>none,fun _=>none,fun _=>none,fun _=>none,fun _ _=>none,fun _=>none,fun _=>none⟩
 |n+1=>⟨P2 (M1 n),C6 (M1 n),J3 (M1 n),D4 (M1 n),G9 (M1 n),D9 (M1 n),M2 (M1 n),B9 (M1 n)⟩
def U1(p0:Z0):Option (An ((List Z5)×Z0)):=(M1 NN).U1 p0
def F0(p0:Z0):Option (An ((List Z5)×Z0)):=(M1 NN).F0 p0
def J7(p0:Z0):Option (An (Z5×Z0)):=(M1 NN).J7 p0
def C2(p0:Z0):Option (An (Z5×Z0)):=(M1 NN).C2 p0
def X9(p0:Z0):Option (An (Z5×Z0)):=(M1 NN).X9 p0
def J4(p0:Z0)(p1:Int):Option (An (Z5×Z0)):=(M1 NN).J4 p0 p1
def D8(p0:Z0):Option (An (Z5×Z0)):=(M1 NN).D8 p0
def X3(p0:Z0):Option (An (Z5×Z0)):=(M1 NN).X3 p0

def B5(p0:Z0)(p1:J2):Option (An (J2×Z0)):=
 (W0 p0).bind fun y1=>exE y1 (fun y1=>jn (fun kk1=>(Y6 y1.2 ([61]:Aa)).bind fun y2=>bif y2.1 then((Y6 y2.2 ([123]:Aa)).bind fun y3=>(X3 y3.2).bind fun y4=>exE y4 (fun y4=>(Q1d (qQ ([]:List Z5)+qQ ([y4.1]:List Z5))).bind fun _=>(loopM (fun(x7,x8)=>(bif x7.Brace then((Y6 x8 ([44]:Aa)).bind fun y5=>bif y5.1 then((X3 y5.2).bind fun y6=>exL y6 (fun y6=>(Q1d (qQ x7.Init+qQ ([y6.1]:List Z5))).bind fun _=>some (Lp.go ({x7 with Init:=x7.Init++([y6.1]:List Z5)},y6.2))))else(some (Lp.brk (x7,y5.2))))else(some (Lp.brk (x7,x8))):Option (Lp (J2×Z0) (An (J2×Z0))))) NN ({p1 with Dims:=y1.1,Init:=([]:List Z5)++([y4.1]:List Z5),Brace:=y3.1},y4.2)).bind fun o=>o.thn (fun(x7,x8)=>bif x7.Brace then((Y7 x8 ([125]:Aa)).bind fun y7=>exE y7 (fun y7=>kk1 x7 y7))else(kk1 x7 x8)) (fun r=>some r)))else(kk1 ({p1 with Dims:=y1.1,Init:=[]}) y2.2)) (fun(x3:J2)(x4:Z0)=>(Y7 x4 ([59]:Aa)).bind fun y10=>exE y10 (fun y10=>some (qX (x3,y10)))))

def P5(p0:Z0):Option (An ((List J2)×Z0)):=
 (Y7 p0 ([40]:Aa)).bind fun y1=>exE y1 (fun y1=>jn (fun kk1=>(X8 y1 ([118,111,105,100]:Aa)).bind fun y2=>bif y2 then((P1 y1 1 ([41]:Aa)).bind fun y3=>bif y3 then((Y7 y1 ([118,111,105,100]:Aa)).bind fun y4=>exE y4 (fun y4=>kk1 y4))else(kk1 y1))else(kk1 y1)) (fun(x1:Z0)=>(Y6 x1 ([41]:Aa)).bind fun y5=>bif y5.1 then(some (qX ([],y5.2)))else((loopM (fun(x2,x3)=>((F7 x3).bind fun y6=>(U6 x3).bind fun y7=>exL y7 (fun y7=>(U7 y7.2).bind fun y8=>exL y8 (fun y8=>(Q1d (qQ x2+qQ ([(⟨y6,y7.1,y8.1,[],[],false⟩:J2)]:List J2))).bind fun _=>(Y6 y8.2 ([44]:Aa)).bind fun y9=>bif !y9.1 then((Y7 y9.2 ([41]:Aa)).bind fun y10=>exL y10 (fun y10=>some (Lp.ret (qX (x2++([(⟨y6,y7.1,y8.1,[],[],false⟩:J2)]:List J2),y10)))))else(some (Lp.go (x2++([(⟨y6,y7.1,y8.1,[],[],false⟩:J2)]:List J2),y9.2))))):Option (Lp ((List J2)×Z0) (An ((List J2)×Z0))))) NN ([],y5.2)).bind fun o=>o.thn (fun(x2,x3)=>none) (fun r=>some r))))

def C5(p0:Z0):Option (An (J2×Z0)):=
 (F7 p0).bind fun y1=>(U6 p0).bind fun y2=>exE y2 (fun y2=>(U7 y2.2).bind fun y3=>exE y3 (fun y3=>(B5 y3.2 (⟨y1,y2.1,y3.1,[],[],false⟩:J2)).bind fun y4=>exE y4 (fun y4=>some (qX (y4.1,y4.2)))))

def B6(p0:Z0)(p1:Aa):Option (An ((List Z5)×Z0)):=
 (Y6 p0 p1).bind fun y1=>bif y1.1 then(some (qX ([],y1.2)))else((X3 y1.2).bind fun y2=>exE y2 (fun y2=>(Y7 y2.2 p1).bind fun y3=>exE y3 (fun y3=>some (qX (([y2.1]:List Z5),y3)))))

def N7(p0:Z0)(p1:V8):Option (Except (Z7×Z0×V8) (Z0×V8)):=
 (Y6 p0 ([114,101,116,117,114,110]:Aa)).bind fun y1=>bif y1.1 then((B6 y1.2 ([59]:Aa)).bind fun y2=>exC y2 (fun y2=>some (qX (y2.2,{p1 with Kind:=8,A:=y2.1}))) (fun e1=>some (qK (e1.1,e1.2,p1))))else((Y6 y1.2 ([98,114,101,97,107]:Aa)).bind fun y3=>bif y3.1 then((Y7 y3.2 ([59]:Aa)).bind fun y4=>exC y4 (fun y4=>some (qX (y4,{p1 with Kind:=9}))) (fun e2=>some (qK (e2.1,e2.2,{p1 with Kind:=9}))))else((Y6 y3.2 ([99,111,110,116,105,110,117,101]:Aa)).bind fun y5=>bif y5.1 then((Y7 y5.2 ([59]:Aa)).bind fun y6=>exC y6 (fun y6=>some (qX (y6,{p1 with Kind:=10}))) (fun e3=>some (qK (e3.1,e3.2,{p1 with Kind:=10}))))else((X3 y5.2).bind fun y7=>exC y7 (fun y7=>(Y7 y7.2 ([59]:Aa)).bind fun y8=>exC y8 (fun y8=>some (qX (y8,{p1 with Kind:=1,A:=([y7.1]:List Z5)}))) (fun e4=>some (qK (e4.1,e4.2,{p1 with Kind:=1,A:=([y7.1]:List Z5)})))) (fun e5=>some (qK (e5.1,e5.2,p1))))))

structure Y6g where
 J9:Z0->Option (An ((List V8)×Z0))
 N9:Z0->Option (An ((List R5)×Z0))
 J1:Z0->Option (An (V8×Z0))
 G7:Z0->Option (An ((List V8)×Z0))

def R9(G:Y6g)(p0:Z0):Option (An ((List V8)×Z0)):=
 (G.J1 p0).bind fun y1=>exE y1 (fun y1=>bif y1.1.Kind==11 then(some (qX (y1.1.Body,y1.2)))else(some (qX (([y1.1]:List V8),y1.2))))
def I8(G:Y6g)(p0:Z0):Option (An ((List R5)×Z0)):=
 (Y7 p0 ([123]:Aa)).bind fun y1=>exE y1 (fun y1=>(loopM (fun(x1,x2)=>((Y6 x2 ([125]:Aa)).bind fun y2=>bif !y2.1 then((F7 y2.2).bind fun y3=>jn (fun kk1=>(Y6 y2.2 ([100,101,102,97,117,108,116]:Aa)).bind fun y4=>bif y4.1 then(kk1 (⟨y3,true,0,[]⟩:R5) y4.2)else((Y7 y4.2 ([99,97,115,101]:Aa)).bind fun y5=>exL y5 (fun y5=>(Y6 y5 ([45]:Aa)).bind fun y6=>(B4 y6.2 3).bind fun y7=>exL y7 (fun y7=>bif y6.1 then(kk1 (⟨y3,false,qJ .u32 (0-y7.1.Num),[]⟩:R5) y7.2)else(kk1 (⟨y3,false,y7.1.Num,[]⟩:R5) y7.2))))) (fun(x4:R5)(x5:Z0)=>(Y7 x5 ([58]:Aa)).bind fun y8=>exL y8 (fun y8=>(loopM (fun(x7,x8)=>((X8 x8 ([99,97,115,101]:Aa)).bind fun y9=>bif !y9 then((X8 x8 ([100,101,102,97,117,108,116]:Aa)).bind fun y10=>bif !y10 then((X8 x8 ([125]:Aa)).bind fun y11=>bif !y11 then((G.J1 x8).bind fun y12=>exL y12 (fun y12=>(Q1d (qQ x7.Body+qQ ([y12.1]:List V8))).bind fun _=>some (Lp.go ({x7 with Body:=x7.Body++([y12.1]:List V8)},y12.2))))else(some (Lp.brk (x7,x8))))else(some (Lp.brk (x7,x8))))else(some (Lp.brk (x7,x8))):Option (Lp (R5×Z0) (An ((List R5)×Z0))))) NN (x4,y8)).bind fun o=>o.thn (fun(x7,x8)=>(Q1d (qQ x1+qQ ([x7]:List R5))).bind fun _=>some (Lp.go (x1++([x7]:List R5),x8))) (fun r=>some (Lp.ret r)))))else(some (Lp.brk (x1,y2.2))):Option (Lp ((List R5)×Z0) (An ((List R5)×Z0))))) NN ([],y1)).bind fun o=>o.thn (fun(x1,x2)=>some (qX (x1,x2))) (fun r=>some r))
def V0(G:Y6g)(p0:Z0):Option (An (V8×Z0)):=
 (D5 p0).bind fun y1=>exE y1 (fun y1=>(F7 y1).bind fun y2=>jn (fun kk1=>(P0 y1).bind fun y3=>bif y3 then((C5 y1).bind fun y4=>exC y4 (fun y4=>kk1 (⟨2,y2,[],[],[],([y4.1]:List J2),[],[],[]⟩:V8) y4.2) (fun e1=>some (qK (e1.1,{e1.2 with depth:=qJ .i64 (e1.2.depth-1)}))))else((X8 y1 ([123]:Aa)).bind fun y5=>bif y5 then((G.G7 y1).bind fun y6=>exC y6 (fun y6=>kk1 (⟨11,y2,[],[],[],[],y6.1,[],[]⟩:V8) y6.2) (fun e2=>some (qK (e2.1,{e2.2 with depth:=qJ .i64 (e2.2.depth-1)}))))else((Y6 y1 ([59]:Aa)).bind fun y7=>bif y7.1 then(kk1 (⟨12,y2,[],[],[],[],[],[],[]⟩:V8) y7.2)else((Y6 y7.2 ([105,102]:Aa)).bind fun y8=>bif y8.1 then((U1 y8.2).bind fun y9=>exC y9 (fun y9=>(G.J9 y9.2).bind fun y10=>exC y10 (fun y10=>(Y6 y10.2 ([101,108,115,101]:Aa)).bind fun y11=>bif y11.1 then((G.J9 y11.2).bind fun y12=>exC y12 (fun y12=>kk1 (⟨3,y2,y9.1,[],[],[],y10.1,y12.1,[]⟩:V8) y12.2) (fun e3=>some (qK (e3.1,{e3.2 with depth:=qJ .i64 (e3.2.depth-1)}))))else(kk1 (⟨3,y2,y9.1,[],[],[],y10.1,[],[]⟩:V8) y11.2)) (fun e4=>some (qK (e4.1,{e4.2 with depth:=qJ .i64 (e4.2.depth-1)})))) (fun e5=>some (qK (e5.1,{e5.2 with depth:=qJ .i64 (e5.2.depth-1)}))))else((Y6 y8.2 ([119,104,105,108,101]:Aa)).bind fun y13=>bif y13.1 then((U1 y13.2).bind fun y14=>exC y14 (fun y14=>(G.J9 y14.2).bind fun y15=>exC y15 (fun y15=>kk1 (⟨4,y2,y14.1,[],[],[],y15.1,[],[]⟩:V8) y15.2) (fun e6=>some (qK (e6.1,{e6.2 with depth:=qJ .i64 (e6.2.depth-1)})))) (fun e7=>some (qK (e7.1,{e7.2 with depth:=qJ .i64 (e7.2.depth-1)}))))else((Y6 y13.2 ([100,111]:Aa)).bind fun y16=>bif y16.1 then((G.J9 y16.2).bind fun y17=>exC y17 (fun y17=>(Y7 y17.2 ([119,104,105,108,101]:Aa)).bind fun y18=>exC y18 (fun y18=>(U1 y18).bind fun y19=>exC y19 (fun y19=>(Y7 y19.2 ([59]:Aa)).bind fun y20=>exC y20 (fun y20=>kk1 (⟨5,y2,y19.1,[],[],[],y17.1,[],[]⟩:V8) y20) (fun e8=>some (qK (e8.1,{e8.2 with depth:=qJ .i64 (e8.2.depth-1)})))) (fun e9=>some (qK (e9.1,{e9.2 with depth:=qJ .i64 (e9.2.depth-1)})))) (fun e10=>some (qK (e10.1,{e10.2 with depth:=qJ .i64 (e10.2.depth-1)})))) (fun e11=>some (qK (e11.1,{e11.2 with depth:=qJ .i64 (e11.2.depth-1)}))))else((Y6 y16.2 ([102,111,114]:Aa)).bind fun y21=>bif y21.1 then((Y7 y21.2 ([40]:Aa)).bind fun y22=>exC y22 (fun y22=>(B6 y22 ([59]:Aa)).bind fun y23=>exC y23 (fun y23=>(B6 y23.2 ([59]:Aa)).bind fun y24=>exC y24 (fun y24=>(B6 y24.2 ([41]:Aa)).bind fun y25=>exC y25 (fun y25=>(G.J9 y25.2).bind fun y26=>exC y26 (fun y26=>kk1 (⟨6,y2,y23.1,y24.1,y25.1,[],y26.1,[],[]⟩:V8) y26.2) (fun e12=>some (qK (e12.1,{e12.2 with depth:=qJ .i64 (e12.2.depth-1)})))) (fun e13=>some (qK (e13.1,{e13.2 with depth:=qJ .i64 (e13.2.depth-1)})))) (fun e14=>some (qK (e14.1,{e14.2 with depth:=qJ .i64 (e14.2.depth-1)})))) (fun e15=>some (qK (e15.1,{e15.2 with depth:=qJ .i64 (e15.2.depth-1)})))) (fun e16=>some (qK (e16.1,{e16.2 with depth:=qJ .i64 (e16.2.depth-1)}))))else((Y6 y21.2 ([115,119,105,116,99,104]:Aa)).bind fun y27=>bif y27.1 then((U1 y27.2).bind fun y28=>exC y28 (fun y28=>(G.N9 y28.2).bind fun y29=>exC y29 (fun y29=>kk1 (⟨7,y2,y28.1,[],[],[],[],[],y29.1⟩:V8) y29.2) (fun e17=>some (qK (e17.1,{e17.2 with depth:=qJ .i64 (e17.2.depth-1)})))) (fun e18=>some (qK (e18.1,{e18.2 with depth:=qJ .i64 (e18.2.depth-1)}))))else((N7 y27.2 (⟨0,y2,[],[],[],[],[],[],[]⟩:V8)).bind fun y30=>exC y30 (fun y30=>kk1 y30.2 y30.1) (fun e19=>some (qK (e19.1,{e19.2.1 with depth:=qJ .i64 (e19.2.1.depth-1)})))))))))))) (fun(x1:V8)(x2:Z0)=>some (qX (x1,{x2 with depth:=qJ .i64 (x2.depth-1)}))))
def I9(G:Y6g)(p0:Z0):Option (An ((List V8)×Z0)):=
 (Y7 p0 ([123]:Aa)).bind fun y1=>exE y1 (fun y1=>(loopM (fun(x1,x2)=>((Y6 x2 ([125]:Aa)).bind fun y2=>bif !y2.1 then((G.J1 y2.2).bind fun y3=>exL y3 (fun y3=>(Q1d (qQ x1+qQ ([y3.1]:List V8))).bind fun _=>some (Lp.go (x1++([y3.1]:List V8),y3.2))))else(some (Lp.brk (x1,y2.2))):Option (Lp ((List V8)×Z0) (An ((List V8)×Z0))))) NN ([],y1)).bind fun o=>o.thn (fun(x1,x2)=>some (qX (x1,x2))) (fun r=>some r))
def Q5s:Nat->Y6g
 |0=>⟨fun _=>none,fun _=>none,fun _=>none,fun _=>none⟩
 |n+1=>⟨R9 (Q5s n),I8 (Q5s n),V0 (Q5s n),I9 (Q5s n)⟩
def J9(p0:Z0):Option (An ((List V8)×Z0)):=(Q5s NN).J9 p0
def N9(p0:Z0):Option (An ((List R5)×Z0)):=(Q5s NN).N9 p0
def J1(p0:Z0):Option (An (V8×Z0)):=(Q5s NN).J1 p0
def G7(p0:Z0):Option (An ((List V8)×Z0)):=(Q5s NN).G7 p0

def N8(p0:Z0)(p1:U3):Option (Except (Z7×Z0×U3) (Z0×U3)):=
 (F7 p0).bind fun y1=>(X8 p0 ([115,116,114,117,99,116]:Aa)).bind fun y2=>bif y2 then((P1 p0 2 ([123]:Aa)).bind fun y3=>bif y3 then((Y7 p0 ([115,116,114,117,99,116]:Aa)).bind fun y4=>exC y4 (fun y4=>jn (fun kk1=>(U7 y4).bind fun y5=>exC y5 (fun y5=>kk1 y5.2 (⟨y1,y5.1,[]⟩:S8)) (fun e1=>some (qK (e1.1,e1.2,p1)))) (fun(x1:Z0)(x2:S8)=>(R8 x1).bind fun y6=>exC y6 (fun y6=>(Q1d (qQ p1.Structs+qQ ([{x2 with Fields:=y6.1}]:List S8))).bind fun _=>some (qX (y6.2,{p1 with Structs:=p1.Structs++([{x2 with Fields:=y6.1}]:List S8)}))) (fun e2=>some (qK (e2.1,e2.2,p1))))) (fun e3=>some (qK (e3.1,e3.2,p1))))else((U6 p0).bind fun y7=>exC y7 (fun y7=>(U7 y7.2).bind fun y8=>exC y8 (fun y8=>(X8 y8.2 ([40]:Aa)).bind fun y9=>bif !y9 then((B5 y8.2 (⟨y1,y7.1,y8.1,[],[],false⟩:J2)).bind fun y10=>exC y10 (fun y10=>(Q1d (qQ p1.Globals+qQ ([y10.1]:List J2))).bind fun _=>some (qX (y10.2,{p1 with Globals:=p1.Globals++([y10.1]:List J2)}))) (fun e4=>some (qK (e4.1,e4.2,p1))))else(jn (fun kk2=>(P5 y8.2).bind fun y11=>exC y11 (fun y11=>kk2 y11.2 (⟨y1,y7.1,y8.1,y11.1,[]⟩:L6)) (fun e5=>some (qK (e5.1,e5.2,p1)))) (fun(x3:Z0)(x4:L6)=>(G7 x3).bind fun y12=>exC y12 (fun y12=>(Q1d (qQ p1.Funcs+qQ ([{x4 with Body:=y12.1}]:List L6))).bind fun _=>some (qX (y12.2,{p1 with Funcs:=p1.Funcs++([{x4 with Body:=y12.1}]:List L6)}))) (fun e6=>some (qK (e6.1,e6.2,p1)))))) (fun e7=>some (qK (e7.1,e7.2,p1)))) (fun e8=>some (qK (e8.1,e8.2,p1)))))else((U6 p0).bind fun y13=>exC y13 (fun y13=>(U7 y13.2).bind fun y14=>exC y14 (fun y14=>(X8 y14.2 ([40]:Aa)).bind fun y15=>bif !y15 then((B5 y14.2 (⟨y1,y13.1,y14.1,[],[],false⟩:J2)).bind fun y16=>exC y16 (fun y16=>(Q1d (qQ p1.Globals+qQ ([y16.1]:List J2))).bind fun _=>some (qX (y16.2,{p1 with Globals:=p1.Globals++([y16.1]:List J2)}))) (fun e9=>some (qK (e9.1,e9.2,p1))))else(jn (fun kk3=>(P5 y14.2).bind fun y17=>exC y17 (fun y17=>kk3 y17.2 (⟨y1,y13.1,y14.1,y17.1,[]⟩:L6)) (fun e10=>some (qK (e10.1,e10.2,p1)))) (fun(x5:Z0)(x6:L6)=>(G7 x5).bind fun y18=>exC y18 (fun y18=>(Q1d (qQ p1.Funcs+qQ ([{x6 with Body:=y18.1}]:List L6))).bind fun _=>some (qX (y18.2,{p1 with Funcs:=p1.Funcs++([{x6 with Body:=y18.1}]:List L6)}))) (fun e11=>some (qK (e11.1,e11.2,p1)))))) (fun e12=>some (qK (e12.1,e12.2,p1)))) (fun e13=>some (qK (e13.1,e13.2,p1))))

def Q0k(p0:Z0):Option (Except (U3×Z7×Z0) (U3×Z0)):=
 (loopM (fun(x4,x5)=>(bif decide (0<(qQ x5.l:Int))then((N8 x5 x4).bind fun y1=>exC y1 (fun y1=>some (Lp.go (y1.2,y1.1))) (fun e1=>some (Lp.ret (qK ((⟨[],[],[]⟩:U3),e1.1,e1.2.1)))))else(some (Lp.brk (x4,x5))):Option (Lp (U3×Z0) (Except (U3×Z7×Z0) (U3×Z0))))) NN ((⟨[],[],[]⟩:U3),p0)).bind fun o=>o.thn (fun(x4,x5)=>some (qX (x4,x5))) (fun r=>some r)

def Q5i(p0:Aa):Option (U3×Pos×Int):=
 (Z7z p0).bind fun y1=>bif y1.2.2 !=0 then(some ((⟨[],[],[]⟩:U3),y1.2.1,y1.2.2))else((Q0k (⟨y1.1,y1.2.1,0⟩:Z0)).bind fun y2=>exC y2 (fun y2=>some (y2.1,y1.2.1,(0:Int))) (fun e1=>some ((⟨[],[],[]⟩:U3),e1.2.1.pos,e1.2.1.e)))

def Y4h:Option (Z9):=
 some (⟨([(⟨(⟨0,0,0,([]:Aa),[]⟩:Q7d),0,0,false⟩:K3),(⟨(⟨1,0,0,([]:Aa),[]⟩:Q7d),4,4,false⟩:K3),(⟨(⟨2,0,0,([]:Aa),[]⟩:Q7d),1,1,false⟩:K3)]:List K3)⟩:Z9)

def Q7u(p0:K3)(p1:Aa):Option (Bool):=
 some ((p0.Type_.Kind==5)&&(decide (p0.Type_.Name=p1)))

def Q6s(p0:List K3)(p1:Aa):Option (Int):=
 (loopM (fun(x1:Int)=>(bif decide (x1<(qQ p0:Int))then((idx p0 x1).bind fun u1=>(Q7u u1 p1).bind fun y1=>bif y1 then(some (Lp.ret x1))else(some (Lp.go (qJ .i64 (x1+1)))))else(some (Lp.brk x1)):Option (Lp (Int) (Int)))) NN (0:Int)).bind fun o=>o.thn (fun(x1:Int)=>some ((-1):Int)) (fun r=>some r)

def Q2i(p0:Z9)(p1:Aa):Option (Int):=
 (Q6s p0.list p1).bind fun y1=>some y1

def Q9p(p0:K3)(p1:K3):Option (Bool):=
 some ((((p0.Type_.Kind==p1.Type_.Kind)&&(p0.Type_.Elem==p1.Type_.Elem))&&(p0.Type_.Len==p1.Type_.Len))&&(p1.Type_.Kind !=5))

def Q4i(p0:List K3)(p1:K3):Option (Int):=
 (loopM (fun(x1:Int)=>(bif decide (x1<(qQ p0:Int))then((idx p0 x1).bind fun u1=>(Q9p u1 p1).bind fun y1=>bif y1 then(some (Lp.ret x1))else(some (Lp.go (qJ .i64 (x1+1)))))else(some (Lp.brk x1)):Option (Lp (Int) (Int)))) NN (0:Int)).bind fun o=>o.thn (fun(x1:Int)=>some ((-1):Int)) (fun r=>some r)

def Q4m(p0:Z9)(p1:K3):Option (Int×Int×Z9):=
 (Q4i p0.list p1).bind fun y1=>bif decide (0<=y1)then(some (y1,(0:Int),p0))else(bif decide (400<=(qQ p0.list:Int))then(some ((0:Int),(8:Int),p0))else((Q1d (qQ p0.list+qQ ([p1]:List K3))).bind fun _=>some (qJ .i64 ((qQ (p0.list++([p1]:List K3)):Int)-1),(0:Int),(⟨p0.list++([p1]:List K3)⟩:Z9))))

def Q8b(p0:Z9)(p1:Aa):Option (Int×Int×Z9):=
 bif decide (p1=([]:Aa))then(some ((0:Int),(1:Int),p0))else((Q2i p0 p1).bind fun y1=>bif decide (0<=y1)then(some ((0:Int),(6:Int),p0))else((Q4m p0 (⟨(⟨5,0,0,p1,[]⟩:Q7d),0,0,true⟩:K3)).bind fun y2=>some (y2.1,y2.2.1,y2.2.2)))

def X2(p0:Pos)(p1:Int):Option (Except (Z2) (Unit)):=
 some (qK (⟨p0,p1⟩:Z2))

def S0(p0:Pos)(p1:Int):Option (Except (Z2) (Unit)):=
 bif p1 !=0 then((X2 p0 p1).bind fun y1=>exC y1 (fun y1=>none) (fun e1=>some (qK e1)))else(some (qX ()))

def Q8c(p0:Z9)(p1:Aa):Option (Int×Int):=
 (Q2i p0 p1).bind fun y1=>bif decide (y1<0)then(some ((0:Int),(4:Int)))else(some (y1,(0:Int)))

def S5(p0:Z9)(p1:Int):Option (Bool):=
 some ((decide (0<=p1))&&(decide (p1<(qQ p0.list:Int))))

def Q4n(p0:Z9)(p1:Int):Option (Int×Int×Z9):=
 (S5 p0 p1).bind fun y1=>bif !y1 then(some ((0:Int),(4:Int),p0))else((Q4m p0 (⟨(⟨3,p1,0,([]:Aa),[]⟩:Q7d),4,4,false⟩:K3)).bind fun y2=>some (y2.1,y2.2.1,y2.2.2))

abbrev Am:=Except (Z2×Q0)
def F2(p0:Q0)(p1:Pos)(p2:K6):Option (Am (Int×Q0)):=
 jn (fun kk1=>bif decide (p2.Word=([105,110,116]:Aa))then(kk1 (1:Int))else(bif decide (p2.Word=([99,104,97,114]:Aa))then(kk1 (2:Int))else(bif decide (p2.Word=([115,116,114,117,99,116]:Aa))then((Q8c p0.t p2.Name).bind fun y1=>(S0 p1 y1.2).bind fun y2=>exC y2 (fun y2=>kk1 y1.1) (fun e1=>some (qK (e1,p0))))else(kk1 (0:Int))))) (fun(x1:Int)=>(loopM (fun(x3,x4,x5)=>(bif decide (x4<p2.Stars)then((Q4n x5 x3).bind fun y3=>(S0 p1 y3.2.1).bind fun y4=>exC y4 (fun y4=>some (Lp.go (y3.1,qJ .i64 (x4+1),y3.2.2))) (fun e2=>some (Lp.ret (qK (e2,{p0 with t:=y3.2.2})))))else(some (Lp.brk (x3,x4,x5))):Option (Lp (Int×Int×Z9) (Am (Int×Q0))))) NN (x1,(0:Int),p0.t)).bind fun o=>o.thn (fun(x3,x4,x5)=>some (qX (x3,{p0 with t:=x5}))) (fun r=>some r))

def Q6x(p0:Z9)(p1:Int)(p2:Int):Option (Int×Int×Z9):=
 (S5 p0 p1).bind fun y1=>bif !y1 then(some ((0:Int),(4:Int),p0))else((idx p0.list p1).bind fun u1=>bif u1.size==0 then(some ((0:Int),(5:Int),p0))else(bif decide (p2<1)then(some ((0:Int),(1:Int),p0))else((idx p0.list p1).bind fun u2=>(nz u2.size).bind fun _=>bif decide ((qJ .i64 (Int.tdiv 32768 u2.size))<p2)then(some ((0:Int),(2:Int),p0))else((idx p0.list p1).bind fun u3=>(Q4m p0 (⟨(⟨4,p1,p2,([]:Aa),[]⟩:Q7d),qJ .i64 (p2*u3.size),u3.align,false⟩:K3)).bind fun y2=>some (y2.1,y2.2.1,y2.2.2)))))

def N5(p0:Q0)(p1:J2):Option (Am (Int×Q0)):=
 (F2 p0 p1.Pos p1.Type_).bind fun y1=>exE y1 (fun y1=>(loopM (fun(x2,x3,x4)=>(bif decide (0<=x3)then((idx p1.Dims x3).bind fun u1=>(Q6x x4 x2 (qJ .i64 u1)).bind fun y2=>(S0 p1.Pos y2.2.1).bind fun y3=>exC y3 (fun y3=>some (Lp.go (y2.1,qJ .i64 (x3-1),y2.2.2))) (fun e1=>some (Lp.ret (qK (e1,{y1.2 with t:=y2.2.2})))))else(some (Lp.brk (x2,x3,x4))):Option (Lp (Int×Int×Z9) (Am (Int×Q0))))) NN (y1.1,qJ .i64 ((qQ p1.Dims:Int)-1),y1.2.t)).bind fun o=>o.thn (fun(x2,x3,x4)=>some (qX (x2,{y1.2 with t:=x4}))) (fun r=>some r))

def Q9t(p0:K8):Option (Bool):=
 some (decide (p0.Name=([]:Aa)))

def Q4h(p0:List K8):Option (Int):=
 (loopM (fun(x1:Int)=>(bif decide (x1<(qQ p0:Int))then((idx p0 x1).bind fun u1=>(Q9t u1).bind fun y1=>bif y1 then(some (Lp.ret x1))else(some (Lp.go (qJ .i64 (x1+1)))))else(some (Lp.brk x1)):Option (Lp (Int) (Int)))) NN (0:Int)).bind fun o=>o.thn (fun(x1:Int)=>some ((-1):Int)) (fun r=>some r)

def Q6q(p0:List K8):Option (Bool):=
 (Q4h p0).bind fun y1=>some (decide (0<=y1))

def Q9s(p0:K8)(p1:Z9):Option (Bool):=
 (S5 p1 p0.Type_).bind fun y1=>some (!y1)

def Q4g(p0:List K8)(p1:Z9):Option (Int):=
 (loopM (fun(x1:Int)=>(bif decide (x1<(qQ p0:Int))then((idx p0 x1).bind fun u1=>(Q9s u1 p1).bind fun y1=>bif y1 then(some (Lp.ret x1))else(some (Lp.go (qJ .i64 (x1+1)))))else(some (Lp.brk x1)):Option (Lp (Int) (Int)))) NN (0:Int)).bind fun o=>o.thn (fun(x1:Int)=>some ((-1):Int)) (fun r=>some r)

def Q4u(p0:List K8)(p1:Z9):Option (Bool):=
 (Q4g p0 p1).bind fun y1=>some (decide (0<=y1))

def K1(p0:Z9)(p1:Int):Option (Int):=
 (S5 p0 p1).bind fun y1=>bif !y1 then(some (0:Int))else((idx p0.list p1).bind fun u1=>some u1.size)

def Q9r(p0:K8)(p1:Z9):Option (Bool):=
 (K1 p1 p0.Type_).bind fun y1=>some (y1==0)

def Q4f(p0:List K8)(p1:Z9):Option (Int):=
 (loopM (fun(x1:Int)=>(bif decide (x1<(qQ p0:Int))then((idx p0 x1).bind fun u1=>(Q9r u1 p1).bind fun y1=>bif y1 then(some (Lp.ret x1))else(some (Lp.go (qJ .i64 (x1+1)))))else(some (Lp.brk x1)):Option (Lp (Int) (Int)))) NN (0:Int)).bind fun o=>o.thn (fun(x1:Int)=>some ((-1):Int)) (fun r=>some r)

def Q4t(p0:List K8)(p1:Z9):Option (Bool):=
 (Q4f p0 p1).bind fun y1=>some (decide (0<=y1))

def Q9q(p0:K8)(p1:K8):Option (Bool):=
 some (decide (p0.Name=p1.Name))

def Q4e(p0:List K8)(p1:K8):Option (Int):=
 (loopM (fun(x1:Int)=>(bif decide (x1<(qQ p0:Int))then((idx p0 x1).bind fun u1=>(Q9q u1 p1).bind fun y1=>bif y1 then(some (Lp.ret x1))else(some (Lp.go (qJ .i64 (x1+1)))))else(some (Lp.brk x1)):Option (Lp (Int) (Int)))) NN (0:Int)).bind fun o=>o.thn (fun(x1:Int)=>some ((-1):Int)) (fun r=>some r)

def Q2c(p0:List K8)(p1:K8):Option (Bool):=
 (Q4e p0 p1).bind fun y1=>some (decide (0<=y1))

def Q9b(p0:Z9)(p1:List K8):Option (Int):=
 bif (qQ p1:Int)==0 then(some (1:Int))else((Q6q p1).bind fun y1=>bif y1 then(some (1:Int))else((Q4u p1 p0).bind fun y2=>bif y2 then(some (4:Int))else((Q4t p1 p0).bind fun y3=>bif y3 then(some (5:Int))else((loopM (fun(x1:Int)=>(bif decide (x1<(qQ p1:Int))then((idx p1 x1).bind fun u1=>(sub p1 0 x1).bind fun u2=>(Q2c u2 u1).bind fun y4=>bif y4 then(some (Lp.ret (6:Int)))else(some (Lp.go (qJ .i64 (x1+1)))))else(some (Lp.brk x1)):Option (Lp (Int) (Int)))) NN (0:Int)).bind fun o=>o.thn (fun(x1:Int)=>some (0:Int)) (fun r=>some r)))))

def Q9l(p0:List K8):Option ((List K8)):=
 (Q1d (qQ ([]:List K8)+qQ p0)).bind fun _=>some (([]:List K8)++p0)

def Q2j(p0:Z9)(p1:Int):Option (Int):=
 (S5 p0 p1).bind fun y1=>bif !y1 then(some (0:Int))else((idx p0.list p1).bind fun u1=>some u1.align)

def Z8b(p0:Int)(p1:Int):Option (Int):=
 (nz p1).bind fun _=>some (qJ .i64 ((qJ .i64 (Int.tdiv (qJ .i64 ((qJ .i64 (p0+p1))-1)) p1))*p1))

def Q3p(p0:K8)(p1:Int)(p2:Z9)(p3:Int):Option (Bool×K8×Int×Int):=
 (Q2j p2 p0.Type_).bind fun y1=>(Z8b p1 y1).bind fun y2=>(K1 p2 p0.Type_).bind fun y3=>(Q2j p2 p0.Type_).bind fun y4=>some (decide ((qJ .i64 (y2+y3))<=32768),{p0 with At:=y2},qJ .i64 (y2+y3),max p3 y4)

def Q5v(p0:Z9)(p1:Aa)(p2:List K8):Option (Int×Int×Z9):=
 (Q2i p0 p1).bind fun y1=>bif decide (y1<0)then(some ((0:Int),(4:Int),p0))else((idx p0.list y1).bind fun u1=>bif !u1.open_ then(some ((0:Int),(4:Int),p0))else((Q9b p0 p2).bind fun y2=>bif y2 !=0 then(some ((0:Int),y2,p0))else((Q9l p2).bind fun y3=>(loopM (fun(x1,x2,x3,x4)=>(bif decide (x2<(qQ y3:Int))then((idx x1 x2).bind fun u2=>(idx x1 x2).bind fun u3=>(Q3p u3 x4 p0 x3).bind fun y4=>bif !y4.1 then(some (Lp.ret ((0:Int),(2:Int),p0)))else(some (Lp.go (qP x1 (qF x2) y4.2.1,qJ .i64 (x2+1),y4.2.2.2,y4.2.2.1))))else(some (Lp.brk (x1,x2,x3,x4))):Option (Lp ((List K8)×Int×Int×Int) (Int×Int×Z9)))) NN (y3,(0:Int),(1:Int),(0:Int))).bind fun o=>o.thn (fun(x1,x2,x3,x4)=>(Z8b x4 x3).bind fun y5=>bif decide (32768<y5)then(some ((0:Int),(2:Int),p0))else((idx p0.list y1).bind fun u4=>(Z8b x4 x3).bind fun y6=>(idx p0.list y1).bind fun u5=>(idx (qP p0.list (qF y1) ({u5 with Type_:={u5.Type_ with Fields:=x1}})) y1).bind fun u6=>(idx (qP (qP p0.list (qF y1) ({u5 with Type_:={u5.Type_ with Fields:=x1}})) (qF y1) ({u6 with size:=y6})) y1).bind fun u7=>(idx (qP (qP (qP p0.list (qF y1) ({u5 with Type_:={u5.Type_ with Fields:=x1}})) (qF y1) ({u6 with size:=y6})) (qF y1) ({u7 with align:=x3})) y1).bind fun u8=>some (y1,(0:Int),(⟨qP (qP (qP (qP p0.list (qF y1) ({u5 with Type_:={u5.Type_ with Fields:=x1}})) (qF y1) ({u6 with size:=y6})) (qF y1) ({u7 with align:=x3})) (qF y1) ({u8 with open_:=false})⟩:Z9)))) (fun r=>some r))))

def I2(p0:Q0)(p1:List S8):Option (Am (Q0)):=
 (loopM (fun(x2,x3)=>(bif decide (x2<(qQ p1:Int))then((idx p1 x2).bind fun u1=>(Q8b x3 u1.Name).bind fun y1=>(S0 u1.Pos y1.2.1).bind fun y2=>exC y2 (fun y2=>some (Lp.go (qJ .i64 (x2+1),y1.2.2))) (fun e1=>some (Lp.ret (qK (e1,{p0 with t:=y1.2.2})))))else(some (Lp.brk (x2,x3))):Option (Lp (Int×Z9) (Am (Q0))))) NN ((0:Int),p0.t)).bind fun o=>o.thn (fun(x2,x3)=>(loopM (fun(x12,x13,x14)=>(bif decide (x12<(qQ p1:Int))then((idx p1 x12).bind fun u3=>(loopM (fun(x15,x24,x25,x26)=>(bif decide (x24<(qQ u3.Fields:Int))then((idx u3.Fields x24).bind fun u4=>(N5 ({x25 with t:=x26}) u4).bind fun y3=>exL y3 (fun y3=>(Q1d (qQ x15+qQ ([(⟨u4.Name,y3.1,0⟩:K8)]:List K8))).bind fun _=>some (Lp.go (x15++([(⟨u4.Name,y3.1,0⟩:K8)]:List K8),qJ .i64 (x24+1),y3.2,y3.2.t))))else(some (Lp.brk (x15,x24,{x25 with t:=x26},x26))):Option (Lp ((List K8)×Int×Q0×Z9) (Am (Q0))))) NN ([],(0:Int),{x13 with t:=x14},x14)).bind fun o=>o.thn (fun(x15,x24,x25,x26)=>(Q5v x26 u3.Name x15).bind fun y4=>(S0 u3.Pos y4.2.1).bind fun y5=>exC y5 (fun y5=>some (Lp.go (qJ .i64 (x12+1),{x25 with t:=y4.2.2},y4.2.2))) (fun e3=>some (Lp.ret (qK (e3,{x25 with t:=y4.2.2}))))) (fun r=>some (Lp.ret r)))else(some (Lp.brk (x12,{x13 with t:=x14},x14))):Option (Lp (Int×Q0×Z9) (Am (Q0))))) NN ((0:Int),{p0 with t:=x3},x3)).bind fun o=>o.thn (fun(x12,x13,x14)=>some (qX ({x13 with t:=x14}))) (fun r=>some r)) (fun r=>some r)

def L0(p0:Q0)(p1:J2):Option (Am (Int×Q0)):=
 (N5 p0 p1).bind fun y1=>exE y1 (fun y1=>(K1 y1.2.t y1.1).bind fun y2=>bif y2==0 then((X2 p1.Pos 5).bind fun y3=>exC y3 (fun y3=>none) (fun e1=>some (qK (e1,y1.2))))else(some (qX (y1.1,y1.2))))

def W5(p0:Q0)(p1:Pos)(p2:Aa):Option (Am (Q0)):=
 bif (((P7 p0.globals p2).isSome)||((P7 p0.codes p2).isSome))then((X2 p1 6).bind fun y1=>exC y1 (fun y1=>none) (fun e1=>some (qK (e1,p0))))else(bif (Z4y p0.globals:Int)==200 then((X2 p1 2).bind fun y2=>exC y2 (fun y2=>none) (fun e2=>some (qK (e2,p0))))else((p0.globals).bind fun u3=>some (qX ({p0 with globals:=(some (Q8w u3 p2 (Z4y p0.globals:Int)))}))))

def M0(p0:Z9)(p1:Int):Option (Bool):=
 (S5 p0 p1).bind fun y1=>bif !y1 then(some false)else((idx p0.list p1).bind fun u1=>some (((u1.Type_.Kind==1)||(u1.Type_.Kind==2))||(u1.Type_.Kind==3)))

def Q1f(p0:Q0)(p1:Int):Option (Int):=
 (M0 p0.t p1).bind fun y1=>bif !y1 then(some (0:Int))else((K1 p0.t p1).bind fun y2=>some y2)

def Q2k(p0:Q0)(p1:Aa)(p2:Int):Option (Q9j):=
 (K1 p0.t p2).bind fun y1=>(Q2j p0.t p2).bind fun y2=>(Q1f p0 p2).bind fun y3=>some (⟨p1,y1,y2,y3⟩:Q9j)

def C3(p0:Z9)(p1:Int):Option (Q7d×Int):=
 (S5 p0 p1).bind fun y1=>bif !y1 then(some ((⟨0,0,0,([]:Aa),[]⟩:Q7d),(4:Int)))else((idx p0.list p1).bind fun u1=>(Q9l u1.Type_.Fields).bind fun y2=>some ({u1.Type_ with Fields:=y2},(0:Int)))

def Q0g(p0:Q0)(p1:Int):Option (Int):=
 (C3 p0.t p1).bind fun y1=>bif y1.1.Kind==4 then(some y1.1.Elem)else(some p1)

def L3(p0:Q0)(p1:J2)(p2:Int):Option (Except (Z2) ((List Z5))):=
 bif (qQ p1.Init:Int)==0 then(some (qX []))else((C3 p0.t p2).bind fun y1=>bif !((y1.1.Kind==4)==p1.Brace)then((X2 p1.Pos 5).bind fun y6=>exC y6 (fun y6=>none) (fun e3=>some (qK e3)))else((Q0g p0 p2).bind fun y2=>(Q1f p0 y2).bind fun y3=>bif y3==0 then((X2 p1.Pos 5).bind fun y4=>exC y4 (fun y4=>none) (fun e1=>some (qK e1)))else(bif ((y1.1.Kind==4)&&(decide (y1.1.Len<(qQ p1.Init:Int))))then((X2 p1.Pos 2).bind fun y5=>exC y5 (fun y5=>none) (fun e2=>some (qK e2)))else(some (qX p1.Init)))))

def Q1t(p0:E1)(p1:Aa):Option (Int×Bool):=
 (loopM (fun(x1:Int)=>(bif decide (0<=x1)then((idx p0.scopes x1).bind fun u1=>bif (P7 u1 p1).isSome then(some (Lp.ret ((P7 u1 p1).getD 0,true)))else(some (Lp.go (qJ .i64 (x1-1)))))else(some (Lp.brk x1)):Option (Lp (Int) (Int×Bool)))) NN (qJ .i64 ((qQ p0.scopes:Int)-1))).bind fun o=>o.thn (fun(x1:Int)=>some ((0:Int),false)) (fun r=>some r)

def Q0h(p0:Q0)(p1:Z5):Option (Am (Y0×Q0)):=
 jn (fun kk1=>(O3.isNil p0.fun_).bind fun u1=>bif !u1 then((O3.get p0.fun_).bind fun u2=>(Q1t u2 p1.Name).bind fun y1=>bif y1.2 then((idx u2.types y1.1).bind fun u3=>some (qX ((⟨u3,(⟨2,0,0,y1.1,false,0,false,true,[]⟩:Y9),true⟩:Y0),p0)))else(kk1 ()))else(kk1 ())) (fun(_:Unit)=>bif !((P7 p0.globals p1.Name).isSome)then((X2 p1.Pos 4).bind fun y2=>exC y2 (fun y2=>none) (fun e1=>some (qK (e1,p0))))else((idx p0.gtypes ((P7 p0.globals p1.Name).getD 0)).bind fun u5=>some (qX ((⟨u5,(⟨2,0,0,(P7 p0.globals p1.Name).getD 0,true,0,false,true,[]⟩:Y9),true⟩:Y0),p0))))

def L1(p0:Q0)(p1:Pos)(p2:Int):Option (Am (Int×Q0)):=
 (Q4n p0.t p2).bind fun y1=>(S0 p1 y1.2.1).bind fun y2=>exC y2 (fun y2=>some (qX (y1.1,{p0 with t:=y1.2.2}))) (fun e1=>some (qK (e1,{p0 with t:=y1.2.2})))

def H5(p0:Q0)(p1:Int):Option (Int×Bool):=
 (C3 p0.t p1).bind fun y1=>bif y1.1.Kind==3 then((K1 p0.t y1.1.Elem).bind fun y2=>some (y1.1.Elem,decide (0<y2)))else(some (y1.1.Elem,false))

def X4(p0:Q0)(p1:Int):Option (Bool):=
 (C3 p0.t p1).bind fun y1=>some (y1.1.Kind==3)

def Z1h(p0:Aa):Option (Int):=
 bif decide (p0=([43]:Aa))then(some (1:Int))else(bif decide (p0=([45]:Aa))then(some (2:Int))else(bif decide (p0=([42]:Aa))then(some (3:Int))else(bif decide (p0=([47]:Aa))then(some (4:Int))else(bif decide (p0=([37]:Aa))then(some (5:Int))else(bif decide (p0=([38]:Aa))then(some (6:Int))else(bif decide (p0=([124]:Aa))then(some (7:Int))else(bif decide (p0=([94]:Aa))then(some (8:Int))else(bif decide (p0=([60,60]:Aa))then(some (9:Int))else(bif decide (p0=([62,62]:Aa))then(some (10:Int))else(bif decide (p0=([61,61]:Aa))then(some (11:Int))else(bif decide (p0=([33,61]:Aa))then(some (12:Int))else(bif decide (p0=([60]:Aa))then(some (13:Int))else(bif decide (p0=([62]:Aa))then(some (14:Int))else(bif decide (p0=([60,61]:Aa))then(some (15:Int))else(some (16:Int))))))))))))))))

def Q3m(p0:Z5):Option (Bool):=
 some ((p0.Kind==1)&&(p0.Num==0))

def Q2o:Option (Y9):=
 some (⟨1,0,0,0,false,0,false,true,[]⟩:Y9)

def W6(p0:Q0)(p1:Z5)(p2:Y0)(p3:Y0):Option (Except (Z2) (Y0)):=
 jn (fun kk1=>(idx p1.Kids 0).bind fun u1=>(idx p1.Kids 1).bind fun u2=>kk1 u1 u2) (fun(x1:Z5)(x2:Z5)=>(Z1h p1.Op).bind fun y1=>jn (fun kk2=>(X4 p0 p2.n).bind fun y2=>bif y2 then((Q3m x2).bind fun y3=>bif y3 then((Q2o).bind fun y4=>kk2 (⟨6,y1,0,0,false,0,false,false,([p2.term,y4]:List Y9)⟩:Y9))else((X4 p0 p3.n).bind fun y5=>bif y5 then((Q3m x1).bind fun y6=>bif y6 then((Q2o).bind fun y7=>kk2 (⟨6,y1,0,0,false,0,false,false,([y7,p3.term]:List Y9)⟩:Y9))else(bif p2.n !=1 then((X4 p0 p2.n).bind fun y8=>bif !y8 then((X2 x1.Pos 5).bind fun y9=>exC y9 (fun y9=>none) (fun e1=>some (qK e1)))else((X2 x2.Pos 5).bind fun y10=>exC y10 (fun y10=>none) (fun e2=>some (qK e2))))else((X2 x2.Pos 5).bind fun y11=>exC y11 (fun y11=>none) (fun e3=>some (qK e3)))))else(bif p2.n !=1 then((X4 p0 p2.n).bind fun y12=>bif !y12 then((X2 x1.Pos 5).bind fun y13=>exC y13 (fun y13=>none) (fun e4=>some (qK e4)))else((X2 x2.Pos 5).bind fun y14=>exC y14 (fun y14=>none) (fun e5=>some (qK e5))))else((X2 x2.Pos 5).bind fun y15=>exC y15 (fun y15=>none) (fun e6=>some (qK e6))))))else((X4 p0 p3.n).bind fun y16=>bif y16 then((Q3m x1).bind fun y17=>bif y17 then((Q2o).bind fun y18=>kk2 (⟨6,y1,0,0,false,0,false,false,([y18,p3.term]:List Y9)⟩:Y9))else(bif p2.n !=1 then((X4 p0 p2.n).bind fun y19=>bif !y19 then((X2 x1.Pos 5).bind fun y20=>exC y20 (fun y20=>none) (fun e7=>some (qK e7)))else((X2 x2.Pos 5).bind fun y21=>exC y21 (fun y21=>none) (fun e8=>some (qK e8))))else((X2 x2.Pos 5).bind fun y22=>exC y22 (fun y22=>none) (fun e9=>some (qK e9)))))else(bif p2.n !=1 then((X4 p0 p2.n).bind fun y23=>bif !y23 then((X2 x1.Pos 5).bind fun y24=>exC y24 (fun y24=>none) (fun e10=>some (qK e10)))else((X2 x2.Pos 5).bind fun y25=>exC y25 (fun y25=>none) (fun e11=>some (qK e11))))else((X2 x2.Pos 5).bind fun y26=>exC y26 (fun y26=>none) (fun e12=>some (qK e12)))))) (fun(x4:Y9)=>some (qX (⟨1,x4,false⟩:Y0))))

def Q0v(p0:Q0)(p1:Y9)(p2:Y9)(p3:Int)(p4:Int):Option (Y9):=
 (K1 p0.t p3).bind fun y1=>some (⟨14,p4,0,0,false,y1,false,true,([p1,p2]:List Y9)⟩:Y9)

def L2(p0:Q0)(p1:Pos)(p2:Y0)(p3:Y9)(p4:Int):Option (Except (Z2) (Y0)):=
 (H5 p0 p2.n).bind fun y1=>bif !y1.2 then((X2 p1 5).bind fun y2=>exC y2 (fun y2=>none) (fun e1=>some (qK e1)))else((Q0v p0 p2.term p3 y1.1 p4).bind fun y3=>some (qX (⟨p2.n,y3,false⟩:Y0)))

def E4(p0:Q0)(p1:Z5)(p2:Y0)(p3:Int):Option (Except (Z2) (Y9)):=
 (X4 p0 p3).bind fun y1=>bif y1 then((Q3m p1).bind fun y2=>bif y2 then((Q2o).bind fun y3=>some (qX y3))else((X4 p0 p3).bind fun y4=>bif (y4&&(p2.n==p3))then(some (qX p2.term))else((X4 p0 p3).bind fun y5=>bif ((!y5)&&(p2.n==1))then(some (qX p2.term))else((X2 p1.Pos 5).bind fun y6=>exC y6 (fun y6=>none) (fun e1=>some (qK e1))))))else((X4 p0 p3).bind fun y7=>bif (y7&&(p2.n==p3))then(some (qX p2.term))else((X4 p0 p3).bind fun y8=>bif ((!y8)&&(p2.n==1))then(some (qX p2.term))else((X2 p1.Pos 5).bind fun y9=>exC y9 (fun y9=>none) (fun e2=>some (qK e2)))))

def E6(p0:Q0)(p1:Int):Option (Int):=
 bif p1==2 then(some (1:Int))else(some p1)

def N3(p0:Q0)(p1:Z5)(p2:Y0)(p3:Int):Option (Except (Z2) (Y9)):=
 (E4 p0 p1 p2 p3).bind fun y1=>exC y1 (fun y1=>bif p3==2 then(some (qX (⟨17,0,0,0,false,0,false,false,([y1]:List Y9)⟩:Y9)))else(some (qX y1))) (fun e1=>some (qK e1))

def H0(p0:Q0)(p1:Pos)(p2:Y0):Option (Am (Y0×Q0)):=
 bif !p2.lies then(some (qX (p2,p0)))else(jn (fun kk1=>(C3 p0.t p2.n).bind fun y1=>kk1 y1.1) (fun(x1:Q7d)=>(K1 p0.t p2.n).bind fun y2=>bif x1.Kind==4 then(jn (fun kk2=>bif p2.term.Kind !=2 then(kk2 (⟨13,0,0,0,false,y2,false,true,([p2.term]:List Y9)⟩:Y9))else(kk2 p2.term)) (fun(x2:Y9)=>(L1 p0 p1 x1.Elem).bind fun y3=>exE y3 (fun y3=>some (qX ((⟨y3.1,x2,false⟩:Y0),y3.2)))))else((M0 p0.t p2.n).bind fun y4=>bif !y4 then((X2 p1 5).bind fun y5=>exC y5 (fun y5=>none) (fun e2=>some (qK (e2,p0))))else(jn (fun kk3=>bif p2.n==2 then(kk3 (1:Int))else(kk3 p2.n)) (fun(x3:Int)=>(X4 p0 x3).bind fun y6=>some (qX ((⟨x3,(⟨3,0,0,0,false,y2,false,y6,([p2.term]:List Y9)⟩:Y9),false⟩:Y0),p0)))))))

def Q4c(p0:Z9)(p1:Int)(p2:Aa):Option (K8×Int):=
 (S5 p0 p1).bind fun y1=>bif !y1 then(some ((⟨([]:Aa),0,0⟩:K8),(4:Int)))else((idx p0.list p1).bind fun u1=>bif u1.Type_.Kind !=5 then(some ((⟨([]:Aa),0,0⟩:K8),(5:Int)))else((idx p0.list p1).bind fun u2=>(loopM (fun(x1:Int)=>(bif decide (x1<(qQ u2.Type_.Fields:Int))then((idx u2.Type_.Fields x1).bind fun u3=>bif decide (u3.Name=p2)then(some (Lp.ret (u3,(0:Int))))else(some (Lp.go (qJ .i64 (x1+1)))))else(some (Lp.brk x1)):Option (Lp (Int) (K8×Int)))) NN (0:Int)).bind fun o=>o.thn (fun(x1:Int)=>some ((⟨([]:Aa),0,0⟩:K8),(4:Int))) (fun r=>some r)))

structure Q2l where
 V3:Q0->Z5->Option (Am (Y9×Q0))
 X7:Q0->Z5->Option (Am (Y9×Q0))
 F1:Q0->Z5->Option (Am (Y0×Q0))
 J5:Q0->Int->Z5->Option (Am (Y0×Q0))
 G5:Q0->Z5->Option (Am (Y0×Q0))
 G3:Q0->Z5->Option (Am (Y0×Q0))
 G6:Q0->Z5->Option (Am (Y0×Q0))
 F9:Q0->Z5->Option (Am (Y0×Q0))
 E0:Q0->Z5->Option (Am (Y0×Q0))
 G4:Q0->Z5->Option (Am (Y0×Q0))
 F8:Q0->Z5->Option (Am (Y0×Q0))
 V5:Q0->Z5->Option (Am (Y0×Q0))
 Z3:Q0->Z5->Option (Am (Y0×Q0))

def I5(G:Q2l)(p0:Q0)(p1:Z5):Option (Am (Y9×Q0)):=
 (G.Z3 p0 p1).bind fun y1=>exE y1 (fun y1=>bif y1.1.n !=1 then((X4 y1.2 y1.1.n).bind fun y2=>bif !y2 then((X2 p1.Pos 5).bind fun y3=>exC y3 (fun y3=>none) (fun e1=>some (qK (e1,y1.2))))else(some (qX (y1.1.term,y1.2))))else(some (qX (y1.1.term,y1.2))))
def A1(G:Q2l)(p0:Q0)(p1:Z5):Option (Am (Y9×Q0)):=
 (G.Z3 p0 p1).bind fun y1=>exE y1 (fun y1=>bif y1.1.n !=1 then((X2 p1.Pos 5).bind fun y2=>exC y2 (fun y2=>none) (fun e1=>some (qK (e1,y1.2))))else(some (qX (y1.1.term,y1.2))))
def I1(G:Q2l)(p0:Q0)(p1:Z5):Option (Am (Y0×Q0)):=
 (idx p1.Kids 0).bind fun u1=>jn (fun kk1=>bif decide (p1.Op=([38]:Aa))then((G.V5 p0 u1).bind fun y1=>exE y1 (fun y1=>jn (fun kk2=>(C3 y1.2.t y1.1.n).bind fun y2=>kk2 y2.1) (fun(x2:Q7d)=>bif ((!y1.1.lies)||(x2.Kind==4))then((X2 u1.Pos 5).bind fun y3=>exC y3 (fun y3=>none) (fun e1=>some (qK (e1,y1.2))))else((L1 y1.2 p1.Pos y1.1.n).bind fun y4=>exC y4 (fun y4=>some (qX ((⟨y4.1,y1.1.term,false⟩:Y0),{y4.2 with fun_:=y1.2.fun_}))) (fun e2=>some (qK (e2.1,{e2.2 with fun_:=y1.2.fun_})))))))else(bif decide (p1.Op=([42]:Aa))then((G.Z3 p0 u1).bind fun y5=>exE y5 (fun y5=>(H5 y5.2 y5.1.n).bind fun y6=>bif !y6.2 then((X2 u1.Pos 5).bind fun y7=>exC y7 (fun y7=>none) (fun e4=>some (qK (e4,y5.2))))else(some (qX ((⟨y6.1,y5.1.term,true⟩:Y0),y5.2)))))else(bif decide (p1.Op=([33]:Aa))then((G.V3 p0 u1).bind fun y8=>exE y8 (fun y8=>some (qX ((⟨1,(⟨5,19,0,0,false,0,false,false,([y8.1]:List Y9)⟩:Y9),false⟩:Y0),y8.2))))else(bif decide (p1.Op=([45]:Aa))then(kk1 (17:Int))else(kk1 (18:Int)))))) (fun(x1:Int)=>(G.X7 p0 u1).bind fun y9=>exE y9 (fun y9=>some (qX ((⟨1,(⟨5,x1,0,0,false,0,false,false,([y9.1]:List Y9)⟩:Y9),false⟩:Y0),y9.2))))
def R1(G:Q2l)(p0:Q0)(p1:Int)(p2:Z5):Option (Am (Y0×Q0)):=
 (idx p2.Kids 0).bind fun u1=>(G.V3 p0 u1).bind fun y1=>exE y1 (fun y1=>(idx p2.Kids 1).bind fun u2=>(G.V3 y1.2 u2).bind fun y2=>exE y2 (fun y2=>some (qX ((⟨1,(⟨p1,0,0,0,false,0,false,false,([y1.1,y2.1]:List Y9)⟩:Y9),false⟩:Y0),y2.2))))
def A5(G:Q2l)(p0:Q0)(p1:Z5):Option (Am (Y0×Q0)):=
 bif decide (p1.Op=([38,38]:Aa))then((G.J5 p0 7 p1).bind fun y1=>exE y1 (fun y1=>some (qX (y1.1,y1.2))))else(bif decide (p1.Op=([124,124]:Aa))then((G.J5 p0 8 p1).bind fun y2=>exE y2 (fun y2=>some (qX (y2.1,y2.2))))else(jn (fun kk1=>(idx p1.Kids 0).bind fun u3=>(idx p1.Kids 1).bind fun u4=>kk1 u3 u4) (fun(x1:Z5)(x2:Z5)=>jn (fun kk2=>(G.Z3 p0 x1).bind fun y3=>exE y3 (fun y3=>(G.Z3 y3.2 x2).bind fun y4=>exE y4 (fun y4=>kk2 y4.2 y4.2.t y3.1 y4.1))) (fun(x12:Q0)(x13:Z9)(x14:Y0)(x15:Y0)=>(Z1h p1.Op).bind fun y5=>bif ((x14.n==1)&&(x15.n==1))then(some (qX ((⟨1,(⟨6,y5,0,0,false,0,false,false,([x14.term,x15.term]:List Y9)⟩:Y9),false⟩:Y0),{x12 with t:=x13})))else(bif ((y5==11)||(y5==12))then((W6 ({x12 with t:=x13}) p1 x14 x15).bind fun y6=>exC y6 (fun y6=>some (qX (y6,{x12 with t:=x13}))) (fun e5=>some (qK (e5,{x12 with t:=x13}))))else(bif ((y5==1)&&(x14.n==1))then((L2 ({x12 with t:=x13}) x2.Pos x15 x14.term y5).bind fun y7=>exC y7 (fun y7=>some (qX (y7,{x12 with t:=x13}))) (fun e6=>some (qK (e6,{x12 with t:=x13}))))else(bif (((y5==1)||(y5==2))&&(x15.n==1))then((L2 ({x12 with t:=x13}) x1.Pos x14 x15.term y5).bind fun y8=>exC y8 (fun y8=>some (qX (y8,{x12 with t:=x13}))) (fun e7=>some (qK (e7,{x12 with t:=x13}))))else(bif x14.n !=1 then((X4 ({x12 with t:=x13}) x14.n).bind fun y9=>bif ((!y9)||((y5 !=1)&&(y5 !=2)))then((X2 x1.Pos 5).bind fun y10=>exC y10 (fun y10=>none) (fun e8=>some (qK (e8,{x12 with t:=x13}))))else((X2 x2.Pos 5).bind fun y11=>exC y11 (fun y11=>none) (fun e9=>some (qK (e9,{x12 with t:=x13})))))else((X2 x2.Pos 5).bind fun y12=>exC y12 (fun y12=>none) (fun e10=>some (qK (e10,{x12 with t:=x13}))))))))))))
def I3(G:Q2l)(p0:Q0)(p1:Z5):Option (Am (Y0×Q0)):=
 (G.V5 p0 p1).bind fun y1=>exE y1 (fun y1=>bif !y1.1.lies then((X2 p1.Pos 5).bind fun y4=>exC y4 (fun y4=>none) (fun e2=>some (qK (e2,y1.2))))else((M0 y1.2.t y1.1.n).bind fun y2=>bif !y2 then((X2 p1.Pos 5).bind fun y3=>exC y3 (fun y3=>none) (fun e1=>some (qK (e1,y1.2))))else(some (qX (y1.1,y1.2)))))
def A6(G:Q2l)(p0:Q0)(p1:Z5):Option (Am (Y0×Q0)):=
 jn (fun kk1=>(idx p1.Kids 0).bind fun u1=>(idx p1.Kids 1).bind fun u2=>kk1 u1 u2) (fun(x1:Z5)(x2:Z5)=>(G.G3 p0 x1).bind fun y1=>exE y1 (fun y1=>jn (fun kk2=>(K1 y1.2.t y1.1.n).bind fun y2=>(X4 y1.2 y1.1.n).bind fun y3=>kk2 (⟨4,0,0,0,false,y2,false,y3,[]⟩:Y9)) (fun(x3:Y9)=>bif decide (p1.Op=([61]:Aa))then((G.Z3 y1.2 x2).bind fun y4=>exE y4 (fun y4=>(E4 y4.2 x2 y4.1 y1.1.n).bind fun y5=>exC y5 (fun y5=>(E6 y4.2 y1.1.n).bind fun y6=>some (qX ((⟨y6,{x3 with Kids:=([y1.1.term,y5]:List Y9)},false⟩:Y0),y4.2))) (fun e1=>some (qK (e1,y4.2)))))else((sub p1.Op 0 (qJ .i64 ((qQ p1.Op:Int)-1))).bind fun u5=>(Z1h u5).bind fun y7=>jn (fun kk3=>bif x3.Ptr then((H5 y1.2 y1.1.n).bind fun y8=>bif ((!y8.2)||((y7 !=1)&&(y7 !=2)))then((X2 x1.Pos 5).bind fun y9=>exC y9 (fun y9=>none) (fun e3=>some (qK (e3,y1.2))))else((K1 y1.2.t y8.1).bind fun y10=>kk3 ({x3 with Kind:=16,Fn:=y7,Num:=qJ .u32 y10})))else(kk3 ({x3 with Kind:=16,Fn:=y7}))) (fun(x4:Y9)=>(G.X7 y1.2 x2).bind fun y11=>exE y11 (fun y11=>(E6 y11.2 y1.1.n).bind fun y12=>some (qX ((⟨y12,{x4 with Kids:=([y1.1.term,y11.1]:List Y9)},false⟩:Y0),y11.2))))))))
def O8(G:Q2l)(p0:Q0)(p1:Z5):Option (Am (Y0×Q0)):=
 jn (fun kk1=>(idx p1.Kids 1).bind fun u1=>(idx p1.Kids 2).bind fun u2=>kk1 u1 u2) (fun(x1:Z5)(x2:Z5)=>(idx p1.Kids 0).bind fun u3=>(G.V3 p0 u3).bind fun y1=>exE y1 (fun y1=>jn (fun kk2=>(G.Z3 y1.2 x1).bind fun y2=>exE y2 (fun y2=>(G.Z3 y2.2 x2).bind fun y3=>exE y3 (fun y3=>kk2 y3.2 y3.2.t y2.1 y3.1))) (fun(x12:Q0)(x13:Z9)(x14:Y0)(x15:Y0)=>bif ((x14.n==1)&&(x15.n==1))then(some (qX ((⟨1,(⟨9,0,0,0,false,0,false,false,([y1.1,x14.term,x15.term]:List Y9)⟩:Y9),false⟩:Y0),{x12 with t:=x13})))else(jn (fun kk3=>(X4 ({x12 with t:=x13}) x14.n).bind fun y4=>bif y4 then(bif x14.n==x15.n then(kk3 true)else((Q3m x2).bind fun y5=>kk3 y5))else(kk3 false)) (fun(x16:Bool)=>bif x16 then((E4 ({x12 with t:=x13}) x2 x15 x14.n).bind fun y6=>exC y6 (fun y6=>(idx ([y1.1,x14.term,x15.term]:List Y9) 2).bind fun u6=>(idx ([y1.1,x14.term,x15.term]:List Y9) 2).bind fun u7=>some (qX ((⟨x14.n,(⟨9,0,0,0,false,0,false,true,qP ([y1.1,x14.term,x15.term]:List Y9) (qF 2) y6⟩:Y9),false⟩:Y0),{x12 with t:=x13}))) (fun e3=>some (qK (e3,{x12 with t:=x13}))))else((X4 ({x12 with t:=x13}) x15.n).bind fun y7=>bif y7 then((Q3m x1).bind fun y8=>bif y8 then((Q2o).bind fun y9=>(idx ([y1.1,x14.term,x15.term]:List Y9) 1).bind fun u9=>(idx ([y1.1,x14.term,x15.term]:List Y9) 1).bind fun u10=>some (qX ((⟨x15.n,(⟨9,0,0,0,false,0,false,true,qP ([y1.1,x14.term,x15.term]:List Y9) (qF 1) y9⟩:Y9),false⟩:Y0),{x12 with t:=x13})))else(bif x14.n !=1 then((X4 ({x12 with t:=x13}) x14.n).bind fun y10=>bif !y10 then((X2 x1.Pos 5).bind fun y11=>exC y11 (fun y11=>none) (fun e4=>some (qK (e4,{x12 with t:=x13}))))else((X2 x2.Pos 5).bind fun y12=>exC y12 (fun y12=>none) (fun e5=>some (qK (e5,{x12 with t:=x13})))))else((X2 x2.Pos 5).bind fun y13=>exC y13 (fun y13=>none) (fun e6=>some (qK (e6,{x12 with t:=x13}))))))else(bif x14.n !=1 then((X4 ({x12 with t:=x13}) x14.n).bind fun y14=>bif !y14 then((X2 x1.Pos 5).bind fun y15=>exC y15 (fun y15=>none) (fun e7=>some (qK (e7,{x12 with t:=x13}))))else((X2 x2.Pos 5).bind fun y16=>exC y16 (fun y16=>none) (fun e8=>some (qK (e8,{x12 with t:=x13})))))else((X2 x2.Pos 5).bind fun y17=>exC y17 (fun y17=>none) (fun e9=>some (qK (e9,{x12 with t:=x13})))))))))))
def O9(G:Q2l)(p0:Q0)(p1:Z5):Option (Am (Y0×Q0)):=
 bif decide (p1.Name=([105,110]:Aa))then(some (qX ((⟨1,(⟨12,0,0,0,false,0,false,false,[]⟩:Y9),false⟩:Y0),p0)))else(bif decide (p1.Name=([111,117,116]:Aa))then((idx p1.Kids 0).bind fun u1=>(G.X7 p0 u1).bind fun y1=>exE y1 (fun y1=>some (qX ((⟨0,(⟨11,0,0,0,false,0,false,false,([y1.1]:List Y9)⟩:Y9),false⟩:Y0),y1.2))))else(jn (fun kk1=>(O3.isNil p0.fun_).bind fun u3=>bif !u3 then((O3.get p0.fun_).bind fun u4=>(Q1t u4 p1.Name).bind fun y2=>bif y2.2 then(kk1 false)else(kk1 ((P7 p0.codes p1.Name).isSome)))else(kk1 ((P7 p0.codes p1.Name).isSome))) (fun(x1:Bool)=>bif !x1 then((X2 p1.Pos 4).bind fun y3=>exC y3 (fun y3=>none) (fun e2=>some (qK (e2,p0))))else((idx p0.signs ((P7 p0.codes p1.Name).getD 0)).bind fun u6=>(X4 p0 u6.ret).bind fun y4=>(loopM (fun(x12,x13,x14,x15)=>(bif decide (x12<(qQ p1.Kids:Int))then(jn (fun kk2=>(idx p1.Kids x12).bind fun u7=>(G.Z3 ({x14 with t:=x15}) u7).bind fun y5=>exL y5 (fun y5=>bif decide (x12<(qQ u6.params:Int))then((idx u6.params x12).bind fun u8=>(N3 y5.2 u7 y5.1 u8).bind fun y6=>exC y6 (fun y6=>(Q1d (qQ x13.Kids+qQ ([y6]:List Y9))).bind fun _=>kk2 ({x13 with Kids:=x13.Kids++([y6]:List Y9)}) y5.2 y5.2.t) (fun e3=>some (Lp.ret (qK (e3,y5.2)))))else(kk2 x13 y5.2 y5.2.t))) (fun(x26:Y9)(x27:Q0)(x28:Z9)=>some (Lp.go (qJ .i64 (x12+1),x26,{x27 with t:=x28},x28))))else(some (Lp.brk (x12,x13,{x14 with t:=x15},x15))):Option (Lp (Int×Y9×Q0×Z9) (Am (Y0×Q0))))) NN ((0:Int),(⟨10,0,0,(P7 p0.codes p1.Name).getD 0,false,0,false,y4,[]⟩:Y9),p0,p0.t)).bind fun o=>o.thn (fun(x12,x13,x14,x15)=>bif (qQ p1.Kids:Int)!=(qQ u6.params:Int)then((X2 p1.Pos 5).bind fun y7=>exC y7 (fun y7=>none) (fun e5=>some (qK (e5,{x14 with t:=x15}))))else((E6 ({x14 with t:=x15}) u6.ret).bind fun y8=>some (qX ((⟨y8,x13,false⟩:Y0),{x14 with t:=x15})))) (fun r=>some r)))))
def A2(G:Q2l)(p0:Q0)(p1:Z5):Option (Am (Y0×Q0)):=
 (idx p1.Kids 0).bind fun u1=>(G.V5 p0 u1).bind fun y1=>exE y1 (fun y1=>jn (fun kk1=>bif decide (p1.Op=([45,62]:Aa))then((H0 y1.2 u1.Pos y1.1).bind fun y2=>exC y2 (fun y2=>(H5 ({y2.2 with fun_:=y1.2.fun_}) y2.1.n).bind fun y3=>bif !y3.2 then((X2 u1.Pos 5).bind fun y4=>exC y4 (fun y4=>none) (fun e1=>some (qK (e1,{y2.2 with fun_:=y1.2.fun_}))))else(kk1 (⟨y3.1,y2.1.term,true⟩:Y0) ({y2.2 with fun_:=y1.2.fun_}) y2.2.t)) (fun e2=>some (qK (e2.1,{e2.2 with fun_:=y1.2.fun_}))))else(kk1 y1.1 y1.2 y1.2.t)) (fun(x10:Y0)(x11:Q0)(x12:Z9)=>jn (fun kk2=>(C3 x12 x10.n).bind fun y5=>kk2 y5.1) (fun(x13:Q7d)=>bif ((!x10.lies)||(x13.Kind !=5))then((X2 u1.Pos 5).bind fun y6=>exC y6 (fun y6=>none) (fun e3=>some (qK (e3,{x11 with t:=x12}))))else(jn (fun kk3=>(Q4c x12 x10.n p1.Name).bind fun y7=>kk3 y7.1 y7.2) (fun(x14:K8)(x15:Int)=>(S0 p1.Pos x15).bind fun y8=>exC y8 (fun y8=>jn (fun kk4=>(K1 x12 x14.Type_).bind fun y9=>kk4 (⟨13,0,qJ .u32 x14.At,0,false,y9,false,true,([x10.term]:List Y9)⟩:Y9)) (fun(x16:Y9)=>some (qX ((⟨x14.Type_,x16,true⟩:Y0),{x11 with t:=x12})))) (fun e4=>some (qK (e4,{x11 with t:=x12}))))))))
def O4(G:Q2l)(p0:Q0)(p1:Z5):Option (Am (Y0×Q0)):=
 (idx p1.Kids 0).bind fun u1=>(G.G3 p0 u1).bind fun y1=>exE y1 (fun y1=>jn (fun kk1=>(X4 y1.2 y1.1.n).bind fun y2=>bif y2 then((H5 y1.2 y1.1.n).bind fun y3=>bif !y3.2 then((X2 u1.Pos 5).bind fun y4=>exC y4 (fun y4=>none) (fun e1=>some (qK (e1,y1.2))))else((K1 y1.2.t y3.1).bind fun y5=>kk1 y5))else(kk1 (1:Int))) (fun(x1:Int)=>jn (fun kk2=>bif decide (p1.Op=([45,45]:Aa))then(kk2 (qJ .i64 (0-x1)))else(kk2 x1)) (fun(x2:Int)=>jn (fun kk3=>(K1 y1.2.t y1.1.n).bind fun y6=>(X4 y1.2 y1.1.n).bind fun y7=>kk3 (⟨15,0,qJ .u32 x2,0,false,y6,p1.Kind==11,y7,([y1.1.term]:List Y9)⟩:Y9)) (fun(x3:Y9)=>(E6 y1.2 y1.1.n).bind fun y8=>some (qX ((⟨y8,x3,false⟩:Y0),y1.2))))))
def O7(G:Q2l)(p0:Q0)(p1:Z5):Option (Am (Y0×Q0)):=
 bif p1.Kind==1 then(some (qX ((⟨1,(⟨1,0,p1.Num,0,false,0,false,false,[]⟩:Y9),false⟩:Y0),p0)))else(bif p1.Kind==2 then((Q0h p0 p1).bind fun y1=>exE y1 (fun y1=>some (qX (y1.1,y1.2))))else(bif p1.Kind==3 then((G.F1 p0 p1).bind fun y2=>exE y2 (fun y2=>some (qX (y2.1,y2.2))))else(bif p1.Kind==4 then((G.G5 p0 p1).bind fun y3=>exE y3 (fun y3=>some (qX (y3.1,y3.2))))else(bif p1.Kind==5 then((G.G6 p0 p1).bind fun y4=>exE y4 (fun y4=>some (qX (y4.1,y4.2))))else(bif p1.Kind==6 then((G.F9 p0 p1).bind fun y5=>exE y5 (fun y5=>some (qX (y5.1,y5.2))))else(bif p1.Kind==7 then((G.E0 p0 p1).bind fun y6=>exE y6 (fun y6=>some (qX (y6.1,y6.2))))else(bif p1.Kind==8 then((idx p1.Kids 0).bind fun u7=>(G.Z3 p0 u7).bind fun y7=>exE y7 (fun y7=>(H5 y7.2 y7.1.n).bind fun y8=>bif !y8.2 then((idx p1.Kids 0).bind fun u8=>(X2 u8.Pos 5).bind fun y9=>exC y9 (fun y9=>none) (fun e7=>some (qK (e7,y7.2))))else((idx p1.Kids 1).bind fun u10=>(G.X7 y7.2 u10).bind fun y10=>exE y10 (fun y10=>(Q0v y10.2 y7.1.term y10.1 y8.1 1).bind fun y11=>some (qX ((⟨y8.1,y11,true⟩:Y0),y10.2))))))else(bif p1.Kind==9 then((G.G4 p0 p1).bind fun y12=>exE y12 (fun y12=>some (qX (y12.1,y12.2))))else(jn (fun kk1=>bif p1.Kind==10 then(kk1 (p1.Kind==10))else(kk1 (p1.Kind==11))) (fun(x1:Bool)=>bif x1 then((G.F8 p0 p1).bind fun y13=>exE y13 (fun y13=>some (qX (y13.1,y13.2))))else((F2 p0 p1.Pos p1.Type_).bind fun y14=>exC y14 (fun y14=>(K1 y14.2.t y14.1).bind fun y15=>bif y15==0 then((X2 p1.Pos 5).bind fun y16=>exC y16 (fun y16=>none) (fun e12=>some (qK (e12,{y14.2 with fun_:=p0.fun_}))))else((K1 y14.2.t y14.1).bind fun y17=>some (qX ((⟨1,(⟨1,0,qJ .u32 y17,0,false,0,false,false,[]⟩:Y9),false⟩:Y0),{y14.2 with fun_:=p0.fun_})))) (fun e13=>some (qK (e13.1,{e13.2 with fun_:=p0.fun_}))))))))))))))
def I0(G:Q2l)(p0:Q0)(p1:Z5):Option (Am (Y0×Q0)):=
 (G.V5 p0 p1).bind fun y1=>exE y1 (fun y1=>(H0 y1.2 p1.Pos y1.1).bind fun y2=>exC y2 (fun y2=>some (qX (y2.1,{y2.2 with fun_:=y1.2.fun_}))) (fun e1=>some (qK (e1.1,{e1.2 with fun_:=y1.2.fun_}))))
def Q0l:Nat->Q2l
 |0=>⟨fun _ _=>none,fun _ _=>none,fun _ _=>none,fun _ _ _=>none,fun _ _=>none,fun _ _=>none,fun _ _=>none,fun _ _=>none,fun _ _=>none,fun _ _=>none,fun _ _=>none,fun _ _=>none,fun _ _=>none⟩
 |n+1=>⟨I5 (Q0l n),A1 (Q0l n),I1 (Q0l n),R1 (Q0l n),A5 (Q0l n),I3 (Q0l n),A6 (Q0l n),O8 (Q0l n),O9 (Q0l n),A2 (Q0l n),O4 (Q0l n),O7 (Q0l n),I0 (Q0l n)⟩
def V3(p0:Q0)(p1:Z5):Option (Am (Y9×Q0)):=(Q0l NN).V3 p0 p1
def X7(p0:Q0)(p1:Z5):Option (Am (Y9×Q0)):=(Q0l NN).X7 p0 p1
def F1(p0:Q0)(p1:Z5):Option (Am (Y0×Q0)):=(Q0l NN).F1 p0 p1
def J5(p0:Q0)(p1:Int)(p2:Z5):Option (Am (Y0×Q0)):=(Q0l NN).J5 p0 p1 p2
def G5(p0:Q0)(p1:Z5):Option (Am (Y0×Q0)):=(Q0l NN).G5 p0 p1
def G3(p0:Q0)(p1:Z5):Option (Am (Y0×Q0)):=(Q0l NN).G3 p0 p1
def G6(p0:Q0)(p1:Z5):Option (Am (Y0×Q0)):=(Q0l NN).G6 p0 p1
def F9(p0:Q0)(p1:Z5):Option (Am (Y0×Q0)):=(Q0l NN).F9 p0 p1
def E0(p0:Q0)(p1:Z5):Option (Am (Y0×Q0)):=(Q0l NN).E0 p0 p1
def G4(p0:Q0)(p1:Z5):Option (Am (Y0×Q0)):=(Q0l NN).G4 p0 p1
def F8(p0:Q0)(p1:Z5):Option (Am (Y0×Q0)):=(Q0l NN).F8 p0 p1
def V5(p0:Q0)(p1:Z5):Option (Am (Y0×Q0)):=(Q0l NN).V5 p0 p1
def Z3(p0:Q0)(p1:Z5):Option (Am (Y0×Q0)):=(Q0l NN).Z3 p0 p1

def Q4o(p0:Int):Option (Int):=
 bif p0==1 then(some (0:Int))else(jn (fun kk1=>bif p0==5 then(kk1 (p0==5))else(kk1 (p0==17))) (fun(x1:Bool)=>bif x1 then(some (1:Int))else(jn (fun kk2=>bif p0==6 then(kk2 (p0==6))else(bif p0==7 then(kk2 (p0==7))else(kk2 (p0==8)))) (fun(x2:Bool)=>bif x2 then(some (2:Int))else(bif p0==9 then(some (3:Int))else(some ((-1):Int)))))))

structure Rec4 where
 B8:Y9->Option (Bool)

def Q3l(G:Rec4)(p0:Y9):Option (Bool):=
 (Q4o p0.Kind).bind fun y1=>bif (qQ p0.Kids:Int)!=y1 then(some false)else((loopM (fun(x1:Int)=>(bif decide (x1<(qQ p0.Kids:Int))then((idx p0.Kids x1).bind fun u1=>(G.B8 u1).bind fun y2=>bif !y2 then(some (Lp.ret false))else(some (Lp.go (qJ .i64 (x1+1)))))else(some (Lp.brk x1)):Option (Lp (Int) (Bool)))) NN (0:Int)).bind fun o=>o.thn (fun(x1:Int)=>some true) (fun r=>some r))
def Y4v:Nat->Rec4
 |0=>⟨fun _=>none⟩
 |n+1=>⟨Q3l (Y4v n)⟩
def B8(p0:Y9):Option (Bool):=(Y4v NN).B8 p0

def Y6t(p0:Int)(p1:Int):Option (Int):=
 some (qJ .u32 (p0+p1))

def Y3m(p0:Int)(p1:Int):Option (Int):=
 some (qJ .u32 (p0-p1))

def Y6s(p0:Int)(p1:Int):Option (Int):=
 some (qJ .u32 (p0*p1))

def Z7h(p0:Int)(p1:Int):Option (Int):=
 (nz p1).bind fun _=>some (qJ .i64 (Int.tdiv p0 p1))

def Z5m(p0:Int)(p1:Int):Option (Int):=
 (Z7h (qJ .i64 (qJ .i32 p0)) (qJ .i64 (qJ .i32 p1))).bind fun y1=>some y1

def Z9u(p0:Int)(p1:Int):Option (Int):=
 bif p1==0 then(some (4294967295:Int))else((Z5m p0 p1).bind fun y1=>some (qJ .u32 y1))

def Z7g(p0:Int)(p1:Int):Option (Int):=
 (nz p1).bind fun _=>some (Int.tmod p0 p1)

def Z3b(p0:Int)(p1:Int):Option (Int):=
 (Z7g (qJ .i64 (qJ .i32 p0)) (qJ .i64 (qJ .i32 p1))).bind fun y1=>some y1

def Z9s(p0:Int)(p1:Int):Option (Int):=
 bif p1==0 then(some p0)else((Z3b p0 p1).bind fun y1=>some (qJ .u32 y1))

def Z6k(p0:Int)(p1:Int):Option (Int):=
 (nn (bits .and .u32 p1 31)).bind fun _=>some (qJ .u32 (p0*2^(min (qF (bits .and .u32 p1 31)) (IntKind.bits .u32))))

def Z3f(p0:Int)(p1:Int):Option (Int):=
 (nn (bits .and .u32 p1 31)).bind fun _=>some (qJ .u32 (Int.fdiv (qJ .i32 p0) (2^(min (qF (bits .and .u32 p1 31)) (IntKind.bits .i32)))))

def Q8e(p0:Bool):Option (Int):=
 bif p0 then(some (1:Int))else(some (0:Int))

def Y3k(p0:Bool):Option (Int):=
 bif p0 then(some (1:Int))else(some (0:Int))

def Z1j(p0:Int)(p1:Int):Option (Int):=
 (Y3k (decide ((qJ .i32 p0)<(qJ .i32 p1)))).bind fun y1=>some y1

def Z0j(p0:Int)(p1:Int)(p2:Int):Option (Int×Int):=
 bif p0==11 then((Q8e (p1==p2)).bind fun y1=>some (y1,(0:Int)))else(bif p0==12 then((Q8e (p1 !=p2)).bind fun y2=>some (y2,(0:Int)))else(bif p0==13 then((Z1j p1 p2).bind fun y3=>some (y3,(0:Int)))else(bif p0==14 then((Z1j p2 p1).bind fun y4=>some (y4,(0:Int)))else(bif p0==15 then((Z1j p2 p1).bind fun y5=>some (qJ .u32 (1-y5),(0:Int)))else(bif p0==16 then((Z1j p1 p2).bind fun y6=>some (qJ .u32 (1-y6),(0:Int)))else(some ((0:Int),(1:Int))))))))

def Q9i(p0:Int)(p1:Int)(p2:Int):Option (Int×Int):=
 bif p0==1 then((Y6t p1 p2).bind fun y1=>some (y1,(0:Int)))else(bif p0==2 then((Y3m p1 p2).bind fun y2=>some (y2,(0:Int)))else(bif p0==3 then((Y6s p1 p2).bind fun y3=>some (y3,(0:Int)))else(jn (fun kk1=>bif p0==4 then(kk1 (p0==4))else(kk1 (p0==5))) (fun(x1:Bool)=>bif x1 then(bif p2==0 then(some ((0:Int),(11:Int)))else(bif p0==4 then((Z9u p1 p2).bind fun y4=>some (y4,(0:Int)))else((Z9s p1 p2).bind fun y5=>some (y5,(0:Int)))))else(bif p0==6 then(some (bits .and .u32 p1 p2,(0:Int)))else(bif p0==7 then(some (bits .or .u32 p1 p2,(0:Int)))else(bif p0==8 then(some (bits .xor .u32 p1 p2,(0:Int)))else(bif p0==9 then((Z6k p1 p2).bind fun y6=>some (y6,(0:Int)))else(bif p0==10 then((Z3f p1 p2).bind fun y7=>some (y7,(0:Int)))else(bif p0==17 then((Y3m 0 p1).bind fun y8=>some (y8,(0:Int)))else(bif p0==18 then(some (bits .xor .u32 (if IntKind.signed .u32 then -1 else IntKind.max .u32) p1,(0:Int)))else(bif p0==19 then((Q8e (p1==0)).bind fun y9=>some (y9,(0:Int)))else((Z0j p0 p1 p2).bind fun y10=>some (y10.1,y10.2))))))))))))))

structure Rec5 where
 L5:Y9->Option (Int×Int)

def Z2f(G:Rec5)(p0:Y9):Option (Int×Int):=
 bif p0.Kind==1 then(some (p0.Num,(0:Int)))else((idx p0.Kids 0).bind fun u1=>(G.L5 u1).bind fun y1=>bif y1.2 !=0 then(some ((0:Int),y1.2))else(jn (fun kk1=>bif p0.Kind==17 then(some (bits .and .u32 y1.1 255,(0:Int)))else(bif p0.Kind==5 then((Q9i p0.Fn y1.1 0).bind fun y2=>some (y2.1,y2.2))else(bif p0.Kind==9 then(bif y1.1 !=0 then((idx p0.Kids 1).bind fun u2=>(G.L5 u2).bind fun y3=>some (y3.1,y3.2))else((idx p0.Kids 2).bind fun u3=>(G.L5 u3).bind fun y4=>some (y4.1,y4.2)))else(jn (fun kk2=>bif p0.Kind==7 then(kk2 (p0.Kind==7))else(kk2 (p0.Kind==8))) (fun(x1:Bool)=>bif x1 then(bif (y1.1 !=0)==(p0.Kind==8)then((Q8e (y1.1 !=0)).bind fun y5=>some (y5,(0:Int)))else(kk1 ()))else(kk1 ())))))) (fun(_:Unit)=>(idx p0.Kids 1).bind fun u4=>(G.L5 u4).bind fun y6=>bif y6.2 !=0 then(some ((0:Int),y6.2))else(bif p0.Kind !=6 then((Q8e (y6.1 !=0)).bind fun y7=>some (y7,(0:Int)))else((Q9i p0.Fn y1.1 y6.1).bind fun y8=>some (y8.1,y8.2))))))
def rec5:Nat->Rec5
 |0=>⟨fun _=>none⟩
 |n+1=>⟨Z2f (rec5 n)⟩
def L5(p0:Y9):Option (Int×Int):=(rec5 NN).L5 p0

def Z5i(p0:Y9):Option (Int×Int):=
 (B8 p0).bind fun y1=>bif !y1 then(some ((0:Int),(9:Int)))else((L5 p0).bind fun y2=>some (y2.1,y2.2))

def Q0i(p0:Q0)(p1:J2)(p2:Int):Option (Am ((List Int)×Q0)):=
 (K1 p0.t p2).bind fun y1=>(repl y1 0).bind fun u1=>(L3 p0 p1 p2).bind fun y2=>exC y2 (fun y2=>(loopM (fun(x1,x11,x12,x13)=>(bif decide (x11<(qQ y2:Int))then((idx y2 x11).bind fun u2=>jn (fun kk1=>(Z3 ({x12 with t:=x13}) u2).bind fun y3=>exL y3 (fun y3=>(Q0g y3.2 p2).bind fun y4=>(E4 y3.2 u2 y3.1 y4).bind fun y5=>exC y5 (fun y5=>kk1 y3.2 y3.2.t y5) (fun e2=>some (Lp.ret (qK (e2,y3.2)))))) (fun(x23:Q0)(x24:Z9)(x25:Y9)=>(Z5i x25).bind fun y6=>(S0 u2.Pos y6.2).bind fun y7=>exC y7 (fun y7=>(Q0g ({x23 with t:=x24}) p2).bind fun y8=>(Q1f ({x23 with t:=x24}) y8).bind fun y9=>(loopM (fun(x26,x27)=>(bif decide (x27<y9)then((nn (qJ .i64 (8*x27))).bind fun _=>(idx x26 (qJ .i64 ((qJ .i64 (y9*x11))+x27))).bind fun u5=>(idx x26 (qJ .i64 ((qJ .i64 (y9*x11))+x27))).bind fun u6=>some (Lp.go (qP x26 (qF (qJ .i64 ((qJ .i64 (y9*x11))+x27))) (qJ .u8 (Int.fdiv y6.1 (2^(min (qF (qJ .i64 (8*x27))) (IntKind.bits .u32))))),qJ .i64 (x27+1))))else(some (Lp.brk (x26,x27))):Option (Lp ((List Int)×Int) (Unit)))) NN (x1,(0:Int))).bind fun o=>o.thn (fun(x26,x27)=>some (Lp.go (x26,qJ .i64 (x11+1),{x23 with t:=x24},x24))) (fun _=>none)) (fun e3=>some (Lp.ret (qK (e3,{x23 with t:=x24}))))))else(some (Lp.brk (x1,x11,{x12 with t:=x13},x13))):Option (Lp ((List Int)×Int×Q0×Z9) (Am ((List Int)×Q0))))) NN (u1,(0:Int),p0,p0.t)).bind fun o=>o.thn (fun(x1,x11,x12,x13)=>some (qX (x1,{x12 with t:=x13}))) (fun r=>some r)) (fun e4=>some (qK (e4,p0)))

def O6(p0:Q0)(p1:J2):Option (Am (Q0)):=
 (L0 p0 p1).bind fun y1=>exC y1 (fun y1=>(W5 ({y1.2 with fun_:=p0.fun_}) p1.Pos p1.Name).bind fun y2=>exC y2 (fun y2=>(Q2k ({y2 with fun_:=p0.fun_}) p1.Name y1.1).bind fun y3=>(Q1d (qQ y2.u.Globals+qQ ([y3]:List Q9j))).bind fun _=>(Q1d (qQ y2.gtypes+qQ ([y1.1]:List Int))).bind fun _=>(Q0i ({y2 with u:={y2.u with Globals:=y2.u.Globals++([y3]:List Q9j)},gtypes:=y2.gtypes++([y1.1]:List Int),fun_:=p0.fun_}) p1 y1.1).bind fun y4=>exE y4 (fun y4=>(Q1d (qQ y4.2.u.Data+qQ ([y4.1]:List (List Int)))).bind fun _=>some (qX ({y4.2 with u:={y4.2.u with Data:=y4.2.u.Data++([y4.1]:List (List Int))}})))) (fun e2=>some (qK (e2.1,{e2.2 with fun_:=p0.fun_})))) (fun e3=>some (qK (e3.1,{e3.2 with fun_:=p0.fun_})))

def P4(p0:Q0)(p1:Pos)(p2:Aa):Option (Am (Q0)):=
 bif (((P7 p0.globals p2).isSome)||((P7 p0.codes p2).isSome))then((X2 p1 6).bind fun y1=>exC y1 (fun y1=>none) (fun e1=>some (qK (e1,p0))))else(bif (Z4y p0.codes:Int)==200 then((X2 p1 2).bind fun y2=>exC y2 (fun y2=>none) (fun e2=>some (qK (e2,p0))))else((p0.codes).bind fun u3=>some (qX ({p0 with codes:=(some (Q8w u3 p2 (Z4y p0.codes:Int)))}))))

def O5(p0:Q0)(p1:L6):Option (Am (Q0)):=
 (F2 p0 p1.Pos p1.Ret).bind fun y1=>exE y1 (fun y1=>bif y1.1 !=0 then((M0 y1.2.t y1.1).bind fun y2=>bif !y2 then((X2 p1.Pos 5).bind fun y3=>exC y3 (fun y3=>none) (fun e1=>some (qK (e1,y1.2))))else((P4 y1.2 p1.Pos p1.Name).bind fun y4=>exE y4 (fun y4=>bif decide (6<(qQ p1.Params:Int))then((X2 p1.Pos 2).bind fun y5=>exC y5 (fun y5=>none) (fun e2=>some (qK (e2,y4))))else((loopM (fun(x10,x11,x12,x13)=>(bif decide (x10<(qQ p1.Params:Int))then((idx p1.Params x10).bind fun u3=>(F2 ({x12 with t:=x13}) u3.Pos u3.Type_).bind fun y6=>exL y6 (fun y6=>(M0 y6.2.t y6.1).bind fun y7=>bif !y7 then((X2 u3.Pos 5).bind fun y8=>exC y8 (fun y8=>none) (fun e3=>some (Lp.ret (qK (e3,y6.2)))))else((Q1d (qQ x11.params+qQ ([y6.1]:List Int))).bind fun _=>some (Lp.go (qJ .i64 (x10+1),(⟨x11.ret,x11.params++([y6.1]:List Int)⟩:H7),y6.2,y6.2.t)))))else(some (Lp.brk (x10,x11,{x12 with t:=x13},x13))):Option (Lp (Int×H7×Q0×Z9) (Am (Q0))))) NN ((0:Int),(⟨y1.1,[]⟩:H7),y4,y4.t)).bind fun o=>o.thn (fun(x10,x11,x12,x13)=>(Q1d (qQ x12.signs+qQ ([x11]:List H7))).bind fun _=>(Q1d (qQ x12.u.Codes+qQ ([(⟨p1.Name,y1.1==0,(qQ p1.Params:Int),[],[]⟩:Q5b)]:List Q5b))).bind fun _=>some (qX ({x12 with t:=x13,u:={x12.u with Codes:=x12.u.Codes++([(⟨p1.Name,y1.1==0,(qQ p1.Params:Int),[],[]⟩:Q5b)]:List Q5b)},signs:=x12.signs++([x11]:List H7)}))) (fun r=>some r)))))else((P4 y1.2 p1.Pos p1.Name).bind fun y9=>exE y9 (fun y9=>bif decide (6<(qQ p1.Params:Int))then((X2 p1.Pos 2).bind fun y10=>exC y10 (fun y10=>none) (fun e6=>some (qK (e6,y9))))else((loopM (fun(x23,x24,x25,x26)=>(bif decide (x23<(qQ p1.Params:Int))then((idx p1.Params x23).bind fun u8=>(F2 ({x25 with t:=x26}) u8.Pos u8.Type_).bind fun y11=>exL y11 (fun y11=>(M0 y11.2.t y11.1).bind fun y12=>bif !y12 then((X2 u8.Pos 5).bind fun y13=>exC y13 (fun y13=>none) (fun e7=>some (Lp.ret (qK (e7,y11.2)))))else((Q1d (qQ x24.params+qQ ([y11.1]:List Int))).bind fun _=>some (Lp.go (qJ .i64 (x23+1),(⟨x24.ret,x24.params++([y11.1]:List Int)⟩:H7),y11.2,y11.2.t)))))else(some (Lp.brk (x23,x24,{x25 with t:=x26},x26))):Option (Lp (Int×H7×Q0×Z9) (Am (Q0))))) NN ((0:Int),(⟨y1.1,[]⟩:H7),y9,y9.t)).bind fun o=>o.thn (fun(x23,x24,x25,x26)=>(Q1d (qQ x25.signs+qQ ([x24]:List H7))).bind fun _=>(Q1d (qQ x25.u.Codes+qQ ([(⟨p1.Name,y1.1==0,(qQ p1.Params:Int),[],[]⟩:Q5b)]:List Q5b))).bind fun _=>some (qX ({x25 with t:=x26,u:={x25.u with Codes:=x25.u.Codes++([(⟨p1.Name,y1.1==0,(qQ p1.Params:Int),[],[]⟩:Q5b)]:List Q5b)},signs:=x25.signs++([x24]:List H7)}))) (fun r=>some r)))))

def S4(p0:Q0)(p1:List L6):Option (Am (Q0)):=
 bif !((P7 p0.codes ([109,97,105,110]:Aa)).isSome)then((X2 (⟨1,1⟩:Pos) 4).bind fun y1=>exC y1 (fun y1=>none) (fun e1=>some (qK (e1,p0))))else((idx p0.signs ((P7 p0.codes ([109,97,105,110]:Aa)).getD 0)).bind fun u2=>bif decide (0<(qQ u2.params:Int))then((idx p1 ((P7 p0.codes ([109,97,105,110]:Aa)).getD 0)).bind fun u6=>(X2 u6.Pos 5).bind fun y3=>exC y3 (fun y3=>none) (fun e3=>some (qK (e3,p0))))else((idx p0.signs ((P7 p0.codes ([109,97,105,110]:Aa)).getD 0)).bind fun u3=>bif u3.ret !=1 then((idx p1 ((P7 p0.codes ([109,97,105,110]:Aa)).getD 0)).bind fun u4=>(X2 u4.Pos 5).bind fun y2=>exC y2 (fun y2=>none) (fun e2=>some (qK (e2,p0))))else(some (qX ({p0 with u:={p0.u with Main:=(P7 p0.codes ([109,97,105,110]:Aa)).getD 0}})))))

def M4(p0:Q0)(p1:Pos)(p2:Aa)(p3:Int):Option (Am (Int×Q0)):=
 (O3.get p0.fun_).bind fun u1=>(idx u1.scopes (qJ .i64 ((qQ u1.scopes:Int)-1))).bind fun u2=>bif (P7 u2 p2).isSome then((X2 p1 6).bind fun y1=>exC y1 (fun y1=>none) (fun e1=>some (qK (e1,p0))))else(bif (qQ u1.slots:Int)==200 then((X2 p1 2).bind fun y2=>exC y2 (fun y2=>none) (fun e2=>some (qK (e2,p0))))else((u2).bind fun u5=>(Q2k ({p0 with fun_:=(O3.some ({u1 with scopes:=qP u1.scopes (qF (qJ .i64 ((qQ u1.scopes:Int)-1))) (some (Q8w u5 p2 (qQ u1.slots:Int)))}))}) p2 p3).bind fun y3=>(Q1d (qQ u1.slots+qQ ([y3]:List Q9j))).bind fun _=>(Q1d (qQ u1.types+qQ ([p3]:List Int))).bind fun _=>some (qX (qJ .i64 ((qQ (u1.slots++([y3]:List Q9j)):Int)-1),{p0 with fun_:=(O3.some ({u1 with slots:=u1.slots++([y3]:List Q9j),types:=u1.types++([p3]:List Int),scopes:=qP u1.scopes (qF (qJ .i64 ((qQ u1.scopes:Int)-1))) (some (Q8w u5 p2 (qQ u1.slots:Int)))}))}))))

def M7(p0:Q0)(p1:Z5):Option (Am (K4×Q0)):=
 (V5 p0 p1).bind fun y1=>exE y1 (fun y1=>jn (fun kk1=>bif y1.1.lies then((M0 y1.2.t y1.1.n).bind fun y2=>bif y2 then((H0 y1.2 p1.Pos y1.1).bind fun y3=>exC y3 (fun y3=>kk1 y3.1 ({y3.2 with fun_:=y1.2.fun_}) y3.2.t) (fun e1=>some (qK (e1.1,{e1.2 with fun_:=y1.2.fun_}))))else(kk1 y1.1 y1.2 y1.2.t))else(kk1 y1.1 y1.2 y1.2.t)) (fun(x10:Y0)(x11:Q0)(x12:Z9)=>some (qX ((⟨1,([x10.term]:List Y9),[],false,[],[],[],0⟩:K4),{x11 with t:=x12}))))

def W1(p0:Y9)(p1:Y9)(p2:Q0)(p3:Int)(p4:List K4):Option ((List K4)):=
 jn (fun kk1=>(K1 p2.t p3).bind fun y1=>(X4 p2 p3).bind fun y2=>kk1 (⟨4,0,0,0,false,y1,false,y2,([p0,p1]:List Y9)⟩:Y9)) (fun(x1:Y9)=>(Q1d (qQ p4+qQ ([(⟨0,[],[],false,[],[],[],0⟩:K4)]:List K4))).bind fun _=>(idx (p4++([(⟨0,[],[],false,[],[],[],0⟩:K4)]:List K4)) (qQ p4:Int)).bind fun u1=>some (qP (p4++([(⟨0,[],[],false,[],[],[],0⟩:K4)]:List K4)) (qF (qQ p4:Int)) (⟨1,([x1]:List Y9),[],false,[],[],[],0⟩:K4)))

def A0(p0:Q0)(p1:J2):Option (Am ((List K4)×Q0)):=
 (L0 p0 p1).bind fun y1=>exC y1 (fun y1=>(M4 ({y1.2 with fun_:=p0.fun_}) p1.Pos p1.Name y1.1).bind fun y2=>exE y2 (fun y2=>(Q0g y2.2 y1.1).bind fun y3=>(C3 y2.2.t y1.1).bind fun y4=>(L3 y2.2 p1 y1.1).bind fun y5=>exC y5 (fun y5=>bif (qQ y5:Int)==0 then(some (qX (([(⟨9,[],[],false,[],[],[],y2.1⟩:K4)]:List K4),y2.2)))else(bif y4.1.Kind !=4 then((idx y5 0).bind fun u1=>(idx y5 0).bind fun u2=>(Z3 y2.2 u2).bind fun y6=>exE y6 (fun y6=>(E4 y6.2 u1 y6.1 y1.1).bind fun y7=>exC y7 (fun y7=>(W1 (⟨2,0,0,y2.1,false,0,false,true,[]⟩:Y9) y7 y6.2 y3 ([(⟨9,[],[],false,[],[],[],y2.1⟩:K4)]:List K4)).bind fun y8=>some (qX (y8,y6.2))) (fun e1=>some (qK (e1,y6.2)))))else((loopM (fun(x11,x12,x13,x14)=>(bif decide (x11<y4.1.Len)then((X4 ({x13 with t:=x14}) y3).bind fun y9=>jn (fun kk1=>bif decide (x11<(qQ y5:Int))then((idx y5 x11).bind fun u5=>(idx y5 x11).bind fun u6=>(Z3 ({x13 with t:=x14}) u6).bind fun y10=>exL y10 (fun y10=>(E4 y10.2 u5 y10.1 y3).bind fun y11=>exC y11 (fun y11=>kk1 y11 y10.2 y10.2.t) (fun e3=>some (Lp.ret (qK (e3,y10.2))))))else(kk1 (⟨1,0,0,0,false,0,false,y9,[]⟩:Y9) ({x13 with t:=x14}) x14)) (fun(x24:Y9)(x25:Q0)(x26:Z9)=>(Q0v ({x25 with t:=x26}) (⟨2,0,0,y2.1,false,0,false,true,[]⟩:Y9) (⟨1,0,qJ .u32 x11,0,false,0,false,false,[]⟩:Y9) y3 1).bind fun y12=>(W1 y12 x24 ({x25 with t:=x26}) y3 x12).bind fun y13=>some (Lp.go (qJ .i64 (x11+1),y13,{x25 with t:=x26},x26))))else(some (Lp.brk (x11,x12,{x13 with t:=x14},x14))):Option (Lp (Int×(List K4)×Q0×Z9) (Am ((List K4)×Q0))))) NN ((0:Int),([(⟨9,[],[],false,[],[],[],y2.1⟩:K4)]:List K4),y2.2,y2.2.t)).bind fun o=>o.thn (fun(x11,x12,x13,x14)=>some (qX (x12,{x13 with t:=x14}))) (fun r=>some r)))) (fun e5=>some (qK (e5,y2.2))))) (fun e7=>some (qK (e7.1,{e7.2 with fun_:=p0.fun_})))

def L7(p0:Q0)(p1:Int)(p2:Z5):Option (Am (K4×Q0)):=
 (V3 p0 p2).bind fun y1=>exE y1 (fun y1=>some (qX ((⟨p1,([y1.1]:List Y9),[],false,[],[],[],0⟩:K4),y1.2)))

def R3(p0:Q0)(p1:V8):Option (Am (K4×Q0)):=
 bif (qQ p1.A:Int)==0 then((O3.get p0.fun_).bind fun u1=>bif u1.ret !=0 then((X2 p1.Pos 5).bind fun y1=>exC y1 (fun y1=>none) (fun e1=>some (qK (e1,p0))))else(some (qX ((⟨5,[],[],false,[],[],[],0⟩:K4),p0))))else((idx p1.A 0).bind fun u3=>(Z3 p0 u3).bind fun y2=>exE y2 (fun y2=>(O3.get y2.2.fun_).bind fun u4=>bif u4.ret==0 then((X2 u3.Pos 5).bind fun y3=>exC y3 (fun y3=>none) (fun e2=>some (qK (e2,y2.2))))else((N3 ({y2.2 with fun_:=(O3.some u4)}) u3 y2.1 u4.ret).bind fun y4=>exC y4 (fun y4=>some (qX ((⟨5,([y4]:List Y9),[],false,[],[],[],0⟩:K4),y2.2))) (fun e3=>some (qK (e3,y2.2))))))

structure Z2z where
 V1:Q0->(List V8)->Option (Am ((List K4)×Q0))
 K2:Q0->(List V8)->Option (Am ((List K4)×Q0))
 F4:Q0->V8->Option (Am ((List K4)×Q0))
 F3:Q0->V8->Option (Am (K4×Q0))
 D6:Q0->V8->Option (Am ((List K4)×Q0))
 J0:Q0->(List V8)->Option (Am ((List K4)×Q0))

def I4(G:Z2z)(p0:Q0)(p1:List V8):Option (Am ((List K4)×Q0)):=
 (O3.get p0.fun_).bind fun u1=>(Q1d (qQ u1.scopes+1)).bind fun _=>(G.J0 ({p0 with fun_:=(O3.some ({u1 with scopes:=u1.scopes++[(some [])]}))}) p1).bind fun y1=>exE y1 (fun y1=>(O3.get y1.2.fun_).bind fun u2=>(sub u2.scopes 0 (qJ .i64 ((qQ u2.scopes:Int)-1))).bind fun u3=>some (qX (y1.1,{y1.2 with fun_:=(O3.some ({u2 with scopes:=u3}))})))
def A3(G:Z2z)(p0:Q0)(p1:List V8):Option (Am ((List K4)×Q0)):=
 (O3.get p0.fun_).bind fun u1=>(G.V1 ({p0 with fun_:=(O3.some ({u1 with loops:=qJ .i64 (u1.loops+1),breaks:=qJ .i64 (u1.breaks+1)}))}) p1).bind fun y1=>exE y1 (fun y1=>(O3.get y1.2.fun_).bind fun u2=>some (qX (y1.1,{y1.2 with fun_:=(O3.some ({u2 with loops:=qJ .i64 (u2.loops-1),breaks:=qJ .i64 (u2.breaks-1)}))})))
def A7(G:Z2z)(p0:Q0)(p1:V8):Option (Am ((List K4)×Q0)):=
 (loopM (fun(x1,x11,x12,x13)=>(bif decide (x11<(qQ p1.A:Int))then((idx p1.A x11).bind fun u1=>(M7 ({x12 with t:=x13}) u1).bind fun y1=>exL y1 (fun y1=>(Q1d (qQ x1+qQ ([y1.1]:List K4))).bind fun _=>some (Lp.go (x1++([y1.1]:List K4),qJ .i64 (x11+1),y1.2,y1.2.t))))else(some (Lp.brk (x1,x11,{x12 with t:=x13},x13))):Option (Lp ((List K4)×Int×Q0×Z9) (Am ((List K4)×Q0))))) NN ([],(0:Int),p0,p0.t)).bind fun o=>o.thn (fun(x1,x11,x12,x13)=>(loopM (fun(x24,x25,x26,x27)=>(bif decide (x24<(qQ p1.B:Int))then((idx p1.B x24).bind fun u3=>(V3 ({x26 with t:=x27}) u3).bind fun y2=>exL y2 (fun y2=>(Q1d (qQ x25.A+qQ ([y2.1]:List Y9))).bind fun _=>some (Lp.go (qJ .i64 (x24+1),{x25 with A:=x25.A++([y2.1]:List Y9)},y2.2,y2.2.t))))else(some (Lp.brk (x24,x25,{x26 with t:=x27},x27))):Option (Lp (Int×K4×Q0×Z9) (Am ((List K4)×Q0))))) NN ((0:Int),(⟨3,[],[],false,[],[],[],0⟩:K4),{x12 with t:=x13},x13)).bind fun o=>o.thn (fun(x24,x25,x26,x27)=>(loopM (fun(x38,x39,x40,x41)=>(bif decide (x38<(qQ p1.C:Int))then((idx p1.C x38).bind fun u5=>(M7 ({x40 with t:=x41}) u5).bind fun y3=>exL y3 (fun y3=>some (Lp.go (qJ .i64 (x38+1),{x39 with Post:=y3.1.A},y3.2,y3.2.t))))else(some (Lp.brk (x38,x39,{x40 with t:=x41},x41))):Option (Lp (Int×K4×Q0×Z9) (Am ((List K4)×Q0))))) NN ((0:Int),x25,{x26 with t:=x27},x27)).bind fun o=>o.thn (fun(x38,x39,x40,x41)=>(G.K2 ({x40 with t:=x41}) p1.Body).bind fun y4=>exE y4 (fun y4=>(Q1d (qQ x1+qQ ([{x39 with Body:=y4.1}]:List K4))).bind fun _=>some (qX (x1++([{x39 with Body:=y4.1}]:List K4),y4.2)))) (fun r=>some r)) (fun r=>some r)) (fun r=>some r)
def A4(G:Z2z)(p0:Q0)(p1:V8):Option (Am (K4×Q0)):=
 (idx p1.A 0).bind fun u1=>(X7 p0 u1).bind fun y1=>exE y1 (fun y1=>(O3.get y1.2.fun_).bind fun u2=>(loopM (fun(x2,x13,x14,x15,x16,x17)=>(bif decide (x14<(qQ p1.Cases:Int))then((idx p1.Cases x14).bind fun u3=>bif (u3.Default&&x13)then((X2 u3.Pos 6).bind fun y5=>exC y5 (fun y5=>none) (fun e4=>some (Lp.ret (qK (e4,{x16 with t:=x17})))))else(bif !u3.Default then(bif (P7 x2 u3.Num).getD false then((X2 u3.Pos 6).bind fun y2=>exC y2 (fun y2=>none) (fun e1=>some (Lp.ret (qK (e1,{x16 with t:=x17})))))else(jn (fun kk1=>bif u3.Default then(kk1 x2 true)else((x2).bind fun u5=>kk1 (some (Q8w u5 u3.Num true)) x13)) (fun(x18:Option (List (Int×Bool)))(x19:Bool)=>(G.V1 ({x16 with t:=x17}) u3.Body).bind fun y3=>exL y3 (fun y3=>(Q1d (qQ x15.Cases+qQ ([{u3 with Body:=y3.1}]:List Q9k))).bind fun _=>some (Lp.go (x18,x19,qJ .i64 (x14+1),{x15 with Cases:=x15.Cases++([{u3 with Body:=y3.1}]:List Q9k)},y3.2,y3.2.t))))))else(jn (fun kk2=>bif u3.Default then(kk2 x2 true)else((x2).bind fun u7=>kk2 (some (Q8w u7 u3.Num true)) x13)) (fun(x20:Option (List (Int×Bool)))(x21:Bool)=>(G.V1 ({x16 with t:=x17}) u3.Body).bind fun y4=>exL y4 (fun y4=>(Q1d (qQ x15.Cases+qQ ([{u3 with Body:=y4.1}]:List Q9k))).bind fun _=>some (Lp.go (x20,x21,qJ .i64 (x14+1),{x15 with Cases:=x15.Cases++([{u3 with Body:=y4.1}]:List Q9k)},y4.2,y4.2.t)))))))else(some (Lp.brk (x2,x13,x14,x15,{x16 with t:=x17},x17))):Option (Lp ((Option (List (Int×Bool)))×Bool×Int×K4×Q0×Z9) (Am (K4×Q0))))) NN ((some []),false,(0:Int),(⟨4,([y1.1]:List Y9),[],false,[],[],[],0⟩:K4),{y1.2 with fun_:=(O3.some ({u2 with breaks:=qJ .i64 (u2.breaks+1)}))},y1.2.t)).bind fun o=>o.thn (fun(x2,x13,x14,x15,x16,x17)=>(O3.get x16.fun_).bind fun u10=>some (qX (x15,{x16 with t:=x17,fun_:=(O3.some ({u10 with breaks:=qJ .i64 (u10.breaks-1)}))}))) (fun r=>some r))
def O2(G:Z2z)(p0:Q0)(p1:V8):Option (Am ((List K4)×Q0)):=
 bif p1.Kind==1 then((idx p1.A 0).bind fun u1=>(M7 p0 u1).bind fun y1=>exE y1 (fun y1=>some (qX (([y1.1]:List K4),y1.2))))else(bif p1.Kind==2 then((idx p1.Var 0).bind fun u3=>(A0 p0 u3).bind fun y2=>exE y2 (fun y2=>some (qX (y2.1,y2.2))))else(bif p1.Kind==3 then((idx p1.A 0).bind fun u5=>(L7 p0 2 u5).bind fun y3=>exE y3 (fun y3=>(G.V1 y3.2 p1.Body).bind fun y4=>exE y4 (fun y4=>(G.V1 y4.2 p1.Else).bind fun y5=>exE y5 (fun y5=>some (qX (([{y3.1 with Body:=y4.1,Else:=y5.1}]:List K4),y5.2))))))else(bif p1.Kind==4 then((idx p1.A 0).bind fun u9=>(L7 p0 3 u9).bind fun y6=>exE y6 (fun y6=>(G.K2 y6.2 p1.Body).bind fun y7=>exE y7 (fun y7=>some (qX (([{y6.1 with Body:=y7.1}]:List K4),y7.2)))))else(bif p1.Kind==5 then((G.K2 p0 p1.Body).bind fun y8=>exE y8 (fun y8=>(idx p1.A 0).bind fun u12=>(L7 y8.2 3 u12).bind fun y9=>exE y9 (fun y9=>some (qX (([{y9.1 with First:=true,Body:=y8.1}]:List K4),y9.2)))))else(bif p1.Kind==6 then((G.F4 p0 p1).bind fun y10=>exE y10 (fun y10=>some (qX (([(⟨8,[],[],false,y10.1,[],[],0⟩:K4)]:List K4),y10.2))))else(bif p1.Kind==7 then((G.F3 p0 p1).bind fun y11=>exE y11 (fun y11=>some (qX (([y11.1]:List K4),y11.2))))else(bif p1.Kind==8 then((R3 p0 p1).bind fun y12=>exE y12 (fun y12=>some (qX (([y12.1]:List K4),y12.2))))else(bif p1.Kind==11 then((G.V1 p0 p1.Body).bind fun y13=>exE y13 (fun y13=>some (qX (([(⟨8,[],[],false,y13.1,[],[],0⟩:K4)]:List K4),y13.2))))else(bif p1.Kind==9 then((O3.get p0.fun_).bind fun u19=>bif u19.breaks==0 then((X2 p1.Pos 9).bind fun y14=>exC y14 (fun y14=>none) (fun e14=>some (qK (e14,p0))))else(some (qX (([(⟨6,[],[],false,[],[],[],0⟩:K4)]:List K4),p0))))else(bif p1.Kind==10 then((O3.get p0.fun_).bind fun u21=>bif u21.loops==0 then((X2 p1.Pos 9).bind fun y15=>exC y15 (fun y15=>none) (fun e15=>some (qK (e15,p0))))else(some (qX (([(⟨7,[],[],false,[],[],[],0⟩:K4)]:List K4),p0))))else(some (qX ([],p0)))))))))))))
def R4(G:Z2z)(p0:Q0)(p1:List V8):Option (Am ((List K4)×Q0)):=
 (loopM (fun(x1,x11,x12,x13)=>(bif decide (x11<(qQ p1:Int))then((idx p1 x11).bind fun u1=>(G.D6 ({x12 with t:=x13}) u1).bind fun y1=>exL y1 (fun y1=>(Q1d (qQ x1+qQ y1.1)).bind fun _=>some (Lp.go (x1++y1.1,qJ .i64 (x11+1),y1.2,y1.2.t))))else(some (Lp.brk (x1,x11,{x12 with t:=x13},x13))):Option (Lp ((List K4)×Int×Q0×Z9) (Am ((List K4)×Q0))))) NN ([],(0:Int),p0,p0.t)).bind fun o=>o.thn (fun(x1,x11,x12,x13)=>some (qX (x1,{x12 with t:=x13}))) (fun r=>some r)
def Q9m:Nat->Z2z
 |0=>⟨fun _ _=>none,fun _ _=>none,fun _ _=>none,fun _ _=>none,fun _ _=>none,fun _ _=>none⟩
 |n+1=>⟨I4 (Q9m n),A3 (Q9m n),A7 (Q9m n),A4 (Q9m n),O2 (Q9m n),R4 (Q9m n)⟩
def V1(p0:Q0)(p1:List V8):Option (Am ((List K4)×Q0)):=(Q9m NN).V1 p0 p1
def K2(p0:Q0)(p1:List V8):Option (Am ((List K4)×Q0)):=(Q9m NN).K2 p0 p1
def F4(p0:Q0)(p1:V8):Option (Am ((List K4)×Q0)):=(Q9m NN).F4 p0 p1
def F3(p0:Q0)(p1:V8):Option (Am (K4×Q0)):=(Q9m NN).F3 p0 p1
def D6(p0:Q0)(p1:V8):Option (Am ((List K4)×Q0)):=(Q9m NN).D6 p0 p1
def J0(p0:Q0)(p1:List V8):Option (Am ((List K4)×Q0)):=(Q9m NN).J0 p0 p1

def Q0j(p0:Q0)(p1:Int)(p2:L6):Option (Am (Q0)):=
 (idx p0.signs p1).bind fun u1=>(loopM (fun(x2,x10,x11)=>(bif decide (x10<(qQ p2.Params:Int))then((idx p2.Params x10).bind fun u2=>(idx x11.signs p1).bind fun u3=>(idx u3.params x10).bind fun u4=>(M4 ({x11 with t:=(⟨x2⟩:Z9)}) u2.Pos u2.Name u4).bind fun y1=>exL y1 (fun y1=>some (Lp.go (y1.2.t.list,qJ .i64 (x10+1),y1.2))))else(some (Lp.brk (x2,x10,{x11 with t:=(⟨x2⟩:Z9)}))):Option (Lp ((List K3)×Int×Q0) (Am (Q0))))) NN (p0.t.list,(0:Int),{p0 with fun_:=(O3.some (⟨u1.ret,[],[],([(some [])]:List (Option (List ((Aa)×Int)))),0,0⟩:E1))})).bind fun o=>o.thn (fun(x2,x10,x11)=>(J0 ({x11 with t:=(⟨x2⟩:Z9)}) p2.Body).bind fun y2=>exE y2 (fun y2=>(O3.get y2.2.fun_).bind fun u6=>(idx y2.2.u.Codes p1).bind fun u7=>(idx y2.2.u.Codes p1).bind fun u8=>(idx (qP y2.2.u.Codes (qF p1) ({u8 with Body:=y2.1})) p1).bind fun u9=>(idx (qP y2.2.u.Codes (qF p1) ({u8 with Body:=y2.1})) p1).bind fun u10=>some (qX ({y2.2 with u:={y2.2.u with Codes:=qP (qP y2.2.u.Codes (qF p1) ({u8 with Body:=y2.1})) (qF p1) ({u10 with Slots:=u6.slots})},fun_:=O3.dead})))) (fun r=>some r)

def Q0x(p0:Q0)(p1:U3):Option (Am (Q0)):=
 (I2 p0 p1.Structs).bind fun y1=>exC y1 (fun y1=>(loopM (fun(x10,x11,x12)=>(bif decide (x10<(qQ p1.Globals:Int))then((idx p1.Globals x10).bind fun u1=>(O6 ({x11 with t:=x12}) u1).bind fun y2=>exL y2 (fun y2=>some (Lp.go (qJ .i64 (x10+1),y2,y2.t))))else(some (Lp.brk (x10,{x11 with t:=x12},x12))):Option (Lp (Int×Q0×Z9) (Am (Q0))))) NN ((0:Int),{y1 with fun_:=p0.fun_},y1.t)).bind fun o=>o.thn (fun(x10,x11,x12)=>(loopM (fun(x22,x23,x24)=>(bif decide (x22<(qQ p1.Funcs:Int))then((idx p1.Funcs x22).bind fun u3=>(O5 ({x23 with t:=x24}) u3).bind fun y3=>exC y3 (fun y3=>some (Lp.go (qJ .i64 (x22+1),{y3 with fun_:=x23.fun_},y3.t))) (fun e2=>some (Lp.ret (qK (e2.1,{e2.2 with fun_:=x23.fun_})))))else(some (Lp.brk (x22,{x23 with t:=x24},x24))):Option (Lp (Int×Q0×Z9) (Am (Q0))))) NN ((0:Int),{x11 with t:=x12},x12)).bind fun o=>o.thn (fun(x22,x23,x24)=>(S4 ({x23 with t:=x24}) p1.Funcs).bind fun y4=>exC y4 (fun y4=>(loopM (fun(x34,x35,x36)=>(bif decide (x34<(qQ p1.Funcs:Int))then((idx p1.Funcs x34).bind fun u5=>(Q0j ({x35 with t:=x36}) x34 u5).bind fun y5=>exL y5 (fun y5=>some (Lp.go (qJ .i64 (x34+1),y5,y5.t))))else(some (Lp.brk (x34,{x35 with t:=x36},x36))):Option (Lp (Int×Q0×Z9) (Am (Q0))))) NN ((0:Int),{y4 with fun_:=x23.fun_},y4.t)).bind fun o=>o.thn (fun(x34,x35,x36)=>some (qX ({x35 with t:=x36}))) (fun r=>some r)) (fun e4=>some (qK (e4.1,{e4.2 with fun_:=x23.fun_})))) (fun r=>some r)) (fun r=>some r)) (fun e12=>some (qK (e12.1,{e12.2 with fun_:=p0.fun_})))

def Q2v(p0:U3):Option (Z4a×Pos×Int):=
 (Y4h).bind fun y1=>(Q0x (⟨y1,(⟨[],[],[],0⟩:Z4a),(some []),(some []),[],[],O3.nil⟩:Q0) p0).bind fun y2=>exC y2 (fun y2=>some (y2.u,(⟨0,0⟩:Pos),(0:Int))) (fun e1=>some ((⟨[],[],[],0⟩:Z4a),e1.1.pos,e1.1.e))

def Y5(p0:Z8)(p1:List (Aa)):Option (Z8):=
 (Q1d (qQ p0.l+qQ p1)).bind fun _=>some (⟨p0.l++p1⟩:Z8)

def Q0b(p0:Z8)(p1:K6):Option (Z8):=
 (Y5 p0 ([p1.Word]:List (Aa))).bind fun y1=>jn (fun kk1=>bif decide (p1.Word=([115,116,114,117,99,116]:Aa))then((Y5 y1 ([p1.Name]:List (Aa))).bind fun y2=>kk1 y2)else(kk1 y1)) (fun(x2:Z8)=>(loopM (fun(x4,x5)=>(bif decide (x4<p1.Stars)then((Y5 x5 ([([42]:Aa)]:List (Aa))).bind fun y3=>some (Lp.go (qJ .i64 (x4+1),y3)))else(some (Lp.brk (x4,x5))):Option (Lp (Int×Z8) (Unit)))) NN ((0:Int),x2)).bind fun o=>o.thn (fun(x4,x5)=>some x5) (fun _=>none))

def Q0c(p0:Z8)(p1:Int):Option (Z8):=
 (Q7n (qJ .u64 p1) 10).bind fun y1=>(Y5 p0 ([y1]:List (Aa))).bind fun y2=>some y2

structure Rec7 where
 K0:Z8->Z5->Option (Z8)
 M6:Z8->Z5->(Aa)->Option (Z8)
 G8:Z8->Z5->Option (Z8)
 E2:Z8->(List Z5)->Option (Z8)

def Q2a(G:Rec7)(p0:Z8)(p1:Z5):Option (Z8):=
 jn (fun kk1=>bif p1.Kind==1 then(kk1 (p1.Kind==1))else(bif p1.Kind==2 then(kk1 (p1.Kind==2))else(bif p1.Kind==7 then(kk1 (p1.Kind==7))else(bif p1.Kind==8 then(kk1 (p1.Kind==8))else(bif p1.Kind==9 then(kk1 (p1.Kind==9))else(kk1 (p1.Kind==12))))))) (fun(x1:Bool)=>bif x1 then((G.G8 p0 p1).bind fun y1=>some y1)else((Y5 p0 ([([40]:Aa)]:List (Aa))).bind fun y2=>(G.G8 y2 p1).bind fun y3=>(Y5 y3 ([([41]:Aa)]:List (Aa))).bind fun y4=>some y4))
def Q8g(G:Rec7)(p0:Z8)(p1:Z5)(p2:Aa):Option (Z8):=
 (idx p1.Kids 0).bind fun u1=>(G.K0 p0 u1).bind fun y1=>(Y5 y1 ([p2]:List (Aa))).bind fun y2=>(idx p1.Kids 1).bind fun u2=>(G.K0 y2 u2).bind fun y3=>some y3
def Z0v(G:Rec7)(p0:Z8)(p1:Z5):Option (Z8):=
 bif p1.Kind==1 then((Q0c p0 p1.Num).bind fun y1=>some y1)else(bif p1.Kind==2 then((Y5 p0 ([p1.Name]:List (Aa))).bind fun y2=>some y2)else(jn (fun kk1=>bif p1.Kind==3 then(kk1 (p1.Kind==3))else(kk1 (p1.Kind==10))) (fun(x1:Bool)=>bif x1 then((Y5 p0 ([p1.Op]:List (Aa))).bind fun y3=>(idx p1.Kids 0).bind fun u1=>(G.K0 y3 u1).bind fun y4=>some y4)else(jn (fun kk2=>bif p1.Kind==4 then(kk2 (p1.Kind==4))else(kk2 (p1.Kind==5))) (fun(x2:Bool)=>bif x2 then((G.M6 p0 p1 p1.Op).bind fun y5=>some y5)else(bif p1.Kind==6 then((G.M6 p0 p1 ([63]:Aa)).bind fun y6=>(Y5 y6 ([([58]:Aa)]:List (Aa))).bind fun y7=>(idx p1.Kids 2).bind fun u2=>(G.K0 y7 u2).bind fun y8=>some y8)else(bif p1.Kind==7 then((Y5 p0 ([p1.Name,([40]:Aa)]:List (Aa))).bind fun y9=>(G.E2 y9 p1.Kids).bind fun y10=>(Y5 y10 ([([41]:Aa)]:List (Aa))).bind fun y11=>some y11)else(bif p1.Kind==8 then((idx p1.Kids 0).bind fun u3=>(G.K0 p0 u3).bind fun y12=>(Y5 y12 ([([91]:Aa)]:List (Aa))).bind fun y13=>(idx p1.Kids 1).bind fun u4=>(G.G8 y13 u4).bind fun y14=>(Y5 y14 ([([93]:Aa)]:List (Aa))).bind fun y15=>some y15)else(bif p1.Kind==9 then((idx p1.Kids 0).bind fun u5=>(G.K0 p0 u5).bind fun y16=>(Y5 y16 ([p1.Op,p1.Name]:List (Aa))).bind fun y17=>some y17)else(bif p1.Kind==11 then((idx p1.Kids 0).bind fun u6=>(G.K0 p0 u6).bind fun y18=>(Y5 y18 ([p1.Op]:List (Aa))).bind fun y19=>some y19)else(bif p1.Kind==12 then((Y5 p0 ([([115,105,122,101,111,102]:Aa),([40]:Aa)]:List (Aa))).bind fun y20=>(Q0b y20 p1.Type_).bind fun y21=>(Y5 y21 ([([41]:Aa)]:List (Aa))).bind fun y22=>some y22)else(some p0))))))))))))
def Q4d(G:Rec7)(p0:Z8)(p1:List Z5):Option (Z8):=
 (loopM (fun(x2,x3)=>(bif decide (x2<(qQ p1:Int))then((idx p1 x2).bind fun u1=>jn (fun kk1=>bif decide (0<x2)then((Y5 x3 ([([44]:Aa)]:List (Aa))).bind fun y1=>kk1 y1)else(kk1 x3)) (fun(x5:Z8)=>(G.G8 x5 u1).bind fun y2=>some (Lp.go (qJ .i64 (x2+1),y2))))else(some (Lp.brk (x2,x3))):Option (Lp (Int×Z8) (Unit)))) NN ((0:Int),p0)).bind fun o=>o.thn (fun(x2,x3)=>some x3) (fun _=>none)
def Z9c:Nat->Rec7
 |0=>⟨fun _ _=>none,fun _ _ _=>none,fun _ _=>none,fun _ _=>none⟩
 |n+1=>⟨Q2a (Z9c n),Q8g (Z9c n),Z0v (Z9c n),Q4d (Z9c n)⟩
def K0(p0:Z8)(p1:Z5):Option (Z8):=(Z9c NN).K0 p0 p1
def M6(p0:Z8)(p1:Z5)(p2:Aa):Option (Z8):=(Z9c NN).M6 p0 p1 p2
def G8(p0:Z8)(p1:Z5):Option (Z8):=(Z9c NN).G8 p0 p1
def E2(p0:Z8)(p1:List Z5):Option (Z8):=(Z9c NN).E2 p0 p1

def C4(p0:Z8)(p1:J2):Option (Z8):=
 (Q0b p0 p1.Type_).bind fun y1=>(Y5 y1 ([p1.Name]:List (Aa))).bind fun y2=>(loopM (fun(x2,x3)=>(bif decide (x2<(qQ p1.Dims:Int))then((idx p1.Dims x2).bind fun u1=>(Y5 x3 ([([91]:Aa)]:List (Aa))).bind fun y3=>(Q0c y3 u1).bind fun y4=>(Y5 y4 ([([93]:Aa)]:List (Aa))).bind fun y5=>some (Lp.go (qJ .i64 (x2+1),y5)))else(some (Lp.brk (x2,x3))):Option (Lp (Int×Z8) (Unit)))) NN ((0:Int),y2)).bind fun o=>o.thn (fun(x2,x3)=>bif (qQ p1.Init:Int)==0 then(some x3)else((Y5 x3 ([([61]:Aa)]:List (Aa))).bind fun y6=>jn (fun kk1=>bif p1.Brace then((Y5 y6 ([([123]:Aa)]:List (Aa))).bind fun y7=>kk1 y7)else(kk1 y6)) (fun(x5:Z8)=>(E2 x5 p1.Init).bind fun y8=>bif p1.Brace then((Y5 y8 ([([125]:Aa)]:List (Aa))).bind fun y9=>some y9)else(some y8)))) (fun _=>none)

def W9(p0:Z8)(p1:Aa)(p2:List Z5):Option (Z8):=
 (Y5 p0 ([p1,([40]:Aa)]:List (Aa))).bind fun y1=>(E2 y1 p2).bind fun y2=>(Y5 y2 ([([41]:Aa)]:List (Aa))).bind fun y3=>some y3

def Q5m(p0:Z8)(p1:V8):Option (Z8):=
 jn (fun kk1=>bif p1.Kind==8 then((Y5 p0 ([([114,101,116,117,114,110]:Aa)]:List (Aa))).bind fun y1=>kk1 y1)else(bif p1.Kind==9 then((Y5 p0 ([([98,114,101,97,107]:Aa)]:List (Aa))).bind fun y2=>kk1 y2)else(bif p1.Kind==10 then((Y5 p0 ([([99,111,110,116,105,110,117,101]:Aa)]:List (Aa))).bind fun y3=>kk1 y3)else(kk1 p0)))) (fun(x2:Z8)=>(E2 x2 p1.A).bind fun y4=>(Y5 y4 ([([59]:Aa)]:List (Aa))).bind fun y5=>some y5)

structure Rec8 where
 W8:Z8->(List R5)->Option (Z8)
 B3:Z8->V8->Option (Z8)
 U9:Z8->(List V8)->Option (Z8)

def Q3o(G:Rec8)(p0:Z8)(p1:List R5):Option (Z8):=
 (Y5 p0 ([([123]:Aa)]:List (Aa))).bind fun y1=>(loopM (fun(x2,x3)=>(bif decide (x2<(qQ p1:Int))then((idx p1 x2).bind fun u1=>jn (fun kk1=>bif u1.Default then((Y5 x3 ([([100,101,102,97,117,108,116]:Aa)]:List (Aa))).bind fun y2=>kk1 y2)else((Y5 x3 ([([99,97,115,101]:Aa)]:List (Aa))).bind fun y3=>(Q0c y3 u1.Num).bind fun y4=>kk1 y4)) (fun(x5:Z8)=>(Y5 x5 ([([58]:Aa)]:List (Aa))).bind fun y5=>(loopM (fun(x7,x8)=>(bif decide (x7<(qQ u1.Body:Int))then((idx u1.Body x7).bind fun u2=>(G.B3 x8 u2).bind fun y6=>some (Lp.go (qJ .i64 (x7+1),y6)))else(some (Lp.brk (x7,x8))):Option (Lp (Int×Z8) (Unit)))) NN ((0:Int),y5)).bind fun o=>o.thn (fun(x7,x8)=>some (Lp.go (qJ .i64 (x2+1),x8))) (fun _=>none)))else(some (Lp.brk (x2,x3))):Option (Lp (Int×Z8) (Unit)))) NN ((0:Int),y1)).bind fun o=>o.thn (fun(x2,x3)=>(Y5 x3 ([([125]:Aa)]:List (Aa))).bind fun y7=>some y7) (fun _=>none)
def Z0u(G:Rec8)(p0:Z8)(p1:V8):Option (Z8):=
 bif p1.Kind==2 then((loopM (fun(x2,x3)=>(bif decide (x2<(qQ p1.Var:Int))then((idx p1.Var x2).bind fun u1=>(C4 x3 u1).bind fun y1=>some (Lp.go (qJ .i64 (x2+1),y1)))else(some (Lp.brk (x2,x3))):Option (Lp (Int×Z8) (Unit)))) NN ((0:Int),p0)).bind fun o=>o.thn (fun(x2,x3)=>(Y5 x3 ([([59]:Aa)]:List (Aa))).bind fun y2=>some y2) (fun _=>none))else(bif p1.Kind==3 then((W9 p0 ([105,102]:Aa) p1.A).bind fun y3=>(G.U9 y3 p1.Body).bind fun y4=>bif decide (0<(qQ p1.Else:Int))then((Y5 y4 ([([101,108,115,101]:Aa)]:List (Aa))).bind fun y5=>(G.U9 y5 p1.Else).bind fun y6=>some y6)else(some y4))else(bif p1.Kind==4 then((W9 p0 ([119,104,105,108,101]:Aa) p1.A).bind fun y7=>(G.U9 y7 p1.Body).bind fun y8=>some y8)else(bif p1.Kind==5 then((Y5 p0 ([([100,111]:Aa)]:List (Aa))).bind fun y9=>(G.U9 y9 p1.Body).bind fun y10=>(W9 y10 ([119,104,105,108,101]:Aa) p1.A).bind fun y11=>(Y5 y11 ([([59]:Aa)]:List (Aa))).bind fun y12=>some y12)else(bif p1.Kind==6 then((Y5 p0 ([([102,111,114]:Aa),([40]:Aa)]:List (Aa))).bind fun y13=>(E2 y13 p1.A).bind fun y14=>(Y5 y14 ([([59]:Aa)]:List (Aa))).bind fun y15=>(E2 y15 p1.B).bind fun y16=>(Y5 y16 ([([59]:Aa)]:List (Aa))).bind fun y17=>(E2 y17 p1.C).bind fun y18=>(Y5 y18 ([([41]:Aa)]:List (Aa))).bind fun y19=>(G.U9 y19 p1.Body).bind fun y20=>some y20)else(bif p1.Kind==7 then((W9 p0 ([115,119,105,116,99,104]:Aa) p1.A).bind fun y21=>(G.W8 y21 p1.Cases).bind fun y22=>some y22)else(bif p1.Kind==11 then((G.U9 p0 p1.Body).bind fun y23=>some y23)else((Q5m p0 p1).bind fun y24=>some y24)))))))
def Z0a(G:Rec8)(p0:Z8)(p1:List V8):Option (Z8):=
 (Y5 p0 ([([123]:Aa)]:List (Aa))).bind fun y1=>(loopM (fun(x2,x3)=>(bif decide (x2<(qQ p1:Int))then((idx p1 x2).bind fun u1=>(G.B3 x3 u1).bind fun y2=>some (Lp.go (qJ .i64 (x2+1),y2)))else(some (Lp.brk (x2,x3))):Option (Lp (Int×Z8) (Unit)))) NN ((0:Int),y1)).bind fun o=>o.thn (fun(x2,x3)=>(Y5 x3 ([([125]:Aa)]:List (Aa))).bind fun y3=>some y3) (fun _=>none)
def Y0g:Nat->Rec8
 |0=>⟨fun _ _=>none,fun _ _=>none,fun _ _=>none⟩
 |n+1=>⟨Q3o (Y0g n),Z0u (Y0g n),Z0a (Y0g n)⟩
def W8(p0:Z8)(p1:List R5):Option (Z8):=(Y0g NN).W8 p0 p1
def B3(p0:Z8)(p1:V8):Option (Z8):=(Y0g NN).B3 p0 p1
def U9(p0:Z8)(p1:List V8):Option (Z8):=(Y0g NN).U9 p0 p1

def Z4t(p0:U3):Option ((Aa)):=
 (loopM (fun(x2,x3)=>(bif decide (x2<(qQ p0.Structs:Int))then((idx p0.Structs x2).bind fun u1=>(Y5 x3 ([([115,116,114,117,99,116]:Aa),u1.Name,([123]:Aa)]:List (Aa))).bind fun y1=>(loopM (fun(x5,x6)=>(bif decide (x5<(qQ u1.Fields:Int))then((idx u1.Fields x5).bind fun u2=>(C4 x6 u2).bind fun y2=>(Y5 y2 ([([59]:Aa)]:List (Aa))).bind fun y3=>some (Lp.go (qJ .i64 (x5+1),y3)))else(some (Lp.brk (x5,x6))):Option (Lp (Int×Z8) (Unit)))) NN ((0:Int),y1)).bind fun o=>o.thn (fun(x5,x6)=>(Y5 x6 ([([125]:Aa),([59]:Aa)]:List (Aa))).bind fun y4=>some (Lp.go (qJ .i64 (x2+1),y4))) (fun _=>none))else(some (Lp.brk (x2,x3))):Option (Lp (Int×Z8) (Unit)))) NN ((0:Int),(⟨[]⟩:Z8))).bind fun o=>o.thn (fun(x2,x3)=>(loopM (fun(x8,x9)=>(bif decide (x8<(qQ p0.Globals:Int))then((idx p0.Globals x8).bind fun u3=>(C4 x9 u3).bind fun y5=>(Y5 y5 ([([59]:Aa)]:List (Aa))).bind fun y6=>some (Lp.go (qJ .i64 (x8+1),y6)))else(some (Lp.brk (x8,x9))):Option (Lp (Int×Z8) (Unit)))) NN ((0:Int),x3)).bind fun o=>o.thn (fun(x8,x9)=>(loopM (fun(x11,x12)=>(bif decide (x11<(qQ p0.Funcs:Int))then((idx p0.Funcs x11).bind fun u4=>(Q0b x12 u4.Ret).bind fun y7=>(Y5 y7 ([u4.Name,([40]:Aa)]:List (Aa))).bind fun y8=>(loopM (fun(x14,x15)=>(bif decide (x14<(qQ u4.Params:Int))then((idx u4.Params x14).bind fun u5=>jn (fun kk1=>bif decide (0<x14)then((Y5 x15 ([([44]:Aa)]:List (Aa))).bind fun y9=>kk1 y9)else(kk1 x15)) (fun(x17:Z8)=>(C4 x17 u5).bind fun y10=>some (Lp.go (qJ .i64 (x14+1),y10))))else(some (Lp.brk (x14,x15))):Option (Lp (Int×Z8) (Unit)))) NN ((0:Int),y8)).bind fun o=>o.thn (fun(x14,x15)=>(Y5 x15 ([([41]:Aa)]:List (Aa))).bind fun y11=>(U9 y11 u4.Body).bind fun y12=>some (Lp.go (qJ .i64 (x11+1),y12))) (fun _=>none))else(some (Lp.brk (x11,x12))):Option (Lp (Int×Z8) (Unit)))) NN ((0:Int),x9)).bind fun o=>o.thn (fun(x11,x12)=>(strings_Join x12.l ([32]:Aa)).bind fun y13=>some y13) (fun _=>none)) (fun _=>none)) (fun _=>none)

def Q8y:Option (Bool):=
 (Q5i ([105,110,116,32,109,97,105,110,40,41,32,123,32,105,110,116,32,97,91,50,93,59,32,97,91,49,93,32,61,32,51,59,32,114,101,116,117,114,110,32,97,91,49,93,59,32,125]:Aa)).bind fun y1=>(Q2v y1.1).bind fun y2=>bif (((y1.2.2==0)&&(y2.2.2==0))&&((qQ y2.1.Codes:Int)==1))then((idx y2.1.Codes 0).bind fun u1=>bif (qQ u1.Slots:Int)==1 then((idx y2.1.Codes 0).bind fun u2=>(idx u2.Slots 0).bind fun u3=>bif u3.Size==8 then((idx y2.1.Codes 0).bind fun u4=>some ((qQ u4.Body:Int)==3))else(some false))else(some false))else(some false)

def Z1m(p0:List Q9j)(p1:List Q9j):Option (Bool):=
 bif (qQ p0:Int)!=(qQ p1:Int)then(some false)else((loopM (fun(x1:Int)=>(bif decide (x1<(qQ p0:Int))then((idx p0 x1).bind fun u1=>(idx p1 x1).bind fun u2=>bif u1.Size !=u2.Size then(some (Lp.ret false))else((idx p0 x1).bind fun u3=>(idx p1 x1).bind fun u4=>bif u3.Align !=u4.Align then(some (Lp.ret false))else((idx p0 x1).bind fun u5=>(idx p1 x1).bind fun u6=>bif u5.Cell !=u6.Cell then(some (Lp.ret false))else(some (Lp.go (qJ .i64 (x1+1)))))))else(some (Lp.brk x1)):Option (Lp (Int) (Bool)))) NN (0:Int)).bind fun o=>o.thn (fun(x1:Int)=>some true) (fun r=>some r))

structure Rec9 where
 Q2h:(List Y9)->(List Y9)->Option (Bool)

def Z2c(G:Rec9)(p0:List Y9)(p1:List Y9):Option (Bool):=
 bif (qQ p0:Int)!=(qQ p1:Int)then(some false)else((loopM (fun(x1:Int)=>(bif decide (x1<(qQ p0:Int))then(jn (fun kk1=>(idx p0 x1).bind fun u1=>(idx p1 x1).bind fun u2=>kk1 u1 u2) (fun(x2:Y9)(x3:Y9)=>bif ((((((((x2.Kind !=x3.Kind)||(x2.Fn !=x3.Fn))||(x2.Num !=x3.Num))||(x2.Var !=x3.Var))||(!(x2.Global==x3.Global)))||(x2.Size !=x3.Size))||(!(x2.Post==x3.Post)))||(!(x2.Ptr==x3.Ptr)))then(some (Lp.ret false))else((G.Q2h x2.Kids x3.Kids).bind fun y1=>bif !y1 then(some (Lp.ret false))else(some (Lp.go (qJ .i64 (x1+1)))))))else(some (Lp.brk x1)):Option (Lp (Int) (Bool)))) NN (0:Int)).bind fun o=>o.thn (fun(x1:Int)=>some true) (fun r=>some r))
def rec9:Nat->Rec9
 |0=>⟨fun _ _=>none⟩
 |n+1=>⟨Z2c (rec9 n)⟩
def Q2h(p0:List Y9)(p1:List Y9):Option (Bool):=(rec9 NN).Q2h p0 p1

structure Rec10 where
 W4:(List K4)->(List K4)->Option (Bool)

def Z0i(G:Rec10)(p0:List K4)(p1:List K4):Option (Bool):=
 bif (qQ p0:Int)!=(qQ p1:Int)then(some false)else((loopM (fun(x1:Int)=>(bif decide (x1<(qQ p0:Int))then(jn (fun kk1=>(idx p0 x1).bind fun u1=>(idx p1 x1).bind fun u2=>kk1 u1 u2) (fun(x2:K4)(x3:K4)=>bif (((x2.Kind !=x3.Kind)||(!(x2.First==x3.First)))||(x2.Var !=x3.Var))then(some (Lp.ret false))else((Q2h x2.A x3.A).bind fun y1=>bif !y1 then(some (Lp.ret false))else((Q2h x2.Post x3.Post).bind fun y2=>bif !y2 then(some (Lp.ret false))else((G.W4 x2.Body x3.Body).bind fun y3=>bif !y3 then(some (Lp.ret false))else((G.W4 x2.Else x3.Else).bind fun y4=>bif ((!y4)||((qQ x2.Cases:Int)!=(qQ x3.Cases:Int)))then(some (Lp.ret false))else((loopM (fun(x4:Int)=>(bif decide (x4<(qQ x2.Cases:Int))then(jn (fun kk2=>(idx x2.Cases x4).bind fun u3=>(idx x3.Cases x4).bind fun u4=>kk2 u3 u4) (fun(x5:Q9k)(x6:Q9k)=>bif ((!(x5.Default==x6.Default))||(x5.Num !=x6.Num))then(some (Lp.ret false))else((G.W4 x5.Body x6.Body).bind fun y5=>bif !y5 then(some (Lp.ret false))else(some (Lp.go (qJ .i64 (x4+1)))))))else(some (Lp.brk x4)):Option (Lp (Int) (Bool)))) NN (0:Int)).bind fun o=>o.thn (fun(x4:Int)=>some (Lp.go (qJ .i64 (x1+1)))) (fun r=>some (Lp.ret r)))))))))else(some (Lp.brk x1)):Option (Lp (Int) (Bool)))) NN (0:Int)).bind fun o=>o.thn (fun(x1:Int)=>some true) (fun r=>some r))
def X2j:Nat->Rec10
 |0=>⟨fun _ _=>none⟩
 |n+1=>⟨Z0i (X2j n)⟩
def W4(p0:List K4)(p1:List K4):Option (Bool):=(X2j NN).W4 p0 p1

def Z5c(p0:Z4a)(p1:Z4a):Option (Bool):=
 (Z1m p0.Globals p1.Globals).bind fun y1=>bif ((((!y1)||((qQ p0.Data:Int)!=(qQ p1.Data:Int)))||((qQ p0.Codes:Int)!=(qQ p1.Codes:Int)))||(p0.Main !=p1.Main))then(some false)else((loopM (fun(x1:Int)=>(bif decide (x1<(qQ p0.Data:Int))then((idx p0.Data x1).bind fun u1=>(idx p1.Data x1).bind fun u2=>bif !(decide (Y1i u1=Y1i u2))then(some (Lp.ret false))else(some (Lp.go (qJ .i64 (x1+1)))))else(some (Lp.brk x1)):Option (Lp (Int) (Bool)))) NN (0:Int)).bind fun o=>o.thn (fun(x1:Int)=>(loopM (fun(x2:Int)=>(bif decide (x2<(qQ p0.Codes:Int))then(jn (fun kk1=>(idx p0.Codes x2).bind fun u3=>(idx p1.Codes x2).bind fun u4=>kk1 u3 u4) (fun(x3:Q5b)(x4:Q5b)=>bif ((!(x3.Void==x4.Void))||(x3.Params !=x4.Params))then(some (Lp.ret false))else((Z1m x3.Slots x4.Slots).bind fun y2=>bif !y2 then(some (Lp.ret false))else((W4 x3.Body x4.Body).bind fun y3=>bif !y3 then(some (Lp.ret false))else(some (Lp.go (qJ .i64 (x2+1))))))))else(some (Lp.brk x2)):Option (Lp (Int) (Bool)))) NN (0:Int)).bind fun o=>o.thn (fun(x2:Int)=>some true) (fun r=>some r)) (fun r=>some r))

def Q4l(p0:Aa):Option (Bool):=
 bif decide (4000<(qQ p0:Int))then((Q8y).bind fun y1=>some y1)else((Q5i p0).bind fun y2=>bif y2.2.2 !=0 then((Q8y).bind fun y3=>some y3)else((Z4t y2.1).bind fun y4=>(Q5i y4).bind fun y5=>bif y5.2.2 !=0 then((Q8y).bind fun y6=>some y6)else((Q2v y2.1).bind fun y7=>(Q2v y5.1).bind fun y8=>(Q8y).bind fun y9=>bif (y9&&(y7.2.2==y8.2.2))then((Z5c y7.1 y8.1).bind fun y10=>some y10)else(some false))))
end Go.Proofs.YtjohcgibbiebkaaGreatDoor
