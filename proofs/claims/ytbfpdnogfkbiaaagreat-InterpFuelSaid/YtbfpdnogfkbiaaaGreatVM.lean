/- The models of Go functions: what each computes. Printed by gen2.py. -/
import Derived.Test.YtbfpdnogfkbiaaaGreatVLA
import Derived.Laws.Entries
import Derived.Lib.Index
set_option linter.unusedVariables false
namespace Go.Proofs.YtbfpdnogfkbiaaaGreat
open List renaming length → qQ, set → qP
open IntKind renaming wrap → qJ
open Except renaming error → qK, ok → qX
open Int renaming toNat → qF
open UInt8 renaming toNat → qA
/-- What follows a call whose refusal is handed on. -/
abbrev exE{E F O B:Type}(y:Except (E×F) O)(f:O->Option (Except (E×F) B)):Option (Except (E×F) B):=exC y f (fun e=>some (qK (e.1,e.2)))
abbrev exL{E F O S B:Type}(y:Except (E×F) O)(f:O->Option (Lp S (Except (E×F) B))):Option (Lp S (Except (E×F) B)):=exC y f (fun e=>some (Lp.ret (qK (e.1,e.2))))

def strings_Index(p0 p1:List UInt8):Option Int:=if p0.length<4294967281 then some (Go.Lib.index p0 p1)else none
structure Pos where
 Line:Int
 Col:Int
 deriving DecidableEq
structure M6 where
 Word:List UInt8
 Name:List UInt8
 Stars:Int
 deriving DecidableEq
structure Y8 where
 Kind:Int
 Pos:Pos
 Op:List UInt8
 Name:List UInt8
 Num:Int
 Type_:M6
 Kids:List Y8
structure M7 where
 Pos:Pos
 Type_:M6
 Name:List UInt8
 Dims:List Int
 Init:List Y8
 Brace:Bool
structure Q3k where
 Pos:Pos
 Name:List UInt8
 Fields:List M7
structure X4d(S:Type) where
 Pos:Pos
 Default:Bool
 Num:Int
 Body:List S
structure E5 where
 Kind:Int
 Pos:Pos
 A:List Y8
 B:List Y8
 C:List Y8
 Var:List M7
 Body:List E5
 Else:List E5
 Cases:List (X4d E5)
abbrev Q1e:=X4d E5
structure Q1d where
 Pos:Pos
 Ret:M6
 Name:List UInt8
 Params:List M7
 Body:List E5
structure D4 where
 Structs:List Q3k
 Globals:List M7
 Funcs:List Q1d
structure P6 where
 s:List UInt8
 pos:Pos
 deriving DecidableEq
structure U4 where
 Kind:Int
 Text:List UInt8
 Num:Int
 Pos:Pos
 deriving DecidableEq
structure Z0 where
 l:List U4
 end_:Pos
 depth:Int
 deriving DecidableEq
structure Y3 where
 pos:Pos
 e:Int
 deriving DecidableEq
structure Z3z where
 Name:List UInt8
 Size:Int
 Align:Int
 Cell:Int
 deriving DecidableEq
structure Y6 where
 Kind:Int
 Fn:Int
 Num:Int
 Var:Int
 Global:Bool
 Size:Int
 Post:Bool
 Ptr:Bool
 Kids:List Y6
structure X4y(S:Type) where
 Default:Bool
 Num:Int
 Body:List S
structure K1 where
 Kind:Int
 A:List Y6
 Post:List Y6
 First:Bool
 Body:List K1
 Else:List K1
 Cases:List (X4y K1)
 Var:Int
abbrev Z4l:=X4y K1
structure Q4n where
 Name:List UInt8
 Void:Bool
 Params:Int
 Slots:List Z3z
 Body:List K1
structure Q6a where
 Globals:List Z3z
 Data:List (List Int)
 Codes:List Q4n
 Main:Int
structure K9 where
 Name:List UInt8
 Type_:Int
 At:Int
 deriving DecidableEq
structure Q8v where
 Kind:Int
 Elem:Int
 Len:Int
 Name:List UInt8
 Fields:List K9
 deriving DecidableEq
structure K4 where
 Type_:Q8v
 size:Int
 align:Int
 open_:Bool
 deriving DecidableEq
structure Z7 where
 list:List K4
 deriving DecidableEq
structure A1 where
 ret:Int
 params:List Int
 deriving DecidableEq
structure G5 where
 ret:Int
 slots:List Z3z
 types:List Int
 scopes:List (Option (List ((List UInt8)×Int)))
 loops:Int
 breaks:Int
 deriving DecidableEq
structure Q0 where
 t:Z7
 u:Q6a
 globals:Option (List ((List UInt8)×Int))
 codes:Option (List ((List UInt8)×Int))
 gtypes:List Int
 signs:List A1
 fun_:O3 G5
structure Y2 where
 n:Int
 term:Y6
 lies:Bool
structure Z4 where
 pos:Pos
 e:Int
 deriving DecidableEq
structure P2 where
 Out:List Int
 Ins:Int
 Exit:Int
 E:Int
 deriving DecidableEq
structure O4 where
 data:List Int
 set_:List Bool
 deriving DecidableEq
structure X9 where
 Obj:Int
 Lo:Int
 Hi:Int
 Off:Int
 deriving DecidableEq
structure G4 where
 bytes:O4
 ptrs:Option (List (Int×X9))
 gone:Bool
 deriving DecidableEq
structure Y5 where
 list:List G4
 deriving DecidableEq
structure Y1 where
 Num:Int
 Ptr:X9
 Is:Bool
 deriving DecidableEq
structure Z1 where
 u:Q6a
 mem:Y5
 inputs:List Int
 out:P2
 fuel:Int
 deep:Int
 vars:List X9
 ret:Y1
structure Z3l where
 S:List UInt8
 Inputs:List Int
 N:Int
 More:Int
 deriving DecidableEq


def Q5o(p0:List UInt8)(p1:List UInt8):Option (Bool):=
 bif decide ((qQ p1:Int)<=(qQ p0:Int))then((sub p0 0 (qQ p1:Int)).bind fun u1=>some (decide (u1=p1)))else(some false)

def N9(p0:List UInt8)(p1:List UInt8):Option (Bool):=
 (Q5o p0 p1).bind fun y1=>some y1

def Z0v(p0:Int):Option (Bool):=
 bif p0==32 then(some true)else(bif p0==9 then(some true)else(bif p0==10 then(some true)else(some (p0==13))))

def Y4k(p0:List UInt8):Option (Int):=
 (X5 (fun(x1:Int)=>(bif decide (x1<(qQ p0:Int))then((idx p0 x1).bind fun u1=>(Z0v (qA u1:Int)).bind fun y1=>bif y1 then(some (Lp.go (qJ .i64 (x1+1))))else(some (Lp.brk x1)))else(some (Lp.brk x1)):Option (Lp (Int) (Unit)))) NN (0:Int)).bind fun o=>o.thn (fun(x1:Int)=>some x1) (fun _=>none)

def Z5r(p0:List UInt8):Option (Int):=
 (N9 p0 ([47,47]:List UInt8)).bind fun y1=>bif y1 then((strings_Index p0 ([10]:List UInt8)).bind fun y2=>bif decide (0<=y2)then(some y2)else(some (qQ p0:Int)))else((N9 p0 ([47,42]:List UInt8)).bind fun y3=>bif y3 then((sub p0 2 (qQ p0:Int)).bind fun u1=>(strings_Index u1 ([42,47]:List UInt8)).bind fun y4=>bif decide (y4<0)then(some ((-1):Int))else(some (qJ .i64 (y4+4))))else((Y4k p0).bind fun y5=>some y5))

def O9(p0:P6)(p1:Int):Option (P6):=
 (sub p0.s 0 p1).bind fun u1=>(L1 (qQ u1)).bind fun _=>(X5 (fun(x1,x2)=>(bif decide (x1<(qQ (A2 u1):Int))then(jn (fun kk1=>(idx (A2 u1) x1).bind fun u2=>bif u2==10 then(kk1 (⟨x2.s,(⟨qJ .i64 (x2.pos.Line+1),1⟩:Pos)⟩:P6))else(kk1 (⟨x2.s,(⟨x2.pos.Line,qJ .i64 (x2.pos.Col+1)⟩:Pos)⟩:P6))) (fun(x3:P6)=>some (Lp.go (qJ .i64 (x1+1),x3))))else(some (Lp.brk (x1,x2))):Option (Lp (Int×P6) (Unit)))) NN ((0:Int),p0)).bind fun o=>o.thn (fun(x1,x2)=>(sub x2.s p1 (qQ x2.s:Int)).bind fun u3=>some (⟨u3,x2.pos⟩:P6)) (fun _=>none)

def Z4h(p0:Int):Option (Bool):=
 bif decide (97<=p0)then(bif decide (p0<=122)then(some true)else(bif decide (65<=p0)then(bif decide (p0<=90)then(some true)else(some (p0==95)))else(some (p0==95))))else(bif decide (65<=p0)then(bif decide (p0<=90)then(some true)else(some (p0==95)))else(some (p0==95)))

def Z4i(p0:Int):Option (Bool):=
 bif decide (48<=p0)then(some (decide (p0<=57)))else(some false)

def Y1l(p0:Int):Option (Bool):=
 (Z4h p0).bind fun y1=>bif y1 then(some true)else((Z4i p0).bind fun y2=>some y2)

def Z5z(p0:List UInt8):Option (Int):=
 (X5 (fun(x1:Int)=>(bif decide (x1<(qQ p0:Int))then((idx p0 x1).bind fun u1=>(Y1l (qA u1:Int)).bind fun y1=>bif y1 then(some (Lp.go (qJ .i64 (x1+1))))else(some (Lp.brk x1)))else(some (Lp.brk x1)):Option (Lp (Int) (Unit)))) NN (0:Int)).bind fun o=>o.thn (fun(x1:Int)=>some x1) (fun _=>none)

def Y1o(p0:List UInt8):Option (Bool):=
 jn (fun kk1=>bif decide (p0=([98,114,101,97,107]:List UInt8))then(kk1 (decide (p0=([98,114,101,97,107]:List UInt8))))else(bif decide (p0=([99,97,115,101]:List UInt8))then(kk1 (decide (p0=([99,97,115,101]:List UInt8))))else(bif decide (p0=([99,104,97,114]:List UInt8))then(kk1 (decide (p0=([99,104,97,114]:List UInt8))))else(bif decide (p0=([99,111,110,116,105,110,117,101]:List UInt8))then(kk1 (decide (p0=([99,111,110,116,105,110,117,101]:List UInt8))))else(bif decide (p0=([100,101,102,97,117,108,116]:List UInt8))then(kk1 (decide (p0=([100,101,102,97,117,108,116]:List UInt8))))else(bif decide (p0=([100,111]:List UInt8))then(kk1 (decide (p0=([100,111]:List UInt8))))else(bif decide (p0=([101,108,115,101]:List UInt8))then(kk1 (decide (p0=([101,108,115,101]:List UInt8))))else(bif decide (p0=([102,111,114]:List UInt8))then(kk1 (decide (p0=([102,111,114]:List UInt8))))else(bif decide (p0=([105,102]:List UInt8))then(kk1 (decide (p0=([105,102]:List UInt8))))else(bif decide (p0=([105,110]:List UInt8))then(kk1 (decide (p0=([105,110]:List UInt8))))else(bif decide (p0=([105,110,116]:List UInt8))then(kk1 (decide (p0=([105,110,116]:List UInt8))))else(bif decide (p0=([111,117,116]:List UInt8))then(kk1 (decide (p0=([111,117,116]:List UInt8))))else(bif decide (p0=([114,101,116,117,114,110]:List UInt8))then(kk1 (decide (p0=([114,101,116,117,114,110]:List UInt8))))else(bif decide (p0=([115,105,122,101,111,102]:List UInt8))then(kk1 (decide (p0=([115,105,122,101,111,102]:List UInt8))))else(bif decide (p0=([115,116,114,117,99,116]:List UInt8))then(kk1 (decide (p0=([115,116,114,117,99,116]:List UInt8))))else(bif decide (p0=([115,119,105,116,99,104]:List UInt8))then(kk1 (decide (p0=([115,119,105,116,99,104]:List UInt8))))else(bif decide (p0=([118,111,105,100]:List UInt8))then(kk1 (decide (p0=([118,111,105,100]:List UInt8))))else(kk1 (decide (p0=([119,104,105,108,101]:List UInt8))))))))))))))))))))) (fun(x1:Bool)=>bif x1 then(some true)else(some false))

def Q9y(p0:Int):Option (Int):=
 (Z4i p0).bind fun y1=>bif y1 then(some (qJ .u64 (qJ .u8 (p0-48))))else(bif decide (97<=p0)then(bif decide (p0<=102)then(some (qJ .u64 ((qJ .u64 (qJ .u8 (p0-97)))+10)))else(bif decide (65<=p0)then(bif decide (p0<=70)then(some (qJ .u64 ((qJ .u64 (qJ .u8 (p0-65)))+10)))else(some (4294967295:Int)))else(some (4294967295:Int))))else(bif decide (65<=p0)then(bif decide (p0<=70)then(some (qJ .u64 ((qJ .u64 (qJ .u8 (p0-65)))+10)))else(some (4294967295:Int)))else(some (4294967295:Int))))

def Z8s(p0:List UInt8):Option (U4×Int):=
 (Z5z p0).bind fun y1=>(sub p0 0 y1).bind fun u1=>jn (fun kk1=>(N9 u1 ([48,120]:List UInt8)).bind fun y2=>bif y2 then((sub u1 2 (qQ u1:Int)).bind fun u3=>kk1 u3 (16:Int))else((N9 u1 ([48,88]:List UInt8)).bind fun y3=>bif y3 then((sub u1 2 (qQ u1:Int)).bind fun u2=>kk1 u2 (16:Int))else(kk1 u1 (10:Int)))) (fun(x1:List UInt8)(x2:Int)=>bif decide (x1=([]:List UInt8))then(some ((⟨0,([]:List UInt8),0,(⟨0,0⟩:Pos)⟩:U4),(3:Int)))else((L1 (qQ x1)).bind fun _=>(X5 (fun(x3,x4,x5)=>(bif decide (x5<(qQ (A2 x1):Int))then(jn (fun kk2=>(idx (A2 x1) x5).bind fun u4=>(Q9y u4).bind fun y4=>bif decide (x2<=y4)then(some (Lp.ret ((⟨0,([]:List UInt8),0,(⟨0,0⟩:Pos)⟩:U4),(3:Int))))else((Q9y u4).bind fun y5=>bif decide (4294967295<(qJ .u64 ((qJ .u64 (x3*x2))+y5)))then(kk2 (4294967295:Int) true)else(kk2 (qJ .u64 ((qJ .u64 (x3*x2))+y5)) x4))) (fun(x6:Int)(x7:Bool)=>some (Lp.go (x6,x7,qJ .i64 (x5+1)))))else(some (Lp.brk (x3,x4,x5))):Option (Lp (Int×Bool×Int) (U4×Int)))) NN ((0:Int),false,(0:Int))).bind fun o=>o.thn (fun(x3,x4,x5)=>bif x4 then(some ((⟨0,([]:List UInt8),0,(⟨0,0⟩:Pos)⟩:U4),(7:Int)))else(some ((⟨3,u1,qJ .u32 x3,(⟨0,0⟩:Pos)⟩:U4),(0:Int)))) (fun r=>some r)))

def Z6b(p0:Int):Option (Int×Bool):=
 bif p0==110 then(some ((10:Int),true))else(bif p0==116 then(some ((9:Int),true))else(bif p0==114 then(some ((13:Int),true))else(bif p0==48 then(some ((0:Int),true))else(jn (fun kk1=>bif p0==92 then(kk1 (p0==92))else(kk1 (p0==39))) (fun(x1:Bool)=>bif x1 then(some (p0,true))else(some ((0:Int),false)))))))

def Z7r(p0:List UInt8):Option (U4×Int):=
 bif decide (4<=(qQ p0:Int))then((idx p0 1).bind fun u1=>bif (qA u1:Int)==92 then((idx p0 3).bind fun u2=>bif (qA u2:Int)==39 then((idx p0 2).bind fun u3=>(Z6b (qA u3:Int)).bind fun y1=>bif y1.2 then((sub p0 0 4).bind fun u4=>some ((⟨3,u4,qJ .u32 y1.1,(⟨0,0⟩:Pos)⟩:U4),(0:Int)))else(some ((⟨0,([]:List UInt8),0,(⟨0,0⟩:Pos)⟩:U4),(3:Int))))else(bif decide (3<=(qQ p0:Int))then((idx p0 2).bind fun u5=>bif (qA u5:Int)==39 then((idx p0 1).bind fun u6=>bif decide (32<=(qA u6:Int))then((idx p0 1).bind fun u7=>bif decide ((qA u7:Int)<=126)then((idx p0 1).bind fun u8=>bif (qA u8:Int)!=39 then((idx p0 1).bind fun u9=>bif (qA u9:Int)!=92 then((sub p0 0 3).bind fun u10=>(idx p0 1).bind fun u11=>some ((⟨3,u10,qJ .u32 (qA u11:Int),(⟨0,0⟩:Pos)⟩:U4),(0:Int)))else(some ((⟨0,([]:List UInt8),0,(⟨0,0⟩:Pos)⟩:U4),(3:Int))))else(some ((⟨0,([]:List UInt8),0,(⟨0,0⟩:Pos)⟩:U4),(3:Int))))else(some ((⟨0,([]:List UInt8),0,(⟨0,0⟩:Pos)⟩:U4),(3:Int))))else(some ((⟨0,([]:List UInt8),0,(⟨0,0⟩:Pos)⟩:U4),(3:Int))))else(some ((⟨0,([]:List UInt8),0,(⟨0,0⟩:Pos)⟩:U4),(3:Int))))else(some ((⟨0,([]:List UInt8),0,(⟨0,0⟩:Pos)⟩:U4),(3:Int)))))else(bif decide (3<=(qQ p0:Int))then((idx p0 2).bind fun u12=>bif (qA u12:Int)==39 then((idx p0 1).bind fun u13=>bif decide (32<=(qA u13:Int))then((idx p0 1).bind fun u14=>bif decide ((qA u14:Int)<=126)then((idx p0 1).bind fun u15=>bif (qA u15:Int)!=39 then((idx p0 1).bind fun u16=>bif (qA u16:Int)!=92 then((sub p0 0 3).bind fun u17=>(idx p0 1).bind fun u18=>some ((⟨3,u17,qJ .u32 (qA u18:Int),(⟨0,0⟩:Pos)⟩:U4),(0:Int)))else(some ((⟨0,([]:List UInt8),0,(⟨0,0⟩:Pos)⟩:U4),(3:Int))))else(some ((⟨0,([]:List UInt8),0,(⟨0,0⟩:Pos)⟩:U4),(3:Int))))else(some ((⟨0,([]:List UInt8),0,(⟨0,0⟩:Pos)⟩:U4),(3:Int))))else(some ((⟨0,([]:List UInt8),0,(⟨0,0⟩:Pos)⟩:U4),(3:Int))))else(some ((⟨0,([]:List UInt8),0,(⟨0,0⟩:Pos)⟩:U4),(3:Int))))else(some ((⟨0,([]:List UInt8),0,(⟨0,0⟩:Pos)⟩:U4),(3:Int)))))else(bif decide (3<=(qQ p0:Int))then((idx p0 2).bind fun u19=>bif (qA u19:Int)==39 then((idx p0 1).bind fun u20=>bif decide (32<=(qA u20:Int))then((idx p0 1).bind fun u21=>bif decide ((qA u21:Int)<=126)then((idx p0 1).bind fun u22=>bif (qA u22:Int)!=39 then((idx p0 1).bind fun u23=>bif (qA u23:Int)!=92 then((sub p0 0 3).bind fun u24=>(idx p0 1).bind fun u25=>some ((⟨3,u24,qJ .u32 (qA u25:Int),(⟨0,0⟩:Pos)⟩:U4),(0:Int)))else(some ((⟨0,([]:List UInt8),0,(⟨0,0⟩:Pos)⟩:U4),(3:Int))))else(some ((⟨0,([]:List UInt8),0,(⟨0,0⟩:Pos)⟩:U4),(3:Int))))else(some ((⟨0,([]:List UInt8),0,(⟨0,0⟩:Pos)⟩:U4),(3:Int))))else(some ((⟨0,([]:List UInt8),0,(⟨0,0⟩:Pos)⟩:U4),(3:Int))))else(some ((⟨0,([]:List UInt8),0,(⟨0,0⟩:Pos)⟩:U4),(3:Int))))else(some ((⟨0,([]:List UInt8),0,(⟨0,0⟩:Pos)⟩:U4),(3:Int))))

def Y1m(p0:List UInt8):Option ((List UInt8)):=
 (X5 (fun(x1:Int)=>(bif decide (x1<45)then((idx ([([60,60,61]:List UInt8),([62,62,61]:List UInt8),([45,62]:List UInt8),([43,43]:List UInt8),([45,45]:List UInt8),([60,60]:List UInt8),([62,62]:List UInt8),([60,61]:List UInt8),([62,61]:List UInt8),([61,61]:List UInt8),([33,61]:List UInt8),([38,38]:List UInt8),([124,124]:List UInt8),([43,61]:List UInt8),([45,61]:List UInt8),([42,61]:List UInt8),([47,61]:List UInt8),([37,61]:List UInt8),([38,61]:List UInt8),([124,61]:List UInt8),([94,61]:List UInt8),([43]:List UInt8),([45]:List UInt8),([42]:List UInt8),([47]:List UInt8),([37]:List UInt8),([38]:List UInt8),([124]:List UInt8),([94]:List UInt8),([126]:List UInt8),([33]:List UInt8),([60]:List UInt8),([62]:List UInt8),([61]:List UInt8),([63]:List UInt8),([58]:List UInt8),([59]:List UInt8),([44]:List UInt8),([46]:List UInt8),([40]:List UInt8),([41]:List UInt8),([91]:List UInt8),([93]:List UInt8),([123]:List UInt8),([125]:List UInt8)]:List (List UInt8)) x1).bind fun u1=>(N9 p0 u1).bind fun y1=>bif y1 then(some (Lp.ret u1))else(some (Lp.go (qJ .i64 (x1+1)))))else(some (Lp.brk x1)):Option (Lp (Int) ((List UInt8))))) NN (0:Int)).bind fun o=>o.thn (fun(x1:Int)=>some ([]:List UInt8)) (fun r=>some r)

def Z5q(p0:List UInt8):Option (U4×Int):=
 (idx p0 0).bind fun u1=>(Z4h (qA u1:Int)).bind fun y1=>bif y1 then((Z5z p0).bind fun y2=>(sub p0 0 y2).bind fun u2=>bif decide (31<y2)then(some ((⟨1,u2,0,(⟨0,0⟩:Pos)⟩:U4),(2:Int)))else(jn (fun kk1=>(Y1o u2).bind fun y3=>bif y3 then(kk1 (⟨2,u2,0,(⟨0,0⟩:Pos)⟩:U4))else(kk1 (⟨1,u2,0,(⟨0,0⟩:Pos)⟩:U4))) (fun(x1:U4)=>some (x1,(0:Int)))))else((idx p0 0).bind fun u3=>(Z4i (qA u3:Int)).bind fun y4=>bif y4 then((Z8s p0).bind fun y5=>some (y5.1,y5.2))else((idx p0 0).bind fun u4=>bif (qA u4:Int)==39 then((Z7r p0).bind fun y6=>some (y6.1,y6.2))else((Y1m p0).bind fun y7=>bif decide (y7=([]:List UInt8))then(some ((⟨0,([]:List UInt8),0,(⟨0,0⟩:Pos)⟩:U4),(3:Int)))else(some ((⟨4,y7,0,(⟨0,0⟩:Pos)⟩:U4),(0:Int))))))

def Y4p(p0:List UInt8):Option ((List U4)×Pos×Int):=
 bif decide (65536<(qQ p0:Int))then(some ([],(⟨1,1⟩:Pos),(2:Int)))else((X5 (fun(x1,x2)=>(bif !(decide (x2.s=([]:List UInt8)))then((Z5r x2.s).bind fun y1=>bif decide (y1<0)then(some (Lp.ret ([],x2.pos,(3:Int))))else(bif decide (0<y1)then((O9 x2 y1).bind fun y2=>some (Lp.go (x1,y2)))else((Z5q x2.s).bind fun y3=>bif y3.2 !=0 then(some (Lp.ret ([],x2.pos,y3.2)))else((L1 (qQ x1+qQ ([{y3.1 with Pos:=x2.pos}]:List U4))).bind fun _=>(O9 x2 (qQ y3.1.Text:Int)).bind fun y4=>some (Lp.go (x1++([{y3.1 with Pos:=x2.pos}]:List U4),y4))))))else(some (Lp.brk (x1,x2))):Option (Lp ((List U4)×P6) ((List U4)×Pos×Int)))) NN ([],(⟨p0,(⟨1,1⟩:Pos)⟩:P6))).bind fun o=>o.thn (fun(x1,x2)=>some (x1,x2.pos,(0:Int))) (fun r=>some r))

def F7(p0:Z0):Option (Pos):=
 bif (qQ p0.l:Int)==0 then(some p0.end_)else((idx p0.l 0).bind fun u1=>some u1.Pos)

def I4(p0:Z0)(p1:Int)(p2:List UInt8):Option (Bool):=
 bif decide (p1<(qQ p0.l:Int))then((idx p0.l p1).bind fun u1=>bif decide (u1.Text=p2)then((idx p0.l p1).bind fun u2=>bif u2.Kind==2 then(some true)else((idx p0.l p1).bind fun u3=>some (u3.Kind==4)))else(some false))else(some false)

def U5(p0:Z0)(p1:List UInt8):Option (Bool):=
 (I4 p0 0 p1).bind fun y1=>some y1

def X7(p0:Z0)(p1:List UInt8):Option (Bool×Z0):=
 (U5 p0 p1).bind fun y1=>bif !y1 then(some (false,p0))else((sub p0.l 1 (qQ p0.l:Int)).bind fun u1=>some (true,{p0 with l:=u1}))

def W9(p0:Z0)(p1:Int):Option (Except (Y3) (Unit)):=
 (F7 p0).bind fun y1=>some (qK (⟨y1,p1⟩:Y3))

def X3(p0:Z0)(p1:List UInt8):Option (Except (Y3×Z0) (Z0)):=
 (X7 p0 p1).bind fun y1=>bif !y1.1 then((W9 y1.2 3).bind fun y2=>exC y2 (fun y2=>some (qX y1.2)) (fun e1=>some (qK (e1,y1.2))))else(some (qX y1.2))

def H0(p0:Z0)(p1:Int):Option (Except (Y3×Z0) (U4×Z0)):=
 jn (fun kk1=>bif (qQ p0.l:Int)==0 then((W9 p0 3).bind fun y2=>exC y2 (fun y2=>kk1 ()) (fun e2=>some (qK (e2,p0))))else((idx p0.l 0).bind fun u1=>bif u1.Kind !=p1 then((W9 p0 3).bind fun y1=>exC y1 (fun y1=>kk1 ()) (fun e1=>some (qK (e1,p0))))else(kk1 ()))) (fun(_:Unit)=>(idx p0.l 0).bind fun u4=>(sub p0.l 1 (qQ p0.l:Int)).bind fun u5=>some (qX (u4,{p0 with l:=u5})))

def G7(p0:Z0):Option (Except (Y3×Z0) ((List UInt8)×Z0)):=
 (H0 p0 1).bind fun y1=>exE y1 (fun y1=>some (qX (y1.1.Text,y1.2)))

def Q2r(p0:Z0):Option (Bool):=
 (U5 p0 ([105,110,116]:List UInt8)).bind fun y1=>bif y1 then(some true)else((U5 p0 ([99,104,97,114]:List UInt8)).bind fun y2=>bif y2 then(some true)else((U5 p0 ([118,111,105,100]:List UInt8)).bind fun y3=>bif y3 then(some true)else((U5 p0 ([115,116,114,117,99,116]:List UInt8)).bind fun y4=>some y4)))

def F3(p0:Z0):Option (Except (Y3×Z0) (M6×Z0)):=
 jn (fun kk1=>(Q2r p0).bind fun y1=>bif !y1 then((W9 p0 3).bind fun y2=>exC y2 (fun y2=>kk1 ()) (fun e1=>some (qK (e1,p0))))else(kk1 ())) (fun(_:Unit)=>(idx p0.l 0).bind fun u2=>(sub p0.l 1 (qQ p0.l:Int)).bind fun u3=>jn (fun kk2=>bif decide (u2.Text=([115,116,114,117,99,116]:List UInt8))then((G7 ({p0 with l:=u3})).bind fun y3=>exE y3 (fun y3=>kk2 (⟨u2.Text,y3.1,0⟩:M6) y3.2))else(kk2 (⟨u2.Text,([]:List UInt8),0⟩:M6) ({p0 with l:=u3}))) (fun(x1:M6)(x2:Z0)=>(X5 (fun(x3,x4)=>((X7 x4 ([42]:List UInt8)).bind fun y4=>bif y4.1 then(some (Lp.go ({x3 with Stars:=qJ .i64 (x3.Stars+1)},y4.2)))else(some (Lp.brk (x3,y4.2))):Option (Lp (M6×Z0) (Unit)))) NN (x1,x2)).bind fun o=>o.thn (fun(x3,x4)=>some (qX (x3,x4))) (fun _=>none)))

def Q4o(p0:Z0):Option (Except (Y3×Z0) ((List Int)×Z0)):=
 (X5 (fun(x1,x2)=>((X7 x2 ([91]:List UInt8)).bind fun y1=>bif y1.1 then((H0 y1.2 3).bind fun y2=>exL y2 (fun y2=>(L1 (qQ x1+qQ ([y2.1.Num]:List Int))).bind fun _=>(X3 y2.2 ([93]:List UInt8)).bind fun y3=>exL y3 (fun y3=>some (Lp.go (x1++([y2.1.Num]:List Int),y3)))))else(some (Lp.brk (x1,y1.2))):Option (Lp ((List Int)×Z0) (Except (Y3×Z0) ((List Int)×Z0))))) NN ([],p0)).bind fun o=>o.thn (fun(x1,x2)=>some (qX (x1,x2))) (fun r=>some r)

def Q4w(p0:Z0):Option (Except (Y3×Z0) ((List M7)×Z0)):=
 (X3 p0 ([123]:List UInt8)).bind fun y1=>exE y1 (fun y1=>(X5 (fun(x1,x2)=>((X7 x2 ([125]:List UInt8)).bind fun y2=>bif !y2.1 then((F7 y2.2).bind fun y3=>(F3 y2.2).bind fun y4=>exL y4 (fun y4=>(G7 y4.2).bind fun y5=>exL y5 (fun y5=>(Q4o y5.2).bind fun y6=>exL y6 (fun y6=>(X3 y6.2 ([59]:List UInt8)).bind fun y7=>exL y7 (fun y7=>(L1 (qQ x1+qQ ([(⟨y3,y4.1,y5.1,y6.1,[],false⟩:M7)]:List M7))).bind fun _=>some (Lp.go (x1++([(⟨y3,y4.1,y5.1,y6.1,[],false⟩:M7)]:List M7),y7)))))))else(some (Lp.brk (x1,y2.2))):Option (Lp ((List M7)×Z0) (Except (Y3×Z0) ((List M7)×Z0))))) NN ([],y1)).bind fun o=>o.thn (fun(x1,x2)=>(X3 x2 ([59]:List UInt8)).bind fun y8=>exE y8 (fun y8=>some (qX (x1,y8)))) (fun r=>some r))

def C7(p0:Z0):Option (Except (Y3×Z0) (Z0)):=
 jn (fun kk1=>bif p0.depth==200 then((W9 p0 2).bind fun y1=>exC y1 (fun y1=>kk1 ()) (fun e1=>some (qK (e1,p0))))else(kk1 ())) (fun(_:Unit)=>some (qX ({p0 with depth:=qJ .i64 (p0.depth+1)})))

def B8(p0:Z0):Option ((List UInt8)):=
 bif (qQ p0.l:Int)==0 then(some ([]:List UInt8))else((idx p0.l 0).bind fun u1=>bif u1.Kind !=4 then(some ([]:List UInt8))else((idx p0.l 0).bind fun u2=>some u2.Text))

def J9(p0:Z0)(p1:Int):Option (Y8×Z0):=
 (F7 p0).bind fun y1=>(B8 p0).bind fun y2=>(sub p0.l 1 (qQ p0.l:Int)).bind fun u1=>some ((⟨p1,y1,y2,([]:List UInt8),0,(⟨([]:List UInt8),([]:List UInt8),0⟩:M6),[]⟩:Y8),{p0 with l:=u1})

def Z5n(p0:List UInt8):Option (Int):=
 bif decide (p0=([124,124]:List UInt8))then(some (1:Int))else(bif decide (p0=([38,38]:List UInt8))then(some (2:Int))else(bif decide (p0=([124]:List UInt8))then(some (3:Int))else(bif decide (p0=([94]:List UInt8))then(some (4:Int))else(bif decide (p0=([38]:List UInt8))then(some (5:Int))else(jn (fun kk1=>bif decide (p0=([61,61]:List UInt8))then(kk1 (decide (p0=([61,61]:List UInt8))))else(kk1 (decide (p0=([33,61]:List UInt8))))) (fun(x1:Bool)=>bif x1 then(some (6:Int))else(jn (fun kk2=>bif decide (p0=([60]:List UInt8))then(kk2 (decide (p0=([60]:List UInt8))))else(bif decide (p0=([62]:List UInt8))then(kk2 (decide (p0=([62]:List UInt8))))else(bif decide (p0=([60,61]:List UInt8))then(kk2 (decide (p0=([60,61]:List UInt8))))else(kk2 (decide (p0=([62,61]:List UInt8))))))) (fun(x2:Bool)=>bif x2 then(some (7:Int))else(jn (fun kk3=>bif decide (p0=([60,60]:List UInt8))then(kk3 (decide (p0=([60,60]:List UInt8))))else(kk3 (decide (p0=([62,62]:List UInt8))))) (fun(x3:Bool)=>bif x3 then(some (8:Int))else(jn (fun kk4=>bif decide (p0=([43]:List UInt8))then(kk4 (decide (p0=([43]:List UInt8))))else(kk4 (decide (p0=([45]:List UInt8))))) (fun(x4:Bool)=>bif x4 then(some (9:Int))else(jn (fun kk5=>bif decide (p0=([42]:List UInt8))then(kk5 (decide (p0=([42]:List UInt8))))else(bif decide (p0=([47]:List UInt8))then(kk5 (decide (p0=([47]:List UInt8))))else(kk5 (decide (p0=([37]:List UInt8)))))) (fun(x5:Bool)=>bif x5 then(some (10:Int))else(some (0:Int))))))))))))))))

def Z0l(p0:Z0):Option (Z0):=
 some ({p0 with depth:=qJ .i64 (p0.depth-1)})

def Z1g(p0:List UInt8):Option (Bool):=
 jn (fun kk1=>bif decide (p0=([61]:List UInt8))then(kk1 (decide (p0=([61]:List UInt8))))else(bif decide (p0=([43,61]:List UInt8))then(kk1 (decide (p0=([43,61]:List UInt8))))else(bif decide (p0=([45,61]:List UInt8))then(kk1 (decide (p0=([45,61]:List UInt8))))else(bif decide (p0=([42,61]:List UInt8))then(kk1 (decide (p0=([42,61]:List UInt8))))else(bif decide (p0=([47,61]:List UInt8))then(kk1 (decide (p0=([47,61]:List UInt8))))else(bif decide (p0=([37,61]:List UInt8))then(kk1 (decide (p0=([37,61]:List UInt8))))else(bif decide (p0=([38,61]:List UInt8))then(kk1 (decide (p0=([38,61]:List UInt8))))else(bif decide (p0=([124,61]:List UInt8))then(kk1 (decide (p0=([124,61]:List UInt8))))else(bif decide (p0=([94,61]:List UInt8))then(kk1 (decide (p0=([94,61]:List UInt8))))else(bif decide (p0=([60,60,61]:List UInt8))then(kk1 (decide (p0=([60,60,61]:List UInt8))))else(kk1 (decide (p0=([62,62,61]:List UInt8)))))))))))))) (fun(x1:Bool)=>bif x1 then(some true)else(some false))

structure Y0j where
 J0:Z0->Option (Except (Y3×Z0) ((List Y8)×Z0))
 E7:Z0->Option (Except (Y3×Z0) ((List Y8)×Z0))
 H6:Z0->Option (Except (Y3×Z0) (Y8×Z0))
 A9:Z0->Option (Except (Y3×Z0) (Y8×Z0))
 E0:Z0->Option (Except (Y3×Z0) (Y8×Z0))
 E8:Z0->Int->Option (Except (Y3×Z0) (Y8×Z0))
 N8:Z0->Option (Except (Y3×Z0) (Y8×Z0))
 V1:Z0->Option (Except (Y3×Z0) (Y8×Z0))

def Q0a(G:Y0j)(p0:Z0):Option (Except (Y3×Z0) ((List Y8)×Z0)):=
 (X3 p0 ([40]:List UInt8)).bind fun y1=>exE y1 (fun y1=>(G.V1 y1).bind fun y2=>exE y2 (fun y2=>(X3 y2.2 ([41]:List UInt8)).bind fun y3=>exE y3 (fun y3=>some (qX (([y2.1]:List Y8),y3)))))
def Q2a(G:Y0j)(p0:Z0):Option (Except (Y3×Z0) ((List Y8)×Z0)):=
 (X3 p0 ([40]:List UInt8)).bind fun y1=>exE y1 (fun y1=>(X7 y1 ([41]:List UInt8)).bind fun y2=>bif y2.1 then(some (qX ([],y2.2)))else((G.V1 y2.2).bind fun y3=>exE y3 (fun y3=>(X5 (fun(x1,x2)=>((X7 x2 ([44]:List UInt8)).bind fun y4=>bif y4.1 then((G.V1 y4.2).bind fun y5=>exL y5 (fun y5=>(L1 (qQ x1+qQ ([y5.1]:List Y8))).bind fun _=>some (Lp.go (x1++([y5.1]:List Y8),y5.2))))else(some (Lp.brk (x1,y4.2))):Option (Lp ((List Y8)×Z0) (Except (Y3×Z0) ((List Y8)×Z0))))) NN (([y3.1]:List Y8),y3.2)).bind fun o=>o.thn (fun(x1,x2)=>(X3 x2 ([41]:List UInt8)).bind fun y6=>exE y6 (fun y6=>some (qX (x1,y6)))) (fun r=>some r))))
def Q3q(G:Y0j)(p0:Z0):Option (Except (Y3×Z0) (Y8×Z0)):=
 (F7 p0).bind fun y1=>jn (fun kk1=>(X7 p0 ([40]:List UInt8)).bind fun y2=>bif y2.1 then((G.V1 y2.2).bind fun y3=>exE y3 (fun y3=>(X3 y3.2 ([41]:List UInt8)).bind fun y4=>exE y4 (fun y4=>kk1 y3.1 y4)))else((X7 y2.2 ([105,110]:List UInt8)).bind fun y5=>bif y5.1 then((X3 y5.2 ([40]:List UInt8)).bind fun y6=>exE y6 (fun y6=>(X3 y6 ([41]:List UInt8)).bind fun y7=>exE y7 (fun y7=>kk1 (⟨7,y1,([]:List UInt8),([105,110]:List UInt8),0,(⟨([]:List UInt8),([]:List UInt8),0⟩:M6),[]⟩:Y8) y7)))else((X7 y5.2 ([111,117,116]:List UInt8)).bind fun y8=>bif y8.1 then((G.J0 y8.2).bind fun y9=>exE y9 (fun y9=>kk1 (⟨7,y1,([]:List UInt8),([111,117,116]:List UInt8),0,(⟨([]:List UInt8),([]:List UInt8),0⟩:M6),y9.1⟩:Y8) y9.2))else(bif decide (0<(qQ y8.2.l:Int))then((idx y8.2.l 0).bind fun u6=>bif u6.Kind==3 then((H0 y8.2 3).bind fun y10=>exE y10 (fun y10=>kk1 (⟨1,y1,([]:List UInt8),([]:List UInt8),y10.1.Num,(⟨([]:List UInt8),([]:List UInt8),0⟩:M6),[]⟩:Y8) y10.2))else((G7 y8.2).bind fun y11=>exE y11 (fun y11=>(U5 y11.2 ([40]:List UInt8)).bind fun y12=>bif y12 then((G.E7 y11.2).bind fun y13=>exE y13 (fun y13=>kk1 (⟨7,y1,([]:List UInt8),y11.1,0,(⟨([]:List UInt8),([]:List UInt8),0⟩:M6),y13.1⟩:Y8) y13.2))else(kk1 (⟨2,y1,([]:List UInt8),y11.1,0,(⟨([]:List UInt8),([]:List UInt8),0⟩:M6),[]⟩:Y8) y11.2))))else((G7 y8.2).bind fun y14=>exE y14 (fun y14=>(U5 y14.2 ([40]:List UInt8)).bind fun y15=>bif y15 then((G.E7 y14.2).bind fun y16=>exE y16 (fun y16=>kk1 (⟨7,y1,([]:List UInt8),y14.1,0,(⟨([]:List UInt8),([]:List UInt8),0⟩:M6),y16.1⟩:Y8) y16.2))else(kk1 (⟨2,y1,([]:List UInt8),y14.1,0,(⟨([]:List UInt8),([]:List UInt8),0⟩:M6),[]⟩:Y8) y14.2))))))) (fun(x1:Y8)(x2:Z0)=>some (qX (x1,x2)))
def Q4v(G:Y0j)(p0:Z0):Option (Except (Y3×Z0) (Y8×Z0)):=
 (G.H6 p0).bind fun y1=>exE y1 (fun y1=>(X5 (fun(x1,x2)=>(jn (fun kk1=>(B8 x2).bind fun y2=>bif decide (y2=([91]:List UInt8))then((J9 x2 8).bind fun y3=>(G.V1 y3.2).bind fun y4=>exL y4 (fun y4=>(X3 y4.2 ([93]:List UInt8)).bind fun y5=>exL y5 (fun y5=>kk1 ({y3.1 with Op:=([]:List UInt8),Kids:=([x1,y4.1]:List Y8)}) y5)))else(jn (fun kk2=>bif decide (y2=([46]:List UInt8))then(kk2 (decide (y2=([46]:List UInt8))))else(kk2 (decide (y2=([45,62]:List UInt8))))) (fun(x6:Bool)=>bif x6 then((J9 x2 9).bind fun y6=>(G7 y6.2).bind fun y7=>exL y7 (fun y7=>kk1 ({y6.1 with Name:=y7.1,Kids:=([x1]:List Y8)}) y7.2))else(jn (fun kk3=>bif decide (y2=([43,43]:List UInt8))then(kk3 (decide (y2=([43,43]:List UInt8))))else(kk3 (decide (y2=([45,45]:List UInt8))))) (fun(x7:Bool)=>bif x7 then((J9 x2 11).bind fun y8=>kk1 ({y8.1 with Kids:=([x1]:List Y8)}) y8.2)else(some (Lp.ret (qX (x1,x2))))))))) (fun(x4:Y8)(x5:Z0)=>some (Lp.go (x4,x5))):Option (Lp (Y8×Z0) (Except (Y3×Z0) (Y8×Z0))))) NN (y1.1,y1.2)).bind fun o=>o.thn (fun(x1,x2)=>none) (fun r=>some r))
def Q3p(G:Y0j)(p0:Z0):Option (Except (Y3×Z0) (Y8×Z0)):=
 (C7 p0).bind fun y1=>exE y1 (fun y1=>(B8 y1).bind fun y2=>jn (fun kk1=>bif decide (y2=([45]:List UInt8))then(kk1 (decide (y2=([45]:List UInt8))))else(bif decide (y2=([126]:List UInt8))then(kk1 (decide (y2=([126]:List UInt8))))else(bif decide (y2=([33]:List UInt8))then(kk1 (decide (y2=([33]:List UInt8))))else(bif decide (y2=([42]:List UInt8))then(kk1 (decide (y2=([42]:List UInt8))))else(kk1 (decide (y2=([38]:List UInt8)))))))) (fun(x1:Bool)=>bif x1 then((J9 y1 3).bind fun y3=>(G.E0 y3.2).bind fun y4=>exC y4 (fun y4=>some (qX ({y3.1 with Kids:=([y4.1]:List Y8)},{y4.2 with depth:=qJ .i64 (y4.2.depth-1)}))) (fun e1=>some (qK (e1.1,{e1.2 with depth:=qJ .i64 (e1.2.depth-1)}))))else(jn (fun kk2=>bif decide (y2=([43,43]:List UInt8))then(kk2 (decide (y2=([43,43]:List UInt8))))else(kk2 (decide (y2=([45,45]:List UInt8))))) (fun(x2:Bool)=>bif x2 then((J9 y1 10).bind fun y5=>(G.E0 y5.2).bind fun y6=>exC y6 (fun y6=>some (qX ({y5.1 with Kids:=([y6.1]:List Y8)},{y6.2 with depth:=qJ .i64 (y6.2.depth-1)}))) (fun e2=>some (qK (e2.1,{e2.2 with depth:=qJ .i64 (e2.2.depth-1)}))))else((F7 y1).bind fun y7=>(X7 y1 ([115,105,122,101,111,102]:List UInt8)).bind fun y8=>bif y8.1 then((X3 y8.2 ([40]:List UInt8)).bind fun y9=>exC y9 (fun y9=>(F3 y9).bind fun y10=>exC y10 (fun y10=>(X3 y10.2 ([41]:List UInt8)).bind fun y11=>exC y11 (fun y11=>some (qX ((⟨12,y7,([]:List UInt8),([]:List UInt8),0,y10.1,[]⟩:Y8),{y11 with depth:=qJ .i64 (y11.depth-1)}))) (fun e4=>some (qK (e4.1,{e4.2 with depth:=qJ .i64 (e4.2.depth-1)})))) (fun e3=>some (qK (e3.1,{e3.2 with depth:=qJ .i64 (e3.2.depth-1)})))) (fun e5=>some (qK (e5.1,{e5.2 with depth:=qJ .i64 (e5.2.depth-1)}))))else((G.A9 y8.2).bind fun y12=>exC y12 (fun y12=>some (qX (y12.1,{y12.2 with depth:=qJ .i64 (y12.2.depth-1)}))) (fun e6=>some (qK (e6.1,{e6.2 with depth:=qJ .i64 (e6.2.depth-1)})))))))))
def Q2b(G:Y0j)(p0:Z0)(p1:Int):Option (Except (Y3×Z0) (Y8×Z0)):=
 (G.E0 p0).bind fun y1=>exE y1 (fun y1=>(X5 (fun(x1,x2)=>((B8 x2).bind fun y2=>(Z5n y2).bind fun y3=>bif decide (y3<p1)then(some (Lp.ret (qX (x1,x2))))else(bif y3==0 then(some (Lp.ret (qX (x1,x2))))else((J9 x2 4).bind fun y4=>(G.E8 y4.2 (qJ .i64 (y3+1))).bind fun y5=>exL y5 (fun y5=>some (Lp.go ({y4.1 with Kids:=([x1,y5.1]:List Y8)},y5.2))))):Option (Lp (Y8×Z0) (Except (Y3×Z0) (Y8×Z0))))) NN (y1.1,y1.2)).bind fun o=>o.thn (fun(x1,x2)=>none) (fun r=>some r))
def Q4x(G:Y0j)(p0:Z0):Option (Except (Y3×Z0) (Y8×Z0)):=
 (G.E8 p0 1).bind fun y1=>exE y1 (fun y1=>(B8 y1.2).bind fun y2=>bif !(decide (y2=([63]:List UInt8)))then(some (qX (y1.1,y1.2)))else((J9 y1.2 6).bind fun y3=>(G.V1 y3.2).bind fun y4=>exE y4 (fun y4=>(X3 y4.2 ([58]:List UInt8)).bind fun y5=>exE y5 (fun y5=>(C7 y5).bind fun y6=>exE y6 (fun y6=>(G.N8 y6).bind fun y7=>exE y7 (fun y7=>(Z0l y7.2).bind fun y8=>some (qX ({y3.1 with Op:=([]:List UInt8),Kids:=([y1.1,y4.1,y7.1]:List Y8)},y8))))))))
def Q2c(G:Y0j)(p0:Z0):Option (Except (Y3×Z0) (Y8×Z0)):=
 (C7 p0).bind fun y1=>exE y1 (fun y1=>(G.N8 y1).bind fun y2=>exC y2 (fun y2=>(B8 y2.2).bind fun y3=>(Z1g y3).bind fun y4=>bif !y4 then(some (qX (y2.1,{y2.2 with depth:=qJ .i64 (y2.2.depth-1)})))else((J9 y2.2 5).bind fun y5=>(G.V1 y5.2).bind fun y6=>exC y6 (fun y6=>some (qX ({y5.1 with Kids:=([y2.1,y6.1]:List Y8)},{y6.2 with depth:=qJ .i64 (y6.2.depth-1)}))) (fun e1=>some (qK (e1.1,{e1.2 with depth:=qJ .i64 (e1.2.depth-1)}))))) (fun e2=>some (qK (e2.1,{e2.2 with depth:=qJ .i64 (e2.2.depth-1)}))))
def Q6t:Nat->Y0j
 |0=>⟨fun _=>none,fun _=>none,fun _=>none,fun _=>none,fun _=>none,fun _ _=>none,fun _=>none,fun _=>none⟩
 |n+1=>⟨Q0a (Q6t n),Q2a (Q6t n),Q3q (Q6t n),Q4v (Q6t n),Q3p (Q6t n),Q2b (Q6t n),Q4x (Q6t n),Q2c (Q6t n)⟩
def J0(p0:Z0):Option (Except (Y3×Z0) ((List Y8)×Z0)):=(Q6t NN).J0 p0
def E7(p0:Z0):Option (Except (Y3×Z0) ((List Y8)×Z0)):=(Q6t NN).E7 p0
def H6(p0:Z0):Option (Except (Y3×Z0) (Y8×Z0)):=(Q6t NN).H6 p0
def A9(p0:Z0):Option (Except (Y3×Z0) (Y8×Z0)):=(Q6t NN).A9 p0
def E0(p0:Z0):Option (Except (Y3×Z0) (Y8×Z0)):=(Q6t NN).E0 p0
def E8(p0:Z0)(p1:Int):Option (Except (Y3×Z0) (Y8×Z0)):=(Q6t NN).E8 p0 p1
def N8(p0:Z0):Option (Except (Y3×Z0) (Y8×Z0)):=(Q6t NN).N8 p0
def V1(p0:Z0):Option (Except (Y3×Z0) (Y8×Z0)):=(Q6t NN).V1 p0

def L7(p0:Z0)(p1:M7):Option (Except (Y3×Z0) (M7×Z0)):=
 (Q4o p0).bind fun y1=>exE y1 (fun y1=>jn (fun kk1=>(X7 y1.2 ([61]:List UInt8)).bind fun y2=>bif y2.1 then((X7 y2.2 ([123]:List UInt8)).bind fun y3=>(V1 y3.2).bind fun y4=>exE y4 (fun y4=>(L1 (qQ ([]:List Y8)+qQ ([y4.1]:List Y8))).bind fun _=>(X5 (fun(x7,x8)=>(bif x7.Brace then((X7 x8 ([44]:List UInt8)).bind fun y5=>bif y5.1 then((V1 y5.2).bind fun y6=>exL y6 (fun y6=>(L1 (qQ x7.Init+qQ ([y6.1]:List Y8))).bind fun _=>some (Lp.go ({x7 with Init:=x7.Init++([y6.1]:List Y8)},y6.2))))else(some (Lp.brk (x7,y5.2))))else(some (Lp.brk (x7,x8))):Option (Lp (M7×Z0) (Except (Y3×Z0) (M7×Z0))))) NN ({p1 with Dims:=y1.1,Init:=([]:List Y8)++([y4.1]:List Y8),Brace:=y3.1},y4.2)).bind fun o=>o.thn (fun(x7,x8)=>bif x7.Brace then((X3 x8 ([125]:List UInt8)).bind fun y7=>exE y7 (fun y7=>kk1 x7 y7))else(kk1 x7 x8)) (fun r=>some r)))else(kk1 ({p1 with Dims:=y1.1,Init:=[]}) y2.2)) (fun(x3:M7)(x4:Z0)=>(X3 x4 ([59]:List UInt8)).bind fun y10=>exE y10 (fun y10=>some (qX (x3,y10)))))

def W2(p0:Z0):Option (Except (Y3×Z0) ((List M7)×Z0)):=
 (X3 p0 ([40]:List UInt8)).bind fun y1=>exE y1 (fun y1=>jn (fun kk1=>(U5 y1 ([118,111,105,100]:List UInt8)).bind fun y2=>bif y2 then((I4 y1 1 ([41]:List UInt8)).bind fun y3=>bif y3 then((X3 y1 ([118,111,105,100]:List UInt8)).bind fun y4=>exE y4 (fun y4=>kk1 y4))else(kk1 y1))else(kk1 y1)) (fun(x1:Z0)=>(X7 x1 ([41]:List UInt8)).bind fun y5=>bif y5.1 then(some (qX ([],y5.2)))else((X5 (fun(x2,x3)=>((F7 x3).bind fun y6=>(F3 x3).bind fun y7=>exL y7 (fun y7=>(G7 y7.2).bind fun y8=>exL y8 (fun y8=>(L1 (qQ x2+qQ ([(⟨y6,y7.1,y8.1,[],[],false⟩:M7)]:List M7))).bind fun _=>(X7 y8.2 ([44]:List UInt8)).bind fun y9=>bif !y9.1 then((X3 y9.2 ([41]:List UInt8)).bind fun y10=>exL y10 (fun y10=>some (Lp.ret (qX (x2++([(⟨y6,y7.1,y8.1,[],[],false⟩:M7)]:List M7),y10)))))else(some (Lp.go (x2++([(⟨y6,y7.1,y8.1,[],[],false⟩:M7)]:List M7),y9.2))))):Option (Lp ((List M7)×Z0) (Except (Y3×Z0) ((List M7)×Z0))))) NN ([],y5.2)).bind fun o=>o.thn (fun(x2,x3)=>none) (fun r=>some r))))

def Q1z(p0:Z0):Option (Except (Y3×Z0) (M7×Z0)):=
 (F7 p0).bind fun y1=>(F3 p0).bind fun y2=>exE y2 (fun y2=>(G7 y2.2).bind fun y3=>exE y3 (fun y3=>(L7 y3.2 (⟨y1,y2.1,y3.1,[],[],false⟩:M7)).bind fun y4=>exE y4 (fun y4=>some (qX (y4.1,y4.2)))))

def I8(p0:Z0)(p1:List UInt8):Option (Except (Y3×Z0) ((List Y8)×Z0)):=
 (X7 p0 p1).bind fun y1=>bif y1.1 then(some (qX ([],y1.2)))else((V1 y1.2).bind fun y2=>exE y2 (fun y2=>(X3 y2.2 p1).bind fun y3=>exE y3 (fun y3=>some (qX (([y2.1]:List Y8),y3)))))

def Q6j(p0:Z0)(p1:E5):Option (Except (Y3×Z0×E5) (Z0×E5)):=
 (X7 p0 ([114,101,116,117,114,110]:List UInt8)).bind fun y1=>bif y1.1 then((I8 y1.2 ([59]:List UInt8)).bind fun y2=>exC y2 (fun y2=>some (qX (y2.2,{p1 with Kind:=8,A:=y2.1}))) (fun e1=>some (qK (e1.1,e1.2,p1))))else((X7 y1.2 ([98,114,101,97,107]:List UInt8)).bind fun y3=>bif y3.1 then((X3 y3.2 ([59]:List UInt8)).bind fun y4=>exC y4 (fun y4=>some (qX (y4,{p1 with Kind:=9}))) (fun e2=>some (qK (e2.1,e2.2,{p1 with Kind:=9}))))else((X7 y3.2 ([99,111,110,116,105,110,117,101]:List UInt8)).bind fun y5=>bif y5.1 then((X3 y5.2 ([59]:List UInt8)).bind fun y6=>exC y6 (fun y6=>some (qX (y6,{p1 with Kind:=10}))) (fun e3=>some (qK (e3.1,e3.2,{p1 with Kind:=10}))))else((V1 y5.2).bind fun y7=>exC y7 (fun y7=>(X3 y7.2 ([59]:List UInt8)).bind fun y8=>exC y8 (fun y8=>some (qX (y8,{p1 with Kind:=1,A:=([y7.1]:List Y8)}))) (fun e4=>some (qK (e4.1,e4.2,{p1 with Kind:=1,A:=([y7.1]:List Y8)})))) (fun e5=>some (qK (e5.1,e5.2,p1))))))

structure Rec2 where
 G8:Z0->Option (Except (Y3×Z0) ((List E5)×Z0))
 H7:Z0->Option (Except (Y3×Z0) ((List Q1e)×Z0))
 F4:Z0->Option (Except (Y3×Z0) (E5×Z0))
 E6:Z0->Option (Except (Y3×Z0) ((List E5)×Z0))

def Q4y(G:Rec2)(p0:Z0):Option (Except (Y3×Z0) ((List E5)×Z0)):=
 (G.F4 p0).bind fun y1=>exE y1 (fun y1=>bif y1.1.Kind==11 then(some (qX (y1.1.Body,y1.2)))else(some (qX (([y1.1]:List E5),y1.2))))
def Q3r(G:Rec2)(p0:Z0):Option (Except (Y3×Z0) ((List Q1e)×Z0)):=
 (X3 p0 ([123]:List UInt8)).bind fun y1=>exE y1 (fun y1=>(X5 (fun(x1,x2)=>((X7 x2 ([125]:List UInt8)).bind fun y2=>bif !y2.1 then((F7 y2.2).bind fun y3=>jn (fun kk1=>(X7 y2.2 ([100,101,102,97,117,108,116]:List UInt8)).bind fun y4=>bif y4.1 then(kk1 (⟨y3,true,0,[]⟩:Q1e) y4.2)else((X3 y4.2 ([99,97,115,101]:List UInt8)).bind fun y5=>exL y5 (fun y5=>(X7 y5 ([45]:List UInt8)).bind fun y6=>(H0 y6.2 3).bind fun y7=>exL y7 (fun y7=>bif y6.1 then(kk1 (⟨y3,false,qJ .u32 (0-y7.1.Num),[]⟩:Q1e) y7.2)else(kk1 (⟨y3,false,y7.1.Num,[]⟩:Q1e) y7.2))))) (fun(x4:Q1e)(x5:Z0)=>(X3 x5 ([58]:List UInt8)).bind fun y8=>exL y8 (fun y8=>(X5 (fun(x7,x8)=>((U5 x8 ([99,97,115,101]:List UInt8)).bind fun y9=>bif !y9 then((U5 x8 ([100,101,102,97,117,108,116]:List UInt8)).bind fun y10=>bif !y10 then((U5 x8 ([125]:List UInt8)).bind fun y11=>bif !y11 then((G.F4 x8).bind fun y12=>exL y12 (fun y12=>(L1 (qQ x7.Body+qQ ([y12.1]:List E5))).bind fun _=>some (Lp.go ({x7 with Body:=x7.Body++([y12.1]:List E5)},y12.2))))else(some (Lp.brk (x7,x8))))else(some (Lp.brk (x7,x8))))else(some (Lp.brk (x7,x8))):Option (Lp (Q1e×Z0) (Except (Y3×Z0) ((List Q1e)×Z0))))) NN (x4,y8)).bind fun o=>o.thn (fun(x7,x8)=>(L1 (qQ x1+qQ ([x7]:List Q1e))).bind fun _=>some (Lp.go (x1++([x7]:List Q1e),x8))) (fun r=>some (Lp.ret r)))))else(some (Lp.brk (x1,y2.2))):Option (Lp ((List Q1e)×Z0) (Except (Y3×Z0) ((List Q1e)×Z0))))) NN ([],y1)).bind fun o=>o.thn (fun(x1,x2)=>some (qX (x1,x2))) (fun r=>some r))
def Q4u(G:Rec2)(p0:Z0):Option (Except (Y3×Z0) (E5×Z0)):=
 (C7 p0).bind fun y1=>exE y1 (fun y1=>(F7 y1).bind fun y2=>jn (fun kk1=>(Q2r y1).bind fun y3=>bif y3 then((Q1z y1).bind fun y4=>exC y4 (fun y4=>kk1 (⟨2,y2,[],[],[],([y4.1]:List M7),[],[],[]⟩:E5) y4.2) (fun e1=>some (qK (e1.1,{e1.2 with depth:=qJ .i64 (e1.2.depth-1)}))))else((U5 y1 ([123]:List UInt8)).bind fun y5=>bif y5 then((G.E6 y1).bind fun y6=>exC y6 (fun y6=>kk1 (⟨11,y2,[],[],[],[],y6.1,[],[]⟩:E5) y6.2) (fun e2=>some (qK (e2.1,{e2.2 with depth:=qJ .i64 (e2.2.depth-1)}))))else((X7 y1 ([59]:List UInt8)).bind fun y7=>bif y7.1 then(kk1 (⟨12,y2,[],[],[],[],[],[],[]⟩:E5) y7.2)else((X7 y7.2 ([105,102]:List UInt8)).bind fun y8=>bif y8.1 then((J0 y8.2).bind fun y9=>exC y9 (fun y9=>(G.G8 y9.2).bind fun y10=>exC y10 (fun y10=>(X7 y10.2 ([101,108,115,101]:List UInt8)).bind fun y11=>bif y11.1 then((G.G8 y11.2).bind fun y12=>exC y12 (fun y12=>kk1 (⟨3,y2,y9.1,[],[],[],y10.1,y12.1,[]⟩:E5) y12.2) (fun e3=>some (qK (e3.1,{e3.2 with depth:=qJ .i64 (e3.2.depth-1)}))))else(kk1 (⟨3,y2,y9.1,[],[],[],y10.1,[],[]⟩:E5) y11.2)) (fun e4=>some (qK (e4.1,{e4.2 with depth:=qJ .i64 (e4.2.depth-1)})))) (fun e5=>some (qK (e5.1,{e5.2 with depth:=qJ .i64 (e5.2.depth-1)}))))else((X7 y8.2 ([119,104,105,108,101]:List UInt8)).bind fun y13=>bif y13.1 then((J0 y13.2).bind fun y14=>exC y14 (fun y14=>(G.G8 y14.2).bind fun y15=>exC y15 (fun y15=>kk1 (⟨4,y2,y14.1,[],[],[],y15.1,[],[]⟩:E5) y15.2) (fun e6=>some (qK (e6.1,{e6.2 with depth:=qJ .i64 (e6.2.depth-1)})))) (fun e7=>some (qK (e7.1,{e7.2 with depth:=qJ .i64 (e7.2.depth-1)}))))else((X7 y13.2 ([100,111]:List UInt8)).bind fun y16=>bif y16.1 then((G.G8 y16.2).bind fun y17=>exC y17 (fun y17=>(X3 y17.2 ([119,104,105,108,101]:List UInt8)).bind fun y18=>exC y18 (fun y18=>(J0 y18).bind fun y19=>exC y19 (fun y19=>(X3 y19.2 ([59]:List UInt8)).bind fun y20=>exC y20 (fun y20=>kk1 (⟨5,y2,y19.1,[],[],[],y17.1,[],[]⟩:E5) y20) (fun e8=>some (qK (e8.1,{e8.2 with depth:=qJ .i64 (e8.2.depth-1)})))) (fun e9=>some (qK (e9.1,{e9.2 with depth:=qJ .i64 (e9.2.depth-1)})))) (fun e10=>some (qK (e10.1,{e10.2 with depth:=qJ .i64 (e10.2.depth-1)})))) (fun e11=>some (qK (e11.1,{e11.2 with depth:=qJ .i64 (e11.2.depth-1)}))))else((X7 y16.2 ([102,111,114]:List UInt8)).bind fun y21=>bif y21.1 then((X3 y21.2 ([40]:List UInt8)).bind fun y22=>exC y22 (fun y22=>(I8 y22 ([59]:List UInt8)).bind fun y23=>exC y23 (fun y23=>(I8 y23.2 ([59]:List UInt8)).bind fun y24=>exC y24 (fun y24=>(I8 y24.2 ([41]:List UInt8)).bind fun y25=>exC y25 (fun y25=>(G.G8 y25.2).bind fun y26=>exC y26 (fun y26=>kk1 (⟨6,y2,y23.1,y24.1,y25.1,[],y26.1,[],[]⟩:E5) y26.2) (fun e12=>some (qK (e12.1,{e12.2 with depth:=qJ .i64 (e12.2.depth-1)})))) (fun e13=>some (qK (e13.1,{e13.2 with depth:=qJ .i64 (e13.2.depth-1)})))) (fun e14=>some (qK (e14.1,{e14.2 with depth:=qJ .i64 (e14.2.depth-1)})))) (fun e15=>some (qK (e15.1,{e15.2 with depth:=qJ .i64 (e15.2.depth-1)})))) (fun e16=>some (qK (e16.1,{e16.2 with depth:=qJ .i64 (e16.2.depth-1)}))))else((X7 y21.2 ([115,119,105,116,99,104]:List UInt8)).bind fun y27=>bif y27.1 then((J0 y27.2).bind fun y28=>exC y28 (fun y28=>(G.H7 y28.2).bind fun y29=>exC y29 (fun y29=>kk1 (⟨7,y2,y28.1,[],[],[],[],[],y29.1⟩:E5) y29.2) (fun e17=>some (qK (e17.1,{e17.2 with depth:=qJ .i64 (e17.2.depth-1)})))) (fun e18=>some (qK (e18.1,{e18.2 with depth:=qJ .i64 (e18.2.depth-1)}))))else((Q6j y27.2 (⟨0,y2,[],[],[],[],[],[],[]⟩:E5)).bind fun y30=>exC y30 (fun y30=>kk1 y30.2 y30.1) (fun e19=>some (qK (e19.1,{e19.2.1 with depth:=qJ .i64 (e19.2.1.depth-1)})))))))))))) (fun(x1:E5)(x2:Z0)=>some (qX (x1,{x2 with depth:=qJ .i64 (x2.depth-1)}))))
def Q3s(G:Rec2)(p0:Z0):Option (Except (Y3×Z0) ((List E5)×Z0)):=
 (X3 p0 ([123]:List UInt8)).bind fun y1=>exE y1 (fun y1=>(X5 (fun(x1,x2)=>((X7 x2 ([125]:List UInt8)).bind fun y2=>bif !y2.1 then((G.F4 y2.2).bind fun y3=>exL y3 (fun y3=>(L1 (qQ x1+qQ ([y3.1]:List E5))).bind fun _=>some (Lp.go (x1++([y3.1]:List E5),y3.2))))else(some (Lp.brk (x1,y2.2))):Option (Lp ((List E5)×Z0) (Except (Y3×Z0) ((List E5)×Z0))))) NN ([],y1)).bind fun o=>o.thn (fun(x1,x2)=>some (qX (x1,x2))) (fun r=>some r))
def Z5w:Nat->Rec2
 |0=>⟨fun _=>none,fun _=>none,fun _=>none,fun _=>none⟩
 |n+1=>⟨Q4y (Z5w n),Q3r (Z5w n),Q4u (Z5w n),Q3s (Z5w n)⟩
def G8(p0:Z0):Option (Except (Y3×Z0) ((List E5)×Z0)):=(Z5w NN).G8 p0
def H7(p0:Z0):Option (Except (Y3×Z0) ((List Q1e)×Z0)):=(Z5w NN).H7 p0
def F4(p0:Z0):Option (Except (Y3×Z0) (E5×Z0)):=(Z5w NN).F4 p0
def E6(p0:Z0):Option (Except (Y3×Z0) ((List E5)×Z0)):=(Z5w NN).E6 p0

def Q2s(p0:Z0)(p1:D4):Option (Except (Y3×Z0×D4) (Z0×D4)):=
 (F7 p0).bind fun y1=>(U5 p0 ([115,116,114,117,99,116]:List UInt8)).bind fun y2=>bif y2 then((I4 p0 2 ([123]:List UInt8)).bind fun y3=>bif y3 then((X3 p0 ([115,116,114,117,99,116]:List UInt8)).bind fun y4=>exC y4 (fun y4=>jn (fun kk1=>(G7 y4).bind fun y5=>exC y5 (fun y5=>kk1 y5.2 (⟨y1,y5.1,[]⟩:Q3k)) (fun e1=>some (qK (e1.1,e1.2,p1)))) (fun(x1:Z0)(x2:Q3k)=>(Q4w x1).bind fun y6=>exC y6 (fun y6=>(L1 (qQ p1.Structs+qQ ([{x2 with Fields:=y6.1}]:List Q3k))).bind fun _=>some (qX (y6.2,{p1 with Structs:=p1.Structs++([{x2 with Fields:=y6.1}]:List Q3k)}))) (fun e2=>some (qK (e2.1,e2.2,p1))))) (fun e3=>some (qK (e3.1,e3.2,p1))))else((F3 p0).bind fun y7=>exC y7 (fun y7=>(G7 y7.2).bind fun y8=>exC y8 (fun y8=>(U5 y8.2 ([40]:List UInt8)).bind fun y9=>bif !y9 then((L7 y8.2 (⟨y1,y7.1,y8.1,[],[],false⟩:M7)).bind fun y10=>exC y10 (fun y10=>(L1 (qQ p1.Globals+qQ ([y10.1]:List M7))).bind fun _=>some (qX (y10.2,{p1 with Globals:=p1.Globals++([y10.1]:List M7)}))) (fun e4=>some (qK (e4.1,e4.2,p1))))else(jn (fun kk2=>(W2 y8.2).bind fun y11=>exC y11 (fun y11=>kk2 y11.2 (⟨y1,y7.1,y8.1,y11.1,[]⟩:Q1d)) (fun e5=>some (qK (e5.1,e5.2,p1)))) (fun(x3:Z0)(x4:Q1d)=>(E6 x3).bind fun y12=>exC y12 (fun y12=>(L1 (qQ p1.Funcs+qQ ([{x4 with Body:=y12.1}]:List Q1d))).bind fun _=>some (qX (y12.2,{p1 with Funcs:=p1.Funcs++([{x4 with Body:=y12.1}]:List Q1d)}))) (fun e6=>some (qK (e6.1,e6.2,p1)))))) (fun e7=>some (qK (e7.1,e7.2,p1)))) (fun e8=>some (qK (e8.1,e8.2,p1)))))else((F3 p0).bind fun y13=>exC y13 (fun y13=>(G7 y13.2).bind fun y14=>exC y14 (fun y14=>(U5 y14.2 ([40]:List UInt8)).bind fun y15=>bif !y15 then((L7 y14.2 (⟨y1,y13.1,y14.1,[],[],false⟩:M7)).bind fun y16=>exC y16 (fun y16=>(L1 (qQ p1.Globals+qQ ([y16.1]:List M7))).bind fun _=>some (qX (y16.2,{p1 with Globals:=p1.Globals++([y16.1]:List M7)}))) (fun e9=>some (qK (e9.1,e9.2,p1))))else(jn (fun kk3=>(W2 y14.2).bind fun y17=>exC y17 (fun y17=>kk3 y17.2 (⟨y1,y13.1,y14.1,y17.1,[]⟩:Q1d)) (fun e10=>some (qK (e10.1,e10.2,p1)))) (fun(x5:Z0)(x6:Q1d)=>(E6 x5).bind fun y18=>exC y18 (fun y18=>(L1 (qQ p1.Funcs+qQ ([{x6 with Body:=y18.1}]:List Q1d))).bind fun _=>some (qX (y18.2,{p1 with Funcs:=p1.Funcs++([{x6 with Body:=y18.1}]:List Q1d)}))) (fun e11=>some (qK (e11.1,e11.2,p1)))))) (fun e12=>some (qK (e12.1,e12.2,p1)))) (fun e13=>some (qK (e13.1,e13.2,p1))))

def Q9s(p0:Z0):Option (Except (D4×Y3×Z0) (D4×Z0)):=
 (X5 (fun(x4,x5)=>(bif decide (0<(qQ x5.l:Int))then((Q2s x5 x4).bind fun y1=>exC y1 (fun y1=>some (Lp.go (y1.2,y1.1))) (fun e1=>some (Lp.ret (qK ((⟨[],[],[]⟩:D4),e1.1,e1.2.1)))))else(some (Lp.brk (x4,x5))):Option (Lp (D4×Z0) (Except (D4×Y3×Z0) (D4×Z0))))) NN ((⟨[],[],[]⟩:D4),p0)).bind fun o=>o.thn (fun(x4,x5)=>some (qX (x4,x5))) (fun r=>some r)

def Z7k(p0:List UInt8):Option (D4×Pos×Int):=
 (Y4p p0).bind fun y1=>bif y1.2.2 !=0 then(some ((⟨[],[],[]⟩:D4),y1.2.1,y1.2.2))else((Q9s (⟨y1.1,y1.2.1,0⟩:Z0)).bind fun y2=>exC y2 (fun y2=>some (y2.1,y1.2.1,(0:Int))) (fun e1=>some ((⟨[],[],[]⟩:D4),e1.2.1.pos,e1.2.1.e)))

def Y4s:Option (Z7):=
 some (⟨([(⟨(⟨0,0,0,([]:List UInt8),[]⟩:Q8v),0,0,false⟩:K4),(⟨(⟨1,0,0,([]:List UInt8),[]⟩:Q8v),4,4,false⟩:K4),(⟨(⟨2,0,0,([]:List UInt8),[]⟩:Q8v),1,1,false⟩:K4)]:List K4)⟩:Z7)

def Q9k(p0:K4)(p1:List UInt8):Option (Bool):=
 some ((p0.Type_.Kind==5)&&(decide (p0.Type_.Name=p1)))

def Q8g(p0:List K4)(p1:List UInt8):Option (Int):=
 (X5 (fun(x1:Int)=>(bif decide (x1<(qQ p0:Int))then((idx p0 x1).bind fun u1=>(Q9k u1 p1).bind fun y1=>bif y1 then(some (Lp.ret x1))else(some (Lp.go (qJ .i64 (x1+1)))))else(some (Lp.brk x1)):Option (Lp (Int) (Int)))) NN (0:Int)).bind fun o=>o.thn (fun(x1:Int)=>some ((-1):Int)) (fun r=>some r)

def Q1q(p0:Z7)(p1:List UInt8):Option (Int):=
 (Q8g p0.list p1).bind fun y1=>some y1

def Z1m(p0:K4)(p1:K4):Option (Bool):=
 some ((((p0.Type_.Kind==p1.Type_.Kind)&&(p0.Type_.Elem==p1.Type_.Elem))&&(p0.Type_.Len==p1.Type_.Len))&&(p1.Type_.Kind !=5))

def Q5e(p0:List K4)(p1:K4):Option (Int):=
 (X5 (fun(x1:Int)=>(bif decide (x1<(qQ p0:Int))then((idx p0 x1).bind fun u1=>(Z1m u1 p1).bind fun y1=>bif y1 then(some (Lp.ret x1))else(some (Lp.go (qJ .i64 (x1+1)))))else(some (Lp.brk x1)):Option (Lp (Int) (Int)))) NN (0:Int)).bind fun o=>o.thn (fun(x1:Int)=>some ((-1):Int)) (fun r=>some r)

def Q5h(p0:Z7)(p1:K4):Option (Int×Int×Z7):=
 (Q5e p0.list p1).bind fun y1=>bif decide (0<=y1)then(some (y1,(0:Int),p0))else(bif decide (400<=(qQ p0.list:Int))then(some ((0:Int),(8:Int),p0))else((L1 (qQ p0.list+qQ ([p1]:List K4))).bind fun _=>some (qJ .i64 ((qQ (p0.list++([p1]:List K4)):Int)-1),(0:Int),(⟨p0.list++([p1]:List K4)⟩:Z7))))

def Q9v(p0:Z7)(p1:List UInt8):Option (Int×Int×Z7):=
 bif decide (p1=([]:List UInt8))then(some ((0:Int),(1:Int),p0))else((Q1q p0 p1).bind fun y1=>bif decide (0<=y1)then(some ((0:Int),(6:Int),p0))else((Q5h p0 (⟨(⟨5,0,0,p1,[]⟩:Q8v),0,0,true⟩:K4)).bind fun y2=>some (y2.1,y2.2.1,y2.2.2)))

def X0(p0:Pos)(p1:Int):Option (Except (Z4) (Unit)):=
 some (qK (⟨p0,p1⟩:Z4))

def R8(p0:Pos)(p1:Int):Option (Except (Z4) (Unit)):=
 bif p1 !=0 then((X0 p0 p1).bind fun y1=>exC y1 (fun y1=>none) (fun e1=>some (qK e1)))else(some (qX ()))

def Q9w(p0:Z7)(p1:List UInt8):Option (Int×Int):=
 (Q1q p0 p1).bind fun y1=>bif decide (y1<0)then(some ((0:Int),(4:Int)))else(some (y1,(0:Int)))

def I3(p0:Z7)(p1:Int):Option (Bool):=
 some ((decide (0<=p1))&&(decide (p1<(qQ p0.list:Int))))

def Q5i(p0:Z7)(p1:Int):Option (Int×Int×Z7):=
 (I3 p0 p1).bind fun y1=>bif !y1 then(some ((0:Int),(4:Int),p0))else((Q5h p0 (⟨(⟨3,p1,0,([]:List UInt8),[]⟩:Q8v),4,4,false⟩:K4)).bind fun y2=>some (y2.1,y2.2.1,y2.2.2))

def B3(p0:Q0)(p1:Pos)(p2:M6):Option (Except (Z4×Q0) (Int×Q0)):=
 jn (fun kk1=>bif decide (p2.Word=([105,110,116]:List UInt8))then(kk1 (1:Int))else(bif decide (p2.Word=([99,104,97,114]:List UInt8))then(kk1 (2:Int))else(bif decide (p2.Word=([115,116,114,117,99,116]:List UInt8))then((Q9w p0.t p2.Name).bind fun y1=>(R8 p1 y1.2).bind fun y2=>exC y2 (fun y2=>kk1 y1.1) (fun e1=>some (qK (e1,p0))))else(kk1 (0:Int))))) (fun(x1:Int)=>(X5 (fun(x3,x4,x5)=>(bif decide (x4<p2.Stars)then((Q5i x5 x3).bind fun y3=>(R8 p1 y3.2.1).bind fun y4=>exC y4 (fun y4=>some (Lp.go (y3.1,qJ .i64 (x4+1),y3.2.2))) (fun e2=>some (Lp.ret (qK (e2,{p0 with t:=y3.2.2})))))else(some (Lp.brk (x3,x4,x5))):Option (Lp (Int×Int×Z7) (Except (Z4×Q0) (Int×Q0))))) NN (x1,(0:Int),p0.t)).bind fun o=>o.thn (fun(x3,x4,x5)=>some (qX (x3,{p0 with t:=x5}))) (fun r=>some r))

def Q8n(p0:Z7)(p1:Int)(p2:Int):Option (Int×Int×Z7):=
 (I3 p0 p1).bind fun y1=>bif !y1 then(some ((0:Int),(4:Int),p0))else((idx p0.list p1).bind fun u1=>bif u1.size==0 then(some ((0:Int),(5:Int),p0))else(bif decide (p2<1)then(some ((0:Int),(1:Int),p0))else((idx p0.list p1).bind fun u2=>(nz u2.size).bind fun _=>bif decide ((qJ .i64 (Int.tdiv 32768 u2.size))<p2)then(some ((0:Int),(2:Int),p0))else((idx p0.list p1).bind fun u3=>(Q5h p0 (⟨(⟨4,p1,p2,([]:List UInt8),[]⟩:Q8v),qJ .i64 (p2*u3.size),u3.align,false⟩:K4)).bind fun y2=>some (y2.1,y2.2.1,y2.2.2)))))

def O1(p0:Q0)(p1:M7):Option (Except (Z4×Q0) (Int×Q0)):=
 (B3 p0 p1.Pos p1.Type_).bind fun y1=>exE y1 (fun y1=>(X5 (fun(x2,x3,x4)=>(bif decide (0<=x3)then((idx p1.Dims x3).bind fun u1=>(Q8n x4 x2 (qJ .i64 u1)).bind fun y2=>(R8 p1.Pos y2.2.1).bind fun y3=>exC y3 (fun y3=>some (Lp.go (y2.1,qJ .i64 (x3-1),y2.2.2))) (fun e1=>some (Lp.ret (qK (e1,{y1.2 with t:=y2.2.2})))))else(some (Lp.brk (x2,x3,x4))):Option (Lp (Int×Int×Z7) (Except (Z4×Q0) (Int×Q0))))) NN (y1.1,qJ .i64 ((qQ p1.Dims:Int)-1),y1.2.t)).bind fun o=>o.thn (fun(x2,x3,x4)=>some (qX (x2,{y1.2 with t:=x4}))) (fun r=>some r))

def Z1q(p0:K9):Option (Bool):=
 some (decide (p0.Name=([]:List UInt8)))

def Q5d(p0:List K9):Option (Int):=
 (X5 (fun(x1:Int)=>(bif decide (x1<(qQ p0:Int))then((idx p0 x1).bind fun u1=>(Z1q u1).bind fun y1=>bif y1 then(some (Lp.ret x1))else(some (Lp.go (qJ .i64 (x1+1)))))else(some (Lp.brk x1)):Option (Lp (Int) (Int)))) NN (0:Int)).bind fun o=>o.thn (fun(x1:Int)=>some ((-1):Int)) (fun r=>some r)

def Q7z(p0:List K9):Option (Bool):=
 (Q5d p0).bind fun y1=>some (decide (0<=y1))

def Z1p(p0:K9)(p1:Z7):Option (Bool):=
 (I3 p1 p0.Type_).bind fun y1=>some (!y1)

def Q5c(p0:List K9)(p1:Z7):Option (Int):=
 (X5 (fun(x1:Int)=>(bif decide (x1<(qQ p0:Int))then((idx p0 x1).bind fun u1=>(Z1p u1 p1).bind fun y1=>bif y1 then(some (Lp.ret x1))else(some (Lp.go (qJ .i64 (x1+1)))))else(some (Lp.brk x1)):Option (Lp (Int) (Int)))) NN (0:Int)).bind fun o=>o.thn (fun(x1:Int)=>some ((-1):Int)) (fun r=>some r)

def Q5r(p0:List K9)(p1:Z7):Option (Bool):=
 (Q5c p0 p1).bind fun y1=>some (decide (0<=y1))

def K2(p0:Z7)(p1:Int):Option (Int):=
 (I3 p0 p1).bind fun y1=>bif !y1 then(some (0:Int))else((idx p0.list p1).bind fun u1=>some u1.size)

def Z1o(p0:K9)(p1:Z7):Option (Bool):=
 (K2 p1 p0.Type_).bind fun y1=>some (y1==0)

def Q5b(p0:List K9)(p1:Z7):Option (Int):=
 (X5 (fun(x1:Int)=>(bif decide (x1<(qQ p0:Int))then((idx p0 x1).bind fun u1=>(Z1o u1 p1).bind fun y1=>bif y1 then(some (Lp.ret x1))else(some (Lp.go (qJ .i64 (x1+1)))))else(some (Lp.brk x1)):Option (Lp (Int) (Int)))) NN (0:Int)).bind fun o=>o.thn (fun(x1:Int)=>some ((-1):Int)) (fun r=>some r)

def Q5q(p0:List K9)(p1:Z7):Option (Bool):=
 (Q5b p0 p1).bind fun y1=>some (decide (0<=y1))

def Z1n(p0:K9)(p1:K9):Option (Bool):=
 some (decide (p0.Name=p1.Name))

def Q5a(p0:List K9)(p1:K9):Option (Int):=
 (X5 (fun(x1:Int)=>(bif decide (x1<(qQ p0:Int))then((idx p0 x1).bind fun u1=>(Z1n u1 p1).bind fun y1=>bif y1 then(some (Lp.ret x1))else(some (Lp.go (qJ .i64 (x1+1)))))else(some (Lp.brk x1)):Option (Lp (Int) (Int)))) NN (0:Int)).bind fun o=>o.thn (fun(x1:Int)=>some ((-1):Int)) (fun r=>some r)

def Q1h(p0:List K9)(p1:K9):Option (Bool):=
 (Q5a p0 p1).bind fun y1=>some (decide (0<=y1))

def Z1a(p0:Z7)(p1:List K9):Option (Int):=
 bif (qQ p1:Int)==0 then(some (1:Int))else((Q7z p1).bind fun y1=>bif y1 then(some (1:Int))else((Q5r p1 p0).bind fun y2=>bif y2 then(some (4:Int))else((Q5q p1 p0).bind fun y3=>bif y3 then(some (5:Int))else((X5 (fun(x1:Int)=>(bif decide (x1<(qQ p1:Int))then((idx p1 x1).bind fun u1=>(sub p1 0 x1).bind fun u2=>(Q1h u2 u1).bind fun y4=>bif y4 then(some (Lp.ret (6:Int)))else(some (Lp.go (qJ .i64 (x1+1)))))else(some (Lp.brk x1)):Option (Lp (Int) (Int)))) NN (0:Int)).bind fun o=>o.thn (fun(x1:Int)=>some (0:Int)) (fun r=>some r)))))

def Z1i(p0:List K9):Option ((List K9)):=
 (L1 (qQ ([]:List K9)+qQ p0)).bind fun _=>some (([]:List K9)++p0)

def Q1r(p0:Z7)(p1:Int):Option (Int):=
 (I3 p0 p1).bind fun y1=>bif !y1 then(some (0:Int))else((idx p0.list p1).bind fun u1=>some u1.align)

def Z8u(p0:Int)(p1:Int):Option (Int):=
 (nz p1).bind fun _=>some (qJ .i64 ((qJ .i64 (Int.tdiv (qJ .i64 ((qJ .i64 (p0+p1))-1)) p1))*p1))

def Q3x(p0:K9)(p1:Int)(p2:Z7)(p3:Int):Option (Bool×K9×Int×Int):=
 (Q1r p2 p0.Type_).bind fun y1=>(Z8u p1 y1).bind fun y2=>(K2 p2 p0.Type_).bind fun y3=>(Q1r p2 p0.Type_).bind fun y4=>some (decide ((qJ .i64 (y2+y3))<=32768),{p0 with At:=y2},qJ .i64 (y2+y3),max p3 y4)

def Q6w(p0:Z7)(p1:List UInt8)(p2:List K9):Option (Int×Int×Z7):=
 (Q1q p0 p1).bind fun y1=>bif decide (y1<0)then(some ((0:Int),(4:Int),p0))else((idx p0.list y1).bind fun u1=>bif !u1.open_ then(some ((0:Int),(4:Int),p0))else((Z1a p0 p2).bind fun y2=>bif y2 !=0 then(some ((0:Int),y2,p0))else((Z1i p2).bind fun y3=>(X5 (fun(x1,x2,x3,x4)=>(bif decide (x2<(qQ y3:Int))then((idx x1 x2).bind fun u2=>(idx x1 x2).bind fun u3=>(Q3x u3 x4 p0 x3).bind fun y4=>bif !y4.1 then(some (Lp.ret ((0:Int),(2:Int),p0)))else(some (Lp.go (qP x1 (qF x2) y4.2.1,qJ .i64 (x2+1),y4.2.2.2,y4.2.2.1))))else(some (Lp.brk (x1,x2,x3,x4))):Option (Lp ((List K9)×Int×Int×Int) (Int×Int×Z7)))) NN (y3,(0:Int),(1:Int),(0:Int))).bind fun o=>o.thn (fun(x1,x2,x3,x4)=>(Z8u x4 x3).bind fun y5=>bif decide (32768<y5)then(some ((0:Int),(2:Int),p0))else((idx p0.list y1).bind fun u4=>(Z8u x4 x3).bind fun y6=>(idx p0.list y1).bind fun u5=>(idx (qP p0.list (qF y1) ({u5 with Type_:={u5.Type_ with Fields:=x1}})) y1).bind fun u6=>(idx (qP (qP p0.list (qF y1) ({u5 with Type_:={u5.Type_ with Fields:=x1}})) (qF y1) ({u6 with size:=y6})) y1).bind fun u7=>(idx (qP (qP (qP p0.list (qF y1) ({u5 with Type_:={u5.Type_ with Fields:=x1}})) (qF y1) ({u6 with size:=y6})) (qF y1) ({u7 with align:=x3})) y1).bind fun u8=>some (y1,(0:Int),(⟨qP (qP (qP (qP p0.list (qF y1) ({u5 with Type_:={u5.Type_ with Fields:=x1}})) (qF y1) ({u6 with size:=y6})) (qF y1) ({u7 with align:=x3})) (qF y1) ({u8 with open_:=false})⟩:Z7)))) (fun r=>some r))))

def Q1k(p0:Q0)(p1:List Q3k):Option (Except (Z4×Q0) (Q0)):=
 (X5 (fun(x2,x3)=>(bif decide (x2<(qQ p1:Int))then((idx p1 x2).bind fun u1=>(Q9v x3 u1.Name).bind fun y1=>(R8 u1.Pos y1.2.1).bind fun y2=>exC y2 (fun y2=>some (Lp.go (qJ .i64 (x2+1),y1.2.2))) (fun e1=>some (Lp.ret (qK (e1,{p0 with t:=y1.2.2})))))else(some (Lp.brk (x2,x3))):Option (Lp (Int×Z7) (Except (Z4×Q0) (Q0))))) NN ((0:Int),p0.t)).bind fun o=>o.thn (fun(x2,x3)=>(X5 (fun(x12,x13,x14)=>(bif decide (x12<(qQ p1:Int))then((idx p1 x12).bind fun u3=>(X5 (fun(x15,x24,x25,x26)=>(bif decide (x24<(qQ u3.Fields:Int))then((idx u3.Fields x24).bind fun u4=>(O1 ({x25 with t:=x26}) u4).bind fun y3=>exL y3 (fun y3=>(L1 (qQ x15+qQ ([(⟨u4.Name,y3.1,0⟩:K9)]:List K9))).bind fun _=>some (Lp.go (x15++([(⟨u4.Name,y3.1,0⟩:K9)]:List K9),qJ .i64 (x24+1),y3.2,y3.2.t))))else(some (Lp.brk (x15,x24,{x25 with t:=x26},x26))):Option (Lp ((List K9)×Int×Q0×Z7) (Except (Z4×Q0) (Q0))))) NN ([],(0:Int),{x13 with t:=x14},x14)).bind fun o=>o.thn (fun(x15,x24,x25,x26)=>(Q6w x26 u3.Name x15).bind fun y4=>(R8 u3.Pos y4.2.1).bind fun y5=>exC y5 (fun y5=>some (Lp.go (qJ .i64 (x12+1),{x25 with t:=y4.2.2},y4.2.2))) (fun e3=>some (Lp.ret (qK (e3,{x25 with t:=y4.2.2}))))) (fun r=>some (Lp.ret r)))else(some (Lp.brk (x12,{x13 with t:=x14},x14))):Option (Lp (Int×Q0×Z7) (Except (Z4×Q0) (Q0))))) NN ((0:Int),{p0 with t:=x3},x3)).bind fun o=>o.thn (fun(x12,x13,x14)=>some (qX ({x13 with t:=x14}))) (fun r=>some r)) (fun r=>some r)

def Q0x(p0:Q0)(p1:M7):Option (Except (Z4×Q0) (Int×Q0)):=
 (O1 p0 p1).bind fun y1=>exE y1 (fun y1=>(K2 y1.2.t y1.1).bind fun y2=>bif y2==0 then((X0 p1.Pos 5).bind fun y3=>exC y3 (fun y3=>none) (fun e1=>some (qK (e1,y1.2))))else(some (qX (y1.1,y1.2))))

def Q3z(p0:Q0)(p1:Pos)(p2:List UInt8):Option (Except (Z4×Q0) (Q0)):=
 bif (((D3 p0.globals p2).isSome)||((D3 p0.codes p2).isSome))then((X0 p1 6).bind fun y1=>exC y1 (fun y1=>none) (fun e1=>some (qK (e1,p0))))else(bif (Z3w p0.globals:Int)==200 then((X0 p1 2).bind fun y2=>exC y2 (fun y2=>none) (fun e2=>some (qK (e2,p0))))else((p0.globals).bind fun u3=>some (qX ({p0 with globals:=(some (Q9u u3 p2 (Z3w p0.globals:Int)))}))))

def M0(p0:Z7)(p1:Int):Option (Bool):=
 (I3 p0 p1).bind fun y1=>bif !y1 then(some false)else((idx p0.list p1).bind fun u1=>some (((u1.Type_.Kind==1)||(u1.Type_.Kind==2))||(u1.Type_.Kind==3)))

def W6(p0:Q0)(p1:Int):Option (Int):=
 (M0 p0.t p1).bind fun y1=>bif !y1 then(some (0:Int))else((K2 p0.t p1).bind fun y2=>some y2)

def Q1s(p0:Q0)(p1:List UInt8)(p2:Int):Option (Z3z):=
 (K2 p0.t p2).bind fun y1=>(Q1r p0.t p2).bind fun y2=>(W6 p0 p2).bind fun y3=>some (⟨p1,y1,y2,y3⟩:Z3z)

def C3(p0:Z7)(p1:Int):Option (Q8v×Int):=
 (I3 p0 p1).bind fun y1=>bif !y1 then(some ((⟨0,0,0,([]:List UInt8),[]⟩:Q8v),(4:Int)))else((idx p0.list p1).bind fun u1=>(Z1i u1.Type_.Fields).bind fun y2=>some ({u1.Type_ with Fields:=y2},(0:Int)))

def L9(p0:Q0)(p1:Int):Option (Int):=
 (C3 p0.t p1).bind fun y1=>bif y1.1.Kind==4 then(some y1.1.Elem)else(some p1)

def Q1a(p0:Q0)(p1:M7)(p2:Int):Option (Except (Z4) ((List Y8))):=
 bif (qQ p1.Init:Int)==0 then(some (qX []))else((C3 p0.t p2).bind fun y1=>bif !((y1.1.Kind==4)==p1.Brace)then((X0 p1.Pos 5).bind fun y6=>exC y6 (fun y6=>none) (fun e3=>some (qK e3)))else((L9 p0 p2).bind fun y2=>(W6 p0 y2).bind fun y3=>bif y3==0 then((X0 p1.Pos 5).bind fun y4=>exC y4 (fun y4=>none) (fun e1=>some (qK e1)))else(bif ((y1.1.Kind==4)&&(decide (y1.1.Len<(qQ p1.Init:Int))))then((X0 p1.Pos 2).bind fun y5=>exC y5 (fun y5=>none) (fun e2=>some (qK e2)))else(some (qX p1.Init)))))

def Q0w(p0:G5)(p1:List UInt8):Option (Int×Bool):=
 (X5 (fun(x1:Int)=>(bif decide (0<=x1)then((idx p0.scopes x1).bind fun u1=>bif (D3 u1 p1).isSome then(some (Lp.ret ((D3 u1 p1).getD 0,true)))else(some (Lp.go (qJ .i64 (x1-1)))))else(some (Lp.brk x1)):Option (Lp (Int) (Int×Bool)))) NN (qJ .i64 ((qQ p0.scopes:Int)-1))).bind fun o=>o.thn (fun(x1:Int)=>some ((0:Int),false)) (fun r=>some r)

def Q5l(p0:Q0)(p1:Y8):Option (Except (Z4×Q0) (Y2×Q0)):=
 jn (fun kk1=>(O3.isNil p0.fun_).bind fun u1=>bif !u1 then((O3.get p0.fun_).bind fun u2=>(Q0w u2 p1.Name).bind fun y1=>bif y1.2 then((idx u2.types y1.1).bind fun u3=>some (qX ((⟨u3,(⟨2,0,0,y1.1,false,0,false,true,[]⟩:Y6),true⟩:Y2),p0)))else(kk1 ()))else(kk1 ())) (fun(_:Unit)=>bif !((D3 p0.globals p1.Name).isSome)then((X0 p1.Pos 4).bind fun y2=>exC y2 (fun y2=>none) (fun e1=>some (qK (e1,p0))))else((idx p0.gtypes ((D3 p0.globals p1.Name).getD 0)).bind fun u5=>some (qX ((⟨u5,(⟨2,0,0,(D3 p0.globals p1.Name).getD 0,true,0,false,true,[]⟩:Y6),true⟩:Y2),p0))))

def Q0y(p0:Q0)(p1:Pos)(p2:Int):Option (Except (Z4×Q0) (Int×Q0)):=
 (Q5i p0.t p2).bind fun y1=>(R8 p1 y1.2.1).bind fun y2=>exC y2 (fun y2=>some (qX (y1.1,{p0 with t:=y1.2.2}))) (fun e1=>some (qK (e1,{p0 with t:=y1.2.2})))

def A0(p0:Q0)(p1:Int):Option (Int×Bool):=
 (C3 p0.t p1).bind fun y1=>bif y1.1.Kind==3 then((K2 p0.t y1.1.Elem).bind fun y2=>some (y1.1.Elem,decide (0<y2)))else(some (y1.1.Elem,false))

def X1(p0:Q0)(p1:Int):Option (Bool):=
 (C3 p0.t p1).bind fun y1=>some (y1.1.Kind==3)

def Z2q(p0:List UInt8):Option (Int):=
 bif decide (p0=([43]:List UInt8))then(some (1:Int))else(bif decide (p0=([45]:List UInt8))then(some (2:Int))else(bif decide (p0=([42]:List UInt8))then(some (3:Int))else(bif decide (p0=([47]:List UInt8))then(some (4:Int))else(bif decide (p0=([37]:List UInt8))then(some (5:Int))else(bif decide (p0=([38]:List UInt8))then(some (6:Int))else(bif decide (p0=([124]:List UInt8))then(some (7:Int))else(bif decide (p0=([94]:List UInt8))then(some (8:Int))else(bif decide (p0=([60,60]:List UInt8))then(some (9:Int))else(bif decide (p0=([62,62]:List UInt8))then(some (10:Int))else(bif decide (p0=([61,61]:List UInt8))then(some (11:Int))else(bif decide (p0=([33,61]:List UInt8))then(some (12:Int))else(bif decide (p0=([60]:List UInt8))then(some (13:Int))else(bif decide (p0=([62]:List UInt8))then(some (14:Int))else(bif decide (p0=([60,61]:List UInt8))then(some (15:Int))else(some (16:Int))))))))))))))))

def Q9o(p0:Y8):Option (Bool):=
 some ((p0.Kind==1)&&(p0.Num==0))

def Q1x:Option (Y6):=
 some (⟨1,0,0,0,false,0,false,true,[]⟩:Y6)

def Q4a(p0:Q0)(p1:Y8)(p2:Y2)(p3:Y2):Option (Except (Z4) (Y2)):=
 jn (fun kk1=>(idx p1.Kids 0).bind fun u1=>(idx p1.Kids 1).bind fun u2=>kk1 u1 u2) (fun(x1:Y8)(x2:Y8)=>(Z2q p1.Op).bind fun y1=>jn (fun kk2=>(X1 p0 p2.n).bind fun y2=>bif y2 then((Q9o x2).bind fun y3=>bif y3 then((Q1x).bind fun y4=>kk2 (⟨6,y1,0,0,false,0,false,false,([p2.term,y4]:List Y6)⟩:Y6))else((X1 p0 p3.n).bind fun y5=>bif y5 then((Q9o x1).bind fun y6=>bif y6 then((Q1x).bind fun y7=>kk2 (⟨6,y1,0,0,false,0,false,false,([y7,p3.term]:List Y6)⟩:Y6))else(bif p2.n !=1 then((X1 p0 p2.n).bind fun y8=>bif !y8 then((X0 x1.Pos 5).bind fun y9=>exC y9 (fun y9=>none) (fun e1=>some (qK e1)))else((X0 x2.Pos 5).bind fun y10=>exC y10 (fun y10=>none) (fun e2=>some (qK e2))))else((X0 x2.Pos 5).bind fun y11=>exC y11 (fun y11=>none) (fun e3=>some (qK e3)))))else(bif p2.n !=1 then((X1 p0 p2.n).bind fun y12=>bif !y12 then((X0 x1.Pos 5).bind fun y13=>exC y13 (fun y13=>none) (fun e4=>some (qK e4)))else((X0 x2.Pos 5).bind fun y14=>exC y14 (fun y14=>none) (fun e5=>some (qK e5))))else((X0 x2.Pos 5).bind fun y15=>exC y15 (fun y15=>none) (fun e6=>some (qK e6))))))else((X1 p0 p3.n).bind fun y16=>bif y16 then((Q9o x1).bind fun y17=>bif y17 then((Q1x).bind fun y18=>kk2 (⟨6,y1,0,0,false,0,false,false,([y18,p3.term]:List Y6)⟩:Y6))else(bif p2.n !=1 then((X1 p0 p2.n).bind fun y19=>bif !y19 then((X0 x1.Pos 5).bind fun y20=>exC y20 (fun y20=>none) (fun e7=>some (qK e7)))else((X0 x2.Pos 5).bind fun y21=>exC y21 (fun y21=>none) (fun e8=>some (qK e8))))else((X0 x2.Pos 5).bind fun y22=>exC y22 (fun y22=>none) (fun e9=>some (qK e9)))))else(bif p2.n !=1 then((X1 p0 p2.n).bind fun y23=>bif !y23 then((X0 x1.Pos 5).bind fun y24=>exC y24 (fun y24=>none) (fun e10=>some (qK e10)))else((X0 x2.Pos 5).bind fun y25=>exC y25 (fun y25=>none) (fun e11=>some (qK e11))))else((X0 x2.Pos 5).bind fun y26=>exC y26 (fun y26=>none) (fun e12=>some (qK e12)))))) (fun(x4:Y6)=>some (qX (⟨1,x4,false⟩:Y2))))

def R9(p0:Q0)(p1:Y6)(p2:Y6)(p3:Int)(p4:Int):Option (Y6):=
 (K2 p0.t p3).bind fun y1=>some (⟨14,p4,0,0,false,y1,false,true,([p1,p2]:List Y6)⟩:Y6)

def Q0z(p0:Q0)(p1:Pos)(p2:Y2)(p3:Y6)(p4:Int):Option (Except (Z4) (Y2)):=
 (A0 p0 p2.n).bind fun y1=>bif !y1.2 then((X0 p1 5).bind fun y2=>exC y2 (fun y2=>none) (fun e1=>some (qK e1)))else((R9 p0 p2.term p3 y1.1 p4).bind fun y3=>some (qX (⟨p2.n,y3,false⟩:Y2)))

def N4(p0:Q0)(p1:Y8)(p2:Y2)(p3:Int):Option (Except (Z4) (Y6)):=
 (X1 p0 p3).bind fun y1=>bif y1 then((Q9o p1).bind fun y2=>bif y2 then((Q1x).bind fun y3=>some (qX y3))else((X1 p0 p3).bind fun y4=>bif (y4&&(p2.n==p3))then(some (qX p2.term))else((X1 p0 p3).bind fun y5=>bif ((!y5)&&(p2.n==1))then(some (qX p2.term))else((X0 p1.Pos 5).bind fun y6=>exC y6 (fun y6=>none) (fun e1=>some (qK e1))))))else((X1 p0 p3).bind fun y7=>bif (y7&&(p2.n==p3))then(some (qX p2.term))else((X1 p0 p3).bind fun y8=>bif ((!y8)&&(p2.n==1))then(some (qX p2.term))else((X0 p1.Pos 5).bind fun y9=>exC y9 (fun y9=>none) (fun e2=>some (qK e2)))))

def F6(p0:Q0)(p1:Int):Option (Int):=
 bif p1==2 then(some (1:Int))else(some p1)

def O0(p0:Q0)(p1:Y8)(p2:Y2)(p3:Int):Option (Except (Z4) (Y6)):=
 (N4 p0 p1 p2 p3).bind fun y1=>exC y1 (fun y1=>bif p3==2 then(some (qX (⟨17,0,0,0,false,0,false,false,([y1]:List Y6)⟩:Y6)))else(some (qX y1))) (fun e1=>some (qK e1))

def W5(p0:Q0)(p1:Pos)(p2:Y2):Option (Except (Z4×Q0) (Y2×Q0)):=
 bif !p2.lies then(some (qX (p2,p0)))else(jn (fun kk1=>(C3 p0.t p2.n).bind fun y1=>kk1 y1.1) (fun(x1:Q8v)=>(K2 p0.t p2.n).bind fun y2=>bif x1.Kind==4 then(jn (fun kk2=>bif p2.term.Kind !=2 then(kk2 (⟨13,0,0,0,false,y2,false,true,([p2.term]:List Y6)⟩:Y6))else(kk2 p2.term)) (fun(x2:Y6)=>(Q0y p0 p1 x1.Elem).bind fun y3=>exE y3 (fun y3=>some (qX ((⟨y3.1,x2,false⟩:Y2),y3.2)))))else((M0 p0.t p2.n).bind fun y4=>bif !y4 then((X0 p1 5).bind fun y5=>exC y5 (fun y5=>none) (fun e2=>some (qK (e2,p0))))else(jn (fun kk3=>bif p2.n==2 then(kk3 (1:Int))else(kk3 p2.n)) (fun(x3:Int)=>(X1 p0 x3).bind fun y6=>some (qX ((⟨x3,(⟨3,0,0,0,false,y2,false,y6,([p2.term]:List Y6)⟩:Y6),false⟩:Y2),p0)))))))

def Q4r(p0:Z7)(p1:Int)(p2:List UInt8):Option (K9×Int):=
 (I3 p0 p1).bind fun y1=>bif !y1 then(some ((⟨([]:List UInt8),0,0⟩:K9),(4:Int)))else((idx p0.list p1).bind fun u1=>bif u1.Type_.Kind !=5 then(some ((⟨([]:List UInt8),0,0⟩:K9),(5:Int)))else((idx p0.list p1).bind fun u2=>(X5 (fun(x1:Int)=>(bif decide (x1<(qQ u2.Type_.Fields:Int))then((idx u2.Type_.Fields x1).bind fun u3=>bif decide (u3.Name=p2)then(some (Lp.ret (u3,(0:Int))))else(some (Lp.go (qJ .i64 (x1+1)))))else(some (Lp.brk x1)):Option (Lp (Int) (K9×Int)))) NN (0:Int)).bind fun o=>o.thn (fun(x1:Int)=>some ((⟨([]:List UInt8),0,0⟩:K9),(4:Int))) (fun r=>some r)))

structure Z3u where
 K3:Q0->Y8->Option (Except (Z4×Q0) (Y6×Q0))
 V8:Q0->Y8->Option (Except (Z4×Q0) (Y6×Q0))
 P4:Q0->Y8->Option (Except (Z4×Q0) (Y2×Q0))
 E3:Q0->Int->Y8->Option (Except (Z4×Q0) (Y2×Q0))
 B5:Q0->Y8->Option (Except (Z4×Q0) (Y2×Q0))
 D5:Q0->Y8->Option (Except (Z4×Q0) (Y2×Q0))
 B6:Q0->Y8->Option (Except (Z4×Q0) (Y2×Q0))
 M4:Q0->Y8->Option (Except (Z4×Q0) (Y2×Q0))
 M5:Q0->Y8->Option (Except (Z4×Q0) (Y2×Q0))
 B4:Q0->Y8->Option (Except (Z4×Q0) (Y2×Q0))
 M3:Q0->Y8->Option (Except (Z4×Q0) (Y2×Q0))
 J1:Q0->Y8->Option (Except (Z4×Q0) (Y2×Q0))
 Z6:Q0->Y8->Option (Except (Z4×Q0) (Y2×Q0))

def Q1o(G:Z3u)(p0:Q0)(p1:Y8):Option (Except (Z4×Q0) (Y6×Q0)):=
 (G.Z6 p0 p1).bind fun y1=>exE y1 (fun y1=>bif y1.1.n !=1 then((X1 y1.2 y1.1.n).bind fun y2=>bif !y2 then((X0 p1.Pos 5).bind fun y3=>exC y3 (fun y3=>none) (fun e1=>some (qK (e1,y1.2))))else(some (qX (y1.1.term,y1.2))))else(some (qX (y1.1.term,y1.2))))
def Q0l(G:Z3u)(p0:Q0)(p1:Y8):Option (Except (Z4×Q0) (Y6×Q0)):=
 (G.Z6 p0 p1).bind fun y1=>exE y1 (fun y1=>bif y1.1.n !=1 then((X0 p1.Pos 5).bind fun y2=>exC y2 (fun y2=>none) (fun e1=>some (qK (e1,y1.2))))else(some (qX (y1.1.term,y1.2))))
def Q1j(G:Z3u)(p0:Q0)(p1:Y8):Option (Except (Z4×Q0) (Y2×Q0)):=
 (idx p1.Kids 0).bind fun u1=>jn (fun kk1=>bif decide (p1.Op=([38]:List UInt8))then((G.J1 p0 u1).bind fun y1=>exE y1 (fun y1=>jn (fun kk2=>(C3 y1.2.t y1.1.n).bind fun y2=>kk2 y2.1) (fun(x2:Q8v)=>bif ((!y1.1.lies)||(x2.Kind==4))then((X0 u1.Pos 5).bind fun y3=>exC y3 (fun y3=>none) (fun e1=>some (qK (e1,y1.2))))else((Q0y y1.2 p1.Pos y1.1.n).bind fun y4=>exC y4 (fun y4=>some (qX ((⟨y4.1,y1.1.term,false⟩:Y2),{y4.2 with fun_:=y1.2.fun_}))) (fun e2=>some (qK (e2.1,{e2.2 with fun_:=y1.2.fun_})))))))else(bif decide (p1.Op=([42]:List UInt8))then((G.Z6 p0 u1).bind fun y5=>exE y5 (fun y5=>(A0 y5.2 y5.1.n).bind fun y6=>bif !y6.2 then((X0 u1.Pos 5).bind fun y7=>exC y7 (fun y7=>none) (fun e4=>some (qK (e4,y5.2))))else(some (qX ((⟨y6.1,y5.1.term,true⟩:Y2),y5.2)))))else(bif decide (p1.Op=([33]:List UInt8))then((G.K3 p0 u1).bind fun y8=>exE y8 (fun y8=>some (qX ((⟨1,(⟨5,19,0,0,false,0,false,false,([y8.1]:List Y6)⟩:Y6),false⟩:Y2),y8.2))))else(bif decide (p1.Op=([45]:List UInt8))then(kk1 (17:Int))else(kk1 (18:Int)))))) (fun(x1:Int)=>(G.V8 p0 u1).bind fun y9=>exE y9 (fun y9=>some (qX ((⟨1,(⟨5,x1,0,0,false,0,false,false,([y9.1]:List Y6)⟩:Y6),false⟩:Y2),y9.2))))
def Q2o(G:Z3u)(p0:Q0)(p1:Int)(p2:Y8):Option (Except (Z4×Q0) (Y2×Q0)):=
 (idx p2.Kids 0).bind fun u1=>(G.K3 p0 u1).bind fun y1=>exE y1 (fun y1=>(idx p2.Kids 1).bind fun u2=>(G.K3 y1.2 u2).bind fun y2=>exE y2 (fun y2=>some (qX ((⟨1,(⟨p1,0,0,0,false,0,false,false,([y1.1,y2.1]:List Y6)⟩:Y6),false⟩:Y2),y2.2))))
def Q0r(G:Z3u)(p0:Q0)(p1:Y8):Option (Except (Z4×Q0) (Y2×Q0)):=
 bif decide (p1.Op=([38,38]:List UInt8))then((G.E3 p0 7 p1).bind fun y1=>exE y1 (fun y1=>some (qX (y1.1,y1.2))))else(bif decide (p1.Op=([124,124]:List UInt8))then((G.E3 p0 8 p1).bind fun y2=>exE y2 (fun y2=>some (qX (y2.1,y2.2))))else(jn (fun kk1=>(idx p1.Kids 0).bind fun u3=>(idx p1.Kids 1).bind fun u4=>kk1 u3 u4) (fun(x1:Y8)(x2:Y8)=>jn (fun kk2=>(G.Z6 p0 x1).bind fun y3=>exE y3 (fun y3=>(G.Z6 y3.2 x2).bind fun y4=>exE y4 (fun y4=>kk2 y4.2 y4.2.t y3.1 y4.1))) (fun(x12:Q0)(x13:Z7)(x14:Y2)(x15:Y2)=>(Z2q p1.Op).bind fun y5=>bif ((x14.n==1)&&(x15.n==1))then(some (qX ((⟨1,(⟨6,y5,0,0,false,0,false,false,([x14.term,x15.term]:List Y6)⟩:Y6),false⟩:Y2),{x12 with t:=x13})))else(bif ((y5==11)||(y5==12))then((Q4a ({x12 with t:=x13}) p1 x14 x15).bind fun y6=>exC y6 (fun y6=>some (qX (y6,{x12 with t:=x13}))) (fun e5=>some (qK (e5,{x12 with t:=x13}))))else(bif ((y5==1)&&(x14.n==1))then((Q0z ({x12 with t:=x13}) x2.Pos x15 x14.term y5).bind fun y7=>exC y7 (fun y7=>some (qX (y7,{x12 with t:=x13}))) (fun e6=>some (qK (e6,{x12 with t:=x13}))))else(bif (((y5==1)||(y5==2))&&(x15.n==1))then((Q0z ({x12 with t:=x13}) x1.Pos x14 x15.term y5).bind fun y8=>exC y8 (fun y8=>some (qX (y8,{x12 with t:=x13}))) (fun e7=>some (qK (e7,{x12 with t:=x13}))))else(bif x14.n !=1 then((X1 ({x12 with t:=x13}) x14.n).bind fun y9=>bif ((!y9)||((y5 !=1)&&(y5 !=2)))then((X0 x1.Pos 5).bind fun y10=>exC y10 (fun y10=>none) (fun e8=>some (qK (e8,{x12 with t:=x13}))))else((X0 x2.Pos 5).bind fun y11=>exC y11 (fun y11=>none) (fun e9=>some (qK (e9,{x12 with t:=x13})))))else((X0 x2.Pos 5).bind fun y12=>exC y12 (fun y12=>none) (fun e10=>some (qK (e10,{x12 with t:=x13}))))))))))))
def Q1m(G:Z3u)(p0:Q0)(p1:Y8):Option (Except (Z4×Q0) (Y2×Q0)):=
 (G.J1 p0 p1).bind fun y1=>exE y1 (fun y1=>bif !y1.1.lies then((X0 p1.Pos 5).bind fun y4=>exC y4 (fun y4=>none) (fun e2=>some (qK (e2,y1.2))))else((M0 y1.2.t y1.1.n).bind fun y2=>bif !y2 then((X0 p1.Pos 5).bind fun y3=>exC y3 (fun y3=>none) (fun e1=>some (qK (e1,y1.2))))else(some (qX (y1.1,y1.2)))))
def Q0s(G:Z3u)(p0:Q0)(p1:Y8):Option (Except (Z4×Q0) (Y2×Q0)):=
 jn (fun kk1=>(idx p1.Kids 0).bind fun u1=>(idx p1.Kids 1).bind fun u2=>kk1 u1 u2) (fun(x1:Y8)(x2:Y8)=>(G.D5 p0 x1).bind fun y1=>exE y1 (fun y1=>jn (fun kk2=>(K2 y1.2.t y1.1.n).bind fun y2=>(X1 y1.2 y1.1.n).bind fun y3=>kk2 (⟨4,0,0,0,false,y2,false,y3,[]⟩:Y6)) (fun(x3:Y6)=>bif decide (p1.Op=([61]:List UInt8))then((G.Z6 y1.2 x2).bind fun y4=>exE y4 (fun y4=>(N4 y4.2 x2 y4.1 y1.1.n).bind fun y5=>exC y5 (fun y5=>(F6 y4.2 y1.1.n).bind fun y6=>some (qX ((⟨y6,{x3 with Kids:=([y1.1.term,y5]:List Y6)},false⟩:Y2),y4.2))) (fun e1=>some (qK (e1,y4.2)))))else((sub p1.Op 0 (qJ .i64 ((qQ p1.Op:Int)-1))).bind fun u5=>(Z2q u5).bind fun y7=>jn (fun kk3=>bif x3.Ptr then((A0 y1.2 y1.1.n).bind fun y8=>bif ((!y8.2)||((y7 !=1)&&(y7 !=2)))then((X0 x1.Pos 5).bind fun y9=>exC y9 (fun y9=>none) (fun e3=>some (qK (e3,y1.2))))else((K2 y1.2.t y8.1).bind fun y10=>kk3 ({x3 with Kind:=16,Fn:=y7,Num:=qJ .u32 y10})))else(kk3 ({x3 with Kind:=16,Fn:=y7}))) (fun(x4:Y6)=>(G.V8 y1.2 x2).bind fun y11=>exE y11 (fun y11=>(F6 y11.2 y1.1.n).bind fun y12=>some (qX ((⟨y12,{x4 with Kids:=([y1.1.term,y11.1]:List Y6)},false⟩:Y2),y11.2))))))))
def Q2m(G:Z3u)(p0:Q0)(p1:Y8):Option (Except (Z4×Q0) (Y2×Q0)):=
 jn (fun kk1=>(idx p1.Kids 1).bind fun u1=>(idx p1.Kids 2).bind fun u2=>kk1 u1 u2) (fun(x1:Y8)(x2:Y8)=>(idx p1.Kids 0).bind fun u3=>(G.K3 p0 u3).bind fun y1=>exE y1 (fun y1=>jn (fun kk2=>(G.Z6 y1.2 x1).bind fun y2=>exE y2 (fun y2=>(G.Z6 y2.2 x2).bind fun y3=>exE y3 (fun y3=>kk2 y3.2 y3.2.t y2.1 y3.1))) (fun(x12:Q0)(x13:Z7)(x14:Y2)(x15:Y2)=>bif ((x14.n==1)&&(x15.n==1))then(some (qX ((⟨1,(⟨9,0,0,0,false,0,false,false,([y1.1,x14.term,x15.term]:List Y6)⟩:Y6),false⟩:Y2),{x12 with t:=x13})))else(jn (fun kk3=>(X1 ({x12 with t:=x13}) x14.n).bind fun y4=>bif y4 then(bif x14.n==x15.n then(kk3 true)else((Q9o x2).bind fun y5=>kk3 y5))else(kk3 false)) (fun(x16:Bool)=>bif x16 then((N4 ({x12 with t:=x13}) x2 x15 x14.n).bind fun y6=>exC y6 (fun y6=>(idx ([y1.1,x14.term,x15.term]:List Y6) 2).bind fun u6=>(idx ([y1.1,x14.term,x15.term]:List Y6) 2).bind fun u7=>some (qX ((⟨x14.n,(⟨9,0,0,0,false,0,false,true,qP ([y1.1,x14.term,x15.term]:List Y6) (qF 2) y6⟩:Y6),false⟩:Y2),{x12 with t:=x13}))) (fun e3=>some (qK (e3,{x12 with t:=x13}))))else((X1 ({x12 with t:=x13}) x15.n).bind fun y7=>bif y7 then((Q9o x1).bind fun y8=>bif y8 then((Q1x).bind fun y9=>(idx ([y1.1,x14.term,x15.term]:List Y6) 1).bind fun u9=>(idx ([y1.1,x14.term,x15.term]:List Y6) 1).bind fun u10=>some (qX ((⟨x15.n,(⟨9,0,0,0,false,0,false,true,qP ([y1.1,x14.term,x15.term]:List Y6) (qF 1) y9⟩:Y6),false⟩:Y2),{x12 with t:=x13})))else(bif x14.n !=1 then((X1 ({x12 with t:=x13}) x14.n).bind fun y10=>bif !y10 then((X0 x1.Pos 5).bind fun y11=>exC y11 (fun y11=>none) (fun e4=>some (qK (e4,{x12 with t:=x13}))))else((X0 x2.Pos 5).bind fun y12=>exC y12 (fun y12=>none) (fun e5=>some (qK (e5,{x12 with t:=x13})))))else((X0 x2.Pos 5).bind fun y13=>exC y13 (fun y13=>none) (fun e6=>some (qK (e6,{x12 with t:=x13}))))))else(bif x14.n !=1 then((X1 ({x12 with t:=x13}) x14.n).bind fun y14=>bif !y14 then((X0 x1.Pos 5).bind fun y15=>exC y15 (fun y15=>none) (fun e7=>some (qK (e7,{x12 with t:=x13}))))else((X0 x2.Pos 5).bind fun y16=>exC y16 (fun y16=>none) (fun e8=>some (qK (e8,{x12 with t:=x13})))))else((X0 x2.Pos 5).bind fun y17=>exC y17 (fun y17=>none) (fun e9=>some (qK (e9,{x12 with t:=x13})))))))))))
def Q2n(G:Z3u)(p0:Q0)(p1:Y8):Option (Except (Z4×Q0) (Y2×Q0)):=
 bif decide (p1.Name=([105,110]:List UInt8))then(some (qX ((⟨1,(⟨12,0,0,0,false,0,false,false,[]⟩:Y6),false⟩:Y2),p0)))else(bif decide (p1.Name=([111,117,116]:List UInt8))then((idx p1.Kids 0).bind fun u1=>(G.V8 p0 u1).bind fun y1=>exE y1 (fun y1=>some (qX ((⟨0,(⟨11,0,0,0,false,0,false,false,([y1.1]:List Y6)⟩:Y6),false⟩:Y2),y1.2))))else(jn (fun kk1=>(O3.isNil p0.fun_).bind fun u3=>bif !u3 then((O3.get p0.fun_).bind fun u4=>(Q0w u4 p1.Name).bind fun y2=>bif y2.2 then(kk1 false)else(kk1 ((D3 p0.codes p1.Name).isSome)))else(kk1 ((D3 p0.codes p1.Name).isSome))) (fun(x1:Bool)=>bif !x1 then((X0 p1.Pos 4).bind fun y3=>exC y3 (fun y3=>none) (fun e2=>some (qK (e2,p0))))else((idx p0.signs ((D3 p0.codes p1.Name).getD 0)).bind fun u6=>(X1 p0 u6.ret).bind fun y4=>(X5 (fun(x12,x13,x14,x15)=>(bif decide (x12<(qQ p1.Kids:Int))then(jn (fun kk2=>(idx p1.Kids x12).bind fun u7=>(G.Z6 ({x14 with t:=x15}) u7).bind fun y5=>exL y5 (fun y5=>bif decide (x12<(qQ u6.params:Int))then((idx u6.params x12).bind fun u8=>(O0 y5.2 u7 y5.1 u8).bind fun y6=>exC y6 (fun y6=>(L1 (qQ x13.Kids+qQ ([y6]:List Y6))).bind fun _=>kk2 ({x13 with Kids:=x13.Kids++([y6]:List Y6)}) y5.2 y5.2.t) (fun e3=>some (Lp.ret (qK (e3,y5.2)))))else(kk2 x13 y5.2 y5.2.t))) (fun(x26:Y6)(x27:Q0)(x28:Z7)=>some (Lp.go (qJ .i64 (x12+1),x26,{x27 with t:=x28},x28))))else(some (Lp.brk (x12,x13,{x14 with t:=x15},x15))):Option (Lp (Int×Y6×Q0×Z7) (Except (Z4×Q0) (Y2×Q0))))) NN ((0:Int),(⟨10,0,0,(D3 p0.codes p1.Name).getD 0,false,0,false,y4,[]⟩:Y6),p0,p0.t)).bind fun o=>o.thn (fun(x12,x13,x14,x15)=>bif (qQ p1.Kids:Int)!=(qQ u6.params:Int)then((X0 p1.Pos 5).bind fun y7=>exC y7 (fun y7=>none) (fun e5=>some (qK (e5,{x14 with t:=x15}))))else((F6 ({x14 with t:=x15}) u6.ret).bind fun y8=>some (qX ((⟨y8,x13,false⟩:Y2),{x14 with t:=x15})))) (fun r=>some r)))))
def Q0m(G:Z3u)(p0:Q0)(p1:Y8):Option (Except (Z4×Q0) (Y2×Q0)):=
 (idx p1.Kids 0).bind fun u1=>(G.J1 p0 u1).bind fun y1=>exE y1 (fun y1=>jn (fun kk1=>bif decide (p1.Op=([45,62]:List UInt8))then((W5 y1.2 u1.Pos y1.1).bind fun y2=>exC y2 (fun y2=>(A0 ({y2.2 with fun_:=y1.2.fun_}) y2.1.n).bind fun y3=>bif !y3.2 then((X0 u1.Pos 5).bind fun y4=>exC y4 (fun y4=>none) (fun e1=>some (qK (e1,{y2.2 with fun_:=y1.2.fun_}))))else(kk1 (⟨y3.1,y2.1.term,true⟩:Y2) ({y2.2 with fun_:=y1.2.fun_}) y2.2.t)) (fun e2=>some (qK (e2.1,{e2.2 with fun_:=y1.2.fun_}))))else(kk1 y1.1 y1.2 y1.2.t)) (fun(x10:Y2)(x11:Q0)(x12:Z7)=>jn (fun kk2=>(C3 x12 x10.n).bind fun y5=>kk2 y5.1) (fun(x13:Q8v)=>bif ((!x10.lies)||(x13.Kind !=5))then((X0 u1.Pos 5).bind fun y6=>exC y6 (fun y6=>none) (fun e3=>some (qK (e3,{x11 with t:=x12}))))else(jn (fun kk3=>(Q4r x12 x10.n p1.Name).bind fun y7=>kk3 y7.1 y7.2) (fun(x14:K9)(x15:Int)=>(R8 p1.Pos x15).bind fun y8=>exC y8 (fun y8=>jn (fun kk4=>(K2 x12 x14.Type_).bind fun y9=>kk4 (⟨13,0,qJ .u32 x14.At,0,false,y9,false,true,([x10.term]:List Y6)⟩:Y6)) (fun(x16:Y6)=>some (qX ((⟨x14.Type_,x16,true⟩:Y2),{x11 with t:=x12})))) (fun e4=>some (qK (e4,{x11 with t:=x12}))))))))
def Q2i(G:Z3u)(p0:Q0)(p1:Y8):Option (Except (Z4×Q0) (Y2×Q0)):=
 (idx p1.Kids 0).bind fun u1=>(G.D5 p0 u1).bind fun y1=>exE y1 (fun y1=>jn (fun kk1=>(X1 y1.2 y1.1.n).bind fun y2=>bif y2 then((A0 y1.2 y1.1.n).bind fun y3=>bif !y3.2 then((X0 u1.Pos 5).bind fun y4=>exC y4 (fun y4=>none) (fun e1=>some (qK (e1,y1.2))))else((K2 y1.2.t y3.1).bind fun y5=>kk1 y5))else(kk1 (1:Int))) (fun(x1:Int)=>jn (fun kk2=>bif decide (p1.Op=([45,45]:List UInt8))then(kk2 (qJ .i64 (0-x1)))else(kk2 x1)) (fun(x2:Int)=>jn (fun kk3=>(K2 y1.2.t y1.1.n).bind fun y6=>(X1 y1.2 y1.1.n).bind fun y7=>kk3 (⟨15,0,qJ .u32 x2,0,false,y6,p1.Kind==11,y7,([y1.1.term]:List Y6)⟩:Y6)) (fun(x3:Y6)=>(F6 y1.2 y1.1.n).bind fun y8=>some (qX ((⟨y8,x3,false⟩:Y2),y1.2))))))
def Q2l(G:Z3u)(p0:Q0)(p1:Y8):Option (Except (Z4×Q0) (Y2×Q0)):=
 bif p1.Kind==1 then(some (qX ((⟨1,(⟨1,0,p1.Num,0,false,0,false,false,[]⟩:Y6),false⟩:Y2),p0)))else(bif p1.Kind==2 then((Q5l p0 p1).bind fun y1=>exE y1 (fun y1=>some (qX (y1.1,y1.2))))else(bif p1.Kind==3 then((G.P4 p0 p1).bind fun y2=>exE y2 (fun y2=>some (qX (y2.1,y2.2))))else(bif p1.Kind==4 then((G.B5 p0 p1).bind fun y3=>exE y3 (fun y3=>some (qX (y3.1,y3.2))))else(bif p1.Kind==5 then((G.B6 p0 p1).bind fun y4=>exE y4 (fun y4=>some (qX (y4.1,y4.2))))else(bif p1.Kind==6 then((G.M4 p0 p1).bind fun y5=>exE y5 (fun y5=>some (qX (y5.1,y5.2))))else(bif p1.Kind==7 then((G.M5 p0 p1).bind fun y6=>exE y6 (fun y6=>some (qX (y6.1,y6.2))))else(bif p1.Kind==8 then((idx p1.Kids 0).bind fun u7=>(G.Z6 p0 u7).bind fun y7=>exE y7 (fun y7=>(A0 y7.2 y7.1.n).bind fun y8=>bif !y8.2 then((idx p1.Kids 0).bind fun u8=>(X0 u8.Pos 5).bind fun y9=>exC y9 (fun y9=>none) (fun e7=>some (qK (e7,y7.2))))else((idx p1.Kids 1).bind fun u10=>(G.V8 y7.2 u10).bind fun y10=>exE y10 (fun y10=>(R9 y10.2 y7.1.term y10.1 y8.1 1).bind fun y11=>some (qX ((⟨y8.1,y11,true⟩:Y2),y10.2))))))else(bif p1.Kind==9 then((G.B4 p0 p1).bind fun y12=>exE y12 (fun y12=>some (qX (y12.1,y12.2))))else(jn (fun kk1=>bif p1.Kind==10 then(kk1 (p1.Kind==10))else(kk1 (p1.Kind==11))) (fun(x1:Bool)=>bif x1 then((G.M3 p0 p1).bind fun y13=>exE y13 (fun y13=>some (qX (y13.1,y13.2))))else((B3 p0 p1.Pos p1.Type_).bind fun y14=>exC y14 (fun y14=>(K2 y14.2.t y14.1).bind fun y15=>bif y15==0 then((X0 p1.Pos 5).bind fun y16=>exC y16 (fun y16=>none) (fun e12=>some (qK (e12,{y14.2 with fun_:=p0.fun_}))))else((K2 y14.2.t y14.1).bind fun y17=>some (qX ((⟨1,(⟨1,0,qJ .u32 y17,0,false,0,false,false,[]⟩:Y6),false⟩:Y2),{y14.2 with fun_:=p0.fun_})))) (fun e13=>some (qK (e13.1,{e13.2 with fun_:=p0.fun_}))))))))))))))
def Q1i(G:Z3u)(p0:Q0)(p1:Y8):Option (Except (Z4×Q0) (Y2×Q0)):=
 (G.J1 p0 p1).bind fun y1=>exE y1 (fun y1=>(W5 y1.2 p1.Pos y1.1).bind fun y2=>exC y2 (fun y2=>some (qX (y2.1,{y2.2 with fun_:=y1.2.fun_}))) (fun e1=>some (qK (e1.1,{e1.2 with fun_:=y1.2.fun_}))))
def O8:Nat->Z3u
 |0=>⟨fun _ _=>none,fun _ _=>none,fun _ _=>none,fun _ _ _=>none,fun _ _=>none,fun _ _=>none,fun _ _=>none,fun _ _=>none,fun _ _=>none,fun _ _=>none,fun _ _=>none,fun _ _=>none,fun _ _=>none⟩
 |n+1=>⟨Q1o (O8 n),Q0l (O8 n),Q1j (O8 n),Q2o (O8 n),Q0r (O8 n),Q1m (O8 n),Q0s (O8 n),Q2m (O8 n),Q2n (O8 n),Q0m (O8 n),Q2i (O8 n),Q2l (O8 n),Q1i (O8 n)⟩
def K3(p0:Q0)(p1:Y8):Option (Except (Z4×Q0) (Y6×Q0)):=(O8 NN).K3 p0 p1
def V8(p0:Q0)(p1:Y8):Option (Except (Z4×Q0) (Y6×Q0)):=(O8 NN).V8 p0 p1
def P4(p0:Q0)(p1:Y8):Option (Except (Z4×Q0) (Y2×Q0)):=(O8 NN).P4 p0 p1
def E3(p0:Q0)(p1:Int)(p2:Y8):Option (Except (Z4×Q0) (Y2×Q0)):=(O8 NN).E3 p0 p1 p2
def B5(p0:Q0)(p1:Y8):Option (Except (Z4×Q0) (Y2×Q0)):=(O8 NN).B5 p0 p1
def D5(p0:Q0)(p1:Y8):Option (Except (Z4×Q0) (Y2×Q0)):=(O8 NN).D5 p0 p1
def B6(p0:Q0)(p1:Y8):Option (Except (Z4×Q0) (Y2×Q0)):=(O8 NN).B6 p0 p1
def M4(p0:Q0)(p1:Y8):Option (Except (Z4×Q0) (Y2×Q0)):=(O8 NN).M4 p0 p1
def M5(p0:Q0)(p1:Y8):Option (Except (Z4×Q0) (Y2×Q0)):=(O8 NN).M5 p0 p1
def B4(p0:Q0)(p1:Y8):Option (Except (Z4×Q0) (Y2×Q0)):=(O8 NN).B4 p0 p1
def M3(p0:Q0)(p1:Y8):Option (Except (Z4×Q0) (Y2×Q0)):=(O8 NN).M3 p0 p1
def J1(p0:Q0)(p1:Y8):Option (Except (Z4×Q0) (Y2×Q0)):=(O8 NN).J1 p0 p1
def Z6(p0:Q0)(p1:Y8):Option (Except (Z4×Q0) (Y2×Q0)):=(O8 NN).Z6 p0 p1

def Q5j(p0:Int):Option (Int):=
 bif p0==1 then(some (0:Int))else(jn (fun kk1=>bif p0==5 then(kk1 (p0==5))else(kk1 (p0==17))) (fun(x1:Bool)=>bif x1 then(some (1:Int))else(jn (fun kk2=>bif p0==6 then(kk2 (p0==6))else(bif p0==7 then(kk2 (p0==7))else(kk2 (p0==8)))) (fun(x2:Bool)=>bif x2 then(some (2:Int))else(bif p0==9 then(some (3:Int))else(some ((-1):Int)))))))

structure Rec4 where
 D9:Y6->Option (Bool)

def Q3n(G:Rec4)(p0:Y6):Option (Bool):=
 (Q5j p0.Kind).bind fun y1=>bif (qQ p0.Kids:Int)!=y1 then(some false)else((X5 (fun(x1:Int)=>(bif decide (x1<(qQ p0.Kids:Int))then((idx p0.Kids x1).bind fun u1=>(G.D9 u1).bind fun y2=>bif !y2 then(some (Lp.ret false))else(some (Lp.go (qJ .i64 (x1+1)))))else(some (Lp.brk x1)):Option (Lp (Int) (Bool)))) NN (0:Int)).bind fun o=>o.thn (fun(x1:Int)=>some true) (fun r=>some r))
def Y5e:Nat->Rec4
 |0=>⟨fun _=>none⟩
 |n+1=>⟨Q3n (Y5e n)⟩
def D9(p0:Y6):Option (Bool):=(Y5e NN).D9 p0

def Y6t(p0:Int)(p1:Int):Option (Int):=
 some (qJ .u32 (p0+p1))

def Y3t(p0:Int)(p1:Int):Option (Int):=
 some (qJ .u32 (p0-p1))

def Y6s(p0:Int)(p1:Int):Option (Int):=
 some (qJ .u32 (p0*p1))

def Z8g(p0:Int)(p1:Int):Option (Int):=
 (nz p1).bind fun _=>some (qJ .i64 (Int.tdiv p0 p1))

def Z6j(p0:Int)(p1:Int):Option (Int):=
 (Z8g (qJ .i64 (qJ .i32 p0)) (qJ .i64 (qJ .i32 p1))).bind fun y1=>some y1

def Y0p(p0:Int)(p1:Int):Option (Int):=
 bif p1==0 then(some (4294967295:Int))else((Z6j p0 p1).bind fun y1=>some (qJ .u32 y1))

def Z8f(p0:Int)(p1:Int):Option (Int):=
 (nz p1).bind fun _=>some (Int.tmod p0 p1)

def Z4m(p0:Int)(p1:Int):Option (Int):=
 (Z8f (qJ .i64 (qJ .i32 p0)) (qJ .i64 (qJ .i32 p1))).bind fun y1=>some y1

def Y0n(p0:Int)(p1:Int):Option (Int):=
 bif p1==0 then(some p0)else((Z4m p0 p1).bind fun y1=>some (qJ .u32 y1))

def Z7i(p0:Int)(p1:Int):Option (Int):=
 (nn (bits .and .u32 p1 31)).bind fun _=>some (qJ .u32 (p0*2^(min (qF (bits .and .u32 p1 31)) (IntKind.bits .u32))))

def Z4q(p0:Int)(p1:Int):Option (Int):=
 (nn (bits .and .u32 p1 31)).bind fun _=>some (qJ .u32 (Int.fdiv (qJ .i32 p0) (2^(min (qF (bits .and .u32 p1 31)) (IntKind.bits .i32)))))

def Q9z(p0:Bool):Option (Int):=
 bif p0 then(some (1:Int))else(some (0:Int))

def Y3r(p0:Bool):Option (Int):=
 bif p0 then(some (1:Int))else(some (0:Int))

def Z2r(p0:Int)(p1:Int):Option (Int):=
 (Y3r (decide ((qJ .i32 p0)<(qJ .i32 p1)))).bind fun y1=>some y1

def Z2c(p0:Int)(p1:Int)(p2:Int):Option (Int×Int):=
 bif p0==11 then((Q9z (p1==p2)).bind fun y1=>some (y1,(0:Int)))else(bif p0==12 then((Q9z (p1 !=p2)).bind fun y2=>some (y2,(0:Int)))else(bif p0==13 then((Z2r p1 p2).bind fun y3=>some (y3,(0:Int)))else(bif p0==14 then((Z2r p2 p1).bind fun y4=>some (y4,(0:Int)))else(bif p0==15 then((Z2r p2 p1).bind fun y5=>some (qJ .u32 (1-y5),(0:Int)))else(bif p0==16 then((Z2r p1 p2).bind fun y6=>some (qJ .u32 (1-y6),(0:Int)))else(some ((0:Int),(1:Int))))))))

def Q7l(p0:Int)(p1:Int)(p2:Int):Option (Int×Int):=
 bif p0==1 then((Y6t p1 p2).bind fun y1=>some (y1,(0:Int)))else(bif p0==2 then((Y3t p1 p2).bind fun y2=>some (y2,(0:Int)))else(bif p0==3 then((Y6s p1 p2).bind fun y3=>some (y3,(0:Int)))else(jn (fun kk1=>bif p0==4 then(kk1 (p0==4))else(kk1 (p0==5))) (fun(x1:Bool)=>bif x1 then(bif p2==0 then(some ((0:Int),(11:Int)))else(bif p0==4 then((Y0p p1 p2).bind fun y4=>some (y4,(0:Int)))else((Y0n p1 p2).bind fun y5=>some (y5,(0:Int)))))else(bif p0==6 then(some (bits .and .u32 p1 p2,(0:Int)))else(bif p0==7 then(some (bits .or .u32 p1 p2,(0:Int)))else(bif p0==8 then(some (bits .xor .u32 p1 p2,(0:Int)))else(bif p0==9 then((Z7i p1 p2).bind fun y6=>some (y6,(0:Int)))else(bif p0==10 then((Z4q p1 p2).bind fun y7=>some (y7,(0:Int)))else(bif p0==17 then((Y3t 0 p1).bind fun y8=>some (y8,(0:Int)))else(bif p0==18 then(some (bits .xor .u32 (if IntKind.signed .u32 then -1 else IntKind.max .u32) p1,(0:Int)))else(bif p0==19 then((Q9z (p1==0)).bind fun y9=>some (y9,(0:Int)))else((Z2c p0 p1 p2).bind fun y10=>some (y10.1,y10.2))))))))))))))

structure Rec5 where
 H5:Y6->Option (Int×Int)

def Z3o(G:Rec5)(p0:Y6):Option (Int×Int):=
 bif p0.Kind==1 then(some (p0.Num,(0:Int)))else((idx p0.Kids 0).bind fun u1=>(G.H5 u1).bind fun y1=>bif y1.2 !=0 then(some ((0:Int),y1.2))else(jn (fun kk1=>bif p0.Kind==17 then(some (bits .and .u32 y1.1 255,(0:Int)))else(bif p0.Kind==5 then((Q7l p0.Fn y1.1 0).bind fun y2=>some (y2.1,y2.2))else(bif p0.Kind==9 then(bif y1.1 !=0 then((idx p0.Kids 1).bind fun u2=>(G.H5 u2).bind fun y3=>some (y3.1,y3.2))else((idx p0.Kids 2).bind fun u3=>(G.H5 u3).bind fun y4=>some (y4.1,y4.2)))else(jn (fun kk2=>bif p0.Kind==7 then(kk2 (p0.Kind==7))else(kk2 (p0.Kind==8))) (fun(x1:Bool)=>bif x1 then(bif (y1.1 !=0)==(p0.Kind==8)then((Q9z (y1.1 !=0)).bind fun y5=>some (y5,(0:Int)))else(kk1 ()))else(kk1 ())))))) (fun(_:Unit)=>(idx p0.Kids 1).bind fun u4=>(G.H5 u4).bind fun y6=>bif y6.2 !=0 then(some ((0:Int),y6.2))else(bif p0.Kind !=6 then((Q9z (y6.1 !=0)).bind fun y7=>some (y7,(0:Int)))else((Q7l p0.Fn y1.1 y6.1).bind fun y8=>some (y8.1,y8.2))))))
def rec5:Nat->Rec5
 |0=>⟨fun _=>none⟩
 |n+1=>⟨Z3o (rec5 n)⟩
def H5(p0:Y6):Option (Int×Int):=(rec5 NN).H5 p0

def Z6h(p0:Y6):Option (Int×Int):=
 (D9 p0).bind fun y1=>bif !y1 then(some ((0:Int),(9:Int)))else((H5 p0).bind fun y2=>some (y2.1,y2.2))

def Q5m(p0:Q0)(p1:M7)(p2:Int):Option (Except (Z4×Q0) ((List Int)×Q0)):=
 (K2 p0.t p2).bind fun y1=>(repl y1 0).bind fun u1=>(Q1a p0 p1 p2).bind fun y2=>exC y2 (fun y2=>(X5 (fun(x1,x11,x12,x13)=>(bif decide (x11<(qQ y2:Int))then((idx y2 x11).bind fun u2=>jn (fun kk1=>(Z6 ({x12 with t:=x13}) u2).bind fun y3=>exL y3 (fun y3=>(L9 y3.2 p2).bind fun y4=>(N4 y3.2 u2 y3.1 y4).bind fun y5=>exC y5 (fun y5=>kk1 y3.2 y3.2.t y5) (fun e2=>some (Lp.ret (qK (e2,y3.2)))))) (fun(x23:Q0)(x24:Z7)(x25:Y6)=>(Z6h x25).bind fun y6=>(R8 u2.Pos y6.2).bind fun y7=>exC y7 (fun y7=>(L9 ({x23 with t:=x24}) p2).bind fun y8=>(W6 ({x23 with t:=x24}) y8).bind fun y9=>(X5 (fun(x26,x27)=>(bif decide (x27<y9)then((nn (qJ .i64 (8*x27))).bind fun _=>(idx x26 (qJ .i64 ((qJ .i64 (y9*x11))+x27))).bind fun u5=>(idx x26 (qJ .i64 ((qJ .i64 (y9*x11))+x27))).bind fun u6=>some (Lp.go (qP x26 (qF (qJ .i64 ((qJ .i64 (y9*x11))+x27))) (qJ .u8 (Int.fdiv y6.1 (2^(min (qF (qJ .i64 (8*x27))) (IntKind.bits .u32))))),qJ .i64 (x27+1))))else(some (Lp.brk (x26,x27))):Option (Lp ((List Int)×Int) (Unit)))) NN (x1,(0:Int))).bind fun o=>o.thn (fun(x26,x27)=>some (Lp.go (x26,qJ .i64 (x11+1),{x23 with t:=x24},x24))) (fun _=>none)) (fun e3=>some (Lp.ret (qK (e3,{x23 with t:=x24}))))))else(some (Lp.brk (x1,x11,{x12 with t:=x13},x13))):Option (Lp ((List Int)×Int×Q0×Z7) (Except (Z4×Q0) ((List Int)×Q0))))) NN (u1,(0:Int),p0,p0.t)).bind fun o=>o.thn (fun(x1,x11,x12,x13)=>some (qX (x1,{x12 with t:=x13}))) (fun r=>some r)) (fun e4=>some (qK (e4,p0)))

def Q2k(p0:Q0)(p1:M7):Option (Except (Z4×Q0) (Q0)):=
 (Q0x p0 p1).bind fun y1=>exC y1 (fun y1=>(Q3z ({y1.2 with fun_:=p0.fun_}) p1.Pos p1.Name).bind fun y2=>exC y2 (fun y2=>(Q1s ({y2 with fun_:=p0.fun_}) p1.Name y1.1).bind fun y3=>(L1 (qQ y2.u.Globals+qQ ([y3]:List Z3z))).bind fun _=>(L1 (qQ y2.gtypes+qQ ([y1.1]:List Int))).bind fun _=>(Q5m ({y2 with u:={y2.u with Globals:=y2.u.Globals++([y3]:List Z3z)},gtypes:=y2.gtypes++([y1.1]:List Int),fun_:=p0.fun_}) p1 y1.1).bind fun y4=>exE y4 (fun y4=>(L1 (qQ y4.2.u.Data+qQ ([y4.1]:List (List Int)))).bind fun _=>some (qX ({y4.2 with u:={y4.2.u with Data:=y4.2.u.Data++([y4.1]:List (List Int))}})))) (fun e2=>some (qK (e2.1,{e2.2 with fun_:=p0.fun_})))) (fun e3=>some (qK (e3.1,{e3.2 with fun_:=p0.fun_})))

def L3(p0:Q0)(p1:Pos)(p2:List UInt8):Option (Except (Z4×Q0) (Q0)):=
 bif (((D3 p0.globals p2).isSome)||((D3 p0.codes p2).isSome))then((X0 p1 6).bind fun y1=>exC y1 (fun y1=>none) (fun e1=>some (qK (e1,p0))))else(bif (Z3w p0.codes:Int)==200 then((X0 p1 2).bind fun y2=>exC y2 (fun y2=>none) (fun e2=>some (qK (e2,p0))))else((p0.codes).bind fun u3=>some (qX ({p0 with codes:=(some (Q9u u3 p2 (Z3w p0.codes:Int)))}))))

def Q2j(p0:Q0)(p1:Q1d):Option (Except (Z4×Q0) (Q0)):=
 (B3 p0 p1.Pos p1.Ret).bind fun y1=>exE y1 (fun y1=>bif y1.1 !=0 then((M0 y1.2.t y1.1).bind fun y2=>bif !y2 then((X0 p1.Pos 5).bind fun y3=>exC y3 (fun y3=>none) (fun e1=>some (qK (e1,y1.2))))else((L3 y1.2 p1.Pos p1.Name).bind fun y4=>exE y4 (fun y4=>bif decide (6<(qQ p1.Params:Int))then((X0 p1.Pos 2).bind fun y5=>exC y5 (fun y5=>none) (fun e2=>some (qK (e2,y4))))else((X5 (fun(x10,x11,x12,x13)=>(bif decide (x10<(qQ p1.Params:Int))then((idx p1.Params x10).bind fun u3=>(B3 ({x12 with t:=x13}) u3.Pos u3.Type_).bind fun y6=>exL y6 (fun y6=>(M0 y6.2.t y6.1).bind fun y7=>bif !y7 then((X0 u3.Pos 5).bind fun y8=>exC y8 (fun y8=>none) (fun e3=>some (Lp.ret (qK (e3,y6.2)))))else((L1 (qQ x11.params+qQ ([y6.1]:List Int))).bind fun _=>some (Lp.go (qJ .i64 (x10+1),(⟨x11.ret,x11.params++([y6.1]:List Int)⟩:A1),y6.2,y6.2.t)))))else(some (Lp.brk (x10,x11,{x12 with t:=x13},x13))):Option (Lp (Int×A1×Q0×Z7) (Except (Z4×Q0) (Q0))))) NN ((0:Int),(⟨y1.1,[]⟩:A1),y4,y4.t)).bind fun o=>o.thn (fun(x10,x11,x12,x13)=>(L1 (qQ x12.signs+qQ ([x11]:List A1))).bind fun _=>(L1 (qQ x12.u.Codes+qQ ([(⟨p1.Name,y1.1==0,(qQ p1.Params:Int),[],[]⟩:Q4n)]:List Q4n))).bind fun _=>some (qX ({x12 with t:=x13,u:={x12.u with Codes:=x12.u.Codes++([(⟨p1.Name,y1.1==0,(qQ p1.Params:Int),[],[]⟩:Q4n)]:List Q4n)},signs:=x12.signs++([x11]:List A1)}))) (fun r=>some r)))))else((L3 y1.2 p1.Pos p1.Name).bind fun y9=>exE y9 (fun y9=>bif decide (6<(qQ p1.Params:Int))then((X0 p1.Pos 2).bind fun y10=>exC y10 (fun y10=>none) (fun e6=>some (qK (e6,y9))))else((X5 (fun(x23,x24,x25,x26)=>(bif decide (x23<(qQ p1.Params:Int))then((idx p1.Params x23).bind fun u8=>(B3 ({x25 with t:=x26}) u8.Pos u8.Type_).bind fun y11=>exL y11 (fun y11=>(M0 y11.2.t y11.1).bind fun y12=>bif !y12 then((X0 u8.Pos 5).bind fun y13=>exC y13 (fun y13=>none) (fun e7=>some (Lp.ret (qK (e7,y11.2)))))else((L1 (qQ x24.params+qQ ([y11.1]:List Int))).bind fun _=>some (Lp.go (qJ .i64 (x23+1),(⟨x24.ret,x24.params++([y11.1]:List Int)⟩:A1),y11.2,y11.2.t)))))else(some (Lp.brk (x23,x24,{x25 with t:=x26},x26))):Option (Lp (Int×A1×Q0×Z7) (Except (Z4×Q0) (Q0))))) NN ((0:Int),(⟨y1.1,[]⟩:A1),y9,y9.t)).bind fun o=>o.thn (fun(x23,x24,x25,x26)=>(L1 (qQ x25.signs+qQ ([x24]:List A1))).bind fun _=>(L1 (qQ x25.u.Codes+qQ ([(⟨p1.Name,y1.1==0,(qQ p1.Params:Int),[],[]⟩:Q4n)]:List Q4n))).bind fun _=>some (qX ({x25 with t:=x26,u:={x25.u with Codes:=x25.u.Codes++([(⟨p1.Name,y1.1==0,(qQ p1.Params:Int),[],[]⟩:Q4n)]:List Q4n)},signs:=x25.signs++([x24]:List A1)}))) (fun r=>some r)))))

def Q1t(p0:Q0)(p1:List Q1d):Option (Except (Z4×Q0) (Q0)):=
 bif !((D3 p0.codes ([109,97,105,110]:List UInt8)).isSome)then((X0 (⟨1,1⟩:Pos) 4).bind fun y1=>exC y1 (fun y1=>none) (fun e1=>some (qK (e1,p0))))else((idx p0.signs ((D3 p0.codes ([109,97,105,110]:List UInt8)).getD 0)).bind fun u2=>bif decide (0<(qQ u2.params:Int))then((idx p1 ((D3 p0.codes ([109,97,105,110]:List UInt8)).getD 0)).bind fun u6=>(X0 u6.Pos 5).bind fun y3=>exC y3 (fun y3=>none) (fun e3=>some (qK (e3,p0))))else((idx p0.signs ((D3 p0.codes ([109,97,105,110]:List UInt8)).getD 0)).bind fun u3=>bif u3.ret !=1 then((idx p1 ((D3 p0.codes ([109,97,105,110]:List UInt8)).getD 0)).bind fun u4=>(X0 u4.Pos 5).bind fun y2=>exC y2 (fun y2=>none) (fun e2=>some (qK (e2,p0))))else(some (qX ({p0 with u:={p0.u with Main:=(D3 p0.codes ([109,97,105,110]:List UInt8)).getD 0}})))))

def S9(p0:Q0)(p1:Pos)(p2:List UInt8)(p3:Int):Option (Except (Z4×Q0) (Int×Q0)):=
 (O3.get p0.fun_).bind fun u1=>(idx u1.scopes (qJ .i64 ((qQ u1.scopes:Int)-1))).bind fun u2=>bif (D3 u2 p2).isSome then((X0 p1 6).bind fun y1=>exC y1 (fun y1=>none) (fun e1=>some (qK (e1,p0))))else(bif (qQ u1.slots:Int)==200 then((X0 p1 2).bind fun y2=>exC y2 (fun y2=>none) (fun e2=>some (qK (e2,p0))))else((u2).bind fun u5=>(Q1s ({p0 with fun_:=(O3.some ({u1 with scopes:=qP u1.scopes (qF (qJ .i64 ((qQ u1.scopes:Int)-1))) (some (Q9u u5 p2 (qQ u1.slots:Int)))}))}) p2 p3).bind fun y3=>(L1 (qQ u1.slots+qQ ([y3]:List Z3z))).bind fun _=>(L1 (qQ u1.types+qQ ([p3]:List Int))).bind fun _=>some (qX (qJ .i64 ((qQ (u1.slots++([y3]:List Z3z)):Int)-1),{p0 with fun_:=(O3.some ({u1 with slots:=u1.slots++([y3]:List Z3z),types:=u1.types++([p3]:List Int),scopes:=qP u1.scopes (qF (qJ .i64 ((qQ u1.scopes:Int)-1))) (some (Q9u u5 p2 (qQ u1.slots:Int)))}))}))))

def S0(p0:Q0)(p1:Y8):Option (Except (Z4×Q0) (K1×Q0)):=
 (J1 p0 p1).bind fun y1=>exE y1 (fun y1=>jn (fun kk1=>bif y1.1.lies then((M0 y1.2.t y1.1.n).bind fun y2=>bif y2 then((W5 y1.2 p1.Pos y1.1).bind fun y3=>exC y3 (fun y3=>kk1 y3.1 ({y3.2 with fun_:=y1.2.fun_}) y3.2.t) (fun e1=>some (qK (e1.1,{e1.2 with fun_:=y1.2.fun_}))))else(kk1 y1.1 y1.2 y1.2.t))else(kk1 y1.1 y1.2 y1.2.t)) (fun(x10:Y2)(x11:Q0)(x12:Z7)=>some (qX ((⟨1,([x10.term]:List Y6),[],false,[],[],[],0⟩:K1),{x11 with t:=x12}))))

def I5(p0:Y6)(p1:Y6)(p2:Q0)(p3:Int)(p4:List K1):Option ((List K1)):=
 jn (fun kk1=>(K2 p2.t p3).bind fun y1=>(X1 p2 p3).bind fun y2=>kk1 (⟨4,0,0,0,false,y1,false,y2,([p0,p1]:List Y6)⟩:Y6)) (fun(x1:Y6)=>(L1 (qQ p4+qQ ([(⟨0,[],[],false,[],[],[],0⟩:K1)]:List K1))).bind fun _=>(idx (p4++([(⟨0,[],[],false,[],[],[],0⟩:K1)]:List K1)) (qQ p4:Int)).bind fun u1=>some (qP (p4++([(⟨0,[],[],false,[],[],[],0⟩:K1)]:List K1)) (qF (qQ p4:Int)) (⟨1,([x1]:List Y6),[],false,[],[],[],0⟩:K1)))

def Q0j(p0:Q0)(p1:M7):Option (Except (Z4×Q0) ((List K1)×Q0)):=
 (Q0x p0 p1).bind fun y1=>exC y1 (fun y1=>(S9 ({y1.2 with fun_:=p0.fun_}) p1.Pos p1.Name y1.1).bind fun y2=>exE y2 (fun y2=>(L9 y2.2 y1.1).bind fun y3=>(C3 y2.2.t y1.1).bind fun y4=>(Q1a y2.2 p1 y1.1).bind fun y5=>exC y5 (fun y5=>bif (qQ y5:Int)==0 then(some (qX (([(⟨9,[],[],false,[],[],[],y2.1⟩:K1)]:List K1),y2.2)))else(bif y4.1.Kind !=4 then((idx y5 0).bind fun u1=>(idx y5 0).bind fun u2=>(Z6 y2.2 u2).bind fun y6=>exE y6 (fun y6=>(N4 y6.2 u1 y6.1 y1.1).bind fun y7=>exC y7 (fun y7=>(I5 (⟨2,0,0,y2.1,false,0,false,true,[]⟩:Y6) y7 y6.2 y3 ([(⟨9,[],[],false,[],[],[],y2.1⟩:K1)]:List K1)).bind fun y8=>some (qX (y8,y6.2))) (fun e1=>some (qK (e1,y6.2)))))else((X5 (fun(x11,x12,x13,x14)=>(bif decide (x11<y4.1.Len)then((X1 ({x13 with t:=x14}) y3).bind fun y9=>jn (fun kk1=>bif decide (x11<(qQ y5:Int))then((idx y5 x11).bind fun u5=>(idx y5 x11).bind fun u6=>(Z6 ({x13 with t:=x14}) u6).bind fun y10=>exL y10 (fun y10=>(N4 y10.2 u5 y10.1 y3).bind fun y11=>exC y11 (fun y11=>kk1 y11 y10.2 y10.2.t) (fun e3=>some (Lp.ret (qK (e3,y10.2))))))else(kk1 (⟨1,0,0,0,false,0,false,y9,[]⟩:Y6) ({x13 with t:=x14}) x14)) (fun(x24:Y6)(x25:Q0)(x26:Z7)=>(R9 ({x25 with t:=x26}) (⟨2,0,0,y2.1,false,0,false,true,[]⟩:Y6) (⟨1,0,qJ .u32 x11,0,false,0,false,false,[]⟩:Y6) y3 1).bind fun y12=>(I5 y12 x24 ({x25 with t:=x26}) y3 x12).bind fun y13=>some (Lp.go (qJ .i64 (x11+1),y13,{x25 with t:=x26},x26))))else(some (Lp.brk (x11,x12,{x13 with t:=x14},x14))):Option (Lp (Int×(List K1)×Q0×Z7) (Except (Z4×Q0) ((List K1)×Q0))))) NN ((0:Int),([(⟨9,[],[],false,[],[],[],y2.1⟩:K1)]:List K1),y2.2,y2.2.t)).bind fun o=>o.thn (fun(x11,x12,x13,x14)=>some (qX (x12,{x13 with t:=x14}))) (fun r=>some r)))) (fun e5=>some (qK (e5,y2.2))))) (fun e7=>some (qK (e7.1,{e7.2 with fun_:=p0.fun_})))

def Q0k(p0:Q0)(p1:Int)(p2:Y8):Option (Except (Z4×Q0) (K1×Q0)):=
 (K3 p0 p2).bind fun y1=>exE y1 (fun y1=>some (qX ((⟨p1,([y1.1]:List Y6),[],false,[],[],[],0⟩:K1),y1.2)))

def Q2p(p0:Q0)(p1:E5):Option (Except (Z4×Q0) (K1×Q0)):=
 bif (qQ p1.A:Int)==0 then((O3.get p0.fun_).bind fun u1=>bif u1.ret !=0 then((X0 p1.Pos 5).bind fun y1=>exC y1 (fun y1=>none) (fun e1=>some (qK (e1,p0))))else(some (qX ((⟨5,[],[],false,[],[],[],0⟩:K1),p0))))else((idx p1.A 0).bind fun u3=>(Z6 p0 u3).bind fun y2=>exE y2 (fun y2=>(O3.get y2.2.fun_).bind fun u4=>bif u4.ret==0 then((X0 u3.Pos 5).bind fun y3=>exC y3 (fun y3=>none) (fun e2=>some (qK (e2,y2.2))))else((O0 ({y2.2 with fun_:=(O3.some u4)}) u3 y2.1 u4.ret).bind fun y4=>exC y4 (fun y4=>some (qX ((⟨5,([y4]:List Y6),[],false,[],[],[],0⟩:K1),y2.2))) (fun e3=>some (qK (e3,y2.2))))))

structure Y5a where
 U0:Q0->(List E5)->Option (Except (Z4×Q0) ((List K1)×Q0))
 G0:Q0->(List E5)->Option (Except (Z4×Q0) ((List K1)×Q0))
 N6:Q0->E5->Option (Except (Z4×Q0) ((List K1)×Q0))
 N5:Q0->E5->Option (Except (Z4×Q0) (K1×Q0))
 C9:Q0->E5->Option (Except (Z4×Q0) ((List K1)×Q0))
 E9:Q0->(List E5)->Option (Except (Z4×Q0) ((List K1)×Q0))

def Q1n(G:Y5a)(p0:Q0)(p1:List E5):Option (Except (Z4×Q0) ((List K1)×Q0)):=
 (O3.get p0.fun_).bind fun u1=>(L1 (qQ u1.scopes+1)).bind fun _=>(G.E9 ({p0 with fun_:=(O3.some ({u1 with scopes:=u1.scopes++[(some [])]}))}) p1).bind fun y1=>exE y1 (fun y1=>(O3.get y1.2.fun_).bind fun u2=>(sub u2.scopes 0 (qJ .i64 ((qQ u2.scopes:Int)-1))).bind fun u3=>some (qX (y1.1,{y1.2 with fun_:=(O3.some ({u2 with scopes:=u3}))})))
def Q0n(G:Y5a)(p0:Q0)(p1:List E5):Option (Except (Z4×Q0) ((List K1)×Q0)):=
 (O3.get p0.fun_).bind fun u1=>(G.U0 ({p0 with fun_:=(O3.some ({u1 with loops:=qJ .i64 (u1.loops+1),breaks:=qJ .i64 (u1.breaks+1)}))}) p1).bind fun y1=>exE y1 (fun y1=>(O3.get y1.2.fun_).bind fun u2=>some (qX (y1.1,{y1.2 with fun_:=(O3.some ({u2 with loops:=qJ .i64 (u2.loops-1),breaks:=qJ .i64 (u2.breaks-1)}))})))
def Q0t(G:Y5a)(p0:Q0)(p1:E5):Option (Except (Z4×Q0) ((List K1)×Q0)):=
 (X5 (fun(x1,x11,x12,x13)=>(bif decide (x11<(qQ p1.A:Int))then((idx p1.A x11).bind fun u1=>(S0 ({x12 with t:=x13}) u1).bind fun y1=>exL y1 (fun y1=>(L1 (qQ x1+qQ ([y1.1]:List K1))).bind fun _=>some (Lp.go (x1++([y1.1]:List K1),qJ .i64 (x11+1),y1.2,y1.2.t))))else(some (Lp.brk (x1,x11,{x12 with t:=x13},x13))):Option (Lp ((List K1)×Int×Q0×Z7) (Except (Z4×Q0) ((List K1)×Q0))))) NN ([],(0:Int),p0,p0.t)).bind fun o=>o.thn (fun(x1,x11,x12,x13)=>(X5 (fun(x24,x25,x26,x27)=>(bif decide (x24<(qQ p1.B:Int))then((idx p1.B x24).bind fun u3=>(K3 ({x26 with t:=x27}) u3).bind fun y2=>exL y2 (fun y2=>(L1 (qQ x25.A+qQ ([y2.1]:List Y6))).bind fun _=>some (Lp.go (qJ .i64 (x24+1),{x25 with A:=x25.A++([y2.1]:List Y6)},y2.2,y2.2.t))))else(some (Lp.brk (x24,x25,{x26 with t:=x27},x27))):Option (Lp (Int×K1×Q0×Z7) (Except (Z4×Q0) ((List K1)×Q0))))) NN ((0:Int),(⟨3,[],[],false,[],[],[],0⟩:K1),{x12 with t:=x13},x13)).bind fun o=>o.thn (fun(x24,x25,x26,x27)=>(X5 (fun(x38,x39,x40,x41)=>(bif decide (x38<(qQ p1.C:Int))then((idx p1.C x38).bind fun u5=>(S0 ({x40 with t:=x41}) u5).bind fun y3=>exL y3 (fun y3=>some (Lp.go (qJ .i64 (x38+1),{x39 with Post:=y3.1.A},y3.2,y3.2.t))))else(some (Lp.brk (x38,x39,{x40 with t:=x41},x41))):Option (Lp (Int×K1×Q0×Z7) (Except (Z4×Q0) ((List K1)×Q0))))) NN ((0:Int),x25,{x26 with t:=x27},x27)).bind fun o=>o.thn (fun(x38,x39,x40,x41)=>(G.G0 ({x40 with t:=x41}) p1.Body).bind fun y4=>exE y4 (fun y4=>(L1 (qQ x1+qQ ([{x39 with Body:=y4.1}]:List K1))).bind fun _=>some (qX (x1++([{x39 with Body:=y4.1}]:List K1),y4.2)))) (fun r=>some r)) (fun r=>some r)) (fun r=>some r)
def Q0p(G:Y5a)(p0:Q0)(p1:E5):Option (Except (Z4×Q0) (K1×Q0)):=
 (idx p1.A 0).bind fun u1=>(V8 p0 u1).bind fun y1=>exE y1 (fun y1=>(O3.get y1.2.fun_).bind fun u2=>(X5 (fun(x2,x13,x14,x15,x16,x17)=>(bif decide (x14<(qQ p1.Cases:Int))then((idx p1.Cases x14).bind fun u3=>bif (u3.Default&&x13)then((X0 u3.Pos 6).bind fun y5=>exC y5 (fun y5=>none) (fun e4=>some (Lp.ret (qK (e4,{x16 with t:=x17})))))else(bif !u3.Default then(bif (D3 x2 u3.Num).getD false then((X0 u3.Pos 6).bind fun y2=>exC y2 (fun y2=>none) (fun e1=>some (Lp.ret (qK (e1,{x16 with t:=x17})))))else(jn (fun kk1=>bif u3.Default then(kk1 x2 true)else((x2).bind fun u5=>kk1 (some (Q9u u5 u3.Num true)) x13)) (fun(x18:Option (List (Int×Bool)))(x19:Bool)=>(G.U0 ({x16 with t:=x17}) u3.Body).bind fun y3=>exL y3 (fun y3=>(L1 (qQ x15.Cases+qQ ([{u3 with Body:=y3.1}]:List Z4l))).bind fun _=>some (Lp.go (x18,x19,qJ .i64 (x14+1),{x15 with Cases:=x15.Cases++([{u3 with Body:=y3.1}]:List Z4l)},y3.2,y3.2.t))))))else(jn (fun kk2=>bif u3.Default then(kk2 x2 true)else((x2).bind fun u7=>kk2 (some (Q9u u7 u3.Num true)) x13)) (fun(x20:Option (List (Int×Bool)))(x21:Bool)=>(G.U0 ({x16 with t:=x17}) u3.Body).bind fun y4=>exL y4 (fun y4=>(L1 (qQ x15.Cases+qQ ([{u3 with Body:=y4.1}]:List Z4l))).bind fun _=>some (Lp.go (x20,x21,qJ .i64 (x14+1),{x15 with Cases:=x15.Cases++([{u3 with Body:=y4.1}]:List Z4l)},y4.2,y4.2.t)))))))else(some (Lp.brk (x2,x13,x14,x15,{x16 with t:=x17},x17))):Option (Lp ((Option (List (Int×Bool)))×Bool×Int×K1×Q0×Z7) (Except (Z4×Q0) (K1×Q0))))) NN ((some []),false,(0:Int),(⟨4,([y1.1]:List Y6),[],false,[],[],[],0⟩:K1),{y1.2 with fun_:=(O3.some ({u2 with breaks:=qJ .i64 (u2.breaks+1)}))},y1.2.t)).bind fun o=>o.thn (fun(x2,x13,x14,x15,x16,x17)=>(O3.get x16.fun_).bind fun u10=>some (qX (x15,{x16 with t:=x17,fun_:=(O3.some ({u10 with breaks:=qJ .i64 (u10.breaks-1)}))}))) (fun r=>some r))
def Q2h(G:Y5a)(p0:Q0)(p1:E5):Option (Except (Z4×Q0) ((List K1)×Q0)):=
 bif p1.Kind==1 then((idx p1.A 0).bind fun u1=>(S0 p0 u1).bind fun y1=>exE y1 (fun y1=>some (qX (([y1.1]:List K1),y1.2))))else(bif p1.Kind==2 then((idx p1.Var 0).bind fun u3=>(Q0j p0 u3).bind fun y2=>exE y2 (fun y2=>some (qX (y2.1,y2.2))))else(bif p1.Kind==3 then((idx p1.A 0).bind fun u5=>(Q0k p0 2 u5).bind fun y3=>exE y3 (fun y3=>(G.U0 y3.2 p1.Body).bind fun y4=>exE y4 (fun y4=>(G.U0 y4.2 p1.Else).bind fun y5=>exE y5 (fun y5=>some (qX (([{y3.1 with Body:=y4.1,Else:=y5.1}]:List K1),y5.2))))))else(bif p1.Kind==4 then((idx p1.A 0).bind fun u9=>(Q0k p0 3 u9).bind fun y6=>exE y6 (fun y6=>(G.G0 y6.2 p1.Body).bind fun y7=>exE y7 (fun y7=>some (qX (([{y6.1 with Body:=y7.1}]:List K1),y7.2)))))else(bif p1.Kind==5 then((G.G0 p0 p1.Body).bind fun y8=>exE y8 (fun y8=>(idx p1.A 0).bind fun u12=>(Q0k y8.2 3 u12).bind fun y9=>exE y9 (fun y9=>some (qX (([{y9.1 with First:=true,Body:=y8.1}]:List K1),y9.2)))))else(bif p1.Kind==6 then((G.N6 p0 p1).bind fun y10=>exE y10 (fun y10=>some (qX (([(⟨8,[],[],false,y10.1,[],[],0⟩:K1)]:List K1),y10.2))))else(bif p1.Kind==7 then((G.N5 p0 p1).bind fun y11=>exE y11 (fun y11=>some (qX (([y11.1]:List K1),y11.2))))else(bif p1.Kind==8 then((Q2p p0 p1).bind fun y12=>exE y12 (fun y12=>some (qX (([y12.1]:List K1),y12.2))))else(bif p1.Kind==11 then((G.U0 p0 p1.Body).bind fun y13=>exE y13 (fun y13=>some (qX (([(⟨8,[],[],false,y13.1,[],[],0⟩:K1)]:List K1),y13.2))))else(bif p1.Kind==9 then((O3.get p0.fun_).bind fun u19=>bif u19.breaks==0 then((X0 p1.Pos 9).bind fun y14=>exC y14 (fun y14=>none) (fun e14=>some (qK (e14,p0))))else(some (qX (([(⟨6,[],[],false,[],[],[],0⟩:K1)]:List K1),p0))))else(bif p1.Kind==10 then((O3.get p0.fun_).bind fun u21=>bif u21.loops==0 then((X0 p1.Pos 9).bind fun y15=>exC y15 (fun y15=>none) (fun e15=>some (qK (e15,p0))))else(some (qX (([(⟨7,[],[],false,[],[],[],0⟩:K1)]:List K1),p0))))else(some (qX ([],p0)))))))))))))
def Q2q(G:Y5a)(p0:Q0)(p1:List E5):Option (Except (Z4×Q0) ((List K1)×Q0)):=
 (X5 (fun(x1,x11,x12,x13)=>(bif decide (x11<(qQ p1:Int))then((idx p1 x11).bind fun u1=>(G.C9 ({x12 with t:=x13}) u1).bind fun y1=>exL y1 (fun y1=>(L1 (qQ x1+qQ y1.1)).bind fun _=>some (Lp.go (x1++y1.1,qJ .i64 (x11+1),y1.2,y1.2.t))))else(some (Lp.brk (x1,x11,{x12 with t:=x13},x13))):Option (Lp ((List K1)×Int×Q0×Z7) (Except (Z4×Q0) ((List K1)×Q0))))) NN ([],(0:Int),p0,p0.t)).bind fun o=>o.thn (fun(x1,x11,x12,x13)=>some (qX (x1,{x12 with t:=x13}))) (fun r=>some r)
def Z1w:Nat->Y5a
 |0=>⟨fun _ _=>none,fun _ _=>none,fun _ _=>none,fun _ _=>none,fun _ _=>none,fun _ _=>none⟩
 |n+1=>⟨Q1n (Z1w n),Q0n (Z1w n),Q0t (Z1w n),Q0p (Z1w n),Q2h (Z1w n),Q2q (Z1w n)⟩
def U0(p0:Q0)(p1:List E5):Option (Except (Z4×Q0) ((List K1)×Q0)):=(Z1w NN).U0 p0 p1
def G0(p0:Q0)(p1:List E5):Option (Except (Z4×Q0) ((List K1)×Q0)):=(Z1w NN).G0 p0 p1
def N6(p0:Q0)(p1:E5):Option (Except (Z4×Q0) ((List K1)×Q0)):=(Z1w NN).N6 p0 p1
def N5(p0:Q0)(p1:E5):Option (Except (Z4×Q0) (K1×Q0)):=(Z1w NN).N5 p0 p1
def C9(p0:Q0)(p1:E5):Option (Except (Z4×Q0) ((List K1)×Q0)):=(Z1w NN).C9 p0 p1
def E9(p0:Q0)(p1:List E5):Option (Except (Z4×Q0) ((List K1)×Q0)):=(Z1w NN).E9 p0 p1

def Q5n(p0:Q0)(p1:Int)(p2:Q1d):Option (Except (Z4×Q0) (Q0)):=
 (idx p0.signs p1).bind fun u1=>(X5 (fun(x2,x10,x11)=>(bif decide (x10<(qQ p2.Params:Int))then((idx p2.Params x10).bind fun u2=>(idx x11.signs p1).bind fun u3=>(idx u3.params x10).bind fun u4=>(S9 ({x11 with t:=(⟨x2⟩:Z7)}) u2.Pos u2.Name u4).bind fun y1=>exL y1 (fun y1=>some (Lp.go (y1.2.t.list,qJ .i64 (x10+1),y1.2))))else(some (Lp.brk (x2,x10,{x11 with t:=(⟨x2⟩:Z7)}))):Option (Lp ((List K4)×Int×Q0) (Except (Z4×Q0) (Q0))))) NN (p0.t.list,(0:Int),{p0 with fun_:=(O3.some (⟨u1.ret,[],[],([(some [])]:List (Option (List ((List UInt8)×Int)))),0,0⟩:G5))})).bind fun o=>o.thn (fun(x2,x10,x11)=>(E9 ({x11 with t:=(⟨x2⟩:Z7)}) p2.Body).bind fun y2=>exE y2 (fun y2=>(O3.get y2.2.fun_).bind fun u6=>(idx y2.2.u.Codes p1).bind fun u7=>(idx y2.2.u.Codes p1).bind fun u8=>(idx (qP y2.2.u.Codes (qF p1) ({u8 with Body:=y2.1})) p1).bind fun u9=>(idx (qP y2.2.u.Codes (qF p1) ({u8 with Body:=y2.1})) p1).bind fun u10=>some (qX ({y2.2 with u:={y2.2.u with Codes:=qP (qP y2.2.u.Codes (qF p1) ({u8 with Body:=y2.1})) (qF p1) ({u10 with Slots:=u6.slots})},fun_:=O3.dead})))) (fun r=>some r)

def Q7d(p0:Q0)(p1:D4):Option (Except (Z4×Q0) (Q0)):=
 (Q1k p0 p1.Structs).bind fun y1=>exC y1 (fun y1=>(X5 (fun(x10,x11,x12)=>(bif decide (x10<(qQ p1.Globals:Int))then((idx p1.Globals x10).bind fun u1=>(Q2k ({x11 with t:=x12}) u1).bind fun y2=>exL y2 (fun y2=>some (Lp.go (qJ .i64 (x10+1),y2,y2.t))))else(some (Lp.brk (x10,{x11 with t:=x12},x12))):Option (Lp (Int×Q0×Z7) (Except (Z4×Q0) (Q0))))) NN ((0:Int),{y1 with fun_:=p0.fun_},y1.t)).bind fun o=>o.thn (fun(x10,x11,x12)=>(X5 (fun(x22,x23,x24)=>(bif decide (x22<(qQ p1.Funcs:Int))then((idx p1.Funcs x22).bind fun u3=>(Q2j ({x23 with t:=x24}) u3).bind fun y3=>exC y3 (fun y3=>some (Lp.go (qJ .i64 (x22+1),{y3 with fun_:=x23.fun_},y3.t))) (fun e2=>some (Lp.ret (qK (e2.1,{e2.2 with fun_:=x23.fun_})))))else(some (Lp.brk (x22,{x23 with t:=x24},x24))):Option (Lp (Int×Q0×Z7) (Except (Z4×Q0) (Q0))))) NN ((0:Int),{x11 with t:=x12},x12)).bind fun o=>o.thn (fun(x22,x23,x24)=>(Q1t ({x23 with t:=x24}) p1.Funcs).bind fun y4=>exC y4 (fun y4=>(X5 (fun(x34,x35,x36)=>(bif decide (x34<(qQ p1.Funcs:Int))then((idx p1.Funcs x34).bind fun u5=>(Q5n ({x35 with t:=x36}) x34 u5).bind fun y5=>exL y5 (fun y5=>some (Lp.go (qJ .i64 (x34+1),y5,y5.t))))else(some (Lp.brk (x34,{x35 with t:=x36},x36))):Option (Lp (Int×Q0×Z7) (Except (Z4×Q0) (Q0))))) NN ((0:Int),{y4 with fun_:=x23.fun_},y4.t)).bind fun o=>o.thn (fun(x34,x35,x36)=>some (qX ({x35 with t:=x36}))) (fun r=>some r)) (fun e4=>some (qK (e4.1,{e4.2 with fun_:=x23.fun_})))) (fun r=>some r)) (fun r=>some r)) (fun e12=>some (qK (e12.1,{e12.2 with fun_:=p0.fun_})))

def Z5b(p0:D4):Option (Q6a×Pos×Int):=
 (Y4s).bind fun y1=>(Q7d (⟨y1,(⟨[],[],[],0⟩:Q6a),(some []),(some []),[],[],O3.nil⟩:Q0) p0).bind fun y2=>exC y2 (fun y2=>some (y2.u,(⟨0,0⟩:Pos),(0:Int))) (fun e1=>some ((⟨[],[],[],0⟩:Q6a),e1.1.pos,e1.1.e))

def Z0w(p0:List UInt8):Option (Q6a×Bool):=
 bif decide (4000<(qQ p0:Int))then(some ((⟨[],[],[],0⟩:Q6a),false))else((Z7k p0).bind fun y1=>bif y1.2.2 !=0 then(some ((⟨[],[],[],0⟩:Q6a),false))else((Z5b y1.1).bind fun y2=>some (y2.1,y2.2.2==0)))

def Y5c:Option (Y5):=
 some (⟨[]⟩:Y5)

def Q4p(p0:Y5)(p1:Int):Option (X9×Int×Y5):=
 bif ((decide (p1<1))||(decide (32768<p1)))then(some ((⟨0,0,0,0⟩:X9),(1:Int),p0))else(bif decide (1048576<=(qQ p0.list:Int))then(some ((⟨0,0,0,0⟩:X9),(8:Int),p0))else((repl p1 0).bind fun u1=>(repl p1 false).bind fun u2=>(L1 (qQ p0.list+1)).bind fun _=>some ((⟨(qQ (p0.list++[(⟨(⟨u1,u2⟩:O4),none,false⟩:G4)]):Int),0,p1,0⟩:X9),(0:Int),(⟨p0.list++[(⟨(⟨u1,u2⟩:O4),none,false⟩:G4)]⟩:Y5))))

def J4(p0:Z1)(p1:Int):Option (Bool×Z1):=
 jn (fun kk1=>bif p0.out.E==0 then(kk1 ({p0 with out:={p0.out with E:=p1}}))else(kk1 p0)) (fun(x2:Z1)=>some (false,{x2 with mem:=p0.mem}))

def U6(p0:Z1)(p1:Int):Option (Bool×Z1):=
 jn (fun kk1=>bif p1==8 then(kk1 (16:Int))else(kk1 p1)) (fun(x1:Int)=>bif x1 !=0 then((J4 p0 x1).bind fun y1=>some (y1.1,y1.2))else(some (true,p0)))

def W3(p0:Y5)(p1:Int):Option (Int×Int):=
 bif ((decide (p1<1))||(decide ((qQ p0.list:Int)<p1)))then(some ((-1:Int),(4:Int)))else((idx p0.list (qJ .i64 (p1-1))).bind fun u1=>bif u1.gone then(some ((-1:Int),(4:Int)))else((idx p0.list (qJ .i64 (p1-1))).bind fun u2=>some ((qJ .i64 (p1-1):Int),(0:Int))))

def Q0v(p0:G4)(p1:Int)(p2:Int):Option (G4):=
 (X5 (fun(x1,x2)=>(bif ((decide (x2<(qJ .i64 (p1+p2))))&&(decide (0<(Z3w x1:Int))))then(some (Lp.go ((Option.map (fun z=>mDel z x2) x1),qJ .i64 (x2+1))))else(some (Lp.brk (x1,x2))):Option (Lp ((Option (List (Int×X9)))×Int) (Unit)))) NN (p0.ptrs,qJ .i64 ((qJ .i64 (p1-4))+1))).bind fun o=>o.thn (fun(x1,x2)=>some ({p0 with ptrs:=x1})) (fun _=>none)

def Q8e(p0:Y5)(p1:Int)(p2:List Int):Option (Int×Y5):=
 (W3 p0 p1).bind fun y1=>bif y1.2 !=0 then(some (y1.2,p0))else((idx p0.list y1.1).bind fun u1=>bif decide ((qQ u1.bytes.data:Int)<(qQ p2:Int))then(some ((1:Int),p0))else((X5 (fun(x4,x5)=>(bif decide (x4<(qQ p2:Int))then((idx p2 x4).bind fun u2=>(Q0v x5 x4 1).bind fun y2=>(idx y2.bytes.data x4).bind fun u3=>(idx y2.bytes.data x4).bind fun u4=>(idx y2.bytes.set_ x4).bind fun u5=>(idx y2.bytes.set_ x4).bind fun u6=>some (Lp.go (qJ .i64 (x4+1),{y2 with bytes:=(⟨qP y2.bytes.data (qF x4) u2,qP y2.bytes.set_ (qF x4) true⟩:O4)})))else(some (Lp.brk (x4,x5))):Option (Lp (Int×G4) (Unit)))) NN ((0:Int),u1)).bind fun o=>o.thn (fun(x4,x5)=>some ((0:Int),(⟨qP p0.list (qF y1.1) x5⟩:Y5))) (fun _=>none)))

def F2(p0:Z1):Option (Bool×Z1):=
 (X5 (fun(x3,x4,x5)=>(bif decide (x3<(qQ p0.u.Globals:Int))then((idx p0.u.Globals x3).bind fun u1=>jn (fun kk1=>(Q4p x5 u1.Size).bind fun y1=>kk1 y1.2.2 y1.1 y1.2.1) (fun(x7:Y5)(x8:X9)(x9:Int)=>(U6 ({x4 with mem:=x7}) x9).bind fun y2=>bif !y2.1 then(some (Lp.ret (false,y2.2)))else((idx y2.2.u.Data x3).bind fun u2=>(Q8e y2.2.mem x8.Obj u2).bind fun y3=>(U6 ({y2.2 with mem:=y3.2}) y3.1).bind fun y4=>bif !y4.1 then(some (Lp.ret (false,y4.2)))else(some (Lp.go (qJ .i64 (x3+1),y4.2,y4.2.mem))))))else(some (Lp.brk (x3,{x4 with mem:=x5},x5))):Option (Lp (Int×Z1×Y5) (Bool×Z1)))) NN ((0:Int),p0,p0.mem)).bind fun o=>o.thn (fun(x3,x4,x5)=>some (true,{x4 with mem:=x5})) (fun r=>some r)

def Z6n(p0:Bool):Option (Y1):=
 some (⟨0,(⟨0,0,0,0⟩:X9),p0⟩:Y1)

def Q9n(p0:Y1)(p1:Int):Option (Y1):=
 jn (fun kk1=>bif ((!p0.Is)&&(p1==1))then(kk1 ({p0 with Num:=bits .and .u32 p0.Num 255}))else(kk1 p0)) (fun(x1:Y1)=>some x1)

def Q1c(p0:Y5)(p1:X9):Option (Int×Int):=
 bif p1.Obj==0 then(some ((-1:Int),(14:Int)))else(bif decide (p1.Obj<0)then(some ((-1:Int),(4:Int)))else(bif decide ((qQ p0.list:Int)<p1.Obj)then(some ((-1:Int),(4:Int)))else((idx p0.list (qJ .i64 (p1.Obj-1))).bind fun u1=>bif u1.gone then(some ((-1:Int),(15:Int)))else((idx p0.list (qJ .i64 (p1.Obj-1))).bind fun u2=>some ((qJ .i64 (p1.Obj-1):Int),(0:Int))))))

def Q9b(p0:X9)(p1:Int)(p2:Int):Option (Bool):=
 some (((((decide (0<=p1))&&(decide (1<=p2)))&&(decide (p0.Off<=p0.Hi)))&&(decide (p1<=(qJ .i64 (p0.Hi-p0.Off)))))&&(decide (p2<=(qJ .i64 ((qJ .i64 (p0.Hi-p0.Off))-p1)))))

def Q2v(p0:Y5)(p1:X9)(p2:Int)(p3:Bool):Option (Int×Int):=
 bif (((p2 !=1)&&(p2 !=4))||(p3&&(p2 !=4)))then(some ((-1:Int),(1:Int)))else((Q1c p0 p1).bind fun y1=>bif y1.2 !=0 then(some ((-1:Int),y1.2))else(bif decide (p1.Off<p1.Lo)then(some ((-1:Int),(12:Int)))else((Q9b p1 0 p2).bind fun y2=>bif !y2 then(some ((-1:Int),(12:Int)))else(bif decide (p1.Off<0)then(some ((-1:Int),(12:Int)))else((idx p0.list y1.1).bind fun u1=>bif decide ((qQ u1.bytes.data:Int)<p2)then(some ((-1:Int),(12:Int)))else(bif decide ((qJ .i64 ((qQ u1.bytes.data:Int)-p2))<p1.Off)then(some ((-1:Int),(12:Int)))else(some ((y1.1:Int),(0:Int)))))))))

def I2(p0:Y5)(p1:X9)(p2:Int)(p3:Y1):Option (Int×Y5):=
 (Q2v p0 p1 p2 p3.Is).bind fun y1=>bif y1.2 !=0 then(some (y1.2,p0))else((idx p0.list y1.1).bind fun u1=>(Q0v u1 p1.Off p2).bind fun y2=>jn (fun kk1=>bif p3.Is then(jn (fun kk2=>bif Option.isNone y2.ptrs then(kk2 ({y2 with ptrs:=(some [])}))else(kk2 y2)) (fun(x9:G4)=>(x9.ptrs).bind fun u2=>kk1 (0:Int) ({x9 with ptrs:=(some (Q9u u2 p1.Off p3.Ptr))})))else(kk1 p3.Num y2)) (fun(x4:Int)(x5:G4)=>(X5 (fun(x10,x11,x12)=>(bif decide (x12<p2)then((nn (qJ .i64 (8*x12))).bind fun _=>(idx x10 (qJ .i64 (p1.Off+x12))).bind fun u3=>(idx x10 (qJ .i64 (p1.Off+x12))).bind fun u4=>(idx x11 (qJ .i64 (p1.Off+x12))).bind fun u5=>(idx x11 (qJ .i64 (p1.Off+x12))).bind fun u6=>some (Lp.go (qP x10 (qF (qJ .i64 (p1.Off+x12))) (qJ .u8 (Int.fdiv x4 (2^(min (qF (qJ .i64 (8*x12))) (IntKind.bits .u32))))),qP x11 (qF (qJ .i64 (p1.Off+x12))) true,qJ .i64 (x12+1))))else(some (Lp.brk (x10,x11,x12))):Option (Lp ((List Int)×(List Bool)×Int) (Unit)))) NN (x5.bytes.data,x5.bytes.set_,(0:Int))).bind fun o=>o.thn (fun(x10,x11,x12)=>some ((0:Int),(⟨qP p0.list (qF y1.1) ({x5 with bytes:=(⟨x10,x11⟩:O4)})⟩:Y5))) (fun _=>none)))

def M9(p0:Z1)(p1:Q4n)(p2:List Y1):Option (Bool×Z1):=
 (X5 (fun(x4,x5,x6)=>(bif decide (x4<(qQ p1.Slots:Int))then((idx p1.Slots x4).bind fun u1=>jn (fun kk1=>(Q4p x6 u1.Size).bind fun y1=>kk1 y1.2.2 y1.1 y1.2.1) (fun(x8:Y5)(x9:X9)(x10:Int)=>(U6 ({x5 with mem:=x8}) x10).bind fun y2=>bif !y2.1 then(some (Lp.ret (false,{y2.2 with vars:=x5.vars})))else((L1 (qQ x5.vars+qQ ([x9]:List X9))).bind fun _=>some (Lp.go (qJ .i64 (x4+1),{y2.2 with vars:=x5.vars++([x9]:List X9)},y2.2.mem)))))else(some (Lp.brk (x4,{x5 with mem:=x6},x6))):Option (Lp (Int×Z1×Y5) (Bool×Z1)))) NN ((0:Int),{p0 with vars:=[]},p0.mem)).bind fun o=>o.thn (fun(x4,x5,x6)=>(X5 (fun(x12,x14,x15)=>(bif decide (x14<(qQ p2:Int))then((idx p2 x14).bind fun u2=>(idx x15.vars x14).bind fun u3=>(idx p1.Slots x14).bind fun u4=>(idx p1.Slots x14).bind fun u5=>(Q9n u2 u5.Size).bind fun y3=>(I2 (⟨x12⟩:Y5) u3 u4.Size y3).bind fun y4=>(U6 ({x15 with mem:=y4.2}) y4.1).bind fun y5=>bif !y5.1 then(some (Lp.ret (false,{y5.2 with vars:=x15.vars})))else(some (Lp.go (y5.2.mem.list,qJ .i64 (x14+1),{y5.2 with vars:=x15.vars}))))else(some (Lp.brk (x12,x14,{x15 with mem:=(⟨x12⟩:Y5)}))):Option (Lp ((List G4)×Int×Z1) (Bool×Z1)))) NN (x6.list,(0:Int),{x5 with mem:=x6})).bind fun o=>o.thn (fun(x12,x14,x15)=>some (true,{x15 with mem:=(⟨x12⟩:Y5)})) (fun r=>some r)) (fun r=>some r)

def V6(p0:Z1):Option (Bool×Z1):=
 bif p0.out.E !=0 then(some (false,p0))else(bif p0.fuel==0 then((J4 p0 16).bind fun y1=>some (y1.1,y1.2))else(some (true,{p0 with fuel:=qJ .i64 (p0.fuel-1)})))

def H8(p0:Int):Option (Y1):=
 some (⟨p0,(⟨0,0,0,0⟩:X9),false⟩:Y1)

def W4(p0:Bool):Option (Y1):=
 bif p0 then((H8 1).bind fun y1=>some y1)else((H8 0).bind fun y2=>some y2)

def Q3y(p0:Z1)(p1:Y6):Option (X9):=
 bif p1.Global then((idx p0.u.Globals p1.Var).bind fun u1=>some (⟨qJ .i64 (p1.Var+1),0,u1.Size,0⟩:X9))else((idx p0.vars p1.Var).bind fun u2=>some u2)

def Q4q(p0:Y5)(p1:X9)(p2:Int)(p3:Bool):Option (Y1×Int):=
 (Q2v p0 p1 p2 p3).bind fun y1=>bif y1.2 !=0 then(some ((⟨0,(⟨0,0,0,0⟩:X9),false⟩:Y1),y1.2))else((X5 (fun(x1,x2)=>(bif decide (x2<p2)then((idx p0.list y1.1).bind fun u1=>(idx u1.bytes.set_ (qJ .i64 (p1.Off+x2))).bind fun u2=>bif !u2 then(some (Lp.ret ((⟨0,(⟨0,0,0,0⟩:X9),false⟩:Y1),(13:Int))))else((idx u1.bytes.data (qJ .i64 (p1.Off+x2))).bind fun u3=>(nn (qJ .i64 (8*x2))).bind fun _=>some (Lp.go (bits .or .u32 x1 (qJ .u32 ((qJ .u32 u3)*2^(min (qF (qJ .i64 (8*x2))) (IntKind.bits .u32)))),qJ .i64 (x2+1)))))else(some (Lp.brk (x1,x2))):Option (Lp (Int×Int) (Y1×Int)))) NN ((0:Int),(0:Int))).bind fun o=>o.thn (fun(x1,x2)=>bif p3 then((idx p0.list y1.1).bind fun u4=>some ((⟨0,((D3 u4.ptrs p1.Off).getD (⟨0,0,0,0⟩:X9)),true⟩:Y1),(0:Int)))else(some ((⟨x1,(⟨0,0,0,0⟩:X9),false⟩:Y1),(0:Int)))) (fun r=>some r))

def Q6x(p0:Y1):Option (Bool):=
 bif p0.Is then(some (p0.Ptr.Obj==0))else(some (p0.Num==0))

def Q6i(p0:Int)(p1:List Y1):Option (Y1×Int):=
 (idx p1 0).bind fun u1=>jn (fun kk1=>bif decide (1<(qQ p1:Int))then((idx p1 1).bind fun u2=>kk1 u2)else(kk1 (⟨0,(⟨0,0,0,0⟩:X9),false⟩:Y1))) (fun(x1:Y1)=>bif u1.Is then((Q6x u1).bind fun y1=>bif y1 then(bif (qQ p1:Int)==1 then((W4 (true==(p0 !=12))).bind fun y4=>some (y4,(0:Int)))else((Q6x x1).bind fun y2=>(W4 (y2==(p0 !=12))).bind fun y3=>some (y3,(0:Int))))else((W4 (false==(p0 !=12))).bind fun y5=>some (y5,(0:Int))))else((Q7l p0 u1.Num x1.Num).bind fun y6=>(H8 y6.1).bind fun y7=>some (y7,y6.2)))

def Q8c(p0:Y5)(p1:X9)(p2:Int)(p3:Int):Option (X9×Int):=
 (Q1c p0 p1).bind fun y1=>bif y1.2 !=0 then(some ((⟨0,0,0,0⟩:X9),y1.2))else((Q9b p1 p2 p3).bind fun y2=>bif !y2 then(some ((⟨0,0,0,0⟩:X9),(12:Int)))else(some ((⟨p1.Obj,qJ .i64 (p1.Off+p2),qJ .i64 ((qJ .i64 (p1.Off+p2))+p3),qJ .i64 (p1.Off+p2)⟩:X9),(0:Int))))

def Q8d(p0:Y5)(p1:X9)(p2:Int):Option (X9×Int):=
 (Q1c p0 p1).bind fun y1=>bif y1.2 !=0 then(some ((⟨0,0,0,0⟩:X9),y1.2))else(bif ((decide (p2<(qJ .i64 (p1.Lo-p1.Off))))||(decide ((qJ .i64 (p1.Hi-p1.Off))<p2)))then(some ((⟨0,0,0,0⟩:X9),(12:Int)))else(some ({p1 with Off:=qJ .i64 (p1.Off+p2)},(0:Int))))

def A7(p0:Z1)(p1:X9)(p2:Int)(p3:Int)(p4:Int):Option (Y1×Int):=
 jn (fun kk1=>bif p4==2 then(kk1 (qJ .i64 (0-(qJ .i64 ((qJ .i64 (qJ .i32 p2))*p3)))))else(kk1 (qJ .i64 ((qJ .i64 (qJ .i32 p2))*p3)))) (fun(x1:Int)=>(Q8d p0.mem p1 x1).bind fun y1=>some ((⟨0,y1.1,true⟩:Y1),y1.2))

def A4(p0:Z1)(p1:Y6)(p2:List Y1):Option (Y1×Int×Z1):=
 (idx p2 0).bind fun u1=>jn (fun kk1=>(Q4q p0.mem u1.Ptr p1.Size p1.Ptr).bind fun y1=>kk1 y1.1 y1.2) (fun(x1:Y1)(x2:Int)=>bif x2 !=0 then(some ((⟨0,(⟨0,0,0,0⟩:X9),false⟩:Y1),x2,p0))else(jn (fun kk2=>bif ((p1.Kind==15)&&p1.Ptr)then((A7 p0 x1.Ptr p1.Num 1 1).bind fun y2=>kk2 y2.2 y2.1)else(bif p1.Kind==15 then((H8 (qJ .u32 (x1.Num+p1.Num))).bind fun y3=>kk2 x2 y3)else(bif p1.Ptr then((idx p2 1).bind fun u2=>(A7 p0 x1.Ptr u2.Num (qJ .i64 p1.Num) p1.Fn).bind fun y4=>kk2 y4.2 y4.1)else((idx p2 1).bind fun u3=>(Q6i p1.Fn ([x1,u3]:List Y1)).bind fun y5=>kk2 y5.2 y5.1)))) (fun(x3:Int)(x4:Y1)=>bif x3 !=0 then(some ((⟨0,(⟨0,0,0,0⟩:X9),false⟩:Y1),x3,p0))else((Q9n x4 p1.Size).bind fun y6=>bif p1.Post then((I2 p0.mem u1.Ptr p1.Size y6).bind fun y7=>some (x1,y7.1,{p0 with mem:=y7.2}))else((I2 p0.mem u1.Ptr p1.Size y6).bind fun y8=>some (y6,y8.1,{p0 with mem:=y8.2}))))))

def V4(p0:Z1)(p1:Y6)(p2:List Y1):Option (Y1×Int×Z1):=
 bif p1.Kind==2 then((Q3y p0 p1).bind fun y1=>some ((⟨0,y1,true⟩:Y1),(0:Int),p0))else(bif p1.Kind==3 then((idx p2 0).bind fun u1=>(Q4q p0.mem u1.Ptr p1.Size p1.Ptr).bind fun y2=>some (y2.1,y2.2,p0))else(bif p1.Kind==4 then(jn (fun kk1=>(idx p2 1).bind fun u2=>(Q9n u2 p1.Size).bind fun y3=>kk1 y3) (fun(x1:Y1)=>(idx p2 0).bind fun u3=>(I2 p0.mem u3.Ptr p1.Size x1).bind fun y4=>some (x1,y4.1,{p0 with mem:=y4.2})))else(jn (fun kk2=>bif p1.Kind==5 then(kk2 (p1.Kind==5))else(kk2 (p1.Kind==6))) (fun(x2:Bool)=>bif x2 then((Q6i p1.Fn p2).bind fun y5=>some (y5.1,y5.2,p0))else(bif p1.Kind==11 then((idx p2 0).bind fun u4=>(L1 (qQ p0.out.Out+qQ ([u4.Num]:List Int))).bind fun _=>some ((⟨0,(⟨0,0,0,0⟩:X9),false⟩:Y1),(0:Int),{p0 with out:={p0.out with Out:=p0.out.Out++([u4.Num]:List Int)}}))else(bif p1.Kind==12 then(bif decide ((qJ .i64 (p0.out.Ins+1))<=(qQ p0.inputs:Int))then((idx p0.inputs (qJ .i64 ((qJ .i64 (p0.out.Ins+1))-1))).bind fun u5=>(H8 u5).bind fun y6=>some (y6,(0:Int),{p0 with out:={p0.out with Ins:=qJ .i64 (p0.out.Ins+1)}}))else((H8 0).bind fun y7=>some (y7,(0:Int),{p0 with out:={p0.out with Ins:=qJ .i64 (p0.out.Ins+1)}})))else(bif p1.Kind==13 then((idx p2 0).bind fun u6=>(Q8c p0.mem u6.Ptr (qJ .i64 p1.Num) p1.Size).bind fun y8=>some ((⟨0,y8.1,true⟩:Y1),y8.2,p0))else(bif p1.Kind==14 then((idx p2 0).bind fun u7=>(idx p2 1).bind fun u8=>(A7 p0 u7.Ptr u8.Num p1.Size p1.Fn).bind fun y9=>some (y9.1,y9.2,p0))else(bif p1.Kind==17 then((idx p2 0).bind fun u9=>(Q9n u9 1).bind fun y10=>some (y10,(0:Int),p0))else((A4 p0 p1 p2).bind fun y11=>some (y11.1,y11.2.1,y11.2.2)))))))))))

def Q6o(p0:Y5)(p1:Int):Option (Int×Y5):=
 (W3 p0 p1).bind fun y1=>bif y1.2 !=0 then(some (y1.2,p0))else((idx p0.list y1.1).bind fun u1=>(repl (qQ u1.bytes.data:Int) 0).bind fun u2=>(repl (qQ u1.bytes.data:Int) false).bind fun u3=>some ((0:Int),(⟨qP p0.list (qF y1.1) (⟨(⟨u2,u3⟩:O4),none,u1.gone⟩:G4)⟩:Y5)))

def Q8f(p0:Y5)(p1:Int):Option (Int×Y5):=
 (W3 p0 p1).bind fun y1=>bif y1.2 !=0 then(some (y1.2,p0))else((idx p0.list y1.1).bind fun u1=>some ((0:Int),(⟨qP p0.list (qF y1.1) (⟨(⟨[],[]⟩:O4),none,true⟩:G4)⟩:Y5)))

structure Y0i where
 F1:Z1->(List Y6)->Option ((List Y1)×Bool×Z1)
 X2:Z1->Y6->Option (Y1×Bool×Z1)
 V2:Z1->Y6->Option (Bool×Bool×Z1)
 E1:Z1->K1->Option (Int×Z1)
 G6:Z1->K1->Option (Int×Z1)
 B9:Z1->K1->Option (Int×Z1)
 V5:Z1->(List K1)->Option (Int×Z1)
 K5:Z1->Int->(List Y1)->Bool->Option (Y1×Bool×Z1)

def P0(G:Y0i)(p0:Z1)(p1:List Y6):Option ((List Y1)×Bool×Z1):=
 (X5 (fun(x1,x4,x5,x6)=>(bif decide (x4<(qQ p1:Int))then((idx p1 x4).bind fun u1=>(G.X2 ({x5 with mem:=x6}) u1).bind fun y1=>bif !y1.2.1 then(some (Lp.ret ([],false,y1.2.2)))else((L1 (qQ x1+qQ ([y1.1]:List Y1))).bind fun _=>some (Lp.go (x1++([y1.1]:List Y1),qJ .i64 (x4+1),y1.2.2,y1.2.2.mem))))else(some (Lp.brk (x1,x4,{x5 with mem:=x6},x6))):Option (Lp ((List Y1)×Int×Z1×Y5) ((List Y1)×Bool×Z1)))) NN ([],(0:Int),p0,p0.mem)).bind fun o=>o.thn (fun(x1,x4,x5,x6)=>some (x1,true,{x5 with mem:=x6})) (fun r=>some r)
def B0(G:Y0i)(p0:Z1)(p1:Y6):Option (Y1×Bool×Z1):=
 (V6 p0).bind fun y1=>bif !y1.1 then(some ((⟨0,(⟨0,0,0,0⟩:X9),false⟩:Y1),false,y1.2))else(bif p1.Kind==1 then(bif p1.Ptr then((Z6n true).bind fun y2=>some (y2,true,y1.2))else((H8 p1.Num).bind fun y3=>some (y3,true,y1.2)))else(jn (fun kk1=>bif p1.Kind==7 then(kk1 (p1.Kind==7))else(kk1 (p1.Kind==8))) (fun(x1:Bool)=>bif x1 then((idx p1.Kids 0).bind fun u1=>(G.V2 y1.2 u1).bind fun y4=>jn (fun kk2=>bif (y4.2.1&&(y4.1==(p1.Kind==7)))then((idx p1.Kids 1).bind fun u2=>(G.V2 y4.2.2 u2).bind fun y5=>kk2 y5.1 y5.2.1 y5.2.2 y5.2.2.mem)else(kk2 y4.1 y4.2.1 y4.2.2 y4.2.2.mem)) (fun(x4:Bool)(x5:Bool)(x6:Z1)(x7:Y5)=>(W4 x4).bind fun y6=>some (y6,x5,{x6 with mem:=x7})))else(bif p1.Kind==9 then((idx p1.Kids 0).bind fun u3=>(G.V2 y1.2 u3).bind fun y7=>bif !y7.2.1 then(some ((⟨0,(⟨0,0,0,0⟩:X9),false⟩:Y1),false,y7.2.2))else(bif y7.1 then((idx p1.Kids 1).bind fun u4=>(G.X2 y7.2.2 u4).bind fun y8=>some (y8.1,y8.2.1,y8.2.2))else((idx p1.Kids 2).bind fun u5=>(G.X2 y7.2.2 u5).bind fun y9=>some (y9.1,y9.2.1,y9.2.2))))else((G.F1 y1.2 p1.Kids).bind fun y10=>bif !y10.2.1 then(some ((⟨0,(⟨0,0,0,0⟩:X9),false⟩:Y1),false,y10.2.2))else(bif p1.Kind==10 then((G.K5 y10.2.2 p1.Var y10.1 p1.Ptr).bind fun y11=>some (y11.1,y11.2.1,y11.2.2))else((V4 y10.2.2 p1 y10.1).bind fun y12=>(U6 y12.2.2 y12.2.1).bind fun y13=>some (y12.1,y13.1,y13.2))))))))
def P1(G:Y0i)(p0:Z1)(p1:Y6):Option (Bool×Bool×Z1):=
 (G.X2 p0 p1).bind fun y1=>(Q6x y1.1).bind fun y2=>some (!y2,y1.2.1,y1.2.2)
def N1(G:Y0i)(p0:Z1)(p1:K1):Option (Int×Z1):=
 (X5 (fun(x3,x4,x5)=>((X5 (fun(x8,x9,x10)=>(bif decide (x8<(qQ p1.A:Int))then((idx p1.A x8).bind fun u1=>bif !x3 then(some (Lp.brk (x8,{x9 with mem:=x10},x10)))else((G.V2 ({x9 with mem:=x10}) u1).bind fun y9=>bif !y9.2.1 then(some (Lp.ret ((4:Int),y9.2.2)))else(bif !y9.1 then((some ((0:Int),y9.2.2)).bind fun r=>some (Lp.ret r))else(some (Lp.go (qJ .i64 (x8+1),y9.2.2,y9.2.2.mem))))))else(some (Lp.brk (x8,{x9 with mem:=x10},x10))):Option (Lp (Int×Z1×Y5) (Int×Z1)))) NN ((0:Int),{x4 with mem:=x5},x5)).bind fun o=>o.thn (fun(x8,x9,x10)=>(G.V5 ({x9 with mem:=x10}) p1.Body).bind fun y1=>bif y1.1==1 then(some (Lp.brk (true,y1.2,y1.2.mem)))else(jn (fun kk1=>bif y1.1==3 then(kk1 (y1.1==3))else(kk1 (y1.1==4))) (fun(x11:Bool)=>bif x11 then(some (Lp.ret (y1.1,y1.2)))else((X5 (fun(x14,x15,x16)=>(bif decide (x14<(qQ p1.Post:Int))then((idx p1.Post x14).bind fun u2=>(G.X2 ({x15 with mem:=x16}) u2).bind fun y2=>bif !y2.2.1 then(some (Lp.ret ((4:Int),y2.2.2)))else(some (Lp.go (qJ .i64 (x14+1),y2.2.2,y2.2.2.mem))))else(some (Lp.brk (x14,{x15 with mem:=x16},x16))):Option (Lp (Int×Z1×Y5) (Int×Z1)))) NN ((0:Int),y1.2,y1.2.mem)).bind fun o=>o.thn (fun(x14,x15,x16)=>(V6 ({x15 with mem:=x16})).bind fun y3=>bif !y3.1 then(some (Lp.ret ((4:Int),y3.2)))else(some (Lp.go (true,y3.2,y3.2.mem)))) (fun r=>some (Lp.ret r)))))) (fun r=>some (Lp.ret r)):Option (Lp (Bool×Z1×Y5) (Int×Z1)))) NN (!p1.First,p0,p0.mem)).bind fun o=>o.thn (fun(x3,x4,x5)=>some ((0:Int),{x4 with mem:=x5})) (fun r=>some r)
def D8(G:Y0i)(p0:Z1)(p1:K1):Option (Int×Z1):=
 (idx p1.A 0).bind fun u1=>(G.X2 p0 u1).bind fun y1=>bif !y1.2.1 then(some ((4:Int),y1.2.2))else((X5 (fun(x1,x2)=>(bif decide (0<=x2)then(jn (fun kk1=>(idx p1.Cases x2).bind fun u2=>bif u2.Default then(kk1 x2)else(kk1 x1)) (fun(x3:Int)=>some (Lp.go (x3,qJ .i64 (x2-1)))))else(some (Lp.brk (x1,x2))):Option (Lp (Int×Int) (Unit)))) NN ((qQ p1.Cases:Int),qJ .i64 ((qQ p1.Cases:Int)-1))).bind fun o=>o.thn (fun(x1,x2)=>(X5 (fun(x4,x5)=>(bif decide (0<=x5)then(jn (fun kk2=>(idx p1.Cases x5).bind fun u3=>bif !u3.Default then((idx p1.Cases x5).bind fun u4=>bif u4.Num==y1.1.Num then(kk2 x5)else(kk2 x4))else(kk2 x4)) (fun(x6:Int)=>some (Lp.go (x6,qJ .i64 (x5-1)))))else(some (Lp.brk (x4,x5))):Option (Lp (Int×Int) (Unit)))) NN (x1,qJ .i64 ((qQ p1.Cases:Int)-1))).bind fun o=>o.thn (fun(x4,x5)=>(sub p1.Cases x4 (qQ p1.Cases:Int)).bind fun u5=>(X5 (fun(x9,x10,x11)=>(bif decide (x9<(qQ u5:Int))then((idx u5 x9).bind fun u6=>(G.V5 ({x10 with mem:=x11}) u6.Body).bind fun y2=>bif y2.1==1 then(some (Lp.ret ((0:Int),y2.2)))else(bif y2.1==0 then(some (Lp.go (qJ .i64 (x9+1),y2.2,y2.2.mem)))else(some (Lp.ret (y2.1,y2.2)))))else(some (Lp.brk (x9,{x10 with mem:=x11},x11))):Option (Lp (Int×Z1×Y5) (Int×Z1)))) NN ((0:Int),y1.2.2,y1.2.2.mem)).bind fun o=>o.thn (fun(x9,x10,x11)=>some ((0:Int),{x10 with mem:=x11})) (fun r=>some r)) (fun _=>none)) (fun _=>none))
def P3(G:Y0i)(p0:Z1)(p1:K1):Option (Int×Z1):=
 (V6 p0).bind fun y1=>bif !y1.1 then(some ((4:Int),y1.2))else(bif p1.Kind==2 then((idx p1.A 0).bind fun u1=>(G.V2 y1.2 u1).bind fun y2=>bif !y2.2.1 then(some ((4:Int),y2.2.2))else(bif y2.1 then((G.V5 y2.2.2 p1.Body).bind fun y3=>some (y3.1,y3.2))else((G.V5 y2.2.2 p1.Else).bind fun y4=>some (y4.1,y4.2))))else(bif p1.Kind==3 then((G.E1 y1.2 p1).bind fun y5=>some (y5.1,y5.2))else(bif p1.Kind==4 then((G.G6 y1.2 p1).bind fun y6=>some (y6.1,y6.2))else(bif p1.Kind==8 then((G.V5 y1.2 p1.Body).bind fun y7=>some (y7.1,y7.2))else(bif p1.Kind==6 then(some ((1:Int),y1.2))else(bif p1.Kind==7 then(some ((2:Int),y1.2))else(bif p1.Kind==9 then((idx y1.2.vars p1.Var).bind fun u2=>(Q6o y1.2.mem u2.Obj).bind fun y8=>(U6 ({y1.2 with mem:=y8.2}) y8.1).bind fun y9=>bif !y9.1 then(some ((4:Int),y9.2))else(some ((0:Int),y9.2)))else((X5 (fun(x3,x4,x5)=>(bif decide (x3<(qQ p1.A:Int))then(jn (fun kk1=>(idx p1.A x3).bind fun u3=>(G.X2 ({x4 with mem:=x5}) u3).bind fun y10=>bif !y10.2.1 then(some (Lp.ret ((4:Int),y10.2.2)))else(bif p1.Kind==5 then(kk1 ({y10.2.2 with ret:=y10.1}) y10.2.2.mem)else(kk1 y10.2.2 y10.2.2.mem))) (fun(x8:Z1)(x9:Y5)=>some (Lp.go (qJ .i64 (x3+1),{x8 with mem:=x9},x9))))else(some (Lp.brk (x3,{x4 with mem:=x5},x5))):Option (Lp (Int×Z1×Y5) (Int×Z1)))) NN ((0:Int),y1.2,y1.2.mem)).bind fun o=>o.thn (fun(x3,x4,x5)=>bif p1.Kind==5 then(some ((3:Int),{x4 with mem:=x5}))else(some ((0:Int),{x4 with mem:=x5}))) (fun r=>some r)))))))))
def N3(G:Y0i)(p0:Z1)(p1:List K1):Option (Int×Z1):=
 (X5 (fun(x3,x4,x5)=>(bif decide (x3<(qQ p1:Int))then((idx p1 x3).bind fun u1=>(G.B9 ({x4 with mem:=x5}) u1).bind fun y1=>bif y1.1 !=0 then(some (Lp.ret (y1.1,y1.2)))else(some (Lp.go (qJ .i64 (x3+1),y1.2,y1.2.mem))))else(some (Lp.brk (x3,{x4 with mem:=x5},x5))):Option (Lp (Int×Z1×Y5) (Int×Z1)))) NN ((0:Int),p0,p0.mem)).bind fun o=>o.thn (fun(x3,x4,x5)=>some ((0:Int),{x4 with mem:=x5})) (fun r=>some r)
def N2(G:Y0i)(p0:Z1)(p1:Int)(p2:List Y1)(p3:Bool):Option (Y1×Bool×Z1):=
 bif p0.deep==5000 then((J4 p0 16).bind fun y1=>some ((⟨0,(⟨0,0,0,0⟩:X9),false⟩:Y1),y1.1,y1.2))else((idx p0.u.Codes p1).bind fun u1=>(Z6n p3).bind fun y2=>(M9 ({p0 with deep:=qJ .i64 (p0.deep+1),ret:=y2}) u1 p2).bind fun y3=>bif !y3.1 then(some ((⟨0,(⟨0,0,0,0⟩:X9),false⟩:Y1),false,y3.2))else((G.V5 y3.2 u1.Body).bind fun y4=>bif y4.1==4 then(some ((⟨0,(⟨0,0,0,0⟩:X9),false⟩:Y1),false,y4.2))else((X5 (fun(x1,x2)=>(bif decide (x2<(qQ y4.2.vars:Int))then((idx y4.2.vars x2).bind fun u2=>(Q8f (⟨x1⟩:Y5) u2.Obj).bind fun y5=>some (Lp.go (y5.2.list,qJ .i64 (x2+1))))else(some (Lp.brk (x1,x2))):Option (Lp ((List G4)×Int) (Unit)))) NN (y4.2.mem.list,(0:Int))).bind fun o=>o.thn (fun(x1,x2)=>some (y4.2.ret,true,{y4.2 with mem:=(⟨x1⟩:Y5),deep:=qJ .i64 (y4.2.deep-1),vars:=p0.vars,ret:=p0.ret})) (fun _=>none))))
def D7:Nat->Y0i
 |0=>⟨fun _ _=>none,fun _ _=>none,fun _ _=>none,fun _ _=>none,fun _ _=>none,fun _ _=>none,fun _ _=>none,fun _ _ _ _=>none⟩
 |n+1=>⟨P0 (D7 n),B0 (D7 n),P1 (D7 n),N1 (D7 n),D8 (D7 n),P3 (D7 n),N3 (D7 n),N2 (D7 n)⟩
def F1(p0:Z1)(p1:List Y6):Option ((List Y1)×Bool×Z1):=(D7 NN).F1 p0 p1
def X2(p0:Z1)(p1:Y6):Option (Y1×Bool×Z1):=(D7 NN).X2 p0 p1
def V2(p0:Z1)(p1:Y6):Option (Bool×Bool×Z1):=(D7 NN).V2 p0 p1
def E1(p0:Z1)(p1:K1):Option (Int×Z1):=(D7 NN).E1 p0 p1
def G6(p0:Z1)(p1:K1):Option (Int×Z1):=(D7 NN).G6 p0 p1
def B9(p0:Z1)(p1:K1):Option (Int×Z1):=(D7 NN).B9 p0 p1
def V5(p0:Z1)(p1:List K1):Option (Int×Z1):=(D7 NN).V5 p0 p1
def K5(p0:Z1)(p1:Int)(p2:List Y1)(p3:Bool):Option (Y1×Bool×Z1):=(D7 NN).K5 p0 p1 p2 p3

def C8(p0:Q6a)(p1:List Int)(p2:Int):Option (P2):=
 (Y5c).bind fun y1=>(F2 (⟨p0,y1,p1,(⟨[],0,0,0⟩:P2),min (max p2 0) 10000000,0,[],(⟨0,(⟨0,0,0,0⟩:X9),false⟩:Y1)⟩:Z1)).bind fun y2=>bif !y2.1 then(some ({y2.2.out with Out:=[]}))else(jn (fun kk1=>(K5 ({y2.2 with vars:=[]}) p0.Main [] false).bind fun y3=>bif y3.2.1 then(kk1 ({y3.2.2 with out:={y3.2.2.out with Exit:=bits .and .u32 y3.1.Num 255}}) y3.2.2.mem)else(kk1 y3.2.2 y3.2.2.mem)) (fun(x3:Z1)(x4:Y5)=>some x3.out))

def Q8t:Option (Bool):=
 (Z0w ([105,110,116,32,109,97,105,110,40,41,32,123,32,111,117,116,40,105,110,40,41,32,43,32,49,41,59,32,114,101,116,117,114,110,32,51,48,48,59,32,125]:List UInt8)).bind fun y1=>(Z0w ([105,110,116,32,109,97,105,110,40,41,32,123,32,105,110,116,32,120,59,32,114,101,116,117,114,110,32,120,59,32,125]:List UInt8)).bind fun y2=>jn (fun kk1=>(C8 y1.1 ([4]:List Int) 100).bind fun y3=>(C8 y2.1 [] 100).bind fun y4=>kk1 y3 y4) (fun(x1:P2)(x2:P2)=>bif ((y1.2&&y2.2)&&((qQ x1.Out:Int)==1))then((idx x1.Out 0).bind fun u1=>some (((((u1==5)&&(x1.Exit==44))&&(x1.E==0))&&(x1.Ins==1))&&(x2.E==13)))else(some false))

def Z1l(p0:List Int)(p1:List Int):Option (Bool):=
 bif decide ((qQ p1:Int)<(qQ p0:Int))then(some false)else((X5 (fun(x1:Int)=>(bif decide (x1<(qQ p0:Int))then((idx p0 x1).bind fun u1=>(idx p1 x1).bind fun u2=>bif u1 !=u2 then(some (Lp.ret false))else(some (Lp.go (qJ .i64 (x1+1)))))else(some (Lp.brk x1)):Option (Lp (Int) (Bool)))) NN (0:Int)).bind fun o=>o.thn (fun(x1:Int)=>some true) (fun r=>some r))

def Q9i(p0:P2)(p1:P2):Option (Bool):=
 bif (qQ p0.Out:Int)==(qQ p1.Out:Int)then((Z1l p0.Out p1.Out).bind fun y1=>some (((y1&&(p0.Ins==p1.Ins))&&(p0.Exit==p1.Exit))&&(p0.E==p1.E)))else(some false)

def Q5g(p0:List UInt8)(p1:List Int)(p2:List Int):Option (Bool):=
 (Z0w p0).bind fun y1=>bif (((!y1.2)||(decide (40<(qQ p1:Int))))||(decide (40<(qQ p2:Int))))then((Q8t).bind fun y2=>some y2)else((C8 y1.1 p1 20000).bind fun y3=>(X5 (fun(x1,x2,x3)=>(bif decide (x3<(qQ p1:Int))then(jn (fun kk1=>(idx p1 x3).bind fun u1=>(L1 (qQ x2+qQ ([u1]:List Int))).bind fun _=>bif decide (x3<y3.Ins)then((idx p1 x3).bind fun u2=>(L1 (qQ x1+qQ ([u2]:List Int))).bind fun _=>kk1 (x1++([u2]:List Int)) (x2++([u1]:List Int)))else(kk1 x1 (x2++([u1]:List Int)))) (fun(x4:List Int)(x5:List Int)=>some (Lp.go (x4,x5,qJ .i64 (x3+1)))))else(some (Lp.brk (x1,x2,x3))):Option (Lp ((List Int)×(List Int)×Int) (Unit)))) NN ([],[],(0:Int))).bind fun o=>o.thn (fun(x1,x2,x3)=>(X5 (fun(x6,x7,x8)=>(bif decide (x8<(qQ p2:Int))then(jn (fun kk2=>(L1 (qQ x7+qQ ([0]:List Int))).bind fun _=>bif decide (y3.Ins<=(qQ p1:Int))then((idx p2 x8).bind fun u3=>(L1 (qQ x6+qQ ([u3]:List Int))).bind fun _=>kk2 (x6++([u3]:List Int)) (x7++([0]:List Int)))else(kk2 x6 (x7++([0]:List Int)))) (fun(x9:List Int)(x10:List Int)=>some (Lp.go (x9,x10,qJ .i64 (x8+1)))))else(some (Lp.brk (x6,x7,x8))):Option (Lp ((List Int)×(List Int)×Int) (Unit)))) NN (x1,x2,(0:Int))).bind fun o=>o.thn (fun(x6,x7,x8)=>(Q8t).bind fun y4=>bif y4 then((C8 y1.1 x7 20000).bind fun y5=>(Q9i y3 y5).bind fun y6=>bif y6 then((C8 y1.1 x6 20000).bind fun y7=>(Q9i y3 y7).bind fun y8=>some y8)else(some false))else(some false)) (fun _=>none)) (fun _=>none))

def Q8l(p0:Z3l):Option (Bool):=
 (Z0w p0.S).bind fun y1=>bif ((((((!y1.2)||(decide (40<(qQ p0.Inputs:Int))))||(decide (p0.N<0)))||(decide (p0.More<0)))||(decide (20000<p0.N)))||(decide (20000<p0.More)))then((Q8t).bind fun y2=>some y2)else(jn (fun kk1=>(C8 y1.1 p0.Inputs p0.N).bind fun y3=>(C8 y1.1 p0.Inputs (qJ .i64 (p0.N+p0.More))).bind fun y4=>kk1 y3 y4) (fun(x1:P2)(x2:P2)=>bif x1.E !=16 then((Q8t).bind fun y5=>bif y5 then((Q9i x1 x2).bind fun y6=>some y6)else(some false))else((Q8t).bind fun y7=>bif (y7&&(x1.Exit==0))then((Z1l x1.Out x2.Out).bind fun y8=>some (y8&&(decide (x1.Ins<=x2.Ins))))else(some false))))
end Go.Proofs.YtbfpdnogfkbiaaaGreat
