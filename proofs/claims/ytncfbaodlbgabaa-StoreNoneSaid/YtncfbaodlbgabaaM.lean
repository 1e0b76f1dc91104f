/- The models of Go functions: what each computes. Printed by gen2.py. -/
import Derived.Test.YtncfbaodlbgabaaModel
import Derived.Laws.Entries
set_option linter.unusedVariables false
namespace Go.Proofs.Ytncfbaodlbgabaa
structure StorePtr where
  Obj : Int
  Lo : Int
  Hi : Int
  Off : Int
  deriving DecidableEq
structure StoreValue where
  Num : Int
  Ptr : StorePtr
  Is : Bool
  deriving DecidableEq
structure law11Put where
  Size : Int
  At : Int
  V : StoreValue
  W : StoreValue
  deriving DecidableEq
structure StoreBytes where
  data : List Int
  set_ : List Bool
  deriving DecidableEq
structure StoreObject where
  bytes : StoreBytes
  ptrs : Option (List (Int × StorePtr))
  gone : Bool
  deriving DecidableEq
structure StoreStore where
  list : List StoreObject
  deriving DecidableEq
structure law11Act where
  Kind : Int
  Obj : Int
  N : Int
  Size : Int
  Is : Bool
  Data : List Int
  P : StorePtr
  V : StoreValue
  deriving DecidableEq


def store_New  : Option (StoreStore) :=
  some (⟨[]⟩ : StoreStore)

def store_Store_Make (p0 : StoreStore) (p1 : Int) : Option (StorePtr × Int × StoreStore) :=
  bif decide (p1 < 1) then (some ((⟨0, 0, 0, 0⟩ : StorePtr), (1 : Int), p0)) else (bif decide (32768 < p1) then (some ((⟨0, 0, 0, 0⟩ : StorePtr), (1 : Int), p0)) else (bif decide (1048576 ≤ (List.length p0.list : Int)) then (some ((⟨0, 0, 0, 0⟩ : StorePtr), (8 : Int), p0)) else ((repl p1 0).bind fun u1 => (repl p1 false).bind fun u2 => (room (List.length p0.list + 1)).bind fun _ => some ((⟨(List.length (p0.list ++ [(⟨(⟨u1, u2⟩ : StoreBytes), none, false⟩ : StoreObject)]) : Int), 0, p1, 0⟩ : StorePtr), (0 : Int), (⟨p0.list ++ [(⟨(⟨u1, u2⟩ : StoreBytes), none, false⟩ : StoreObject)]⟩ : StoreStore)))))

def store_Store_fit (p0 : StoreStore) (p1 : StorePtr) : Option (Int × Int) :=
  bif p1.Obj == 0 then (some ((-1 : Int), (14 : Int))) else (bif decide (p1.Obj < 0) then (some ((-1 : Int), (4 : Int))) else (bif decide ((List.length p0.list : Int) < p1.Obj) then (some ((-1 : Int), (4 : Int))) else ((idx p0.list (IntKind.wrap .i64 (p1.Obj - 1))).bind fun u1 => bif u1.gone then (some ((-1 : Int), (15 : Int))) else ((idx p0.list (IntKind.wrap .i64 (p1.Obj - 1))).bind fun u2 => some ((IntKind.wrap .i64 (p1.Obj - 1) : Int), (0 : Int))))))

def store_Store_Move (p0 : StoreStore) (p1 : StorePtr) (p2 : Int) : Option (StorePtr × Int) :=
  (store_Store_fit p0 p1).bind fun y1 => bif y1.2 != 0 then (some ((⟨0, 0, 0, 0⟩ : StorePtr), y1.2)) else (bif decide (p2 < (IntKind.wrap .i64 (p1.Lo - p1.Off))) then (some ((⟨0, 0, 0, 0⟩ : StorePtr), (12 : Int))) else (bif decide ((IntKind.wrap .i64 (p1.Hi - p1.Off)) < p2) then (some ((⟨0, 0, 0, 0⟩ : StorePtr), (12 : Int))) else (some ({ p1 with Off := IntKind.wrap .i64 (p1.Off + p2) }, (0 : Int)))))

def store_within (p0 : StorePtr) (p1 : Int) (p2 : Int) : Option (Bool) :=
  bif decide (0 ≤ p1) then (bif decide (1 ≤ p2) then (bif decide (p0.Off ≤ p0.Hi) then (bif decide (p1 ≤ (IntKind.wrap .i64 (p0.Hi - p0.Off))) then (some (decide (p2 ≤ (IntKind.wrap .i64 ((IntKind.wrap .i64 (p0.Hi - p0.Off)) - p1))))) else (some false)) else (some false)) else (some false)) else (some false)

def store_Store_place (p0 : StoreStore) (p1 : StorePtr) (p2 : Int) (p3 : Bool) : Option (Int × Int) :=
  bif p2 != 1 then (bif p2 != 4 then (some ((-1 : Int), (1 : Int))) else (bif p3 then (bif p2 != 4 then (some ((-1 : Int), (1 : Int))) else ((store_Store_fit p0 p1).bind fun y1 => bif y1.2 != 0 then (some ((-1 : Int), y1.2)) else (bif decide (p1.Off < p1.Lo) then (some ((-1 : Int), (12 : Int))) else ((store_within p1 0 p2).bind fun y2 => bif !y2 then (some ((-1 : Int), (12 : Int))) else (bif decide (p1.Off < 0) then (some ((-1 : Int), (12 : Int))) else ((idx p0.list y1.1).bind fun u1 => bif decide ((List.length u1.bytes.data : Int) < p2) then (some ((-1 : Int), (12 : Int))) else (bif decide ((IntKind.wrap .i64 ((List.length u1.bytes.data : Int) - p2)) < p1.Off) then (some ((-1 : Int), (12 : Int))) else (some ((y1.1 : Int), (0 : Int)))))))))) else ((store_Store_fit p0 p1).bind fun y3 => bif y3.2 != 0 then (some ((-1 : Int), y3.2)) else (bif decide (p1.Off < p1.Lo) then (some ((-1 : Int), (12 : Int))) else ((store_within p1 0 p2).bind fun y4 => bif !y4 then (some ((-1 : Int), (12 : Int))) else (bif decide (p1.Off < 0) then (some ((-1 : Int), (12 : Int))) else ((idx p0.list y3.1).bind fun u2 => bif decide ((List.length u2.bytes.data : Int) < p2) then (some ((-1 : Int), (12 : Int))) else (bif decide ((IntKind.wrap .i64 ((List.length u2.bytes.data : Int) - p2)) < p1.Off) then (some ((-1 : Int), (12 : Int))) else (some ((y3.1 : Int), (0 : Int))))))))))) else (bif p3 then (bif p2 != 4 then (some ((-1 : Int), (1 : Int))) else ((store_Store_fit p0 p1).bind fun y5 => bif y5.2 != 0 then (some ((-1 : Int), y5.2)) else (bif decide (p1.Off < p1.Lo) then (some ((-1 : Int), (12 : Int))) else ((store_within p1 0 p2).bind fun y6 => bif !y6 then (some ((-1 : Int), (12 : Int))) else (bif decide (p1.Off < 0) then (some ((-1 : Int), (12 : Int))) else ((idx p0.list y5.1).bind fun u3 => bif decide ((List.length u3.bytes.data : Int) < p2) then (some ((-1 : Int), (12 : Int))) else (bif decide ((IntKind.wrap .i64 ((List.length u3.bytes.data : Int) - p2)) < p1.Off) then (some ((-1 : Int), (12 : Int))) else (some ((y5.1 : Int), (0 : Int)))))))))) else ((store_Store_fit p0 p1).bind fun y7 => bif y7.2 != 0 then (some ((-1 : Int), y7.2)) else (bif decide (p1.Off < p1.Lo) then (some ((-1 : Int), (12 : Int))) else ((store_within p1 0 p2).bind fun y8 => bif !y8 then (some ((-1 : Int), (12 : Int))) else (bif decide (p1.Off < 0) then (some ((-1 : Int), (12 : Int))) else ((idx p0.list y7.1).bind fun u4 => bif decide ((List.length u4.bytes.data : Int) < p2) then (some ((-1 : Int), (12 : Int))) else (bif decide ((IntKind.wrap .i64 ((List.length u4.bytes.data : Int) - p2)) < p1.Off) then (some ((-1 : Int), (12 : Int))) else (some ((y7.1 : Int), (0 : Int))))))))))

def store_object_forget (p0 : StoreObject) (p1 : Int) (p2 : Int) : Option (StoreObject) :=
  (loopM (fun (x1, x2) => (bif decide (x2 < (IntKind.wrap .i64 (p1 + p2))) then (bif decide (0 < (mLenO x1 : Int)) then (some (Lp.go ((Option.map (fun z => mDel z x2) x1), IntKind.wrap .i64 (x2 + 1)))) else (some (Lp.brk (x1, x2)))) else (some (Lp.brk (x1, x2))) : Option (Lp ((Option (List (Int × StorePtr))) × Int) (Unit)))) NN (p0.ptrs, IntKind.wrap .i64 ((IntKind.wrap .i64 (p1 - 4)) + 1))).bind fun o => o.thn (fun (x1, x2) => some ({ p0 with ptrs := x1 })) (fun _ => none)

def store_Store_Put (p0 : StoreStore) (p1 : StorePtr) (p2 : Int) (p3 : StoreValue) : Option (Int × StoreStore) :=
  (store_Store_place p0 p1 p2 p3.Is).bind fun y1 => bif y1.2 != 0 then (some (y1.2, p0)) else ((idx p0.list y1.1).bind fun u1 => (store_object_forget u1 p1.Off p2).bind fun y2 => jn (fun kk1 => bif p3.Is then (jn (fun kk2 => bif Option.isNone y2.ptrs then (kk2 ({ y2 with ptrs := (some []) })) else (kk2 y2)) (fun (x9 : StoreObject) => (x9.ptrs).bind fun u2 => kk1 (0 : Int) ({ x9 with ptrs := (some (mSet u2 p1.Off p3.Ptr)) }))) else (kk1 p3.Num y2)) (fun (x4 : Int) (x5 : StoreObject) => (loopM (fun (x10, x11, x12) => (bif decide (x12 < p2) then ((nn (IntKind.wrap .i64 (8 * x12))).bind fun _ => (idx x10 (IntKind.wrap .i64 (p1.Off + x12))).bind fun u3 => (idx x10 (IntKind.wrap .i64 (p1.Off + x12))).bind fun u4 => (idx x11 (IntKind.wrap .i64 (p1.Off + x12))).bind fun u5 => (idx x11 (IntKind.wrap .i64 (p1.Off + x12))).bind fun u6 => some (Lp.go (List.set x10 (Int.toNat (IntKind.wrap .i64 (p1.Off + x12))) (IntKind.wrap .u8 (Int.fdiv x4 (2 ^ (min (Int.toNat (IntKind.wrap .i64 (8 * x12))) (IntKind.bits .u32))))), List.set x11 (Int.toNat (IntKind.wrap .i64 (p1.Off + x12))) true, IntKind.wrap .i64 (x12 + 1)))) else (some (Lp.brk (x10, x11, x12))) : Option (Lp ((List Int) × (List Bool) × Int) (Unit)))) NN (x5.bytes.data, x5.bytes.set_, 0)).bind fun o => o.thn (fun (x10, x11, x12) => some ((0 : Int), (⟨List.set p0.list (Int.toNat y1.1) ({ x5 with bytes := (⟨x10, x11⟩ : StoreBytes) })⟩ : StoreStore))) (fun _ => none)))

def store_Store_Load (p0 : StoreStore) (p1 : StorePtr) (p2 : Int) (p3 : Bool) : Option (StoreValue × Int) :=
  (store_Store_place p0 p1 p2 p3).bind fun y1 => bif y1.2 != 0 then (some ((⟨0, (⟨0, 0, 0, 0⟩ : StorePtr), false⟩ : StoreValue), y1.2)) else ((loopM (fun (x1, x2) => (bif decide (x2 < p2) then ((idx p0.list y1.1).bind fun u1 => (idx u1.bytes.set_ (IntKind.wrap .i64 (p1.Off + x2))).bind fun u2 => bif !u2 then (some (Lp.ret ((⟨0, (⟨0, 0, 0, 0⟩ : StorePtr), false⟩ : StoreValue), (13 : Int)))) else ((idx u1.bytes.data (IntKind.wrap .i64 (p1.Off + x2))).bind fun u3 => (nn (IntKind.wrap .i64 (8 * x2))).bind fun _ => some (Lp.go (bits .or .u32 x1 (IntKind.wrap .u32 ((IntKind.wrap .u32 u3) * 2 ^ (min (Int.toNat (IntKind.wrap .i64 (8 * x2))) (IntKind.bits .u32)))), IntKind.wrap .i64 (x2 + 1))))) else (some (Lp.brk (x1, x2))) : Option (Lp (Int × Int) (StoreValue × Int)))) NN (0, 0)).bind fun o => o.thn (fun (x1, x2) => bif p3 then ((idx p0.list y1.1).bind fun u4 => some ((⟨0, ((mGetO u4.ptrs p1.Off).getD (⟨0, 0, 0, 0⟩ : StorePtr)), true⟩ : StoreValue), (0 : Int))) else (some ((⟨x1, (⟨0, 0, 0, 0⟩ : StorePtr), false⟩ : StoreValue), (0 : Int)))) (fun r => some r))

def law11_awake  : Option (Bool) :=
  (store_New).bind fun y1 => (store_Store_Make y1 8).bind fun y2 => (store_Store_Move y2.2.2 y2.1 4).bind fun y3 => (store_Store_Put y2.2.2 y3.1 4 (⟨7, (⟨0, 0, 0, 0⟩ : StorePtr), false⟩ : StoreValue)).bind fun y4 => (store_Store_Load y4.2 y3.1 4 false).bind fun y5 => (store_Store_Load y4.2 y2.1 4 false).bind fun y6 => (store_Store_Move y4.2 y2.1 8).bind fun y7 => (store_Store_Load y4.2 y7.1 1 false).bind fun y8 => bif y2.2.1 == 0 then (bif y3.2 == 0 then (bif y4.1 == 0 then (bif y5.2 == 0 then (bif y5.1.Num == 7 then (bif y6.2 == 13 then (bif y7.2 == 0 then (some (y8.2 == 12)) else (some false)) else (some false)) else (some false)) else (some false)) else (some false)) else (some false)) else (some false)

def law11_StoreBack (p0 : law11Put) : Option (Bool) :=
  bif decide (p0.Size < 8) then ((law11_awake).bind fun y13 => some y13) else (bif decide (300 < p0.Size) then ((law11_awake).bind fun y12 => some y12) else (bif decide (p0.At < 0) then ((law11_awake).bind fun y11 => some y11) else (bif decide ((IntKind.wrap .i64 (p0.Size - 8)) < p0.At) then ((law11_awake).bind fun y1 => some y1) else ((store_New).bind fun y2 => (store_Store_Make y2 p0.Size).bind fun y3 => (store_Store_Move y3.2.2 y3.1 p0.At).bind fun y4 => (store_Store_Move y3.2.2 y3.1 (IntKind.wrap .i64 (p0.At + 4))).bind fun y5 => (store_Store_Put y3.2.2 y4.1 4 p0.V).bind fun y6 => (store_Store_Put y6.2 y5.1 4 p0.W).bind fun y7 => (store_Store_Load y7.2 y4.1 4 p0.V.Is).bind fun y8 => (store_Store_Load y7.2 y5.1 4 p0.W.Is).bind fun y9 => bif y3.2.1 != 0 then (some false) else (bif y4.2 != 0 then (some false) else (bif y5.2 != 0 then (some false) else (bif y6.1 != 0 then (some false) else (bif y7.1 != 0 then (some false) else (bif y8.2 != 0 then (some false) else (bif y9.2 != 0 then (some false) else (jn (fun kk1 => bif p0.V.Is then (kk1 ({ p0.V with Num := 0 })) else (kk1 ({ p0.V with Ptr := (⟨0, 0, 0, 0⟩ : StorePtr) }))) (fun (x1 : StoreValue) => jn (fun kk2 => bif p0.W.Is then (kk2 ({ p0.W with Num := 0 })) else (kk2 ({ p0.W with Ptr := (⟨0, 0, 0, 0⟩ : StorePtr) }))) (fun (x2 : StoreValue) => (law11_awake).bind fun y10 => bif y10 then (bif (y8.1.Num == x1.Num) && (y8.1.Ptr.Obj == x1.Ptr.Obj) && (y8.1.Ptr.Lo == x1.Ptr.Lo) && (y8.1.Ptr.Hi == x1.Ptr.Hi) && (y8.1.Ptr.Off == x1.Ptr.Off) && (y8.1.Is == x1.Is) then (some ((y9.1.Num == x2.Num) && (y9.1.Ptr.Obj == x2.Ptr.Obj) && (y9.1.Ptr.Lo == x2.Ptr.Lo) && (y9.1.Ptr.Hi == x2.Ptr.Hi) && (y9.1.Ptr.Off == x2.Ptr.Off) && (y9.1.Is == x2.Is))) else (some false)) else (some false))))))))))))))

def store_Store_object (p0 : StoreStore) (p1 : Int) : Option (Int × Int) :=
  bif decide (p1 < 1) then (some ((-1 : Int), (4 : Int))) else (bif decide ((List.length p0.list : Int) < p1) then (some ((-1 : Int), (4 : Int))) else ((idx p0.list (IntKind.wrap .i64 (p1 - 1))).bind fun u1 => bif u1.gone then (some ((-1 : Int), (4 : Int))) else ((idx p0.list (IntKind.wrap .i64 (p1 - 1))).bind fun u2 => some ((IntKind.wrap .i64 (p1 - 1) : Int), (0 : Int)))))

def store_Store_Fill (p0 : StoreStore) (p1 : Int) (p2 : List Int) : Option (Int × StoreStore) :=
  (store_Store_object p0 p1).bind fun y1 => bif y1.2 != 0 then (some (y1.2, p0)) else ((idx p0.list y1.1).bind fun u1 => bif decide ((List.length u1.bytes.data : Int) < (List.length p2 : Int)) then (some ((1 : Int), p0)) else ((loopM (fun (x4, x5) => (bif decide (x4 < (List.length p2 : Int)) then ((idx p2 x4).bind fun u2 => (store_object_forget x5 x4 1).bind fun y2 => (idx y2.bytes.data x4).bind fun u3 => (idx y2.bytes.data x4).bind fun u4 => (idx y2.bytes.set_ x4).bind fun u5 => (idx y2.bytes.set_ x4).bind fun u6 => some (Lp.go (IntKind.wrap .i64 (x4 + 1), { y2 with bytes := (⟨List.set y2.bytes.data (Int.toNat x4) u2, List.set y2.bytes.set_ (Int.toNat x4) true⟩ : StoreBytes) }))) else (some (Lp.brk (x4, x5))) : Option (Lp (Int × StoreObject) (Unit)))) NN (0, u1)).bind fun o => o.thn (fun (x4, x5) => some ((0 : Int), (⟨List.set p0.list (Int.toNat y1.1) x5⟩ : StoreStore))) (fun _ => none)))

def store_Store_Part (p0 : StoreStore) (p1 : StorePtr) (p2 : Int) (p3 : Int) : Option (StorePtr × Int) :=
  (store_Store_fit p0 p1).bind fun y1 => bif y1.2 != 0 then (some ((⟨0, 0, 0, 0⟩ : StorePtr), y1.2)) else ((store_within p1 p2 p3).bind fun y2 => bif !y2 then (some ((⟨0, 0, 0, 0⟩ : StorePtr), (12 : Int))) else (some ((⟨p1.Obj, IntKind.wrap .i64 (p1.Off + p2), IntKind.wrap .i64 ((IntKind.wrap .i64 (p1.Off + p2)) + p3), IntKind.wrap .i64 (p1.Off + p2)⟩ : StorePtr), (0 : Int))))

def store_Store_Unset (p0 : StoreStore) (p1 : Int) : Option (Int × StoreStore) :=
  (store_Store_object p0 p1).bind fun y1 => bif y1.2 != 0 then (some (y1.2, p0)) else ((idx p0.list y1.1).bind fun u1 => (repl (List.length u1.bytes.data : Int) 0).bind fun u2 => (repl (List.length u1.bytes.data : Int) false).bind fun u3 => some ((0 : Int), (⟨List.set p0.list (Int.toNat y1.1) (⟨(⟨u2, u3⟩ : StoreBytes), none, u1.gone⟩ : StoreObject)⟩ : StoreStore)))

def store_Store_Drop (p0 : StoreStore) (p1 : Int) : Option (Int × StoreStore) :=
  (store_Store_object p0 p1).bind fun y1 => bif y1.2 != 0 then (some (y1.2, p0)) else ((idx p0.list y1.1).bind fun u1 => some ((0 : Int), (⟨List.set p0.list (Int.toNat y1.1) (⟨(⟨[], []⟩ : StoreBytes), none, true⟩ : StoreObject)⟩ : StoreStore)))

def law11_StoreGone (p0 : Int) (p1 : Int) (p2 : Int) : Option (Bool) :=
  bif decide (p0 < 1) then ((law11_awake).bind fun y20 => some y20) else (bif decide (300 < p0) then ((law11_awake).bind fun y19 => some y19) else (bif decide (p1 < 0) then ((law11_awake).bind fun y18 => some y18) else (bif decide (p2 < 1) then ((law11_awake).bind fun y17 => some y17) else (bif decide (p0 < p1) then ((law11_awake).bind fun y16 => some y16) else (bif decide ((IntKind.wrap .i64 (p0 - p1)) < p2) then ((law11_awake).bind fun y1 => some y1) else ((store_New).bind fun y2 => (store_Store_Make y2 p0).bind fun y3 => (repl p0 0).bind fun u1 => (store_Store_Fill y3.2.2 y3.1.Obj u1).bind fun y4 => (store_Store_Part y4.2 y3.1 p1 p2).bind fun y5 => (store_Store_Load y4.2 y5.1 1 false).bind fun y6 => (store_Store_Unset y4.2 y3.1.Obj).bind fun y7 => (store_Store_Load y7.2 y5.1 1 false).bind fun y8 => (store_Store_Put y7.2 y5.1 1 (⟨9, (⟨0, 0, 0, 0⟩ : StorePtr), false⟩ : StoreValue)).bind fun y9 => (store_Store_Drop y9.2 y3.1.Obj).bind fun y10 => (store_Store_Load y10.2 y5.1 1 false).bind fun y11 => (store_Store_Put y10.2 y5.1 1 (⟨0, (⟨0, 0, 0, 0⟩ : StorePtr), false⟩ : StoreValue)).bind fun y12 => (store_Store_Move y12.2 y5.1 0).bind fun y13 => (law11_awake).bind fun y14 => bif y14 then (bif y3.2.1 == 0 then (bif y4.1 == 0 then (bif y5.2 == 0 then (bif y6.2 == 0 then (bif y7.1 == 0 then (bif y8.2 == 13 then (bif y9.1 == 0 then (bif y10.1 == 0 then (bif y11.2 == 15 then (bif y12.1 == 15 then (bif y13.2 == 15 then ((store_Store_Drop y12.2 y3.1.Obj).bind fun y15 => some (y15.1 == 4)) else (some false)) else (some false)) else (some false)) else (some false)) else (some false)) else (some false)) else (some false)) else (some false)) else (some false)) else (some false)) else (some false)) else (some false)))))))

def ref11_sane (p0 : StorePtr) : Option (Bool) :=
  bif decide ((-100000) ≤ p0.Lo) then (bif decide (p0.Lo ≤ 100000) then (bif decide ((-100000) ≤ p0.Hi) then (bif decide (p0.Hi ≤ 100000) then (bif decide ((-100000) ≤ p0.Off) then (some (decide (p0.Off ≤ 100000))) else (some false)) else (some false)) else (some false)) else (some false)) else (some false)

def ref11_Sane (p0 : StorePtr) (p1 : Int) (p2 : Int) : Option (Bool) :=
  (ref11_sane p0).bind fun y1 => bif y1 then (bif decide ((-100000) ≤ p1) then (bif decide (p1 ≤ 100000) then (bif decide ((-100000) ≤ p2) then (some (decide (p2 ≤ 100000))) else (some false)) else (some false)) else (some false)) else (some false)

def law11_Few (p0 : List law11Act) : Option (Bool) :=
  bif decide (60 < (List.length p0 : Int)) then (some false) else ((loopM (fun (x1 : Int) => (bif decide (x1 < (List.length p0 : Int)) then ((idx p0 x1).bind fun u1 => bif decide (300 < u1.N) then (bif decide (u1.N ≤ 32768) then (bif (Int.tmod u1.Kind 100) == 0 then (some (Lp.ret false)) else (bif decide (300 < (List.length u1.Data : Int)) then (some (Lp.ret false)) else ((ref11_Sane u1.P u1.N u1.Size).bind fun y1 => bif !y1 then (some (Lp.ret false)) else (some (Lp.go (IntKind.wrap .i64 (x1 + 1))))))) else (bif decide (300 < (List.length u1.Data : Int)) then (some (Lp.ret false)) else ((ref11_Sane u1.P u1.N u1.Size).bind fun y2 => bif !y2 then (some (Lp.ret false)) else (some (Lp.go (IntKind.wrap .i64 (x1 + 1))))))) else (bif decide (300 < (List.length u1.Data : Int)) then (some (Lp.ret false)) else ((ref11_Sane u1.P u1.N u1.Size).bind fun y3 => bif !y3 then (some (Lp.ret false)) else (some (Lp.go (IntKind.wrap .i64 (x1 + 1))))))) else (some (Lp.brk x1)) : Option (Lp (Int) (Bool)))) NN 0).bind fun o => o.thn (fun (x1 : Int) => some true) (fun r => some r))

def store_Store_Make_2 (p0 : Int) : Option (StorePtr × Int) :=
  some ((⟨0, 0, 0, 0⟩ : StorePtr), (1 : Int))

def store_Store_place_2 (p0 : StorePtr) (p1 : Int) (p2 : Bool) : Option (Int) :=
  some (1 : Int)

def store_Store_Load_2 (p0 : StorePtr) (p1 : Int) (p2 : Bool) : Option (StoreValue × Int) :=
  (store_Store_place_2 p0 p1 p2).bind fun y1 => bif y1 != 0 then (some ((⟨0, (⟨0, 0, 0, 0⟩ : StorePtr), false⟩ : StoreValue), y1)) else ((loopM (fun (x1, x2) => (bif decide (x2 < p1) then none else (some (Lp.brk (x1, x2))) : Option (Lp (Int × Int) (StoreValue × Int)))) NN (0, 0)).bind fun o => o.thn (fun (x1, x2) => bif p2 then none else (some ((⟨x1, (⟨0, 0, 0, 0⟩ : StorePtr), false⟩ : StoreValue), (0 : Int)))) (fun r => some r))

def store_Store_fit_2 (p0 : StorePtr) : Option (Int) :=
  some (1 : Int)

def store_Store_Move_2 (p0 : StorePtr) (p1 : Int) : Option (StorePtr × Int) :=
  (store_Store_fit_2 p0).bind fun y1 => bif y1 != 0 then (some ((⟨0, 0, 0, 0⟩ : StorePtr), y1)) else (bif decide (p1 < (IntKind.wrap .i64 (p0.Lo - p0.Off))) then (some ((⟨0, 0, 0, 0⟩ : StorePtr), (12 : Int))) else (bif decide ((IntKind.wrap .i64 (p0.Hi - p0.Off)) < p1) then (some ((⟨0, 0, 0, 0⟩ : StorePtr), (12 : Int))) else (some ({ p0 with Off := IntKind.wrap .i64 (p0.Off + p1) }, (0 : Int)))))

def store_Store_Part_2 (p0 : StorePtr) (p1 : Int) (p2 : Int) : Option (StorePtr × Int) :=
  (store_Store_fit_2 p0).bind fun y1 => bif y1 != 0 then (some ((⟨0, 0, 0, 0⟩ : StorePtr), y1)) else ((store_within p0 p1 p2).bind fun y2 => bif !y2 then (some ((⟨0, 0, 0, 0⟩ : StorePtr), (12 : Int))) else (some ((⟨p0.Obj, IntKind.wrap .i64 (p0.Off + p1), IntKind.wrap .i64 ((IntKind.wrap .i64 (p0.Off + p1)) + p2), IntKind.wrap .i64 (p0.Off + p1)⟩ : StorePtr), (0 : Int))))

def store_Store_object_2 (p0 : Int) : Option (Int) :=
  some (1 : Int)

def store_Store_Fill_2 (p0 : Int) (p1 : List Int) : Option (Int) :=
  (store_Store_object_2 p0).bind fun y1 => bif y1 != 0 then (some y1) else none

def store_Store_Unset_2 (p0 : Int) : Option (Int) :=
  (store_Store_object_2 p0).bind fun y1 => bif y1 != 0 then (some y1) else none

def store_Store_Drop_2 (p0 : Int) : Option (Int) :=
  (store_Store_object_2 p0).bind fun y1 => bif y1 != 0 then (some y1) else none

def store_object_forget_2 (p0 : Int) (p1 : Int) : Option (Unit) :=
  (loopM (fun (x1 : Int) => (bif decide (x1 < (IntKind.wrap .i64 (p0 + p1))) then none else (some (Lp.brk x1)) : Option (Lp (Int) (Unit)))) NN (IntKind.wrap .i64 ((IntKind.wrap .i64 (p0 - 4)) + 1))).bind fun o => o.thn (fun (x1 : Int) => some ()) (fun _ => none)

def store_Store_Put_2 (p0 : StorePtr) (p1 : Int) (p2 : StoreValue) : Option (Int) :=
  (store_Store_place_2 p0 p1 p2.Is).bind fun y1 => bif y1 != 0 then (some y1) else ((store_object_forget_2 p0.Off p1).bind fun y2 => jn (fun kk1 => bif p2.Is then (jn (fun kk2 => none) (fun (_ : Unit) => (none : Option (Int)))) else (kk1 p2.Num)) (fun (x1 : Int) => (loopM (fun (x2 : Int) => (bif decide (x2 < p1) then none else (some (Lp.brk x2)) : Option (Lp (Int) (Unit)))) NN 0).bind fun o => o.thn (fun (x2 : Int) => some (0 : Int)) (fun _ => none)))

def store_Store_Count  : Option (Int) :=
  some (0 : Int)

def law11_StoreNone (p0 : law11Act) : Option (Bool) :=
  (law11_Few ([p0] : List law11Act)).bind fun y1 => bif !y1 then ((law11_awake).bind fun y2 => some y2) else ((store_Store_Make_2 p0.N).bind fun y3 => (store_Store_Load_2 p0.P p0.Size p0.Is).bind fun y4 => (store_Store_Move_2 p0.P p0.N).bind fun y5 => (store_Store_Part_2 p0.P p0.N p0.Size).bind fun y6 => (law11_awake).bind fun y7 => bif y7 then (bif (y3.1.Obj == 0) && (y3.1.Lo == 0) && (y3.1.Hi == 0) && (y3.1.Off == 0) then (bif y3.2 == 1 then (bif (y4.1.Num == 0) && (y4.1.Ptr.Obj == 0) && (y4.1.Ptr.Lo == 0) && (y4.1.Ptr.Hi == 0) && (y4.1.Ptr.Off == 0) && (y4.1.Is == false) then (bif y4.2 == 1 then (bif (y5.1.Obj == 0) && (y5.1.Lo == 0) && (y5.1.Hi == 0) && (y5.1.Off == 0) then (bif y5.2 == 1 then (bif (y6.1.Obj == 0) && (y6.1.Lo == 0) && (y6.1.Hi == 0) && (y6.1.Off == 0) then (bif y6.2 == 1 then ((store_Store_Fill_2 p0.Obj p0.Data).bind fun y8 => bif y8 == 1 then ((store_Store_Unset_2 p0.Obj).bind fun y9 => bif y9 == 1 then ((store_Store_Drop_2 p0.Obj).bind fun y10 => bif y10 == 1 then ((store_Store_Put_2 p0.P p0.Size p0.V).bind fun y11 => bif y11 == 1 then ((store_Store_Count).bind fun y12 => some (y12 == 0)) else (some false)) else (some false)) else (some false)) else (some false)) else (some false)) else (some false)) else (some false)) else (some false)) else (some false)) else (some false)) else (some false)) else (some false)) else (some false))
end Go.Proofs.Ytncfbaodlbgabaa
