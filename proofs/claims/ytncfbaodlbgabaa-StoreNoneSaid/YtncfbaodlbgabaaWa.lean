/- That Go functions compute their models. Printed by gen2.py. -/
import Derived.Test.YtncfbaodlbgabaaRows
import Derived.Test.YtncfbaodlbgabaaFoc
import Derived.Test.YtncfbaodlbgabaaTree
import Derived.Test.YtncfbaodlbgabaaNest
import Derived.Test.YtncfbaodlbgabaaM
set_option linter.unusedVariables false
namespace Go.Proofs.Ytncfbaodlbgabaa
attribute [local irreducible] wpList wpQuiet Code.wp
def rStorePtr : Rp StorePtr := ((rPair (rInt .i64) (rPair (rInt .i64) (rPair (rInt .i64) (rInt .i64))))).iso fun x => (x.Obj, x.Lo, x.Hi, x.Off)
theorem rStorePtr_open {T : Nat → Prop} {w : World} {cs : List Value} {x : StorePtr} (h : rStorePtr.rp T w cs x) : cs = [.int .i64 x.Obj, .int .i64 x.Lo, .int .i64 x.Hi, .int .i64 x.Off] := by
  obtain ⟨q1, y1, rfl, f1, g1⟩ := h
  cases f1
  obtain ⟨q2, y2, rfl, f2, g2⟩ := g1
  cases f2
  obtain ⟨q3, y3, rfl, f3, g3⟩ := g2
  cases f3
  cases g3
  exact rfl
theorem rStorePtr_mk {T : Nat → Prop} {w : World} {x : StorePtr}   : rStorePtr.rp T w [.int .i64 x.Obj, .int .i64 x.Lo, .int .i64 x.Hi, .int .i64 x.Off] x := ⟨_, _, rfl, rfl, ⟨_, _, rfl, rfl, ⟨_, _, rfl, rfl, rfl⟩⟩⟩
def rStoreValue : Rp StoreValue := ((rPair (rInt .u32) (rPair rStorePtr rBool))).iso fun x => (x.Num, x.Ptr, x.Is)
theorem rStoreValue_open {T : Nat → Prop} {w : World} {cs : List Value} {x : StoreValue} (h : rStoreValue.rp T w cs x) : cs = [.int .u32 x.Num, .int .i64 x.Ptr.Obj, .int .i64 x.Ptr.Lo, .int .i64 x.Ptr.Hi, .int .i64 x.Ptr.Off, .bool x.Is] := by
  obtain ⟨q1, y1, rfl, f1, g1⟩ := h
  cases f1
  obtain ⟨q2, y2, rfl, f2, g2⟩ := g1
  cases rStorePtr_open f2
  cases g2
  exact rfl
theorem rStoreValue_mk {T : Nat → Prop} {w : World} {x : StoreValue}   : rStoreValue.rp T w [.int .u32 x.Num, .int .i64 x.Ptr.Obj, .int .i64 x.Ptr.Lo, .int .i64 x.Ptr.Hi, .int .i64 x.Ptr.Off, .bool x.Is] x := ⟨_, _, rfl, rfl, ⟨_, _, rfl, rStorePtr_mk, rfl⟩⟩
def rlaw11Put : Rp law11Put := ((rPair (rInt .i64) (rPair (rInt .i64) (rPair rStoreValue rStoreValue)))).iso fun x => (x.Size, x.At, x.V, x.W)
theorem rlaw11Put_open {T : Nat → Prop} {w : World} {cs : List Value} {x : law11Put} (h : rlaw11Put.rp T w cs x) : cs = [.int .i64 x.Size, .int .i64 x.At, .int .u32 x.V.Num, .int .i64 x.V.Ptr.Obj, .int .i64 x.V.Ptr.Lo, .int .i64 x.V.Ptr.Hi, .int .i64 x.V.Ptr.Off, .bool x.V.Is, .int .u32 x.W.Num, .int .i64 x.W.Ptr.Obj, .int .i64 x.W.Ptr.Lo, .int .i64 x.W.Ptr.Hi, .int .i64 x.W.Ptr.Off, .bool x.W.Is] := by
  obtain ⟨q1, y1, rfl, f1, g1⟩ := h
  cases f1
  obtain ⟨q2, y2, rfl, f2, g2⟩ := g1
  cases f2
  obtain ⟨q3, y3, rfl, f3, g3⟩ := g2
  cases rStoreValue_open f3
  cases rStoreValue_open g3
  exact rfl
theorem rlaw11Put_mk {T : Nat → Prop} {w : World} {x : law11Put}   : rlaw11Put.rp T w [.int .i64 x.Size, .int .i64 x.At, .int .u32 x.V.Num, .int .i64 x.V.Ptr.Obj, .int .i64 x.V.Ptr.Lo, .int .i64 x.V.Ptr.Hi, .int .i64 x.V.Ptr.Off, .bool x.V.Is, .int .u32 x.W.Num, .int .i64 x.W.Ptr.Obj, .int .i64 x.W.Ptr.Lo, .int .i64 x.W.Ptr.Hi, .int .i64 x.W.Ptr.Off, .bool x.W.Is] x := ⟨_, _, rfl, rfl, ⟨_, _, rfl, rfl, ⟨_, _, rfl, rStoreValue_mk, rStoreValue_mk⟩⟩⟩
def rStoreBytes : Rp StoreBytes := ((rPair (rSl (rInt .u8)) (rSl rBool))).iso fun x => (x.data, x.set_)
theorem rStoreBytes_open {T : Nat → Prop} {w : World} {cs : List Value} {x : StoreBytes} (h : rStoreBytes.rp T w cs x) : ∃ (a0 : Option Addr) (c0 : Nat) (a1 : Option Addr) (c1 : Nat), cs = [.slice a0 (List.length x.data) c0, .slice a1 (List.length x.set_) c1] ∧ SlR (rInt .u8) T w (.slice a0 (List.length x.data) c0) x.data ∧ SlR rBool T w (.slice a1 (List.length x.set_) c1) x.set_ := by
  obtain ⟨q1, y1, rfl, f1, g1⟩ := h
  obtain ⟨v2, rfl, s2⟩ := f1
  obtain ⟨b2, k2, rfl⟩ := s2.shape
  obtain ⟨v3, rfl, s3⟩ := g1
  obtain ⟨b3, k3, rfl⟩ := s3.shape
  exact ⟨b2, k2, b3, k3, rfl, s2, s3⟩
theorem rStoreBytes_mk {T : Nat → Prop} {w : World} {x : StoreBytes} {a0 : Option Addr} {c0 : Nat} {a1 : Option Addr} {c1 : Nat} (e0 : SlR (rInt .u8) T w (.slice a0 (List.length x.data) c0) x.data) (e1 : SlR rBool T w (.slice a1 (List.length x.set_) c1) x.set_) : rStoreBytes.rp T w [.slice a0 (List.length x.data) c0, .slice a1 (List.length x.set_) c1] x := ⟨_, _, rfl, ⟨_, rfl, e0⟩, ⟨_, rfl, e1⟩⟩
def rlaw11Act : Rp law11Act := ((rPair (rInt .i64) (rPair (rInt .i64) (rPair (rInt .i64) (rPair (rInt .i64) (rPair rBool (rPair (rSl (rInt .u8)) (rPair rStorePtr rStoreValue)))))))).iso fun x => (x.Kind, x.Obj, x.N, x.Size, x.Is, x.Data, x.P, x.V)
theorem rlaw11Act_open {T : Nat → Prop} {w : World} {cs : List Value} {x : law11Act} (h : rlaw11Act.rp T w cs x) : ∃ (a5 : Option Addr) (c5 : Nat), cs = [.int .i64 x.Kind, .int .i64 x.Obj, .int .i64 x.N, .int .i64 x.Size, .bool x.Is, .slice a5 (List.length x.Data) c5, .int .i64 x.P.Obj, .int .i64 x.P.Lo, .int .i64 x.P.Hi, .int .i64 x.P.Off, .int .u32 x.V.Num, .int .i64 x.V.Ptr.Obj, .int .i64 x.V.Ptr.Lo, .int .i64 x.V.Ptr.Hi, .int .i64 x.V.Ptr.Off, .bool x.V.Is] ∧ SlR (rInt .u8) T w (.slice a5 (List.length x.Data) c5) x.Data := by
  obtain ⟨q1, y1, rfl, f1, g1⟩ := h
  cases f1
  obtain ⟨q2, y2, rfl, f2, g2⟩ := g1
  cases f2
  obtain ⟨q3, y3, rfl, f3, g3⟩ := g2
  cases f3
  obtain ⟨q4, y4, rfl, f4, g4⟩ := g3
  cases f4
  obtain ⟨q5, y5, rfl, f5, g5⟩ := g4
  cases f5
  obtain ⟨q6, y6, rfl, f6, g6⟩ := g5
  obtain ⟨v7, rfl, s7⟩ := f6
  obtain ⟨b7, k7, rfl⟩ := s7.shape
  obtain ⟨q8, y8, rfl, f8, g8⟩ := g6
  cases rStorePtr_open f8
  cases rStoreValue_open g8
  exact ⟨b7, k7, rfl, s7⟩
theorem rlaw11Act_mk {T : Nat → Prop} {w : World} {x : law11Act} {a5 : Option Addr} {c5 : Nat} (e0 : SlR (rInt .u8) T w (.slice a5 (List.length x.Data) c5) x.Data) : rlaw11Act.rp T w [.int .i64 x.Kind, .int .i64 x.Obj, .int .i64 x.N, .int .i64 x.Size, .bool x.Is, .slice a5 (List.length x.Data) c5, .int .i64 x.P.Obj, .int .i64 x.P.Lo, .int .i64 x.P.Hi, .int .i64 x.P.Off, .int .u32 x.V.Num, .int .i64 x.V.Ptr.Obj, .int .i64 x.V.Ptr.Lo, .int .i64 x.V.Ptr.Hi, .int .i64 x.V.Ptr.Off, .bool x.V.Is] x := ⟨_, _, rfl, rfl, ⟨_, _, rfl, rfl, ⟨_, _, rfl, rfl, ⟨_, _, rfl, rfl, ⟨_, _, rfl, rfl, ⟨_, _, rfl, ⟨_, rfl, e0⟩, ⟨_, _, rfl, rStorePtr_mk, rStoreValue_mk⟩⟩⟩⟩⟩⟩⟩
def encStorePtr (x : StorePtr) : Value := .agg #[.int .i64 x.Obj, .int .i64 x.Lo, .int .i64 x.Hi, .int .i64 x.Off]
def nEStoreObject : En StoreObject where
  sz := 4
  A := fun x cs => exA fun t : (Option Addr) × Nat × Nat × (Option Addr) × Nat × Nat × (Option Nat) => pA (cs = [.slice (t.1) (t.2.1) (t.2.2.1), .slice (t.2.2.2.1) (t.2.2.2.2.1) (t.2.2.2.2.2.1), .map (t.2.2.2.2.2.2), .bool x.gone]) (starL [ownA (rInt .u8) 5 (.slice (t.1) (t.2.1) (t.2.2.1)) x.bytes.data, ownA rBool 4 (.slice (t.2.2.2.1) (t.2.2.2.2.1) (t.2.2.2.2.2.1)) x.bytes.set_, mapA (Value.int .i64) encStorePtr (.map (t.2.2.2.2.2.2)) x.ptrs])
  len := fun h => by obtain ⟨t, h, _⟩ := h; subst h; rfl
  one := fun h c hc => by obtain ⟨t, h, _⟩ := h; subst h; exact (List.all_eq_true (p := Value.oneCell')).1 rfl c hc
theorem cf6 : CallOk Try.prog 6 := ⟨⟨_, Try.func6, by kernel_rfl, by kernel_rfl⟩⟩
theorem cf7 : CallOk Try.prog 7 := ⟨⟨_, Try.func7, by kernel_rfl, by kernel_rfl⟩⟩
theorem cf8 : CallOk Try.prog 8 := ⟨⟨_, Try.func8, by kernel_rfl, by kernel_rfl⟩⟩
theorem cf9 : CallOk Try.prog 9 := ⟨⟨_, Try.func9, by kernel_rfl, by kernel_rfl⟩⟩
theorem cf10 : CallOk Try.prog 10 := ⟨⟨_, Try.func10, by kernel_rfl, by kernel_rfl⟩⟩
theorem cf11 : CallOk Try.prog 11 := ⟨⟨_, Try.func11, by kernel_rfl, by kernel_rfl⟩⟩
theorem cf12 : CallOk Try.prog 12 := ⟨⟨_, Try.func12, by kernel_rfl, by kernel_rfl⟩⟩
theorem cf13 : CallOk Try.prog 13 := ⟨⟨_, Try.func13, by kernel_rfl, by kernel_rfl⟩⟩
theorem cf14 : CallOk Try.prog 14 := ⟨⟨_, Try.func14, by kernel_rfl, by kernel_rfl⟩⟩
theorem cf15 : CallOk Try.prog 15 := ⟨⟨_, Try.func15, by kernel_rfl, by kernel_rfl⟩⟩
theorem cf16 : CallOk Try.prog 16 := ⟨⟨_, Try.func16, by kernel_rfl, by kernel_rfl⟩⟩
theorem cf17 : CallOk Try.prog 17 := ⟨⟨_, Try.func17, by kernel_rfl, by kernel_rfl⟩⟩
theorem cf18 : CallOk Try.prog 18 := ⟨⟨_, Try.func18, by kernel_rfl, by kernel_rfl⟩⟩
theorem cf19 : CallOk Try.prog 19 := ⟨⟨_, Try.func19, by kernel_rfl, by kernel_rfl⟩⟩
theorem cf20 : CallOk Try.prog 20 := ⟨⟨_, Try.func20, by kernel_rfl, by kernel_rfl⟩⟩
theorem cf21 : CallOk Try.prog 21 := ⟨⟨_, Try.func21, by kernel_rfl, by kernel_rfl⟩⟩
theorem cf22 : CallOk Try.prog 22 := ⟨⟨_, Try.func22, by kernel_rfl, by kernel_rfl⟩⟩
theorem cf23 : CallOk Try.prog 23 := ⟨⟨_, Try.func23, by kernel_rfl, by kernel_rfl⟩⟩
theorem cf24 : CallOk Try.prog 24 := ⟨⟨_, Try.func24, by kernel_rfl, by kernel_rfl⟩⟩
theorem el4 : ElemOk Try.prog 4 1 := ⟨by kernel_rfl, by decide⟩
theorem el5 : ElemOk Try.prog 5 1 := ⟨by kernel_rfl, by decide⟩
theorem el46 : ElemOk Try.prog 46 16 := ⟨by kernel_rfl, by decide⟩
theorem el59 : ElemOk Try.prog 59 4 := ⟨by kernel_rfl, by decide⟩
theorem eq_24 (a0 : Int) (a1 : Int) (a2 : Int) (a3 : Int) (b0 : Int) (b1 : Int) (b2 : Int) (b3 : Int) : ∀ x y w, (do eqGuard .eql 24 x y (.agg #[.int .i64 a0, .int .i64 a1, .int .i64 a2, .int .i64 a3]) (.agg #[.int .i64 b0, .int .i64 b1, .int .i64 b2, .int .i64 b3]); binOp .eql 24 (.agg #[.int .i64 a0, .int .i64 a1, .int .i64 a2, .int .i64 a3]) (.agg #[.int .i64 b0, .int .i64 b1, .int .i64 b2, .int .i64 b3]) : Sem Value).run Try.prog w = .ok (.bool ((a0 == b0) && (a1 == b1) && (a2 == b2) && (a3 == b3))) w := by
  intro x y w
  simp [go_sem]
  repeat' split
  all_goals simp_all
theorem eq_26 (a0 : Int) (a1 : Int) (a2 : Int) (a3 : Int) (a4 : Int) (a5 : Bool) (b0 : Int) (b1 : Int) (b2 : Int) (b3 : Int) (b4 : Int) (b5 : Bool) : ∀ x y w, (do eqGuard .eql 26 x y (.agg #[.int .u32 a0, .int .i64 a1, .int .i64 a2, .int .i64 a3, .int .i64 a4, .bool a5]) (.agg #[.int .u32 b0, .int .i64 b1, .int .i64 b2, .int .i64 b3, .int .i64 b4, .bool b5]); binOp .eql 26 (.agg #[.int .u32 a0, .int .i64 a1, .int .i64 a2, .int .i64 a3, .int .i64 a4, .bool a5]) (.agg #[.int .u32 b0, .int .i64 b1, .int .i64 b2, .int .i64 b3, .int .i64 b4, .bool b5]) : Sem Value).run Try.prog w = .ok (.bool ((a0 == b0) && (a1 == b1) && (a2 == b2) && (a3 == b3) && (a4 == b4) && (a5 == b5))) w := by
  intro x y w
  simp [go_sem]
  repeat' split
  all_goals simp_all
theorem mix : Try.prog.follows .mixedOrders = true := by kernel_rfl

set_option maxRecDepth 100000 in
set_option maxHeartbeats 1000000 in
theorem store_New_sim {g : World} {T0 : Nat → Prop} {w0 : World} {R : Assn}  {r : StoreStore} (hS : Sep g T0 w0 [R])  (hm : store_New = some r) :
    Calls Try.prog 7 #[] w0 (RetS T0 w0 fun T w v => ∃ (b2 : Nat) (a1 : Option Addr) (n1 : Nat) (c1 : Nat), v = .pointer (some ⟨b2, 0, none⟩) ∧ Sep g T w [R, boxA b2 [.slice a1 n1 c1], nestA nEStoreObject 59 (.slice a1 n1 c1) r.list] ∧ True) := by
  refine enter (args := []) Try.func7 rfl Try.ntmps7 rfl fun J => ?_
  unfold store_New at hm
  refine sq2 ?_
  refine rg (pv (r_zp rfl) (nil (t_then ?_)))
  refine sq2 ?_
  refine rg (pv (r_bd (by kernel_rfl) rfl (u := .agg #[.slice none 0 0])) (wl rfl (bxS (cs := [.slice none 0 0]) rfl rfl hS fun w1 b1 im1 hS1 => ?_)))
  refine pv (r_zp rfl) (nil (t_then ?_))
  have hS2 := Sep.nnil (E := nEStoreObject) (e := 59) hS1
  have hm := Option.some.inj hm
  subst hm
  exact rtn (ret1 rfl rfl ⟨_, rfl, _, im1, ⟨_, _, _, _, rfl, hS2.sel [2, 1, 0] rfl, trivial⟩⟩)

set_option maxRecDepth 100000 in
set_option maxHeartbeats 1000000 in
theorem store_Store_Make_sim {g : World} {T0 : Nat → Prop} {w0 : World} {R : Assn} {p0 : StoreStore} {b_p0 o_p0 : Nat} {H_p0 : List Value → Assn} {a1 : Option Addr} {n1 : Nat} {c1 : Nat} {p1 : Int} {r : StorePtr × Int × StoreStore} (hS : Sep g T0 w0 [R, H_p0 [.slice a1 n1 c1], nestA nEStoreObject 59 (.slice a1 n1 c1) p0.list]) (hL_p0 : Ln b_p0 o_p0 H_p0) (hm : store_Store_Make p0 p1 = some r) :
    Calls Try.prog 8 #[.pointer (some ⟨b_p0, o_p0, none⟩), .int .i64 p1] w0 (RetS T0 w0 fun T w v => ∃ (a6 : Option Addr) (n6 : Nat) (c6 : Nat), v = .tuple #[.agg #[.int .i64 r.1.Obj, .int .i64 r.1.Lo, .int .i64 r.1.Hi, .int .i64 r.1.Off], .int .i64 r.2.1] ∧ Sep g T w [R, H_p0 [.slice a6 n6 c6], nestA nEStoreObject 59 (.slice a6 n6 c6) r.2.2.list] ∧ True) := by
  refine enter (args := [.pointer (some ⟨b_p0, o_p0, none⟩), .int .i64 p1]) Try.func8 rfl Try.ntmps8 rfl fun J => ?_
  unfold store_Store_Make at hm
  refine sq2 ?_
  refine rg (wl rfl (alS (zs := [.int .i64 0, .int .i64 0, .int .i64 0, .int .i64 0]) Try.zeroValue24 rfl hS fun w1 b1 im1 hS1 => ?_))
  refine pv (r_zi rfl) (nil (t_then ?_))
  refine sq2 ?_
  refine blk ?_
  refine sq2 ?_
  refine rg (pv (r_mp rfl) (pv (r_pne rfl rfl rfl Try.underlying30) (pv (r_mb rfl) (gT (d0 := 9) rfl rfl rfl (pv (r_mi rfl) (gT (d0 := 9) rfl rfl rfl (pv (r_ib rfl rfl rfl) (pv (r_pkf rfl rfl rfl) (pv (r_mb rfl) (?_))))))))))
  rcases Bool.eq_false_or_eq_true (decide (p1 < 1)) with hb1 | hb1
  · have hm := ctrue hb1 hm
    refine gF (d0 := 13) rfl rfl (by rw [hb1]; rfl) (gF (d0 := 13) rfl rfl (by rw [hb1]; rfl) (pv (r_pkt rfl hb1 rfl) (pv (r_zb rfl) (nil (t_thenR [(0, .pointer (some ⟨b_p0, o_p0, none⟩)), (1, .int .i64 p1), (4, .pointer (some ⟨b1, 0, none⟩)), (6, .bool true)] ⟨rfl, rfl, rfl, rfl, trivial⟩ fun J => ?_)))))
    refine cnd (b := true) rfl (fun _ => ?_) (fun h => nomatch h)
    refine sq2 ?_
    refine rg (pv (r_bd (by kernel_rfl) rfl (u := .agg #[.int .i64 0, .int .i64 0, .int .i64 0, .int .i64 0])) (wl rfl (st0B (q := 0) hS1 ⟨rfl, rfl⟩ rfl rfl rfl Try.sizeOf24 rfl rfl rfl fun w11 im11 hS14 => ?_)))
    have hS14 : Sep g T0 w11 [boxA b1 [.int .i64 0, .int .i64 0, .int .i64 0, .int .i64 0], R, H_p0 [.slice a1 n1 c1], nestA nEStoreObject 59 (.slice a1 n1 c1) p0.list] := hS14
    refine pv (r_zi rfl) (nil (t_then ?_))
    have hm := Option.some.inj hm
    subst hm
    exact rtn (r_blk (r_then (retN (vs := [.agg #[.int .i64 0, .int .i64 0, .int .i64 0, .int .i64 0], .int .i64 1]) rfl ⟨rvS rfl Try.isAgg24 Try.sizeOf24 rfl (hS14.bx (i := 0) ⟨rfl, rfl⟩), rfl, trivial⟩ rfl ⟨_, rfl, _, (Im.trans im1 im11), ⟨_, _, _, rfl, hS14.sel [1, 2, 3] rfl, trivial⟩⟩)))
  · have hm := cfalse hb1 hm
    refine gT (d0 := 13) rfl rfl hb1 (pv (r_mi rfl) (gT (d0 := 13) rfl rfl hb1 (pv (r_ib rfl rfl rfl) (pv (r_pkf rfl hb1 rfl) (pv (r_zb rfl) (nil (t_thenR [(0, .pointer (some ⟨b_p0, o_p0, none⟩)), (1, .int .i64 p1), (4, .pointer (some ⟨b1, 0, none⟩)), (6, .bool (decide (32768 < p1)))] ⟨rfl, rfl, rfl, rfl, trivial⟩ fun J => ?_)))))))
    refine cnd rfl (fun hb2 => ?_) (fun hb2 => ?_)
    · have hm := ctrue hb2 hm
      refine sq2 ?_
      refine rg (pv (r_bd (by kernel_rfl) rfl (u := .agg #[.int .i64 0, .int .i64 0, .int .i64 0, .int .i64 0])) (wl rfl (st0B (q := 0) hS1 ⟨rfl, rfl⟩ rfl rfl rfl Try.sizeOf24 rfl rfl rfl fun w2 im2 hS2 => ?_)))
      have hS2 : Sep g T0 w2 [boxA b1 [.int .i64 0, .int .i64 0, .int .i64 0, .int .i64 0], R, H_p0 [.slice a1 n1 c1], nestA nEStoreObject 59 (.slice a1 n1 c1) p0.list] := hS2
      refine pv (r_zi rfl) (nil (t_then ?_))
      have hm := Option.some.inj hm
      subst hm
      exact rtn (r_blk (r_then (retN (vs := [.agg #[.int .i64 0, .int .i64 0, .int .i64 0, .int .i64 0], .int .i64 1]) rfl ⟨rvS rfl Try.isAgg24 Try.sizeOf24 rfl (hS2.bx (i := 0) ⟨rfl, rfl⟩), rfl, trivial⟩ rfl ⟨_, rfl, _, (Im.trans im1 im2), ⟨_, _, _, rfl, hS2.sel [1, 2, 3] rfl, trivial⟩⟩)))
    · have hm := cfalse hb2 hm
      refine sq2 ?_
      refine rg (pv (r_mp rfl) (pv (r_nc rfl) (pv (r_fa rfl Try.underlying53 rfl Try.sizeOf51 rfl) (pv (r_ld rfl Try.isAgg51 (hS1.cellB (i := 2) ⟨rfl, rfl⟩ hL_p0 (j := 0) rfl)) (pv (r_lnN (q := 3) hS1 ⟨rfl, rfl⟩ rfl Try.underlying51) (pv (r_ib rfl rfl rfl) (pv (r_zb rfl) (nil (t_thenR [(0, .pointer (some ⟨b_p0, o_p0, none⟩)), (1, .int .i64 p1), (4, .pointer (some ⟨b1, 0, none⟩)), (18, .bool (decide (1048576 ≤ (List.length p0.list : Int))))] ⟨rfl, rfl, rfl, rfl, trivial⟩ fun J => ?_)))))))))
      refine cnd rfl (fun hb3 => ?_) (fun hb3 => ?_)
      · have hm := ctrue hb3 hm
        refine sq2 ?_
        refine rg (pv (r_bd (by kernel_rfl) rfl (u := .agg #[.int .i64 0, .int .i64 0, .int .i64 0, .int .i64 0])) (wl rfl (st0B (q := 0) hS1 ⟨rfl, rfl⟩ rfl rfl rfl Try.sizeOf24 rfl rfl rfl fun w3 im3 hS3 => ?_)))
        have hS3 : Sep g T0 w3 [boxA b1 [.int .i64 0, .int .i64 0, .int .i64 0, .int .i64 0], R, H_p0 [.slice a1 n1 c1], nestA nEStoreObject 59 (.slice a1 n1 c1) p0.list] := hS3
        refine pv (r_zi rfl) (nil (t_then ?_))
        have hm := Option.some.inj hm
        subst hm
        exact rtn (r_blk (r_then (retN (vs := [.agg #[.int .i64 0, .int .i64 0, .int .i64 0, .int .i64 0], .int .i64 8]) rfl ⟨rvS rfl Try.isAgg24 Try.sizeOf24 rfl (hS3.bx (i := 0) ⟨rfl, rfl⟩), rfl, trivial⟩ rfl ⟨_, rfl, _, (Im.trans im1 im3), ⟨_, _, _, rfl, hS3.sel [1, 2, 3] rfl, trivial⟩⟩)))
      · have hm := cfalse hb3 hm
        refine skp (t_blk (t_then ?_))
        refine sq2 ?_
        refine rt [0, 0, 0, 0, 1, 0, 2, 0, 2, 0, 0, 2, 2, 0, 0, 2] [0, 1, 2, 3, 4, 5, 7, 6, 8, 9, 10, 11, 12, 13, 14, 15] mix (by kernel_rfl) hS1.lt fun w4 i1 => ?_
        have im4 := i1.imm
        have hS4 := hS1.keep i1 (fun _ h => h)
        obtain ⟨u1, hx1, hm⟩ := bindS hm
        obtain ⟨u2, hx2, hm⟩ := bindS hm
        obtain ⟨z_1, hro1, hm⟩ := bindS hm
        refine t0 rfl trivial (fun _ => r_mp rfl) rfl (t0 rfl trivial (fun _ => r_mp rfl) rfl (t0 rfl trivial (fun _ => r_nc rfl) rfl (t0 rfl trivial (fun _ => r_fa rfl Try.underlying53 rfl Try.sizeOf51 rfl) rfl (t1 rfl trivial (r_ld rfl Try.isAgg51 (hS4.cellB (i := 2) ⟨rfl, rfl⟩ hL_p0 (j := 0) rfl)) rfl (t0 rfl trivial (fun _ => r_mi rfl) rfl (t0 rfl trivial (fun _ => r_mi rfl) rfl (tw [6, 8] rfl (wt_of rfl rfl trivial) rfl (by kernel_rfl) (by kernel_rfl) ⟨br [8, 9, 10, 11, 12, 13, 14, 15] [(4, .slice a1 n1 c1)] rfl (by kernel_rfl) (by kernel_rfl) trivial (by kernel_rfl) (msS (r := (rInt .u8)) hS4 rfl rfl Try.underlying41 el5 Try.zeroValue5 rfl hx1 fun w5 a2 n2 c2 im5 hS5 => ?_), br [6, 9, 10, 11, 12, 13, 14, 15] [(4, .slice a1 n1 c1)] rfl (by kernel_rfl) (by kernel_rfl) trivial (by kernel_rfl) (msS (r := rBool) hS4 rfl rfl Try.underlying54 el4 Try.zeroValue4 rfl hx2 fun w5 a2 n2 c2 im5 hS5 => ?_), trivial⟩)))))))
        · refine ⟨st1 rfl (r_ld rfl Try.isAgg51 (hS5.cellB (i := 3) ⟨rfl, rfl⟩ hL_p0 (j := 0) rfl)) (st0), ?_⟩
          refine tw [8] rfl (wt_of rfl rfl trivial) rfl (by kernel_rfl) (by kernel_rfl) ⟨br [9, 10, 11, 12, 13, 14, 15] [(4, .slice a1 n1 c1)] rfl (by kernel_rfl) (by kernel_rfl) trivial (by kernel_rfl) (msS (r := rBool) hS5 rfl rfl Try.underlying54 el4 Try.zeroValue4 rfl hx2 fun w6 a3 n3 c3 im6 hS6 => ?_), trivial⟩
          refine ⟨st1 rfl (r_ld rfl Try.isAgg51 (hS6.cellB (i := 4) ⟨rfl, rfl⟩ hL_p0 (j := 0) rfl)) (st0), ?_⟩
          refine t0 rfl trivial (fun _ => r_bd (by kernel_rfl) rfl (u := .agg #[.slice a2 n2 c2, .slice a3 n3 c3])) rfl (t0 rfl trivial (fun _ => r_bd (by kernel_rfl) rfl (u := .agg #[.slice a2 n2 c2, .slice a3 n3 c3, .map none, .bool false])) rfl (tw [11] rfl (wt_of rfl rfl trivial) rfl (by kernel_rfl) (by kernel_rfl) ⟨br [12, 13, 14, 15] [(4, .slice a1 n1 c1)] rfl (by kernel_rfl) (by kernel_rfl) trivial (by kernel_rfl) (bsS (r := rRaw 4) (l := [[.slice a2 n2 c2, .slice a3 n3 c3, .map none, .bool false]]) (css := [[.slice a2 n2 c2, .slice a3 n3 c3, .map none, .bool false]]) hS6 Try.underlying51 Try.sizeOf59 Try.zeroValue59 rfl rfl (by kernel_rfl) rfl ⟨⟨rfl, rfl, (List.all_eq_true (p := Value.oneCell')).1 rfl⟩, trivial⟩ rfl rfl fun w7 a4 n4 c4 im7 hS7 => ?_), trivial⟩))
          refine ⟨st1 rfl (r_ld rfl Try.isAgg51 (hS7.cellB (i := 5) ⟨rfl, rfl⟩ hL_p0 (j := 0) rfl)) (st0), ?_⟩
          have hS8 := hS7.nilM (Value.int .i64) encStorePtr
          have hS9 := hS8.bun [3, 2, 0] [1, 4, 5, 6, 7] rfl
          have hS10 : Sep g T0 w7 [nEStoreObject.A (⟨(⟨u1, u2⟩ : StoreBytes), none, false⟩ : StoreObject) [.slice a2 n2 c2, .slice a3 n3 c3, .map none, .bool false], ownA (rRaw 4) 59 (.slice a4 n4 c4) ([[.slice a2 n2 c2, .slice a3 n3 c3, .map none, .bool false]] : List (List Value)), boxA b1 [.int .i64 0, .int .i64 0, .int .i64 0, .int .i64 0], R, H_p0 [.slice a1 n1 c1], nestA nEStoreObject 59 (.slice a1 n1 c1) p0.list] := Sep.exI (a2, n2, c2, a3, n3, c3, none) (Sep.pI rfl hS9)
          refine tw [12] rfl (wt_of rfl rfl trivial) rfl (by kernel_rfl) (by kernel_rfl) ⟨br [13, 14, 15] [] rfl (by kernel_rfl) (by kernel_rfl) trivial (by kernel_rfl) (apN (q := 4) hS10 ⟨rfl, rfl⟩ rfl rfl (hS10.own (i := 1) ⟨rfl, rfl⟩).v Try.underlying51 el59 (room_some hro1) fun w8 a5 n5 c5 im8 hS11 => ?_), trivial⟩
          have hS11 : Sep g T0 w8 [ownA (rRaw 4) 59 (.slice a4 n4 c4) ([[.slice a2 n2 c2, .slice a3 n3 c3, .map none, .bool false]] : List (List Value)), boxA b1 [.int .i64 0, .int .i64 0, .int .i64 0, .int .i64 0], R, H_p0 [.slice a1 n1 c1], nestA nEStoreObject 59 (.slice a5 n5 c5) (p0.list ++ [(⟨(⟨u1, u2⟩ : StoreBytes), none, false⟩ : StoreObject)])] := hS11
          refine ⟨st0, ?_⟩
          refine t0 rfl trivial (fun _ => r_nc rfl) rfl (t0 rfl trivial (fun _ => r_fa rfl Try.underlying53 rfl Try.sizeOf51 rfl) rfl (tw [15] rfl (wt_of rfl rfl trivial) rfl (by kernel_rfl) (by kernel_rfl) ⟨br [] [] rfl (by kernel_rfl) (by kernel_rfl) trivial (by kernel_rfl) (stB (q := 3) (j := 0) hS11 ⟨rfl, rfl⟩ hL_p0 rfl rfl rfl Try.sizeOf51 rfl rfl rfl fun w9 im9 hS12 => ?_), trivial⟩))
          have hS12 : Sep g T0 w9 [ownA (rRaw 4) 59 (.slice a4 n4 c4) ([[.slice a2 n2 c2, .slice a3 n3 c3, .map none, .bool false]] : List (List Value)), boxA b1 [.int .i64 0, .int .i64 0, .int .i64 0, .int .i64 0], R, H_p0 [.slice a5 n5 c5], nestA nEStoreObject 59 (.slice a5 n5 c5) (p0.list ++ [(⟨(⟨u1, u2⟩ : StoreBytes), none, false⟩ : StoreObject)])] := hS12
          refine ⟨st0, ?_⟩
          refine te (t_thenR [(0, .pointer (some ⟨b_p0, o_p0, none⟩)), (1, .int .i64 p1), (4, .pointer (some ⟨b1, 0, none⟩))] ⟨rfl, rfl, rfl, trivial⟩ fun J => ?_)
          refine sq2 ?_
          refine rg (pv (r_mp rfl) (pv (r_nc rfl) (pv (r_fa rfl Try.underlying53 rfl Try.sizeOf51 rfl) (pv (r_ld rfl Try.isAgg51 (hS12.cellB (i := 3) ⟨rfl, rfl⟩ hL_p0 (j := 0) rfl)) (pv (r_lnN (q := 4) hS12 ⟨rfl, rfl⟩ rfl Try.underlying51) (pv (r_mi rfl) (pv (r_bd (by kernel_rfl) rfl (u := .agg #[.int .i64 (List.length (p0.list ++ [(⟨(⟨u1, u2⟩ : StoreBytes), none, false⟩ : StoreObject)]) : Int), .int .i64 0, .int .i64 p1, .int .i64 0])) (wl rfl (st0B (q := 1) hS12 ⟨rfl, rfl⟩ rfl rfl rfl Try.sizeOf24 rfl rfl rfl fun w10 im10 hS13 => ?_)))))))))
          have hS13 : Sep g T0 w10 [ownA (rRaw 4) 59 (.slice a4 n4 c4) ([[.slice a2 n2 c2, .slice a3 n3 c3, .map none, .bool false]] : List (List Value)), boxA b1 [.int .i64 (List.length (p0.list ++ [(⟨(⟨u1, u2⟩ : StoreBytes), none, false⟩ : StoreObject)]) : Int), .int .i64 0, .int .i64 p1, .int .i64 0], R, H_p0 [.slice a5 n5 c5], nestA nEStoreObject 59 (.slice a5 n5 c5) (p0.list ++ [(⟨(⟨u1, u2⟩ : StoreBytes), none, false⟩ : StoreObject)])] := hS13
          refine pv (r_zi rfl) (nil (t_thenR [(4, .pointer (some ⟨b1, 0, none⟩)), (5, .int .i64 0)] ⟨rfl, rfl, trivial⟩ fun J => ?_))
          have hm := Option.some.inj hm
          subst hm
          exact rtn (retN (vs := [.agg #[.int .i64 (List.length (p0.list ++ [(⟨(⟨u1, u2⟩ : StoreBytes), none, false⟩ : StoreObject)]) : Int), .int .i64 0, .int .i64 p1, .int .i64 0], .int .i64 0]) rfl ⟨rvS rfl Try.isAgg24 Try.sizeOf24 rfl (hS13.bx (i := 1) ⟨rfl, rfl⟩), rfl, trivial⟩ rfl ⟨_, rfl, _, (Im.trans im1 (Im.trans im4 (Im.trans im5 (Im.trans im6 (Im.trans im7 (Im.trans im8 (Im.trans im9 im10))))))), ⟨_, _, _, rfl, hS13.sel [2, 3, 4] rfl, trivial⟩⟩)
        · refine ⟨st1 rfl (r_ld rfl Try.isAgg51 (hS5.cellB (i := 3) ⟨rfl, rfl⟩ hL_p0 (j := 0) rfl)) (st0), ?_⟩
          refine tw [6] rfl (wt_of rfl rfl trivial) rfl (by kernel_rfl) (by kernel_rfl) ⟨br [9, 10, 11, 12, 13, 14, 15] [(4, .slice a1 n1 c1)] rfl (by kernel_rfl) (by kernel_rfl) trivial (by kernel_rfl) (msS (r := (rInt .u8)) hS5 rfl rfl Try.underlying41 el5 Try.zeroValue5 rfl hx1 fun w6 a3 n3 c3 im6 hS6 => ?_), trivial⟩
          refine ⟨st1 rfl (r_ld rfl Try.isAgg51 (hS6.cellB (i := 4) ⟨rfl, rfl⟩ hL_p0 (j := 0) rfl)) (st0), ?_⟩
          refine t0 rfl trivial (fun _ => r_bd (by kernel_rfl) rfl (u := .agg #[.slice a3 n3 c3, .slice a2 n2 c2])) rfl (t0 rfl trivial (fun _ => r_bd (by kernel_rfl) rfl (u := .agg #[.slice a3 n3 c3, .slice a2 n2 c2, .map none, .bool false])) rfl (tw [11] rfl (wt_of rfl rfl trivial) rfl (by kernel_rfl) (by kernel_rfl) ⟨br [12, 13, 14, 15] [(4, .slice a1 n1 c1)] rfl (by kernel_rfl) (by kernel_rfl) trivial (by kernel_rfl) (bsS (r := rRaw 4) (l := [[.slice a3 n3 c3, .slice a2 n2 c2, .map none, .bool false]]) (css := [[.slice a3 n3 c3, .slice a2 n2 c2, .map none, .bool false]]) hS6 Try.underlying51 Try.sizeOf59 Try.zeroValue59 rfl rfl (by kernel_rfl) rfl ⟨⟨rfl, rfl, (List.all_eq_true (p := Value.oneCell')).1 rfl⟩, trivial⟩ rfl rfl fun w7 a4 n4 c4 im7 hS7 => ?_), trivial⟩))
          refine ⟨st1 rfl (r_ld rfl Try.isAgg51 (hS7.cellB (i := 5) ⟨rfl, rfl⟩ hL_p0 (j := 0) rfl)) (st0), ?_⟩
          have hS8 := hS7.nilM (Value.int .i64) encStorePtr
          have hS9 := hS8.bun [2, 3, 0] [1, 4, 5, 6, 7] rfl
          have hS10 : Sep g T0 w7 [nEStoreObject.A (⟨(⟨u1, u2⟩ : StoreBytes), none, false⟩ : StoreObject) [.slice a3 n3 c3, .slice a2 n2 c2, .map none, .bool false], ownA (rRaw 4) 59 (.slice a4 n4 c4) ([[.slice a3 n3 c3, .slice a2 n2 c2, .map none, .bool false]] : List (List Value)), boxA b1 [.int .i64 0, .int .i64 0, .int .i64 0, .int .i64 0], R, H_p0 [.slice a1 n1 c1], nestA nEStoreObject 59 (.slice a1 n1 c1) p0.list] := Sep.exI (a3, n3, c3, a2, n2, c2, none) (Sep.pI rfl hS9)
          refine tw [12] rfl (wt_of rfl rfl trivial) rfl (by kernel_rfl) (by kernel_rfl) ⟨br [13, 14, 15] [] rfl (by kernel_rfl) (by kernel_rfl) trivial (by kernel_rfl) (apN (q := 4) hS10 ⟨rfl, rfl⟩ rfl rfl (hS10.own (i := 1) ⟨rfl, rfl⟩).v Try.underlying51 el59 (room_some hro1) fun w8 a5 n5 c5 im8 hS11 => ?_), trivial⟩
          have hS11 : Sep g T0 w8 [ownA (rRaw 4) 59 (.slice a4 n4 c4) ([[.slice a3 n3 c3, .slice a2 n2 c2, .map none, .bool false]] : List (List Value)), boxA b1 [.int .i64 0, .int .i64 0, .int .i64 0, .int .i64 0], R, H_p0 [.slice a1 n1 c1], nestA nEStoreObject 59 (.slice a5 n5 c5) (p0.list ++ [(⟨(⟨u1, u2⟩ : StoreBytes), none, false⟩ : StoreObject)])] := hS11
          refine ⟨st0, ?_⟩
          refine t0 rfl trivial (fun _ => r_nc rfl) rfl (t0 rfl trivial (fun _ => r_fa rfl Try.underlying53 rfl Try.sizeOf51 rfl) rfl (tw [15] rfl (wt_of rfl rfl trivial) rfl (by kernel_rfl) (by kernel_rfl) ⟨br [] [] rfl (by kernel_rfl) (by kernel_rfl) trivial (by kernel_rfl) (stB (q := 3) (j := 0) hS11 ⟨rfl, rfl⟩ hL_p0 rfl rfl rfl Try.sizeOf51 rfl rfl rfl fun w9 im9 hS12 => ?_), trivial⟩))
          have hS12 : Sep g T0 w9 [ownA (rRaw 4) 59 (.slice a4 n4 c4) ([[.slice a3 n3 c3, .slice a2 n2 c2, .map none, .bool false]] : List (List Value)), boxA b1 [.int .i64 0, .int .i64 0, .int .i64 0, .int .i64 0], R, H_p0 [.slice a5 n5 c5], nestA nEStoreObject 59 (.slice a5 n5 c5) (p0.list ++ [(⟨(⟨u1, u2⟩ : StoreBytes), none, false⟩ : StoreObject)])] := hS12
          refine ⟨st0, ?_⟩
          refine te (t_thenR [(0, .pointer (some ⟨b_p0, o_p0, none⟩)), (1, .int .i64 p1), (4, .pointer (some ⟨b1, 0, none⟩))] ⟨rfl, rfl, rfl, trivial⟩ fun J => ?_)
          refine sq2 ?_
          refine rg (pv (r_mp rfl) (pv (r_nc rfl) (pv (r_fa rfl Try.underlying53 rfl Try.sizeOf51 rfl) (pv (r_ld rfl Try.isAgg51 (hS12.cellB (i := 3) ⟨rfl, rfl⟩ hL_p0 (j := 0) rfl)) (pv (r_lnN (q := 4) hS12 ⟨rfl, rfl⟩ rfl Try.underlying51) (pv (r_mi rfl) (pv (r_bd (by kernel_rfl) rfl (u := .agg #[.int .i64 (List.length (p0.list ++ [(⟨(⟨u1, u2⟩ : StoreBytes), none, false⟩ : StoreObject)]) : Int), .int .i64 0, .int .i64 p1, .int .i64 0])) (wl rfl (st0B (q := 1) hS12 ⟨rfl, rfl⟩ rfl rfl rfl Try.sizeOf24 rfl rfl rfl fun w10 im10 hS13 => ?_)))))))))
          have hS13 : Sep g T0 w10 [ownA (rRaw 4) 59 (.slice a4 n4 c4) ([[.slice a3 n3 c3, .slice a2 n2 c2, .map none, .bool false]] : List (List Value)), boxA b1 [.int .i64 (List.length (p0.list ++ [(⟨(⟨u1, u2⟩ : StoreBytes), none, false⟩ : StoreObject)]) : Int), .int .i64 0, .int .i64 p1, .int .i64 0], R, H_p0 [.slice a5 n5 c5], nestA nEStoreObject 59 (.slice a5 n5 c5) (p0.list ++ [(⟨(⟨u1, u2⟩ : StoreBytes), none, false⟩ : StoreObject)])] := hS13
          refine pv (r_zi rfl) (nil (t_thenR [(4, .pointer (some ⟨b1, 0, none⟩)), (5, .int .i64 0)] ⟨rfl, rfl, trivial⟩ fun J => ?_))
          have hm := Option.some.inj hm
          subst hm
          exact rtn (retN (vs := [.agg #[.int .i64 (List.length (p0.list ++ [(⟨(⟨u1, u2⟩ : StoreBytes), none, false⟩ : StoreObject)]) : Int), .int .i64 0, .int .i64 p1, .int .i64 0], .int .i64 0]) rfl ⟨rvS rfl Try.isAgg24 Try.sizeOf24 rfl (hS13.bx (i := 1) ⟨rfl, rfl⟩), rfl, trivial⟩ rfl ⟨_, rfl, _, (Im.trans im1 (Im.trans im4 (Im.trans im5 (Im.trans im6 (Im.trans im7 (Im.trans im8 (Im.trans im9 im10))))))), ⟨_, _, _, rfl, hS13.sel [2, 3, 4] rfl, trivial⟩⟩)

set_option maxRecDepth 100000 in
set_option maxHeartbeats 1000000 in
theorem store_Store_fit_sim {g : World} {T0 : Nat → Prop} {w0 : World} {R : Assn} {p0 : StoreStore} {b_p0 o_p0 : Nat} {H_p0 : List Value → Assn} {a1 : Option Addr} {n1 : Nat} {c1 : Nat} {p1 : StorePtr} {r : Int × Int} (hS : Sep g T0 w0 [R, H_p0 [.slice a1 n1 c1], nestA nEStoreObject 59 (.slice a1 n1 c1) p0.list]) (hL_p0 : Ln b_p0 o_p0 H_p0) (hm : store_Store_fit p0 p1 = some r) :
    Calls Try.prog 18 #[.pointer (some ⟨b_p0, o_p0, none⟩), .agg #[.int .i64 p1.Obj, .int .i64 p1.Lo, .int .i64 p1.Hi, .int .i64 p1.Off]] w0 (RetS T0 w0 fun T w v => ∃ (pv1 : Value), v = .tuple #[pv1, .int .i64 r.2] ∧ Sep g T w [R, H_p0 [.slice a1 n1 c1], nestA nEStoreObject 59 (.slice a1 n1 c1) p0.list] ∧ IpR pv1 (.slice a1 n1 c1) 4 r.1 ∧ True) := by
  refine enter (args := [.pointer (some ⟨b_p0, o_p0, none⟩), .agg #[.int .i64 p1.Obj, .int .i64 p1.Lo, .int .i64 p1.Hi, .int .i64 p1.Off]]) Try.func18 rfl Try.ntmps18 rfl fun J => ?_
  unfold store_Store_fit at hm
  refine sq2 ?_
  refine rg (wl rfl (bxS (cs := [.int .i64 p1.Obj, .int .i64 p1.Lo, .int .i64 p1.Hi, .int .i64 p1.Off]) rfl rfl hS fun w1 b1 im1 hS1 => ?_))
  refine pv (r_zp rfl) (pv (r_zi rfl) (nil (t_then ?_)))
  refine sq2 ?_
  refine blk ?_
  refine sq2 ?_
  refine rg (pv (r_mp rfl) (pv (r_pne rfl rfl rfl Try.underlying30) (pv (r_zb rfl) (nil (t_thenR [(0, .pointer (some ⟨b_p0, o_p0, none⟩)), (3, .pointer (some ⟨b1, 0, none⟩)), (6, .bool false)] ⟨rfl, rfl, rfl, trivial⟩ fun J => ?_)))))
  refine cnd (b := false) rfl (fun h => nomatch h) (fun _ => ?_)
  refine sq2 ?_
  refine rg (pv (r_fa rfl Try.underlying24 rfl Try.sizeOf3 rfl) (pv (r_ld rfl Try.isAgg3 (hS1.cell0 (i := 0) ⟨rfl, rfl⟩ (j := 0) rfl)) (pv (r_ib rfl rfl rfl) (pv (r_zb rfl) (nil (t_then ?_))))))
  refine cnd rfl (fun hb2 => ?_) (fun hb2 => ?_)
  · have hm := ctrue hb2 hm
    refine sq2 ?_
    refine rg (pv (r_zp rfl) (pv (r_zi rfl) (nil (t_thenR [(4, .pointer none), (5, .int .i64 14)] ⟨rfl, rfl, trivial⟩ fun J => ?_))))
    have hm := Option.some.inj hm
    subst hm
    exact rtn (r_blk (r_then (retN (vs := [.pointer none, .int .i64 14]) rfl ⟨rfl, rfl, trivial⟩ rfl ⟨_, rfl, _, im1, ⟨_, rfl, hS1.sel [1, 2, 3] rfl, ip_nil, trivial⟩⟩)))
  · have hm := cfalse hb2 hm
    refine sq2 ?_
    refine rq mix (by kernel_rfl) hS1.lt (qv (fun _ hq => r_fa rfl Try.underlying24 rfl Try.sizeOf3 rfl) (qv (fun _ hq => r_ld rfl Try.isAgg3 (hq.cell (hS1.cell0 (i := 0) ⟨rfl, rfl⟩ (j := 0) rfl))) (qv (fun _ hq => r_ib rfl rfl rfl) (qv (fun _ hq => r_mb rfl) (?_)))))
    rcases Bool.eq_false_or_eq_true (decide (p1.Obj < 0)) with hb3 | hb3
    · have hm := ctrue hb3 hm
      refine qgF (d0 := 17) rfl rfl (by rw [hb3]; rfl) (qgF (d0 := 17) rfl rfl (by rw [hb3]; rfl) (qgF (d0 := 17) rfl rfl (by rw [hb3]; rfl) (qgF (d0 := 17) rfl rfl (by rw [hb3]; rfl) (qgF (d0 := 17) rfl rfl (by rw [hb3]; rfl) (qgF (d0 := 17) rfl rfl (by rw [hb3]; rfl) (qgF (d0 := 17) rfl rfl (by rw [hb3]; rfl) (qgF (d0 := 17) rfl rfl (by rw [hb3]; rfl) (qv (fun _ hq => r_pkt rfl hb3 rfl) (qv (fun _ hq => r_zb rfl) (qn fun w5 T4 i4 => ?_))))))))))
      have im5 := i4.imm
      have hS22 := hS1.keep i4 (fun _ h => h)
      refine t_thenR [(0, .pointer (some ⟨b_p0, o_p0, none⟩)), (3, .pointer (some ⟨b1, 0, none⟩)), (13, .bool true)] ⟨rfl, rfl, rfl, trivial⟩ fun J => ?_
      refine cnd (b := true) rfl (fun _ => ?_) (fun h => nomatch h)
      refine sq2 ?_
      refine rg (pv (r_zp rfl) (pv (r_zi rfl) (nil (t_then ?_))))
      have hm := Option.some.inj hm
      subst hm
      exact rtn (r_blk (r_then (retN (vs := [.pointer none, .int .i64 4]) rfl ⟨rfl, rfl, trivial⟩ rfl ⟨_, rfl, _, (Im.trans im1 im5), ⟨_, rfl, hS22.sel [1, 2, 3] rfl, ip_nil, trivial⟩⟩)))
    · have hm := cfalse hb3 hm
      refine qgT (d0 := 17) rfl rfl hb3 (qv (fun _ hq => r_fa rfl Try.underlying24 rfl Try.sizeOf3 rfl) (qgT (d0 := 17) rfl rfl hb3 (qv (fun _ hq => r_ld rfl Try.isAgg3 (hq.cell (hS1.cell0 (i := 0) ⟨rfl, rfl⟩ (j := 0) rfl))) (qgT (d0 := 17) rfl rfl hb3 (qv (fun _ hq => r_mp rfl) (qgT (d0 := 17) rfl rfl hb3 (qv (fun _ hq => r_nc rfl) (qgT (d0 := 17) rfl rfl hb3 (qv (fun _ hq => r_fa rfl Try.underlying53 rfl Try.sizeOf51 rfl) (qgT (d0 := 17) rfl rfl hb3 (qv (fun _ hq => r_ld rfl Try.isAgg51 (hq.cell (hS1.cellB (i := 2) ⟨rfl, rfl⟩ hL_p0 (j := 0) rfl))) (qgT (d0 := 17) rfl rfl hb3 (qv (fun _ hq => r_lnN (q := 3) hS1 ⟨rfl, rfl⟩ rfl Try.underlying51) (qgT (d0 := 17) rfl rfl hb3 (qv (fun _ hq => r_ib rfl rfl rfl) (qv (fun _ hq => r_pkf rfl hb3 rfl) (qv (fun _ hq => r_zb rfl) (qn fun w2 T1 i1 => ?_))))))))))))))))))
      have im2 := i1.imm
      have hS2 := hS1.keep i1 (fun _ h => h)
      refine t_thenR [(0, .pointer (some ⟨b_p0, o_p0, none⟩)), (3, .pointer (some ⟨b1, 0, none⟩)), (13, .bool (decide ((List.length p0.list : Int) < p1.Obj)))] ⟨rfl, rfl, rfl, trivial⟩ fun J => ?_
      refine cnd rfl (fun hb4 => ?_) (fun hb4 => ?_)
      · have hm := ctrue hb4 hm
        refine sq2 ?_
        refine rg (pv (r_zp rfl) (pv (r_zi rfl) (nil (t_then ?_))))
        have hm := Option.some.inj hm
        subst hm
        exact rtn (r_blk (r_then (retN (vs := [.pointer none, .int .i64 4]) rfl ⟨rfl, rfl, trivial⟩ rfl ⟨_, rfl, _, (Im.trans im1 im2), ⟨_, rfl, hS2.sel [1, 2, 3] rfl, ip_nil, trivial⟩⟩)))
      · have hm := cfalse hb4 hm
        refine sq2 ?_
        refine rq mix (by kernel_rfl) hS2.lt (qv (fun _ hq => r_mp rfl) (qv (fun _ hq => r_nc rfl) (qv (fun _ hq => r_fa rfl Try.underlying53 rfl Try.sizeOf51 rfl) (qv (fun _ hq => r_ld rfl Try.isAgg51 (hq.cell (hS2.cellB (i := 2) ⟨rfl, rfl⟩ hL_p0 (j := 0) rfl))) (qv (fun _ hq => r_fa rfl Try.underlying24 rfl Try.sizeOf3 rfl) (qv (fun _ hq => r_ld rfl Try.isAgg3 (hq.cell (hS2.cell0 (i := 0) ⟨rfl, rfl⟩ (j := 0) rfl))) (qv (fun _ hq => r_ib rfl rfl rfl) (?_))))))))
        obtain ⟨u1, hx1, hm⟩ := bindS hm
        obtain ⟨b2, of1, k1, cp1, hv1, hp1, hl1, he1⟩ := hS2.nhd (q := 3) ⟨rfl, rfl⟩ hx1 rfl
        obtain ⟨css1, cs1, hS3⟩ := hS2.nfocus (q := 3) ⟨rfl, rfl⟩ hx1
        obtain ⟨⟨a2, n2, c2, a3, n3, c3, r1⟩, hS4⟩ := hS3.exE
        obtain ⟨hcs1, hS5⟩ := hS4.pE
        subst hcs1
        have hS6 : Sep g T1 w2 [ownA (rInt .u8) 5 (.slice a2 n2 c2) u1.bytes.data, ownA rBool 4 (.slice a3 n3 c3) u1.bytes.set_, mapA (Value.int .i64) encStorePtr (.map r1) u1.ptrs, elsA nEStoreObject p0.list css1 (some (Int.toNat (IntKind.wrap .i64 (p1.Obj - 1)))), boxA b1 [.int .i64 p1.Obj, .int .i64 p1.Lo, .int .i64 p1.Hi, .int .i64 p1.Off], R, H_p0 [.slice a1 n1 c1], (holeA (rRaw 4) 59 (.slice a1 n1 c1) css1 (Int.toNat (IntKind.wrap .i64 (p1.Obj - 1)))) [.slice a2 n2 c2, .slice a3 n3 c3, .map r1, .bool u1.gone]] := hS5.unb
        refine qv (fun _ hq => r_ixe hv1 rfl Try.underlying51 Try.sizeOf59 hp1 hl1 he1) (qv (fun _ hq => r_fa rfl Try.underlying59 rfl Try.sizeOf4 rfl) (qv (fun _ hq => r_ld rfl Try.isAgg4 (hq.cell (hS6.cellB (i := 7) ⟨rfl, rfl⟩ (lnHole (i := IntKind.wrap .i64 (p1.Obj - 1)) hv1 he1) (j := 3) rfl))) (qv (fun _ hq => r_zb rfl) (qn fun w3 T2 i2 => ?_))))
        have im3 := i2.imm
        have hS7 := hS6.keep i2 (fun _ h => h)
        refine t_thenR [(0, .pointer (some ⟨b_p0, o_p0, none⟩)), (3, .pointer (some ⟨b1, 0, none⟩)), (27, .bool u1.gone)] ⟨rfl, rfl, rfl, trivial⟩ fun J => ?_
        refine cnd rfl (fun hb5 => ?_) (fun hb5 => ?_)
        · have hm := ctrue hb5 hm
          refine sq2 ?_
          refine rg (pv (r_zp rfl) (pv (r_zi rfl) (nil (t_then ?_))))
          have hS8 := hS7.bun [0, 1, 2] [3, 4, 5, 6, 7] rfl
          have hS9 : Sep g T2 w3 [nEStoreObject.A u1 [.slice a2 n2 c2, .slice a3 n3 c3, .map r1, .bool u1.gone], elsA nEStoreObject p0.list css1 (some (Int.toNat (IntKind.wrap .i64 (p1.Obj - 1)))), boxA b1 [.int .i64 p1.Obj, .int .i64 p1.Lo, .int .i64 p1.Hi, .int .i64 p1.Off], R, H_p0 [.slice a1 n1 c1], (holeA (rRaw 4) 59 (.slice a1 n1 c1) css1 (Int.toNat (IntKind.wrap .i64 (p1.Obj - 1)))) [.slice a2 n2 c2, .slice a3 n3 c3, .map r1, .bool u1.gone]] := Sep.exI (a2, n2, c2, a3, n3, c3, r1) (Sep.pI rfl hS8)
          have hS10 : Sep g T2 w3 [boxA b1 [.int .i64 p1.Obj, .int .i64 p1.Lo, .int .i64 p1.Hi, .int .i64 p1.Off], R, H_p0 [.slice a1 n1 c1], nestA nEStoreObject 59 (.slice a1 n1 c1) p0.list] := hS9.nunfocus0 (q := 3) ⟨rfl, rfl⟩ hx1
          have hm := Option.some.inj hm
          subst hm
          exact rtn (r_blk (r_then (retN (vs := [.pointer none, .int .i64 15]) rfl ⟨rfl, rfl, trivial⟩ rfl ⟨_, rfl, _, (Im.trans im1 (Im.trans im2 im3)), ⟨_, rfl, hS10.sel [1, 2, 3] rfl, ip_nil, trivial⟩⟩)))
        · have hm := cfalse hb5 hm
          refine skp (t_blk (t_then ?_))
          refine sq2 ?_
          refine rq mix (by kernel_rfl) hS7.lt (qv (fun _ hq => r_mp rfl) (qv (fun _ hq => r_nc rfl) (qv (fun _ hq => r_fa rfl Try.underlying53 rfl Try.sizeOf51 rfl) (qv (fun _ hq => r_ld rfl Try.isAgg51 (hq.cell (hS7.cellB (i := 6) ⟨rfl, rfl⟩ hL_p0 (j := 0) rfl))) (qv (fun _ hq => r_fa rfl Try.underlying24 rfl Try.sizeOf3 rfl) (qv (fun _ hq => r_ld rfl Try.isAgg3 (hq.cell (hS7.cell0 (i := 4) ⟨rfl, rfl⟩ (j := 0) rfl))) (qv (fun _ hq => r_ib rfl rfl rfl) (?_))))))))
          obtain ⟨u2, hx2, hm⟩ := bindS hm
          have hS11 := hS7.bun [0, 1, 2] [3, 4, 5, 6, 7] rfl
          have hS12 : Sep g T2 w3 [nEStoreObject.A u1 [.slice a2 n2 c2, .slice a3 n3 c3, .map r1, .bool u1.gone], elsA nEStoreObject p0.list css1 (some (Int.toNat (IntKind.wrap .i64 (p1.Obj - 1)))), boxA b1 [.int .i64 p1.Obj, .int .i64 p1.Lo, .int .i64 p1.Hi, .int .i64 p1.Off], R, H_p0 [.slice a1 n1 c1], (holeA (rRaw 4) 59 (.slice a1 n1 c1) css1 (Int.toNat (IntKind.wrap .i64 (p1.Obj - 1)))) [.slice a2 n2 c2, .slice a3 n3 c3, .map r1, .bool u1.gone]] := Sep.exI (a2, n2, c2, a3, n3, c3, r1) (Sep.pI rfl hS11)
          have hS13 : Sep g T2 w3 [boxA b1 [.int .i64 p1.Obj, .int .i64 p1.Lo, .int .i64 p1.Hi, .int .i64 p1.Off], R, H_p0 [.slice a1 n1 c1], nestA nEStoreObject 59 (.slice a1 n1 c1) p0.list] := hS12.nunfocus0 (q := 3) ⟨rfl, rfl⟩ hx1
          obtain ⟨b3, of2, k2, cp2, hv2, hp2, hl2, he2⟩ := hS13.nhd (q := 3) ⟨rfl, rfl⟩ hx2 rfl
          obtain ⟨css2, cs2, hS14⟩ := hS13.nfocus (q := 3) ⟨rfl, rfl⟩ hx2
          obtain ⟨⟨a4, n4, c4, a5, n5, c5, r2⟩, hS15⟩ := hS14.exE
          obtain ⟨hcs2, hS16⟩ := hS15.pE
          subst hcs2
          have hS17 : Sep g T2 w3 [ownA (rInt .u8) 5 (.slice a4 n4 c4) u2.bytes.data, ownA rBool 4 (.slice a5 n5 c5) u2.bytes.set_, mapA (Value.int .i64) encStorePtr (.map r2) u2.ptrs, elsA nEStoreObject p0.list css2 (some (Int.toNat (IntKind.wrap .i64 (p1.Obj - 1)))), boxA b1 [.int .i64 p1.Obj, .int .i64 p1.Lo, .int .i64 p1.Hi, .int .i64 p1.Off], R, H_p0 [.slice a1 n1 c1], (holeA (rRaw 4) 59 (.slice a1 n1 c1) css2 (Int.toNat (IntKind.wrap .i64 (p1.Obj - 1)))) [.slice a4 n4 c4, .slice a5 n5 c5, .map r2, .bool u2.gone]] := hS16.unb
          refine qv (fun _ hq => r_ixe hv2 rfl Try.underlying51 Try.sizeOf59 hp2 hl2 he2) (qv (fun _ hq => r_zp rfl) (qv (fun _ hq => r_zi rfl) (qn fun w4 T3 i3 => ?_)))
          have im4 := i3.imm
          have hS18 := hS17.keep i3 (fun _ h => h)
          refine t_thenR [(4, .pointer (some ⟨b3, of2, none⟩)), (5, .int .i64 0)] ⟨rfl, rfl, trivial⟩ fun J => ?_
          have hS19 := hS18.bun [0, 1, 2] [3, 4, 5, 6, 7] rfl
          have hS20 : Sep g T3 w4 [nEStoreObject.A u2 [.slice a4 n4 c4, .slice a5 n5 c5, .map r2, .bool u2.gone], elsA nEStoreObject p0.list css2 (some (Int.toNat (IntKind.wrap .i64 (p1.Obj - 1)))), boxA b1 [.int .i64 p1.Obj, .int .i64 p1.Lo, .int .i64 p1.Hi, .int .i64 p1.Off], R, H_p0 [.slice a1 n1 c1], (holeA (rRaw 4) 59 (.slice a1 n1 c1) css2 (Int.toNat (IntKind.wrap .i64 (p1.Obj - 1)))) [.slice a4 n4 c4, .slice a5 n5 c5, .map r2, .bool u2.gone]] := Sep.exI (a4, n4, c4, a5, n5, c5, r2) (Sep.pI rfl hS19)
          have hS21 : Sep g T3 w4 [boxA b1 [.int .i64 p1.Obj, .int .i64 p1.Lo, .int .i64 p1.Hi, .int .i64 p1.Off], R, H_p0 [.slice a1 n1 c1], nestA nEStoreObject 59 (.slice a1 n1 c1) p0.list] := hS20.nunfocus0 (q := 3) ⟨rfl, rfl⟩ hx2
          have hm := Option.some.inj hm
          subst hm
          exact rtn (retN (vs := [.pointer (some ⟨b3, of2, none⟩), .int .i64 0]) rfl ⟨rfl, rfl, trivial⟩ rfl ⟨_, rfl, _, (Im.trans im1 (Im.trans im2 (Im.trans im3 im4))), ⟨_, rfl, hS21.sel [1, 2, 3] rfl, (ip_at hv2 hp2 he2), trivial⟩⟩)

set_option maxRecDepth 100000 in
set_option maxHeartbeats 1000000 in
theorem store_Store_Move_sim {g : World} {T0 : Nat → Prop} {w0 : World} {R : Assn} {p0 : StoreStore} {b_p0 o_p0 : Nat} {H_p0 : List Value → Assn} {a1 : Option Addr} {n1 : Nat} {c1 : Nat} {p1 : StorePtr} {p2 : Int} {r : StorePtr × Int} (hS : Sep g T0 w0 [R, H_p0 [.slice a1 n1 c1], nestA nEStoreObject 59 (.slice a1 n1 c1) p0.list]) (hL_p0 : Ln b_p0 o_p0 H_p0) (hm : store_Store_Move p0 p1 p2 = some r) :
    Calls Try.prog 9 #[.pointer (some ⟨b_p0, o_p0, none⟩), .agg #[.int .i64 p1.Obj, .int .i64 p1.Lo, .int .i64 p1.Hi, .int .i64 p1.Off], .int .i64 p2] w0 (RetS T0 w0 fun T w v => v = .tuple #[.agg #[.int .i64 r.1.Obj, .int .i64 r.1.Lo, .int .i64 r.1.Hi, .int .i64 r.1.Off], .int .i64 r.2] ∧ Sep g T w [R, H_p0 [.slice a1 n1 c1], nestA nEStoreObject 59 (.slice a1 n1 c1) p0.list] ∧ True) := by
  refine enter (args := [.pointer (some ⟨b_p0, o_p0, none⟩), .agg #[.int .i64 p1.Obj, .int .i64 p1.Lo, .int .i64 p1.Hi, .int .i64 p1.Off], .int .i64 p2]) Try.func9 rfl Try.ntmps9 rfl fun J => ?_
  unfold store_Store_Move at hm
  refine sq2 ?_
  refine rg (wl rfl (bxS (cs := [.int .i64 p1.Obj, .int .i64 p1.Lo, .int .i64 p1.Hi, .int .i64 p1.Off]) rfl rfl hS fun w1 b1 im1 hS1 => ?_))
  refine wl rfl (alS (zs := [.int .i64 0, .int .i64 0, .int .i64 0, .int .i64 0]) Try.zeroValue24 rfl hS1 fun w2 b2 im2 hS2 => ?_)
  refine pv (r_zi rfl) (nil (t_then ?_))
  refine sq2 ?_
  refine sq2 ?_
  obtain ⟨y1, hx1, hm⟩ := bindS hm
  refine rg (pv (r_mp rfl) (pv (r_ldS rfl Try.isAgg24 Try.sizeOf24 rfl (hS2.cells0 (i := 1) ⟨rfl, rfl⟩ (o := 0) rfl) (cs := [.int .i64 p1.Obj, .int .i64 p1.Lo, .int .i64 p1.Hi, .int .i64 p1.Off])) (wl rfl (calS cf18 rfl (store_Store_fit_sim (p0 := p0) (H_p0 := H_p0) (p1 := p1) (hS2.bun [0, 1, 2] [3, 4] rfl) hL_p0 hx1) rfl fun v1 T1 w3 im3 rv1 => ?_))))
  obtain ⟨pv1, rfl, hS3, h1, _⟩ := rv1
  have hS3 : Sep g T1 w3 [boxA b2 [.int .i64 0, .int .i64 0, .int .i64 0, .int .i64 0], boxA b1 [.int .i64 p1.Obj, .int .i64 p1.Lo, .int .i64 p1.Hi, .int .i64 p1.Off], R, H_p0 [.slice a1 n1 c1], nestA nEStoreObject 59 (.slice a1 n1 c1) p0.list] := hS3.unb
  refine pv (r_mv rfl) (pv (r_ex (v := pv1) rfl rfl) (pv (r_ex (v := .int .i64 y1.2) rfl rfl) (pv (r_zx (v := pv1) rfl) (pv (r_zi rfl) (nil (t_thenR [(2, .int .i64 p2), (4, .pointer (some ⟨b1, 0, none⟩)), (6, .pointer (some ⟨b2, 0, none⟩)), (9, .int .i64 y1.2)] ⟨rfl, rfl, rfl, rfl, trivial⟩ fun J => ?_))))))
  refine sq2 ?_
  refine rg (pv (r_mi rfl) (pv (r_ib rfl rfl rfl) (nil (t_then ?_))))
  refine cnd rfl (fun hb1 => ?_) (fun hb1 => ?_)
  · have hm := ctrue hb1 hm
    refine sq2 ?_
    refine rg (pv (r_bd (by kernel_rfl) rfl (u := .agg #[.int .i64 0, .int .i64 0, .int .i64 0, .int .i64 0])) (pv (r_mi rfl) (wl rfl (st0B (q := 0) hS3 ⟨rfl, rfl⟩ rfl rfl rfl Try.sizeOf24 rfl rfl rfl fun w4 im4 hS4 => ?_))))
    have hS4 : Sep g T1 w4 [boxA b2 [.int .i64 0, .int .i64 0, .int .i64 0, .int .i64 0], boxA b1 [.int .i64 p1.Obj, .int .i64 p1.Lo, .int .i64 p1.Hi, .int .i64 p1.Off], R, H_p0 [.slice a1 n1 c1], nestA nEStoreObject 59 (.slice a1 n1 c1) p0.list] := hS4
    refine pv (r_zi rfl) (nil (t_thenR [(6, .pointer (some ⟨b2, 0, none⟩)), (7, .int .i64 y1.2)] ⟨rfl, rfl, trivial⟩ fun J => ?_))
    have hm := Option.some.inj hm
    subst hm
    exact rtn (r_then (retN (vs := [.agg #[.int .i64 0, .int .i64 0, .int .i64 0, .int .i64 0], .int .i64 y1.2]) rfl ⟨rvS rfl Try.isAgg24 Try.sizeOf24 rfl (hS4.bx (i := 0) ⟨rfl, rfl⟩), rfl, trivial⟩ rfl ⟨_, rfl, _, (Im.trans im1 (Im.trans im2 (Im.trans im3 im4))), ⟨rfl, hS4.sel [2, 3, 4] rfl, trivial⟩⟩))
  · have hm := cfalse hb1 hm
    refine skp (t_then ?_)
    refine sq2 ?_
    refine sq2 ?_
    refine rg (pv (r_mi rfl) (pv (r_fa rfl Try.underlying24 rfl Try.sizeOf3 rfl) (pv (r_ld rfl Try.isAgg3 (hS3.cell0 (i := 1) ⟨rfl, rfl⟩ (j := 1) rfl)) (pv (r_fa rfl Try.underlying24 rfl Try.sizeOf3 rfl) (pv (r_ld rfl Try.isAgg3 (hS3.cell0 (i := 1) ⟨rfl, rfl⟩ (j := 3) rfl)) (pv (r_ib rfl rfl rfl) (pv (r_ib rfl rfl rfl) (pv (r_mb rfl) (?_)))))))))
    rcases Bool.eq_false_or_eq_true (decide (p2 < (IntKind.wrap .i64 (p1.Lo - p1.Off)))) with hb2 | hb2
    · have hm := ctrue hb2 hm
      refine gF (d0 := 27) rfl rfl (by rw [hb2]; rfl) (gF (d0 := 27) rfl rfl (by rw [hb2]; rfl) (gF (d0 := 27) rfl rfl (by rw [hb2]; rfl) (gF (d0 := 27) rfl rfl (by rw [hb2]; rfl) (gF (d0 := 27) rfl rfl (by rw [hb2]; rfl) (gF (d0 := 27) rfl rfl (by rw [hb2]; rfl) (gF (d0 := 27) rfl rfl (by rw [hb2]; rfl) (pv (r_pkt rfl hb2 rfl) (nil (t_thenR [(2, .int .i64 p2), (4, .pointer (some ⟨b1, 0, none⟩)), (6, .pointer (some ⟨b2, 0, none⟩)), (35, .bool true)] ⟨rfl, rfl, rfl, rfl, trivial⟩ fun J => ?_)))))))))
      refine cnd (b := true) rfl (fun _ => ?_) (fun h => nomatch h)
      refine sq2 ?_
      refine rg (pv (r_bd (by kernel_rfl) rfl (u := .agg #[.int .i64 0, .int .i64 0, .int .i64 0, .int .i64 0])) (wl rfl (st0B (q := 0) hS3 ⟨rfl, rfl⟩ rfl rfl rfl Try.sizeOf24 rfl rfl rfl fun w8 im8 hS8 => ?_)))
      have hS8 : Sep g T1 w8 [boxA b2 [.int .i64 0, .int .i64 0, .int .i64 0, .int .i64 0], boxA b1 [.int .i64 p1.Obj, .int .i64 p1.Lo, .int .i64 p1.Hi, .int .i64 p1.Off], R, H_p0 [.slice a1 n1 c1], nestA nEStoreObject 59 (.slice a1 n1 c1) p0.list] := hS8
      refine pv (r_zi rfl) (nil (t_then ?_))
      have hm := Option.some.inj hm
      subst hm
      exact rtn (r_then (retN (vs := [.agg #[.int .i64 0, .int .i64 0, .int .i64 0, .int .i64 0], .int .i64 12]) rfl ⟨rvS rfl Try.isAgg24 Try.sizeOf24 rfl (hS8.bx (i := 0) ⟨rfl, rfl⟩), rfl, trivial⟩ rfl ⟨_, rfl, _, (Im.trans im1 (Im.trans im2 (Im.trans im3 im8))), ⟨rfl, hS8.sel [2, 3, 4] rfl, trivial⟩⟩))
    · have hm := cfalse hb2 hm
      refine gT (d0 := 27) rfl rfl hb2 (pv (r_mi rfl) (gT (d0 := 27) rfl rfl hb2 (pv (r_fa rfl Try.underlying24 rfl Try.sizeOf3 rfl) (gT (d0 := 27) rfl rfl hb2 (pv (r_ld rfl Try.isAgg3 (hS3.cell0 (i := 1) ⟨rfl, rfl⟩ (j := 2) rfl)) (gT (d0 := 27) rfl rfl hb2 (pv (r_fa rfl Try.underlying24 rfl Try.sizeOf3 rfl) (gT (d0 := 27) rfl rfl hb2 (pv (r_ld rfl Try.isAgg3 (hS3.cell0 (i := 1) ⟨rfl, rfl⟩ (j := 3) rfl)) (gT (d0 := 27) rfl rfl hb2 (pv (r_ib rfl rfl rfl) (gT (d0 := 27) rfl rfl hb2 (pv (r_ib rfl rfl rfl) (pv (r_pkf rfl hb2 rfl) (nil (t_thenR [(2, .int .i64 p2), (4, .pointer (some ⟨b1, 0, none⟩)), (6, .pointer (some ⟨b2, 0, none⟩)), (35, .bool (decide ((IntKind.wrap .i64 (p1.Hi - p1.Off)) < p2)))] ⟨rfl, rfl, rfl, rfl, trivial⟩ fun J => ?_))))))))))))))))
      refine cnd rfl (fun hb3 => ?_) (fun hb3 => ?_)
      · have hm := ctrue hb3 hm
        refine sq2 ?_
        refine rg (pv (r_bd (by kernel_rfl) rfl (u := .agg #[.int .i64 0, .int .i64 0, .int .i64 0, .int .i64 0])) (wl rfl (st0B (q := 0) hS3 ⟨rfl, rfl⟩ rfl rfl rfl Try.sizeOf24 rfl rfl rfl fun w5 im5 hS5 => ?_)))
        have hS5 : Sep g T1 w5 [boxA b2 [.int .i64 0, .int .i64 0, .int .i64 0, .int .i64 0], boxA b1 [.int .i64 p1.Obj, .int .i64 p1.Lo, .int .i64 p1.Hi, .int .i64 p1.Off], R, H_p0 [.slice a1 n1 c1], nestA nEStoreObject 59 (.slice a1 n1 c1) p0.list] := hS5
        refine pv (r_zi rfl) (nil (t_then ?_))
        have hm := Option.some.inj hm
        subst hm
        exact rtn (r_then (retN (vs := [.agg #[.int .i64 0, .int .i64 0, .int .i64 0, .int .i64 0], .int .i64 12]) rfl ⟨rvS rfl Try.isAgg24 Try.sizeOf24 rfl (hS5.bx (i := 0) ⟨rfl, rfl⟩), rfl, trivial⟩ rfl ⟨_, rfl, _, (Im.trans im1 (Im.trans im2 (Im.trans im3 im5))), ⟨rfl, hS5.sel [2, 3, 4] rfl, trivial⟩⟩))
      · have hm := cfalse hb3 hm
        refine skp (t_then ?_)
        refine sq2 ?_
        refine rg (pv (r_fa rfl Try.underlying24 rfl Try.sizeOf3 rfl) (pv (r_ld rfl Try.isAgg3 (hS3.cell0 (i := 1) ⟨rfl, rfl⟩ (j := 3) rfl)) (pv (r_mi rfl) (pv (r_ib rfl rfl rfl) (pv (r_fa rfl Try.underlying24 rfl Try.sizeOf3 rfl) (wl rfl (st0B (q := 1) hS3 ⟨rfl, rfl⟩ rfl rfl rfl Try.sizeOf3 rfl rfl rfl fun w6 im6 hS6 => ?_)))))))
        have hS6 : Sep g T1 w6 [boxA b2 [.int .i64 0, .int .i64 0, .int .i64 0, .int .i64 0], boxA b1 [.int .i64 p1.Obj, .int .i64 p1.Lo, .int .i64 p1.Hi, .int .i64 (IntKind.wrap .i64 (p1.Off + p2))], R, H_p0 [.slice a1 n1 c1], nestA nEStoreObject 59 (.slice a1 n1 c1) p0.list] := hS6
        refine nil (t_thenR [(4, .pointer (some ⟨b1, 0, none⟩)), (6, .pointer (some ⟨b2, 0, none⟩))] ⟨rfl, rfl, trivial⟩ fun J => ?_)
        refine sq2 ?_
        refine rg (pv (r_ldS rfl Try.isAgg24 Try.sizeOf24 rfl (hS6.cells0 (i := 1) ⟨rfl, rfl⟩ (o := 0) rfl) (cs := [.int .i64 p1.Obj, .int .i64 p1.Lo, .int .i64 p1.Hi, .int .i64 (IntKind.wrap .i64 (p1.Off + p2))])) (wl rfl (st0B (q := 0) hS6 ⟨rfl, rfl⟩ rfl rfl rfl Try.sizeOf24 rfl rfl rfl fun w7 im7 hS7 => ?_)))
        have hS7 : Sep g T1 w7 [boxA b2 [.int .i64 p1.Obj, .int .i64 p1.Lo, .int .i64 p1.Hi, .int .i64 (IntKind.wrap .i64 (p1.Off + p2))], boxA b1 [.int .i64 p1.Obj, .int .i64 p1.Lo, .int .i64 p1.Hi, .int .i64 (IntKind.wrap .i64 (p1.Off + p2))], R, H_p0 [.slice a1 n1 c1], nestA nEStoreObject 59 (.slice a1 n1 c1) p0.list] := hS7
        refine pv (r_zi rfl) (nil (t_then ?_))
        have hm := Option.some.inj hm
        subst hm
        exact rtn (retN (vs := [.agg #[.int .i64 p1.Obj, .int .i64 p1.Lo, .int .i64 p1.Hi, .int .i64 (IntKind.wrap .i64 (p1.Off + p2))], .int .i64 0]) rfl ⟨rvS rfl Try.isAgg24 Try.sizeOf24 rfl (hS7.bx (i := 0) ⟨rfl, rfl⟩), rfl, trivial⟩ rfl ⟨_, rfl, _, (Im.trans im1 (Im.trans im2 (Im.trans im3 (Im.trans im6 im7)))), ⟨rfl, hS7.sel [2, 3, 4] rfl, trivial⟩⟩)

set_option maxRecDepth 100000 in
set_option maxHeartbeats 1000000 in
theorem store_within_sim {g : World} {T0 : Nat → Prop} {w0 : World} {R : Assn} {p0 : StorePtr} {p1 : Int} {p2 : Int} {r : Bool} (hS : Sep g T0 w0 [R])  (hm : store_within p0 p1 p2 = some r) :
    Calls Try.prog 22 #[.agg #[.int .i64 p0.Obj, .int .i64 p0.Lo, .int .i64 p0.Hi, .int .i64 p0.Off], .int .i64 p1, .int .i64 p2] w0 (RetS T0 w0 fun T w v => v = .bool r ∧ Sep g T w [R] ∧ True) := by
  refine enter (args := [.agg #[.int .i64 p0.Obj, .int .i64 p0.Lo, .int .i64 p0.Hi, .int .i64 p0.Off], .int .i64 p1, .int .i64 p2]) Try.func22 rfl Try.ntmps22 rfl fun J => ?_
  unfold store_within at hm
  refine sq2 ?_
  refine rg (wl rfl (bxS (cs := [.int .i64 p0.Obj, .int .i64 p0.Lo, .int .i64 p0.Hi, .int .i64 p0.Off]) rfl rfl hS fun w1 b1 im1 hS1 => ?_))
  refine pv (r_zb rfl) (nil (t_then ?_))
  refine sq2 ?_
  refine rg (pv (r_mi rfl) (pv (r_ib rfl rfl rfl) (pv (r_mb rfl) (?_))))
  rcases Bool.eq_false_or_eq_true (decide (0 ≤ p1)) with hb1 | hb1
  · have hm := ctrue hb1 hm
    refine gT (d0 := 9) rfl rfl hb1 (pv (r_mi rfl) (gT (d0 := 9) rfl rfl hb1 (pv (r_ib rfl rfl rfl) (pv (r_pkt rfl hb1 rfl) (pv (r_mb rfl) (?_))))))
    rcases Bool.eq_false_or_eq_true (decide (1 ≤ p2)) with hb2 | hb2
    · have hm := ctrue hb2 hm
      refine gT (d0 := 13) rfl rfl hb2 (pv (r_fa rfl Try.underlying24 rfl Try.sizeOf3 rfl) (gT (d0 := 13) rfl rfl hb2 (pv (r_ld rfl Try.isAgg3 (hS1.cell0 (i := 0) ⟨rfl, rfl⟩ (j := 3) rfl)) (gT (d0 := 13) rfl rfl hb2 (pv (r_fa rfl Try.underlying24 rfl Try.sizeOf3 rfl) (gT (d0 := 13) rfl rfl hb2 (pv (r_ld rfl Try.isAgg3 (hS1.cell0 (i := 0) ⟨rfl, rfl⟩ (j := 2) rfl)) (gT (d0 := 13) rfl rfl hb2 (pv (r_ib rfl rfl rfl) (pv (r_pkt rfl hb2 rfl) (pv (r_mb rfl) (?_))))))))))))
      rcases Bool.eq_false_or_eq_true (decide (p0.Off ≤ p0.Hi)) with hb3 | hb3
      · have hm := ctrue hb3 hm
        refine gT (d0 := 20) rfl rfl hb3 (pv (r_mi rfl) (gT (d0 := 20) rfl rfl hb3 (pv (r_fa rfl Try.underlying24 rfl Try.sizeOf3 rfl) (gT (d0 := 20) rfl rfl hb3 (pv (r_ld rfl Try.isAgg3 (hS1.cell0 (i := 0) ⟨rfl, rfl⟩ (j := 2) rfl)) (gT (d0 := 20) rfl rfl hb3 (pv (r_fa rfl Try.underlying24 rfl Try.sizeOf3 rfl) (gT (d0 := 20) rfl rfl hb3 (pv (r_ld rfl Try.isAgg3 (hS1.cell0 (i := 0) ⟨rfl, rfl⟩ (j := 3) rfl)) (gT (d0 := 20) rfl rfl hb3 (pv (r_ib rfl rfl rfl) (gT (d0 := 20) rfl rfl hb3 (pv (r_ib rfl rfl rfl) (pv (r_pkt rfl hb3 rfl) (pv (r_mb rfl) (?_))))))))))))))))
        rcases Bool.eq_false_or_eq_true (decide (p1 ≤ (IntKind.wrap .i64 (p0.Hi - p0.Off)))) with hb4 | hb4
        · have hm := ctrue hb4 hm
          refine gT (d0 := 29) rfl rfl hb4 (pv (r_mi rfl) (gT (d0 := 29) rfl rfl hb4 (pv (r_fa rfl Try.underlying24 rfl Try.sizeOf3 rfl) (gT (d0 := 29) rfl rfl hb4 (pv (r_ld rfl Try.isAgg3 (hS1.cell0 (i := 0) ⟨rfl, rfl⟩ (j := 2) rfl)) (gT (d0 := 29) rfl rfl hb4 (pv (r_fa rfl Try.underlying24 rfl Try.sizeOf3 rfl) (gT (d0 := 29) rfl rfl hb4 (pv (r_ld rfl Try.isAgg3 (hS1.cell0 (i := 0) ⟨rfl, rfl⟩ (j := 3) rfl)) (gT (d0 := 29) rfl rfl hb4 (pv (r_ib rfl rfl rfl) (gT (d0 := 29) rfl rfl hb4 (pv (r_mi rfl) (gT (d0 := 29) rfl rfl hb4 (pv (r_ib rfl rfl rfl) (gT (d0 := 29) rfl rfl hb4 (pv (r_ib rfl rfl rfl) (pv (r_pkt rfl hb4 rfl) (pv (r_zb rfl) (nil (t_thenR [(6, .bool (decide (p2 ≤ (IntKind.wrap .i64 ((IntKind.wrap .i64 (p0.Hi - p0.Off)) - p1)))))] ⟨rfl, trivial⟩ fun J => ?_)))))))))))))))))))))
          have hm := Option.some.inj hm
          subst hm
          exact rtn (ret1 rfl rfl ⟨_, rfl, _, im1, ⟨rfl, hS1.sel [1] rfl, trivial⟩⟩)
        · have hm := cfalse hb4 hm
          refine gF (d0 := 29) rfl rfl (by rw [hb4]; rfl) (gF (d0 := 29) rfl rfl (by rw [hb4]; rfl) (gF (d0 := 29) rfl rfl (by rw [hb4]; rfl) (gF (d0 := 29) rfl rfl (by rw [hb4]; rfl) (gF (d0 := 29) rfl rfl (by rw [hb4]; rfl) (gF (d0 := 29) rfl rfl (by rw [hb4]; rfl) (gF (d0 := 29) rfl rfl (by rw [hb4]; rfl) (gF (d0 := 29) rfl rfl (by rw [hb4]; rfl) (gF (d0 := 29) rfl rfl (by rw [hb4]; rfl) (pv (r_pkf rfl hb4 rfl) (pv (r_zb rfl) (nil (t_thenR [(6, .bool false)] ⟨rfl, trivial⟩ fun J => ?_))))))))))))
          have hm := Option.some.inj hm
          subst hm
          exact rtn (ret1 rfl rfl ⟨_, rfl, _, im1, ⟨rfl, hS1.sel [1] rfl, trivial⟩⟩)
      · have hm := cfalse hb3 hm
        refine gF (d0 := 20) rfl rfl (by rw [hb3]; rfl) (gF (d0 := 20) rfl rfl (by rw [hb3]; rfl) (gF (d0 := 20) rfl rfl (by rw [hb3]; rfl) (gF (d0 := 20) rfl rfl (by rw [hb3]; rfl) (gF (d0 := 20) rfl rfl (by rw [hb3]; rfl) (gF (d0 := 20) rfl rfl (by rw [hb3]; rfl) (gF (d0 := 20) rfl rfl (by rw [hb3]; rfl) (pv (r_pkf rfl hb3 rfl) (pv (r_mb rfl) (gF (d0 := 29) rfl rfl rfl (gF (d0 := 29) rfl rfl rfl (gF (d0 := 29) rfl rfl rfl (gF (d0 := 29) rfl rfl rfl (gF (d0 := 29) rfl rfl rfl (gF (d0 := 29) rfl rfl rfl (gF (d0 := 29) rfl rfl rfl (gF (d0 := 29) rfl rfl rfl (gF (d0 := 29) rfl rfl rfl (pv (r_pkf rfl rfl rfl) (pv (r_zb rfl) (nil (t_thenR [(6, .bool false)] ⟨rfl, trivial⟩ fun J => ?_)))))))))))))))))))))
        have hm := Option.some.inj hm
        subst hm
        exact rtn (ret1 rfl rfl ⟨_, rfl, _, im1, ⟨rfl, hS1.sel [1] rfl, trivial⟩⟩)
    · have hm := cfalse hb2 hm
      refine gF (d0 := 13) rfl rfl (by rw [hb2]; rfl) (gF (d0 := 13) rfl rfl (by rw [hb2]; rfl) (gF (d0 := 13) rfl rfl (by rw [hb2]; rfl) (gF (d0 := 13) rfl rfl (by rw [hb2]; rfl) (gF (d0 := 13) rfl rfl (by rw [hb2]; rfl) (pv (r_pkf rfl hb2 rfl) (pv (r_mb rfl) (gF (d0 := 20) rfl rfl rfl (gF (d0 := 20) rfl rfl rfl (gF (d0 := 20) rfl rfl rfl (gF (d0 := 20) rfl rfl rfl (gF (d0 := 20) rfl rfl rfl (gF (d0 := 20) rfl rfl rfl (gF (d0 := 20) rfl rfl rfl (pv (r_pkf rfl rfl rfl) (pv (r_mb rfl) (gF (d0 := 29) rfl rfl rfl (gF (d0 := 29) rfl rfl rfl (gF (d0 := 29) rfl rfl rfl (gF (d0 := 29) rfl rfl rfl (gF (d0 := 29) rfl rfl rfl (gF (d0 := 29) rfl rfl rfl (gF (d0 := 29) rfl rfl rfl (gF (d0 := 29) rfl rfl rfl (gF (d0 := 29) rfl rfl rfl (pv (r_pkf rfl rfl rfl) (pv (r_zb rfl) (nil (t_thenR [(6, .bool false)] ⟨rfl, trivial⟩ fun J => ?_))))))))))))))))))))))))))))
      have hm := Option.some.inj hm
      subst hm
      exact rtn (ret1 rfl rfl ⟨_, rfl, _, im1, ⟨rfl, hS1.sel [1] rfl, trivial⟩⟩)
  · have hm := cfalse hb1 hm
    refine gF (d0 := 9) rfl rfl (by rw [hb1]; rfl) (gF (d0 := 9) rfl rfl (by rw [hb1]; rfl) (pv (r_pkf rfl hb1 rfl) (pv (r_mb rfl) (gF (d0 := 13) rfl rfl rfl (gF (d0 := 13) rfl rfl rfl (gF (d0 := 13) rfl rfl rfl (gF (d0 := 13) rfl rfl rfl (gF (d0 := 13) rfl rfl rfl (pv (r_pkf rfl rfl rfl) (pv (r_mb rfl) (gF (d0 := 20) rfl rfl rfl (gF (d0 := 20) rfl rfl rfl (gF (d0 := 20) rfl rfl rfl (gF (d0 := 20) rfl rfl rfl (gF (d0 := 20) rfl rfl rfl (gF (d0 := 20) rfl rfl rfl (gF (d0 := 20) rfl rfl rfl (pv (r_pkf rfl rfl rfl) (pv (r_mb rfl) (gF (d0 := 29) rfl rfl rfl (gF (d0 := 29) rfl rfl rfl (gF (d0 := 29) rfl rfl rfl (gF (d0 := 29) rfl rfl rfl (gF (d0 := 29) rfl rfl rfl (gF (d0 := 29) rfl rfl rfl (gF (d0 := 29) rfl rfl rfl (gF (d0 := 29) rfl rfl rfl (gF (d0 := 29) rfl rfl rfl (pv (r_pkf rfl rfl rfl) (pv (r_zb rfl) (nil (t_thenR [(6, .bool false)] ⟨rfl, trivial⟩ fun J => ?_))))))))))))))))))))))))))))))))
    have hm := Option.some.inj hm
    subst hm
    exact rtn (ret1 rfl rfl ⟨_, rfl, _, im1, ⟨rfl, hS1.sel [1] rfl, trivial⟩⟩)

set_option maxRecDepth 100000 in
set_option maxHeartbeats 1000000 in
theorem store_Store_place_sim {g : World} {T0 : Nat → Prop} {w0 : World} {R : Assn} {p0 : StoreStore} {b_p0 o_p0 : Nat} {H_p0 : List Value → Assn} {a1 : Option Addr} {n1 : Nat} {c1 : Nat} {p1 : StorePtr} {p2 : Int} {p3 : Bool} {r : Int × Int} (hS : Sep g T0 w0 [R, H_p0 [.slice a1 n1 c1], nestA nEStoreObject 59 (.slice a1 n1 c1) p0.list]) (hL_p0 : Ln b_p0 o_p0 H_p0) (hm : store_Store_place p0 p1 p2 p3 = some r) :
    Calls Try.prog 19 #[.pointer (some ⟨b_p0, o_p0, none⟩), .agg #[.int .i64 p1.Obj, .int .i64 p1.Lo, .int .i64 p1.Hi, .int .i64 p1.Off], .int .i64 p2, .bool p3] w0 (RetS T0 w0 fun T w v => ∃ (pv5 : Value), v = .tuple #[pv5, .int .i64 r.2] ∧ Sep g T w [R, H_p0 [.slice a1 n1 c1], nestA nEStoreObject 59 (.slice a1 n1 c1) p0.list] ∧ IpR pv5 (.slice a1 n1 c1) 4 r.1 ∧ True) := by
  refine enter (args := [.pointer (some ⟨b_p0, o_p0, none⟩), .agg #[.int .i64 p1.Obj, .int .i64 p1.Lo, .int .i64 p1.Hi, .int .i64 p1.Off], .int .i64 p2, .bool p3]) Try.func19 rfl Try.ntmps19 rfl fun J => ?_
  unfold store_Store_place at hm
  refine sq2 ?_
  refine rg (wl rfl (bxS (cs := [.int .i64 p1.Obj, .int .i64 p1.Lo, .int .i64 p1.Hi, .int .i64 p1.Off]) rfl rfl hS fun w1 b1 im1 hS1 => ?_))
  refine pv (r_zp rfl) (pv (r_zi rfl) (nil (t_then ?_)))
  refine sq2 ?_
  refine sq2 ?_
  refine rg (pv (r_mp rfl) (pv (r_pne rfl rfl rfl Try.underlying30) (pv (r_mb rfl) (gT (d0 := 14) rfl rfl rfl (pv (r_mi rfl) (gT (d0 := 14) rfl rfl rfl (pv (r_ib rfl rfl rfl) (gT (d0 := 14) rfl rfl rfl (pv (r_mb rfl) (?_))))))))))
  rcases Bool.eq_false_or_eq_true (p2 != 1) with hb1 | hb1
  · have hm := ctrue hb1 hm
    refine gT (d0 := 17) rfl rfl hb1 (pv (r_mi rfl) (gT (d0 := 17) rfl rfl hb1 (pv (r_ib rfl rfl rfl) (gT (d0 := 14) rfl rfl rfl (pv (r_pkt rfl hb1 rfl) (pv (r_pkf rfl rfl rfl) (pv (r_mb rfl) (?_))))))))
    rcases Bool.eq_false_or_eq_true (p2 != 4) with hb2 | hb2
    · have hm := ctrue hb2 hm
      refine gF (d0 := 22) rfl rfl (by rw [hb2]; rfl) (gF (d0 := 22) rfl rfl (by rw [hb2]; rfl) (gU (d0 := 24) rfl rfl (gU (d0 := 24) rfl rfl (gF (d0 := 22) rfl rfl (by rw [hb2]; rfl) (pv (r_pkt rfl hb2 rfl) (nil (t_thenR [(0, .pointer (some ⟨b_p0, o_p0, none⟩)), (2, .int .i64 p2), (5, .pointer (some ⟨b1, 0, none⟩)), (28, .bool true)] ⟨rfl, rfl, rfl, rfl, trivial⟩ fun J => ?_)))))))
      refine cnd (b := true) rfl (fun _ => ?_) (fun h => nomatch h)
      refine sq2 ?_
      refine rg (pv (r_zp rfl) (pv (r_zi rfl) (nil (t_then ?_))))
      have hm := Option.some.inj hm
      subst hm
      exact rtn (r_then (retN (vs := [.pointer none, .int .i64 1]) rfl ⟨rfl, rfl, trivial⟩ rfl ⟨_, rfl, _, im1, ⟨_, rfl, hS1.sel [1, 2, 3] rfl, ip_nil, trivial⟩⟩))
    · have hm := cfalse hb2 hm
      refine gT (d0 := 22) rfl rfl hb2 (pv (r_mb rfl) (gT (d0 := 22) rfl rfl hb2 (pv (r_mb rfl) (?_))))
      rcases Bool.eq_false_or_eq_true p3 with hb3 | hb3
      · have hm := ctrue hb3 hm
        refine gT (d0 := 24) rfl rfl hb3 (pv (r_mi rfl) (gT (d0 := 24) rfl rfl hb3 (pv (r_ib rfl rfl rfl) (gT (d0 := 22) rfl rfl hb2 (pv (r_pkt rfl hb3 rfl) (pv (r_pkf rfl hb2 rfl) (nil (t_thenR [(0, .pointer (some ⟨b_p0, o_p0, none⟩)), (2, .int .i64 p2), (5, .pointer (some ⟨b1, 0, none⟩)), (28, .bool (p2 != 4))] ⟨rfl, rfl, rfl, rfl, trivial⟩ fun J => ?_))))))))
        refine cnd rfl (fun hb4 => ?_) (fun hb4 => ?_)
        · have hm := ctrue hb4 hm
          refine sq2 ?_
          refine rg (pv (r_zp rfl) (pv (r_zi rfl) (nil (t_then ?_))))
          have hm := Option.some.inj hm
          subst hm
          exact rtn (r_then (retN (vs := [.pointer none, .int .i64 1]) rfl ⟨rfl, rfl, trivial⟩ rfl ⟨_, rfl, _, im1, ⟨_, rfl, hS1.sel [1, 2, 3] rfl, ip_nil, trivial⟩⟩))
        · have hm := cfalse hb4 hm
          refine skp (t_then ?_)
          refine sq2 ?_
          obtain ⟨y1, hx1, hm⟩ := bindS hm
          refine rg (pv (r_mp rfl) (pv (r_ldS rfl Try.isAgg24 Try.sizeOf24 rfl (hS1.cells0 (i := 0) ⟨rfl, rfl⟩ (o := 0) rfl) (cs := [.int .i64 p1.Obj, .int .i64 p1.Lo, .int .i64 p1.Hi, .int .i64 p1.Off])) (wl rfl (calS cf18 rfl (store_Store_fit_sim (p0 := p0) (H_p0 := H_p0) (p1 := p1) (hS1.bun [0, 1] [2, 3] rfl) hL_p0 hx1) rfl fun v1 T1 w2 im2 rv1 => ?_))))
          obtain ⟨pv1, rfl, hS2, h1, _⟩ := rv1
          have hS2 : Sep g T1 w2 [boxA b1 [.int .i64 p1.Obj, .int .i64 p1.Lo, .int .i64 p1.Hi, .int .i64 p1.Off], R, H_p0 [.slice a1 n1 c1], nestA nEStoreObject 59 (.slice a1 n1 c1) p0.list] := hS2.unb
          refine pv (r_mv rfl) (pv (r_ex (v := pv1) rfl rfl) (pv (r_ex (v := .int .i64 y1.2) rfl rfl) (pv (r_zx (v := pv1) rfl) (pv (r_zi rfl) (nil (t_thenR [(2, .int .i64 p2), (5, .pointer (some ⟨b1, 0, none⟩)), (10, pv1), (11, .int .i64 y1.2)] ⟨rfl, rfl, rfl, rfl, trivial⟩ fun J => ?_))))))
          refine sq2 ?_
          refine blk ?_
          refine sq2 ?_
          refine rg (pv (r_mi rfl) (pv (r_ib rfl rfl rfl) (pv (r_zb rfl) (nil (t_then ?_)))))
          refine cnd rfl (fun hb5 => ?_) (fun hb5 => ?_)
          · have hm := ctrue hb5 hm
            refine sq2 ?_
            refine rg (pv (r_mi rfl) (pv (r_zp rfl) (pv (r_zi rfl) (nil (t_thenR [(8, .pointer none), (9, .int .i64 y1.2)] ⟨rfl, rfl, trivial⟩ fun J => ?_)))))
            have hm := Option.some.inj hm
            subst hm
            exact rtn (r_blk (r_then (retN (vs := [.pointer none, .int .i64 y1.2]) rfl ⟨rfl, rfl, trivial⟩ rfl ⟨_, rfl, _, (Im.trans im1 im2), ⟨_, rfl, hS2.sel [1, 2, 3] rfl, ip_nil, trivial⟩⟩)))
          · have hm := cfalse hb5 hm
            refine sq2 ?_
            refine rs [0, 1, 0, 1, 0, 0, 1, 0, 2, 0, 0, 0, 0, 1, 0, 0, 0, 0, 0, 0, 0, 0, 1, 0, 0, 0, 0, 0, 1, 0, 0, 0, 0, 1, 0, 0, 0, 0, 0, 0] [0, 1, 2, 3, 4, 5, 6, 7, 8, 9, 10, 11, 12, 13, 14, 15, 16, 17, 18, 19, 20, 21, 22, 23, 24, 25, 26, 27, 28, 29, 30, 31, 32, 33, 34, 35, 36, 37, 38, 39] mix (by kernel_rfl) hS2.lt fun w3 i1 => ?_
            have im3 := i1.imm
            have hS3 := hS2.keep i1 (fun _ h => h)
            refine s0 rfl trivial (fun _ => r_fa rfl Try.underlying24 rfl Try.sizeOf3 rfl) rfl (s1 rfl trivial (r_ld rfl Try.isAgg3 (hS3.cell0 (i := 0) ⟨rfl, rfl⟩ (j := 3) rfl)) rfl (s0 rfl trivial (fun _ => r_fa rfl Try.underlying24 rfl Try.sizeOf3 rfl) rfl (s1 rfl trivial (r_ld rfl Try.isAgg3 (hS3.cell0 (i := 0) ⟨rfl, rfl⟩ (j := 1) rfl)) rfl (s0 rfl trivial (fun _ => r_ib rfl rfl rfl) rfl (s0 rfl trivial (fun _ => r_mb rfl) rfl (?_))))))
            rcases Bool.eq_false_or_eq_true (decide (p1.Off < p1.Lo)) with hb6 | hb6
            · have hm := ctrue hb6 hm
              refine sU rfl ⟨_, rfl, .inl (congrArg Value.bool hb6)⟩ (sU rfl ⟨_, rfl, .inl (congrArg Value.bool hb6)⟩ (sU rfl ⟨_, rfl, .inl (congrArg Value.bool hb6)⟩ (sU rfl ⟨_, rfl, .inl (congrArg Value.bool hb6)⟩ (s0 rfl trivial (fun _ => r_pkt rfl hb6 rfl) rfl (s0 rfl trivial (fun _ => r_mb rfl) rfl (sU rfl ⟨_, rfl, .inl (congrArg Value.bool rfl)⟩ (sU rfl ⟨_, rfl, .inl (congrArg Value.bool rfl)⟩ (sU rfl ⟨_, rfl, .inl (congrArg Value.bool rfl)⟩ (s0 rfl trivial (fun _ => r_pkt rfl rfl rfl) rfl (s0 rfl trivial (fun _ => r_mb rfl) rfl (sU rfl ⟨_, rfl, .inl (congrArg Value.bool rfl)⟩ (sU rfl ⟨_, rfl, .inl (congrArg Value.bool rfl)⟩ (sU rfl ⟨_, rfl, .inl (congrArg Value.bool rfl)⟩ (sU rfl ⟨_, rfl, .inl (congrArg Value.bool rfl)⟩ (sU rfl ⟨_, rfl, .inl (congrArg Value.bool rfl)⟩ (sU rfl ⟨_, rfl, .inl (congrArg Value.bool rfl)⟩ (sU rfl ⟨_, rfl, .inl (congrArg Value.bool rfl)⟩ (sU rfl ⟨_, rfl, .inl (congrArg Value.bool rfl)⟩ (s0 rfl trivial (fun _ => r_pkt rfl rfl rfl) rfl (s0 rfl trivial (fun _ => r_mb rfl) rfl (sU rfl ⟨_, rfl, .inl (congrArg Value.bool rfl)⟩ (sU rfl ⟨_, rfl, .inl (congrArg Value.bool rfl)⟩ (sU rfl ⟨_, rfl, .inl (congrArg Value.bool rfl)⟩ (sU rfl ⟨_, rfl, .inl (congrArg Value.bool rfl)⟩ (sU rfl ⟨_, rfl, .inl (congrArg Value.bool rfl)⟩ (sU rfl ⟨_, rfl, .inl (congrArg Value.bool rfl)⟩ (sU rfl ⟨_, rfl, .inl (congrArg Value.bool rfl)⟩ (sU rfl ⟨_, rfl, .inl (congrArg Value.bool rfl)⟩ (sU rfl ⟨_, rfl, .inl (congrArg Value.bool rfl)⟩ (sU rfl ⟨_, rfl, .inl (congrArg Value.bool rfl)⟩ (sU rfl ⟨_, rfl, .inl (congrArg Value.bool rfl)⟩ (s0 rfl trivial (fun _ => r_pkt rfl rfl rfl) rfl (s0 rfl trivial (fun _ => r_zb rfl) rfl (se (t_thenR [(10, pv1), (39, .bool true)] ⟨rfl, rfl, trivial⟩ fun J => ?_)))))))))))))))))))))))))))))))))))
              refine cnd (b := true) rfl (fun _ => ?_) (fun h => nomatch h)
              refine sq2 ?_
              refine rg (pv (r_zp rfl) (pv (r_zi rfl) (nil (t_then ?_))))
              have hm := Option.some.inj hm
              subst hm
              exact rtn (r_blk (r_then (retN (vs := [.pointer none, .int .i64 12]) rfl ⟨rfl, rfl, trivial⟩ rfl ⟨_, rfl, _, (Im.trans im1 (Im.trans im2 im3)), ⟨_, rfl, hS3.sel [1, 2, 3] rfl, ip_nil, trivial⟩⟩)))
            · have hm := cfalse hb6 hm
              obtain ⟨y2, hx2, hm⟩ := bindS hm
              refine s1 rfl ⟨_, rfl, congrArg Value.bool hb6⟩ (r_ldS rfl Try.isAgg24 Try.sizeOf24 rfl (hS3.cells0 (i := 0) ⟨rfl, rfl⟩ (o := 0) rfl) (cs := [.int .i64 p1.Obj, .int .i64 p1.Lo, .int .i64 p1.Hi, .int .i64 p1.Off])) rfl (s0 rfl ⟨_, rfl, congrArg Value.bool hb6⟩ (fun _ => r_mi rfl) rfl (s2 [] rfl ⟨_, rfl, congrArg Value.bool hb6⟩ rfl (by kernel_rfl) (calS cf22 rfl (store_within_sim (p0 := p1) (p1 := 0) (p2 := p2) (hS3.bun [0, 1, 2, 3] [] rfl)  hx2) rfl fun v2 T2 w4 im4 rv2 => ?_)))
              obtain ⟨rfl, hS4, _⟩ := rv2
              have hS4 : Sep g T2 w4 [boxA b1 [.int .i64 p1.Obj, .int .i64 p1.Lo, .int .i64 p1.Hi, .int .i64 p1.Off], R, H_p0 [.slice a1 n1 c1], nestA nEStoreObject 59 (.slice a1 n1 c1) p0.list] := hS4.unb
              refine ⟨st0, ?_⟩
              refine s0 rfl ⟨_, rfl, congrArg Value.bool hb6⟩ (fun _ => r_nt rfl) rfl (s0 rfl trivial (fun _ => r_pkf rfl hb6 rfl) rfl (s0 rfl trivial (fun _ => r_mb rfl) rfl (?_)))
              rcases Bool.eq_false_or_eq_true (!y2) with hb7 | hb7
              · have hm := ctrue hb7 hm
                refine sU rfl ⟨_, rfl, .inl (congrArg Value.bool hb7)⟩ (sU rfl ⟨_, rfl, .inl (congrArg Value.bool hb7)⟩ (sU rfl ⟨_, rfl, .inl (congrArg Value.bool hb7)⟩ (s0 rfl trivial (fun _ => r_pkt rfl hb7 rfl) rfl (s0 rfl trivial (fun _ => r_mb rfl) rfl (sU rfl ⟨_, rfl, .inl (congrArg Value.bool rfl)⟩ (sU rfl ⟨_, rfl, .inl (congrArg Value.bool rfl)⟩ (sU rfl ⟨_, rfl, .inl (congrArg Value.bool rfl)⟩ (sU rfl ⟨_, rfl, .inl (congrArg Value.bool rfl)⟩ (sU rfl ⟨_, rfl, .inl (congrArg Value.bool rfl)⟩ (sU rfl ⟨_, rfl, .inl (congrArg Value.bool rfl)⟩ (sU rfl ⟨_, rfl, .inl (congrArg Value.bool rfl)⟩ (sU rfl ⟨_, rfl, .inl (congrArg Value.bool rfl)⟩ (s0 rfl trivial (fun _ => r_pkt rfl rfl rfl) rfl (s0 rfl trivial (fun _ => r_mb rfl) rfl (sU rfl ⟨_, rfl, .inl (congrArg Value.bool rfl)⟩ (sU rfl ⟨_, rfl, .inl (congrArg Value.bool rfl)⟩ (sU rfl ⟨_, rfl, .inl (congrArg Value.bool rfl)⟩ (sU rfl ⟨_, rfl, .inl (congrArg Value.bool rfl)⟩ (sU rfl ⟨_, rfl, .inl (congrArg Value.bool rfl)⟩ (sU rfl ⟨_, rfl, .inl (congrArg Value.bool rfl)⟩ (sU rfl ⟨_, rfl, .inl (congrArg Value.bool rfl)⟩ (sU rfl ⟨_, rfl, .inl (congrArg Value.bool rfl)⟩ (sU rfl ⟨_, rfl, .inl (congrArg Value.bool rfl)⟩ (sU rfl ⟨_, rfl, .inl (congrArg Value.bool rfl)⟩ (sU rfl ⟨_, rfl, .inl (congrArg Value.bool rfl)⟩ (s0 rfl trivial (fun _ => r_pkt rfl rfl rfl) rfl (s0 rfl trivial (fun _ => r_zb rfl) rfl (se (t_thenR [(10, pv1), (39, .bool true)] ⟨rfl, rfl, trivial⟩ fun J => ?_)))))))))))))))))))))))))))))
                refine cnd (b := true) rfl (fun _ => ?_) (fun h => nomatch h)
                refine sq2 ?_
                refine rg (pv (r_zp rfl) (pv (r_zi rfl) (nil (t_then ?_))))
                have hm := Option.some.inj hm
                subst hm
                exact rtn (r_blk (r_then (retN (vs := [.pointer none, .int .i64 12]) rfl ⟨rfl, rfl, trivial⟩ rfl ⟨_, rfl, _, (Im.trans im1 (Im.trans im2 (Im.trans im3 im4))), ⟨_, rfl, hS4.sel [1, 2, 3] rfl, ip_nil, trivial⟩⟩)))
              · have hm := cfalse hb7 hm
                refine s0 rfl ⟨_, rfl, congrArg Value.bool hb7⟩ (fun _ => r_fa rfl Try.underlying24 rfl Try.sizeOf3 rfl) rfl (s1 rfl ⟨_, rfl, congrArg Value.bool hb7⟩ (r_ld rfl Try.isAgg3 (hS4.cell0 (i := 0) ⟨rfl, rfl⟩ (j := 3) rfl)) rfl (s0 rfl ⟨_, rfl, congrArg Value.bool hb7⟩ (fun _ => r_ib rfl rfl rfl) rfl (s0 rfl trivial (fun _ => r_pkf rfl hb7 rfl) rfl (s0 rfl trivial (fun _ => r_mb rfl) rfl (?_)))))
                rcases Bool.eq_false_or_eq_true (decide (p1.Off < 0)) with hb8 | hb8
                · have hm := ctrue hb8 hm
                  refine sU rfl ⟨_, rfl, .inl (congrArg Value.bool hb8)⟩ (sU rfl ⟨_, rfl, .inl (congrArg Value.bool hb8)⟩ (sU rfl ⟨_, rfl, .inl (congrArg Value.bool hb8)⟩ (sU rfl ⟨_, rfl, .inl (congrArg Value.bool hb8)⟩ (sU rfl ⟨_, rfl, .inl (congrArg Value.bool hb8)⟩ (sU rfl ⟨_, rfl, .inl (congrArg Value.bool hb8)⟩ (sU rfl ⟨_, rfl, .inl (congrArg Value.bool hb8)⟩ (sU rfl ⟨_, rfl, .inl (congrArg Value.bool hb8)⟩ (s0 rfl trivial (fun _ => r_pkt rfl hb8 rfl) rfl (s0 rfl trivial (fun _ => r_mb rfl) rfl (sU rfl ⟨_, rfl, .inl (congrArg Value.bool rfl)⟩ (sU rfl ⟨_, rfl, .inl (congrArg Value.bool rfl)⟩ (sU rfl ⟨_, rfl, .inl (congrArg Value.bool rfl)⟩ (sU rfl ⟨_, rfl, .inl (congrArg Value.bool rfl)⟩ (sU rfl ⟨_, rfl, .inl (congrArg Value.bool rfl)⟩ (sU rfl ⟨_, rfl, .inl (congrArg Value.bool rfl)⟩ (sU rfl ⟨_, rfl, .inl (congrArg Value.bool rfl)⟩ (sU rfl ⟨_, rfl, .inl (congrArg Value.bool rfl)⟩ (sU rfl ⟨_, rfl, .inl (congrArg Value.bool rfl)⟩ (sU rfl ⟨_, rfl, .inl (congrArg Value.bool rfl)⟩ (sU rfl ⟨_, rfl, .inl (congrArg Value.bool rfl)⟩ (s0 rfl trivial (fun _ => r_pkt rfl rfl rfl) rfl (s0 rfl trivial (fun _ => r_zb rfl) rfl (se (t_thenR [(10, pv1), (39, .bool true)] ⟨rfl, rfl, trivial⟩ fun J => ?_))))))))))))))))))))))))
                  refine cnd (b := true) rfl (fun _ => ?_) (fun h => nomatch h)
                  refine sq2 ?_
                  refine rg (pv (r_zp rfl) (pv (r_zi rfl) (nil (t_then ?_))))
                  have hm := Option.some.inj hm
                  subst hm
                  exact rtn (r_blk (r_then (retN (vs := [.pointer none, .int .i64 12]) rfl ⟨rfl, rfl, trivial⟩ rfl ⟨_, rfl, _, (Im.trans im1 (Im.trans im2 (Im.trans im3 im4))), ⟨_, rfl, hS4.sel [1, 2, 3] rfl, ip_nil, trivial⟩⟩)))
                · have hm := cfalse hb8 hm
                  refine s0 rfl ⟨_, rfl, congrArg Value.bool hb8⟩ (fun _ => r_mi rfl) rfl (s0 rfl ⟨_, rfl, congrArg Value.bool hb8⟩ (fun _ => r_mx (v := pv1) rfl) rfl (?_))
                  obtain ⟨u1, hx3, hm⟩ := bindS hm
                  obtain ⟨b2, of1, k1, cp1, hv1, hp1, hl1, he1⟩ := hS4.nhd (q := 3) ⟨rfl, rfl⟩ hx3 rfl
                  obtain ⟨css1, cs1, hS5⟩ := hS4.nfocus (q := 3) ⟨rfl, rfl⟩ hx3
                  obtain ⟨⟨a2, n2, c2, a3, n3, c3, r1⟩, hS6⟩ := hS5.exE
                  obtain ⟨hcs1, hS7⟩ := hS6.pE
                  subst hcs1
                  have hS8 : Sep g T2 w4 [ownA (rInt .u8) 5 (.slice a2 n2 c2) u1.bytes.data, ownA rBool 4 (.slice a3 n3 c3) u1.bytes.set_, mapA (Value.int .i64) encStorePtr (.map r1) u1.ptrs, elsA nEStoreObject p0.list css1 (some (Int.toNat y1.1)), boxA b1 [.int .i64 p1.Obj, .int .i64 p1.Lo, .int .i64 p1.Hi, .int .i64 p1.Off], R, H_p0 [.slice a1 n1 c1], (holeA (rRaw 4) 59 (.slice a1 n1 c1) css1 (Int.toNat y1.1)) [.slice a2 n2 c2, .slice a3 n3 c3, .map r1, .bool u1.gone]] := hS7.unb
                  have hp2 := IpR.at2 h1 hp1 hv1 he1
                  subst hp2
                  refine s0 rfl ⟨_, rfl, congrArg Value.bool hb8⟩ (fun _ => r_nc rfl) rfl (s0 rfl ⟨_, rfl, congrArg Value.bool hb8⟩ (fun _ => r_fa rfl Try.underlying59 rfl Try.sizeOf56 rfl) rfl (s0 rfl ⟨_, rfl, congrArg Value.bool hb8⟩ (fun _ => r_fa rfl Try.underlying56 rfl Try.sizeOf41 rfl) rfl (s1 rfl ⟨_, rfl, congrArg Value.bool hb8⟩ (r_ld rfl Try.isAgg41 (hS8.cellB (i := 7) ⟨rfl, rfl⟩ (lnHole (i := y1.1) hv1 he1) (j := 0) rfl)) rfl (s0 rfl ⟨_, rfl, congrArg Value.bool hb8⟩ (fun _ => r_lnV rfl (hS8.own (i := 0) ⟨rfl, rfl⟩).v Try.underlying41) rfl (s0 rfl ⟨_, rfl, congrArg Value.bool hb8⟩ (fun _ => r_ib rfl rfl rfl) rfl (s0 rfl trivial (fun _ => r_pkf rfl hb8 rfl) rfl (s0 rfl trivial (fun _ => r_mb rfl) rfl (?_))))))))
                  rcases Bool.eq_false_or_eq_true (decide ((List.length u1.bytes.data : Int) < p2)) with hb9 | hb9
                  · have hm := ctrue hb9 hm
                    refine sU rfl ⟨_, rfl, .inl (congrArg Value.bool hb9)⟩ (sU rfl ⟨_, rfl, .inl (congrArg Value.bool hb9)⟩ (sU rfl ⟨_, rfl, .inl (congrArg Value.bool hb9)⟩ (sU rfl ⟨_, rfl, .inl (congrArg Value.bool hb9)⟩ (sU rfl ⟨_, rfl, .inl (congrArg Value.bool hb9)⟩ (sU rfl ⟨_, rfl, .inl (congrArg Value.bool hb9)⟩ (sU rfl ⟨_, rfl, .inl (congrArg Value.bool hb9)⟩ (sU rfl ⟨_, rfl, .inl (congrArg Value.bool hb9)⟩ (sU rfl ⟨_, rfl, .inl (congrArg Value.bool hb9)⟩ (sU rfl ⟨_, rfl, .inl (congrArg Value.bool hb9)⟩ (sU rfl ⟨_, rfl, .inl (congrArg Value.bool hb9)⟩ (s0 rfl trivial (fun _ => r_pkt rfl hb9 rfl) rfl (s0 rfl trivial (fun _ => r_zb rfl) rfl (se (t_thenR [(10, .pointer (some ⟨b2, of1, none⟩)), (39, .bool true)] ⟨rfl, rfl, trivial⟩ fun J => ?_))))))))))))))
                    refine cnd (b := true) rfl (fun _ => ?_) (fun h => nomatch h)
                    refine sq2 ?_
                    refine rg (pv (r_zp rfl) (pv (r_zi rfl) (nil (t_then ?_))))
                    have hS15 := hS8.bun [0, 1, 2] [3, 4, 5, 6, 7] rfl
                    have hS16 : Sep g T2 w4 [nEStoreObject.A u1 [.slice a2 n2 c2, .slice a3 n3 c3, .map r1, .bool u1.gone], elsA nEStoreObject p0.list css1 (some (Int.toNat y1.1)), boxA b1 [.int .i64 p1.Obj, .int .i64 p1.Lo, .int .i64 p1.Hi, .int .i64 p1.Off], R, H_p0 [.slice a1 n1 c1], (holeA (rRaw 4) 59 (.slice a1 n1 c1) css1 (Int.toNat y1.1)) [.slice a2 n2 c2, .slice a3 n3 c3, .map r1, .bool u1.gone]] := Sep.exI (a2, n2, c2, a3, n3, c3, r1) (Sep.pI rfl hS15)
                    have hS17 : Sep g T2 w4 [boxA b1 [.int .i64 p1.Obj, .int .i64 p1.Lo, .int .i64 p1.Hi, .int .i64 p1.Off], R, H_p0 [.slice a1 n1 c1], nestA nEStoreObject 59 (.slice a1 n1 c1) p0.list] := hS16.nunfocus0 (q := 3) ⟨rfl, rfl⟩ hx3
                    have hm := Option.some.inj hm
                    subst hm
                    exact rtn (r_blk (r_then (retN (vs := [.pointer none, .int .i64 12]) rfl ⟨rfl, rfl, trivial⟩ rfl ⟨_, rfl, _, (Im.trans im1 (Im.trans im2 (Im.trans im3 im4))), ⟨_, rfl, hS17.sel [1, 2, 3] rfl, ip_nil, trivial⟩⟩)))
                  · have hm := cfalse hb9 hm
                    refine s0 rfl ⟨_, rfl, congrArg Value.bool hb9⟩ (fun _ => r_fa rfl Try.underlying24 rfl Try.sizeOf3 rfl) rfl (s1 rfl ⟨_, rfl, congrArg Value.bool hb9⟩ (r_ld rfl Try.isAgg3 (hS8.cell0 (i := 4) ⟨rfl, rfl⟩ (j := 3) rfl)) rfl (s0 rfl ⟨_, rfl, congrArg Value.bool hb9⟩ (fun _ => r_mp rfl) rfl (s0 rfl ⟨_, rfl, congrArg Value.bool hb9⟩ (fun _ => r_nc rfl) rfl (s0 rfl ⟨_, rfl, congrArg Value.bool hb9⟩ (fun _ => r_fa rfl Try.underlying59 rfl Try.sizeOf56 rfl) rfl (s0 rfl ⟨_, rfl, congrArg Value.bool hb9⟩ (fun _ => r_fa rfl Try.underlying56 rfl Try.sizeOf41 rfl) rfl (s1 rfl ⟨_, rfl, congrArg Value.bool hb9⟩ (r_ld rfl Try.isAgg41 (hS8.cellB (i := 7) ⟨rfl, rfl⟩ (lnHole (i := y1.1) hv1 he1) (j := 0) rfl)) rfl (s0 rfl ⟨_, rfl, congrArg Value.bool hb9⟩ (fun _ => r_lnV rfl (hS8.own (i := 0) ⟨rfl, rfl⟩).v Try.underlying41) rfl (s0 rfl ⟨_, rfl, congrArg Value.bool hb9⟩ (fun _ => r_mi rfl) rfl (s0 rfl ⟨_, rfl, congrArg Value.bool hb9⟩ (fun _ => r_ib rfl rfl rfl) rfl (s0 rfl ⟨_, rfl, congrArg Value.bool hb9⟩ (fun _ => r_ib rfl rfl rfl) rfl (s0 rfl trivial (fun _ => r_pkf rfl hb9 rfl) rfl (s0 rfl trivial (fun _ => r_zb rfl) rfl (se (t_thenR [(10, .pointer (some ⟨b2, of1, none⟩)), (39, .bool (decide ((IntKind.wrap .i64 ((List.length u1.bytes.data : Int) - p2)) < p1.Off)))] ⟨rfl, rfl, trivial⟩ fun J => ?_))))))))))))))
                    refine cnd rfl (fun hb10 => ?_) (fun hb10 => ?_)
                    · have hm := ctrue hb10 hm
                      refine sq2 ?_
                      refine rg (pv (r_zp rfl) (pv (r_zi rfl) (nil (t_then ?_))))
                      have hS9 := hS8.bun [0, 1, 2] [3, 4, 5, 6, 7] rfl
                      have hS10 : Sep g T2 w4 [nEStoreObject.A u1 [.slice a2 n2 c2, .slice a3 n3 c3, .map r1, .bool u1.gone], elsA nEStoreObject p0.list css1 (some (Int.toNat y1.1)), boxA b1 [.int .i64 p1.Obj, .int .i64 p1.Lo, .int .i64 p1.Hi, .int .i64 p1.Off], R, H_p0 [.slice a1 n1 c1], (holeA (rRaw 4) 59 (.slice a1 n1 c1) css1 (Int.toNat y1.1)) [.slice a2 n2 c2, .slice a3 n3 c3, .map r1, .bool u1.gone]] := Sep.exI (a2, n2, c2, a3, n3, c3, r1) (Sep.pI rfl hS9)
                      have hS11 : Sep g T2 w4 [boxA b1 [.int .i64 p1.Obj, .int .i64 p1.Lo, .int .i64 p1.Hi, .int .i64 p1.Off], R, H_p0 [.slice a1 n1 c1], nestA nEStoreObject 59 (.slice a1 n1 c1) p0.list] := hS10.nunfocus0 (q := 3) ⟨rfl, rfl⟩ hx3
                      have hm := Option.some.inj hm
                      subst hm
                      exact rtn (r_blk (r_then (retN (vs := [.pointer none, .int .i64 12]) rfl ⟨rfl, rfl, trivial⟩ rfl ⟨_, rfl, _, (Im.trans im1 (Im.trans im2 (Im.trans im3 im4))), ⟨_, rfl, hS11.sel [1, 2, 3] rfl, ip_nil, trivial⟩⟩)))
                    · have hm := cfalse hb10 hm
                      refine skp (t_blk (t_then ?_))
                      refine sq2 ?_
                      refine rg (pv (r_mp rfl) (pv (r_zp rfl) (pv (r_zi rfl) (nil (t_then ?_)))))
                      have hS12 := hS8.bun [0, 1, 2] [3, 4, 5, 6, 7] rfl
                      have hS13 : Sep g T2 w4 [nEStoreObject.A u1 [.slice a2 n2 c2, .slice a3 n3 c3, .map r1, .bool u1.gone], elsA nEStoreObject p0.list css1 (some (Int.toNat y1.1)), boxA b1 [.int .i64 p1.Obj, .int .i64 p1.Lo, .int .i64 p1.Hi, .int .i64 p1.Off], R, H_p0 [.slice a1 n1 c1], (holeA (rRaw 4) 59 (.slice a1 n1 c1) css1 (Int.toNat y1.1)) [.slice a2 n2 c2, .slice a3 n3 c3, .map r1, .bool u1.gone]] := Sep.exI (a2, n2, c2, a3, n3, c3, r1) (Sep.pI rfl hS12)
                      have hS14 : Sep g T2 w4 [boxA b1 [.int .i64 p1.Obj, .int .i64 p1.Lo, .int .i64 p1.Hi, .int .i64 p1.Off], R, H_p0 [.slice a1 n1 c1], nestA nEStoreObject 59 (.slice a1 n1 c1) p0.list] := hS13.nunfocus0 (q := 3) ⟨rfl, rfl⟩ hx3
                      have hm := Option.some.inj hm
                      subst hm
                      exact rtn (retN (vs := [.pointer (some ⟨b2, of1, none⟩), .int .i64 0]) rfl ⟨rfl, rfl, trivial⟩ rfl ⟨_, rfl, _, (Im.trans im1 (Im.trans im2 (Im.trans im3 im4))), ⟨_, rfl, hS14.sel [1, 2, 3] rfl, (ip_at hv1 hp1 he1), trivial⟩⟩)
      · have hm := cfalse hb3 hm
        refine gF (d0 := 24) rfl rfl (by rw [hb3]; rfl) (gF (d0 := 24) rfl rfl (by rw [hb3]; rfl) (gT (d0 := 22) rfl rfl hb2 (pv (r_pkf rfl hb3 rfl) (pv (r_pkf rfl hb2 rfl) (nil (t_thenR [(0, .pointer (some ⟨b_p0, o_p0, none⟩)), (2, .int .i64 p2), (5, .pointer (some ⟨b1, 0, none⟩)), (28, .bool false)] ⟨rfl, rfl, rfl, rfl, trivial⟩ fun J => ?_))))))
        refine cnd (b := false) rfl (fun h => nomatch h) (fun _ => ?_)
        refine skp (t_then ?_)
        refine sq2 ?_
        obtain ⟨y3, hx4, hm⟩ := bindS hm
        refine rg (pv (r_mp rfl) (pv (r_ldS rfl Try.isAgg24 Try.sizeOf24 rfl (hS1.cells0 (i := 0) ⟨rfl, rfl⟩ (o := 0) rfl) (cs := [.int .i64 p1.Obj, .int .i64 p1.Lo, .int .i64 p1.Hi, .int .i64 p1.Off])) (wl rfl (calS cf18 rfl (store_Store_fit_sim (p0 := p0) (H_p0 := H_p0) (p1 := p1) (hS1.bun [0, 1] [2, 3] rfl) hL_p0 hx4) rfl fun v3 T3 w5 im5 rv3 => ?_))))
        obtain ⟨pv2, rfl, hS18, h2, _⟩ := rv3
        have hS18 : Sep g T3 w5 [boxA b1 [.int .i64 p1.Obj, .int .i64 p1.Lo, .int .i64 p1.Hi, .int .i64 p1.Off], R, H_p0 [.slice a1 n1 c1], nestA nEStoreObject 59 (.slice a1 n1 c1) p0.list] := hS18.unb
        refine pv (r_mv rfl) (pv (r_ex (v := pv2) rfl rfl) (pv (r_ex (v := .int .i64 y3.2) rfl rfl) (pv (r_zx (v := pv2) rfl) (pv (r_zi rfl) (nil (t_thenR [(2, .int .i64 p2), (5, .pointer (some ⟨b1, 0, none⟩)), (10, pv2), (11, .int .i64 y3.2)] ⟨rfl, rfl, rfl, rfl, trivial⟩ fun J => ?_))))))
        refine sq2 ?_
        refine blk ?_
        refine sq2 ?_
        refine rg (pv (r_mi rfl) (pv (r_ib rfl rfl rfl) (pv (r_zb rfl) (nil (t_then ?_)))))
        refine cnd rfl (fun hb16 => ?_) (fun hb16 => ?_)
        · have hm := ctrue hb16 hm
          refine sq2 ?_
          refine rg (pv (r_mi rfl) (pv (r_zp rfl) (pv (r_zi rfl) (nil (t_thenR [(8, .pointer none), (9, .int .i64 y3.2)] ⟨rfl, rfl, trivial⟩ fun J => ?_)))))
          have hm := Option.some.inj hm
          subst hm
          exact rtn (r_blk (r_then (retN (vs := [.pointer none, .int .i64 y3.2]) rfl ⟨rfl, rfl, trivial⟩ rfl ⟨_, rfl, _, (Im.trans im1 im5), ⟨_, rfl, hS18.sel [1, 2, 3] rfl, ip_nil, trivial⟩⟩)))
        · have hm := cfalse hb16 hm
          refine sq2 ?_
          refine rs [0, 1, 0, 1, 0, 0, 1, 0, 2, 0, 0, 0, 0, 1, 0, 0, 0, 0, 0, 0, 0, 0, 1, 0, 0, 0, 0, 0, 1, 0, 0, 0, 0, 1, 0, 0, 0, 0, 0, 0] [0, 1, 2, 3, 4, 5, 6, 7, 8, 9, 10, 11, 12, 13, 14, 15, 16, 17, 18, 19, 20, 21, 22, 23, 24, 25, 26, 27, 28, 29, 30, 31, 32, 33, 34, 35, 36, 37, 38, 39] mix (by kernel_rfl) hS18.lt fun w6 i2 => ?_
          have im6 := i2.imm
          have hS19 := hS18.keep i2 (fun _ h => h)
          refine s0 rfl trivial (fun _ => r_fa rfl Try.underlying24 rfl Try.sizeOf3 rfl) rfl (s1 rfl trivial (r_ld rfl Try.isAgg3 (hS19.cell0 (i := 0) ⟨rfl, rfl⟩ (j := 3) rfl)) rfl (s0 rfl trivial (fun _ => r_fa rfl Try.underlying24 rfl Try.sizeOf3 rfl) rfl (s1 rfl trivial (r_ld rfl Try.isAgg3 (hS19.cell0 (i := 0) ⟨rfl, rfl⟩ (j := 1) rfl)) rfl (s0 rfl trivial (fun _ => r_ib rfl rfl rfl) rfl (s0 rfl trivial (fun _ => r_mb rfl) rfl (?_))))))
          rcases Bool.eq_false_or_eq_true (decide (p1.Off < p1.Lo)) with hb17 | hb17
          · have hm := ctrue hb17 hm
            refine sU rfl ⟨_, rfl, .inl (congrArg Value.bool hb17)⟩ (sU rfl ⟨_, rfl, .inl (congrArg Value.bool hb17)⟩ (sU rfl ⟨_, rfl, .inl (congrArg Value.bool hb17)⟩ (sU rfl ⟨_, rfl, .inl (congrArg Value.bool hb17)⟩ (s0 rfl trivial (fun _ => r_pkt rfl hb17 rfl) rfl (s0 rfl trivial (fun _ => r_mb rfl) rfl (sU rfl ⟨_, rfl, .inl (congrArg Value.bool rfl)⟩ (sU rfl ⟨_, rfl, .inl (congrArg Value.bool rfl)⟩ (sU rfl ⟨_, rfl, .inl (congrArg Value.bool rfl)⟩ (s0 rfl trivial (fun _ => r_pkt rfl rfl rfl) rfl (s0 rfl trivial (fun _ => r_mb rfl) rfl (sU rfl ⟨_, rfl, .inl (congrArg Value.bool rfl)⟩ (sU rfl ⟨_, rfl, .inl (congrArg Value.bool rfl)⟩ (sU rfl ⟨_, rfl, .inl (congrArg Value.bool rfl)⟩ (sU rfl ⟨_, rfl, .inl (congrArg Value.bool rfl)⟩ (sU rfl ⟨_, rfl, .inl (congrArg Value.bool rfl)⟩ (sU rfl ⟨_, rfl, .inl (congrArg Value.bool rfl)⟩ (sU rfl ⟨_, rfl, .inl (congrArg Value.bool rfl)⟩ (sU rfl ⟨_, rfl, .inl (congrArg Value.bool rfl)⟩ (s0 rfl trivial (fun _ => r_pkt rfl rfl rfl) rfl (s0 rfl trivial (fun _ => r_mb rfl) rfl (sU rfl ⟨_, rfl, .inl (congrArg Value.bool rfl)⟩ (sU rfl ⟨_, rfl, .inl (congrArg Value.bool rfl)⟩ (sU rfl ⟨_, rfl, .inl (congrArg Value.bool rfl)⟩ (sU rfl ⟨_, rfl, .inl (congrArg Value.bool rfl)⟩ (sU rfl ⟨_, rfl, .inl (congrArg Value.bool rfl)⟩ (sU rfl ⟨_, rfl, .inl (congrArg Value.bool rfl)⟩ (sU rfl ⟨_, rfl, .inl (congrArg Value.bool rfl)⟩ (sU rfl ⟨_, rfl, .inl (congrArg Value.bool rfl)⟩ (sU rfl ⟨_, rfl, .inl (congrArg Value.bool rfl)⟩ (sU rfl ⟨_, rfl, .inl (congrArg Value.bool rfl)⟩ (sU rfl ⟨_, rfl, .inl (congrArg Value.bool rfl)⟩ (s0 rfl trivial (fun _ => r_pkt rfl rfl rfl) rfl (s0 rfl trivial (fun _ => r_zb rfl) rfl (se (t_thenR [(10, pv2), (39, .bool true)] ⟨rfl, rfl, trivial⟩ fun J => ?_)))))))))))))))))))))))))))))))))))
            refine cnd (b := true) rfl (fun _ => ?_) (fun h => nomatch h)
            refine sq2 ?_
            refine rg (pv (r_zp rfl) (pv (r_zi rfl) (nil (t_then ?_))))
            have hm := Option.some.inj hm
            subst hm
            exact rtn (r_blk (r_then (retN (vs := [.pointer none, .int .i64 12]) rfl ⟨rfl, rfl, trivial⟩ rfl ⟨_, rfl, _, (Im.trans im1 (Im.trans im5 im6)), ⟨_, rfl, hS19.sel [1, 2, 3] rfl, ip_nil, trivial⟩⟩)))
          · have hm := cfalse hb17 hm
            obtain ⟨y4, hx5, hm⟩ := bindS hm
            refine s1 rfl ⟨_, rfl, congrArg Value.bool hb17⟩ (r_ldS rfl Try.isAgg24 Try.sizeOf24 rfl (hS19.cells0 (i := 0) ⟨rfl, rfl⟩ (o := 0) rfl) (cs := [.int .i64 p1.Obj, .int .i64 p1.Lo, .int .i64 p1.Hi, .int .i64 p1.Off])) rfl (s0 rfl ⟨_, rfl, congrArg Value.bool hb17⟩ (fun _ => r_mi rfl) rfl (s2 [] rfl ⟨_, rfl, congrArg Value.bool hb17⟩ rfl (by kernel_rfl) (calS cf22 rfl (store_within_sim (p0 := p1) (p1 := 0) (p2 := p2) (hS19.bun [0, 1, 2, 3] [] rfl)  hx5) rfl fun v4 T4 w7 im7 rv4 => ?_)))
            obtain ⟨rfl, hS20, _⟩ := rv4
            have hS20 : Sep g T4 w7 [boxA b1 [.int .i64 p1.Obj, .int .i64 p1.Lo, .int .i64 p1.Hi, .int .i64 p1.Off], R, H_p0 [.slice a1 n1 c1], nestA nEStoreObject 59 (.slice a1 n1 c1) p0.list] := hS20.unb
            refine ⟨st0, ?_⟩
            refine s0 rfl ⟨_, rfl, congrArg Value.bool hb17⟩ (fun _ => r_nt rfl) rfl (s0 rfl trivial (fun _ => r_pkf rfl hb17 rfl) rfl (s0 rfl trivial (fun _ => r_mb rfl) rfl (?_)))
            rcases Bool.eq_false_or_eq_true (!y4) with hb18 | hb18
            · have hm := ctrue hb18 hm
              refine sU rfl ⟨_, rfl, .inl (congrArg Value.bool hb18)⟩ (sU rfl ⟨_, rfl, .inl (congrArg Value.bool hb18)⟩ (sU rfl ⟨_, rfl, .inl (congrArg Value.bool hb18)⟩ (s0 rfl trivial (fun _ => r_pkt rfl hb18 rfl) rfl (s0 rfl trivial (fun _ => r_mb rfl) rfl (sU rfl ⟨_, rfl, .inl (congrArg Value.bool rfl)⟩ (sU rfl ⟨_, rfl, .inl (congrArg Value.bool rfl)⟩ (sU rfl ⟨_, rfl, .inl (congrArg Value.bool rfl)⟩ (sU rfl ⟨_, rfl, .inl (congrArg Value.bool rfl)⟩ (sU rfl ⟨_, rfl, .inl (congrArg Value.bool rfl)⟩ (sU rfl ⟨_, rfl, .inl (congrArg Value.bool rfl)⟩ (sU rfl ⟨_, rfl, .inl (congrArg Value.bool rfl)⟩ (sU rfl ⟨_, rfl, .inl (congrArg Value.bool rfl)⟩ (s0 rfl trivial (fun _ => r_pkt rfl rfl rfl) rfl (s0 rfl trivial (fun _ => r_mb rfl) rfl (sU rfl ⟨_, rfl, .inl (congrArg Value.bool rfl)⟩ (sU rfl ⟨_, rfl, .inl (congrArg Value.bool rfl)⟩ (sU rfl ⟨_, rfl, .inl (congrArg Value.bool rfl)⟩ (sU rfl ⟨_, rfl, .inl (congrArg Value.bool rfl)⟩ (sU rfl ⟨_, rfl, .inl (congrArg Value.bool rfl)⟩ (sU rfl ⟨_, rfl, .inl (congrArg Value.bool rfl)⟩ (sU rfl ⟨_, rfl, .inl (congrArg Value.bool rfl)⟩ (sU rfl ⟨_, rfl, .inl (congrArg Value.bool rfl)⟩ (sU rfl ⟨_, rfl, .inl (congrArg Value.bool rfl)⟩ (sU rfl ⟨_, rfl, .inl (congrArg Value.bool rfl)⟩ (sU rfl ⟨_, rfl, .inl (congrArg Value.bool rfl)⟩ (s0 rfl trivial (fun _ => r_pkt rfl rfl rfl) rfl (s0 rfl trivial (fun _ => r_zb rfl) rfl (se (t_thenR [(10, pv2), (39, .bool true)] ⟨rfl, rfl, trivial⟩ fun J => ?_)))))))))))))))))))))))))))))
              refine cnd (b := true) rfl (fun _ => ?_) (fun h => nomatch h)
              refine sq2 ?_
              refine rg (pv (r_zp rfl) (pv (r_zi rfl) (nil (t_then ?_))))
              have hm := Option.some.inj hm
              subst hm
              exact rtn (r_blk (r_then (retN (vs := [.pointer none, .int .i64 12]) rfl ⟨rfl, rfl, trivial⟩ rfl ⟨_, rfl, _, (Im.trans im1 (Im.trans im5 (Im.trans im6 im7))), ⟨_, rfl, hS20.sel [1, 2, 3] rfl, ip_nil, trivial⟩⟩)))
            · have hm := cfalse hb18 hm
              refine s0 rfl ⟨_, rfl, congrArg Value.bool hb18⟩ (fun _ => r_fa rfl Try.underlying24 rfl Try.sizeOf3 rfl) rfl (s1 rfl ⟨_, rfl, congrArg Value.bool hb18⟩ (r_ld rfl Try.isAgg3 (hS20.cell0 (i := 0) ⟨rfl, rfl⟩ (j := 3) rfl)) rfl (s0 rfl ⟨_, rfl, congrArg Value.bool hb18⟩ (fun _ => r_ib rfl rfl rfl) rfl (s0 rfl trivial (fun _ => r_pkf rfl hb18 rfl) rfl (s0 rfl trivial (fun _ => r_mb rfl) rfl (?_)))))
              rcases Bool.eq_false_or_eq_true (decide (p1.Off < 0)) with hb19 | hb19
              · have hm := ctrue hb19 hm
                refine sU rfl ⟨_, rfl, .inl (congrArg Value.bool hb19)⟩ (sU rfl ⟨_, rfl, .inl (congrArg Value.bool hb19)⟩ (sU rfl ⟨_, rfl, .inl (congrArg Value.bool hb19)⟩ (sU rfl ⟨_, rfl, .inl (congrArg Value.bool hb19)⟩ (sU rfl ⟨_, rfl, .inl (congrArg Value.bool hb19)⟩ (sU rfl ⟨_, rfl, .inl (congrArg Value.bool hb19)⟩ (sU rfl ⟨_, rfl, .inl (congrArg Value.bool hb19)⟩ (sU rfl ⟨_, rfl, .inl (congrArg Value.bool hb19)⟩ (s0 rfl trivial (fun _ => r_pkt rfl hb19 rfl) rfl (s0 rfl trivial (fun _ => r_mb rfl) rfl (sU rfl ⟨_, rfl, .inl (congrArg Value.bool rfl)⟩ (sU rfl ⟨_, rfl, .inl (congrArg Value.bool rfl)⟩ (sU rfl ⟨_, rfl, .inl (congrArg Value.bool rfl)⟩ (sU rfl ⟨_, rfl, .inl (congrArg Value.bool rfl)⟩ (sU rfl ⟨_, rfl, .inl (congrArg Value.bool rfl)⟩ (sU rfl ⟨_, rfl, .inl (congrArg Value.bool rfl)⟩ (sU rfl ⟨_, rfl, .inl (congrArg Value.bool rfl)⟩ (sU rfl ⟨_, rfl, .inl (congrArg Value.bool rfl)⟩ (sU rfl ⟨_, rfl, .inl (congrArg Value.bool rfl)⟩ (sU rfl ⟨_, rfl, .inl (congrArg Value.bool rfl)⟩ (sU rfl ⟨_, rfl, .inl (congrArg Value.bool rfl)⟩ (s0 rfl trivial (fun _ => r_pkt rfl rfl rfl) rfl (s0 rfl trivial (fun _ => r_zb rfl) rfl (se (t_thenR [(10, pv2), (39, .bool true)] ⟨rfl, rfl, trivial⟩ fun J => ?_))))))))))))))))))))))))
                refine cnd (b := true) rfl (fun _ => ?_) (fun h => nomatch h)
                refine sq2 ?_
                refine rg (pv (r_zp rfl) (pv (r_zi rfl) (nil (t_then ?_))))
                have hm := Option.some.inj hm
                subst hm
                exact rtn (r_blk (r_then (retN (vs := [.pointer none, .int .i64 12]) rfl ⟨rfl, rfl, trivial⟩ rfl ⟨_, rfl, _, (Im.trans im1 (Im.trans im5 (Im.trans im6 im7))), ⟨_, rfl, hS20.sel [1, 2, 3] rfl, ip_nil, trivial⟩⟩)))
              · have hm := cfalse hb19 hm
                refine s0 rfl ⟨_, rfl, congrArg Value.bool hb19⟩ (fun _ => r_mi rfl) rfl (s0 rfl ⟨_, rfl, congrArg Value.bool hb19⟩ (fun _ => r_mx (v := pv2) rfl) rfl (?_))
                obtain ⟨u2, hx6, hm⟩ := bindS hm
                obtain ⟨b3, of2, k2, cp2, hv2, hp3, hl2, he2⟩ := hS20.nhd (q := 3) ⟨rfl, rfl⟩ hx6 rfl
                obtain ⟨css2, cs2, hS21⟩ := hS20.nfocus (q := 3) ⟨rfl, rfl⟩ hx6
                obtain ⟨⟨a4, n4, c4, a5, n5, c5, r2⟩, hS22⟩ := hS21.exE
                obtain ⟨hcs2, hS23⟩ := hS22.pE
                subst hcs2
                have hS24 : Sep g T4 w7 [ownA (rInt .u8) 5 (.slice a4 n4 c4) u2.bytes.data, ownA rBool 4 (.slice a5 n5 c5) u2.bytes.set_, mapA (Value.int .i64) encStorePtr (.map r2) u2.ptrs, elsA nEStoreObject p0.list css2 (some (Int.toNat y3.1)), boxA b1 [.int .i64 p1.Obj, .int .i64 p1.Lo, .int .i64 p1.Hi, .int .i64 p1.Off], R, H_p0 [.slice a1 n1 c1], (holeA (rRaw 4) 59 (.slice a1 n1 c1) css2 (Int.toNat y3.1)) [.slice a4 n4 c4, .slice a5 n5 c5, .map r2, .bool u2.gone]] := hS23.unb
                have hp4 := IpR.at2 h2 hp3 hv2 he2
                subst hp4
                refine s0 rfl ⟨_, rfl, congrArg Value.bool hb19⟩ (fun _ => r_nc rfl) rfl (s0 rfl ⟨_, rfl, congrArg Value.bool hb19⟩ (fun _ => r_fa rfl Try.underlying59 rfl Try.sizeOf56 rfl) rfl (s0 rfl ⟨_, rfl, congrArg Value.bool hb19⟩ (fun _ => r_fa rfl Try.underlying56 rfl Try.sizeOf41 rfl) rfl (s1 rfl ⟨_, rfl, congrArg Value.bool hb19⟩ (r_ld rfl Try.isAgg41 (hS24.cellB (i := 7) ⟨rfl, rfl⟩ (lnHole (i := y3.1) hv2 he2) (j := 0) rfl)) rfl (s0 rfl ⟨_, rfl, congrArg Value.bool hb19⟩ (fun _ => r_lnV rfl (hS24.own (i := 0) ⟨rfl, rfl⟩).v Try.underlying41) rfl (s0 rfl ⟨_, rfl, congrArg Value.bool hb19⟩ (fun _ => r_ib rfl rfl rfl) rfl (s0 rfl trivial (fun _ => r_pkf rfl hb19 rfl) rfl (s0 rfl trivial (fun _ => r_mb rfl) rfl (?_))))))))
                rcases Bool.eq_false_or_eq_true (decide ((List.length u2.bytes.data : Int) < p2)) with hb20 | hb20
                · have hm := ctrue hb20 hm
                  refine sU rfl ⟨_, rfl, .inl (congrArg Value.bool hb20)⟩ (sU rfl ⟨_, rfl, .inl (congrArg Value.bool hb20)⟩ (sU rfl ⟨_, rfl, .inl (congrArg Value.bool hb20)⟩ (sU rfl ⟨_, rfl, .inl (congrArg Value.bool hb20)⟩ (sU rfl ⟨_, rfl, .inl (congrArg Value.bool hb20)⟩ (sU rfl ⟨_, rfl, .inl (congrArg Value.bool hb20)⟩ (sU rfl ⟨_, rfl, .inl (congrArg Value.bool hb20)⟩ (sU rfl ⟨_, rfl, .inl (congrArg Value.bool hb20)⟩ (sU rfl ⟨_, rfl, .inl (congrArg Value.bool hb20)⟩ (sU rfl ⟨_, rfl, .inl (congrArg Value.bool hb20)⟩ (sU rfl ⟨_, rfl, .inl (congrArg Value.bool hb20)⟩ (s0 rfl trivial (fun _ => r_pkt rfl hb20 rfl) rfl (s0 rfl trivial (fun _ => r_zb rfl) rfl (se (t_thenR [(10, .pointer (some ⟨b3, of2, none⟩)), (39, .bool true)] ⟨rfl, rfl, trivial⟩ fun J => ?_))))))))))))))
                  refine cnd (b := true) rfl (fun _ => ?_) (fun h => nomatch h)
                  refine sq2 ?_
                  refine rg (pv (r_zp rfl) (pv (r_zi rfl) (nil (t_then ?_))))
                  have hS31 := hS24.bun [0, 1, 2] [3, 4, 5, 6, 7] rfl
                  have hS32 : Sep g T4 w7 [nEStoreObject.A u2 [.slice a4 n4 c4, .slice a5 n5 c5, .map r2, .bool u2.gone], elsA nEStoreObject p0.list css2 (some (Int.toNat y3.1)), boxA b1 [.int .i64 p1.Obj, .int .i64 p1.Lo, .int .i64 p1.Hi, .int .i64 p1.Off], R, H_p0 [.slice a1 n1 c1], (holeA (rRaw 4) 59 (.slice a1 n1 c1) css2 (Int.toNat y3.1)) [.slice a4 n4 c4, .slice a5 n5 c5, .map r2, .bool u2.gone]] := Sep.exI (a4, n4, c4, a5, n5, c5, r2) (Sep.pI rfl hS31)
                  have hS33 : Sep g T4 w7 [boxA b1 [.int .i64 p1.Obj, .int .i64 p1.Lo, .int .i64 p1.Hi, .int .i64 p1.Off], R, H_p0 [.slice a1 n1 c1], nestA nEStoreObject 59 (.slice a1 n1 c1) p0.list] := hS32.nunfocus0 (q := 3) ⟨rfl, rfl⟩ hx6
                  have hm := Option.some.inj hm
                  subst hm
                  exact rtn (r_blk (r_then (retN (vs := [.pointer none, .int .i64 12]) rfl ⟨rfl, rfl, trivial⟩ rfl ⟨_, rfl, _, (Im.trans im1 (Im.trans im5 (Im.trans im6 im7))), ⟨_, rfl, hS33.sel [1, 2, 3] rfl, ip_nil, trivial⟩⟩)))
                · have hm := cfalse hb20 hm
                  refine s0 rfl ⟨_, rfl, congrArg Value.bool hb20⟩ (fun _ => r_fa rfl Try.underlying24 rfl Try.sizeOf3 rfl) rfl (s1 rfl ⟨_, rfl, congrArg Value.bool hb20⟩ (r_ld rfl Try.isAgg3 (hS24.cell0 (i := 4) ⟨rfl, rfl⟩ (j := 3) rfl)) rfl (s0 rfl ⟨_, rfl, congrArg Value.bool hb20⟩ (fun _ => r_mp rfl) rfl (s0 rfl ⟨_, rfl, congrArg Value.bool hb20⟩ (fun _ => r_nc rfl) rfl (s0 rfl ⟨_, rfl, congrArg Value.bool hb20⟩ (fun _ => r_fa rfl Try.underlying59 rfl Try.sizeOf56 rfl) rfl (s0 rfl ⟨_, rfl, congrArg Value.bool hb20⟩ (fun _ => r_fa rfl Try.underlying56 rfl Try.sizeOf41 rfl) rfl (s1 rfl ⟨_, rfl, congrArg Value.bool hb20⟩ (r_ld rfl Try.isAgg41 (hS24.cellB (i := 7) ⟨rfl, rfl⟩ (lnHole (i := y3.1) hv2 he2) (j := 0) rfl)) rfl (s0 rfl ⟨_, rfl, congrArg Value.bool hb20⟩ (fun _ => r_lnV rfl (hS24.own (i := 0) ⟨rfl, rfl⟩).v Try.underlying41) rfl (s0 rfl ⟨_, rfl, congrArg Value.bool hb20⟩ (fun _ => r_mi rfl) rfl (s0 rfl ⟨_, rfl, congrArg Value.bool hb20⟩ (fun _ => r_ib rfl rfl rfl) rfl (s0 rfl ⟨_, rfl, congrArg Value.bool hb20⟩ (fun _ => r_ib rfl rfl rfl) rfl (s0 rfl trivial (fun _ => r_pkf rfl hb20 rfl) rfl (s0 rfl trivial (fun _ => r_zb rfl) rfl (se (t_thenR [(10, .pointer (some ⟨b3, of2, none⟩)), (39, .bool (decide ((IntKind.wrap .i64 ((List.length u2.bytes.data : Int) - p2)) < p1.Off)))] ⟨rfl, rfl, trivial⟩ fun J => ?_))))))))))))))
                  refine cnd rfl (fun hb21 => ?_) (fun hb21 => ?_)
                  · have hm := ctrue hb21 hm
                    refine sq2 ?_
                    refine rg (pv (r_zp rfl) (pv (r_zi rfl) (nil (t_then ?_))))
                    have hS25 := hS24.bun [0, 1, 2] [3, 4, 5, 6, 7] rfl
                    have hS26 : Sep g T4 w7 [nEStoreObject.A u2 [.slice a4 n4 c4, .slice a5 n5 c5, .map r2, .bool u2.gone], elsA nEStoreObject p0.list css2 (some (Int.toNat y3.1)), boxA b1 [.int .i64 p1.Obj, .int .i64 p1.Lo, .int .i64 p1.Hi, .int .i64 p1.Off], R, H_p0 [.slice a1 n1 c1], (holeA (rRaw 4) 59 (.slice a1 n1 c1) css2 (Int.toNat y3.1)) [.slice a4 n4 c4, .slice a5 n5 c5, .map r2, .bool u2.gone]] := Sep.exI (a4, n4, c4, a5, n5, c5, r2) (Sep.pI rfl hS25)
                    have hS27 : Sep g T4 w7 [boxA b1 [.int .i64 p1.Obj, .int .i64 p1.Lo, .int .i64 p1.Hi, .int .i64 p1.Off], R, H_p0 [.slice a1 n1 c1], nestA nEStoreObject 59 (.slice a1 n1 c1) p0.list] := hS26.nunfocus0 (q := 3) ⟨rfl, rfl⟩ hx6
                    have hm := Option.some.inj hm
                    subst hm
                    exact rtn (r_blk (r_then (retN (vs := [.pointer none, .int .i64 12]) rfl ⟨rfl, rfl, trivial⟩ rfl ⟨_, rfl, _, (Im.trans im1 (Im.trans im5 (Im.trans im6 im7))), ⟨_, rfl, hS27.sel [1, 2, 3] rfl, ip_nil, trivial⟩⟩)))
                  · have hm := cfalse hb21 hm
                    refine skp (t_blk (t_then ?_))
                    refine sq2 ?_
                    refine rg (pv (r_mp rfl) (pv (r_zp rfl) (pv (r_zi rfl) (nil (t_then ?_)))))
                    have hS28 := hS24.bun [0, 1, 2] [3, 4, 5, 6, 7] rfl
                    have hS29 : Sep g T4 w7 [nEStoreObject.A u2 [.slice a4 n4 c4, .slice a5 n5 c5, .map r2, .bool u2.gone], elsA nEStoreObject p0.list css2 (some (Int.toNat y3.1)), boxA b1 [.int .i64 p1.Obj, .int .i64 p1.Lo, .int .i64 p1.Hi, .int .i64 p1.Off], R, H_p0 [.slice a1 n1 c1], (holeA (rRaw 4) 59 (.slice a1 n1 c1) css2 (Int.toNat y3.1)) [.slice a4 n4 c4, .slice a5 n5 c5, .map r2, .bool u2.gone]] := Sep.exI (a4, n4, c4, a5, n5, c5, r2) (Sep.pI rfl hS28)
                    have hS30 : Sep g T4 w7 [boxA b1 [.int .i64 p1.Obj, .int .i64 p1.Lo, .int .i64 p1.Hi, .int .i64 p1.Off], R, H_p0 [.slice a1 n1 c1], nestA nEStoreObject 59 (.slice a1 n1 c1) p0.list] := hS29.nunfocus0 (q := 3) ⟨rfl, rfl⟩ hx6
                    have hm := Option.some.inj hm
                    subst hm
                    exact rtn (retN (vs := [.pointer (some ⟨b3, of2, none⟩), .int .i64 0]) rfl ⟨rfl, rfl, trivial⟩ rfl ⟨_, rfl, _, (Im.trans im1 (Im.trans im5 (Im.trans im6 im7))), ⟨_, rfl, hS30.sel [1, 2, 3] rfl, (ip_at hv2 hp3 he2), trivial⟩⟩)
  · have hm := cfalse hb1 hm
    refine gF (d0 := 17) rfl rfl (by rw [hb1]; rfl) (gF (d0 := 17) rfl rfl (by rw [hb1]; rfl) (gT (d0 := 14) rfl rfl rfl (pv (r_pkf rfl hb1 rfl) (pv (r_pkf rfl rfl rfl) (pv (r_mb rfl) (gT (d0 := 22) rfl rfl rfl (pv (r_mb rfl) (gT (d0 := 22) rfl rfl rfl (pv (r_mb rfl) (?_))))))))))
    rcases Bool.eq_false_or_eq_true p3 with hb27 | hb27
    · have hm := ctrue hb27 hm
      refine gT (d0 := 24) rfl rfl hb27 (pv (r_mi rfl) (gT (d0 := 24) rfl rfl hb27 (pv (r_ib rfl rfl rfl) (gT (d0 := 22) rfl rfl rfl (pv (r_pkt rfl hb27 rfl) (pv (r_pkf rfl rfl rfl) (nil (t_thenR [(0, .pointer (some ⟨b_p0, o_p0, none⟩)), (2, .int .i64 p2), (5, .pointer (some ⟨b1, 0, none⟩)), (28, .bool (p2 != 4))] ⟨rfl, rfl, rfl, rfl, trivial⟩ fun J => ?_))))))))
      refine cnd rfl (fun hb28 => ?_) (fun hb28 => ?_)
      · have hm := ctrue hb28 hm
        refine sq2 ?_
        refine rg (pv (r_zp rfl) (pv (r_zi rfl) (nil (t_then ?_))))
        have hm := Option.some.inj hm
        subst hm
        exact rtn (r_then (retN (vs := [.pointer none, .int .i64 1]) rfl ⟨rfl, rfl, trivial⟩ rfl ⟨_, rfl, _, im1, ⟨_, rfl, hS1.sel [1, 2, 3] rfl, ip_nil, trivial⟩⟩))
      · have hm := cfalse hb28 hm
        refine skp (t_then ?_)
        refine sq2 ?_
        obtain ⟨y5, hx7, hm⟩ := bindS hm
        refine rg (pv (r_mp rfl) (pv (r_ldS rfl Try.isAgg24 Try.sizeOf24 rfl (hS1.cells0 (i := 0) ⟨rfl, rfl⟩ (o := 0) rfl) (cs := [.int .i64 p1.Obj, .int .i64 p1.Lo, .int .i64 p1.Hi, .int .i64 p1.Off])) (wl rfl (calS cf18 rfl (store_Store_fit_sim (p0 := p0) (H_p0 := H_p0) (p1 := p1) (hS1.bun [0, 1] [2, 3] rfl) hL_p0 hx7) rfl fun v5 T5 w8 im8 rv5 => ?_))))
        obtain ⟨pv3, rfl, hS34, h3, _⟩ := rv5
        have hS34 : Sep g T5 w8 [boxA b1 [.int .i64 p1.Obj, .int .i64 p1.Lo, .int .i64 p1.Hi, .int .i64 p1.Off], R, H_p0 [.slice a1 n1 c1], nestA nEStoreObject 59 (.slice a1 n1 c1) p0.list] := hS34.unb
        refine pv (r_mv rfl) (pv (r_ex (v := pv3) rfl rfl) (pv (r_ex (v := .int .i64 y5.2) rfl rfl) (pv (r_zx (v := pv3) rfl) (pv (r_zi rfl) (nil (t_thenR [(2, .int .i64 p2), (5, .pointer (some ⟨b1, 0, none⟩)), (10, pv3), (11, .int .i64 y5.2)] ⟨rfl, rfl, rfl, rfl, trivial⟩ fun J => ?_))))))
        refine sq2 ?_
        refine blk ?_
        refine sq2 ?_
        refine rg (pv (r_mi rfl) (pv (r_ib rfl rfl rfl) (pv (r_zb rfl) (nil (t_then ?_)))))
        refine cnd rfl (fun hb29 => ?_) (fun hb29 => ?_)
        · have hm := ctrue hb29 hm
          refine sq2 ?_
          refine rg (pv (r_mi rfl) (pv (r_zp rfl) (pv (r_zi rfl) (nil (t_thenR [(8, .pointer none), (9, .int .i64 y5.2)] ⟨rfl, rfl, trivial⟩ fun J => ?_)))))
          have hm := Option.some.inj hm
          subst hm
          exact rtn (r_blk (r_then (retN (vs := [.pointer none, .int .i64 y5.2]) rfl ⟨rfl, rfl, trivial⟩ rfl ⟨_, rfl, _, (Im.trans im1 im8), ⟨_, rfl, hS34.sel [1, 2, 3] rfl, ip_nil, trivial⟩⟩)))
        · have hm := cfalse hb29 hm
          refine sq2 ?_
          refine rs [0, 1, 0, 1, 0, 0, 1, 0, 2, 0, 0, 0, 0, 1, 0, 0, 0, 0, 0, 0, 0, 0, 1, 0, 0, 0, 0, 0, 1, 0, 0, 0, 0, 1, 0, 0, 0, 0, 0, 0] [0, 1, 2, 3, 4, 5, 6, 7, 8, 9, 10, 11, 12, 13, 14, 15, 16, 17, 18, 19, 20, 21, 22, 23, 24, 25, 26, 27, 28, 29, 30, 31, 32, 33, 34, 35, 36, 37, 38, 39] mix (by kernel_rfl) hS34.lt fun w9 i3 => ?_
          have im9 := i3.imm
          have hS35 := hS34.keep i3 (fun _ h => h)
          refine s0 rfl trivial (fun _ => r_fa rfl Try.underlying24 rfl Try.sizeOf3 rfl) rfl (s1 rfl trivial (r_ld rfl Try.isAgg3 (hS35.cell0 (i := 0) ⟨rfl, rfl⟩ (j := 3) rfl)) rfl (s0 rfl trivial (fun _ => r_fa rfl Try.underlying24 rfl Try.sizeOf3 rfl) rfl (s1 rfl trivial (r_ld rfl Try.isAgg3 (hS35.cell0 (i := 0) ⟨rfl, rfl⟩ (j := 1) rfl)) rfl (s0 rfl trivial (fun _ => r_ib rfl rfl rfl) rfl (s0 rfl trivial (fun _ => r_mb rfl) rfl (?_))))))
          rcases Bool.eq_false_or_eq_true (decide (p1.Off < p1.Lo)) with hb30 | hb30
          · have hm := ctrue hb30 hm
            refine sU rfl ⟨_, rfl, .inl (congrArg Value.bool hb30)⟩ (sU rfl ⟨_, rfl, .inl (congrArg Value.bool hb30)⟩ (sU rfl ⟨_, rfl, .inl (congrArg Value.bool hb30)⟩ (sU rfl ⟨_, rfl, .inl (congrArg Value.bool hb30)⟩ (s0 rfl trivial (fun _ => r_pkt rfl hb30 rfl) rfl (s0 rfl trivial (fun _ => r_mb rfl) rfl (sU rfl ⟨_, rfl, .inl (congrArg Value.bool rfl)⟩ (sU rfl ⟨_, rfl, .inl (congrArg Value.bool rfl)⟩ (sU rfl ⟨_, rfl, .inl (congrArg Value.bool rfl)⟩ (s0 rfl trivial (fun _ => r_pkt rfl rfl rfl) rfl (s0 rfl trivial (fun _ => r_mb rfl) rfl (sU rfl ⟨_, rfl, .inl (congrArg Value.bool rfl)⟩ (sU rfl ⟨_, rfl, .inl (congrArg Value.bool rfl)⟩ (sU rfl ⟨_, rfl, .inl (congrArg Value.bool rfl)⟩ (sU rfl ⟨_, rfl, .inl (congrArg Value.bool rfl)⟩ (sU rfl ⟨_, rfl, .inl (congrArg Value.bool rfl)⟩ (sU rfl ⟨_, rfl, .inl (congrArg Value.bool rfl)⟩ (sU rfl ⟨_, rfl, .inl (congrArg Value.bool rfl)⟩ (sU rfl ⟨_, rfl, .inl (congrArg Value.bool rfl)⟩ (s0 rfl trivial (fun _ => r_pkt rfl rfl rfl) rfl (s0 rfl trivial (fun _ => r_mb rfl) rfl (sU rfl ⟨_, rfl, .inl (congrArg Value.bool rfl)⟩ (sU rfl ⟨_, rfl, .inl (congrArg Value.bool rfl)⟩ (sU rfl ⟨_, rfl, .inl (congrArg Value.bool rfl)⟩ (sU rfl ⟨_, rfl, .inl (congrArg Value.bool rfl)⟩ (sU rfl ⟨_, rfl, .inl (congrArg Value.bool rfl)⟩ (sU rfl ⟨_, rfl, .inl (congrArg Value.bool rfl)⟩ (sU rfl ⟨_, rfl, .inl (congrArg Value.bool rfl)⟩ (sU rfl ⟨_, rfl, .inl (congrArg Value.bool rfl)⟩ (sU rfl ⟨_, rfl, .inl (congrArg Value.bool rfl)⟩ (sU rfl ⟨_, rfl, .inl (congrArg Value.bool rfl)⟩ (sU rfl ⟨_, rfl, .inl (congrArg Value.bool rfl)⟩ (s0 rfl trivial (fun _ => r_pkt rfl rfl rfl) rfl (s0 rfl trivial (fun _ => r_zb rfl) rfl (se (t_thenR [(10, pv3), (39, .bool true)] ⟨rfl, rfl, trivial⟩ fun J => ?_)))))))))))))))))))))))))))))))))))
            refine cnd (b := true) rfl (fun _ => ?_) (fun h => nomatch h)
            refine sq2 ?_
            refine rg (pv (r_zp rfl) (pv (r_zi rfl) (nil (t_then ?_))))
            have hm := Option.some.inj hm
            subst hm
            exact rtn (r_blk (r_then (retN (vs := [.pointer none, .int .i64 12]) rfl ⟨rfl, rfl, trivial⟩ rfl ⟨_, rfl, _, (Im.trans im1 (Im.trans im8 im9)), ⟨_, rfl, hS35.sel [1, 2, 3] rfl, ip_nil, trivial⟩⟩)))
          · have hm := cfalse hb30 hm
            obtain ⟨y6, hx8, hm⟩ := bindS hm
            refine s1 rfl ⟨_, rfl, congrArg Value.bool hb30⟩ (r_ldS rfl Try.isAgg24 Try.sizeOf24 rfl (hS35.cells0 (i := 0) ⟨rfl, rfl⟩ (o := 0) rfl) (cs := [.int .i64 p1.Obj, .int .i64 p1.Lo, .int .i64 p1.Hi, .int .i64 p1.Off])) rfl (s0 rfl ⟨_, rfl, congrArg Value.bool hb30⟩ (fun _ => r_mi rfl) rfl (s2 [] rfl ⟨_, rfl, congrArg Value.bool hb30⟩ rfl (by kernel_rfl) (calS cf22 rfl (store_within_sim (p0 := p1) (p1 := 0) (p2 := p2) (hS35.bun [0, 1, 2, 3] [] rfl)  hx8) rfl fun v6 T6 w10 im10 rv6 => ?_)))
            obtain ⟨rfl, hS36, _⟩ := rv6
            have hS36 : Sep g T6 w10 [boxA b1 [.int .i64 p1.Obj, .int .i64 p1.Lo, .int .i64 p1.Hi, .int .i64 p1.Off], R, H_p0 [.slice a1 n1 c1], nestA nEStoreObject 59 (.slice a1 n1 c1) p0.list] := hS36.unb
            refine ⟨st0, ?_⟩
            refine s0 rfl ⟨_, rfl, congrArg Value.bool hb30⟩ (fun _ => r_nt rfl) rfl (s0 rfl trivial (fun _ => r_pkf rfl hb30 rfl) rfl (s0 rfl trivial (fun _ => r_mb rfl) rfl (?_)))
            rcases Bool.eq_false_or_eq_true (!y6) with hb31 | hb31
            · have hm := ctrue hb31 hm
              refine sU rfl ⟨_, rfl, .inl (congrArg Value.bool hb31)⟩ (sU rfl ⟨_, rfl, .inl (congrArg Value.bool hb31)⟩ (sU rfl ⟨_, rfl, .inl (congrArg Value.bool hb31)⟩ (s0 rfl trivial (fun _ => r_pkt rfl hb31 rfl) rfl (s0 rfl trivial (fun _ => r_mb rfl) rfl (sU rfl ⟨_, rfl, .inl (congrArg Value.bool rfl)⟩ (sU rfl ⟨_, rfl, .inl (congrArg Value.bool rfl)⟩ (sU rfl ⟨_, rfl, .inl (congrArg Value.bool rfl)⟩ (sU rfl ⟨_, rfl, .inl (congrArg Value.bool rfl)⟩ (sU rfl ⟨_, rfl, .inl (congrArg Value.bool rfl)⟩ (sU rfl ⟨_, rfl, .inl (congrArg Value.bool rfl)⟩ (sU rfl ⟨_, rfl, .inl (congrArg Value.bool rfl)⟩ (sU rfl ⟨_, rfl, .inl (congrArg Value.bool rfl)⟩ (s0 rfl trivial (fun _ => r_pkt rfl rfl rfl) rfl (s0 rfl trivial (fun _ => r_mb rfl) rfl (sU rfl ⟨_, rfl, .inl (congrArg Value.bool rfl)⟩ (sU rfl ⟨_, rfl, .inl (congrArg Value.bool rfl)⟩ (sU rfl ⟨_, rfl, .inl (congrArg Value.bool rfl)⟩ (sU rfl ⟨_, rfl, .inl (congrArg Value.bool rfl)⟩ (sU rfl ⟨_, rfl, .inl (congrArg Value.bool rfl)⟩ (sU rfl ⟨_, rfl, .inl (congrArg Value.bool rfl)⟩ (sU rfl ⟨_, rfl, .inl (congrArg Value.bool rfl)⟩ (sU rfl ⟨_, rfl, .inl (congrArg Value.bool rfl)⟩ (sU rfl ⟨_, rfl, .inl (congrArg Value.bool rfl)⟩ (sU rfl ⟨_, rfl, .inl (congrArg Value.bool rfl)⟩ (sU rfl ⟨_, rfl, .inl (congrArg Value.bool rfl)⟩ (s0 rfl trivial (fun _ => r_pkt rfl rfl rfl) rfl (s0 rfl trivial (fun _ => r_zb rfl) rfl (se (t_thenR [(10, pv3), (39, .bool true)] ⟨rfl, rfl, trivial⟩ fun J => ?_)))))))))))))))))))))))))))))
              refine cnd (b := true) rfl (fun _ => ?_) (fun h => nomatch h)
              refine sq2 ?_
              refine rg (pv (r_zp rfl) (pv (r_zi rfl) (nil (t_then ?_))))
              have hm := Option.some.inj hm
              subst hm
              exact rtn (r_blk (r_then (retN (vs := [.pointer none, .int .i64 12]) rfl ⟨rfl, rfl, trivial⟩ rfl ⟨_, rfl, _, (Im.trans im1 (Im.trans im8 (Im.trans im9 im10))), ⟨_, rfl, hS36.sel [1, 2, 3] rfl, ip_nil, trivial⟩⟩)))
            · have hm := cfalse hb31 hm
              refine s0 rfl ⟨_, rfl, congrArg Value.bool hb31⟩ (fun _ => r_fa rfl Try.underlying24 rfl Try.sizeOf3 rfl) rfl (s1 rfl ⟨_, rfl, congrArg Value.bool hb31⟩ (r_ld rfl Try.isAgg3 (hS36.cell0 (i := 0) ⟨rfl, rfl⟩ (j := 3) rfl)) rfl (s0 rfl ⟨_, rfl, congrArg Value.bool hb31⟩ (fun _ => r_ib rfl rfl rfl) rfl (s0 rfl trivial (fun _ => r_pkf rfl hb31 rfl) rfl (s0 rfl trivial (fun _ => r_mb rfl) rfl (?_)))))
              rcases Bool.eq_false_or_eq_true (decide (p1.Off < 0)) with hb32 | hb32
              · have hm := ctrue hb32 hm
                refine sU rfl ⟨_, rfl, .inl (congrArg Value.bool hb32)⟩ (sU rfl ⟨_, rfl, .inl (congrArg Value.bool hb32)⟩ (sU rfl ⟨_, rfl, .inl (congrArg Value.bool hb32)⟩ (sU rfl ⟨_, rfl, .inl (congrArg Value.bool hb32)⟩ (sU rfl ⟨_, rfl, .inl (congrArg Value.bool hb32)⟩ (sU rfl ⟨_, rfl, .inl (congrArg Value.bool hb32)⟩ (sU rfl ⟨_, rfl, .inl (congrArg Value.bool hb32)⟩ (sU rfl ⟨_, rfl, .inl (congrArg Value.bool hb32)⟩ (s0 rfl trivial (fun _ => r_pkt rfl hb32 rfl) rfl (s0 rfl trivial (fun _ => r_mb rfl) rfl (sU rfl ⟨_, rfl, .inl (congrArg Value.bool rfl)⟩ (sU rfl ⟨_, rfl, .inl (congrArg Value.bool rfl)⟩ (sU rfl ⟨_, rfl, .inl (congrArg Value.bool rfl)⟩ (sU rfl ⟨_, rfl, .inl (congrArg Value.bool rfl)⟩ (sU rfl ⟨_, rfl, .inl (congrArg Value.bool rfl)⟩ (sU rfl ⟨_, rfl, .inl (congrArg Value.bool rfl)⟩ (sU rfl ⟨_, rfl, .inl (congrArg Value.bool rfl)⟩ (sU rfl ⟨_, rfl, .inl (congrArg Value.bool rfl)⟩ (sU rfl ⟨_, rfl, .inl (congrArg Value.bool rfl)⟩ (sU rfl ⟨_, rfl, .inl (congrArg Value.bool rfl)⟩ (sU rfl ⟨_, rfl, .inl (congrArg Value.bool rfl)⟩ (s0 rfl trivial (fun _ => r_pkt rfl rfl rfl) rfl (s0 rfl trivial (fun _ => r_zb rfl) rfl (se (t_thenR [(10, pv3), (39, .bool true)] ⟨rfl, rfl, trivial⟩ fun J => ?_))))))))))))))))))))))))
                refine cnd (b := true) rfl (fun _ => ?_) (fun h => nomatch h)
                refine sq2 ?_
                refine rg (pv (r_zp rfl) (pv (r_zi rfl) (nil (t_then ?_))))
                have hm := Option.some.inj hm
                subst hm
                exact rtn (r_blk (r_then (retN (vs := [.pointer none, .int .i64 12]) rfl ⟨rfl, rfl, trivial⟩ rfl ⟨_, rfl, _, (Im.trans im1 (Im.trans im8 (Im.trans im9 im10))), ⟨_, rfl, hS36.sel [1, 2, 3] rfl, ip_nil, trivial⟩⟩)))
              · have hm := cfalse hb32 hm
                refine s0 rfl ⟨_, rfl, congrArg Value.bool hb32⟩ (fun _ => r_mi rfl) rfl (s0 rfl ⟨_, rfl, congrArg Value.bool hb32⟩ (fun _ => r_mx (v := pv3) rfl) rfl (?_))
                obtain ⟨u3, hx9, hm⟩ := bindS hm
                obtain ⟨b4, of3, k3, cp3, hv3, hp5, hl3, he3⟩ := hS36.nhd (q := 3) ⟨rfl, rfl⟩ hx9 rfl
                obtain ⟨css3, cs3, hS37⟩ := hS36.nfocus (q := 3) ⟨rfl, rfl⟩ hx9
                obtain ⟨⟨a6, n6, c6, a7, n7, c7, r3⟩, hS38⟩ := hS37.exE
                obtain ⟨hcs3, hS39⟩ := hS38.pE
                subst hcs3
                have hS40 : Sep g T6 w10 [ownA (rInt .u8) 5 (.slice a6 n6 c6) u3.bytes.data, ownA rBool 4 (.slice a7 n7 c7) u3.bytes.set_, mapA (Value.int .i64) encStorePtr (.map r3) u3.ptrs, elsA nEStoreObject p0.list css3 (some (Int.toNat y5.1)), boxA b1 [.int .i64 p1.Obj, .int .i64 p1.Lo, .int .i64 p1.Hi, .int .i64 p1.Off], R, H_p0 [.slice a1 n1 c1], (holeA (rRaw 4) 59 (.slice a1 n1 c1) css3 (Int.toNat y5.1)) [.slice a6 n6 c6, .slice a7 n7 c7, .map r3, .bool u3.gone]] := hS39.unb
                have hp6 := IpR.at2 h3 hp5 hv3 he3
                subst hp6
                refine s0 rfl ⟨_, rfl, congrArg Value.bool hb32⟩ (fun _ => r_nc rfl) rfl (s0 rfl ⟨_, rfl, congrArg Value.bool hb32⟩ (fun _ => r_fa rfl Try.underlying59 rfl Try.sizeOf56 rfl) rfl (s0 rfl ⟨_, rfl, congrArg Value.bool hb32⟩ (fun _ => r_fa rfl Try.underlying56 rfl Try.sizeOf41 rfl) rfl (s1 rfl ⟨_, rfl, congrArg Value.bool hb32⟩ (r_ld rfl Try.isAgg41 (hS40.cellB (i := 7) ⟨rfl, rfl⟩ (lnHole (i := y5.1) hv3 he3) (j := 0) rfl)) rfl (s0 rfl ⟨_, rfl, congrArg Value.bool hb32⟩ (fun _ => r_lnV rfl (hS40.own (i := 0) ⟨rfl, rfl⟩).v Try.underlying41) rfl (s0 rfl ⟨_, rfl, congrArg Value.bool hb32⟩ (fun _ => r_ib rfl rfl rfl) rfl (s0 rfl trivial (fun _ => r_pkf rfl hb32 rfl) rfl (s0 rfl trivial (fun _ => r_mb rfl) rfl (?_))))))))
                rcases Bool.eq_false_or_eq_true (decide ((List.length u3.bytes.data : Int) < p2)) with hb33 | hb33
                · have hm := ctrue hb33 hm
                  refine sU rfl ⟨_, rfl, .inl (congrArg Value.bool hb33)⟩ (sU rfl ⟨_, rfl, .inl (congrArg Value.bool hb33)⟩ (sU rfl ⟨_, rfl, .inl (congrArg Value.bool hb33)⟩ (sU rfl ⟨_, rfl, .inl (congrArg Value.bool hb33)⟩ (sU rfl ⟨_, rfl, .inl (congrArg Value.bool hb33)⟩ (sU rfl ⟨_, rfl, .inl (congrArg Value.bool hb33)⟩ (sU rfl ⟨_, rfl, .inl (congrArg Value.bool hb33)⟩ (sU rfl ⟨_, rfl, .inl (congrArg Value.bool hb33)⟩ (sU rfl ⟨_, rfl, .inl (congrArg Value.bool hb33)⟩ (sU rfl ⟨_, rfl, .inl (congrArg Value.bool hb33)⟩ (sU rfl ⟨_, rfl, .inl (congrArg Value.bool hb33)⟩ (s0 rfl trivial (fun _ => r_pkt rfl hb33 rfl) rfl (s0 rfl trivial (fun _ => r_zb rfl) rfl (se (t_thenR [(10, .pointer (some ⟨b4, of3, none⟩)), (39, .bool true)] ⟨rfl, rfl, trivial⟩ fun J => ?_))))))))))))))
                  refine cnd (b := true) rfl (fun _ => ?_) (fun h => nomatch h)
                  refine sq2 ?_
                  refine rg (pv (r_zp rfl) (pv (r_zi rfl) (nil (t_then ?_))))
                  have hS47 := hS40.bun [0, 1, 2] [3, 4, 5, 6, 7] rfl
                  have hS48 : Sep g T6 w10 [nEStoreObject.A u3 [.slice a6 n6 c6, .slice a7 n7 c7, .map r3, .bool u3.gone], elsA nEStoreObject p0.list css3 (some (Int.toNat y5.1)), boxA b1 [.int .i64 p1.Obj, .int .i64 p1.Lo, .int .i64 p1.Hi, .int .i64 p1.Off], R, H_p0 [.slice a1 n1 c1], (holeA (rRaw 4) 59 (.slice a1 n1 c1) css3 (Int.toNat y5.1)) [.slice a6 n6 c6, .slice a7 n7 c7, .map r3, .bool u3.gone]] := Sep.exI (a6, n6, c6, a7, n7, c7, r3) (Sep.pI rfl hS47)
                  have hS49 : Sep g T6 w10 [boxA b1 [.int .i64 p1.Obj, .int .i64 p1.Lo, .int .i64 p1.Hi, .int .i64 p1.Off], R, H_p0 [.slice a1 n1 c1], nestA nEStoreObject 59 (.slice a1 n1 c1) p0.list] := hS48.nunfocus0 (q := 3) ⟨rfl, rfl⟩ hx9
                  have hm := Option.some.inj hm
                  subst hm
                  exact rtn (r_blk (r_then (retN (vs := [.pointer none, .int .i64 12]) rfl ⟨rfl, rfl, trivial⟩ rfl ⟨_, rfl, _, (Im.trans im1 (Im.trans im8 (Im.trans im9 im10))), ⟨_, rfl, hS49.sel [1, 2, 3] rfl, ip_nil, trivial⟩⟩)))
                · have hm := cfalse hb33 hm
                  refine s0 rfl ⟨_, rfl, congrArg Value.bool hb33⟩ (fun _ => r_fa rfl Try.underlying24 rfl Try.sizeOf3 rfl) rfl (s1 rfl ⟨_, rfl, congrArg Value.bool hb33⟩ (r_ld rfl Try.isAgg3 (hS40.cell0 (i := 4) ⟨rfl, rfl⟩ (j := 3) rfl)) rfl (s0 rfl ⟨_, rfl, congrArg Value.bool hb33⟩ (fun _ => r_mp rfl) rfl (s0 rfl ⟨_, rfl, congrArg Value.bool hb33⟩ (fun _ => r_nc rfl) rfl (s0 rfl ⟨_, rfl, congrArg Value.bool hb33⟩ (fun _ => r_fa rfl Try.underlying59 rfl Try.sizeOf56 rfl) rfl (s0 rfl ⟨_, rfl, congrArg Value.bool hb33⟩ (fun _ => r_fa rfl Try.underlying56 rfl Try.sizeOf41 rfl) rfl (s1 rfl ⟨_, rfl, congrArg Value.bool hb33⟩ (r_ld rfl Try.isAgg41 (hS40.cellB (i := 7) ⟨rfl, rfl⟩ (lnHole (i := y5.1) hv3 he3) (j := 0) rfl)) rfl (s0 rfl ⟨_, rfl, congrArg Value.bool hb33⟩ (fun _ => r_lnV rfl (hS40.own (i := 0) ⟨rfl, rfl⟩).v Try.underlying41) rfl (s0 rfl ⟨_, rfl, congrArg Value.bool hb33⟩ (fun _ => r_mi rfl) rfl (s0 rfl ⟨_, rfl, congrArg Value.bool hb33⟩ (fun _ => r_ib rfl rfl rfl) rfl (s0 rfl ⟨_, rfl, congrArg Value.bool hb33⟩ (fun _ => r_ib rfl rfl rfl) rfl (s0 rfl trivial (fun _ => r_pkf rfl hb33 rfl) rfl (s0 rfl trivial (fun _ => r_zb rfl) rfl (se (t_thenR [(10, .pointer (some ⟨b4, of3, none⟩)), (39, .bool (decide ((IntKind.wrap .i64 ((List.length u3.bytes.data : Int) - p2)) < p1.Off)))] ⟨rfl, rfl, trivial⟩ fun J => ?_))))))))))))))
                  refine cnd rfl (fun hb34 => ?_) (fun hb34 => ?_)
                  · have hm := ctrue hb34 hm
                    refine sq2 ?_
                    refine rg (pv (r_zp rfl) (pv (r_zi rfl) (nil (t_then ?_))))
                    have hS41 := hS40.bun [0, 1, 2] [3, 4, 5, 6, 7] rfl
                    have hS42 : Sep g T6 w10 [nEStoreObject.A u3 [.slice a6 n6 c6, .slice a7 n7 c7, .map r3, .bool u3.gone], elsA nEStoreObject p0.list css3 (some (Int.toNat y5.1)), boxA b1 [.int .i64 p1.Obj, .int .i64 p1.Lo, .int .i64 p1.Hi, .int .i64 p1.Off], R, H_p0 [.slice a1 n1 c1], (holeA (rRaw 4) 59 (.slice a1 n1 c1) css3 (Int.toNat y5.1)) [.slice a6 n6 c6, .slice a7 n7 c7, .map r3, .bool u3.gone]] := Sep.exI (a6, n6, c6, a7, n7, c7, r3) (Sep.pI rfl hS41)
                    have hS43 : Sep g T6 w10 [boxA b1 [.int .i64 p1.Obj, .int .i64 p1.Lo, .int .i64 p1.Hi, .int .i64 p1.Off], R, H_p0 [.slice a1 n1 c1], nestA nEStoreObject 59 (.slice a1 n1 c1) p0.list] := hS42.nunfocus0 (q := 3) ⟨rfl, rfl⟩ hx9
                    have hm := Option.some.inj hm
                    subst hm
                    exact rtn (r_blk (r_then (retN (vs := [.pointer none, .int .i64 12]) rfl ⟨rfl, rfl, trivial⟩ rfl ⟨_, rfl, _, (Im.trans im1 (Im.trans im8 (Im.trans im9 im10))), ⟨_, rfl, hS43.sel [1, 2, 3] rfl, ip_nil, trivial⟩⟩)))
                  · have hm := cfalse hb34 hm
                    refine skp (t_blk (t_then ?_))
                    refine sq2 ?_
                    refine rg (pv (r_mp rfl) (pv (r_zp rfl) (pv (r_zi rfl) (nil (t_then ?_)))))
                    have hS44 := hS40.bun [0, 1, 2] [3, 4, 5, 6, 7] rfl
                    have hS45 : Sep g T6 w10 [nEStoreObject.A u3 [.slice a6 n6 c6, .slice a7 n7 c7, .map r3, .bool u3.gone], elsA nEStoreObject p0.list css3 (some (Int.toNat y5.1)), boxA b1 [.int .i64 p1.Obj, .int .i64 p1.Lo, .int .i64 p1.Hi, .int .i64 p1.Off], R, H_p0 [.slice a1 n1 c1], (holeA (rRaw 4) 59 (.slice a1 n1 c1) css3 (Int.toNat y5.1)) [.slice a6 n6 c6, .slice a7 n7 c7, .map r3, .bool u3.gone]] := Sep.exI (a6, n6, c6, a7, n7, c7, r3) (Sep.pI rfl hS44)
                    have hS46 : Sep g T6 w10 [boxA b1 [.int .i64 p1.Obj, .int .i64 p1.Lo, .int .i64 p1.Hi, .int .i64 p1.Off], R, H_p0 [.slice a1 n1 c1], nestA nEStoreObject 59 (.slice a1 n1 c1) p0.list] := hS45.nunfocus0 (q := 3) ⟨rfl, rfl⟩ hx9
                    have hm := Option.some.inj hm
                    subst hm
                    exact rtn (retN (vs := [.pointer (some ⟨b4, of3, none⟩), .int .i64 0]) rfl ⟨rfl, rfl, trivial⟩ rfl ⟨_, rfl, _, (Im.trans im1 (Im.trans im8 (Im.trans im9 im10))), ⟨_, rfl, hS46.sel [1, 2, 3] rfl, (ip_at hv3 hp5 he3), trivial⟩⟩)
    · have hm := cfalse hb27 hm
      refine gF (d0 := 24) rfl rfl (by rw [hb27]; rfl) (gF (d0 := 24) rfl rfl (by rw [hb27]; rfl) (gT (d0 := 22) rfl rfl rfl (pv (r_pkf rfl hb27 rfl) (pv (r_pkf rfl rfl rfl) (nil (t_thenR [(0, .pointer (some ⟨b_p0, o_p0, none⟩)), (2, .int .i64 p2), (5, .pointer (some ⟨b1, 0, none⟩)), (28, .bool false)] ⟨rfl, rfl, rfl, rfl, trivial⟩ fun J => ?_))))))
      refine cnd (b := false) rfl (fun h => nomatch h) (fun _ => ?_)
      refine skp (t_then ?_)
      refine sq2 ?_
      obtain ⟨y7, hx10, hm⟩ := bindS hm
      refine rg (pv (r_mp rfl) (pv (r_ldS rfl Try.isAgg24 Try.sizeOf24 rfl (hS1.cells0 (i := 0) ⟨rfl, rfl⟩ (o := 0) rfl) (cs := [.int .i64 p1.Obj, .int .i64 p1.Lo, .int .i64 p1.Hi, .int .i64 p1.Off])) (wl rfl (calS cf18 rfl (store_Store_fit_sim (p0 := p0) (H_p0 := H_p0) (p1 := p1) (hS1.bun [0, 1] [2, 3] rfl) hL_p0 hx10) rfl fun v7 T7 w11 im11 rv7 => ?_))))
      obtain ⟨pv4, rfl, hS50, h4, _⟩ := rv7
      have hS50 : Sep g T7 w11 [boxA b1 [.int .i64 p1.Obj, .int .i64 p1.Lo, .int .i64 p1.Hi, .int .i64 p1.Off], R, H_p0 [.slice a1 n1 c1], nestA nEStoreObject 59 (.slice a1 n1 c1) p0.list] := hS50.unb
      refine pv (r_mv rfl) (pv (r_ex (v := pv4) rfl rfl) (pv (r_ex (v := .int .i64 y7.2) rfl rfl) (pv (r_zx (v := pv4) rfl) (pv (r_zi rfl) (nil (t_thenR [(2, .int .i64 p2), (5, .pointer (some ⟨b1, 0, none⟩)), (10, pv4), (11, .int .i64 y7.2)] ⟨rfl, rfl, rfl, rfl, trivial⟩ fun J => ?_))))))
      refine sq2 ?_
      refine blk ?_
      refine sq2 ?_
      refine rg (pv (r_mi rfl) (pv (r_ib rfl rfl rfl) (pv (r_zb rfl) (nil (t_then ?_)))))
      refine cnd rfl (fun hb40 => ?_) (fun hb40 => ?_)
      · have hm := ctrue hb40 hm
        refine sq2 ?_
        refine rg (pv (r_mi rfl) (pv (r_zp rfl) (pv (r_zi rfl) (nil (t_thenR [(8, .pointer none), (9, .int .i64 y7.2)] ⟨rfl, rfl, trivial⟩ fun J => ?_)))))
        have hm := Option.some.inj hm
        subst hm
        exact rtn (r_blk (r_then (retN (vs := [.pointer none, .int .i64 y7.2]) rfl ⟨rfl, rfl, trivial⟩ rfl ⟨_, rfl, _, (Im.trans im1 im11), ⟨_, rfl, hS50.sel [1, 2, 3] rfl, ip_nil, trivial⟩⟩)))
      · have hm := cfalse hb40 hm
        refine sq2 ?_
        refine rs [0, 1, 0, 1, 0, 0, 1, 0, 2, 0, 0, 0, 0, 1, 0, 0, 0, 0, 0, 0, 0, 0, 1, 0, 0, 0, 0, 0, 1, 0, 0, 0, 0, 1, 0, 0, 0, 0, 0, 0] [0, 1, 2, 3, 4, 5, 6, 7, 8, 9, 10, 11, 12, 13, 14, 15, 16, 17, 18, 19, 20, 21, 22, 23, 24, 25, 26, 27, 28, 29, 30, 31, 32, 33, 34, 35, 36, 37, 38, 39] mix (by kernel_rfl) hS50.lt fun w12 i4 => ?_
        have im12 := i4.imm
        have hS51 := hS50.keep i4 (fun _ h => h)
        refine s0 rfl trivial (fun _ => r_fa rfl Try.underlying24 rfl Try.sizeOf3 rfl) rfl (s1 rfl trivial (r_ld rfl Try.isAgg3 (hS51.cell0 (i := 0) ⟨rfl, rfl⟩ (j := 3) rfl)) rfl (s0 rfl trivial (fun _ => r_fa rfl Try.underlying24 rfl Try.sizeOf3 rfl) rfl (s1 rfl trivial (r_ld rfl Try.isAgg3 (hS51.cell0 (i := 0) ⟨rfl, rfl⟩ (j := 1) rfl)) rfl (s0 rfl trivial (fun _ => r_ib rfl rfl rfl) rfl (s0 rfl trivial (fun _ => r_mb rfl) rfl (?_))))))
        rcases Bool.eq_false_or_eq_true (decide (p1.Off < p1.Lo)) with hb41 | hb41
        · have hm := ctrue hb41 hm
          refine sU rfl ⟨_, rfl, .inl (congrArg Value.bool hb41)⟩ (sU rfl ⟨_, rfl, .inl (congrArg Value.bool hb41)⟩ (sU rfl ⟨_, rfl, .inl (congrArg Value.bool hb41)⟩ (sU rfl ⟨_, rfl, .inl (congrArg Value.bool hb41)⟩ (s0 rfl trivial (fun _ => r_pkt rfl hb41 rfl) rfl (s0 rfl trivial (fun _ => r_mb rfl) rfl (sU rfl ⟨_, rfl, .inl (congrArg Value.bool rfl)⟩ (sU rfl ⟨_, rfl, .inl (congrArg Value.bool rfl)⟩ (sU rfl ⟨_, rfl, .inl (congrArg Value.bool rfl)⟩ (s0 rfl trivial (fun _ => r_pkt rfl rfl rfl) rfl (s0 rfl trivial (fun _ => r_mb rfl) rfl (sU rfl ⟨_, rfl, .inl (congrArg Value.bool rfl)⟩ (sU rfl ⟨_, rfl, .inl (congrArg Value.bool rfl)⟩ (sU rfl ⟨_, rfl, .inl (congrArg Value.bool rfl)⟩ (sU rfl ⟨_, rfl, .inl (congrArg Value.bool rfl)⟩ (sU rfl ⟨_, rfl, .inl (congrArg Value.bool rfl)⟩ (sU rfl ⟨_, rfl, .inl (congrArg Value.bool rfl)⟩ (sU rfl ⟨_, rfl, .inl (congrArg Value.bool rfl)⟩ (sU rfl ⟨_, rfl, .inl (congrArg Value.bool rfl)⟩ (s0 rfl trivial (fun _ => r_pkt rfl rfl rfl) rfl (s0 rfl trivial (fun _ => r_mb rfl) rfl (sU rfl ⟨_, rfl, .inl (congrArg Value.bool rfl)⟩ (sU rfl ⟨_, rfl, .inl (congrArg Value.bool rfl)⟩ (sU rfl ⟨_, rfl, .inl (congrArg Value.bool rfl)⟩ (sU rfl ⟨_, rfl, .inl (congrArg Value.bool rfl)⟩ (sU rfl ⟨_, rfl, .inl (congrArg Value.bool rfl)⟩ (sU rfl ⟨_, rfl, .inl (congrArg Value.bool rfl)⟩ (sU rfl ⟨_, rfl, .inl (congrArg Value.bool rfl)⟩ (sU rfl ⟨_, rfl, .inl (congrArg Value.bool rfl)⟩ (sU rfl ⟨_, rfl, .inl (congrArg Value.bool rfl)⟩ (sU rfl ⟨_, rfl, .inl (congrArg Value.bool rfl)⟩ (sU rfl ⟨_, rfl, .inl (congrArg Value.bool rfl)⟩ (s0 rfl trivial (fun _ => r_pkt rfl rfl rfl) rfl (s0 rfl trivial (fun _ => r_zb rfl) rfl (se (t_thenR [(10, pv4), (39, .bool true)] ⟨rfl, rfl, trivial⟩ fun J => ?_)))))))))))))))))))))))))))))))))))
          refine cnd (b := true) rfl (fun _ => ?_) (fun h => nomatch h)
          refine sq2 ?_
          refine rg (pv (r_zp rfl) (pv (r_zi rfl) (nil (t_then ?_))))
          have hm := Option.some.inj hm
          subst hm
          exact rtn (r_blk (r_then (retN (vs := [.pointer none, .int .i64 12]) rfl ⟨rfl, rfl, trivial⟩ rfl ⟨_, rfl, _, (Im.trans im1 (Im.trans im11 im12)), ⟨_, rfl, hS51.sel [1, 2, 3] rfl, ip_nil, trivial⟩⟩)))
        · have hm := cfalse hb41 hm
          obtain ⟨y8, hx11, hm⟩ := bindS hm
          refine s1 rfl ⟨_, rfl, congrArg Value.bool hb41⟩ (r_ldS rfl Try.isAgg24 Try.sizeOf24 rfl (hS51.cells0 (i := 0) ⟨rfl, rfl⟩ (o := 0) rfl) (cs := [.int .i64 p1.Obj, .int .i64 p1.Lo, .int .i64 p1.Hi, .int .i64 p1.Off])) rfl (s0 rfl ⟨_, rfl, congrArg Value.bool hb41⟩ (fun _ => r_mi rfl) rfl (s2 [] rfl ⟨_, rfl, congrArg Value.bool hb41⟩ rfl (by kernel_rfl) (calS cf22 rfl (store_within_sim (p0 := p1) (p1 := 0) (p2 := p2) (hS51.bun [0, 1, 2, 3] [] rfl)  hx11) rfl fun v8 T8 w13 im13 rv8 => ?_)))
          obtain ⟨rfl, hS52, _⟩ := rv8
          have hS52 : Sep g T8 w13 [boxA b1 [.int .i64 p1.Obj, .int .i64 p1.Lo, .int .i64 p1.Hi, .int .i64 p1.Off], R, H_p0 [.slice a1 n1 c1], nestA nEStoreObject 59 (.slice a1 n1 c1) p0.list] := hS52.unb
          refine ⟨st0, ?_⟩
          refine s0 rfl ⟨_, rfl, congrArg Value.bool hb41⟩ (fun _ => r_nt rfl) rfl (s0 rfl trivial (fun _ => r_pkf rfl hb41 rfl) rfl (s0 rfl trivial (fun _ => r_mb rfl) rfl (?_)))
          rcases Bool.eq_false_or_eq_true (!y8) with hb42 | hb42
          · have hm := ctrue hb42 hm
            refine sU rfl ⟨_, rfl, .inl (congrArg Value.bool hb42)⟩ (sU rfl ⟨_, rfl, .inl (congrArg Value.bool hb42)⟩ (sU rfl ⟨_, rfl, .inl (congrArg Value.bool hb42)⟩ (s0 rfl trivial (fun _ => r_pkt rfl hb42 rfl) rfl (s0 rfl trivial (fun _ => r_mb rfl) rfl (sU rfl ⟨_, rfl, .inl (congrArg Value.bool rfl)⟩ (sU rfl ⟨_, rfl, .inl (congrArg Value.bool rfl)⟩ (sU rfl ⟨_, rfl, .inl (congrArg Value.bool rfl)⟩ (sU rfl ⟨_, rfl, .inl (congrArg Value.bool rfl)⟩ (sU rfl ⟨_, rfl, .inl (congrArg Value.bool rfl)⟩ (sU rfl ⟨_, rfl, .inl (congrArg Value.bool rfl)⟩ (sU rfl ⟨_, rfl, .inl (congrArg Value.bool rfl)⟩ (sU rfl ⟨_, rfl, .inl (congrArg Value.bool rfl)⟩ (s0 rfl trivial (fun _ => r_pkt rfl rfl rfl) rfl (s0 rfl trivial (fun _ => r_mb rfl) rfl (sU rfl ⟨_, rfl, .inl (congrArg Value.bool rfl)⟩ (sU rfl ⟨_, rfl, .inl (congrArg Value.bool rfl)⟩ (sU rfl ⟨_, rfl, .inl (congrArg Value.bool rfl)⟩ (sU rfl ⟨_, rfl, .inl (congrArg Value.bool rfl)⟩ (sU rfl ⟨_, rfl, .inl (congrArg Value.bool rfl)⟩ (sU rfl ⟨_, rfl, .inl (congrArg Value.bool rfl)⟩ (sU rfl ⟨_, rfl, .inl (congrArg Value.bool rfl)⟩ (sU rfl ⟨_, rfl, .inl (congrArg Value.bool rfl)⟩ (sU rfl ⟨_, rfl, .inl (congrArg Value.bool rfl)⟩ (sU rfl ⟨_, rfl, .inl (congrArg Value.bool rfl)⟩ (sU rfl ⟨_, rfl, .inl (congrArg Value.bool rfl)⟩ (s0 rfl trivial (fun _ => r_pkt rfl rfl rfl) rfl (s0 rfl trivial (fun _ => r_zb rfl) rfl (se (t_thenR [(10, pv4), (39, .bool true)] ⟨rfl, rfl, trivial⟩ fun J => ?_)))))))))))))))))))))))))))))
            refine cnd (b := true) rfl (fun _ => ?_) (fun h => nomatch h)
            refine sq2 ?_
            refine rg (pv (r_zp rfl) (pv (r_zi rfl) (nil (t_then ?_))))
            have hm := Option.some.inj hm
            subst hm
            exact rtn (r_blk (r_then (retN (vs := [.pointer none, .int .i64 12]) rfl ⟨rfl, rfl, trivial⟩ rfl ⟨_, rfl, _, (Im.trans im1 (Im.trans im11 (Im.trans im12 im13))), ⟨_, rfl, hS52.sel [1, 2, 3] rfl, ip_nil, trivial⟩⟩)))
          · have hm := cfalse hb42 hm
            refine s0 rfl ⟨_, rfl, congrArg Value.bool hb42⟩ (fun _ => r_fa rfl Try.underlying24 rfl Try.sizeOf3 rfl) rfl (s1 rfl ⟨_, rfl, congrArg Value.bool hb42⟩ (r_ld rfl Try.isAgg3 (hS52.cell0 (i := 0) ⟨rfl, rfl⟩ (j := 3) rfl)) rfl (s0 rfl ⟨_, rfl, congrArg Value.bool hb42⟩ (fun _ => r_ib rfl rfl rfl) rfl (s0 rfl trivial (fun _ => r_pkf rfl hb42 rfl) rfl (s0 rfl trivial (fun _ => r_mb rfl) rfl (?_)))))
            rcases Bool.eq_false_or_eq_true (decide (p1.Off < 0)) with hb43 | hb43
            · have hm := ctrue hb43 hm
              refine sU rfl ⟨_, rfl, .inl (congrArg Value.bool hb43)⟩ (sU rfl ⟨_, rfl, .inl (congrArg Value.bool hb43)⟩ (sU rfl ⟨_, rfl, .inl (congrArg Value.bool hb43)⟩ (sU rfl ⟨_, rfl, .inl (congrArg Value.bool hb43)⟩ (sU rfl ⟨_, rfl, .inl (congrArg Value.bool hb43)⟩ (sU rfl ⟨_, rfl, .inl (congrArg Value.bool hb43)⟩ (sU rfl ⟨_, rfl, .inl (congrArg Value.bool hb43)⟩ (sU rfl ⟨_, rfl, .inl (congrArg Value.bool hb43)⟩ (s0 rfl trivial (fun _ => r_pkt rfl hb43 rfl) rfl (s0 rfl trivial (fun _ => r_mb rfl) rfl (sU rfl ⟨_, rfl, .inl (congrArg Value.bool rfl)⟩ (sU rfl ⟨_, rfl, .inl (congrArg Value.bool rfl)⟩ (sU rfl ⟨_, rfl, .inl (congrArg Value.bool rfl)⟩ (sU rfl ⟨_, rfl, .inl (congrArg Value.bool rfl)⟩ (sU rfl ⟨_, rfl, .inl (congrArg Value.bool rfl)⟩ (sU rfl ⟨_, rfl, .inl (congrArg Value.bool rfl)⟩ (sU rfl ⟨_, rfl, .inl (congrArg Value.bool rfl)⟩ (sU rfl ⟨_, rfl, .inl (congrArg Value.bool rfl)⟩ (sU rfl ⟨_, rfl, .inl (congrArg Value.bool rfl)⟩ (sU rfl ⟨_, rfl, .inl (congrArg Value.bool rfl)⟩ (sU rfl ⟨_, rfl, .inl (congrArg Value.bool rfl)⟩ (s0 rfl trivial (fun _ => r_pkt rfl rfl rfl) rfl (s0 rfl trivial (fun _ => r_zb rfl) rfl (se (t_thenR [(10, pv4), (39, .bool true)] ⟨rfl, rfl, trivial⟩ fun J => ?_))))))))))))))))))))))))
              refine cnd (b := true) rfl (fun _ => ?_) (fun h => nomatch h)
              refine sq2 ?_
              refine rg (pv (r_zp rfl) (pv (r_zi rfl) (nil (t_then ?_))))
              have hm := Option.some.inj hm
              subst hm
              exact rtn (r_blk (r_then (retN (vs := [.pointer none, .int .i64 12]) rfl ⟨rfl, rfl, trivial⟩ rfl ⟨_, rfl, _, (Im.trans im1 (Im.trans im11 (Im.trans im12 im13))), ⟨_, rfl, hS52.sel [1, 2, 3] rfl, ip_nil, trivial⟩⟩)))
            · have hm := cfalse hb43 hm
              refine s0 rfl ⟨_, rfl, congrArg Value.bool hb43⟩ (fun _ => r_mi rfl) rfl (s0 rfl ⟨_, rfl, congrArg Value.bool hb43⟩ (fun _ => r_mx (v := pv4) rfl) rfl (?_))
              obtain ⟨u4, hx12, hm⟩ := bindS hm
              obtain ⟨b5, of4, k4, cp4, hv4, hp7, hl4, he4⟩ := hS52.nhd (q := 3) ⟨rfl, rfl⟩ hx12 rfl
              obtain ⟨css4, cs4, hS53⟩ := hS52.nfocus (q := 3) ⟨rfl, rfl⟩ hx12
              obtain ⟨⟨a8, n8, c8, a9, n9, c9, r4⟩, hS54⟩ := hS53.exE
              obtain ⟨hcs4, hS55⟩ := hS54.pE
              subst hcs4
              have hS56 : Sep g T8 w13 [ownA (rInt .u8) 5 (.slice a8 n8 c8) u4.bytes.data, ownA rBool 4 (.slice a9 n9 c9) u4.bytes.set_, mapA (Value.int .i64) encStorePtr (.map r4) u4.ptrs, elsA nEStoreObject p0.list css4 (some (Int.toNat y7.1)), boxA b1 [.int .i64 p1.Obj, .int .i64 p1.Lo, .int .i64 p1.Hi, .int .i64 p1.Off], R, H_p0 [.slice a1 n1 c1], (holeA (rRaw 4) 59 (.slice a1 n1 c1) css4 (Int.toNat y7.1)) [.slice a8 n8 c8, .slice a9 n9 c9, .map r4, .bool u4.gone]] := hS55.unb
              have hp8 := IpR.at2 h4 hp7 hv4 he4
              subst hp8
              refine s0 rfl ⟨_, rfl, congrArg Value.bool hb43⟩ (fun _ => r_nc rfl) rfl (s0 rfl ⟨_, rfl, congrArg Value.bool hb43⟩ (fun _ => r_fa rfl Try.underlying59 rfl Try.sizeOf56 rfl) rfl (s0 rfl ⟨_, rfl, congrArg Value.bool hb43⟩ (fun _ => r_fa rfl Try.underlying56 rfl Try.sizeOf41 rfl) rfl (s1 rfl ⟨_, rfl, congrArg Value.bool hb43⟩ (r_ld rfl Try.isAgg41 (hS56.cellB (i := 7) ⟨rfl, rfl⟩ (lnHole (i := y7.1) hv4 he4) (j := 0) rfl)) rfl (s0 rfl ⟨_, rfl, congrArg Value.bool hb43⟩ (fun _ => r_lnV rfl (hS56.own (i := 0) ⟨rfl, rfl⟩).v Try.underlying41) rfl (s0 rfl ⟨_, rfl, congrArg Value.bool hb43⟩ (fun _ => r_ib rfl rfl rfl) rfl (s0 rfl trivial (fun _ => r_pkf rfl hb43 rfl) rfl (s0 rfl trivial (fun _ => r_mb rfl) rfl (?_))))))))
              rcases Bool.eq_false_or_eq_true (decide ((List.length u4.bytes.data : Int) < p2)) with hb44 | hb44
              · have hm := ctrue hb44 hm
                refine sU rfl ⟨_, rfl, .inl (congrArg Value.bool hb44)⟩ (sU rfl ⟨_, rfl, .inl (congrArg Value.bool hb44)⟩ (sU rfl ⟨_, rfl, .inl (congrArg Value.bool hb44)⟩ (sU rfl ⟨_, rfl, .inl (congrArg Value.bool hb44)⟩ (sU rfl ⟨_, rfl, .inl (congrArg Value.bool hb44)⟩ (sU rfl ⟨_, rfl, .inl (congrArg Value.bool hb44)⟩ (sU rfl ⟨_, rfl, .inl (congrArg Value.bool hb44)⟩ (sU rfl ⟨_, rfl, .inl (congrArg Value.bool hb44)⟩ (sU rfl ⟨_, rfl, .inl (congrArg Value.bool hb44)⟩ (sU rfl ⟨_, rfl, .inl (congrArg Value.bool hb44)⟩ (sU rfl ⟨_, rfl, .inl (congrArg Value.bool hb44)⟩ (s0 rfl trivial (fun _ => r_pkt rfl hb44 rfl) rfl (s0 rfl trivial (fun _ => r_zb rfl) rfl (se (t_thenR [(10, .pointer (some ⟨b5, of4, none⟩)), (39, .bool true)] ⟨rfl, rfl, trivial⟩ fun J => ?_))))))))))))))
                refine cnd (b := true) rfl (fun _ => ?_) (fun h => nomatch h)
                refine sq2 ?_
                refine rg (pv (r_zp rfl) (pv (r_zi rfl) (nil (t_then ?_))))
                have hS63 := hS56.bun [0, 1, 2] [3, 4, 5, 6, 7] rfl
                have hS64 : Sep g T8 w13 [nEStoreObject.A u4 [.slice a8 n8 c8, .slice a9 n9 c9, .map r4, .bool u4.gone], elsA nEStoreObject p0.list css4 (some (Int.toNat y7.1)), boxA b1 [.int .i64 p1.Obj, .int .i64 p1.Lo, .int .i64 p1.Hi, .int .i64 p1.Off], R, H_p0 [.slice a1 n1 c1], (holeA (rRaw 4) 59 (.slice a1 n1 c1) css4 (Int.toNat y7.1)) [.slice a8 n8 c8, .slice a9 n9 c9, .map r4, .bool u4.gone]] := Sep.exI (a8, n8, c8, a9, n9, c9, r4) (Sep.pI rfl hS63)
                have hS65 : Sep g T8 w13 [boxA b1 [.int .i64 p1.Obj, .int .i64 p1.Lo, .int .i64 p1.Hi, .int .i64 p1.Off], R, H_p0 [.slice a1 n1 c1], nestA nEStoreObject 59 (.slice a1 n1 c1) p0.list] := hS64.nunfocus0 (q := 3) ⟨rfl, rfl⟩ hx12
                have hm := Option.some.inj hm
                subst hm
                exact rtn (r_blk (r_then (retN (vs := [.pointer none, .int .i64 12]) rfl ⟨rfl, rfl, trivial⟩ rfl ⟨_, rfl, _, (Im.trans im1 (Im.trans im11 (Im.trans im12 im13))), ⟨_, rfl, hS65.sel [1, 2, 3] rfl, ip_nil, trivial⟩⟩)))
              · have hm := cfalse hb44 hm
                refine s0 rfl ⟨_, rfl, congrArg Value.bool hb44⟩ (fun _ => r_fa rfl Try.underlying24 rfl Try.sizeOf3 rfl) rfl (s1 rfl ⟨_, rfl, congrArg Value.bool hb44⟩ (r_ld rfl Try.isAgg3 (hS56.cell0 (i := 4) ⟨rfl, rfl⟩ (j := 3) rfl)) rfl (s0 rfl ⟨_, rfl, congrArg Value.bool hb44⟩ (fun _ => r_mp rfl) rfl (s0 rfl ⟨_, rfl, congrArg Value.bool hb44⟩ (fun _ => r_nc rfl) rfl (s0 rfl ⟨_, rfl, congrArg Value.bool hb44⟩ (fun _ => r_fa rfl Try.underlying59 rfl Try.sizeOf56 rfl) rfl (s0 rfl ⟨_, rfl, congrArg Value.bool hb44⟩ (fun _ => r_fa rfl Try.underlying56 rfl Try.sizeOf41 rfl) rfl (s1 rfl ⟨_, rfl, congrArg Value.bool hb44⟩ (r_ld rfl Try.isAgg41 (hS56.cellB (i := 7) ⟨rfl, rfl⟩ (lnHole (i := y7.1) hv4 he4) (j := 0) rfl)) rfl (s0 rfl ⟨_, rfl, congrArg Value.bool hb44⟩ (fun _ => r_lnV rfl (hS56.own (i := 0) ⟨rfl, rfl⟩).v Try.underlying41) rfl (s0 rfl ⟨_, rfl, congrArg Value.bool hb44⟩ (fun _ => r_mi rfl) rfl (s0 rfl ⟨_, rfl, congrArg Value.bool hb44⟩ (fun _ => r_ib rfl rfl rfl) rfl (s0 rfl ⟨_, rfl, congrArg Value.bool hb44⟩ (fun _ => r_ib rfl rfl rfl) rfl (s0 rfl trivial (fun _ => r_pkf rfl hb44 rfl) rfl (s0 rfl trivial (fun _ => r_zb rfl) rfl (se (t_thenR [(10, .pointer (some ⟨b5, of4, none⟩)), (39, .bool (decide ((IntKind.wrap .i64 ((List.length u4.bytes.data : Int) - p2)) < p1.Off)))] ⟨rfl, rfl, trivial⟩ fun J => ?_))))))))))))))
                refine cnd rfl (fun hb45 => ?_) (fun hb45 => ?_)
                · have hm := ctrue hb45 hm
                  refine sq2 ?_
                  refine rg (pv (r_zp rfl) (pv (r_zi rfl) (nil (t_then ?_))))
                  have hS57 := hS56.bun [0, 1, 2] [3, 4, 5, 6, 7] rfl
                  have hS58 : Sep g T8 w13 [nEStoreObject.A u4 [.slice a8 n8 c8, .slice a9 n9 c9, .map r4, .bool u4.gone], elsA nEStoreObject p0.list css4 (some (Int.toNat y7.1)), boxA b1 [.int .i64 p1.Obj, .int .i64 p1.Lo, .int .i64 p1.Hi, .int .i64 p1.Off], R, H_p0 [.slice a1 n1 c1], (holeA (rRaw 4) 59 (.slice a1 n1 c1) css4 (Int.toNat y7.1)) [.slice a8 n8 c8, .slice a9 n9 c9, .map r4, .bool u4.gone]] := Sep.exI (a8, n8, c8, a9, n9, c9, r4) (Sep.pI rfl hS57)
                  have hS59 : Sep g T8 w13 [boxA b1 [.int .i64 p1.Obj, .int .i64 p1.Lo, .int .i64 p1.Hi, .int .i64 p1.Off], R, H_p0 [.slice a1 n1 c1], nestA nEStoreObject 59 (.slice a1 n1 c1) p0.list] := hS58.nunfocus0 (q := 3) ⟨rfl, rfl⟩ hx12
                  have hm := Option.some.inj hm
                  subst hm
                  exact rtn (r_blk (r_then (retN (vs := [.pointer none, .int .i64 12]) rfl ⟨rfl, rfl, trivial⟩ rfl ⟨_, rfl, _, (Im.trans im1 (Im.trans im11 (Im.trans im12 im13))), ⟨_, rfl, hS59.sel [1, 2, 3] rfl, ip_nil, trivial⟩⟩)))
                · have hm := cfalse hb45 hm
                  refine skp (t_blk (t_then ?_))
                  refine sq2 ?_
                  refine rg (pv (r_mp rfl) (pv (r_zp rfl) (pv (r_zi rfl) (nil (t_then ?_)))))
                  have hS60 := hS56.bun [0, 1, 2] [3, 4, 5, 6, 7] rfl
                  have hS61 : Sep g T8 w13 [nEStoreObject.A u4 [.slice a8 n8 c8, .slice a9 n9 c9, .map r4, .bool u4.gone], elsA nEStoreObject p0.list css4 (some (Int.toNat y7.1)), boxA b1 [.int .i64 p1.Obj, .int .i64 p1.Lo, .int .i64 p1.Hi, .int .i64 p1.Off], R, H_p0 [.slice a1 n1 c1], (holeA (rRaw 4) 59 (.slice a1 n1 c1) css4 (Int.toNat y7.1)) [.slice a8 n8 c8, .slice a9 n9 c9, .map r4, .bool u4.gone]] := Sep.exI (a8, n8, c8, a9, n9, c9, r4) (Sep.pI rfl hS60)
                  have hS62 : Sep g T8 w13 [boxA b1 [.int .i64 p1.Obj, .int .i64 p1.Lo, .int .i64 p1.Hi, .int .i64 p1.Off], R, H_p0 [.slice a1 n1 c1], nestA nEStoreObject 59 (.slice a1 n1 c1) p0.list] := hS61.nunfocus0 (q := 3) ⟨rfl, rfl⟩ hx12
                  have hm := Option.some.inj hm
                  subst hm
                  exact rtn (retN (vs := [.pointer (some ⟨b5, of4, none⟩), .int .i64 0]) rfl ⟨rfl, rfl, trivial⟩ rfl ⟨_, rfl, _, (Im.trans im1 (Im.trans im11 (Im.trans im12 im13))), ⟨_, rfl, hS62.sel [1, 2, 3] rfl, (ip_at hv4 hp7 he4), trivial⟩⟩)

set_option maxRecDepth 100000 in
set_option maxHeartbeats 1000000 in
theorem store_object_forget_sim {g : World} {T0 : Nat → Prop} {w0 : World} {R : Assn} {p0 : StoreObject} {b_p0 o_p0 : Nat} {H_p0 : List Value → Assn} {a1 : Option Addr} {n1 : Nat} {c1 : Nat} {a2 : Option Addr} {n2 : Nat} {c2 : Nat} {r1 : Option Nat} {p1 : Int} {p2 : Int} {r : StoreObject} (hS : Sep g T0 w0 [R, H_p0 [.slice a1 n1 c1, .slice a2 n2 c2, .map r1, .bool p0.gone], ownA (rInt .u8) 5 (.slice a1 n1 c1) p0.bytes.data, ownA rBool 4 (.slice a2 n2 c2) p0.bytes.set_, mapA (Value.int .i64) encStorePtr (.map r1) p0.ptrs]) (hL_p0 : Ln b_p0 o_p0 H_p0) (hm : store_object_forget p0 p1 p2 = some r) :
    Calls Try.prog 20 #[.pointer (some ⟨b_p0, o_p0, none⟩), .int .i64 p1, .int .i64 p2] w0 (RetS T0 w0 fun T w v => ∃ (a3 : Option Addr) (n3 : Nat) (c3 : Nat) (a4 : Option Addr) (n4 : Nat) (c4 : Nat) (r3 : Option Nat), v = .tuple #[] ∧ Sep g T w [R, H_p0 [.slice a3 n3 c3, .slice a4 n4 c4, .map r3, .bool r.gone], ownA (rInt .u8) 5 (.slice a3 n3 c3) r.bytes.data, ownA rBool 4 (.slice a4 n4 c4) r.bytes.set_, mapA (Value.int .i64) encStorePtr (.map r3) r.ptrs] ∧ True) := by
  refine enter (args := [.pointer (some ⟨b_p0, o_p0, none⟩), .int .i64 p1, .int .i64 p2]) Try.func20 rfl Try.ntmps20 rfl fun J => ?_
  unfold store_object_forget at hm
  refine sq2 ?_
  refine rg (pv (r_mi rfl) (pv (r_ib rfl rfl rfl) (pv (r_ib rfl rfl rfl) (pv (r_zi rfl) (nil (t_then ?_))))))
  obtain ⟨o1, ho1, hq1⟩ := bindS hm
  obtain ⟨bd1, hbd1, ho1⟩ := loop_open ho1
  refine blk (wp_loop_ghost (fun m a w1 => ∃ (J : Nat → Value) (T1 : Nat → Prop) (x1 : Option (List (Int × StorePtr))) (r2 : Option Nat) (x2 : Int), a = env (nf 30) J [(0, .pointer (some ⟨b_p0, o_p0, none⟩)), (1, .int .i64 p1), (2, .int .i64 p2), (6, .int .i64 x2)] ∧ Im T0 w0 T1 w1 ∧ Sep g T1 w1 [R, H_p0 [.slice a1 n1 c1, .slice a2 n2 c2, .map r2, .bool p0.gone], ownA (rInt .u8) 5 (.slice a1 n1 c1) p0.bytes.data, ownA rBool 4 (.slice a2 n2 c2) p0.bytes.set_, mapA (Value.int .i64) encStorePtr (.map r2) x1] ∧ loopM bd1 m (x1, x2) = some o1) NN ⟨_, _, p0.ptrs, _, (IntKind.wrap .i64 ((IntKind.wrap .i64 (p1 - 4)) + 1)), env_has ⟨rfl, rfl, rfl, rfl, trivial⟩, Im.refl, hS.sel [0, 1, 2, 3, 4] rfl, ho1⟩ ?_)
  rintro m _ w1 ⟨J, T1, x1, r2, x2, rfl, im1, hS1, ho1⟩
  obtain ⟨m1, z1, rfl, hm, hn1⟩ := loop_round ho1
  rw [hbd1] at hm
  refine sq2 ?_
  refine sq2 ?_
  refine rg (pv (r_mi rfl) (pv (r_mi rfl) (pv (r_mi rfl) (pv (r_ib rfl rfl rfl) (pv (r_ib rfl rfl rfl) (pv (r_mb rfl) (?_)))))))
  rcases Bool.eq_false_or_eq_true (decide (x2 < (IntKind.wrap .i64 (p1 + p2)))) with hb1 | hb1
  · have hm := ctrue hb1 hm
    refine gT (d0 := 15) rfl rfl hb1 (pv (r_mp rfl) (gT (d0 := 15) rfl rfl hb1 (pv (r_nc rfl) (gT (d0 := 15) rfl rfl hb1 (pv (r_fa rfl Try.underlying59 rfl Try.sizeOf57 rfl) (gT (d0 := 15) rfl rfl hb1 (pv (r_ld rfl Try.isAgg57 (hS1.cellB (i := 1) ⟨rfl, rfl⟩ hL_p0 (j := 2) rfl)) (gT (d0 := 15) rfl rfl hb1 (pv (r_lnM rfl (hS1.getA (i := 4) ⟨rfl, rfl⟩) Try.underlying57) (gT (d0 := 15) rfl rfl hb1 (pv (r_ib rfl rfl rfl) (pv (r_pkt rfl hb1 rfl) (nil (t_thenR [(0, .pointer (some ⟨b_p0, o_p0, none⟩)), (1, .int .i64 p1), (2, .int .i64 p2), (6, .int .i64 x2), (22, .bool (decide (0 < (mLenO x1 : Int))))] ⟨rfl, rfl, rfl, rfl, rfl, trivial⟩ fun J => ?_))))))))))))))
    refine cnd rfl (fun hb2 => ?_) (fun hb2 => ?_)
    · have hm := ctrue hb2 hm
      refine skp (t_then ?_)
      refine sq2 ?_
      refine blk ?_
      refine rg (pv (r_mp rfl) (pv (r_nc rfl) (pv (r_fa rfl Try.underlying59 rfl Try.sizeOf57 rfl) (pv (r_ld rfl Try.isAgg57 (hS1.cellB (i := 1) ⟨rfl, rfl⟩ hL_p0 (j := 2) rfl)) (pv (r_mi rfl) (wl rfl (mdN (q := 4) (k := x2) hS1 ⟨rfl, rfl⟩ rfl rfl (key_int .i64) Try.underlying57 Try.underlying3 fun w2 im2 hS2 => ?_)))))))
      have hS2 : Sep g T1 w2 [R, H_p0 [.slice a1 n1 c1, .slice a2 n2 c2, .map r2, .bool p0.gone], ownA (rInt .u8) 5 (.slice a1 n1 c1) p0.bytes.data, ownA rBool 4 (.slice a2 n2 c2) p0.bytes.set_, mapA (Value.int .i64) encStorePtr (.map r2) (Option.map (fun z => mDel z x2) x1)] := hS2
      refine nil (t_blk (t_thenR [(0, .pointer (some ⟨b_p0, o_p0, none⟩)), (1, .int .i64 p1), (2, .int .i64 p2), (6, .int .i64 x2)] ⟨rfl, rfl, rfl, rfl, trivial⟩ fun J => ?_))
      have hm := Option.some.inj hm
      subst hm
      exact rg (pv (r_mi rfl) (pv (r_ib rfl rfl rfl) (pv (r_zi rfl) (nil (t_then ⟨m1, Nat.lt_succ_self _, _, _, (Option.map (fun z => mDel z x2) x1), _, (IntKind.wrap .i64 (x2 + 1)), env_has ⟨rfl, rfl, rfl, rfl, trivial⟩, (Im.trans im1 im2), hS2.sel [0, 1, 2, 3, 4] rfl, hn1⟩)))))
    · have hm := cfalse hb2 hm
      have hm := Option.some.inj hm
      subst hm
      have hn1 : _ = Lp.brk _ := hn1
      subst hn1
      have hm := thn_brk hq1
      have hm := Option.some.inj hm
      subst hm
      exact xt (x_then (x_then (x_eq (end0 rfl ⟨_, rfl, _, im1, ⟨_, _, _, _, _, _, _, rfl, hS1.sel [0, 1, 2, 3, 4] rfl, trivial⟩⟩))))
  · have hm := cfalse hb1 hm
    refine gF (d0 := 15) rfl rfl (by rw [hb1]; rfl) (gF (d0 := 15) rfl rfl (by rw [hb1]; rfl) (gF (d0 := 15) rfl rfl (by rw [hb1]; rfl) (gF (d0 := 15) rfl rfl (by rw [hb1]; rfl) (gF (d0 := 15) rfl rfl (by rw [hb1]; rfl) (gF (d0 := 15) rfl rfl (by rw [hb1]; rfl) (pv (r_pkf rfl hb1 rfl) (nil (t_thenR [(0, .pointer (some ⟨b_p0, o_p0, none⟩)), (1, .int .i64 p1), (2, .int .i64 p2), (6, .int .i64 x2), (22, .bool false)] ⟨rfl, rfl, rfl, rfl, rfl, trivial⟩ fun J => ?_))))))))
    refine cnd (b := false) rfl (fun h => nomatch h) (fun _ => ?_)
    have hm := Option.some.inj hm
    subst hm
    have hn1 : _ = Lp.brk _ := hn1
    subst hn1
    have hm := thn_brk hq1
    have hm := Option.some.inj hm
    subst hm
    exact xt (x_then (x_then (x_eq (end0 rfl ⟨_, rfl, _, im1, ⟨_, _, _, _, _, _, _, rfl, hS1.sel [0, 1, 2, 3, 4] rfl, trivial⟩⟩))))

set_option maxRecDepth 100000 in
set_option maxHeartbeats 1000000 in
theorem store_Store_Put_sim {g : World} {T0 : Nat → Prop} {w0 : World} {R : Assn} {p0 : StoreStore} {b_p0 o_p0 : Nat} {H_p0 : List Value → Assn} {a1 : Option Addr} {n1 : Nat} {c1 : Nat} {p1 : StorePtr} {p2 : Int} {p3 : StoreValue} {r : Int × StoreStore} (hS : Sep g T0 w0 [R, H_p0 [.slice a1 n1 c1], nestA nEStoreObject 59 (.slice a1 n1 c1) p0.list]) (hL_p0 : Ln b_p0 o_p0 H_p0) (hm : store_Store_Put p0 p1 p2 p3 = some r) :
    Calls Try.prog 10 #[.pointer (some ⟨b_p0, o_p0, none⟩), .agg #[.int .i64 p1.Obj, .int .i64 p1.Lo, .int .i64 p1.Hi, .int .i64 p1.Off], .int .i64 p2, .agg #[.int .u32 p3.Num, .int .i64 p3.Ptr.Obj, .int .i64 p3.Ptr.Lo, .int .i64 p3.Ptr.Hi, .int .i64 p3.Ptr.Off, .bool p3.Is]] w0 (RetS T0 w0 fun T w v => ∃ (a12 : Option Addr) (n12 : Nat) (c12 : Nat), v = .int .i64 r.1 ∧ Sep g T w [R, H_p0 [.slice a12 n12 c12], nestA nEStoreObject 59 (.slice a12 n12 c12) r.2.list] ∧ True) := by
  refine enter (args := [.pointer (some ⟨b_p0, o_p0, none⟩), .agg #[.int .i64 p1.Obj, .int .i64 p1.Lo, .int .i64 p1.Hi, .int .i64 p1.Off], .int .i64 p2, .agg #[.int .u32 p3.Num, .int .i64 p3.Ptr.Obj, .int .i64 p3.Ptr.Lo, .int .i64 p3.Ptr.Hi, .int .i64 p3.Ptr.Off, .bool p3.Is]]) Try.func10 rfl Try.ntmps10 rfl fun J => ?_
  unfold store_Store_Put at hm
  refine sq2 ?_
  refine rg (wl rfl (bxS (cs := [.int .i64 p1.Obj, .int .i64 p1.Lo, .int .i64 p1.Hi, .int .i64 p1.Off]) rfl rfl hS fun w1 b1 im1 hS1 => ?_))
  refine wl rfl (bxS (cs := [.int .u32 p3.Num, .int .i64 p3.Ptr.Obj, .int .i64 p3.Ptr.Lo, .int .i64 p3.Ptr.Hi, .int .i64 p3.Ptr.Off, .bool p3.Is]) rfl rfl hS1 fun w2 b2 im2 hS2 => ?_)
  refine pv (r_zi rfl) (nil (t_then ?_))
  refine sq2 ?_
  obtain ⟨y1, hx1, hm⟩ := bindS hm
  refine rg (pv (r_mp rfl) (pv (r_ldS rfl Try.isAgg24 Try.sizeOf24 rfl (hS2.cells0 (i := 1) ⟨rfl, rfl⟩ (o := 0) rfl) (cs := [.int .i64 p1.Obj, .int .i64 p1.Lo, .int .i64 p1.Hi, .int .i64 p1.Off])) (pv (r_mi rfl) (pv (r_fa rfl Try.underlying26 rfl Try.sizeOf4 rfl) (pv (r_ld rfl Try.isAgg4 (hS2.cell0 (i := 0) ⟨rfl, rfl⟩ (j := 5) rfl)) (wl rfl (calS cf19 rfl (store_Store_place_sim (p0 := p0) (H_p0 := H_p0) (p1 := p1) (p2 := p2) (p3 := p3.Is) (hS2.bun [0, 1, 2] [3, 4] rfl) hL_p0 hx1) rfl fun v1 T1 w3 im3 rv1 => ?_)))))))
  obtain ⟨pv1, rfl, hS3, h1, _⟩ := rv1
  have hS3 : Sep g T1 w3 [boxA b2 [.int .u32 p3.Num, .int .i64 p3.Ptr.Obj, .int .i64 p3.Ptr.Lo, .int .i64 p3.Ptr.Hi, .int .i64 p3.Ptr.Off, .bool p3.Is], boxA b1 [.int .i64 p1.Obj, .int .i64 p1.Lo, .int .i64 p1.Hi, .int .i64 p1.Off], R, H_p0 [.slice a1 n1 c1], nestA nEStoreObject 59 (.slice a1 n1 c1) p0.list] := hS3.unb
  refine pv (r_mv rfl) (pv (r_ex (v := pv1) rfl rfl) (pv (r_ex (v := .int .i64 y1.2) rfl rfl) (pv (r_zx (v := pv1) rfl) (pv (r_zi rfl) (nil (t_thenR [(2, .int .i64 p2), (5, .pointer (some ⟨b1, 0, none⟩)), (7, .pointer (some ⟨b2, 0, none⟩)), (9, pv1), (10, .int .i64 y1.2)] ⟨rfl, rfl, rfl, rfl, rfl, trivial⟩ fun J => ?_))))))
  refine sq2 ?_
  refine sq2 ?_
  refine rg (pv (r_mi rfl) (pv (r_ib rfl rfl rfl) (nil (t_then ?_))))
  refine cnd rfl (fun hb1 => ?_) (fun hb1 => ?_)
  · have hm := ctrue hb1 hm
    refine sq2 ?_
    refine rg (pv (r_mi rfl) (pv (r_zi rfl) (nil (t_thenR [(8, .int .i64 y1.2)] ⟨rfl, trivial⟩ fun J => ?_))))
    have hm := Option.some.inj hm
    subst hm
    exact rtn (r_then (ret1 rfl rfl ⟨_, rfl, _, (Im.trans im1 (Im.trans im2 im3)), ⟨_, _, _, rfl, hS3.sel [2, 3, 4] rfl, trivial⟩⟩))
  · have hm := cfalse hb1 hm
    refine skp (t_then ?_)
    refine sq2 ?_
    refine rg (pv (r_fa rfl Try.underlying26 rfl Try.sizeOf22 rfl) (pv (r_ld rfl Try.isAgg22 (hS3.cell0 (i := 0) ⟨rfl, rfl⟩ (j := 0) rfl)) (pv (r_zi rfl) (nil (t_thenR [(2, .int .i64 p2), (5, .pointer (some ⟨b1, 0, none⟩)), (7, .pointer (some ⟨b2, 0, none⟩)), (9, pv1), (11, .int .u32 p3.Num)] ⟨rfl, rfl, rfl, rfl, rfl, trivial⟩ fun J => ?_)))))
    refine sq2 ?_
    refine rg (pv (r_mx (v := pv1) rfl) (pv (r_fa rfl Try.underlying24 rfl Try.sizeOf3 rfl) (pv (r_ld rfl Try.isAgg3 (hS3.cell0 (i := 1) ⟨rfl, rfl⟩ (j := 3) rfl)) (pv (r_mi rfl) (?_)))))
    obtain ⟨u1, hx2, hm⟩ := bindS hm
    obtain ⟨b3, of1, k1, cp1, hv1, hp1, hl1, he1⟩ := hS3.nhd (q := 4) ⟨rfl, rfl⟩ hx2 rfl
    obtain ⟨css1, cs1, hS4⟩ := hS3.nfocus (q := 4) ⟨rfl, rfl⟩ hx2
    obtain ⟨⟨a2, n2, c2, a3, n3, c3, r1⟩, hS5⟩ := hS4.exE
    obtain ⟨hcs1, hS6⟩ := hS5.pE
    subst hcs1
    have hS7 : Sep g T1 w3 [ownA (rInt .u8) 5 (.slice a2 n2 c2) u1.bytes.data, ownA rBool 4 (.slice a3 n3 c3) u1.bytes.set_, mapA (Value.int .i64) encStorePtr (.map r1) u1.ptrs, elsA nEStoreObject p0.list css1 (some (Int.toNat y1.1)), boxA b2 [.int .u32 p3.Num, .int .i64 p3.Ptr.Obj, .int .i64 p3.Ptr.Lo, .int .i64 p3.Ptr.Hi, .int .i64 p3.Ptr.Off, .bool p3.Is], boxA b1 [.int .i64 p1.Obj, .int .i64 p1.Lo, .int .i64 p1.Hi, .int .i64 p1.Off], R, H_p0 [.slice a1 n1 c1], (holeA (rRaw 4) 59 (.slice a1 n1 c1) css1 (Int.toNat y1.1)) [.slice a2 n2 c2, .slice a3 n3 c3, .map r1, .bool u1.gone]] := hS6.unb
    have hp2 := IpR.at2 h1 hp1 hv1 he1
    subst hp2
    obtain ⟨y2, hx3, hm⟩ := bindS hm
    refine wl rfl (calS cf20 rfl (store_object_forget_sim (p0 := u1) (H_p0 := holeA (rRaw 4) 59 (.slice a1 n1 c1) css1 (Int.toNat y1.1)) (p1 := p1.Off) (p2 := p2) (hS7.bun [3, 4, 5, 6, 7] [8, 0, 1, 2] rfl) (lnHole (i := y1.1) hv1 he1) hx3) rfl fun v2 T2 w4 im4 rv2 => ?_)
    obtain ⟨a4, n4, c4, a5, n5, c5, r2, rfl, hS8, _⟩ := rv2
    have hS8 : Sep g T2 w4 [elsA nEStoreObject p0.list css1 (some (Int.toNat y1.1)), boxA b2 [.int .u32 p3.Num, .int .i64 p3.Ptr.Obj, .int .i64 p3.Ptr.Lo, .int .i64 p3.Ptr.Hi, .int .i64 p3.Ptr.Off, .bool p3.Is], boxA b1 [.int .i64 p1.Obj, .int .i64 p1.Lo, .int .i64 p1.Hi, .int .i64 p1.Off], R, H_p0 [.slice a1 n1 c1], (holeA (rRaw 4) 59 (.slice a1 n1 c1) css1 (Int.toNat y1.1)) [.slice a4 n4 c4, .slice a5 n5 c5, .map r2, .bool y2.gone], ownA (rInt .u8) 5 (.slice a4 n4 c4) y2.bytes.data, ownA rBool 4 (.slice a5 n5 c5) y2.bytes.set_, mapA (Value.int .i64) encStorePtr (.map r2) y2.ptrs] := hS8.unb
    refine nil (t_thenR [(2, .int .i64 p2), (5, .pointer (some ⟨b1, 0, none⟩)), (7, .pointer (some ⟨b2, 0, none⟩)), (9, .pointer (some ⟨b3, of1, none⟩)), (11, .int .u32 p3.Num)] ⟨rfl, rfl, rfl, rfl, rfl, trivial⟩ fun J => ?_)
    obtain ⟨kk1, hkk1, hm⟩ := jn_open hm
    refine cut (fun a w5 => ∃ (J : Nat → Value) (T3 : Nat → Prop) (x5 : StoreObject) (a6 : Option Addr) (n6 : Nat) (c6 : Nat) (a7 : Option Addr) (n7 : Nat) (c7 : Nat) (r3 : Option Nat) (x4 : Int), a = env (nf 81) J [(2, .int .i64 p2), (5, .pointer (some ⟨b1, 0, none⟩)), (9, .pointer (some ⟨b3, of1, none⟩)), (11, .int .u32 x4)] ∧ Im T2 w4 T3 w5 ∧ Sep g T3 w5 [elsA nEStoreObject p0.list css1 (some (Int.toNat y1.1)), boxA b1 [.int .i64 p1.Obj, .int .i64 p1.Lo, .int .i64 p1.Hi, .int .i64 p1.Off], R, H_p0 [.slice a1 n1 c1], (holeA (rRaw 4) 59 (.slice a1 n1 c1) css1 (Int.toNat y1.1)) [.slice a6 n6 c6, .slice a7 n7 c7, .map r3, .bool x5.gone], ownA (rInt .u8) 5 (.slice a6 n6 c6) x5.bytes.data, ownA rBool 4 (.slice a7 n7 c7) x5.bytes.set_, mapA (Value.int .i64) encStorePtr (.map r3) x5.ptrs] ∧ kk1 x4 x5 = some r) ?_ ?_
    · refine sq2 ?_
      refine rg (pv (r_fa rfl Try.underlying26 rfl Try.sizeOf4 rfl) (pv (r_ld rfl Try.isAgg4 (hS8.cell0 (i := 1) ⟨rfl, rfl⟩ (j := 5) rfl)) (nil (t_then ?_))))
      refine cnd rfl (fun hb2 => ?_) (fun hb2 => ?_)
      · have hm := ctrue hb2 hm
        refine sq2 ?_
        refine rg (pv (r_zi rfl) (nil (t_then ?_)))
        obtain ⟨kk2, hkk2, hm⟩ := jn_open hm
        refine cut (fun a w6 => ∃ (J : Nat → Value) (T4 : Nat → Prop) (x9 : StoreObject) (a8 : Option Addr) (n8 : Nat) (c8 : Nat) (a9 : Option Addr) (n9 : Nat) (c9 : Nat) (r4 : Option Nat), a = env (nf 81) J [(2, .int .i64 p2), (5, .pointer (some ⟨b1, 0, none⟩)), (7, .pointer (some ⟨b2, 0, none⟩)), (9, .pointer (some ⟨b3, of1, none⟩)), (11, .int .u32 0)] ∧ Im T2 w4 T4 w6 ∧ Sep g T4 w6 [elsA nEStoreObject p0.list css1 (some (Int.toNat y1.1)), boxA b2 [.int .u32 p3.Num, .int .i64 p3.Ptr.Obj, .int .i64 p3.Ptr.Lo, .int .i64 p3.Ptr.Hi, .int .i64 p3.Ptr.Off, .bool p3.Is], boxA b1 [.int .i64 p1.Obj, .int .i64 p1.Lo, .int .i64 p1.Hi, .int .i64 p1.Off], R, H_p0 [.slice a1 n1 c1], (holeA (rRaw 4) 59 (.slice a1 n1 c1) css1 (Int.toNat y1.1)) [.slice a8 n8 c8, .slice a9 n9 c9, .map r4, .bool x9.gone], ownA (rInt .u8) 5 (.slice a8 n8 c8) x9.bytes.data, ownA rBool 4 (.slice a9 n9 c9) x9.bytes.set_, mapA (Value.int .i64) encStorePtr (.map r4) x9.ptrs] ∧ kk2 x9 = some r) ?_ ?_
        · refine sq2 ?_
          refine rg (pv (r_mp rfl) (pv (r_nc rfl) (pv (r_fa rfl Try.underlying59 rfl Try.sizeOf57 rfl) (pv (r_ld rfl Try.isAgg57 (hS8.cellB (i := 5) ⟨rfl, rfl⟩ (lnHole (i := y1.1) hv1 he1) (j := 2) rfl)) (pv (r_mne rfl rfl (hS8.getA (i := 8) ⟨rfl, rfl⟩) Try.underlying57) (nil (t_thenR [(2, .int .i64 p2), (5, .pointer (some ⟨b1, 0, none⟩)), (7, .pointer (some ⟨b2, 0, none⟩)), (9, .pointer (some ⟨b3, of1, none⟩)), (11, .int .u32 0), (38, .bool (Option.isNone y2.ptrs))] ⟨rfl, rfl, rfl, rfl, rfl, rfl, trivial⟩ fun J => ?_)))))))
          refine cnd rfl (fun hb3 => ?_) (fun hb3 => ?_)
          · have hm := ctrue hb3 hm
            refine rg (pv (r_mp rfl) (wl rfl (mkM (Value.int .i64) encStorePtr hS8 fun w7 r5 im7 hS9 => ?_)))
            refine pv (r_nc rfl) (pv (r_fa rfl Try.underlying59 rfl Try.sizeOf57 rfl) (wl rfl (stB (q := 6) (j := 2) hS9 ⟨rfl, rfl⟩ (lnHole (i := y1.1) hv1 he1) rfl rfl rfl Try.sizeOf57 rfl rfl rfl fun w8 im8 hS10 => ?_)))
            have hS10 : Sep g T2 w8 [mapA (Value.int .i64) encStorePtr (.map r5) (some []), elsA nEStoreObject p0.list css1 (some (Int.toNat y1.1)), boxA b2 [.int .u32 p3.Num, .int .i64 p3.Ptr.Obj, .int .i64 p3.Ptr.Lo, .int .i64 p3.Ptr.Hi, .int .i64 p3.Ptr.Off, .bool p3.Is], boxA b1 [.int .i64 p1.Obj, .int .i64 p1.Lo, .int .i64 p1.Hi, .int .i64 p1.Off], R, H_p0 [.slice a1 n1 c1], (holeA (rRaw 4) 59 (.slice a1 n1 c1) css1 (Int.toNat y1.1)) [.slice a4 n4 c4, .slice a5 n5 c5, .map r5, .bool y2.gone], ownA (rInt .u8) 5 (.slice a4 n4 c4) y2.bytes.data, ownA rBool 4 (.slice a5 n5 c5) y2.bytes.set_, mapA (Value.int .i64) encStorePtr (.map r2) y2.ptrs] := hS10
            exact nil (t_then ⟨_, _, ({ y2 with ptrs := (some []) }), _, _, _, _, _, _, _, env_has ⟨rfl, rfl, rfl, rfl, rfl, trivial⟩, (Im.trans im7 im8), hS10.sel [1, 2, 3, 4, 5, 6, 7, 8, 0] rfl, hm⟩)
          · have hm := cfalse hb3 hm
            exact skp (t_then ⟨_, _, y2, _, _, _, _, _, _, _, env_has ⟨rfl, rfl, rfl, rfl, rfl, trivial⟩, Im.refl, hS8.sel [0, 1, 2, 3, 4, 5, 6, 7, 8] rfl, hm⟩)
        · rintro _ w6 ⟨J, T4, x9, a8, n8, c8, a9, n9, c9, r4, rfl, im6, hS11, hm⟩
          rw [hkk2] at hm
          refine rs [0, 0, 0, 1, 0, 1, 0, 1, 2] [0, 1, 2, 3, 4, 5, 6, 7, 8] mix (by kernel_rfl) hS11.lt fun w9 i1 => ?_
          have im9 := i1.imm
          have hS12 := hS11.keep i1 (fun _ h => h)
          obtain ⟨u2, hx4, hm⟩ := bindS hm
          refine s0 rfl trivial (fun _ => r_mp rfl) rfl (s0 rfl trivial (fun _ => r_nc rfl) rfl (s0 rfl trivial (fun _ => r_fa rfl Try.underlying59 rfl Try.sizeOf57 rfl) rfl (s1 rfl trivial (r_ld rfl Try.isAgg57 (hS12.cellB (i := 5) ⟨rfl, rfl⟩ (lnHole (i := y1.1) hv1 he1) (j := 2) rfl)) rfl (s0 rfl trivial (fun _ => r_fa rfl Try.underlying24 rfl Try.sizeOf3 rfl) rfl (s1 rfl trivial (r_ld rfl Try.isAgg3 (hS12.cell0 (i := 2) ⟨rfl, rfl⟩ (j := 3) rfl)) rfl (s0 rfl trivial (fun _ => r_fa rfl Try.underlying26 rfl Try.sizeOf24 rfl) rfl (s1 rfl trivial (r_ldS rfl Try.isAgg24 Try.sizeOf24 rfl (hS12.cells0 (i := 1) ⟨rfl, rfl⟩ (o := 1) rfl) (cs := [.int .i64 p3.Ptr.Obj, .int .i64 p3.Ptr.Lo, .int .i64 p3.Ptr.Hi, .int .i64 p3.Ptr.Off])) rfl (s2 [] rfl trivial rfl (by kernel_rfl) (muM (q := 8) (k := p1.Off) (u := p3.Ptr) hS12 ⟨rfl, rfl⟩ hx4 rfl rfl rfl (key_int .i64) Try.underlying57 Try.underlying3 fun w10 im10 hS13 => ?_)))))))))
          have hS13 : Sep g T4 w10 [elsA nEStoreObject p0.list css1 (some (Int.toNat y1.1)), boxA b2 [.int .u32 p3.Num, .int .i64 p3.Ptr.Obj, .int .i64 p3.Ptr.Lo, .int .i64 p3.Ptr.Hi, .int .i64 p3.Ptr.Off, .bool p3.Is], boxA b1 [.int .i64 p1.Obj, .int .i64 p1.Lo, .int .i64 p1.Hi, .int .i64 p1.Off], R, H_p0 [.slice a1 n1 c1], (holeA (rRaw 4) 59 (.slice a1 n1 c1) css1 (Int.toNat y1.1)) [.slice a8 n8 c8, .slice a9 n9 c9, .map r4, .bool x9.gone], ownA (rInt .u8) 5 (.slice a8 n8 c8) x9.bytes.data, ownA rBool 4 (.slice a9 n9 c9) x9.bytes.set_, mapA (Value.int .i64) encStorePtr (.map r4) (some (mSet u2 p1.Off p3.Ptr))] := hS13
          refine ⟨st0, ?_⟩
          exact se (t_then ⟨_, _, ({ x9 with ptrs := (some (mSet u2 p1.Off p3.Ptr)) }), _, _, _, _, _, _, _, 0, env_has ⟨rfl, rfl, rfl, rfl, trivial⟩, (Im.trans im6 (Im.trans im9 im10)), hS13.sel [0, 2, 3, 4, 5, 6, 7, 8] rfl, hm⟩)
      · have hm := cfalse hb2 hm
        exact skp (t_then ⟨_, _, y2, _, _, _, _, _, _, _, p3.Num, env_has ⟨rfl, rfl, rfl, rfl, trivial⟩, Im.refl, hS8.sel [0, 2, 3, 4, 5, 6, 7, 8] rfl, hm⟩)
    · rintro _ w5 ⟨J, T3, x5, a6, n6, c6, a7, n7, c7, r3, x4, rfl, im5, hS14, hm⟩
      rw [hkk1] at hm
      refine sq2 ?_
      refine sq2 ?_
      refine rg (pv (r_mi rfl) (pv (r_mi rfl) (nil (t_then ?_))))
      obtain ⟨o1, ho1, hq1⟩ := bindS hm
      obtain ⟨bd1, hbd1, ho1⟩ := loop_open ho1
      refine blk (wp_loop_ghost (fun m a w11 => ∃ (J : Nat → Value) (T5 : Nat → Prop) (x10 : List Int) (a10 : Option Addr) (n10 : Nat) (c10 : Nat) (x11 : List Bool) (a11 : Option Addr) (n11 : Nat) (c11 : Nat) (x12 : Int), a = env (nf 81) J [(5, .pointer (some ⟨b1, 0, none⟩)), (9, .pointer (some ⟨b3, of1, none⟩)), (11, .int .u32 x4), (51, .int .i64 p2), (52, .int .i64 x12)] ∧ Im T3 w5 T5 w11 ∧ Sep g T5 w11 [elsA nEStoreObject p0.list css1 (some (Int.toNat y1.1)), boxA b1 [.int .i64 p1.Obj, .int .i64 p1.Lo, .int .i64 p1.Hi, .int .i64 p1.Off], R, H_p0 [.slice a1 n1 c1], (holeA (rRaw 4) 59 (.slice a1 n1 c1) css1 (Int.toNat y1.1)) [.slice a10 n10 c10, .slice a11 n11 c11, .map r3, .bool x5.gone], ownA (rInt .u8) 5 (.slice a10 n10 c10) x10, ownA rBool 4 (.slice a11 n11 c11) x11, mapA (Value.int .i64) encStorePtr (.map r3) x5.ptrs] ∧ loopM bd1 m (x10, x11, x12) = some o1) NN ⟨_, _, x5.bytes.data, _, _, _, x5.bytes.set_, _, _, _, 0, env_has ⟨rfl, rfl, rfl, rfl, rfl, trivial⟩, Im.refl, hS14.sel [0, 1, 2, 3, 4, 5, 6, 7] rfl, ho1⟩ ?_)
      rintro m _ w11 ⟨J, T5, x10, a10, n10, c10, x11, a11, n11, c11, x12, rfl, im11, hS15, ho1⟩
      obtain ⟨m1, z1, rfl, hm, hn1⟩ := loop_round ho1
      rw [hbd1] at hm
      refine sq2 ?_
      refine rg (pv (r_ib rfl rfl rfl) (nil (t_then ?_)))
      refine sq2 ?_
      refine cnd rfl (fun hb4 => ?_) (fun hb4 => ?_)
      · have hm := ctrue hb4 hm
        refine skp (t_then ?_)
        refine sq2 ?_
        refine blk ?_
        refine sq2 ?_
        refine rg (pv (r_mi rfl) (pv (r_zi rfl) (nil (t_then ?_))))
        refine rs [0, 0, 0, 0, 1, 0, 1, 0, 0, 0, 0, 0, 0, 1, 0, 1, 0, 0, 0, 0, 0, 0, 0, 0, 2, 0, 2] [0, 1, 2, 3, 4, 5, 6, 7, 8, 9, 10, 11, 12, 13, 14, 15, 16, 17, 18, 19, 20, 21, 22, 23, 24, 25, 26] mix (by kernel_rfl) hS15.lt fun w12 i2 => ?_
        have im12 := i2.imm
        have hS16 := hS15.keep i2 (fun _ h => h)
        obtain ⟨_, hz1, hm⟩ := bindS hm
        have hz1 := nn_some hz1
        obtain ⟨u3, hx5, hm⟩ := bindS hm
        obtain ⟨b4, of2, cs2, k2, cp2, hv2, hp3, hl2, he2, hr1, hc1⟩ := (hS16.own (i := 5) ⟨rfl, rfl⟩).v.ixq hx5 rfl
        cases hr1
        obtain ⟨u4, hx6, hm⟩ := bindS hm
        refine s0 rfl trivial (fun _ => r_mp rfl) rfl (s0 rfl trivial (fun _ => r_nc rfl) rfl (s0 rfl trivial (fun _ => r_fa rfl Try.underlying59 rfl Try.sizeOf56 rfl) rfl (s0 rfl trivial (fun _ => r_fa rfl Try.underlying56 rfl Try.sizeOf41 rfl) rfl (s1 rfl trivial (r_ld rfl Try.isAgg41 (hS16.cellB (i := 4) ⟨rfl, rfl⟩ (lnHole (i := y1.1) hv1 he1) (j := 0) rfl)) rfl (s0 rfl trivial (fun _ => r_fa rfl Try.underlying24 rfl Try.sizeOf3 rfl) rfl (s1 rfl trivial (r_ld rfl Try.isAgg3 (hS16.cell0 (i := 1) ⟨rfl, rfl⟩ (j := 3) rfl)) rfl (s0 rfl trivial (fun _ => r_mi rfl) rfl (s0 rfl trivial (fun _ => r_ib rfl rfl rfl) rfl (s0 rfl trivial (fun _ => r_mp rfl) rfl (s0 rfl trivial (fun _ => r_nc rfl) rfl (s0 rfl trivial (fun _ => r_fa rfl Try.underlying59 rfl Try.sizeOf56 rfl) rfl (s0 rfl trivial (fun _ => r_fa rfl Try.underlying56 rfl Try.sizeOf54 rfl) rfl (s1 rfl trivial (r_ld rfl Try.isAgg54 (hS16.cellB (i := 4) ⟨rfl, rfl⟩ (lnHole (i := y1.1) hv1 he1) (j := 1) rfl)) rfl (s0 rfl trivial (fun _ => r_fa rfl Try.underlying24 rfl Try.sizeOf3 rfl) rfl (s1 rfl trivial (r_ld rfl Try.isAgg3 (hS16.cell0 (i := 1) ⟨rfl, rfl⟩ (j := 3) rfl)) rfl (s0 rfl trivial (fun _ => r_mi rfl) rfl (s0 rfl trivial (fun _ => r_ib rfl rfl rfl) rfl (s0 rfl trivial (fun _ => r_mi rfl) rfl (s0 rfl trivial (fun _ => r_mi rfl) rfl (s0 rfl trivial (fun _ => r_ib rfl rfl rfl) rfl (s0 rfl trivial (fun _ => r_ishr rfl rfl hz1) rfl (s0 rfl trivial (fun _ => r_cv rfl Try.underlying22 Try.underlying5) rfl (s0 rfl trivial (fun _ => r_ixe hv2 rfl Try.underlying41 Try.sizeOf5 hp3 hl2 he2) rfl (s2 [(15, .int .i64 p1.Off)] rfl trivial rfl (by kernel_rfl) (stO (q := 5) (i := Int.toNat (IntKind.wrap .i64 (p1.Off + x12))) (j := 0) (u := u4) (u' := IntKind.wrap .u8 (Int.fdiv x4 (2 ^ (min (Int.toNat (IntKind.wrap .i64 (8 * x12))) (IntKind.bits .u32))))) hS16 ⟨rfl, rfl⟩ hv2 (idx_some hx6).2.2 he2 rfl rfl rfl Try.sizeOf5 rfl rfl rfl (fun c0 hc0 => by rw [storeL_all (r := (rInt .u8)) hc0 rfl]; exact rfl) fun w13 im13 hS17 => ?_)))))))))))))))))))))))))
        have hS17 : Sep g T5 w13 [elsA nEStoreObject p0.list css1 (some (Int.toNat y1.1)), boxA b1 [.int .i64 p1.Obj, .int .i64 p1.Lo, .int .i64 p1.Hi, .int .i64 p1.Off], R, H_p0 [.slice a1 n1 c1], (holeA (rRaw 4) 59 (.slice a1 n1 c1) css1 (Int.toNat y1.1)) [.slice a10 n10 c10, .slice a11 n11 c11, .map r3, .bool x5.gone], ownA (rInt .u8) 5 (.slice a10 n10 c10) (List.set x10 (Int.toNat (IntKind.wrap .i64 (p1.Off + x12))) (IntKind.wrap .u8 (Int.fdiv x4 (2 ^ (min (Int.toNat (IntKind.wrap .i64 (8 * x12))) (IntKind.bits .u32)))))), ownA rBool 4 (.slice a11 n11 c11) x11, mapA (Value.int .i64) encStorePtr (.map r3) x5.ptrs] := hS17
        refine ⟨st1 rfl (r_ld rfl Try.isAgg3 (hS17.cell0 (i := 1) ⟨rfl, rfl⟩ (j := 3) rfl)) (st0), ?_⟩
        obtain ⟨u5, hx7, hm⟩ := bindS hm
        obtain ⟨b5, of3, cs3, k3, cp3, hv3, hp4, hl3, he3, hr2, hc2⟩ := (hS17.own (i := 6) ⟨rfl, rfl⟩).v.ixq hx7 rfl
        cases hr2
        obtain ⟨u6, hx8, hm⟩ := bindS hm
        refine s0 rfl trivial (fun _ => r_ixe hv3 rfl Try.underlying54 Try.sizeOf4 hp4 hl3 he3) rfl (s2 [] rfl trivial rfl (by kernel_rfl) (stO (q := 6) (i := Int.toNat (IntKind.wrap .i64 (p1.Off + x12))) (j := 0) (u := u6) (u' := true) hS17 ⟨rfl, rfl⟩ hv3 (idx_some hx8).2.2 he3 rfl rfl rfl Try.sizeOf4 rfl rfl rfl (fun c0 hc0 => by rw [storeL_all (r := rBool) hc0 rfl]; exact rfl) fun w14 im14 hS18 => ?_))
        have hS18 : Sep g T5 w14 [elsA nEStoreObject p0.list css1 (some (Int.toNat y1.1)), boxA b1 [.int .i64 p1.Obj, .int .i64 p1.Lo, .int .i64 p1.Hi, .int .i64 p1.Off], R, H_p0 [.slice a1 n1 c1], (holeA (rRaw 4) 59 (.slice a1 n1 c1) css1 (Int.toNat y1.1)) [.slice a10 n10 c10, .slice a11 n11 c11, .map r3, .bool x5.gone], ownA (rInt .u8) 5 (.slice a10 n10 c10) (List.set x10 (Int.toNat (IntKind.wrap .i64 (p1.Off + x12))) (IntKind.wrap .u8 (Int.fdiv x4 (2 ^ (min (Int.toNat (IntKind.wrap .i64 (8 * x12))) (IntKind.bits .u32)))))), ownA rBool 4 (.slice a11 n11 c11) (List.set x11 (Int.toNat (IntKind.wrap .i64 (p1.Off + x12))) true), mapA (Value.int .i64) encStorePtr (.map r3) x5.ptrs] := hS18
        refine ⟨st0, ?_⟩
        refine se (t_blk (t_thenR [(5, .pointer (some ⟨b1, 0, none⟩)), (9, .pointer (some ⟨b3, of1, none⟩)), (11, .int .u32 x4), (51, .int .i64 p2), (52, .int .i64 x12)] ⟨rfl, rfl, rfl, rfl, rfl, trivial⟩ fun J => ?_))
        have hm := Option.some.inj hm
        subst hm
        exact rg (pv (r_ib rfl rfl rfl) (pv (r_mi rfl) (nil (t_then ⟨m1, Nat.lt_succ_self _, _, _, (List.set x10 (Int.toNat (IntKind.wrap .i64 (p1.Off + x12))) (IntKind.wrap .u8 (Int.fdiv x4 (2 ^ (min (Int.toNat (IntKind.wrap .i64 (8 * x12))) (IntKind.bits .u32)))))), _, _, _, (List.set x11 (Int.toNat (IntKind.wrap .i64 (p1.Off + x12))) true), _, _, _, (IntKind.wrap .i64 (x12 + 1)), env_has ⟨rfl, rfl, rfl, rfl, rfl, trivial⟩, (Im.trans im11 (Im.trans im12 (Im.trans im13 im14))), hS18.sel [0, 1, 2, 3, 4, 5, 6, 7] rfl, hn1⟩))))
      · have hm := cfalse hb4 hm
        have hm := Option.some.inj hm
        subst hm
        have hn1 : _ = Lp.brk _ := hn1
        subst hn1
        have hm := thn_brk hq1
        refine xt (x_then (x_then (x_eq (t_thenR [] trivial fun J => ?_))))
        refine sq2 ?_
        refine rg (pv (r_zi rfl) (nil (t_then ?_)))
        have hS19 := hS15.bun [5, 6, 7] [0, 1, 2, 3, 4] rfl
        have hS20 : Sep g T5 w11 [nEStoreObject.A ({ x5 with bytes := (⟨x10, x11⟩ : StoreBytes) }) [.slice a10 n10 c10, .slice a11 n11 c11, .map r3, .bool x5.gone], elsA nEStoreObject p0.list css1 (some (Int.toNat y1.1)), boxA b1 [.int .i64 p1.Obj, .int .i64 p1.Lo, .int .i64 p1.Hi, .int .i64 p1.Off], R, H_p0 [.slice a1 n1 c1], (holeA (rRaw 4) 59 (.slice a1 n1 c1) css1 (Int.toNat y1.1)) [.slice a10 n10 c10, .slice a11 n11 c11, .map r3, .bool x5.gone]] := Sep.exI (a10, n10, c10, a11, n11, c11, r3) (Sep.pI rfl hS19)
        have hS21 : Sep g T5 w11 [boxA b1 [.int .i64 p1.Obj, .int .i64 p1.Lo, .int .i64 p1.Hi, .int .i64 p1.Off], R, H_p0 [.slice a1 n1 c1], nestA nEStoreObject 59 (.slice a1 n1 c1) (List.set p0.list (Int.toNat y1.1) ({ x5 with bytes := (⟨x10, x11⟩ : StoreBytes) }))] := hS20.nunfocus (q := 3) ⟨rfl, rfl⟩ (idx_ltn hx2)
        have hm := Option.some.inj hm
        subst hm
        exact rtn (ret1 rfl rfl ⟨_, rfl, _, (Im.trans im1 (Im.trans im2 (Im.trans im3 (Im.trans im4 (Im.trans im5 im11))))), ⟨_, _, _, rfl, hS21.sel [1, 2, 3] rfl, trivial⟩⟩)

set_option maxRecDepth 100000 in
set_option maxHeartbeats 1000000 in
theorem store_Store_Load_sim {g : World} {T0 : Nat → Prop} {w0 : World} {R : Assn} {p0 : StoreStore} {b_p0 o_p0 : Nat} {H_p0 : List Value → Assn} {a1 : Option Addr} {n1 : Nat} {c1 : Nat} {p1 : StorePtr} {p2 : Int} {p3 : Bool} {r : StoreValue × Int} (hS : Sep g T0 w0 [R, H_p0 [.slice a1 n1 c1], nestA nEStoreObject 59 (.slice a1 n1 c1) p0.list]) (hL_p0 : Ln b_p0 o_p0 H_p0) (hm : store_Store_Load p0 p1 p2 p3 = some r) :
    Calls Try.prog 11 #[.pointer (some ⟨b_p0, o_p0, none⟩), .agg #[.int .i64 p1.Obj, .int .i64 p1.Lo, .int .i64 p1.Hi, .int .i64 p1.Off], .int .i64 p2, .bool p3] w0 (RetS T0 w0 fun T w v => v = .tuple #[.agg #[.int .u32 r.1.Num, .int .i64 r.1.Ptr.Obj, .int .i64 r.1.Ptr.Lo, .int .i64 r.1.Ptr.Hi, .int .i64 r.1.Ptr.Off, .bool r.1.Is], .int .i64 r.2] ∧ Sep g T w [R, H_p0 [.slice a1 n1 c1], nestA nEStoreObject 59 (.slice a1 n1 c1) p0.list] ∧ True) := by
  refine enter (args := [.pointer (some ⟨b_p0, o_p0, none⟩), .agg #[.int .i64 p1.Obj, .int .i64 p1.Lo, .int .i64 p1.Hi, .int .i64 p1.Off], .int .i64 p2, .bool p3]) Try.func11 rfl Try.ntmps11 rfl fun J => ?_
  unfold store_Store_Load at hm
  refine sq2 ?_
  refine rg (wl rfl (bxS (cs := [.int .i64 p1.Obj, .int .i64 p1.Lo, .int .i64 p1.Hi, .int .i64 p1.Off]) rfl rfl hS fun w1 b1 im1 hS1 => ?_))
  refine wl rfl (alS (zs := [.int .u32 0, .int .i64 0, .int .i64 0, .int .i64 0, .int .i64 0, .bool false]) Try.zeroValue26 rfl hS1 fun w2 b2 im2 hS2 => ?_)
  refine pv (r_zi rfl) (nil (t_then ?_))
  refine sq2 ?_
  obtain ⟨y1, hx1, hm⟩ := bindS hm
  refine rg (pv (r_mp rfl) (pv (r_ldS rfl Try.isAgg24 Try.sizeOf24 rfl (hS2.cells0 (i := 1) ⟨rfl, rfl⟩ (o := 0) rfl) (cs := [.int .i64 p1.Obj, .int .i64 p1.Lo, .int .i64 p1.Hi, .int .i64 p1.Off])) (pv (r_mi rfl) (pv (r_mb rfl) (wl rfl (calS cf19 rfl (store_Store_place_sim (p0 := p0) (H_p0 := H_p0) (p1 := p1) (p2 := p2) (p3 := p3) (hS2.bun [0, 1, 2] [3, 4] rfl) hL_p0 hx1) rfl fun v1 T1 w3 im3 rv1 => ?_))))))
  obtain ⟨pv1, rfl, hS3, h1, _⟩ := rv1
  have hS3 : Sep g T1 w3 [boxA b2 [.int .u32 0, .int .i64 0, .int .i64 0, .int .i64 0, .int .i64 0, .bool false], boxA b1 [.int .i64 p1.Obj, .int .i64 p1.Lo, .int .i64 p1.Hi, .int .i64 p1.Off], R, H_p0 [.slice a1 n1 c1], nestA nEStoreObject 59 (.slice a1 n1 c1) p0.list] := hS3.unb
  refine pv (r_mv rfl) (pv (r_ex (v := pv1) rfl rfl) (pv (r_ex (v := .int .i64 y1.2) rfl rfl) (pv (r_zx (v := pv1) rfl) (pv (r_zi rfl) (nil (t_thenR [(2, .int .i64 p2), (3, .bool p3), (5, .pointer (some ⟨b1, 0, none⟩)), (8, .pointer (some ⟨b2, 0, none⟩)), (10, pv1), (11, .int .i64 y1.2)] ⟨rfl, rfl, rfl, rfl, rfl, rfl, trivial⟩ fun J => ?_))))))
  refine sq2 ?_
  refine sq2 ?_
  refine rg (pv (r_mi rfl) (pv (r_ib rfl rfl rfl) (nil (t_then ?_))))
  refine cnd rfl (fun hb1 => ?_) (fun hb1 => ?_)
  · have hm := ctrue hb1 hm
    refine sq2 ?_
    refine rg (pv (r_bd (by kernel_rfl) rfl (u := .agg #[.int .u32 0, .int .i64 0, .int .i64 0, .int .i64 0, .int .i64 0, .bool false])) (pv (r_mi rfl) (wl rfl (st0B (q := 0) hS3 ⟨rfl, rfl⟩ rfl rfl rfl Try.sizeOf26 rfl rfl rfl fun w4 im4 hS4 => ?_))))
    have hS4 : Sep g T1 w4 [boxA b2 [.int .u32 0, .int .i64 0, .int .i64 0, .int .i64 0, .int .i64 0, .bool false], boxA b1 [.int .i64 p1.Obj, .int .i64 p1.Lo, .int .i64 p1.Hi, .int .i64 p1.Off], R, H_p0 [.slice a1 n1 c1], nestA nEStoreObject 59 (.slice a1 n1 c1) p0.list] := hS4
    refine pv (r_zi rfl) (nil (t_thenR [(8, .pointer (some ⟨b2, 0, none⟩)), (9, .int .i64 y1.2)] ⟨rfl, rfl, trivial⟩ fun J => ?_))
    have hm := Option.some.inj hm
    subst hm
    exact rtn (r_then (retN (vs := [.agg #[.int .u32 0, .int .i64 0, .int .i64 0, .int .i64 0, .int .i64 0, .bool false], .int .i64 y1.2]) rfl ⟨rvS rfl Try.isAgg26 Try.sizeOf26 rfl (hS4.bx (i := 0) ⟨rfl, rfl⟩), rfl, trivial⟩ rfl ⟨_, rfl, _, (Im.trans im1 (Im.trans im2 (Im.trans im3 im4))), ⟨rfl, hS4.sel [2, 3, 4] rfl, trivial⟩⟩))
  · have hm := cfalse hb1 hm
    refine skp (t_then ?_)
    refine sq2 ?_
    refine rg (pv (r_zi rfl) (nil (t_then ?_)))
    refine sq2 ?_
    refine sq2 ?_
    refine rg (pv (r_mi rfl) (pv (r_mi rfl) (nil (t_then ?_))))
    obtain ⟨o1, ho1, hq1⟩ := bindS hm
    obtain ⟨bd1, hbd1, ho1⟩ := loop_open ho1
    refine blk (wp_loop_ghost (fun m a w5 => ∃ (J : Nat → Value) (T2 : Nat → Prop) (x1 : Int) (x2 : Int), a = env (nf 72) J [(3, .bool p3), (5, .pointer (some ⟨b1, 0, none⟩)), (8, .pointer (some ⟨b2, 0, none⟩)), (10, pv1), (12, .int .u32 x1), (26, .int .i64 p2), (27, .int .i64 x2)] ∧ Im T1 w3 T2 w5 ∧ Sep g T2 w5 [boxA b2 [.int .u32 0, .int .i64 0, .int .i64 0, .int .i64 0, .int .i64 0, .bool false], boxA b1 [.int .i64 p1.Obj, .int .i64 p1.Lo, .int .i64 p1.Hi, .int .i64 p1.Off], R, H_p0 [.slice a1 n1 c1], nestA nEStoreObject 59 (.slice a1 n1 c1) p0.list] ∧ loopM bd1 m (x1, x2) = some o1) NN ⟨_, _, 0, 0, env_has ⟨rfl, rfl, rfl, rfl, rfl, rfl, rfl, trivial⟩, Im.refl, hS3.sel [0, 1, 2, 3, 4] rfl, ho1⟩ ?_)
    rintro m _ w5 ⟨J, T2, x1, x2, rfl, im5, hS5, ho1⟩
    obtain ⟨m1, z1, rfl, hm, hn1⟩ := loop_round ho1
    rw [hbd1] at hm
    refine sq2 ?_
    refine rg (pv (r_ib rfl rfl rfl) (nil (t_then ?_)))
    refine sq2 ?_
    refine cnd rfl (fun hb2 => ?_) (fun hb2 => ?_)
    · have hm := ctrue hb2 hm
      refine skp (t_then ?_)
      refine sq2 ?_
      refine blk ?_
      refine sq2 ?_
      refine rg (pv (r_mi rfl) (pv (r_zi rfl) (nil (t_then ?_))))
      refine sq2 ?_
      refine sq2 ?_
      refine rq mix (by kernel_rfl) hS5.lt (qv (fun _ hq => r_mx (v := pv1) rfl) (?_))
      obtain ⟨u1, hx2, hm⟩ := bindS hm
      obtain ⟨b3, of1, k1, cp1, hv1, hp1, hl1, he1⟩ := hS5.nhd (q := 4) ⟨rfl, rfl⟩ hx2 rfl
      obtain ⟨css1, cs1, hS6⟩ := hS5.nfocus (q := 4) ⟨rfl, rfl⟩ hx2
      obtain ⟨⟨a2, n2, c2, a3, n3, c3, r1⟩, hS7⟩ := hS6.exE
      obtain ⟨hcs1, hS8⟩ := hS7.pE
      subst hcs1
      have hS9 : Sep g T2 w5 [ownA (rInt .u8) 5 (.slice a2 n2 c2) u1.bytes.data, ownA rBool 4 (.slice a3 n3 c3) u1.bytes.set_, mapA (Value.int .i64) encStorePtr (.map r1) u1.ptrs, elsA nEStoreObject p0.list css1 (some (Int.toNat y1.1)), boxA b2 [.int .u32 0, .int .i64 0, .int .i64 0, .int .i64 0, .int .i64 0, .bool false], boxA b1 [.int .i64 p1.Obj, .int .i64 p1.Lo, .int .i64 p1.Hi, .int .i64 p1.Off], R, H_p0 [.slice a1 n1 c1], (holeA (rRaw 4) 59 (.slice a1 n1 c1) css1 (Int.toNat y1.1)) [.slice a2 n2 c2, .slice a3 n3 c3, .map r1, .bool u1.gone]] := hS8.unb
      have hp2 := IpR.at2 h1 hp1 hv1 he1
      subst hp2
      obtain ⟨u2, hx3, hm⟩ := bindS hm
      obtain ⟨b4, of2, cs2, k2, cp2, hv2, hp3, hl2, he2, hr1, hc1⟩ := (hS9.own (i := 1) ⟨rfl, rfl⟩).v.ixq hx3 rfl
      cases hr1
      refine qv (fun _ hq => r_nc rfl) (qv (fun _ hq => r_fa rfl Try.underlying59 rfl Try.sizeOf56 rfl) (qv (fun _ hq => r_fa rfl Try.underlying56 rfl Try.sizeOf54 rfl) (qv (fun _ hq => r_ld rfl Try.isAgg54 (hq.cell (hS9.cellB (i := 8) ⟨rfl, rfl⟩ (lnHole (i := y1.1) hv1 he1) (j := 1) rfl))) (qv (fun _ hq => r_fa rfl Try.underlying24 rfl Try.sizeOf3 rfl) (qv (fun _ hq => r_ld rfl Try.isAgg3 (hq.cell (hS9.cell0 (i := 5) ⟨rfl, rfl⟩ (j := 3) rfl))) (qv (fun _ hq => r_mi rfl) (qv (fun _ hq => r_ib rfl rfl rfl) (qv (fun _ hq => r_ixe hv2 rfl Try.underlying54 Try.sizeOf4 hp3 hl2 he2) (qv (fun _ hq => r_ld rfl Try.isAgg4 (hq.cell (hc1.get (j := 0) rfl))) (qv (fun _ hq => r_nt rfl) (qn fun w6 T3 i1 => ?_)))))))))))
      have im6 := i1.imm
      have hS10 := hS9.keep i1 (fun _ h => h)
      refine t_thenR [(3, .bool p3), (5, .pointer (some ⟨b1, 0, none⟩)), (8, .pointer (some ⟨b2, 0, none⟩)), (10, .pointer (some ⟨b3, of1, none⟩)), (12, .int .u32 x1), (13, .int .i64 x2), (26, .int .i64 p2), (27, .int .i64 x2), (41, .bool (!u2))] ⟨rfl, rfl, rfl, rfl, rfl, rfl, rfl, rfl, rfl, trivial⟩ fun J => ?_
      refine cnd rfl (fun hb3 => ?_) (fun hb3 => ?_)
      · have hm := ctrue hb3 hm
        refine sq2 ?_
        refine rg (pv (r_bd (by kernel_rfl) rfl (u := .agg #[.int .u32 0, .int .i64 0, .int .i64 0, .int .i64 0, .int .i64 0, .bool false])) (wl rfl (st0B (q := 4) hS10 ⟨rfl, rfl⟩ rfl rfl rfl Try.sizeOf26 rfl rfl rfl fun w7 im7 hS11 => ?_)))
        have hS11 : Sep g T3 w7 [ownA (rInt .u8) 5 (.slice a2 n2 c2) u1.bytes.data, ownA rBool 4 (.slice a3 n3 c3) u1.bytes.set_, mapA (Value.int .i64) encStorePtr (.map r1) u1.ptrs, elsA nEStoreObject p0.list css1 (some (Int.toNat y1.1)), boxA b2 [.int .u32 0, .int .i64 0, .int .i64 0, .int .i64 0, .int .i64 0, .bool false], boxA b1 [.int .i64 p1.Obj, .int .i64 p1.Lo, .int .i64 p1.Hi, .int .i64 p1.Off], R, H_p0 [.slice a1 n1 c1], (holeA (rRaw 4) 59 (.slice a1 n1 c1) css1 (Int.toNat y1.1)) [.slice a2 n2 c2, .slice a3 n3 c3, .map r1, .bool u1.gone]] := hS11
        refine pv (r_zi rfl) (nil (t_thenR [(8, .pointer (some ⟨b2, 0, none⟩)), (9, .int .i64 13)] ⟨rfl, rfl, trivial⟩ fun J => ?_))
        have hS12 := hS11.bun [0, 1, 2] [3, 4, 5, 6, 7, 8] rfl
        have hS13 : Sep g T3 w7 [nEStoreObject.A u1 [.slice a2 n2 c2, .slice a3 n3 c3, .map r1, .bool u1.gone], elsA nEStoreObject p0.list css1 (some (Int.toNat y1.1)), boxA b2 [.int .u32 0, .int .i64 0, .int .i64 0, .int .i64 0, .int .i64 0, .bool false], boxA b1 [.int .i64 p1.Obj, .int .i64 p1.Lo, .int .i64 p1.Hi, .int .i64 p1.Off], R, H_p0 [.slice a1 n1 c1], (holeA (rRaw 4) 59 (.slice a1 n1 c1) css1 (Int.toNat y1.1)) [.slice a2 n2 c2, .slice a3 n3 c3, .map r1, .bool u1.gone]] := Sep.exI (a2, n2, c2, a3, n3, c3, r1) (Sep.pI rfl hS12)
        have hS14 : Sep g T3 w7 [boxA b2 [.int .u32 0, .int .i64 0, .int .i64 0, .int .i64 0, .int .i64 0, .bool false], boxA b1 [.int .i64 p1.Obj, .int .i64 p1.Lo, .int .i64 p1.Hi, .int .i64 p1.Off], R, H_p0 [.slice a1 n1 c1], nestA nEStoreObject 59 (.slice a1 n1 c1) p0.list] := hS13.nunfocus0 (q := 4) ⟨rfl, rfl⟩ hx2
        have hm := Option.some.inj hm
        subst hm
        have hn1 : _ = Lp.ret _ := hn1
        subst hn1
        have hm := thn_ret hq1
        have hm := Option.some.inj hm
        subst hm
        exact rtn (r_then (r_blk (r_then (r_then (r_blk (r_then (retN (vs := [.agg #[.int .u32 0, .int .i64 0, .int .i64 0, .int .i64 0, .int .i64 0, .bool false], .int .i64 13]) rfl ⟨rvS rfl Try.isAgg26 Try.sizeOf26 rfl (hS14.bx (i := 0) ⟨rfl, rfl⟩), rfl, trivial⟩ rfl ⟨_, rfl, _, (Im.trans im1 (Im.trans im2 (Im.trans im3 (Im.trans im5 (Im.trans im6 im7))))), ⟨rfl, hS14.sel [2, 3, 4] rfl, trivial⟩⟩)))))))
      · have hm := cfalse hb3 hm
        refine skp (t_then ?_)
        obtain ⟨u3, hx4, hm⟩ := bindS hm
        obtain ⟨b5, of3, cs3, k3, cp3, hv3, hp4, hl3, he3, hr2, hc2⟩ := (hS10.own (i := 0) ⟨rfl, rfl⟩).v.ixq hx4 rfl
        cases hr2
        obtain ⟨_, hz1, hm⟩ := bindS hm
        have hz1 := nn_some hz1
        refine rq mix (by kernel_rfl) hS10.lt (qv (fun _ hq => r_mi rfl) (qv (fun _ hq => r_mp rfl) (qv (fun _ hq => r_nc rfl) (qv (fun _ hq => r_fa rfl Try.underlying59 rfl Try.sizeOf56 rfl) (qv (fun _ hq => r_fa rfl Try.underlying56 rfl Try.sizeOf41 rfl) (qv (fun _ hq => r_ld rfl Try.isAgg41 (hq.cell (hS10.cellB (i := 8) ⟨rfl, rfl⟩ (lnHole (i := y1.1) hv1 he1) (j := 0) rfl))) (qv (fun _ hq => r_fa rfl Try.underlying24 rfl Try.sizeOf3 rfl) (qv (fun _ hq => r_ld rfl Try.isAgg3 (hq.cell (hS10.cell0 (i := 5) ⟨rfl, rfl⟩ (j := 3) rfl))) (qv (fun _ hq => r_mi rfl) (qv (fun _ hq => r_ib rfl rfl rfl) (qv (fun _ hq => r_ixe hv3 rfl Try.underlying41 Try.sizeOf5 hp4 hl3 he3) (qv (fun _ hq => r_ld rfl Try.isAgg5 (hq.cell (hc2.get (j := 0) rfl))) (qv (fun _ hq => r_cv rfl Try.underlying5 Try.underlying22) (qv (fun _ hq => r_mi rfl) (qv (fun _ hq => r_ib rfl rfl rfl) (qv (fun _ hq => r_ishl rfl rfl hz1) (qv (fun _ hq => r_ib rfl rfl rfl) (qv (fun _ hq => r_zi rfl) (qn fun w8 T4 i2 => ?_)))))))))))))))))))
        have im8 := i2.imm
        have hS15 := hS10.keep i2 (fun _ h => h)
        refine t_blk (t_thenR [(3, .bool p3), (5, .pointer (some ⟨b1, 0, none⟩)), (8, .pointer (some ⟨b2, 0, none⟩)), (10, .pointer (some ⟨b3, of1, none⟩)), (12, .int .u32 (bits .or .u32 x1 (IntKind.wrap .u32 ((IntKind.wrap .u32 u3) * 2 ^ (min (Int.toNat (IntKind.wrap .i64 (8 * x2))) (IntKind.bits .u32)))))), (26, .int .i64 p2), (27, .int .i64 x2)] ⟨rfl, rfl, rfl, rfl, rfl, rfl, rfl, trivial⟩ fun J => ?_)
        have hS16 := hS15.bun [0, 1, 2] [3, 4, 5, 6, 7, 8] rfl
        have hS17 : Sep g T4 w8 [nEStoreObject.A u1 [.slice a2 n2 c2, .slice a3 n3 c3, .map r1, .bool u1.gone], elsA nEStoreObject p0.list css1 (some (Int.toNat y1.1)), boxA b2 [.int .u32 0, .int .i64 0, .int .i64 0, .int .i64 0, .int .i64 0, .bool false], boxA b1 [.int .i64 p1.Obj, .int .i64 p1.Lo, .int .i64 p1.Hi, .int .i64 p1.Off], R, H_p0 [.slice a1 n1 c1], (holeA (rRaw 4) 59 (.slice a1 n1 c1) css1 (Int.toNat y1.1)) [.slice a2 n2 c2, .slice a3 n3 c3, .map r1, .bool u1.gone]] := Sep.exI (a2, n2, c2, a3, n3, c3, r1) (Sep.pI rfl hS16)
        have hS18 : Sep g T4 w8 [boxA b2 [.int .u32 0, .int .i64 0, .int .i64 0, .int .i64 0, .int .i64 0, .bool false], boxA b1 [.int .i64 p1.Obj, .int .i64 p1.Lo, .int .i64 p1.Hi, .int .i64 p1.Off], R, H_p0 [.slice a1 n1 c1], nestA nEStoreObject 59 (.slice a1 n1 c1) p0.list] := hS17.nunfocus0 (q := 4) ⟨rfl, rfl⟩ hx2
        have hm := Option.some.inj hm
        subst hm
        exact rg (pv (r_ib rfl rfl rfl) (pv (r_mi rfl) (nil (t_then ⟨m1, Nat.lt_succ_self _, _, _, (bits .or .u32 x1 (IntKind.wrap .u32 ((IntKind.wrap .u32 u3) * 2 ^ (min (Int.toNat (IntKind.wrap .i64 (8 * x2))) (IntKind.bits .u32))))), (IntKind.wrap .i64 (x2 + 1)), env_has ⟨rfl, rfl, rfl, rfl, rfl, rfl, rfl, trivial⟩, (Im.trans im5 (Im.trans im6 im8)), hS18.sel [0, 1, 2, 3, 4] rfl, hn1⟩))))
    · have hm := cfalse hb2 hm
      have hm := Option.some.inj hm
      subst hm
      have hn1 : _ = Lp.brk _ := hn1
      subst hn1
      have hm := thn_brk hq1
      refine xt (x_then (x_then (x_eq (t_then ?_))))
      refine sq2 ?_
      refine sq2 ?_
      refine rg (pv (r_mb rfl) (nil (t_then ?_)))
      refine cnd rfl (fun hb4 => ?_) (fun hb4 => ?_)
      · have hm := ctrue hb4 hm
        refine sq2 ?_
        refine rs [0, 0, 0, 1, 0, 1, 1, 0, 2, 0] [0, 1, 2, 3, 4, 5, 6, 7, 8, 9] mix (by kernel_rfl) hS5.lt fun w9 i3 => ?_
        have im9 := i3.imm
        have hS19 := hS5.keep i3 (fun _ h => h)
        refine s0 rfl trivial (fun _ => r_mx (v := pv1) rfl) rfl (?_)
        obtain ⟨u4, hx5, hm⟩ := bindS hm
        obtain ⟨b6, of4, k4, cp4, hv4, hp5, hl4, he4⟩ := hS19.nhd (q := 4) ⟨rfl, rfl⟩ hx5 rfl
        obtain ⟨css2, cs4, hS20⟩ := hS19.nfocus (q := 4) ⟨rfl, rfl⟩ hx5
        obtain ⟨⟨a4, n4, c4, a5, n5, c5, r2⟩, hS21⟩ := hS20.exE
        obtain ⟨hcs2, hS22⟩ := hS21.pE
        subst hcs2
        have hS23 : Sep g T2 w9 [ownA (rInt .u8) 5 (.slice a4 n4 c4) u4.bytes.data, ownA rBool 4 (.slice a5 n5 c5) u4.bytes.set_, mapA (Value.int .i64) encStorePtr (.map r2) u4.ptrs, elsA nEStoreObject p0.list css2 (some (Int.toNat y1.1)), boxA b2 [.int .u32 0, .int .i64 0, .int .i64 0, .int .i64 0, .int .i64 0, .bool false], boxA b1 [.int .i64 p1.Obj, .int .i64 p1.Lo, .int .i64 p1.Hi, .int .i64 p1.Off], R, H_p0 [.slice a1 n1 c1], (holeA (rRaw 4) 59 (.slice a1 n1 c1) css2 (Int.toNat y1.1)) [.slice a4 n4 c4, .slice a5 n5 c5, .map r2, .bool u4.gone]] := hS22.unb
        have hp6 := IpR.at2 h1 hp5 hv4 he4
        subst hp6
        refine s0 rfl trivial (fun _ => r_nc rfl) rfl (s0 rfl trivial (fun _ => r_fa rfl Try.underlying59 rfl Try.sizeOf57 rfl) rfl (s1 rfl trivial (r_ld rfl Try.isAgg57 (hS23.cellB (i := 8) ⟨rfl, rfl⟩ (lnHole (i := y1.1) hv4 he4) (j := 2) rfl)) rfl (s0 rfl trivial (fun _ => r_fa rfl Try.underlying24 rfl Try.sizeOf3 rfl) rfl (s1 rfl trivial (r_ld rfl Try.isAgg3 (hS23.cell0 (i := 5) ⟨rfl, rfl⟩ (j := 3) rfl)) rfl (s1 rfl trivial (r_lkM (kk := p1.Off) (u := (⟨0, 0, 0, 0⟩ : StorePtr)) rfl rfl (hS23.getA (i := 2) ⟨rfl, rfl⟩) (key_int .i64) Try.underlying57 Try.underlying3 Try.zeroValue24 rfl) rfl (s0 rfl trivial (fun _ => r_bd (by kernel_rfl) rfl (u := .agg #[.int .u32 0, .int .i64 (((mGetO u4.ptrs p1.Off).getD (⟨0, 0, 0, 0⟩ : StorePtr)).Obj), .int .i64 (((mGetO u4.ptrs p1.Off).getD (⟨0, 0, 0, 0⟩ : StorePtr)).Lo), .int .i64 (((mGetO u4.ptrs p1.Off).getD (⟨0, 0, 0, 0⟩ : StorePtr)).Hi), .int .i64 (((mGetO u4.ptrs p1.Off).getD (⟨0, 0, 0, 0⟩ : StorePtr)).Off), .bool true])) rfl (s2 [] rfl trivial rfl (by kernel_rfl) (st0B (q := 4) hS23 ⟨rfl, rfl⟩ rfl rfl rfl Try.sizeOf26 rfl rfl rfl fun w10 im10 hS24 => ?_))))))))
        have hS24 : Sep g T2 w10 [ownA (rInt .u8) 5 (.slice a4 n4 c4) u4.bytes.data, ownA rBool 4 (.slice a5 n5 c5) u4.bytes.set_, mapA (Value.int .i64) encStorePtr (.map r2) u4.ptrs, elsA nEStoreObject p0.list css2 (some (Int.toNat y1.1)), boxA b2 [.int .u32 0, .int .i64 (((mGetO u4.ptrs p1.Off).getD (⟨0, 0, 0, 0⟩ : StorePtr)).Obj), .int .i64 (((mGetO u4.ptrs p1.Off).getD (⟨0, 0, 0, 0⟩ : StorePtr)).Lo), .int .i64 (((mGetO u4.ptrs p1.Off).getD (⟨0, 0, 0, 0⟩ : StorePtr)).Hi), .int .i64 (((mGetO u4.ptrs p1.Off).getD (⟨0, 0, 0, 0⟩ : StorePtr)).Off), .bool true], boxA b1 [.int .i64 p1.Obj, .int .i64 p1.Lo, .int .i64 p1.Hi, .int .i64 p1.Off], R, H_p0 [.slice a1 n1 c1], (holeA (rRaw 4) 59 (.slice a1 n1 c1) css2 (Int.toNat y1.1)) [.slice a4 n4 c4, .slice a5 n5 c5, .map r2, .bool u4.gone]] := hS24
        refine ⟨st0, ?_⟩
        refine s0 rfl trivial (fun _ => r_zi rfl) rfl (se (t_thenR [(8, .pointer (some ⟨b2, 0, none⟩)), (9, .int .i64 0)] ⟨rfl, rfl, trivial⟩ fun J => ?_))
        have hS25 := hS24.bun [0, 1, 2] [3, 4, 5, 6, 7, 8] rfl
        have hS26 : Sep g T2 w10 [nEStoreObject.A u4 [.slice a4 n4 c4, .slice a5 n5 c5, .map r2, .bool u4.gone], elsA nEStoreObject p0.list css2 (some (Int.toNat y1.1)), boxA b2 [.int .u32 0, .int .i64 (((mGetO u4.ptrs p1.Off).getD (⟨0, 0, 0, 0⟩ : StorePtr)).Obj), .int .i64 (((mGetO u4.ptrs p1.Off).getD (⟨0, 0, 0, 0⟩ : StorePtr)).Lo), .int .i64 (((mGetO u4.ptrs p1.Off).getD (⟨0, 0, 0, 0⟩ : StorePtr)).Hi), .int .i64 (((mGetO u4.ptrs p1.Off).getD (⟨0, 0, 0, 0⟩ : StorePtr)).Off), .bool true], boxA b1 [.int .i64 p1.Obj, .int .i64 p1.Lo, .int .i64 p1.Hi, .int .i64 p1.Off], R, H_p0 [.slice a1 n1 c1], (holeA (rRaw 4) 59 (.slice a1 n1 c1) css2 (Int.toNat y1.1)) [.slice a4 n4 c4, .slice a5 n5 c5, .map r2, .bool u4.gone]] := Sep.exI (a4, n4, c4, a5, n5, c5, r2) (Sep.pI rfl hS25)
        have hS27 : Sep g T2 w10 [boxA b2 [.int .u32 0, .int .i64 (((mGetO u4.ptrs p1.Off).getD (⟨0, 0, 0, 0⟩ : StorePtr)).Obj), .int .i64 (((mGetO u4.ptrs p1.Off).getD (⟨0, 0, 0, 0⟩ : StorePtr)).Lo), .int .i64 (((mGetO u4.ptrs p1.Off).getD (⟨0, 0, 0, 0⟩ : StorePtr)).Hi), .int .i64 (((mGetO u4.ptrs p1.Off).getD (⟨0, 0, 0, 0⟩ : StorePtr)).Off), .bool true], boxA b1 [.int .i64 p1.Obj, .int .i64 p1.Lo, .int .i64 p1.Hi, .int .i64 p1.Off], R, H_p0 [.slice a1 n1 c1], nestA nEStoreObject 59 (.slice a1 n1 c1) p0.list] := hS26.nunfocus0 (q := 4) ⟨rfl, rfl⟩ hx5
        have hm := Option.some.inj hm
        subst hm
        exact rtn (r_then (retN (vs := [.agg #[.int .u32 0, .int .i64 (((mGetO u4.ptrs p1.Off).getD (⟨0, 0, 0, 0⟩ : StorePtr)).Obj), .int .i64 (((mGetO u4.ptrs p1.Off).getD (⟨0, 0, 0, 0⟩ : StorePtr)).Lo), .int .i64 (((mGetO u4.ptrs p1.Off).getD (⟨0, 0, 0, 0⟩ : StorePtr)).Hi), .int .i64 (((mGetO u4.ptrs p1.Off).getD (⟨0, 0, 0, 0⟩ : StorePtr)).Off), .bool true], .int .i64 0]) rfl ⟨rvS rfl Try.isAgg26 Try.sizeOf26 rfl (hS27.bx (i := 0) ⟨rfl, rfl⟩), rfl, trivial⟩ rfl ⟨_, rfl, _, (Im.trans im1 (Im.trans im2 (Im.trans im3 (Im.trans im5 (Im.trans im9 im10))))), ⟨rfl, hS27.sel [2, 3, 4] rfl, trivial⟩⟩))
      · have hm := cfalse hb4 hm
        refine skp (t_thenR [(8, .pointer (some ⟨b2, 0, none⟩)), (12, .int .u32 x1)] ⟨rfl, rfl, trivial⟩ fun J => ?_)
        refine sq2 ?_
        refine rg (pv (r_mi rfl) (pv (r_bd (by kernel_rfl) rfl (u := .agg #[.int .u32 x1, .int .i64 0, .int .i64 0, .int .i64 0, .int .i64 0, .bool false])) (wl rfl (st0B (q := 0) hS5 ⟨rfl, rfl⟩ rfl rfl rfl Try.sizeOf26 rfl rfl rfl fun w11 im11 hS28 => ?_))))
        have hS28 : Sep g T2 w11 [boxA b2 [.int .u32 x1, .int .i64 0, .int .i64 0, .int .i64 0, .int .i64 0, .bool false], boxA b1 [.int .i64 p1.Obj, .int .i64 p1.Lo, .int .i64 p1.Hi, .int .i64 p1.Off], R, H_p0 [.slice a1 n1 c1], nestA nEStoreObject 59 (.slice a1 n1 c1) p0.list] := hS28
        refine pv (r_zi rfl) (nil (t_then ?_))
        have hm := Option.some.inj hm
        subst hm
        exact rtn (retN (vs := [.agg #[.int .u32 x1, .int .i64 0, .int .i64 0, .int .i64 0, .int .i64 0, .bool false], .int .i64 0]) rfl ⟨rvS rfl Try.isAgg26 Try.sizeOf26 rfl (hS28.bx (i := 0) ⟨rfl, rfl⟩), rfl, trivial⟩ rfl ⟨_, rfl, _, (Im.trans im1 (Im.trans im2 (Im.trans im3 (Im.trans im5 im11)))), ⟨rfl, hS28.sel [2, 3, 4] rfl, trivial⟩⟩)

set_option maxRecDepth 100000 in
set_option maxHeartbeats 1000000 in
theorem law11_awake_sim {g : World} {T0 : Nat → Prop} {w0 : World} {R : Assn}  {r : Bool} (hS : Sep g T0 w0 [R])  (hm : law11_awake = some r) :
    Calls Try.prog 6 #[] w0 (RetS T0 w0 fun T w v => v = .bool r ∧ Sep g T w [R] ∧ True) := by
  refine enter (args := []) Try.func6 rfl Try.ntmps6 rfl fun J => ?_
  unfold law11_awake at hm
  refine sq2 ?_
  refine rg (pv (r_zb rfl) (nil (t_then ?_)))
  refine sq2 ?_
  obtain ⟨y1, hx1, hm⟩ := bindS hm
  refine rg (wl rfl (calS cf7 rfl (store_New_sim  (hS.bun [0] [] rfl)  hx1) rfl fun v1 T1 w1 im1 rv1 => ?_))
  obtain ⟨b1, a1, n1, c1, rfl, hS1, _⟩ := rv1
  have hS1 : Sep g T1 w1 [R, boxA b1 [.slice a1 n1 c1], nestA nEStoreObject 59 (.slice a1 n1 c1) y1.list] := hS1.unb
  refine pv (r_zp rfl) (nil (t_then ?_))
  refine sq2 ?_
  obtain ⟨y2, hx2, hm⟩ := bindS hm
  refine rg (pv (r_mp rfl) (wl rfl (calS cf8 rfl (store_Store_Make_sim (p0 := y1) (H_p0 := boxA b1) (p1 := 8) (hS1.bun [0] [1, 2] rfl) (lnBox b1) hx2) rfl fun v2 T2 w2 im2 rv2 => ?_)))
  obtain ⟨a2, n2, c2, rfl, hS2, _⟩ := rv2
  have hS2 : Sep g T2 w2 [R, boxA b1 [.slice a2 n2 c2], nestA nEStoreObject 59 (.slice a2 n2 c2) y2.2.2.list] := hS2.unb
  refine pv (r_mv rfl) (pv (r_ex (v := .agg #[.int .i64 y2.1.Obj, .int .i64 y2.1.Lo, .int .i64 y2.1.Hi, .int .i64 y2.1.Off]) rfl rfl) (pv (r_ex (v := .int .i64 y2.2.1) rfl rfl) (wl rfl (alS (zs := [.int .i64 0, .int .i64 0, .int .i64 0, .int .i64 0]) Try.zeroValue24 rfl hS2 fun w3 b2 im3 hS3 => ?_))))
  refine wl rfl (st0B (q := 0) hS3 ⟨rfl, rfl⟩ rfl rfl rfl Try.sizeOf24 rfl rfl rfl fun w4 im4 hS4 => ?_)
  have hS4 : Sep g T2 w4 [boxA b2 [.int .i64 y2.1.Obj, .int .i64 y2.1.Lo, .int .i64 y2.1.Hi, .int .i64 y2.1.Off], R, boxA b1 [.slice a2 n2 c2], nestA nEStoreObject 59 (.slice a2 n2 c2) y2.2.2.list] := hS4
  refine pv (r_zi rfl) (nil (t_thenR [(1, .pointer (some ⟨b1, 0, none⟩)), (2, .pointer (some ⟨b2, 0, none⟩)), (3, .int .i64 y2.2.1)] ⟨rfl, rfl, rfl, trivial⟩ fun J => ?_))
  refine sq2 ?_
  obtain ⟨y3, hx3, hm⟩ := bindS hm
  refine rg (pv (r_mp rfl) (pv (r_ldS rfl Try.isAgg24 Try.sizeOf24 rfl (hS4.cells0 (i := 0) ⟨rfl, rfl⟩ (o := 0) rfl) (cs := [.int .i64 y2.1.Obj, .int .i64 y2.1.Lo, .int .i64 y2.1.Hi, .int .i64 y2.1.Off])) (wl rfl (calS cf9 rfl (store_Store_Move_sim (p0 := y2.2.2) (H_p0 := boxA b1) (p1 := y2.1) (p2 := 4) (hS4.bun [0, 1] [2, 3] rfl) (lnBox b1) hx3) rfl fun v3 T3 w5 im5 rv3 => ?_))))
  obtain ⟨rfl, hS5, _⟩ := rv3
  have hS5 : Sep g T3 w5 [boxA b2 [.int .i64 y2.1.Obj, .int .i64 y2.1.Lo, .int .i64 y2.1.Hi, .int .i64 y2.1.Off], R, boxA b1 [.slice a2 n2 c2], nestA nEStoreObject 59 (.slice a2 n2 c2) y2.2.2.list] := hS5.unb
  refine pv (r_mv rfl) (pv (r_ex (v := .agg #[.int .i64 y3.1.Obj, .int .i64 y3.1.Lo, .int .i64 y3.1.Hi, .int .i64 y3.1.Off]) rfl rfl) (pv (r_ex (v := .int .i64 y3.2) rfl rfl) (wl rfl (alS (zs := [.int .i64 0, .int .i64 0, .int .i64 0, .int .i64 0]) Try.zeroValue24 rfl hS5 fun w6 b3 im6 hS6 => ?_))))
  refine wl rfl (st0B (q := 0) hS6 ⟨rfl, rfl⟩ rfl rfl rfl Try.sizeOf24 rfl rfl rfl fun w7 im7 hS7 => ?_)
  have hS7 : Sep g T3 w7 [boxA b3 [.int .i64 y3.1.Obj, .int .i64 y3.1.Lo, .int .i64 y3.1.Hi, .int .i64 y3.1.Off], boxA b2 [.int .i64 y2.1.Obj, .int .i64 y2.1.Lo, .int .i64 y2.1.Hi, .int .i64 y2.1.Off], R, boxA b1 [.slice a2 n2 c2], nestA nEStoreObject 59 (.slice a2 n2 c2) y2.2.2.list] := hS7
  refine pv (r_zi rfl) (nil (t_thenR [(1, .pointer (some ⟨b1, 0, none⟩)), (2, .pointer (some ⟨b2, 0, none⟩)), (3, .int .i64 y2.2.1), (4, .pointer (some ⟨b3, 0, none⟩)), (5, .int .i64 y3.2)] ⟨rfl, rfl, rfl, rfl, rfl, trivial⟩ fun J => ?_))
  refine sq2 ?_
  obtain ⟨y4, hx4, hm⟩ := bindS hm
  refine rg (pv (r_mp rfl) (pv (r_ldS rfl Try.isAgg24 Try.sizeOf24 rfl (hS7.cells0 (i := 0) ⟨rfl, rfl⟩ (o := 0) rfl) (cs := [.int .i64 y3.1.Obj, .int .i64 y3.1.Lo, .int .i64 y3.1.Hi, .int .i64 y3.1.Off])) (pv (r_bd (by kernel_rfl) rfl (u := .agg #[.int .u32 7, .int .i64 0, .int .i64 0, .int .i64 0, .int .i64 0, .bool false])) (wl rfl (calS cf10 rfl (store_Store_Put_sim (p0 := y2.2.2) (H_p0 := boxA b1) (p1 := y3.1) (p2 := 4) (p3 := (⟨7, (⟨0, 0, 0, 0⟩ : StorePtr), false⟩ : StoreValue)) (hS7.bun [0, 1, 2] [3, 4] rfl) (lnBox b1) hx4) rfl fun v4 T4 w8 im8 rv4 => ?_)))))
  obtain ⟨a3, n3, c3, rfl, hS8, _⟩ := rv4
  have hS8 : Sep g T4 w8 [boxA b3 [.int .i64 y3.1.Obj, .int .i64 y3.1.Lo, .int .i64 y3.1.Hi, .int .i64 y3.1.Off], boxA b2 [.int .i64 y2.1.Obj, .int .i64 y2.1.Lo, .int .i64 y2.1.Hi, .int .i64 y2.1.Off], R, boxA b1 [.slice a3 n3 c3], nestA nEStoreObject 59 (.slice a3 n3 c3) y4.2.list] := hS8.unb
  refine pv (r_zi rfl) (nil (t_then ?_))
  refine sq2 ?_
  obtain ⟨y5, hx5, hm⟩ := bindS hm
  refine rg (pv (r_mp rfl) (pv (r_ldS rfl Try.isAgg24 Try.sizeOf24 rfl (hS8.cells0 (i := 0) ⟨rfl, rfl⟩ (o := 0) rfl) (cs := [.int .i64 y3.1.Obj, .int .i64 y3.1.Lo, .int .i64 y3.1.Hi, .int .i64 y3.1.Off])) (wl rfl (calS cf11 rfl (store_Store_Load_sim (p0 := y4.2) (H_p0 := boxA b1) (p1 := y3.1) (p2 := 4) (p3 := false) (hS8.bun [1, 2] [3, 4] rfl) (lnBox b1) hx5) rfl fun v5 T5 w9 im9 rv5 => ?_))))
  obtain ⟨rfl, hS9, _⟩ := rv5
  have hS9 : Sep g T5 w9 [boxA b2 [.int .i64 y2.1.Obj, .int .i64 y2.1.Lo, .int .i64 y2.1.Hi, .int .i64 y2.1.Off], R, boxA b1 [.slice a3 n3 c3], nestA nEStoreObject 59 (.slice a3 n3 c3) y4.2.list] := hS9.unb
  refine pv (r_mv rfl) (pv (r_ex (v := .agg #[.int .u32 y5.1.Num, .int .i64 y5.1.Ptr.Obj, .int .i64 y5.1.Ptr.Lo, .int .i64 y5.1.Ptr.Hi, .int .i64 y5.1.Ptr.Off, .bool y5.1.Is]) rfl rfl) (pv (r_ex (v := .int .i64 y5.2) rfl rfl) (wl rfl (alS (zs := [.int .u32 0, .int .i64 0, .int .i64 0, .int .i64 0, .int .i64 0, .bool false]) Try.zeroValue26 rfl hS9 fun w10 b4 im10 hS10 => ?_))))
  refine wl rfl (st0B (q := 0) hS10 ⟨rfl, rfl⟩ rfl rfl rfl Try.sizeOf26 rfl rfl rfl fun w11 im11 hS11 => ?_)
  have hS11 : Sep g T5 w11 [boxA b4 [.int .u32 y5.1.Num, .int .i64 y5.1.Ptr.Obj, .int .i64 y5.1.Ptr.Lo, .int .i64 y5.1.Ptr.Hi, .int .i64 y5.1.Ptr.Off, .bool y5.1.Is], boxA b2 [.int .i64 y2.1.Obj, .int .i64 y2.1.Lo, .int .i64 y2.1.Hi, .int .i64 y2.1.Off], R, boxA b1 [.slice a3 n3 c3], nestA nEStoreObject 59 (.slice a3 n3 c3) y4.2.list] := hS11
  refine pv (r_zi rfl) (nil (t_thenR [(1, .pointer (some ⟨b1, 0, none⟩)), (2, .pointer (some ⟨b2, 0, none⟩)), (3, .int .i64 y2.2.1), (5, .int .i64 y3.2), (6, .int .i64 y4.1), (7, .pointer (some ⟨b4, 0, none⟩)), (8, .int .i64 y5.2)] ⟨rfl, rfl, rfl, rfl, rfl, rfl, rfl, trivial⟩ fun J => ?_))
  refine sq2 ?_
  obtain ⟨y6, hx6, hm⟩ := bindS hm
  refine rg (pv (r_mp rfl) (pv (r_ldS rfl Try.isAgg24 Try.sizeOf24 rfl (hS11.cells0 (i := 1) ⟨rfl, rfl⟩ (o := 0) rfl) (cs := [.int .i64 y2.1.Obj, .int .i64 y2.1.Lo, .int .i64 y2.1.Hi, .int .i64 y2.1.Off])) (wl rfl (calS cf11 rfl (store_Store_Load_sim (p0 := y4.2) (H_p0 := boxA b1) (p1 := y2.1) (p2 := 4) (p3 := false) (hS11.bun [0, 1, 2] [3, 4] rfl) (lnBox b1) hx6) rfl fun v6 T6 w12 im12 rv6 => ?_))))
  obtain ⟨rfl, hS12, _⟩ := rv6
  have hS12 : Sep g T6 w12 [boxA b4 [.int .u32 y5.1.Num, .int .i64 y5.1.Ptr.Obj, .int .i64 y5.1.Ptr.Lo, .int .i64 y5.1.Ptr.Hi, .int .i64 y5.1.Ptr.Off, .bool y5.1.Is], boxA b2 [.int .i64 y2.1.Obj, .int .i64 y2.1.Lo, .int .i64 y2.1.Hi, .int .i64 y2.1.Off], R, boxA b1 [.slice a3 n3 c3], nestA nEStoreObject 59 (.slice a3 n3 c3) y4.2.list] := hS12.unb
  refine pv (r_mv rfl) (pv (r_ex (v := .agg #[.int .u32 y6.1.Num, .int .i64 y6.1.Ptr.Obj, .int .i64 y6.1.Ptr.Lo, .int .i64 y6.1.Ptr.Hi, .int .i64 y6.1.Ptr.Off, .bool y6.1.Is]) rfl rfl) (pv (r_ex (v := .int .i64 y6.2) rfl rfl) (wl rfl (alS (zs := [.int .u32 0, .int .i64 0, .int .i64 0, .int .i64 0, .int .i64 0, .bool false]) Try.zeroValue26 rfl hS12 fun w13 b5 im13 hS13 => ?_))))
  refine wl rfl (st0B (q := 0) hS13 ⟨rfl, rfl⟩ rfl rfl rfl Try.sizeOf26 rfl rfl rfl fun w14 im14 hS14 => ?_)
  have hS14 : Sep g T6 w14 [boxA b5 [.int .u32 y6.1.Num, .int .i64 y6.1.Ptr.Obj, .int .i64 y6.1.Ptr.Lo, .int .i64 y6.1.Ptr.Hi, .int .i64 y6.1.Ptr.Off, .bool y6.1.Is], boxA b4 [.int .u32 y5.1.Num, .int .i64 y5.1.Ptr.Obj, .int .i64 y5.1.Ptr.Lo, .int .i64 y5.1.Ptr.Hi, .int .i64 y5.1.Ptr.Off, .bool y5.1.Is], boxA b2 [.int .i64 y2.1.Obj, .int .i64 y2.1.Lo, .int .i64 y2.1.Hi, .int .i64 y2.1.Off], R, boxA b1 [.slice a3 n3 c3], nestA nEStoreObject 59 (.slice a3 n3 c3) y4.2.list] := hS14
  refine pv (r_zi rfl) (nil (t_thenR [(1, .pointer (some ⟨b1, 0, none⟩)), (2, .pointer (some ⟨b2, 0, none⟩)), (3, .int .i64 y2.2.1), (5, .int .i64 y3.2), (6, .int .i64 y4.1), (7, .pointer (some ⟨b4, 0, none⟩)), (8, .int .i64 y5.2), (10, .int .i64 y6.2)] ⟨rfl, rfl, rfl, rfl, rfl, rfl, rfl, rfl, trivial⟩ fun J => ?_))
  refine sq2 ?_
  obtain ⟨y7, hx7, hm⟩ := bindS hm
  refine rg (pv (r_mp rfl) (pv (r_ldS rfl Try.isAgg24 Try.sizeOf24 rfl (hS14.cells0 (i := 2) ⟨rfl, rfl⟩ (o := 0) rfl) (cs := [.int .i64 y2.1.Obj, .int .i64 y2.1.Lo, .int .i64 y2.1.Hi, .int .i64 y2.1.Off])) (wl rfl (calS cf9 rfl (store_Store_Move_sim (p0 := y4.2) (H_p0 := boxA b1) (p1 := y2.1) (p2 := 8) (hS14.bun [1, 3] [4, 5] rfl) (lnBox b1) hx7) rfl fun v7 T7 w15 im15 rv7 => ?_))))
  obtain ⟨rfl, hS15, _⟩ := rv7
  have hS15 : Sep g T7 w15 [boxA b4 [.int .u32 y5.1.Num, .int .i64 y5.1.Ptr.Obj, .int .i64 y5.1.Ptr.Lo, .int .i64 y5.1.Ptr.Hi, .int .i64 y5.1.Ptr.Off, .bool y5.1.Is], R, boxA b1 [.slice a3 n3 c3], nestA nEStoreObject 59 (.slice a3 n3 c3) y4.2.list] := hS15.unb
  refine pv (r_mv rfl) (pv (r_ex (v := .agg #[.int .i64 y7.1.Obj, .int .i64 y7.1.Lo, .int .i64 y7.1.Hi, .int .i64 y7.1.Off]) rfl rfl) (pv (r_ex (v := .int .i64 y7.2) rfl rfl) (wl rfl (alS (zs := [.int .i64 0, .int .i64 0, .int .i64 0, .int .i64 0]) Try.zeroValue24 rfl hS15 fun w16 b6 im16 hS16 => ?_))))
  refine wl rfl (st0B (q := 0) hS16 ⟨rfl, rfl⟩ rfl rfl rfl Try.sizeOf24 rfl rfl rfl fun w17 im17 hS17 => ?_)
  have hS17 : Sep g T7 w17 [boxA b6 [.int .i64 y7.1.Obj, .int .i64 y7.1.Lo, .int .i64 y7.1.Hi, .int .i64 y7.1.Off], boxA b4 [.int .u32 y5.1.Num, .int .i64 y5.1.Ptr.Obj, .int .i64 y5.1.Ptr.Lo, .int .i64 y5.1.Ptr.Hi, .int .i64 y5.1.Ptr.Off, .bool y5.1.Is], R, boxA b1 [.slice a3 n3 c3], nestA nEStoreObject 59 (.slice a3 n3 c3) y4.2.list] := hS17
  refine pv (r_zi rfl) (nil (t_thenR [(1, .pointer (some ⟨b1, 0, none⟩)), (3, .int .i64 y2.2.1), (5, .int .i64 y3.2), (6, .int .i64 y4.1), (7, .pointer (some ⟨b4, 0, none⟩)), (8, .int .i64 y5.2), (10, .int .i64 y6.2), (11, .pointer (some ⟨b6, 0, none⟩)), (12, .int .i64 y7.2)] ⟨rfl, rfl, rfl, rfl, rfl, rfl, rfl, rfl, rfl, trivial⟩ fun J => ?_))
  refine sq2 ?_
  obtain ⟨y8, hx8, hm⟩ := bindS hm
  refine rg (pv (r_mp rfl) (pv (r_ldS rfl Try.isAgg24 Try.sizeOf24 rfl (hS17.cells0 (i := 0) ⟨rfl, rfl⟩ (o := 0) rfl) (cs := [.int .i64 y7.1.Obj, .int .i64 y7.1.Lo, .int .i64 y7.1.Hi, .int .i64 y7.1.Off])) (wl rfl (calS cf11 rfl (store_Store_Load_sim (p0 := y4.2) (H_p0 := boxA b1) (p1 := y7.1) (p2 := 1) (p3 := false) (hS17.bun [1, 2] [3, 4] rfl) (lnBox b1) hx8) rfl fun v8 T8 w18 im18 rv8 => ?_))))
  obtain ⟨rfl, hS18, _⟩ := rv8
  have hS18 : Sep g T8 w18 [boxA b4 [.int .u32 y5.1.Num, .int .i64 y5.1.Ptr.Obj, .int .i64 y5.1.Ptr.Lo, .int .i64 y5.1.Ptr.Hi, .int .i64 y5.1.Ptr.Off, .bool y5.1.Is], R, boxA b1 [.slice a3 n3 c3], nestA nEStoreObject 59 (.slice a3 n3 c3) y4.2.list] := hS18.unb
  refine pv (r_mv rfl) (pv (r_ex (v := .agg #[.int .u32 y8.1.Num, .int .i64 y8.1.Ptr.Obj, .int .i64 y8.1.Ptr.Lo, .int .i64 y8.1.Ptr.Hi, .int .i64 y8.1.Ptr.Off, .bool y8.1.Is]) rfl rfl) (pv (r_ex (v := .int .i64 y8.2) rfl rfl) (wl rfl (alS (zs := [.int .u32 0, .int .i64 0, .int .i64 0, .int .i64 0, .int .i64 0, .bool false]) Try.zeroValue26 rfl hS18 fun w19 b7 im19 hS19 => ?_))))
  refine wl rfl (st0B (q := 0) hS19 ⟨rfl, rfl⟩ rfl rfl rfl Try.sizeOf26 rfl rfl rfl fun w20 im20 hS20 => ?_)
  have hS20 : Sep g T8 w20 [boxA b7 [.int .u32 y8.1.Num, .int .i64 y8.1.Ptr.Obj, .int .i64 y8.1.Ptr.Lo, .int .i64 y8.1.Ptr.Hi, .int .i64 y8.1.Ptr.Off, .bool y8.1.Is], boxA b4 [.int .u32 y5.1.Num, .int .i64 y5.1.Ptr.Obj, .int .i64 y5.1.Ptr.Lo, .int .i64 y5.1.Ptr.Hi, .int .i64 y5.1.Ptr.Off, .bool y5.1.Is], R, boxA b1 [.slice a3 n3 c3], nestA nEStoreObject 59 (.slice a3 n3 c3) y4.2.list] := hS20
  refine pv (r_zi rfl) (nil (t_thenR [(3, .int .i64 y2.2.1), (5, .int .i64 y3.2), (6, .int .i64 y4.1), (7, .pointer (some ⟨b4, 0, none⟩)), (8, .int .i64 y5.2), (10, .int .i64 y6.2), (12, .int .i64 y7.2), (14, .int .i64 y8.2)] ⟨rfl, rfl, rfl, rfl, rfl, rfl, rfl, rfl, trivial⟩ fun J => ?_))
  refine sq2 ?_
  refine rg (pv (r_mi rfl) (pv (r_ib rfl rfl rfl) (pv (r_mb rfl) (?_))))
  rcases Bool.eq_false_or_eq_true (y2.2.1 == 0) with hb1 | hb1
  · have hm := ctrue hb1 hm
    refine gT (d0 := 57) rfl rfl hb1 (pv (r_mi rfl) (gT (d0 := 57) rfl rfl hb1 (pv (r_ib rfl rfl rfl) (pv (r_pkt rfl hb1 rfl) (pv (r_mb rfl) (?_))))))
    rcases Bool.eq_false_or_eq_true (y3.2 == 0) with hb2 | hb2
    · have hm := ctrue hb2 hm
      refine gT (d0 := 61) rfl rfl hb2 (pv (r_mi rfl) (gT (d0 := 61) rfl rfl hb2 (pv (r_ib rfl rfl rfl) (pv (r_pkt rfl hb2 rfl) (pv (r_mb rfl) (?_))))))
      rcases Bool.eq_false_or_eq_true (y4.1 == 0) with hb3 | hb3
      · have hm := ctrue hb3 hm
        refine gT (d0 := 65) rfl rfl hb3 (pv (r_mi rfl) (gT (d0 := 65) rfl rfl hb3 (pv (r_ib rfl rfl rfl) (pv (r_pkt rfl hb3 rfl) (pv (r_mb rfl) (?_))))))
        rcases Bool.eq_false_or_eq_true (y5.2 == 0) with hb4 | hb4
        · have hm := ctrue hb4 hm
          refine gT (d0 := 69) rfl rfl hb4 (pv (r_fa rfl Try.underlying26 rfl Try.sizeOf22 rfl) (gT (d0 := 69) rfl rfl hb4 (pv (r_ld rfl Try.isAgg22 (hS20.cell0 (i := 1) ⟨rfl, rfl⟩ (j := 0) rfl)) (gT (d0 := 69) rfl rfl hb4 (pv (r_ib rfl rfl rfl) (pv (r_pkt rfl hb4 rfl) (pv (r_mb rfl) (?_))))))))
          rcases Bool.eq_false_or_eq_true (y5.1.Num == 7) with hb5 | hb5
          · have hm := ctrue hb5 hm
            refine gT (d0 := 74) rfl rfl hb5 (pv (r_mi rfl) (gT (d0 := 74) rfl rfl hb5 (pv (r_ib rfl rfl rfl) (pv (r_pkt rfl hb5 rfl) (pv (r_mb rfl) (?_))))))
            rcases Bool.eq_false_or_eq_true (y6.2 == 13) with hb6 | hb6
            · have hm := ctrue hb6 hm
              refine gT (d0 := 78) rfl rfl hb6 (pv (r_mi rfl) (gT (d0 := 78) rfl rfl hb6 (pv (r_ib rfl rfl rfl) (pv (r_pkt rfl hb6 rfl) (pv (r_mb rfl) (?_))))))
              rcases Bool.eq_false_or_eq_true (y7.2 == 0) with hb7 | hb7
              · have hm := ctrue hb7 hm
                refine gT (d0 := 82) rfl rfl hb7 (pv (r_mi rfl) (gT (d0 := 82) rfl rfl hb7 (pv (r_ib rfl rfl rfl) (pv (r_pkt rfl hb7 rfl) (pv (r_zb rfl) (nil (t_thenR [(0, .bool (y8.2 == 12))] ⟨rfl, trivial⟩ fun J => ?_)))))))
                have hm := Option.some.inj hm
                subst hm
                exact rtn (ret1 rfl rfl ⟨_, rfl, _, (Im.trans im1 (Im.trans im2 (Im.trans im3 (Im.trans im4 (Im.trans im5 (Im.trans im6 (Im.trans im7 (Im.trans im8 (Im.trans im9 (Im.trans im10 (Im.trans im11 (Im.trans im12 (Im.trans im13 (Im.trans im14 (Im.trans im15 (Im.trans im16 (Im.trans im17 (Im.trans im18 (Im.trans im19 im20))))))))))))))))))), ⟨rfl, hS20.sel [2] rfl, trivial⟩⟩)
              · have hm := cfalse hb7 hm
                refine gF (d0 := 82) rfl rfl (by rw [hb7]; rfl) (gF (d0 := 82) rfl rfl (by rw [hb7]; rfl) (pv (r_pkf rfl hb7 rfl) (pv (r_zb rfl) (nil (t_thenR [(0, .bool false)] ⟨rfl, trivial⟩ fun J => ?_)))))
                have hm := Option.some.inj hm
                subst hm
                exact rtn (ret1 rfl rfl ⟨_, rfl, _, (Im.trans im1 (Im.trans im2 (Im.trans im3 (Im.trans im4 (Im.trans im5 (Im.trans im6 (Im.trans im7 (Im.trans im8 (Im.trans im9 (Im.trans im10 (Im.trans im11 (Im.trans im12 (Im.trans im13 (Im.trans im14 (Im.trans im15 (Im.trans im16 (Im.trans im17 (Im.trans im18 (Im.trans im19 im20))))))))))))))))))), ⟨rfl, hS20.sel [2] rfl, trivial⟩⟩)
            · have hm := cfalse hb6 hm
              refine gF (d0 := 78) rfl rfl (by rw [hb6]; rfl) (gF (d0 := 78) rfl rfl (by rw [hb6]; rfl) (pv (r_pkf rfl hb6 rfl) (pv (r_mb rfl) (gF (d0 := 82) rfl rfl rfl (gF (d0 := 82) rfl rfl rfl (pv (r_pkf rfl rfl rfl) (pv (r_zb rfl) (nil (t_thenR [(0, .bool false)] ⟨rfl, trivial⟩ fun J => ?_)))))))))
              have hm := Option.some.inj hm
              subst hm
              exact rtn (ret1 rfl rfl ⟨_, rfl, _, (Im.trans im1 (Im.trans im2 (Im.trans im3 (Im.trans im4 (Im.trans im5 (Im.trans im6 (Im.trans im7 (Im.trans im8 (Im.trans im9 (Im.trans im10 (Im.trans im11 (Im.trans im12 (Im.trans im13 (Im.trans im14 (Im.trans im15 (Im.trans im16 (Im.trans im17 (Im.trans im18 (Im.trans im19 im20))))))))))))))))))), ⟨rfl, hS20.sel [2] rfl, trivial⟩⟩)
          · have hm := cfalse hb5 hm
            refine gF (d0 := 74) rfl rfl (by rw [hb5]; rfl) (gF (d0 := 74) rfl rfl (by rw [hb5]; rfl) (pv (r_pkf rfl hb5 rfl) (pv (r_mb rfl) (gF (d0 := 78) rfl rfl rfl (gF (d0 := 78) rfl rfl rfl (pv (r_pkf rfl rfl rfl) (pv (r_mb rfl) (gF (d0 := 82) rfl rfl rfl (gF (d0 := 82) rfl rfl rfl (pv (r_pkf rfl rfl rfl) (pv (r_zb rfl) (nil (t_thenR [(0, .bool false)] ⟨rfl, trivial⟩ fun J => ?_)))))))))))))
            have hm := Option.some.inj hm
            subst hm
            exact rtn (ret1 rfl rfl ⟨_, rfl, _, (Im.trans im1 (Im.trans im2 (Im.trans im3 (Im.trans im4 (Im.trans im5 (Im.trans im6 (Im.trans im7 (Im.trans im8 (Im.trans im9 (Im.trans im10 (Im.trans im11 (Im.trans im12 (Im.trans im13 (Im.trans im14 (Im.trans im15 (Im.trans im16 (Im.trans im17 (Im.trans im18 (Im.trans im19 im20))))))))))))))))))), ⟨rfl, hS20.sel [2] rfl, trivial⟩⟩)
        · have hm := cfalse hb4 hm
          refine gF (d0 := 69) rfl rfl (by rw [hb4]; rfl) (gF (d0 := 69) rfl rfl (by rw [hb4]; rfl) (gF (d0 := 69) rfl rfl (by rw [hb4]; rfl) (pv (r_pkf rfl hb4 rfl) (pv (r_mb rfl) (gF (d0 := 74) rfl rfl rfl (gF (d0 := 74) rfl rfl rfl (pv (r_pkf rfl rfl rfl) (pv (r_mb rfl) (gF (d0 := 78) rfl rfl rfl (gF (d0 := 78) rfl rfl rfl (pv (r_pkf rfl rfl rfl) (pv (r_mb rfl) (gF (d0 := 82) rfl rfl rfl (gF (d0 := 82) rfl rfl rfl (pv (r_pkf rfl rfl rfl) (pv (r_zb rfl) (nil (t_thenR [(0, .bool false)] ⟨rfl, trivial⟩ fun J => ?_))))))))))))))))))
          have hm := Option.some.inj hm
          subst hm
          exact rtn (ret1 rfl rfl ⟨_, rfl, _, (Im.trans im1 (Im.trans im2 (Im.trans im3 (Im.trans im4 (Im.trans im5 (Im.trans im6 (Im.trans im7 (Im.trans im8 (Im.trans im9 (Im.trans im10 (Im.trans im11 (Im.trans im12 (Im.trans im13 (Im.trans im14 (Im.trans im15 (Im.trans im16 (Im.trans im17 (Im.trans im18 (Im.trans im19 im20))))))))))))))))))), ⟨rfl, hS20.sel [2] rfl, trivial⟩⟩)
      · have hm := cfalse hb3 hm
        refine gF (d0 := 65) rfl rfl (by rw [hb3]; rfl) (gF (d0 := 65) rfl rfl (by rw [hb3]; rfl) (pv (r_pkf rfl hb3 rfl) (pv (r_mb rfl) (gF (d0 := 69) rfl rfl rfl (gF (d0 := 69) rfl rfl rfl (gF (d0 := 69) rfl rfl rfl (pv (r_pkf rfl rfl rfl) (pv (r_mb rfl) (gF (d0 := 74) rfl rfl rfl (gF (d0 := 74) rfl rfl rfl (pv (r_pkf rfl rfl rfl) (pv (r_mb rfl) (gF (d0 := 78) rfl rfl rfl (gF (d0 := 78) rfl rfl rfl (pv (r_pkf rfl rfl rfl) (pv (r_mb rfl) (gF (d0 := 82) rfl rfl rfl (gF (d0 := 82) rfl rfl rfl (pv (r_pkf rfl rfl rfl) (pv (r_zb rfl) (nil (t_thenR [(0, .bool false)] ⟨rfl, trivial⟩ fun J => ?_))))))))))))))))))))))
        have hm := Option.some.inj hm
        subst hm
        exact rtn (ret1 rfl rfl ⟨_, rfl, _, (Im.trans im1 (Im.trans im2 (Im.trans im3 (Im.trans im4 (Im.trans im5 (Im.trans im6 (Im.trans im7 (Im.trans im8 (Im.trans im9 (Im.trans im10 (Im.trans im11 (Im.trans im12 (Im.trans im13 (Im.trans im14 (Im.trans im15 (Im.trans im16 (Im.trans im17 (Im.trans im18 (Im.trans im19 im20))))))))))))))))))), ⟨rfl, hS20.sel [2] rfl, trivial⟩⟩)
    · have hm := cfalse hb2 hm
      refine gF (d0 := 61) rfl rfl (by rw [hb2]; rfl) (gF (d0 := 61) rfl rfl (by rw [hb2]; rfl) (pv (r_pkf rfl hb2 rfl) (pv (r_mb rfl) (gF (d0 := 65) rfl rfl rfl (gF (d0 := 65) rfl rfl rfl (pv (r_pkf rfl rfl rfl) (pv (r_mb rfl) (gF (d0 := 69) rfl rfl rfl (gF (d0 := 69) rfl rfl rfl (gF (d0 := 69) rfl rfl rfl (pv (r_pkf rfl rfl rfl) (pv (r_mb rfl) (gF (d0 := 74) rfl rfl rfl (gF (d0 := 74) rfl rfl rfl (pv (r_pkf rfl rfl rfl) (pv (r_mb rfl) (gF (d0 := 78) rfl rfl rfl (gF (d0 := 78) rfl rfl rfl (pv (r_pkf rfl rfl rfl) (pv (r_mb rfl) (gF (d0 := 82) rfl rfl rfl (gF (d0 := 82) rfl rfl rfl (pv (r_pkf rfl rfl rfl) (pv (r_zb rfl) (nil (t_thenR [(0, .bool false)] ⟨rfl, trivial⟩ fun J => ?_))))))))))))))))))))))))))
      have hm := Option.some.inj hm
      subst hm
      exact rtn (ret1 rfl rfl ⟨_, rfl, _, (Im.trans im1 (Im.trans im2 (Im.trans im3 (Im.trans im4 (Im.trans im5 (Im.trans im6 (Im.trans im7 (Im.trans im8 (Im.trans im9 (Im.trans im10 (Im.trans im11 (Im.trans im12 (Im.trans im13 (Im.trans im14 (Im.trans im15 (Im.trans im16 (Im.trans im17 (Im.trans im18 (Im.trans im19 im20))))))))))))))))))), ⟨rfl, hS20.sel [2] rfl, trivial⟩⟩)
  · have hm := cfalse hb1 hm
    refine gF (d0 := 57) rfl rfl (by rw [hb1]; rfl) (gF (d0 := 57) rfl rfl (by rw [hb1]; rfl) (pv (r_pkf rfl hb1 rfl) (pv (r_mb rfl) (gF (d0 := 61) rfl rfl rfl (gF (d0 := 61) rfl rfl rfl (pv (r_pkf rfl rfl rfl) (pv (r_mb rfl) (gF (d0 := 65) rfl rfl rfl (gF (d0 := 65) rfl rfl rfl (pv (r_pkf rfl rfl rfl) (pv (r_mb rfl) (gF (d0 := 69) rfl rfl rfl (gF (d0 := 69) rfl rfl rfl (gF (d0 := 69) rfl rfl rfl (pv (r_pkf rfl rfl rfl) (pv (r_mb rfl) (gF (d0 := 74) rfl rfl rfl (gF (d0 := 74) rfl rfl rfl (pv (r_pkf rfl rfl rfl) (pv (r_mb rfl) (gF (d0 := 78) rfl rfl rfl (gF (d0 := 78) rfl rfl rfl (pv (r_pkf rfl rfl rfl) (pv (r_mb rfl) (gF (d0 := 82) rfl rfl rfl (gF (d0 := 82) rfl rfl rfl (pv (r_pkf rfl rfl rfl) (pv (r_zb rfl) (nil (t_thenR [(0, .bool false)] ⟨rfl, trivial⟩ fun J => ?_))))))))))))))))))))))))))))))
    have hm := Option.some.inj hm
    subst hm
    exact rtn (ret1 rfl rfl ⟨_, rfl, _, (Im.trans im1 (Im.trans im2 (Im.trans im3 (Im.trans im4 (Im.trans im5 (Im.trans im6 (Im.trans im7 (Im.trans im8 (Im.trans im9 (Im.trans im10 (Im.trans im11 (Im.trans im12 (Im.trans im13 (Im.trans im14 (Im.trans im15 (Im.trans im16 (Im.trans im17 (Im.trans im18 (Im.trans im19 im20))))))))))))))))))), ⟨rfl, hS20.sel [2] rfl, trivial⟩⟩)
end Go.Proofs.Ytncfbaodlbgabaa
