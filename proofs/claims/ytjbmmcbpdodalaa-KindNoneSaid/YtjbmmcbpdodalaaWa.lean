/- That Go functions compute their models. Printed by gen2.py. -/
import Derived.Test.YtjbmmcbpdodalaaRows
import Derived.Test.YtjbmmcbpdodalaaFoc
import Derived.Test.YtjbmmcbpdodalaaTree
import Derived.Test.YtjbmmcbpdodalaaM
set_option linter.unusedVariables false
namespace Go.Proofs.Ytjbmmcbpdodalaa
attribute [local irreducible] wpList wpQuiet Code.wp
def rGField : Rp GField := ((rPair rStr (rPair (rInt .i64) (rInt .i64)))).iso fun x => (x.Name, x.Type_, x.At)
theorem rGField_open {T : Nat → Prop} {w : World} {cs : List Value} {x : GField} (h : rGField.rp T w cs x) : cs = [.string ⟨x.Name.toArray⟩, .int .i64 x.Type_, .int .i64 x.At] := by
  obtain ⟨q1, y1, rfl, f1, g1⟩ := h
  cases f1
  obtain ⟨q2, y2, rfl, f2, g2⟩ := g1
  cases f2
  cases g2
  exact rfl
theorem rGField_mk {T : Nat → Prop} {w : World} {x : GField}   : rGField.rp T w [.string ⟨x.Name.toArray⟩, .int .i64 x.Type_, .int .i64 x.At] x := ⟨_, _, rfl, rfl, ⟨_, _, rfl, rfl, rfl⟩⟩
def rlaw08Act : Rp law08Act := ((rPair (rInt .i64) (rPair (rInt .i64) (rPair (rInt .i64) (rPair rStr (rSl rGField)))))).iso fun x => (x.Kind, x.N, x.Long, x.Name, x.Fields)
theorem rlaw08Act_open {T : Nat → Prop} {w : World} {cs : List Value} {x : law08Act} (h : rlaw08Act.rp T w cs x) : ∃ (a4 : Option Addr) (c4 : Nat), cs = [.int .i64 x.Kind, .int .i64 x.N, .int .i64 x.Long, .string ⟨x.Name.toArray⟩, .slice a4 (List.length x.Fields) c4] ∧ SlR rGField T w (.slice a4 (List.length x.Fields) c4) x.Fields := by
  obtain ⟨q1, y1, rfl, f1, g1⟩ := h
  cases f1
  obtain ⟨q2, y2, rfl, f2, g2⟩ := g1
  cases f2
  obtain ⟨q3, y3, rfl, f3, g3⟩ := g2
  cases f3
  obtain ⟨q4, y4, rfl, f4, g4⟩ := g3
  cases f4
  obtain ⟨v5, rfl, s5⟩ := g4
  obtain ⟨b5, k5, rfl⟩ := s5.shape
  exact ⟨b5, k5, rfl, s5⟩
theorem rlaw08Act_mk {T : Nat → Prop} {w : World} {x : law08Act} {a4 : Option Addr} {c4 : Nat} (e0 : SlR rGField T w (.slice a4 (List.length x.Fields) c4) x.Fields) : rlaw08Act.rp T w [.int .i64 x.Kind, .int .i64 x.N, .int .i64 x.Long, .string ⟨x.Name.toArray⟩, .slice a4 (List.length x.Fields) c4] x := ⟨_, _, rfl, rfl, ⟨_, _, rfl, rfl, ⟨_, _, rfl, rfl, ⟨_, _, rfl, rfl, ⟨_, rfl, e0⟩⟩⟩⟩⟩
def rGType : Rp GType := ((rPair (rInt .i64) (rPair (rInt .i64) (rPair (rInt .i64) (rPair rStr (rSl rGField)))))).iso fun x => (x.Kind, x.Elem, x.Len, x.Name, x.Fields)
theorem rGType_open {T : Nat → Prop} {w : World} {cs : List Value} {x : GType} (h : rGType.rp T w cs x) : ∃ (a4 : Option Addr) (c4 : Nat), cs = [.int .i64 x.Kind, .int .i64 x.Elem, .int .i64 x.Len, .string ⟨x.Name.toArray⟩, .slice a4 (List.length x.Fields) c4] ∧ SlR rGField T w (.slice a4 (List.length x.Fields) c4) x.Fields := by
  obtain ⟨q1, y1, rfl, f1, g1⟩ := h
  cases f1
  obtain ⟨q2, y2, rfl, f2, g2⟩ := g1
  cases f2
  obtain ⟨q3, y3, rfl, f3, g3⟩ := g2
  cases f3
  obtain ⟨q4, y4, rfl, f4, g4⟩ := g3
  cases f4
  obtain ⟨v5, rfl, s5⟩ := g4
  obtain ⟨b5, k5, rfl⟩ := s5.shape
  exact ⟨b5, k5, rfl, s5⟩
theorem rGType_mk {T : Nat → Prop} {w : World} {x : GType} {a4 : Option Addr} {c4 : Nat} (e0 : SlR rGField T w (.slice a4 (List.length x.Fields) c4) x.Fields) : rGType.rp T w [.int .i64 x.Kind, .int .i64 x.Elem, .int .i64 x.Len, .string ⟨x.Name.toArray⟩, .slice a4 (List.length x.Fields) c4] x := ⟨_, _, rfl, rfl, ⟨_, _, rfl, rfl, ⟨_, _, rfl, rfl, ⟨_, _, rfl, rfl, ⟨_, rfl, e0⟩⟩⟩⟩⟩
def rKindKnown : Rp KindKnown := ((rPair rGType (rPair (rInt .i64) (rPair (rInt .i64) rBool)))).iso fun x => (x.Type_, x.size, x.align, x.open_)
theorem rKindKnown_open {T : Nat → Prop} {w : World} {cs : List Value} {x : KindKnown} (h : rKindKnown.rp T w cs x) : ∃ (a4 : Option Addr) (c4 : Nat), cs = [.int .i64 x.Type_.Kind, .int .i64 x.Type_.Elem, .int .i64 x.Type_.Len, .string ⟨x.Type_.Name.toArray⟩, .slice a4 (List.length x.Type_.Fields) c4, .int .i64 x.size, .int .i64 x.align, .bool x.open_] ∧ SlR rGField T w (.slice a4 (List.length x.Type_.Fields) c4) x.Type_.Fields := by
  obtain ⟨q1, y1, rfl, f1, g1⟩ := h
  obtain ⟨b2, k2, rfl, s2⟩ := rGType_open f1
  obtain ⟨q3, y3, rfl, f3, g3⟩ := g1
  cases f3
  obtain ⟨q4, y4, rfl, f4, g4⟩ := g3
  cases f4
  cases g4
  exact ⟨b2, k2, rfl, s2⟩
theorem rKindKnown_mk {T : Nat → Prop} {w : World} {x : KindKnown} {a4 : Option Addr} {c4 : Nat} (e0 : SlR rGField T w (.slice a4 (List.length x.Type_.Fields) c4) x.Type_.Fields) : rKindKnown.rp T w [.int .i64 x.Type_.Kind, .int .i64 x.Type_.Elem, .int .i64 x.Type_.Len, .string ⟨x.Type_.Name.toArray⟩, .slice a4 (List.length x.Type_.Fields) c4, .int .i64 x.size, .int .i64 x.align, .bool x.open_] x := ⟨_, _, rfl, (rGType_mk e0), ⟨_, _, rfl, rfl, ⟨_, _, rfl, rfl, rfl⟩⟩⟩
def rKindTable : Rp KindTable := ((rSl rKindKnown)).iso fun x => x.list
theorem rKindTable_open {T : Nat → Prop} {w : World} {cs : List Value} {x : KindTable} (h : rKindTable.rp T w cs x) : ∃ (a0 : Option Addr) (c0 : Nat), cs = [.slice a0 (List.length x.list) c0] ∧ SlR rKindKnown T w (.slice a0 (List.length x.list) c0) x.list := by
  obtain ⟨v1, rfl, s1⟩ := h
  obtain ⟨b1, k1, rfl⟩ := s1.shape
  exact ⟨b1, k1, rfl, s1⟩
theorem rKindTable_mk {T : Nat → Prop} {w : World} {x : KindTable} {a0 : Option Addr} {c0 : Nat} (e0 : SlR rKindKnown T w (.slice a0 (List.length x.list) c0) x.list) : rKindTable.rp T w [.slice a0 (List.length x.list) c0] x := ⟨_, rfl, e0⟩
def rref08Type : Rp ref08Type := ((rPair (rInt .i64) (rPair (rInt .i64) (rPair (rInt .i64) (rPair rStr (rPair (rSl rGField) rBool)))))).iso fun x => (x.Kind, x.Elem, x.Len, x.Name, x.Fields, x.Open)
theorem rref08Type_open {T : Nat → Prop} {w : World} {cs : List Value} {x : ref08Type} (h : rref08Type.rp T w cs x) : ∃ (a4 : Option Addr) (c4 : Nat), cs = [.int .i64 x.Kind, .int .i64 x.Elem, .int .i64 x.Len, .string ⟨x.Name.toArray⟩, .slice a4 (List.length x.Fields) c4, .bool x.Open] ∧ SlR rGField T w (.slice a4 (List.length x.Fields) c4) x.Fields := by
  obtain ⟨q1, y1, rfl, f1, g1⟩ := h
  cases f1
  obtain ⟨q2, y2, rfl, f2, g2⟩ := g1
  cases f2
  obtain ⟨q3, y3, rfl, f3, g3⟩ := g2
  cases f3
  obtain ⟨q4, y4, rfl, f4, g4⟩ := g3
  cases f4
  obtain ⟨q5, y5, rfl, f5, g5⟩ := g4
  obtain ⟨v6, rfl, s6⟩ := f5
  obtain ⟨b6, k6, rfl⟩ := s6.shape
  cases g5
  exact ⟨b6, k6, rfl, s6⟩
theorem rref08Type_mk {T : Nat → Prop} {w : World} {x : ref08Type} {a4 : Option Addr} {c4 : Nat} (e0 : SlR rGField T w (.slice a4 (List.length x.Fields) c4) x.Fields) : rref08Type.rp T w [.int .i64 x.Kind, .int .i64 x.Elem, .int .i64 x.Len, .string ⟨x.Name.toArray⟩, .slice a4 (List.length x.Fields) c4, .bool x.Open] x := ⟨_, _, rfl, rfl, ⟨_, _, rfl, rfl, ⟨_, _, rfl, rfl, ⟨_, _, rfl, rfl, ⟨_, _, rfl, ⟨_, rfl, e0⟩, rfl⟩⟩⟩⟩⟩
def rref08Made : Rp ref08Made := ((rPair (rInt .i64) (rPair (rSl rref08Type) (rInt .i64)))).iso fun x => (x.N, x.T, x.E)
theorem rref08Made_open {T : Nat → Prop} {w : World} {cs : List Value} {x : ref08Made} (h : rref08Made.rp T w cs x) : ∃ (a1 : Option Addr) (c1 : Nat), cs = [.int .i64 x.N, .slice a1 (List.length x.T) c1, .int .i64 x.E] ∧ SlR rref08Type T w (.slice a1 (List.length x.T) c1) x.T := by
  obtain ⟨q1, y1, rfl, f1, g1⟩ := h
  cases f1
  obtain ⟨q2, y2, rfl, f2, g2⟩ := g1
  obtain ⟨v3, rfl, s3⟩ := f2
  obtain ⟨b3, k3, rfl⟩ := s3.shape
  cases g2
  exact ⟨b3, k3, rfl, s3⟩
theorem rref08Made_mk {T : Nat → Prop} {w : World} {x : ref08Made} {a1 : Option Addr} {c1 : Nat} (e0 : SlR rref08Type T w (.slice a1 (List.length x.T) c1) x.T) : rref08Made.rp T w [.int .i64 x.N, .slice a1 (List.length x.T) c1, .int .i64 x.E] x := ⟨_, _, rfl, rfl, ⟨_, _, rfl, ⟨_, rfl, e0⟩, rfl⟩⟩
theorem cf8 : CallOk Try.prog 8 := ⟨⟨_, Try.func8, by kernel_rfl, by kernel_rfl⟩⟩
theorem cf9 : CallOk Try.prog 9 := ⟨⟨_, Try.func9, by kernel_rfl, by kernel_rfl⟩⟩
theorem cf10 : CallOk Try.prog 10 := ⟨⟨_, Try.func10, by kernel_rfl, by kernel_rfl⟩⟩
theorem cf11 : CallOk Try.prog 11 := ⟨⟨_, Try.func11, by kernel_rfl, by kernel_rfl⟩⟩
theorem cf12 : CallOk Try.prog 12 := ⟨⟨_, Try.func12, by kernel_rfl, by kernel_rfl⟩⟩
theorem cf13 : CallOk Try.prog 13 := ⟨⟨_, Try.func13, by kernel_rfl, by kernel_rfl⟩⟩
theorem cf14 : CallOk Try.prog 14 := ⟨⟨_, Try.func14, by kernel_rfl, by kernel_rfl⟩⟩
theorem cf15 : CallOk Try.prog 15 := ⟨⟨_, Try.func15, by kernel_rfl, by kernel_rfl⟩⟩
theorem cf16 : CallOk Try.prog 16 := ⟨⟨_, Try.func16, by kernel_rfl, by kernel_rfl⟩⟩
theorem cf17 : CallOk Try.prog 17 := ⟨⟨_, Try.func17, by kernel_rfl, by kernel_rfl⟩⟩
theorem cf18 : CallOk Try.prog 18 := ⟨⟨_, Try.func18, by kernel_rfl, by kernel_rfl⟩⟩
theorem cf19 : CallOk Try.prog 19 := ⟨⟨_, Try.func19, by kernel_rfl, by kernel_rfl⟩⟩
theorem cf20 : CallOk Try.prog 20 := ⟨⟨_, Try.func20, by kernel_rfl, by kernel_rfl⟩⟩
theorem cf21 : CallOk Try.prog 21 := ⟨⟨_, Try.func21, by kernel_rfl, by kernel_rfl⟩⟩
theorem cf22 : CallOk Try.prog 22 := ⟨⟨_, Try.func22, by kernel_rfl, by kernel_rfl⟩⟩
theorem cf23 : CallOk Try.prog 23 := ⟨⟨_, Try.func23, by kernel_rfl, by kernel_rfl⟩⟩
theorem cf24 : CallOk Try.prog 24 := ⟨⟨_, Try.func24, by kernel_rfl, by kernel_rfl⟩⟩
theorem cf25 : CallOk Try.prog 25 := ⟨⟨_, Try.func25, by kernel_rfl, by kernel_rfl⟩⟩
theorem cf26 : CallOk Try.prog 26 := ⟨⟨_, Try.func26, by kernel_rfl, by kernel_rfl⟩⟩
theorem cf27 : CallOk Try.prog 27 := ⟨⟨_, Try.func27, by kernel_rfl, by kernel_rfl⟩⟩
theorem cf28 : CallOk Try.prog 28 := ⟨⟨_, Try.func28, by kernel_rfl, by kernel_rfl⟩⟩
theorem cf29 : CallOk Try.prog 29 := ⟨⟨_, Try.func29, by kernel_rfl, by kernel_rfl⟩⟩
theorem cf30 : CallOk Try.prog 30 := ⟨⟨_, Try.func30, by kernel_rfl, by kernel_rfl⟩⟩
theorem cf31 : CallOk Try.prog 31 := ⟨⟨_, Try.func31, by kernel_rfl, by kernel_rfl⟩⟩
theorem cf32 : CallOk Try.prog 32 := ⟨⟨_, Try.func32, by kernel_rfl, by kernel_rfl⟩⟩
theorem cf33 : CallOk Try.prog 33 := ⟨⟨_, Try.func33, by kernel_rfl, by kernel_rfl⟩⟩
theorem cf34 : CallOk Try.prog 34 := ⟨⟨_, Try.func34, by kernel_rfl, by kernel_rfl⟩⟩
theorem cf35 : CallOk Try.prog 35 := ⟨⟨_, Try.func35, by kernel_rfl, by kernel_rfl⟩⟩
theorem cf36 : CallOk Try.prog 36 := ⟨⟨_, Try.func36, by kernel_rfl, by kernel_rfl⟩⟩
theorem cf37 : CallOk Try.prog 37 := ⟨⟨_, Try.func37, by kernel_rfl, by kernel_rfl⟩⟩
theorem cf38 : CallOk Try.prog 38 := ⟨⟨_, Try.func38, by kernel_rfl, by kernel_rfl⟩⟩
theorem cf39 : CallOk Try.prog 39 := ⟨⟨_, Try.func39, by kernel_rfl, by kernel_rfl⟩⟩
theorem cf40 : CallOk Try.prog 40 := ⟨⟨_, Try.func40, by kernel_rfl, by kernel_rfl⟩⟩
theorem cf41 : CallOk Try.prog 41 := ⟨⟨_, Try.func41, by kernel_rfl, by kernel_rfl⟩⟩
theorem cf42 : CallOk Try.prog 42 := ⟨⟨_, Try.func42, by kernel_rfl, by kernel_rfl⟩⟩
theorem cf43 : CallOk Try.prog 43 := ⟨⟨_, Try.func43, by kernel_rfl, by kernel_rfl⟩⟩
theorem cf44 : CallOk Try.prog 44 := ⟨⟨_, Try.func44, by kernel_rfl, by kernel_rfl⟩⟩
theorem cf45 : CallOk Try.prog 45 := ⟨⟨_, Try.func45, by kernel_rfl, by kernel_rfl⟩⟩
theorem cf46 : CallOk Try.prog 46 := ⟨⟨_, Try.func46, by kernel_rfl, by kernel_rfl⟩⟩
theorem cf47 : CallOk Try.prog 47 := ⟨⟨_, Try.func47, by kernel_rfl, by kernel_rfl⟩⟩
theorem cf48 : CallOk Try.prog 48 := ⟨⟨_, Try.func48, by kernel_rfl, by kernel_rfl⟩⟩
theorem cf49 : CallOk Try.prog 49 := ⟨⟨_, Try.func49, by kernel_rfl, by kernel_rfl⟩⟩
theorem cf50 : CallOk Try.prog 50 := ⟨⟨_, Try.func50, by kernel_rfl, by kernel_rfl⟩⟩
theorem cf51 : CallOk Try.prog 51 := ⟨⟨_, Try.func51, by kernel_rfl, by kernel_rfl⟩⟩
theorem el34 : ElemOk Try.prog 34 5 := ⟨by kernel_rfl, by decide⟩
theorem el45 : ElemOk Try.prog 45 3 := ⟨by kernel_rfl, by decide⟩
theorem el51 : ElemOk Try.prog 51 6 := ⟨by kernel_rfl, by decide⟩
theorem el52 : ElemOk Try.prog 52 3 := ⟨by kernel_rfl, by decide⟩
theorem el65 : ElemOk Try.prog 65 8 := ⟨by kernel_rfl, by decide⟩
theorem eq_45 (a0 : List UInt8) (a1 : Int) (a2 : Int) (b0 : List UInt8) (b1 : Int) (b2 : Int) : ∀ x y w, (do eqGuard .eql 45 x y (.agg #[.string ⟨List.toArray a0⟩, .int .i64 a1, .int .i64 a2]) (.agg #[.string ⟨List.toArray b0⟩, .int .i64 b1, .int .i64 b2]); binOp .eql 45 (.agg #[.string ⟨List.toArray a0⟩, .int .i64 a1, .int .i64 a2]) (.agg #[.string ⟨List.toArray b0⟩, .int .i64 b1, .int .i64 b2]) : Sem Value).run Try.prog w = .ok (.bool ((decide (a0 = b0)) && (a1 == b1) && (a2 == b2))) w := by
  intro x y w
  simp [go_sem, ByteArray.toList_eq]
  repeat' split
  all_goals simp_all
theorem ne_52 (a0 : List UInt8) (a1 : Int) (a2 : Int) (b0 : List UInt8) (b1 : Int) (b2 : Int) : ∀ x y w, (do eqGuard .neq 52 x y (.agg #[.string ⟨List.toArray a0⟩, .int .i64 a1, .int .i64 a2]) (.agg #[.string ⟨List.toArray b0⟩, .int .i64 b1, .int .i64 b2]); binOp .neq 52 (.agg #[.string ⟨List.toArray a0⟩, .int .i64 a1, .int .i64 a2]) (.agg #[.string ⟨List.toArray b0⟩, .int .i64 b1, .int .i64 b2]) : Sem Value).run Try.prog w = .ok (.bool (!((decide (a0 = b0)) && (a1 == b1) && (a2 == b2)))) w := by
  intro x y w
  simp [go_sem, ByteArray.toList_eq]
  repeat' split
  all_goals simp_all
theorem mix : Try.prog.follows .mixedOrders = true := by kernel_rfl

set_option maxRecDepth 100000 in
set_option maxHeartbeats 1000000 in
theorem law08_Few_sim {g : World} {T0 : Nat → Prop} {w0 : World} {R : Assn} {p0 : List law08Act} {a1 : Option Addr} {c1 : Nat} {r : Bool} (hS : Sep g T0 w0 [R]) (h1 : SlR rlaw08Act T0 w0 (.slice a1 (List.length p0) c1) p0) (hm : law08_Few p0 = some r) :
    Calls Try.prog 8 #[.slice a1 (List.length p0) c1] w0 (RetS T0 w0 fun T w v => v = .bool r ∧ Sep g T w [R] ∧ True) := by
  refine enter (args := [.slice a1 (List.length p0) c1]) Try.func8 rfl Try.ntmps8 rfl fun J => ?_
  unfold law08_Few at hm
  refine sq2 ?_
  refine rg (pv (r_zb rfl) (nil (t_then ?_)))
  refine sq2 ?_
  refine sq2 ?_
  refine rg (pv (r_ms rfl) (pv (r_ln rfl Try.underlying22) (pv (r_ib rfl rfl rfl) (nil (t_then ?_)))))
  refine cnd rfl (fun hb1 => ?_) (fun hb1 => ?_)
  · have hm := ctrue hb1 hm
    refine sq2 ?_
    refine rg (pv (r_zb rfl) (nil (t_thenR [(2, .bool false)] ⟨rfl, trivial⟩ fun J => ?_)))
    have hm := Option.some.inj hm
    subst hm
    exact rtn (r_then (ret1 rfl rfl ⟨_, rfl, _, Im.refl, ⟨rfl, hS.sel [0] rfl, trivial⟩⟩))
  · have hm := cfalse hb1 hm
    refine skp (t_then ?_)
    refine sq2 ?_
    refine sq2 ?_
    refine rg (pv (r_zi rfl) (nil (t_then ?_)))
    obtain ⟨o1, ho1, hq1⟩ := bindS hm
    obtain ⟨bd1, hbd1, ho1⟩ := loop_open ho1
    refine blk (wp_loop_ghost (fun m a w1 => ∃ (J : Nat → Value) (T1 : Nat → Prop) (x1 : Int), a = env 51 J [(0, .slice a1 (List.length p0) c1), (3, .int .i64 x1)] ∧ Im T0 w0 T1 w1 ∧ Sep g T1 w1 [R] ∧ loopM bd1 m x1 = some o1) NN ⟨_, _, 0, env_has ⟨rfl, rfl, trivial⟩, Im.refl, hS.sel [0] rfl, ho1⟩ ?_)
    rintro m _ w1 ⟨J, T1, x1, rfl, im1, hS1, ho1⟩
    obtain ⟨m1, z1, rfl, hm, hn1⟩ := loop_round ho1
    rw [hbd1] at hm
    refine sq2 ?_
    refine sq2 ?_
    refine rg (pv (r_mi rfl) (pv (r_ms rfl) (pv (r_ln rfl Try.underlying22) (pv (r_ib rfl rfl rfl) (nil (t_then ?_))))))
    refine cnd rfl (fun hb2 => ?_) (fun hb2 => ?_)
    · have hm := ctrue hb2 hm
      refine skp (t_then ?_)
      refine sq2 ?_
      refine blk ?_
      refine sq2 ?_
      refine sq2 ?_
      obtain ⟨u1, hx1, hm⟩ := bindS hm
      obtain ⟨b1, of1, cs1, k1, cp1, hv1, hp1, hl1, he1, hr1, hc1, hT1⟩ := (h1.mono im1).ixT hx1 rfl
      obtain ⟨a2, c2, rfl, h2⟩ := rlaw08Act_open hr1
      refine rg (pv (r_ms rfl) (pv (r_mi rfl) (pv (r_ixe hv1 rfl Try.underlying22 Try.sizeOf34 hp1 hl1 he1) (pv (r_fa rfl Try.underlying34 rfl Try.sizeOf9 rfl) (pv (r_ld rfl Try.isAgg9 (hc1.get (j := 3) rfl)) (pv (r_lnt rfl Try.underlying9) (pv (r_ib rfl rfl rfl) (pv (r_mb rfl) (?_)))))))))
      rcases Bool.eq_false_or_eq_true (decide (100 < (List.length u1.Name : Int))) with hb3 | hb3
      · have hm := ctrue hb3 hm
        refine gF (d0 := 21) rfl rfl (by rw [hb3]; rfl) (gF (d0 := 21) rfl rfl (by rw [hb3]; rfl) (gF (d0 := 21) rfl rfl (by rw [hb3]; rfl) (gF (d0 := 21) rfl rfl (by rw [hb3]; rfl) (gF (d0 := 21) rfl rfl (by rw [hb3]; rfl) (gF (d0 := 21) rfl rfl (by rw [hb3]; rfl) (gF (d0 := 21) rfl rfl (by rw [hb3]; rfl) (pv (r_pkt rfl hb3 rfl) (nil (t_thenR [(0, .slice a1 (List.length p0) c1), (3, .int .i64 x1), (29, .bool true)] ⟨rfl, rfl, rfl, trivial⟩ fun J => ?_)))))))))
        refine cnd (b := true) rfl (fun _ => ?_) (fun h => nomatch h)
        refine sq2 ?_
        refine rg (pv (r_zb rfl) (nil (t_then ?_)))
        have hm := Option.some.inj hm
        subst hm
        have hn1 : _ = Lp.ret _ := hn1
        subst hn1
        have hm := thn_ret hq1
        have hm := Option.some.inj hm
        subst hm
        exact rtn (r_then (r_blk (r_then (r_then (r_blk (r_then (ret1 rfl rfl ⟨_, rfl, _, im1, ⟨rfl, hS1.sel [0] rfl, trivial⟩⟩)))))))
      · have hm := cfalse hb3 hm
        obtain ⟨u2, hx2, hm⟩ := bindS hm
        obtain ⟨b2, of2, cs2, k2, cp2, hv2, hp2, hl2, he2, hr2, hc2, hT2⟩ := (h1.mono im1).ixT hx2 rfl
        obtain ⟨a3, c3, rfl, h3⟩ := rlaw08Act_open hr2
        refine gT (d0 := 21) rfl rfl hb3 (pv (r_ms rfl) (gT (d0 := 21) rfl rfl hb3 (pv (r_mi rfl) (gT (d0 := 21) rfl rfl hb3 (pv (r_ixe hv2 rfl Try.underlying22 Try.sizeOf34 hp2 hl2 he2) (gT (d0 := 21) rfl rfl hb3 (pv (r_fa rfl Try.underlying34 rfl Try.sizeOf32 rfl) (gT (d0 := 21) rfl rfl hb3 (pv (r_ld rfl Try.isAgg32 (hc2.get (j := 4) rfl)) (gT (d0 := 21) rfl rfl hb3 (pv (r_ln rfl Try.underlying32) (gT (d0 := 21) rfl rfl hb3 (pv (r_ib rfl rfl rfl) (pv (r_pkf rfl hb3 rfl) (nil (t_thenR [(0, .slice a1 (List.length p0) c1), (3, .int .i64 x1), (29, .bool (decide (12 < (List.length u2.Fields : Int))))] ⟨rfl, rfl, rfl, trivial⟩ fun J => ?_))))))))))))))))
        refine cnd rfl (fun hb4 => ?_) (fun hb4 => ?_)
        · have hm := ctrue hb4 hm
          refine sq2 ?_
          refine rg (pv (r_zb rfl) (nil (t_then ?_)))
          have hm := Option.some.inj hm
          subst hm
          have hn1 : _ = Lp.ret _ := hn1
          subst hn1
          have hm := thn_ret hq1
          have hm := Option.some.inj hm
          subst hm
          exact rtn (r_then (r_blk (r_then (r_then (r_blk (r_then (ret1 rfl rfl ⟨_, rfl, _, im1, ⟨rfl, hS1.sel [0] rfl, trivial⟩⟩)))))))
        · have hm := cfalse hb4 hm
          refine skp (t_then ?_)
          refine sq2 ?_
          refine rg (pv (r_zi rfl) (nil (t_then ?_)))
          obtain ⟨o2, ho2, hq2⟩ := bindS hm
          obtain ⟨bd2, hbd2, ho2⟩ := loop_open ho2
          refine blk (wp_loop_ghost (fun m a w2 => ∃ (J : Nat → Value) (T2 : Nat → Prop) (x2 : Int), a = env 51 J [(0, .slice a1 (List.length p0) c1), (3, .int .i64 x1), (4, .int .i64 x2)] ∧ Im T1 w1 T2 w2 ∧ Sep g T2 w2 [R] ∧ loopM bd2 m x2 = some o2) NN ⟨_, _, 0, env_has ⟨rfl, rfl, rfl, trivial⟩, Im.refl, hS1.sel [0] rfl, ho2⟩ ?_)
          rintro m _ w2 ⟨J, T2, x2, rfl, im2, hS2, ho2⟩
          obtain ⟨m2, z2, rfl, hm, hn2⟩ := loop_round ho2
          rw [hbd2] at hm
          refine sq2 ?_
          refine sq2 ?_
          obtain ⟨u3, hx3, hm⟩ := bindS hm
          obtain ⟨b3, of3, cs3, k3, cp3, hv3, hp3, hl3, he3, hr3, hc3, hT3⟩ := (h1.mono (Im.trans im1 im2)).ixT hx3 rfl
          obtain ⟨a4, c4, rfl, h4⟩ := rlaw08Act_open hr3
          refine rg (pv (r_mi rfl) (pv (r_ms rfl) (pv (r_mi rfl) (pv (r_ixe hv3 rfl Try.underlying22 Try.sizeOf34 hp3 hl3 he3) (pv (r_fa rfl Try.underlying34 rfl Try.sizeOf32 rfl) (pv (r_ld rfl Try.isAgg32 (hc3.get (j := 4) rfl)) (pv (r_ln rfl Try.underlying32) (pv (r_ib rfl rfl rfl) (nil (t_thenR [(0, .slice a1 (List.length p0) c1), (3, .int .i64 x1), (4, .int .i64 x2), (37, .bool (decide (x2 < (List.length u3.Fields : Int))))] ⟨rfl, rfl, rfl, rfl, trivial⟩ fun J => ?_))))))))))
          refine cnd rfl (fun hb5 => ?_) (fun hb5 => ?_)
          · have hm := ctrue hb5 hm
            refine skp (t_then ?_)
            refine sq2 ?_
            refine blk ?_
            refine sq2 ?_
            obtain ⟨u4, hx4, hm⟩ := bindS hm
            obtain ⟨b4, of4, cs4, k4, cp4, hv4, hp4, hl4, he4, hr4, hc4, hT4⟩ := (h1.mono (Im.trans im1 im2)).ixT hx4 rfl
            obtain ⟨a5, c5, rfl, h5⟩ := rlaw08Act_open hr4
            obtain ⟨u5, hx5, hm⟩ := bindS hm
            obtain ⟨b5, of5, cs5, k5, cp5, hv5, hp5, hl5, he5, hr5, hc5, hT5⟩ := h5.ixT hx5 rfl
            cases rGField_open hr5
            refine rg (pv (r_ms rfl) (pv (r_mi rfl) (pv (r_ixe hv4 rfl Try.underlying22 Try.sizeOf34 hp4 hl4 he4) (pv (r_fa rfl Try.underlying34 rfl Try.sizeOf32 rfl) (pv (r_ld rfl Try.isAgg32 (hc4.get (j := 4) rfl)) (pv (r_mi rfl) (pv (r_ixe hv5 rfl Try.underlying32 Try.sizeOf45 hp5 hl5 he5) (pv (r_fa rfl Try.underlying45 rfl Try.sizeOf9 rfl) (pv (r_ld rfl Try.isAgg9 (hc5.get (j := 0) rfl)) (pv (r_lnt rfl Try.underlying9) (pv (r_ib rfl rfl rfl) (nil (t_thenR [(0, .slice a1 (List.length p0) c1), (3, .int .i64 x1), (4, .int .i64 x2), (50, .bool (decide (100 < (List.length u5.Name : Int))))] ⟨rfl, rfl, rfl, rfl, trivial⟩ fun J => ?_)))))))))))))
            refine cnd rfl (fun hb6 => ?_) (fun hb6 => ?_)
            · have hm := ctrue hb6 hm
              refine sq2 ?_
              refine rg (pv (r_zb rfl) (nil (t_then ?_)))
              have hm := Option.some.inj hm
              subst hm
              have hn2 : _ = Lp.ret _ := hn2
              subst hn2
              have hm := thn_ret hq2
              have hm := Option.some.inj hm
              subst hm
              have hn1 : _ = Lp.ret _ := hn1
              subst hn1
              have hm := thn_ret hq1
              have hm := Option.some.inj hm
              subst hm
              exact rtn (r_blk (r_then (r_then (r_blk (r_blk (r_then (r_then (r_blk (r_then (ret1 rfl rfl ⟨_, rfl, _, (Im.trans im1 im2), ⟨rfl, hS2.sel [0] rfl, trivial⟩⟩))))))))))
            · have hm := cfalse hb6 hm
              refine skp (t_blk (t_then ?_))
              have hm := Option.some.inj hm
              subst hm
              exact rg (pv (r_mi rfl) (pv (r_ib rfl rfl rfl) (pv (r_zi rfl) (nil (t_then ⟨m2, Nat.lt_succ_self _, _, _, (IntKind.wrap .i64 (x2 + 1)), env_has ⟨rfl, rfl, rfl, trivial⟩, im2, hS2.sel [0] rfl, hn2⟩)))))
          · have hm := cfalse hb5 hm
            have hm := Option.some.inj hm
            subst hm
            have hn2 : _ = Lp.brk _ := hn2
            subst hn2
            have hm := thn_brk hq2
            refine xt (x_then (x_then (x_eq (t_blk (t_then ?_)))))
            have hm := Option.some.inj hm
            subst hm
            exact rg (pv (r_mi rfl) (pv (r_ib rfl rfl rfl) (pv (r_zi rfl) (nil (t_then ⟨m1, Nat.lt_succ_self _, _, _, (IntKind.wrap .i64 (x1 + 1)), env_has ⟨rfl, rfl, trivial⟩, (Im.trans im1 im2), hS2.sel [0] rfl, hn1⟩)))))
    · have hm := cfalse hb2 hm
      have hm := Option.some.inj hm
      subst hm
      have hn1 : _ = Lp.brk _ := hn1
      subst hn1
      have hm := thn_brk hq1
      refine xt (x_then (x_then (x_eq (t_thenR [] trivial fun J => ?_))))
      refine sq2 ?_
      refine rg (pv (r_zb rfl) (nil (t_then ?_)))
      have hm := Option.some.inj hm
      subst hm
      exact rtn (ret1 rfl rfl ⟨_, rfl, _, im1, ⟨rfl, hS1.sel [0] rfl, trivial⟩⟩)

set_option maxRecDepth 100000 in
set_option maxHeartbeats 1000000 in
theorem kind_New_sim {g : World} {T0 : Nat → Prop} {w0 : World} {R : Assn}  {r : KindTable} (hS : Sep g T0 w0 [R])  (hm : kind_New = some r) :
    Calls Try.prog 10 #[] w0 (RetS T0 w0 fun T w v => ∃ (b2 : Nat) (a2 : Option Addr) (n2 : Nat) (c2 : Nat), v = .pointer (some ⟨b2, 0, none⟩) ∧ Sep g T w [R, boxA b2 [.slice a2 n2 c2], ownA rKindKnown 65 (.slice a2 n2 c2) r.list] ∧ True) := by
  refine enter (args := []) Try.func10 rfl Try.ntmps10 rfl fun J => ?_
  unfold kind_New at hm
  refine sq2 ?_
  refine rg (pv (r_zp rfl) (nil (t_then ?_)))
  refine sq2 ?_
  refine rg (pv (r_bd (by kernel_rfl) rfl (u := .agg #[.int .i64 0, .int .i64 0, .int .i64 0, .string ⟨([] : List UInt8).toArray⟩, .slice none 0 0, .int .i64 0, .int .i64 0, .bool false])) (pv (r_bd (by kernel_rfl) rfl (u := .agg #[.int .i64 1, .int .i64 0, .int .i64 0, .string ⟨([] : List UInt8).toArray⟩, .slice none 0 0])) (pv (r_bd (by kernel_rfl) rfl (u := .agg #[.int .i64 1, .int .i64 0, .int .i64 0, .string ⟨([] : List UInt8).toArray⟩, .slice none 0 0, .int .i64 4, .int .i64 4, .bool false])) (pv (r_bd (by kernel_rfl) rfl (u := .agg #[.int .i64 2, .int .i64 0, .int .i64 0, .string ⟨([] : List UInt8).toArray⟩, .slice none 0 0])) (pv (r_bd (by kernel_rfl) rfl (u := .agg #[.int .i64 2, .int .i64 0, .int .i64 0, .string ⟨([] : List UInt8).toArray⟩, .slice none 0 0, .int .i64 1, .int .i64 1, .bool false])) (wl rfl (bsS (r := rKindKnown) (l := ([(⟨(⟨0, 0, 0, ([] : List UInt8), []⟩ : GType), 0, 0, false⟩ : KindKnown), (⟨(⟨1, 0, 0, ([] : List UInt8), []⟩ : GType), 4, 4, false⟩ : KindKnown), (⟨(⟨2, 0, 0, ([] : List UInt8), []⟩ : GType), 1, 1, false⟩ : KindKnown)] : List KindKnown)) (css := [[.int .i64 0, .int .i64 0, .int .i64 0, .string ⟨([] : List UInt8).toArray⟩, .slice none 0 0, .int .i64 0, .int .i64 0, .bool false], [.int .i64 1, .int .i64 0, .int .i64 0, .string ⟨([] : List UInt8).toArray⟩, .slice none 0 0, .int .i64 4, .int .i64 4, .bool false], [.int .i64 2, .int .i64 0, .int .i64 0, .string ⟨([] : List UInt8).toArray⟩, .slice none 0 0, .int .i64 1, .int .i64 1, .bool false]]) hS Try.underlying66 Try.sizeOf65 Try.zeroValue65 rfl rfl (by kernel_rfl) rfl ⟨(rKindKnown_mk (x := (⟨(⟨0, 0, 0, ([] : List UInt8), []⟩ : GType), 0, 0, false⟩ : KindKnown)) SlR_nil : rKindKnown.rp _ _ _ _), (rKindKnown_mk (x := (⟨(⟨1, 0, 0, ([] : List UInt8), []⟩ : GType), 4, 4, false⟩ : KindKnown)) SlR_nil : rKindKnown.rp _ _ _ _), (rKindKnown_mk (x := (⟨(⟨2, 0, 0, ([] : List UInt8), []⟩ : GType), 1, 1, false⟩ : KindKnown)) SlR_nil : rKindKnown.rp _ _ _ _), trivial⟩ rfl rfl fun w1 a1 n1 c1 im1 hS1 => ?_)))))))
  refine pv (r_bd (by kernel_rfl) rfl (u := .agg #[.slice a1 n1 c1])) (wl rfl (bxS (cs := [.slice a1 n1 c1]) rfl rfl hS1 fun w2 b1 im2 hS2 => ?_))
  refine pv (r_zp rfl) (nil (t_thenR [(0, .pointer (some ⟨b1, 0, none⟩))] ⟨rfl, trivial⟩ fun J => ?_))
  have hm := Option.some.inj hm
  subst hm
  exact rtn (ret1 rfl rfl ⟨_, rfl, _, (Im.trans im1 im2), ⟨_, _, _, _, rfl, hS2.sel [2, 0, 1] rfl, trivial⟩⟩)

set_option maxRecDepth 100000 in
set_option maxHeartbeats 1000000 in
theorem kind_Table_named_1_sim {g : World} {T0 : Nat → Prop} {w0 : World} {R : Assn} {p0 : KindKnown} {a1 : Option Addr} {c1 : Nat} {p1 : List UInt8} {b_p1 o_p1 : Nat} {H_p1 : List Value → Assn} {r : Bool} (hS : Sep g T0 w0 [R, H_p1 [.string ⟨p1.toArray⟩]]) (h1 : SlR rGField T0 w0 (.slice a1 (List.length p0.Type_.Fields) c1) p0.Type_.Fields) (hL_p1 : Ln b_p1 o_p1 H_p1) (hm : kind_Table_named_1 p0 p1 = some r) :
    Calls Try.prog 45 #[.agg #[.int .i64 p0.Type_.Kind, .int .i64 p0.Type_.Elem, .int .i64 p0.Type_.Len, .string ⟨p0.Type_.Name.toArray⟩, .slice a1 (List.length p0.Type_.Fields) c1, .int .i64 p0.size, .int .i64 p0.align, .bool p0.open_], .pointer (some ⟨b_p1, o_p1, none⟩)] w0 (RetS T0 w0 fun T w v => v = .bool r ∧ Sep g T w [R, H_p1 [.string ⟨p1.toArray⟩]] ∧ True) := by
  refine enter (args := [.agg #[.int .i64 p0.Type_.Kind, .int .i64 p0.Type_.Elem, .int .i64 p0.Type_.Len, .string ⟨p0.Type_.Name.toArray⟩, .slice a1 (List.length p0.Type_.Fields) c1, .int .i64 p0.size, .int .i64 p0.align, .bool p0.open_], .pointer (some ⟨b_p1, o_p1, none⟩)]) Try.func45 rfl Try.ntmps45 rfl fun J => ?_
  unfold kind_Table_named_1 at hm
  refine sq2 ?_
  refine rg (wl rfl (bxS (cs := [.int .i64 p0.Type_.Kind, .int .i64 p0.Type_.Elem, .int .i64 p0.Type_.Len, .string ⟨p0.Type_.Name.toArray⟩, .slice a1 (List.length p0.Type_.Fields) c1, .int .i64 p0.size, .int .i64 p0.align, .bool p0.open_]) rfl rfl hS fun w1 b1 im1 hS1 => ?_))
  refine pv (r_zb rfl) (nil (t_then ?_))
  refine sq2 ?_
  refine rg (pv (r_fa rfl Try.underlying65 rfl Try.sizeOf55 rfl) (pv (r_fa rfl Try.underlying55 rfl Try.sizeOf3 rfl) (pv (r_ld rfl Try.isAgg3 (hS1.cell0 (i := 0) ⟨rfl, rfl⟩ (j := 0) rfl)) (pv (r_ib rfl rfl rfl) (pv (r_mb rfl) (?_))))))
  rcases Bool.eq_false_or_eq_true (p0.Type_.Kind == 5) with hb1 | hb1
  · have hm := ctrue hb1 hm
    refine gT (d0 := 8) rfl rfl hb1 (pv (r_fa rfl Try.underlying65 rfl Try.sizeOf55 rfl) (gT (d0 := 8) rfl rfl hb1 (pv (r_fa rfl Try.underlying55 rfl Try.sizeOf9 rfl) (gT (d0 := 8) rfl rfl hb1 (pv (r_ld rfl Try.isAgg9 (hS1.cell0 (i := 0) ⟨rfl, rfl⟩ (j := 3) rfl)) (gT (d0 := 8) rfl rfl hb1 (pv (r_ld rfl Try.isAgg9 (hS1.cellB (i := 2) ⟨rfl, rfl⟩ hL_p1 (j := 0) rfl)) (gT (d0 := 8) rfl rfl hb1 (pv (r_sqL rfl rfl) (pv (r_pkt rfl hb1 rfl) (pv (r_zb rfl) (nil (t_thenR [(3, .bool (decide (p0.Type_.Name = p1)))] ⟨rfl, trivial⟩ fun J => ?_)))))))))))))
    have hm := Option.some.inj hm
    subst hm
    exact rtn (ret1 rfl rfl ⟨_, rfl, _, im1, ⟨rfl, hS1.sel [1, 2] rfl, trivial⟩⟩)
  · have hm := cfalse hb1 hm
    refine gF (d0 := 8) rfl rfl (by rw [hb1]; rfl) (gF (d0 := 8) rfl rfl (by rw [hb1]; rfl) (gF (d0 := 8) rfl rfl (by rw [hb1]; rfl) (gF (d0 := 8) rfl rfl (by rw [hb1]; rfl) (gF (d0 := 8) rfl rfl (by rw [hb1]; rfl) (pv (r_pkf rfl hb1 rfl) (pv (r_zb rfl) (nil (t_thenR [(3, .bool false)] ⟨rfl, trivial⟩ fun J => ?_))))))))
    have hm := Option.some.inj hm
    subst hm
    exact rtn (ret1 rfl rfl ⟨_, rfl, _, im1, ⟨rfl, hS1.sel [1, 2] rfl, trivial⟩⟩)

set_option maxRecDepth 100000 in
set_option maxHeartbeats 1000000 in
theorem slices_IndexFunc_sim {g : World} {T0 : Nat → Prop} {w0 : World} {R : Assn} {p0 : List KindKnown} {v_p0 : Value} {H_p0 : Assn} {p1 : List UInt8} {b_p1 o_p1 : Nat} {H_p1 : List Value → Assn} {r : Int} (hS : Sep g T0 w0 [R, H_p0, H_p1 [.string ⟨p1.toArray⟩]]) (hV_p0 : Vw H_p0 rKindKnown v_p0 p0) (hL_p1 : Ln b_p1 o_p1 H_p1) (hm : slices_IndexFunc p0 p1 = some r) :
    Calls Try.prog 43 #[v_p0, .func (.func 45) #[] #[.pointer (some ⟨b_p1, o_p1, none⟩)]] w0 (RetS T0 w0 fun T w v => v = .int .i64 r ∧ Sep g T w [R, H_p0, H_p1 [.string ⟨p1.toArray⟩]] ∧ True) := by
  refine enter (args := [v_p0, .func (.func 45) #[] #[.pointer (some ⟨b_p1, o_p1, none⟩)]]) Try.func43 rfl Try.ntmps43 rfl fun J => ?_
  unfold slices_IndexFunc at hm
  refine sq2 ?_
  refine rg (pv (r_zi rfl) (nil (t_then ?_)))
  refine sq2 ?_
  refine sq2 ?_
  refine rg (pv (r_mx (v := v_p0) rfl) (pv (r_lnV rfl (hS.view (i := 1) ⟨rfl, rfl⟩ hV_p0) Try.underlying66) (pv (r_mi rfl) (nil (t_then ?_)))))
  obtain ⟨o1, ho1, hq1⟩ := bindS hm
  obtain ⟨bd1, hbd1, ho1⟩ := loop_open ho1
  refine blk (wp_loop_ghost (fun m a w1 => ∃ (J : Nat → Value) (T1 : Nat → Prop) (x1 : Int), a = env 19 J [(0, v_p0), (1, .func (.func 45) #[] #[.pointer (some ⟨b_p1, o_p1, none⟩)]), (7, .int .i64 (List.length p0 : Int)), (8, .int .i64 x1)] ∧ Im T0 w0 T1 w1 ∧ Sep g T1 w1 [R, H_p0, H_p1 [.string ⟨p1.toArray⟩]] ∧ loopM bd1 m x1 = some o1) NN ⟨_, _, 0, env_has ⟨rfl, rfl, rfl, rfl, trivial⟩, Im.refl, hS.sel [0, 1, 2] rfl, ho1⟩ ?_)
  rintro m _ w1 ⟨J, T1, x1, rfl, im1, hS1, ho1⟩
  obtain ⟨m1, z1, rfl, hm, hn1⟩ := loop_round ho1
  rw [hbd1] at hm
  refine sq2 ?_
  refine rg (pv (r_ib rfl rfl rfl) (nil (t_then ?_)))
  refine sq2 ?_
  refine cnd rfl (fun hb1 => ?_) (fun hb1 => ?_)
  · have hm := ctrue hb1 hm
    refine skp (t_then ?_)
    refine sq2 ?_
    refine blk ?_
    refine sq2 ?_
    refine rg (pv (r_mi rfl) (pv (r_zi rfl) (nil (t_then ?_))))
    refine sq2 ?_
    obtain ⟨u1, hx1, hm⟩ := bindS hm
    obtain ⟨b1, of1, cs1, k1, cp1, hv1, hp1, hl1, he1, hr1, hc1⟩ := (hS1.view (i := 1) ⟨rfl, rfl⟩ hV_p0).ixq hx1 rfl
    obtain ⟨a1, c1, rfl, h1⟩ := rKindKnown_open hr1
    obtain ⟨y1, hx2, hm⟩ := bindS hm
    refine rg (pv (r_mf rfl) (pv (r_mx (v := v_p0) rfl) (pv (r_mi rfl) (pv (r_ixe hv1 rfl Try.underlying66 Try.sizeOf65 hp1 hl1 he1) (pv (r_ldS rfl Try.isAgg65 Try.sizeOf65 rfl hc1 (cs := [.int .i64 u1.Type_.Kind, .int .i64 u1.Type_.Elem, .int .i64 u1.Type_.Len, .string ⟨u1.Type_.Name.toArray⟩, .slice a1 (List.length u1.Type_.Fields) c1, .int .i64 u1.size, .int .i64 u1.align, .bool u1.open_])) (wl rfl (calS cf45 rfl (kind_Table_named_1_sim (p0 := u1) (p1 := p1) (H_p1 := H_p1) (hS1.bun [0, 1] [2] rfl) h1 hL_p1 hx2) rfl fun v1 T2 w2 im2 rv1 => ?_)))))))
    obtain ⟨rfl, hS2, _⟩ := rv1
    have hS2 : Sep g T2 w2 [R, H_p0, H_p1 [.string ⟨p1.toArray⟩]] := hS2.unb
    refine nil (t_thenR [(0, v_p0), (1, .func (.func 45) #[] #[.pointer (some ⟨b_p1, o_p1, none⟩)]), (5, .int .i64 x1), (7, .int .i64 (List.length p0 : Int)), (8, .int .i64 x1), (16, .bool y1)] ⟨rfl, rfl, rfl, rfl, rfl, rfl, trivial⟩ fun J => ?_)
    refine cnd rfl (fun hb2 => ?_) (fun hb2 => ?_)
    · have hm := ctrue hb2 hm
      refine sq2 ?_
      refine rg (pv (r_mi rfl) (pv (r_zi rfl) (nil (t_thenR [(4, .int .i64 x1)] ⟨rfl, trivial⟩ fun J => ?_))))
      have hm := Option.some.inj hm
      subst hm
      have hn1 : _ = Lp.ret _ := hn1
      subst hn1
      have hm := thn_ret hq1
      have hm := Option.some.inj hm
      subst hm
      exact rtn (r_blk (r_then (r_then (r_blk (r_then (ret1 rfl rfl ⟨_, rfl, _, (Im.trans im1 im2), ⟨rfl, hS2.sel [0, 1, 2] rfl, trivial⟩⟩))))))
    · have hm := cfalse hb2 hm
      refine skp (t_blk (t_then ?_))
      have hm := Option.some.inj hm
      subst hm
      exact rg (pv (r_ib rfl rfl rfl) (pv (r_mi rfl) (nil (t_then ⟨m1, Nat.lt_succ_self _, _, _, (IntKind.wrap .i64 (x1 + 1)), env_has ⟨rfl, rfl, rfl, rfl, trivial⟩, (Im.trans im1 im2), hS2.sel [0, 1, 2] rfl, hn1⟩))))
  · have hm := cfalse hb1 hm
    have hm := Option.some.inj hm
    subst hm
    have hn1 : _ = Lp.brk _ := hn1
    subst hn1
    have hm := thn_brk hq1
    refine xt (x_then (x_then (x_eq (t_thenR [] trivial fun J => ?_))))
    refine sq2 ?_
    refine rg (pv (r_zi rfl) (nil (t_then ?_)))
    have hm := Option.some.inj hm
    subst hm
    exact rtn (ret1 rfl rfl ⟨_, rfl, _, im1, ⟨rfl, hS1.sel [0, 1, 2] rfl, trivial⟩⟩)

set_option maxRecDepth 100000 in
set_option maxHeartbeats 1000000 in
theorem kind_Table_named_sim {g : World} {T0 : Nat → Prop} {w0 : World} {R : Assn} {p0 : KindTable} {b_p0 o_p0 : Nat} {H_p0 : List Value → Assn} {a1 : Option Addr} {n1 : Nat} {c1 : Nat} {p1 : List UInt8} {r : Int} (hS : Sep g T0 w0 [R, H_p0 [.slice a1 n1 c1], ownA rKindKnown 65 (.slice a1 n1 c1) p0.list]) (hL_p0 : Ln b_p0 o_p0 H_p0) (hm : kind_Table_named p0 p1 = some r) :
    Calls Try.prog 35 #[.pointer (some ⟨b_p0, o_p0, none⟩), .string ⟨p1.toArray⟩] w0 (RetS T0 w0 fun T w v => v = .int .i64 r ∧ Sep g T w [R, H_p0 [.slice a1 n1 c1], ownA rKindKnown 65 (.slice a1 n1 c1) p0.list] ∧ True) := by
  refine enter (args := [.pointer (some ⟨b_p0, o_p0, none⟩), .string ⟨p1.toArray⟩]) Try.func35 rfl Try.ntmps35 rfl fun J => ?_
  unfold kind_Table_named at hm
  refine sq2 ?_
  refine rg (wl rfl (bxS (cs := [.string ⟨p1.toArray⟩]) rfl rfl hS fun w1 b1 im1 hS1 => ?_))
  refine pv (r_zi rfl) (nil (t_then ?_))
  refine sq2 ?_
  obtain ⟨y1, hx1, hm⟩ := bindS hm
  refine rg (pv (r_mp rfl) (pv (r_nc rfl) (pv (r_fa rfl Try.underlying68 rfl Try.sizeOf66 rfl) (pv (r_ld rfl Try.isAgg66 (hS1.cellB (i := 2) ⟨rfl, rfl⟩ hL_p0 (j := 0) rfl)) (pv (r_mkf (u := .func (.func 45) #[] #[.pointer (some ⟨b1, 0, none⟩)]) rfl) (wl rfl (calS cf43 rfl (slices_IndexFunc_sim (p0 := p0.list) (H_p0 := ownA rKindKnown 65 (.slice a1 n1 c1) p0.list) (p1 := p1) (H_p1 := boxA b1) (hS1.bun [1, 2] [3, 0] rfl) vwOwn (lnBox b1) hx1) rfl fun v1 T1 w2 im2 rv1 => ?_)))))))
  obtain ⟨rfl, hS2, _⟩ := rv1
  have hS2 : Sep g T1 w2 [R, H_p0 [.slice a1 n1 c1], ownA rKindKnown 65 (.slice a1 n1 c1) p0.list, boxA b1 [.string ⟨p1.toArray⟩]] := hS2.unb
  refine pv (r_zi rfl) (nil (t_thenR [(4, .int .i64 y1)] ⟨rfl, trivial⟩ fun J => ?_))
  have hm := Option.some.inj hm
  subst hm
  exact rtn (ret1 rfl rfl ⟨_, rfl, _, (Im.trans im1 im2), ⟨rfl, hS2.sel [0, 1, 2] rfl, trivial⟩⟩)

set_option maxRecDepth 100000 in
set_option maxHeartbeats 1000000 in
theorem kind_Table_put_1_sim {g : World} {T0 : Nat → Prop} {w0 : World} {R : Assn} {p0 : KindKnown} {a1 : Option Addr} {c1 : Nat} {p1 : KindKnown} {b_p1 o_p1 : Nat} {H_p1 : List Value → Assn} {a2 : Option Addr} {c2 : Nat} {r : Bool} (hS : Sep g T0 w0 [R, H_p1 [.int .i64 p1.Type_.Kind, .int .i64 p1.Type_.Elem, .int .i64 p1.Type_.Len, .string ⟨p1.Type_.Name.toArray⟩, .slice a2 (List.length p1.Type_.Fields) c2, .int .i64 p1.size, .int .i64 p1.align, .bool p1.open_]]) (h1 : SlR rGField T0 w0 (.slice a1 (List.length p0.Type_.Fields) c1) p0.Type_.Fields) (hL_p1 : Ln b_p1 o_p1 H_p1) (h2 : SlR rGField T0 w0 (.slice a2 (List.length p1.Type_.Fields) c2) p1.Type_.Fields) (hm : kind_Table_put_1 p0 p1 = some r) :
    Calls Try.prog 44 #[.agg #[.int .i64 p0.Type_.Kind, .int .i64 p0.Type_.Elem, .int .i64 p0.Type_.Len, .string ⟨p0.Type_.Name.toArray⟩, .slice a1 (List.length p0.Type_.Fields) c1, .int .i64 p0.size, .int .i64 p0.align, .bool p0.open_], .pointer (some ⟨b_p1, o_p1, none⟩)] w0 (RetS T0 w0 fun T w v => v = .bool r ∧ Sep g T w [R, H_p1 [.int .i64 p1.Type_.Kind, .int .i64 p1.Type_.Elem, .int .i64 p1.Type_.Len, .string ⟨p1.Type_.Name.toArray⟩, .slice a2 (List.length p1.Type_.Fields) c2, .int .i64 p1.size, .int .i64 p1.align, .bool p1.open_]] ∧ True) := by
  refine enter (args := [.agg #[.int .i64 p0.Type_.Kind, .int .i64 p0.Type_.Elem, .int .i64 p0.Type_.Len, .string ⟨p0.Type_.Name.toArray⟩, .slice a1 (List.length p0.Type_.Fields) c1, .int .i64 p0.size, .int .i64 p0.align, .bool p0.open_], .pointer (some ⟨b_p1, o_p1, none⟩)]) Try.func44 rfl Try.ntmps44 rfl fun J => ?_
  unfold kind_Table_put_1 at hm
  refine sq2 ?_
  refine rg (wl rfl (bxS (cs := [.int .i64 p0.Type_.Kind, .int .i64 p0.Type_.Elem, .int .i64 p0.Type_.Len, .string ⟨p0.Type_.Name.toArray⟩, .slice a1 (List.length p0.Type_.Fields) c1, .int .i64 p0.size, .int .i64 p0.align, .bool p0.open_]) rfl rfl hS fun w1 b1 im1 hS1 => ?_))
  refine pv (r_zb rfl) (nil (t_then ?_))
  refine sq2 ?_
  refine rg (pv (r_fa rfl Try.underlying65 rfl Try.sizeOf55 rfl) (pv (r_fa rfl Try.underlying55 rfl Try.sizeOf3 rfl) (pv (r_ld rfl Try.isAgg3 (hS1.cell0 (i := 0) ⟨rfl, rfl⟩ (j := 0) rfl)) (pv (r_fa rfl Try.underlying65 rfl Try.sizeOf55 rfl) (pv (r_fa rfl Try.underlying55 rfl Try.sizeOf3 rfl) (pv (r_ld rfl Try.isAgg3 (hS1.cellB (i := 2) ⟨rfl, rfl⟩ hL_p1 (j := 0) rfl)) (pv (r_ib rfl rfl rfl) (pv (r_mb rfl) (?_)))))))))
  rcases Bool.eq_false_or_eq_true (p0.Type_.Kind == p1.Type_.Kind) with hb1 | hb1
  · have hm := ctrue hb1 hm
    refine gT (d0 := 11) rfl rfl hb1 (pv (r_fa rfl Try.underlying65 rfl Try.sizeOf55 rfl) (gT (d0 := 11) rfl rfl hb1 (pv (r_fa rfl Try.underlying55 rfl Try.sizeOf3 rfl) (gT (d0 := 11) rfl rfl hb1 (pv (r_ld rfl Try.isAgg3 (hS1.cell0 (i := 0) ⟨rfl, rfl⟩ (j := 1) rfl)) (gT (d0 := 11) rfl rfl hb1 (pv (r_fa rfl Try.underlying65 rfl Try.sizeOf55 rfl) (gT (d0 := 11) rfl rfl hb1 (pv (r_fa rfl Try.underlying55 rfl Try.sizeOf3 rfl) (gT (d0 := 11) rfl rfl hb1 (pv (r_ld rfl Try.isAgg3 (hS1.cellB (i := 2) ⟨rfl, rfl⟩ hL_p1 (j := 1) rfl)) (gT (d0 := 11) rfl rfl hb1 (pv (r_ib rfl rfl rfl) (pv (r_pkt rfl hb1 rfl) (pv (r_mb rfl) (?_))))))))))))))))
    rcases Bool.eq_false_or_eq_true (p0.Type_.Elem == p1.Type_.Elem) with hb2 | hb2
    · have hm := ctrue hb2 hm
      refine gT (d0 := 20) rfl rfl hb2 (pv (r_fa rfl Try.underlying65 rfl Try.sizeOf55 rfl) (gT (d0 := 20) rfl rfl hb2 (pv (r_fa rfl Try.underlying55 rfl Try.sizeOf3 rfl) (gT (d0 := 20) rfl rfl hb2 (pv (r_ld rfl Try.isAgg3 (hS1.cell0 (i := 0) ⟨rfl, rfl⟩ (j := 2) rfl)) (gT (d0 := 20) rfl rfl hb2 (pv (r_fa rfl Try.underlying65 rfl Try.sizeOf55 rfl) (gT (d0 := 20) rfl rfl hb2 (pv (r_fa rfl Try.underlying55 rfl Try.sizeOf3 rfl) (gT (d0 := 20) rfl rfl hb2 (pv (r_ld rfl Try.isAgg3 (hS1.cellB (i := 2) ⟨rfl, rfl⟩ hL_p1 (j := 2) rfl)) (gT (d0 := 20) rfl rfl hb2 (pv (r_ib rfl rfl rfl) (pv (r_pkt rfl hb2 rfl) (pv (r_mb rfl) (?_))))))))))))))))
      rcases Bool.eq_false_or_eq_true (p0.Type_.Len == p1.Type_.Len) with hb3 | hb3
      · have hm := ctrue hb3 hm
        refine gT (d0 := 29) rfl rfl hb3 (pv (r_fa rfl Try.underlying65 rfl Try.sizeOf55 rfl) (gT (d0 := 29) rfl rfl hb3 (pv (r_fa rfl Try.underlying55 rfl Try.sizeOf3 rfl) (gT (d0 := 29) rfl rfl hb3 (pv (r_ld rfl Try.isAgg3 (hS1.cellB (i := 2) ⟨rfl, rfl⟩ hL_p1 (j := 0) rfl)) (gT (d0 := 29) rfl rfl hb3 (pv (r_ib rfl rfl rfl) (pv (r_pkt rfl hb3 rfl) (pv (r_zb rfl) (nil (t_thenR [(3, .bool (p1.Type_.Kind != 5))] ⟨rfl, trivial⟩ fun J => ?_)))))))))))
        have hm := Option.some.inj hm
        subst hm
        exact rtn (ret1 rfl rfl ⟨_, rfl, _, im1, ⟨rfl, hS1.sel [1, 2] rfl, trivial⟩⟩)
      · have hm := cfalse hb3 hm
        refine gF (d0 := 29) rfl rfl (by rw [hb3]; rfl) (gF (d0 := 29) rfl rfl (by rw [hb3]; rfl) (gF (d0 := 29) rfl rfl (by rw [hb3]; rfl) (gF (d0 := 29) rfl rfl (by rw [hb3]; rfl) (pv (r_pkf rfl hb3 rfl) (pv (r_zb rfl) (nil (t_thenR [(3, .bool false)] ⟨rfl, trivial⟩ fun J => ?_)))))))
        have hm := Option.some.inj hm
        subst hm
        exact rtn (ret1 rfl rfl ⟨_, rfl, _, im1, ⟨rfl, hS1.sel [1, 2] rfl, trivial⟩⟩)
    · have hm := cfalse hb2 hm
      refine gF (d0 := 20) rfl rfl (by rw [hb2]; rfl) (gF (d0 := 20) rfl rfl (by rw [hb2]; rfl) (gF (d0 := 20) rfl rfl (by rw [hb2]; rfl) (gF (d0 := 20) rfl rfl (by rw [hb2]; rfl) (gF (d0 := 20) rfl rfl (by rw [hb2]; rfl) (gF (d0 := 20) rfl rfl (by rw [hb2]; rfl) (gF (d0 := 20) rfl rfl (by rw [hb2]; rfl) (pv (r_pkf rfl hb2 rfl) (pv (r_mb rfl) (gF (d0 := 29) rfl rfl rfl (gF (d0 := 29) rfl rfl rfl (gF (d0 := 29) rfl rfl rfl (gF (d0 := 29) rfl rfl rfl (pv (r_pkf rfl rfl rfl) (pv (r_zb rfl) (nil (t_thenR [(3, .bool false)] ⟨rfl, trivial⟩ fun J => ?_))))))))))))))))
      have hm := Option.some.inj hm
      subst hm
      exact rtn (ret1 rfl rfl ⟨_, rfl, _, im1, ⟨rfl, hS1.sel [1, 2] rfl, trivial⟩⟩)
  · have hm := cfalse hb1 hm
    refine gF (d0 := 11) rfl rfl (by rw [hb1]; rfl) (gF (d0 := 11) rfl rfl (by rw [hb1]; rfl) (gF (d0 := 11) rfl rfl (by rw [hb1]; rfl) (gF (d0 := 11) rfl rfl (by rw [hb1]; rfl) (gF (d0 := 11) rfl rfl (by rw [hb1]; rfl) (gF (d0 := 11) rfl rfl (by rw [hb1]; rfl) (gF (d0 := 11) rfl rfl (by rw [hb1]; rfl) (pv (r_pkf rfl hb1 rfl) (pv (r_mb rfl) (gF (d0 := 20) rfl rfl rfl (gF (d0 := 20) rfl rfl rfl (gF (d0 := 20) rfl rfl rfl (gF (d0 := 20) rfl rfl rfl (gF (d0 := 20) rfl rfl rfl (gF (d0 := 20) rfl rfl rfl (gF (d0 := 20) rfl rfl rfl (pv (r_pkf rfl rfl rfl) (pv (r_mb rfl) (gF (d0 := 29) rfl rfl rfl (gF (d0 := 29) rfl rfl rfl (gF (d0 := 29) rfl rfl rfl (gF (d0 := 29) rfl rfl rfl (pv (r_pkf rfl rfl rfl) (pv (r_zb rfl) (nil (t_thenR [(3, .bool false)] ⟨rfl, trivial⟩ fun J => ?_)))))))))))))))))))))))))
    have hm := Option.some.inj hm
    subst hm
    exact rtn (ret1 rfl rfl ⟨_, rfl, _, im1, ⟨rfl, hS1.sel [1, 2] rfl, trivial⟩⟩)

set_option maxRecDepth 100000 in
set_option maxHeartbeats 1000000 in
theorem slices_IndexFunc_2_sim {g : World} {T0 : Nat → Prop} {w0 : World} {R : Assn} {p0 : List KindKnown} {v_p0 : Value} {H_p0 : Assn} {p1 : KindKnown} {b_p1 o_p1 : Nat} {H_p1 : List Value → Assn} {a1 : Option Addr} {c1 : Nat} {r : Int} (hS : Sep g T0 w0 [R, H_p0, H_p1 [.int .i64 p1.Type_.Kind, .int .i64 p1.Type_.Elem, .int .i64 p1.Type_.Len, .string ⟨p1.Type_.Name.toArray⟩, .slice a1 (List.length p1.Type_.Fields) c1, .int .i64 p1.size, .int .i64 p1.align, .bool p1.open_]]) (hV_p0 : Vw H_p0 rKindKnown v_p0 p0) (hL_p1 : Ln b_p1 o_p1 H_p1) (h1 : SlR rGField T0 w0 (.slice a1 (List.length p1.Type_.Fields) c1) p1.Type_.Fields) (hm : slices_IndexFunc_2 p0 p1 = some r) :
    Calls Try.prog 43 #[v_p0, .func (.func 44) #[] #[.pointer (some ⟨b_p1, o_p1, none⟩)]] w0 (RetS T0 w0 fun T w v => v = .int .i64 r ∧ Sep g T w [R, H_p0, H_p1 [.int .i64 p1.Type_.Kind, .int .i64 p1.Type_.Elem, .int .i64 p1.Type_.Len, .string ⟨p1.Type_.Name.toArray⟩, .slice a1 (List.length p1.Type_.Fields) c1, .int .i64 p1.size, .int .i64 p1.align, .bool p1.open_]] ∧ True) := by
  refine enter (args := [v_p0, .func (.func 44) #[] #[.pointer (some ⟨b_p1, o_p1, none⟩)]]) Try.func43 rfl Try.ntmps43 rfl fun J => ?_
  unfold slices_IndexFunc_2 at hm
  refine sq2 ?_
  refine rg (pv (r_zi rfl) (nil (t_then ?_)))
  refine sq2 ?_
  refine sq2 ?_
  refine rg (pv (r_mx (v := v_p0) rfl) (pv (r_lnV rfl (hS.view (i := 1) ⟨rfl, rfl⟩ hV_p0) Try.underlying66) (pv (r_mi rfl) (nil (t_then ?_)))))
  obtain ⟨o1, ho1, hq1⟩ := bindS hm
  obtain ⟨bd1, hbd1, ho1⟩ := loop_open ho1
  refine blk (wp_loop_ghost (fun m a w1 => ∃ (J : Nat → Value) (T1 : Nat → Prop) (x1 : Int), a = env 19 J [(0, v_p0), (1, .func (.func 44) #[] #[.pointer (some ⟨b_p1, o_p1, none⟩)]), (7, .int .i64 (List.length p0 : Int)), (8, .int .i64 x1)] ∧ Im T0 w0 T1 w1 ∧ Sep g T1 w1 [R, H_p0, H_p1 [.int .i64 p1.Type_.Kind, .int .i64 p1.Type_.Elem, .int .i64 p1.Type_.Len, .string ⟨p1.Type_.Name.toArray⟩, .slice a1 (List.length p1.Type_.Fields) c1, .int .i64 p1.size, .int .i64 p1.align, .bool p1.open_]] ∧ loopM bd1 m x1 = some o1) NN ⟨_, _, 0, env_has ⟨rfl, rfl, rfl, rfl, trivial⟩, Im.refl, hS.sel [0, 1, 2] rfl, ho1⟩ ?_)
  rintro m _ w1 ⟨J, T1, x1, rfl, im1, hS1, ho1⟩
  obtain ⟨m1, z1, rfl, hm, hn1⟩ := loop_round ho1
  rw [hbd1] at hm
  refine sq2 ?_
  refine rg (pv (r_ib rfl rfl rfl) (nil (t_then ?_)))
  refine sq2 ?_
  refine cnd rfl (fun hb1 => ?_) (fun hb1 => ?_)
  · have hm := ctrue hb1 hm
    refine skp (t_then ?_)
    refine sq2 ?_
    refine blk ?_
    refine sq2 ?_
    refine rg (pv (r_mi rfl) (pv (r_zi rfl) (nil (t_then ?_))))
    refine sq2 ?_
    obtain ⟨u1, hx1, hm⟩ := bindS hm
    obtain ⟨b1, of1, cs1, k1, cp1, hv1, hp1, hl1, he1, hr1, hc1⟩ := (hS1.view (i := 1) ⟨rfl, rfl⟩ hV_p0).ixq hx1 rfl
    obtain ⟨a2, c2, rfl, h2⟩ := rKindKnown_open hr1
    obtain ⟨y1, hx2, hm⟩ := bindS hm
    refine rg (pv (r_mf rfl) (pv (r_mx (v := v_p0) rfl) (pv (r_mi rfl) (pv (r_ixe hv1 rfl Try.underlying66 Try.sizeOf65 hp1 hl1 he1) (pv (r_ldS rfl Try.isAgg65 Try.sizeOf65 rfl hc1 (cs := [.int .i64 u1.Type_.Kind, .int .i64 u1.Type_.Elem, .int .i64 u1.Type_.Len, .string ⟨u1.Type_.Name.toArray⟩, .slice a2 (List.length u1.Type_.Fields) c2, .int .i64 u1.size, .int .i64 u1.align, .bool u1.open_])) (wl rfl (calS cf44 rfl (kind_Table_put_1_sim (p0 := u1) (p1 := p1) (H_p1 := H_p1) (hS1.bun [0, 1] [2] rfl) h2 hL_p1 (h1.mono im1) hx2) rfl fun v1 T2 w2 im2 rv1 => ?_)))))))
    obtain ⟨rfl, hS2, _⟩ := rv1
    have hS2 : Sep g T2 w2 [R, H_p0, H_p1 [.int .i64 p1.Type_.Kind, .int .i64 p1.Type_.Elem, .int .i64 p1.Type_.Len, .string ⟨p1.Type_.Name.toArray⟩, .slice a1 (List.length p1.Type_.Fields) c1, .int .i64 p1.size, .int .i64 p1.align, .bool p1.open_]] := hS2.unb
    refine nil (t_thenR [(0, v_p0), (1, .func (.func 44) #[] #[.pointer (some ⟨b_p1, o_p1, none⟩)]), (5, .int .i64 x1), (7, .int .i64 (List.length p0 : Int)), (8, .int .i64 x1), (16, .bool y1)] ⟨rfl, rfl, rfl, rfl, rfl, rfl, trivial⟩ fun J => ?_)
    refine cnd rfl (fun hb2 => ?_) (fun hb2 => ?_)
    · have hm := ctrue hb2 hm
      refine sq2 ?_
      refine rg (pv (r_mi rfl) (pv (r_zi rfl) (nil (t_thenR [(4, .int .i64 x1)] ⟨rfl, trivial⟩ fun J => ?_))))
      have hm := Option.some.inj hm
      subst hm
      have hn1 : _ = Lp.ret _ := hn1
      subst hn1
      have hm := thn_ret hq1
      have hm := Option.some.inj hm
      subst hm
      exact rtn (r_blk (r_then (r_then (r_blk (r_then (ret1 rfl rfl ⟨_, rfl, _, (Im.trans im1 im2), ⟨rfl, hS2.sel [0, 1, 2] rfl, trivial⟩⟩))))))
    · have hm := cfalse hb2 hm
      refine skp (t_blk (t_then ?_))
      have hm := Option.some.inj hm
      subst hm
      exact rg (pv (r_ib rfl rfl rfl) (pv (r_mi rfl) (nil (t_then ⟨m1, Nat.lt_succ_self _, _, _, (IntKind.wrap .i64 (x1 + 1)), env_has ⟨rfl, rfl, rfl, rfl, trivial⟩, (Im.trans im1 im2), hS2.sel [0, 1, 2] rfl, hn1⟩))))
  · have hm := cfalse hb1 hm
    have hm := Option.some.inj hm
    subst hm
    have hn1 : _ = Lp.brk _ := hn1
    subst hn1
    have hm := thn_brk hq1
    refine xt (x_then (x_then (x_eq (t_thenR [] trivial fun J => ?_))))
    refine sq2 ?_
    refine rg (pv (r_zi rfl) (nil (t_then ?_)))
    have hm := Option.some.inj hm
    subst hm
    exact rtn (ret1 rfl rfl ⟨_, rfl, _, im1, ⟨rfl, hS1.sel [0, 1, 2] rfl, trivial⟩⟩)

set_option maxRecDepth 100000 in
set_option maxHeartbeats 1000000 in
theorem kind_Table_put_sim {g : World} {T0 : Nat → Prop} {w0 : World} {R : Assn} {p0 : KindTable} {b_p0 o_p0 : Nat} {H_p0 : List Value → Assn} {a1 : Option Addr} {n1 : Nat} {c1 : Nat} {p1 : KindKnown} {a2 : Option Addr} {c2 : Nat} {r : Int × Int × KindTable} (hS : Sep g T0 w0 [R, H_p0 [.slice a1 n1 c1], ownA rKindKnown 65 (.slice a1 n1 c1) p0.list]) (hL_p0 : Ln b_p0 o_p0 H_p0) (h1 : SlR rGField T0 w0 (.slice a2 (List.length p1.Type_.Fields) c2) p1.Type_.Fields) (hm : kind_Table_put p0 p1 = some r) :
    Calls Try.prog 34 #[.pointer (some ⟨b_p0, o_p0, none⟩), .agg #[.int .i64 p1.Type_.Kind, .int .i64 p1.Type_.Elem, .int .i64 p1.Type_.Len, .string ⟨p1.Type_.Name.toArray⟩, .slice a2 (List.length p1.Type_.Fields) c2, .int .i64 p1.size, .int .i64 p1.align, .bool p1.open_]] w0 (RetS T0 w0 fun T w v => ∃ (a5 : Option Addr) (n4 : Nat) (c5 : Nat), v = .tuple #[.int .i64 r.1, .int .i64 r.2.1] ∧ Sep g T w [R, H_p0 [.slice a5 n4 c5], ownA rKindKnown 65 (.slice a5 n4 c5) r.2.2.list] ∧ True) := by
  refine enter (args := [.pointer (some ⟨b_p0, o_p0, none⟩), .agg #[.int .i64 p1.Type_.Kind, .int .i64 p1.Type_.Elem, .int .i64 p1.Type_.Len, .string ⟨p1.Type_.Name.toArray⟩, .slice a2 (List.length p1.Type_.Fields) c2, .int .i64 p1.size, .int .i64 p1.align, .bool p1.open_]]) Try.func34 rfl Try.ntmps34 rfl fun J => ?_
  unfold kind_Table_put at hm
  refine sq2 ?_
  refine rg (wl rfl (bxS (cs := [.int .i64 p1.Type_.Kind, .int .i64 p1.Type_.Elem, .int .i64 p1.Type_.Len, .string ⟨p1.Type_.Name.toArray⟩, .slice a2 (List.length p1.Type_.Fields) c2, .int .i64 p1.size, .int .i64 p1.align, .bool p1.open_]) rfl rfl hS fun w1 b1 im1 hS1 => ?_))
  refine pv (r_zi rfl) (pv (r_zi rfl) (nil (t_then ?_)))
  refine sq2 ?_
  obtain ⟨y1, hx1, hm⟩ := bindS hm
  refine rg (pv (r_mp rfl) (pv (r_nc rfl) (pv (r_fa rfl Try.underlying68 rfl Try.sizeOf66 rfl) (pv (r_ld rfl Try.isAgg66 (hS1.cellB (i := 2) ⟨rfl, rfl⟩ hL_p0 (j := 0) rfl)) (pv (r_mkf (u := .func (.func 44) #[] #[.pointer (some ⟨b1, 0, none⟩)]) rfl) (wl rfl (calS cf43 rfl (slices_IndexFunc_2_sim (p0 := p0.list) (H_p0 := ownA rKindKnown 65 (.slice a1 n1 c1) p0.list) (p1 := p1) (H_p1 := boxA b1) (hS1.bun [1, 2] [3, 0] rfl) vwOwn (lnBox b1) (h1.mono im1) hx1) rfl fun v1 T1 w2 im2 rv1 => ?_)))))))
  obtain ⟨rfl, hS2, _⟩ := rv1
  have hS2 : Sep g T1 w2 [R, H_p0 [.slice a1 n1 c1], ownA rKindKnown 65 (.slice a1 n1 c1) p0.list, boxA b1 [.int .i64 p1.Type_.Kind, .int .i64 p1.Type_.Elem, .int .i64 p1.Type_.Len, .string ⟨p1.Type_.Name.toArray⟩, .slice a2 (List.length p1.Type_.Fields) c2, .int .i64 p1.size, .int .i64 p1.align, .bool p1.open_]] := hS2.unb
  refine pv (r_zi rfl) (nil (t_thenR [(0, .pointer (some ⟨b_p0, o_p0, none⟩)), (3, .pointer (some ⟨b1, 0, none⟩)), (6, .int .i64 y1)] ⟨rfl, rfl, rfl, trivial⟩ fun J => ?_))
  refine sq2 ?_
  refine blk ?_
  refine sq2 ?_
  refine rg (pv (r_mi rfl) (pv (r_ib rfl rfl rfl) (pv (r_zb rfl) (nil (t_then ?_)))))
  refine cnd rfl (fun hb1 => ?_) (fun hb1 => ?_)
  · have hm := ctrue hb1 hm
    refine sq2 ?_
    refine rg (pv (r_mi rfl) (pv (r_zi rfl) (pv (r_zi rfl) (nil (t_thenR [(4, .int .i64 y1), (5, .int .i64 0)] ⟨rfl, rfl, trivial⟩ fun J => ?_)))))
    have hm := Option.some.inj hm
    subst hm
    exact rtn (r_blk (r_then (retN (vs := [.int .i64 y1, .int .i64 0]) rfl ⟨rfl, rfl, trivial⟩ rfl ⟨_, rfl, _, (Im.trans im1 im2), ⟨_, _, _, rfl, hS2.sel [0, 1, 2] rfl, trivial⟩⟩)))
  · have hm := cfalse hb1 hm
    refine sq2 ?_
    refine rg (pv (r_mp rfl) (pv (r_nc rfl) (pv (r_fa rfl Try.underlying68 rfl Try.sizeOf66 rfl) (pv (r_ld rfl Try.isAgg66 (hS2.cellB (i := 1) ⟨rfl, rfl⟩ hL_p0 (j := 0) rfl)) (pv (r_lnV rfl (hS2.own (i := 2) ⟨rfl, rfl⟩).v Try.underlying66) (pv (r_ib rfl rfl rfl) (pv (r_zb rfl) (nil (t_thenR [(0, .pointer (some ⟨b_p0, o_p0, none⟩)), (3, .pointer (some ⟨b1, 0, none⟩)), (17, .bool (decide (400 ≤ (List.length p0.list : Int))))] ⟨rfl, rfl, rfl, trivial⟩ fun J => ?_)))))))))
    refine cnd rfl (fun hb2 => ?_) (fun hb2 => ?_)
    · have hm := ctrue hb2 hm
      refine sq2 ?_
      refine rg (pv (r_zi rfl) (pv (r_zi rfl) (nil (t_then ?_))))
      have hm := Option.some.inj hm
      subst hm
      exact rtn (r_blk (r_then (retN (vs := [.int .i64 0, .int .i64 8]) rfl ⟨rfl, rfl, trivial⟩ rfl ⟨_, rfl, _, (Im.trans im1 im2), ⟨_, _, _, rfl, hS2.sel [0, 1, 2] rfl, trivial⟩⟩)))
    · have hm := cfalse hb2 hm
      refine skp (t_blk (t_then ?_))
      refine sq2 ?_
      refine rs [0, 0, 0, 0, 1, 1, 2, 2, 0, 0, 2] [0, 1, 2, 3, 4, 5, 6, 7, 8, 9, 10] mix (by kernel_rfl) hS2.lt fun w3 i1 => ?_
      have im3 := i1.imm
      have hS3 := hS2.keep i1 (fun _ h => h)
      refine s0 rfl trivial (fun _ => r_mp rfl) rfl (s0 rfl trivial (fun _ => r_mp rfl) rfl (s0 rfl trivial (fun _ => r_nc rfl) rfl (s0 rfl trivial (fun _ => r_fa rfl Try.underlying68 rfl Try.sizeOf66 rfl) rfl (s1 rfl trivial (r_ld rfl Try.isAgg66 (hS3.cellB (i := 1) ⟨rfl, rfl⟩ hL_p0 (j := 0) rfl)) rfl (s1 rfl trivial (r_ldS rfl Try.isAgg65 Try.sizeOf65 rfl (hS3.cells0 (i := 3) ⟨rfl, rfl⟩ (o := 0) rfl) (cs := [.int .i64 p1.Type_.Kind, .int .i64 p1.Type_.Elem, .int .i64 p1.Type_.Len, .string ⟨p1.Type_.Name.toArray⟩, .slice a2 (List.length p1.Type_.Fields) c2, .int .i64 p1.size, .int .i64 p1.align, .bool p1.open_])) rfl (s2 [(4, .slice a1 n1 c1)] rfl trivial rfl (by kernel_rfl) (bsS (r := rKindKnown) (l := ([p1] : List KindKnown)) (css := [[.int .i64 p1.Type_.Kind, .int .i64 p1.Type_.Elem, .int .i64 p1.Type_.Len, .string ⟨p1.Type_.Name.toArray⟩, .slice a2 (List.length p1.Type_.Fields) c2, .int .i64 p1.size, .int .i64 p1.align, .bool p1.open_]]) hS3 Try.underlying66 Try.sizeOf65 Try.zeroValue65 rfl rfl (by kernel_rfl) rfl ⟨(rKindKnown_mk (x := p1) (h1.mono (Im.trans im1 (Im.trans im2 im3))) : rKindKnown.rp _ _ _ _), trivial⟩ rfl rfl fun w4 a3 n2 c3 im4 hS4 => ?_)))))))
      refine ⟨st1 rfl (r_ld rfl Try.isAgg66 (hS4.cellB (i := 2) ⟨rfl, rfl⟩ hL_p0 (j := 0) rfl)) (st0), ?_⟩
      obtain ⟨z_1, hro1, hm⟩ := bindS hm
      refine s2 [] rfl trivial rfl (by kernel_rfl) (apO (q := 3) (l := p0.list) (us := ([p1] : List KindKnown)) hS4 ⟨rfl, rfl⟩ rfl rfl (hS4.own (i := 0) ⟨rfl, rfl⟩).v Try.underlying66 el65 (room_some hro1) fun w5 a4 n3 c4 im5 hS5 => ?_)
      have hS5 : Sep g T1 w5 [ownA rKindKnown 65 (.slice a3 n2 c3) ([p1] : List KindKnown), R, H_p0 [.slice a1 n1 c1], ownA rKindKnown 65 (.slice a4 n3 c4) (p0.list ++ ([p1] : List KindKnown)), boxA b1 [.int .i64 p1.Type_.Kind, .int .i64 p1.Type_.Elem, .int .i64 p1.Type_.Len, .string ⟨p1.Type_.Name.toArray⟩, .slice a2 (List.length p1.Type_.Fields) c2, .int .i64 p1.size, .int .i64 p1.align, .bool p1.open_]] := hS5
      refine ⟨st0, ?_⟩
      refine s0 rfl trivial (fun _ => r_nc rfl) rfl (s0 rfl trivial (fun _ => r_fa rfl Try.underlying68 rfl Try.sizeOf66 rfl) rfl (s2 [] rfl trivial rfl (by kernel_rfl) (stB (q := 2) (j := 0) hS5 ⟨rfl, rfl⟩ hL_p0 rfl rfl rfl Try.sizeOf66 rfl rfl rfl fun w6 im6 hS6 => ?_)))
      have hS6 : Sep g T1 w6 [ownA rKindKnown 65 (.slice a3 n2 c3) ([p1] : List KindKnown), R, H_p0 [.slice a4 n3 c4], ownA rKindKnown 65 (.slice a4 n3 c4) (p0.list ++ ([p1] : List KindKnown)), boxA b1 [.int .i64 p1.Type_.Kind, .int .i64 p1.Type_.Elem, .int .i64 p1.Type_.Len, .string ⟨p1.Type_.Name.toArray⟩, .slice a2 (List.length p1.Type_.Fields) c2, .int .i64 p1.size, .int .i64 p1.align, .bool p1.open_]] := hS6
      refine ⟨st0, ?_⟩
      refine se (t_thenR [(0, .pointer (some ⟨b_p0, o_p0, none⟩))] ⟨rfl, trivial⟩ fun J => ?_)
      refine sq2 ?_
      refine rg (pv (r_mp rfl) (pv (r_nc rfl) (pv (r_fa rfl Try.underlying68 rfl Try.sizeOf66 rfl) (pv (r_ld rfl Try.isAgg66 (hS6.cellB (i := 2) ⟨rfl, rfl⟩ hL_p0 (j := 0) rfl)) (pv (r_lnV rfl (hS6.own (i := 3) ⟨rfl, rfl⟩).v Try.underlying66) (pv (r_ib rfl rfl rfl) (pv (r_zi rfl) (pv (r_zi rfl) (nil (t_thenR [(4, .int .i64 (IntKind.wrap .i64 ((List.length (p0.list ++ ([p1] : List KindKnown)) : Int) - 1))), (5, .int .i64 0)] ⟨rfl, rfl, trivial⟩ fun J => ?_))))))))))
      have hm := Option.some.inj hm
      subst hm
      exact rtn (retN (vs := [.int .i64 (IntKind.wrap .i64 ((List.length (p0.list ++ ([p1] : List KindKnown)) : Int) - 1)), .int .i64 0]) rfl ⟨rfl, rfl, trivial⟩ rfl ⟨_, rfl, _, (Im.trans im1 (Im.trans im2 (Im.trans im3 (Im.trans im4 (Im.trans im5 im6))))), ⟨_, _, _, rfl, hS6.sel [1, 2, 3] rfl, trivial⟩⟩)

set_option maxRecDepth 100000 in
set_option maxHeartbeats 1000000 in
theorem kind_Table_Open_sim {g : World} {T0 : Nat → Prop} {w0 : World} {R : Assn} {p0 : KindTable} {b_p0 o_p0 : Nat} {H_p0 : List Value → Assn} {a1 : Option Addr} {n1 : Nat} {c1 : Nat} {p1 : List UInt8} {r : Int × Int × KindTable} (hS : Sep g T0 w0 [R, H_p0 [.slice a1 n1 c1], ownA rKindKnown 65 (.slice a1 n1 c1) p0.list]) (hL_p0 : Ln b_p0 o_p0 H_p0) (hm : kind_Table_Open p0 p1 = some r) :
    Calls Try.prog 27 #[.pointer (some ⟨b_p0, o_p0, none⟩), .string ⟨p1.toArray⟩] w0 (RetS T0 w0 fun T w v => ∃ (a3 : Option Addr) (n3 : Nat) (c3 : Nat), v = .tuple #[.int .i64 r.1, .int .i64 r.2.1] ∧ Sep g T w [R, H_p0 [.slice a3 n3 c3], ownA rKindKnown 65 (.slice a3 n3 c3) r.2.2.list] ∧ True) := by
  refine enter (args := [.pointer (some ⟨b_p0, o_p0, none⟩), .string ⟨p1.toArray⟩]) Try.func27 rfl Try.ntmps27 rfl fun J => ?_
  unfold kind_Table_Open at hm
  refine sq2 ?_
  refine rg (pv (r_zi rfl) (pv (r_zi rfl) (nil (t_then ?_))))
  refine sq2 ?_
  refine blk ?_
  refine sq2 ?_
  refine rg (pv (r_mp rfl) (pv (r_pne rfl rfl rfl Try.underlying25) (pv (r_mb rfl) (gT (d0 := 9) rfl rfl rfl (pv (r_mt rfl) (gT (d0 := 9) rfl rfl rfl (pv (r_sqL rfl rfl) (pv (r_pkf rfl rfl rfl) (pv (r_zb rfl) (nil (t_thenR [(0, .pointer (some ⟨b_p0, o_p0, none⟩)), (1, .string ⟨p1.toArray⟩), (6, .bool (decide (p1 = ([] : List UInt8))))] ⟨rfl, rfl, rfl, trivial⟩ fun J => ?_)))))))))))
  refine cnd rfl (fun hb1 => ?_) (fun hb1 => ?_)
  · have hm := ctrue hb1 hm
    refine sq2 ?_
    refine rg (pv (r_zi rfl) (pv (r_zi rfl) (nil (t_then ?_))))
    have hm := Option.some.inj hm
    subst hm
    exact rtn (r_blk (r_then (retN (vs := [.int .i64 0, .int .i64 1]) rfl ⟨rfl, rfl, trivial⟩ rfl ⟨_, rfl, _, Im.refl, ⟨_, _, _, rfl, hS.sel [0, 1, 2] rfl, trivial⟩⟩)))
  · have hm := cfalse hb1 hm
    refine sq2 ?_
    obtain ⟨y1, hx1, hm⟩ := bindS hm
    refine rg (pv (r_mp rfl) (pv (r_mt rfl) (wl rfl (calS cf35 rfl (kind_Table_named_sim (p0 := p0) (H_p0 := H_p0) (p1 := p1) (hS.bun [0] [1, 2] rfl) hL_p0 hx1) rfl fun v1 T1 w1 im1 rv1 => ?_))))
    obtain ⟨rfl, hS1, _⟩ := rv1
    have hS1 : Sep g T1 w1 [R, H_p0 [.slice a1 n1 c1], ownA rKindKnown 65 (.slice a1 n1 c1) p0.list] := hS1.unb
    refine pv (r_ib rfl rfl rfl) (pv (r_zb rfl) (nil (t_thenR [(0, .pointer (some ⟨b_p0, o_p0, none⟩)), (1, .string ⟨p1.toArray⟩), (13, .bool (decide (0 ≤ y1)))] ⟨rfl, rfl, rfl, trivial⟩ fun J => ?_)))
    refine cnd rfl (fun hb2 => ?_) (fun hb2 => ?_)
    · have hm := ctrue hb2 hm
      refine sq2 ?_
      refine rg (pv (r_zi rfl) (pv (r_zi rfl) (nil (t_then ?_))))
      have hm := Option.some.inj hm
      subst hm
      exact rtn (r_blk (r_then (retN (vs := [.int .i64 0, .int .i64 6]) rfl ⟨rfl, rfl, trivial⟩ rfl ⟨_, rfl, _, im1, ⟨_, _, _, rfl, hS1.sel [0, 1, 2] rfl, trivial⟩⟩)))
    · have hm := cfalse hb2 hm
      refine skp (t_blk (t_then ?_))
      refine sq2 ?_
      obtain ⟨y2, hx2, hm⟩ := bindS hm
      refine rg (pv (r_mp rfl) (pv (r_mt rfl) (pv (r_bd (by kernel_rfl) rfl (u := .agg #[.int .i64 5, .int .i64 0, .int .i64 0, .string ⟨p1.toArray⟩, .slice none 0 0])) (pv (r_bd (by kernel_rfl) rfl (u := .agg #[.int .i64 5, .int .i64 0, .int .i64 0, .string ⟨p1.toArray⟩, .slice none 0 0, .int .i64 0, .int .i64 0, .bool true])) (wl rfl (calS cf34 rfl (kind_Table_put_sim (p0 := p0) (H_p0 := H_p0) (p1 := (⟨(⟨5, 0, 0, p1, []⟩ : GType), 0, 0, true⟩ : KindKnown)) (hS1.bun [0] [1, 2] rfl) hL_p0 SlR_nil hx2) rfl fun v2 T2 w2 im2 rv2 => ?_))))))
      obtain ⟨a2, n2, c2, rfl, hS2, _⟩ := rv2
      have hS2 : Sep g T2 w2 [R, H_p0 [.slice a2 n2 c2], ownA rKindKnown 65 (.slice a2 n2 c2) y2.2.2.list] := hS2.unb
      refine pv (r_ex (v := .int .i64 y2.1) rfl rfl) (pv (r_ex (v := .int .i64 y2.2.1) rfl rfl) (pv (r_zi rfl) (pv (r_zi rfl) (nil (t_thenR [(4, .int .i64 y2.1), (5, .int .i64 y2.2.1)] ⟨rfl, rfl, trivial⟩ fun J => ?_)))))
      have hm := Option.some.inj hm
      subst hm
      exact rtn (retN (vs := [.int .i64 y2.1, .int .i64 y2.2.1]) rfl ⟨rfl, rfl, trivial⟩ rfl ⟨_, rfl, _, (Im.trans im1 im2), ⟨_, _, _, rfl, hS2.sel [0, 1, 2] rfl, trivial⟩⟩)

set_option maxRecDepth 100000 in
set_option maxHeartbeats 1000000 in
theorem kind_Table_may_1_sim {g : World} {T0 : Nat → Prop} {w0 : World} {R : Assn} {p0 : GField} {r : Bool} (hS : Sep g T0 w0 [R])  (hm : kind_Table_may_1 p0 = some r) :
    Calls Try.prog 47 #[.agg #[.string ⟨p0.Name.toArray⟩, .int .i64 p0.Type_, .int .i64 p0.At]] w0 (RetS T0 w0 fun T w v => v = .bool r ∧ Sep g T w [R] ∧ True) := by
  refine enter (args := [.agg #[.string ⟨p0.Name.toArray⟩, .int .i64 p0.Type_, .int .i64 p0.At]]) Try.func47 rfl Try.ntmps47 rfl fun J => ?_
  unfold kind_Table_may_1 at hm
  refine sq2 ?_
  refine rg (wl rfl (bxS (cs := [.string ⟨p0.Name.toArray⟩, .int .i64 p0.Type_, .int .i64 p0.At]) rfl rfl hS fun w1 b1 im1 hS1 => ?_))
  refine pv (r_zb rfl) (nil (t_then ?_))
  refine sq2 ?_
  refine rg (pv (r_fa rfl Try.underlying45 rfl Try.sizeOf9 rfl) (pv (r_ld rfl Try.isAgg9 (hS1.cell0 (i := 0) ⟨rfl, rfl⟩ (j := 0) rfl)) (pv (r_sqL rfl rfl) (pv (r_zb rfl) (nil (t_thenR [(2, .bool (decide (p0.Name = ([] : List UInt8))))] ⟨rfl, trivial⟩ fun J => ?_))))))
  have hm := Option.some.inj hm
  subst hm
  exact rtn (ret1 rfl rfl ⟨_, rfl, _, im1, ⟨rfl, hS1.sel [1] rfl, trivial⟩⟩)

set_option maxRecDepth 100000 in
set_option maxHeartbeats 1000000 in
theorem slices_IndexFunc_3_sim {g : World} {T0 : Nat → Prop} {w0 : World} {R : Assn} {p0 : List GField} {a1 : Option Addr} {c1 : Nat} {r : Int} (hS : Sep g T0 w0 [R]) (h1 : SlR rGField T0 w0 (.slice a1 (List.length p0) c1) p0) (hm : slices_IndexFunc_3 p0 = some r) :
    Calls Try.prog 51 #[.slice a1 (List.length p0) c1, .func (.func 47) #[] #[]] w0 (RetS T0 w0 fun T w v => v = .int .i64 r ∧ Sep g T w [R] ∧ True) := by
  refine enter (args := [.slice a1 (List.length p0) c1, .func (.func 47) #[] #[]]) Try.func51 rfl Try.ntmps51 rfl fun J => ?_
  unfold slices_IndexFunc_3 at hm
  refine sq2 ?_
  refine rg (pv (r_zi rfl) (nil (t_then ?_)))
  refine sq2 ?_
  refine sq2 ?_
  refine rg (pv (r_ms rfl) (pv (r_ln rfl Try.underlying32) (pv (r_mi rfl) (nil (t_then ?_)))))
  obtain ⟨o1, ho1, hq1⟩ := bindS hm
  obtain ⟨bd1, hbd1, ho1⟩ := loop_open ho1
  refine blk (wp_loop_ghost (fun m a w1 => ∃ (J : Nat → Value) (T1 : Nat → Prop) (x1 : Int), a = env 19 J [(0, .slice a1 (List.length p0) c1), (1, .func (.func 47) #[] #[]), (7, .int .i64 (List.length p0 : Int)), (8, .int .i64 x1)] ∧ Im T0 w0 T1 w1 ∧ Sep g T1 w1 [R] ∧ loopM bd1 m x1 = some o1) NN ⟨_, _, 0, env_has ⟨rfl, rfl, rfl, rfl, trivial⟩, Im.refl, hS.sel [0] rfl, ho1⟩ ?_)
  rintro m _ w1 ⟨J, T1, x1, rfl, im1, hS1, ho1⟩
  obtain ⟨m1, z1, rfl, hm, hn1⟩ := loop_round ho1
  rw [hbd1] at hm
  refine sq2 ?_
  refine rg (pv (r_ib rfl rfl rfl) (nil (t_then ?_)))
  refine sq2 ?_
  refine cnd rfl (fun hb1 => ?_) (fun hb1 => ?_)
  · have hm := ctrue hb1 hm
    refine skp (t_then ?_)
    refine sq2 ?_
    refine blk ?_
    refine sq2 ?_
    refine rg (pv (r_mi rfl) (pv (r_zi rfl) (nil (t_then ?_))))
    refine sq2 ?_
    obtain ⟨u1, hx1, hm⟩ := bindS hm
    obtain ⟨b1, of1, cs1, k1, cp1, hv1, hp1, hl1, he1, hr1, hc1, hT1⟩ := (h1.mono im1).ixT hx1 rfl
    cases rGField_open hr1
    obtain ⟨y1, hx2, hm⟩ := bindS hm
    refine rg (pv (r_mf rfl) (pv (r_ms rfl) (pv (r_mi rfl) (pv (r_ixe hv1 rfl Try.underlying32 Try.sizeOf45 hp1 hl1 he1) (pv (r_ldS rfl Try.isAgg45 Try.sizeOf45 rfl hc1 (cs := [.string ⟨u1.Name.toArray⟩, .int .i64 u1.Type_, .int .i64 u1.At])) (wl rfl (calS cf47 rfl (kind_Table_may_1_sim (p0 := u1) (hS1.bun [0] [] rfl)  hx2) rfl fun v1 T2 w2 im2 rv1 => ?_)))))))
    obtain ⟨rfl, hS2, _⟩ := rv1
    have hS2 : Sep g T2 w2 [R] := hS2.unb
    refine nil (t_thenR [(0, .slice a1 (List.length p0) c1), (1, .func (.func 47) #[] #[]), (5, .int .i64 x1), (7, .int .i64 (List.length p0 : Int)), (8, .int .i64 x1), (16, .bool y1)] ⟨rfl, rfl, rfl, rfl, rfl, rfl, trivial⟩ fun J => ?_)
    refine cnd rfl (fun hb2 => ?_) (fun hb2 => ?_)
    · have hm := ctrue hb2 hm
      refine sq2 ?_
      refine rg (pv (r_mi rfl) (pv (r_zi rfl) (nil (t_thenR [(4, .int .i64 x1)] ⟨rfl, trivial⟩ fun J => ?_))))
      have hm := Option.some.inj hm
      subst hm
      have hn1 : _ = Lp.ret _ := hn1
      subst hn1
      have hm := thn_ret hq1
      have hm := Option.some.inj hm
      subst hm
      exact rtn (r_blk (r_then (r_then (r_blk (r_then (ret1 rfl rfl ⟨_, rfl, _, (Im.trans im1 im2), ⟨rfl, hS2.sel [0] rfl, trivial⟩⟩))))))
    · have hm := cfalse hb2 hm
      refine skp (t_blk (t_then ?_))
      have hm := Option.some.inj hm
      subst hm
      exact rg (pv (r_ib rfl rfl rfl) (pv (r_mi rfl) (nil (t_then ⟨m1, Nat.lt_succ_self _, _, _, (IntKind.wrap .i64 (x1 + 1)), env_has ⟨rfl, rfl, rfl, rfl, trivial⟩, (Im.trans im1 im2), hS2.sel [0] rfl, hn1⟩))))
  · have hm := cfalse hb1 hm
    have hm := Option.some.inj hm
    subst hm
    have hn1 : _ = Lp.brk _ := hn1
    subst hn1
    have hm := thn_brk hq1
    refine xt (x_then (x_then (x_eq (t_thenR [] trivial fun J => ?_))))
    refine sq2 ?_
    refine rg (pv (r_zi rfl) (nil (t_then ?_)))
    have hm := Option.some.inj hm
    subst hm
    exact rtn (ret1 rfl rfl ⟨_, rfl, _, im1, ⟨rfl, hS1.sel [0] rfl, trivial⟩⟩)

set_option maxRecDepth 100000 in
set_option maxHeartbeats 1000000 in
theorem slices_ContainsFunc_sim {g : World} {T0 : Nat → Prop} {w0 : World} {R : Assn} {p0 : List GField} {a1 : Option Addr} {c1 : Nat} {r : Bool} (hS : Sep g T0 w0 [R]) (h1 : SlR rGField T0 w0 (.slice a1 (List.length p0) c1) p0) (hm : slices_ContainsFunc p0 = some r) :
    Calls Try.prog 46 #[.slice a1 (List.length p0) c1, .func (.func 47) #[] #[]] w0 (RetS T0 w0 fun T w v => v = .bool r ∧ Sep g T w [R] ∧ True) := by
  refine enter (args := [.slice a1 (List.length p0) c1, .func (.func 47) #[] #[]]) Try.func46 rfl Try.ntmps46 rfl fun J => ?_
  unfold slices_ContainsFunc at hm
  refine sq2 ?_
  refine rg (pv (r_zb rfl) (nil (t_then ?_)))
  refine sq2 ?_
  obtain ⟨y1, hx1, hm⟩ := bindS hm
  refine rg (pv (r_ms rfl) (pv (r_mf rfl) (wl rfl (calS cf51 rfl (slices_IndexFunc_3_sim (p0 := p0) (hS.bun [0] [] rfl) h1 hx1) rfl fun v1 T1 w1 im1 rv1 => ?_))))
  obtain ⟨rfl, hS1, _⟩ := rv1
  have hS1 : Sep g T1 w1 [R] := hS1.unb
  refine pv (r_ib rfl rfl rfl) (pv (r_zb rfl) (nil (t_thenR [(4, .bool (decide (0 ≤ y1)))] ⟨rfl, trivial⟩ fun J => ?_)))
  have hm := Option.some.inj hm
  subst hm
  exact rtn (ret1 rfl rfl ⟨_, rfl, _, im1, ⟨rfl, hS1.sel [0] rfl, trivial⟩⟩)

set_option maxRecDepth 100000 in
set_option maxHeartbeats 1000000 in
theorem kind_Table_has_sim {g : World} {T0 : Nat → Prop} {w0 : World} {R : Assn} {p0 : KindTable} {b_p0 o_p0 : Nat} {H_p0 : List Value → Assn} {a1 : Option Addr} {n1 : Nat} {c1 : Nat} {p1 : Int} {r : Bool} (hS : Sep g T0 w0 [R, H_p0 [.slice a1 n1 c1], ownA rKindKnown 65 (.slice a1 n1 c1) p0.list]) (hL_p0 : Ln b_p0 o_p0 H_p0) (hm : kind_Table_has p0 p1 = some r) :
    Calls Try.prog 33 #[.pointer (some ⟨b_p0, o_p0, none⟩), .int .i64 p1] w0 (RetS T0 w0 fun T w v => v = .bool r ∧ Sep g T w [R, H_p0 [.slice a1 n1 c1], ownA rKindKnown 65 (.slice a1 n1 c1) p0.list] ∧ True) := by
  refine enter (args := [.pointer (some ⟨b_p0, o_p0, none⟩), .int .i64 p1]) Try.func33 rfl Try.ntmps33 rfl fun J => ?_
  unfold kind_Table_has at hm
  refine sq2 ?_
  refine rg (pv (r_zb rfl) (nil (t_then ?_)))
  refine sq2 ?_
  refine rg (pv (r_mp rfl) (pv (r_pnn rfl rfl rfl Try.underlying25) (pv (r_mb rfl) (gT (d0 := 7) rfl rfl rfl (pv (r_mi rfl) (gT (d0 := 7) rfl rfl rfl (pv (r_ib rfl rfl rfl) (pv (r_pkt rfl rfl rfl) (pv (r_mb rfl) (?_))))))))))
  rcases Bool.eq_false_or_eq_true (decide (0 ≤ p1)) with hb1 | hb1
  · have hm := ctrue hb1 hm
    refine gT (d0 := 11) rfl rfl hb1 (pv (r_mi rfl) (gT (d0 := 11) rfl rfl hb1 (pv (r_mp rfl) (gT (d0 := 11) rfl rfl hb1 (pv (r_nc rfl) (gT (d0 := 11) rfl rfl hb1 (pv (r_fa rfl Try.underlying68 rfl Try.sizeOf66 rfl) (gT (d0 := 11) rfl rfl hb1 (pv (r_ld rfl Try.isAgg66 (hS.cellB (i := 1) ⟨rfl, rfl⟩ hL_p0 (j := 0) rfl)) (gT (d0 := 11) rfl rfl hb1 (pv (r_lnV rfl (hS.own (i := 2) ⟨rfl, rfl⟩).v Try.underlying66) (gT (d0 := 11) rfl rfl hb1 (pv (r_ib rfl rfl rfl) (pv (r_pkt rfl hb1 rfl) (pv (r_zb rfl) (nil (t_thenR [(4, .bool (decide (p1 < (List.length p0.list : Int))))] ⟨rfl, trivial⟩ fun J => ?_)))))))))))))))))
    have hm := Option.some.inj hm
    subst hm
    exact rtn (ret1 rfl rfl ⟨_, rfl, _, Im.refl, ⟨rfl, hS.sel [0, 1, 2] rfl, trivial⟩⟩)
  · have hm := cfalse hb1 hm
    refine gF (d0 := 11) rfl rfl (by rw [hb1]; rfl) (gF (d0 := 11) rfl rfl (by rw [hb1]; rfl) (gF (d0 := 11) rfl rfl (by rw [hb1]; rfl) (gF (d0 := 11) rfl rfl (by rw [hb1]; rfl) (gF (d0 := 11) rfl rfl (by rw [hb1]; rfl) (gF (d0 := 11) rfl rfl (by rw [hb1]; rfl) (gF (d0 := 11) rfl rfl (by rw [hb1]; rfl) (pv (r_pkf rfl hb1 rfl) (pv (r_zb rfl) (nil (t_thenR [(4, .bool false)] ⟨rfl, trivial⟩ fun J => ?_))))))))))
    have hm := Option.some.inj hm
    subst hm
    exact rtn (ret1 rfl rfl ⟨_, rfl, _, Im.refl, ⟨rfl, hS.sel [0, 1, 2] rfl, trivial⟩⟩)

set_option maxRecDepth 100000 in
set_option maxHeartbeats 1000000 in
theorem kind_Table_may_2_sim {g : World} {T0 : Nat → Prop} {w0 : World} {R : Assn} {p0 : GField} {p1 : KindTable} {b_p1 o_p1 : Nat} {H_p1 : List Value → Assn} {b1 : Nat} {oo1 : Nat} {H1 : List Value → Assn} {a1 : Option Addr} {n1 : Nat} {c1 : Nat} {r : Bool} (hS : Sep g T0 w0 [R, H_p1 [.pointer (some ⟨b1, oo1, none⟩)], H1 [.slice a1 n1 c1], ownA rKindKnown 65 (.slice a1 n1 c1) p1.list]) (hL_p1 : Ln b_p1 o_p1 H_p1) (hL1 : Ln b1 oo1 H1) (hm : kind_Table_may_2 p0 p1 = some r) :
    Calls Try.prog 48 #[.agg #[.string ⟨p0.Name.toArray⟩, .int .i64 p0.Type_, .int .i64 p0.At], .pointer (some ⟨b_p1, o_p1, none⟩)] w0 (RetS T0 w0 fun T w v => v = .bool r ∧ Sep g T w [R, H_p1 [.pointer (some ⟨b1, oo1, none⟩)], H1 [.slice a1 n1 c1], ownA rKindKnown 65 (.slice a1 n1 c1) p1.list] ∧ True) := by
  refine enter (args := [.agg #[.string ⟨p0.Name.toArray⟩, .int .i64 p0.Type_, .int .i64 p0.At], .pointer (some ⟨b_p1, o_p1, none⟩)]) Try.func48 rfl Try.ntmps48 rfl fun J => ?_
  unfold kind_Table_may_2 at hm
  refine sq2 ?_
  refine rg (wl rfl (bxS (cs := [.string ⟨p0.Name.toArray⟩, .int .i64 p0.Type_, .int .i64 p0.At]) rfl rfl hS fun w1 b2 im1 hS1 => ?_))
  refine pv (r_zb rfl) (nil (t_then ?_))
  refine sq2 ?_
  obtain ⟨y1, hx1, hm⟩ := bindS hm
  refine rg (pv (r_ld rfl Try.isAgg25 (hS1.cellB (i := 2) ⟨rfl, rfl⟩ hL_p1 (j := 0) rfl)) (pv (r_fa rfl Try.underlying45 rfl Try.sizeOf3 rfl) (pv (r_ld rfl Try.isAgg3 (hS1.cell0 (i := 0) ⟨rfl, rfl⟩ (j := 1) rfl)) (wl rfl (calS cf33 rfl (kind_Table_has_sim (p0 := p1) (H_p0 := H1) (p1 := p0.Type_) (hS1.bun [1, 2] [3, 4] rfl) hL1 hx1) rfl fun v1 T1 w2 im2 rv1 => ?_)))))
  obtain ⟨rfl, hS2, _⟩ := rv1
  have hS2 : Sep g T1 w2 [R, H_p1 [.pointer (some ⟨b1, oo1, none⟩)], H1 [.slice a1 n1 c1], ownA rKindKnown 65 (.slice a1 n1 c1) p1.list] := hS2.unb
  refine pv (r_nt rfl) (pv (r_zb rfl) (nil (t_thenR [(3, .bool (!y1))] ⟨rfl, trivial⟩ fun J => ?_)))
  have hm := Option.some.inj hm
  subst hm
  exact rtn (ret1 rfl rfl ⟨_, rfl, _, (Im.trans im1 im2), ⟨rfl, hS2.sel [0, 1, 2, 3] rfl, trivial⟩⟩)

set_option maxRecDepth 100000 in
set_option maxHeartbeats 1000000 in
theorem slices_IndexFunc_4_sim {g : World} {T0 : Nat → Prop} {w0 : World} {R : Assn} {p0 : List GField} {a1 : Option Addr} {c1 : Nat} {p1 : KindTable} {b_p1 o_p1 : Nat} {H_p1 : List Value → Assn} {b1 : Nat} {oo1 : Nat} {H1 : List Value → Assn} {a2 : Option Addr} {n1 : Nat} {c2 : Nat} {r : Int} (hS : Sep g T0 w0 [R, H_p1 [.pointer (some ⟨b1, oo1, none⟩)], H1 [.slice a2 n1 c2], ownA rKindKnown 65 (.slice a2 n1 c2) p1.list]) (h1 : SlR rGField T0 w0 (.slice a1 (List.length p0) c1) p0) (hL_p1 : Ln b_p1 o_p1 H_p1) (hL1 : Ln b1 oo1 H1) (hm : slices_IndexFunc_4 p0 p1 = some r) :
    Calls Try.prog 51 #[.slice a1 (List.length p0) c1, .func (.func 48) #[] #[.pointer (some ⟨b_p1, o_p1, none⟩)]] w0 (RetS T0 w0 fun T w v => v = .int .i64 r ∧ Sep g T w [R, H_p1 [.pointer (some ⟨b1, oo1, none⟩)], H1 [.slice a2 n1 c2], ownA rKindKnown 65 (.slice a2 n1 c2) p1.list] ∧ True) := by
  refine enter (args := [.slice a1 (List.length p0) c1, .func (.func 48) #[] #[.pointer (some ⟨b_p1, o_p1, none⟩)]]) Try.func51 rfl Try.ntmps51 rfl fun J => ?_
  unfold slices_IndexFunc_4 at hm
  refine sq2 ?_
  refine rg (pv (r_zi rfl) (nil (t_then ?_)))
  refine sq2 ?_
  refine sq2 ?_
  refine rg (pv (r_ms rfl) (pv (r_ln rfl Try.underlying32) (pv (r_mi rfl) (nil (t_then ?_)))))
  obtain ⟨o1, ho1, hq1⟩ := bindS hm
  obtain ⟨bd1, hbd1, ho1⟩ := loop_open ho1
  refine blk (wp_loop_ghost (fun m a w1 => ∃ (J : Nat → Value) (T1 : Nat → Prop) (x1 : Int), a = env 19 J [(0, .slice a1 (List.length p0) c1), (1, .func (.func 48) #[] #[.pointer (some ⟨b_p1, o_p1, none⟩)]), (7, .int .i64 (List.length p0 : Int)), (8, .int .i64 x1)] ∧ Im T0 w0 T1 w1 ∧ Sep g T1 w1 [R, H_p1 [.pointer (some ⟨b1, oo1, none⟩)], H1 [.slice a2 n1 c2], ownA rKindKnown 65 (.slice a2 n1 c2) p1.list] ∧ loopM bd1 m x1 = some o1) NN ⟨_, _, 0, env_has ⟨rfl, rfl, rfl, rfl, trivial⟩, Im.refl, hS.sel [0, 1, 2, 3] rfl, ho1⟩ ?_)
  rintro m _ w1 ⟨J, T1, x1, rfl, im1, hS1, ho1⟩
  obtain ⟨m1, z1, rfl, hm, hn1⟩ := loop_round ho1
  rw [hbd1] at hm
  refine sq2 ?_
  refine rg (pv (r_ib rfl rfl rfl) (nil (t_then ?_)))
  refine sq2 ?_
  refine cnd rfl (fun hb1 => ?_) (fun hb1 => ?_)
  · have hm := ctrue hb1 hm
    refine skp (t_then ?_)
    refine sq2 ?_
    refine blk ?_
    refine sq2 ?_
    refine rg (pv (r_mi rfl) (pv (r_zi rfl) (nil (t_then ?_))))
    refine sq2 ?_
    obtain ⟨u1, hx1, hm⟩ := bindS hm
    obtain ⟨b2, of1, cs1, k1, cp1, hv1, hp1, hl1, he1, hr1, hc1, hT1⟩ := (h1.mono im1).ixT hx1 rfl
    cases rGField_open hr1
    obtain ⟨y1, hx2, hm⟩ := bindS hm
    refine rg (pv (r_mf rfl) (pv (r_ms rfl) (pv (r_mi rfl) (pv (r_ixe hv1 rfl Try.underlying32 Try.sizeOf45 hp1 hl1 he1) (pv (r_ldS rfl Try.isAgg45 Try.sizeOf45 rfl hc1 (cs := [.string ⟨u1.Name.toArray⟩, .int .i64 u1.Type_, .int .i64 u1.At])) (wl rfl (calS cf48 rfl (kind_Table_may_2_sim (p0 := u1) (p1 := p1) (H_p1 := H_p1) (H1 := H1) (hS1.bun [0] [1, 2, 3] rfl) hL_p1 hL1 hx2) rfl fun v1 T2 w2 im2 rv1 => ?_)))))))
    obtain ⟨rfl, hS2, _⟩ := rv1
    have hS2 : Sep g T2 w2 [R, H_p1 [.pointer (some ⟨b1, oo1, none⟩)], H1 [.slice a2 n1 c2], ownA rKindKnown 65 (.slice a2 n1 c2) p1.list] := hS2.unb
    refine nil (t_thenR [(0, .slice a1 (List.length p0) c1), (1, .func (.func 48) #[] #[.pointer (some ⟨b_p1, o_p1, none⟩)]), (5, .int .i64 x1), (7, .int .i64 (List.length p0 : Int)), (8, .int .i64 x1), (16, .bool y1)] ⟨rfl, rfl, rfl, rfl, rfl, rfl, trivial⟩ fun J => ?_)
    refine cnd rfl (fun hb2 => ?_) (fun hb2 => ?_)
    · have hm := ctrue hb2 hm
      refine sq2 ?_
      refine rg (pv (r_mi rfl) (pv (r_zi rfl) (nil (t_thenR [(4, .int .i64 x1)] ⟨rfl, trivial⟩ fun J => ?_))))
      have hm := Option.some.inj hm
      subst hm
      have hn1 : _ = Lp.ret _ := hn1
      subst hn1
      have hm := thn_ret hq1
      have hm := Option.some.inj hm
      subst hm
      exact rtn (r_blk (r_then (r_then (r_blk (r_then (ret1 rfl rfl ⟨_, rfl, _, (Im.trans im1 im2), ⟨rfl, hS2.sel [0, 1, 2, 3] rfl, trivial⟩⟩))))))
    · have hm := cfalse hb2 hm
      refine skp (t_blk (t_then ?_))
      have hm := Option.some.inj hm
      subst hm
      exact rg (pv (r_ib rfl rfl rfl) (pv (r_mi rfl) (nil (t_then ⟨m1, Nat.lt_succ_self _, _, _, (IntKind.wrap .i64 (x1 + 1)), env_has ⟨rfl, rfl, rfl, rfl, trivial⟩, (Im.trans im1 im2), hS2.sel [0, 1, 2, 3] rfl, hn1⟩))))
  · have hm := cfalse hb1 hm
    have hm := Option.some.inj hm
    subst hm
    have hn1 : _ = Lp.brk _ := hn1
    subst hn1
    have hm := thn_brk hq1
    refine xt (x_then (x_then (x_eq (t_thenR [] trivial fun J => ?_))))
    refine sq2 ?_
    refine rg (pv (r_zi rfl) (nil (t_then ?_)))
    have hm := Option.some.inj hm
    subst hm
    exact rtn (ret1 rfl rfl ⟨_, rfl, _, im1, ⟨rfl, hS1.sel [0, 1, 2, 3] rfl, trivial⟩⟩)

set_option maxRecDepth 100000 in
set_option maxHeartbeats 1000000 in
theorem slices_ContainsFunc_2_sim {g : World} {T0 : Nat → Prop} {w0 : World} {R : Assn} {p0 : List GField} {a1 : Option Addr} {c1 : Nat} {p1 : KindTable} {b_p1 o_p1 : Nat} {H_p1 : List Value → Assn} {b1 : Nat} {oo1 : Nat} {H1 : List Value → Assn} {a2 : Option Addr} {n1 : Nat} {c2 : Nat} {r : Bool} (hS : Sep g T0 w0 [R, H_p1 [.pointer (some ⟨b1, oo1, none⟩)], H1 [.slice a2 n1 c2], ownA rKindKnown 65 (.slice a2 n1 c2) p1.list]) (h1 : SlR rGField T0 w0 (.slice a1 (List.length p0) c1) p0) (hL_p1 : Ln b_p1 o_p1 H_p1) (hL1 : Ln b1 oo1 H1) (hm : slices_ContainsFunc_2 p0 p1 = some r) :
    Calls Try.prog 46 #[.slice a1 (List.length p0) c1, .func (.func 48) #[] #[.pointer (some ⟨b_p1, o_p1, none⟩)]] w0 (RetS T0 w0 fun T w v => v = .bool r ∧ Sep g T w [R, H_p1 [.pointer (some ⟨b1, oo1, none⟩)], H1 [.slice a2 n1 c2], ownA rKindKnown 65 (.slice a2 n1 c2) p1.list] ∧ True) := by
  refine enter (args := [.slice a1 (List.length p0) c1, .func (.func 48) #[] #[.pointer (some ⟨b_p1, o_p1, none⟩)]]) Try.func46 rfl Try.ntmps46 rfl fun J => ?_
  unfold slices_ContainsFunc_2 at hm
  refine sq2 ?_
  refine rg (pv (r_zb rfl) (nil (t_then ?_)))
  refine sq2 ?_
  obtain ⟨y1, hx1, hm⟩ := bindS hm
  refine rg (pv (r_ms rfl) (pv (r_mf rfl) (wl rfl (calS cf51 rfl (slices_IndexFunc_4_sim (p0 := p0) (p1 := p1) (H_p1 := H_p1) (H1 := H1) (hS.bun [0] [1, 2, 3] rfl) h1 hL_p1 hL1 hx1) rfl fun v1 T1 w1 im1 rv1 => ?_))))
  obtain ⟨rfl, hS1, _⟩ := rv1
  have hS1 : Sep g T1 w1 [R, H_p1 [.pointer (some ⟨b1, oo1, none⟩)], H1 [.slice a2 n1 c2], ownA rKindKnown 65 (.slice a2 n1 c2) p1.list] := hS1.unb
  refine pv (r_ib rfl rfl rfl) (pv (r_zb rfl) (nil (t_thenR [(4, .bool (decide (0 ≤ y1)))] ⟨rfl, trivial⟩ fun J => ?_)))
  have hm := Option.some.inj hm
  subst hm
  exact rtn (ret1 rfl rfl ⟨_, rfl, _, im1, ⟨rfl, hS1.sel [0, 1, 2, 3] rfl, trivial⟩⟩)

set_option maxRecDepth 100000 in
set_option maxHeartbeats 1000000 in
theorem kind_Table_Size_sim {g : World} {T0 : Nat → Prop} {w0 : World} {R : Assn} {p0 : KindTable} {b_p0 o_p0 : Nat} {H_p0 : List Value → Assn} {a1 : Option Addr} {n1 : Nat} {c1 : Nat} {p1 : Int} {r : Int} (hS : Sep g T0 w0 [R, H_p0 [.slice a1 n1 c1], ownA rKindKnown 65 (.slice a1 n1 c1) p0.list]) (hL_p0 : Ln b_p0 o_p0 H_p0) (hm : kind_Table_Size p0 p1 = some r) :
    Calls Try.prog 21 #[.pointer (some ⟨b_p0, o_p0, none⟩), .int .i64 p1] w0 (RetS T0 w0 fun T w v => v = .int .i64 r ∧ Sep g T w [R, H_p0 [.slice a1 n1 c1], ownA rKindKnown 65 (.slice a1 n1 c1) p0.list] ∧ True) := by
  refine enter (args := [.pointer (some ⟨b_p0, o_p0, none⟩), .int .i64 p1]) Try.func21 rfl Try.ntmps21 rfl fun J => ?_
  unfold kind_Table_Size at hm
  refine sq2 ?_
  refine rg (pv (r_zi rfl) (nil (t_then ?_)))
  refine sq2 ?_
  refine sq2 ?_
  obtain ⟨y1, hx1, hm⟩ := bindS hm
  refine rg (pv (r_mp rfl) (pv (r_mi rfl) (wl rfl (calS cf33 rfl (kind_Table_has_sim (p0 := p0) (H_p0 := H_p0) (p1 := p1) (hS.bun [0] [1, 2] rfl) hL_p0 hx1) rfl fun v1 T1 w1 im1 rv1 => ?_))))
  obtain ⟨rfl, hS1, _⟩ := rv1
  have hS1 : Sep g T1 w1 [R, H_p0 [.slice a1 n1 c1], ownA rKindKnown 65 (.slice a1 n1 c1) p0.list] := hS1.unb
  refine pv (r_nt rfl) (nil (t_then ?_))
  refine cnd rfl (fun hb1 => ?_) (fun hb1 => ?_)
  · have hm := ctrue hb1 hm
    refine sq2 ?_
    refine rg (pv (r_zi rfl) (nil (t_thenR [(4, .int .i64 0)] ⟨rfl, trivial⟩ fun J => ?_)))
    have hm := Option.some.inj hm
    subst hm
    exact rtn (r_then (ret1 rfl rfl ⟨_, rfl, _, im1, ⟨rfl, hS1.sel [0, 1, 2] rfl, trivial⟩⟩))
  · have hm := cfalse hb1 hm
    refine skp (t_thenR [(0, .pointer (some ⟨b_p0, o_p0, none⟩)), (1, .int .i64 p1)] ⟨rfl, rfl, trivial⟩ fun J => ?_)
    refine sq2 ?_
    obtain ⟨u1, hx2, hm⟩ := bindS hm
    obtain ⟨b1, of1, cs1, k1, cp1, hv1, hp1, hl1, he1, hr1, hc1⟩ := (hS1.own (i := 2) ⟨rfl, rfl⟩).v.ixq hx2 rfl
    obtain ⟨a2, c2, rfl, h1⟩ := rKindKnown_open hr1
    refine rg (pv (r_mp rfl) (pv (r_nc rfl) (pv (r_fa rfl Try.underlying68 rfl Try.sizeOf66 rfl) (pv (r_ld rfl Try.isAgg66 (hS1.cellB (i := 1) ⟨rfl, rfl⟩ hL_p0 (j := 0) rfl)) (pv (r_mi rfl) (pv (r_ixe hv1 rfl Try.underlying66 Try.sizeOf65 hp1 hl1 he1) (pv (r_fa rfl Try.underlying65 rfl Try.sizeOf3 rfl) (pv (r_ld rfl Try.isAgg3 (hc1.get (j := 5) rfl)) (pv (r_zi rfl) (nil (t_thenR [(4, .int .i64 u1.size)] ⟨rfl, trivial⟩ fun J => ?_)))))))))))
    have hm := Option.some.inj hm
    subst hm
    exact rtn (ret1 rfl rfl ⟨_, rfl, _, im1, ⟨rfl, hS1.sel [0, 1, 2] rfl, trivial⟩⟩)

set_option maxRecDepth 100000 in
set_option maxHeartbeats 1000000 in
theorem kind_Table_may_3_sim {g : World} {T0 : Nat → Prop} {w0 : World} {R : Assn} {p0 : GField} {p1 : KindTable} {b_p1 o_p1 : Nat} {H_p1 : List Value → Assn} {b1 : Nat} {oo1 : Nat} {H1 : List Value → Assn} {a1 : Option Addr} {n1 : Nat} {c1 : Nat} {r : Bool} (hS : Sep g T0 w0 [R, H_p1 [.pointer (some ⟨b1, oo1, none⟩)], H1 [.slice a1 n1 c1], ownA rKindKnown 65 (.slice a1 n1 c1) p1.list]) (hL_p1 : Ln b_p1 o_p1 H_p1) (hL1 : Ln b1 oo1 H1) (hm : kind_Table_may_3 p0 p1 = some r) :
    Calls Try.prog 49 #[.agg #[.string ⟨p0.Name.toArray⟩, .int .i64 p0.Type_, .int .i64 p0.At], .pointer (some ⟨b_p1, o_p1, none⟩)] w0 (RetS T0 w0 fun T w v => v = .bool r ∧ Sep g T w [R, H_p1 [.pointer (some ⟨b1, oo1, none⟩)], H1 [.slice a1 n1 c1], ownA rKindKnown 65 (.slice a1 n1 c1) p1.list] ∧ True) := by
  refine enter (args := [.agg #[.string ⟨p0.Name.toArray⟩, .int .i64 p0.Type_, .int .i64 p0.At], .pointer (some ⟨b_p1, o_p1, none⟩)]) Try.func49 rfl Try.ntmps49 rfl fun J => ?_
  unfold kind_Table_may_3 at hm
  refine sq2 ?_
  refine rg (wl rfl (bxS (cs := [.string ⟨p0.Name.toArray⟩, .int .i64 p0.Type_, .int .i64 p0.At]) rfl rfl hS fun w1 b2 im1 hS1 => ?_))
  refine pv (r_zb rfl) (nil (t_then ?_))
  refine sq2 ?_
  obtain ⟨y1, hx1, hm⟩ := bindS hm
  refine rg (pv (r_ld rfl Try.isAgg25 (hS1.cellB (i := 2) ⟨rfl, rfl⟩ hL_p1 (j := 0) rfl)) (pv (r_fa rfl Try.underlying45 rfl Try.sizeOf3 rfl) (pv (r_ld rfl Try.isAgg3 (hS1.cell0 (i := 0) ⟨rfl, rfl⟩ (j := 1) rfl)) (wl rfl (calS cf21 rfl (kind_Table_Size_sim (p0 := p1) (H_p0 := H1) (p1 := p0.Type_) (hS1.bun [1, 2] [3, 4] rfl) hL1 hx1) rfl fun v1 T1 w2 im2 rv1 => ?_)))))
  obtain ⟨rfl, hS2, _⟩ := rv1
  have hS2 : Sep g T1 w2 [R, H_p1 [.pointer (some ⟨b1, oo1, none⟩)], H1 [.slice a1 n1 c1], ownA rKindKnown 65 (.slice a1 n1 c1) p1.list] := hS2.unb
  refine pv (r_ib rfl rfl rfl) (pv (r_zb rfl) (nil (t_thenR [(3, .bool (y1 == 0))] ⟨rfl, trivial⟩ fun J => ?_)))
  have hm := Option.some.inj hm
  subst hm
  exact rtn (ret1 rfl rfl ⟨_, rfl, _, (Im.trans im1 im2), ⟨rfl, hS2.sel [0, 1, 2, 3] rfl, trivial⟩⟩)

set_option maxRecDepth 100000 in
set_option maxHeartbeats 1000000 in
theorem slices_IndexFunc_5_sim {g : World} {T0 : Nat → Prop} {w0 : World} {R : Assn} {p0 : List GField} {a1 : Option Addr} {c1 : Nat} {p1 : KindTable} {b_p1 o_p1 : Nat} {H_p1 : List Value → Assn} {b1 : Nat} {oo1 : Nat} {H1 : List Value → Assn} {a2 : Option Addr} {n1 : Nat} {c2 : Nat} {r : Int} (hS : Sep g T0 w0 [R, H_p1 [.pointer (some ⟨b1, oo1, none⟩)], H1 [.slice a2 n1 c2], ownA rKindKnown 65 (.slice a2 n1 c2) p1.list]) (h1 : SlR rGField T0 w0 (.slice a1 (List.length p0) c1) p0) (hL_p1 : Ln b_p1 o_p1 H_p1) (hL1 : Ln b1 oo1 H1) (hm : slices_IndexFunc_5 p0 p1 = some r) :
    Calls Try.prog 51 #[.slice a1 (List.length p0) c1, .func (.func 49) #[] #[.pointer (some ⟨b_p1, o_p1, none⟩)]] w0 (RetS T0 w0 fun T w v => v = .int .i64 r ∧ Sep g T w [R, H_p1 [.pointer (some ⟨b1, oo1, none⟩)], H1 [.slice a2 n1 c2], ownA rKindKnown 65 (.slice a2 n1 c2) p1.list] ∧ True) := by
  refine enter (args := [.slice a1 (List.length p0) c1, .func (.func 49) #[] #[.pointer (some ⟨b_p1, o_p1, none⟩)]]) Try.func51 rfl Try.ntmps51 rfl fun J => ?_
  unfold slices_IndexFunc_5 at hm
  refine sq2 ?_
  refine rg (pv (r_zi rfl) (nil (t_then ?_)))
  refine sq2 ?_
  refine sq2 ?_
  refine rg (pv (r_ms rfl) (pv (r_ln rfl Try.underlying32) (pv (r_mi rfl) (nil (t_then ?_)))))
  obtain ⟨o1, ho1, hq1⟩ := bindS hm
  obtain ⟨bd1, hbd1, ho1⟩ := loop_open ho1
  refine blk (wp_loop_ghost (fun m a w1 => ∃ (J : Nat → Value) (T1 : Nat → Prop) (x1 : Int), a = env 19 J [(0, .slice a1 (List.length p0) c1), (1, .func (.func 49) #[] #[.pointer (some ⟨b_p1, o_p1, none⟩)]), (7, .int .i64 (List.length p0 : Int)), (8, .int .i64 x1)] ∧ Im T0 w0 T1 w1 ∧ Sep g T1 w1 [R, H_p1 [.pointer (some ⟨b1, oo1, none⟩)], H1 [.slice a2 n1 c2], ownA rKindKnown 65 (.slice a2 n1 c2) p1.list] ∧ loopM bd1 m x1 = some o1) NN ⟨_, _, 0, env_has ⟨rfl, rfl, rfl, rfl, trivial⟩, Im.refl, hS.sel [0, 1, 2, 3] rfl, ho1⟩ ?_)
  rintro m _ w1 ⟨J, T1, x1, rfl, im1, hS1, ho1⟩
  obtain ⟨m1, z1, rfl, hm, hn1⟩ := loop_round ho1
  rw [hbd1] at hm
  refine sq2 ?_
  refine rg (pv (r_ib rfl rfl rfl) (nil (t_then ?_)))
  refine sq2 ?_
  refine cnd rfl (fun hb1 => ?_) (fun hb1 => ?_)
  · have hm := ctrue hb1 hm
    refine skp (t_then ?_)
    refine sq2 ?_
    refine blk ?_
    refine sq2 ?_
    refine rg (pv (r_mi rfl) (pv (r_zi rfl) (nil (t_then ?_))))
    refine sq2 ?_
    obtain ⟨u1, hx1, hm⟩ := bindS hm
    obtain ⟨b2, of1, cs1, k1, cp1, hv1, hp1, hl1, he1, hr1, hc1, hT1⟩ := (h1.mono im1).ixT hx1 rfl
    cases rGField_open hr1
    obtain ⟨y1, hx2, hm⟩ := bindS hm
    refine rg (pv (r_mf rfl) (pv (r_ms rfl) (pv (r_mi rfl) (pv (r_ixe hv1 rfl Try.underlying32 Try.sizeOf45 hp1 hl1 he1) (pv (r_ldS rfl Try.isAgg45 Try.sizeOf45 rfl hc1 (cs := [.string ⟨u1.Name.toArray⟩, .int .i64 u1.Type_, .int .i64 u1.At])) (wl rfl (calS cf49 rfl (kind_Table_may_3_sim (p0 := u1) (p1 := p1) (H_p1 := H_p1) (H1 := H1) (hS1.bun [0] [1, 2, 3] rfl) hL_p1 hL1 hx2) rfl fun v1 T2 w2 im2 rv1 => ?_)))))))
    obtain ⟨rfl, hS2, _⟩ := rv1
    have hS2 : Sep g T2 w2 [R, H_p1 [.pointer (some ⟨b1, oo1, none⟩)], H1 [.slice a2 n1 c2], ownA rKindKnown 65 (.slice a2 n1 c2) p1.list] := hS2.unb
    refine nil (t_thenR [(0, .slice a1 (List.length p0) c1), (1, .func (.func 49) #[] #[.pointer (some ⟨b_p1, o_p1, none⟩)]), (5, .int .i64 x1), (7, .int .i64 (List.length p0 : Int)), (8, .int .i64 x1), (16, .bool y1)] ⟨rfl, rfl, rfl, rfl, rfl, rfl, trivial⟩ fun J => ?_)
    refine cnd rfl (fun hb2 => ?_) (fun hb2 => ?_)
    · have hm := ctrue hb2 hm
      refine sq2 ?_
      refine rg (pv (r_mi rfl) (pv (r_zi rfl) (nil (t_thenR [(4, .int .i64 x1)] ⟨rfl, trivial⟩ fun J => ?_))))
      have hm := Option.some.inj hm
      subst hm
      have hn1 : _ = Lp.ret _ := hn1
      subst hn1
      have hm := thn_ret hq1
      have hm := Option.some.inj hm
      subst hm
      exact rtn (r_blk (r_then (r_then (r_blk (r_then (ret1 rfl rfl ⟨_, rfl, _, (Im.trans im1 im2), ⟨rfl, hS2.sel [0, 1, 2, 3] rfl, trivial⟩⟩))))))
    · have hm := cfalse hb2 hm
      refine skp (t_blk (t_then ?_))
      have hm := Option.some.inj hm
      subst hm
      exact rg (pv (r_ib rfl rfl rfl) (pv (r_mi rfl) (nil (t_then ⟨m1, Nat.lt_succ_self _, _, _, (IntKind.wrap .i64 (x1 + 1)), env_has ⟨rfl, rfl, rfl, rfl, trivial⟩, (Im.trans im1 im2), hS2.sel [0, 1, 2, 3] rfl, hn1⟩))))
  · have hm := cfalse hb1 hm
    have hm := Option.some.inj hm
    subst hm
    have hn1 : _ = Lp.brk _ := hn1
    subst hn1
    have hm := thn_brk hq1
    refine xt (x_then (x_then (x_eq (t_thenR [] trivial fun J => ?_))))
    refine sq2 ?_
    refine rg (pv (r_zi rfl) (nil (t_then ?_)))
    have hm := Option.some.inj hm
    subst hm
    exact rtn (ret1 rfl rfl ⟨_, rfl, _, im1, ⟨rfl, hS1.sel [0, 1, 2, 3] rfl, trivial⟩⟩)

set_option maxRecDepth 100000 in
set_option maxHeartbeats 1000000 in
theorem slices_ContainsFunc_3_sim {g : World} {T0 : Nat → Prop} {w0 : World} {R : Assn} {p0 : List GField} {a1 : Option Addr} {c1 : Nat} {p1 : KindTable} {b_p1 o_p1 : Nat} {H_p1 : List Value → Assn} {b1 : Nat} {oo1 : Nat} {H1 : List Value → Assn} {a2 : Option Addr} {n1 : Nat} {c2 : Nat} {r : Bool} (hS : Sep g T0 w0 [R, H_p1 [.pointer (some ⟨b1, oo1, none⟩)], H1 [.slice a2 n1 c2], ownA rKindKnown 65 (.slice a2 n1 c2) p1.list]) (h1 : SlR rGField T0 w0 (.slice a1 (List.length p0) c1) p0) (hL_p1 : Ln b_p1 o_p1 H_p1) (hL1 : Ln b1 oo1 H1) (hm : slices_ContainsFunc_3 p0 p1 = some r) :
    Calls Try.prog 46 #[.slice a1 (List.length p0) c1, .func (.func 49) #[] #[.pointer (some ⟨b_p1, o_p1, none⟩)]] w0 (RetS T0 w0 fun T w v => v = .bool r ∧ Sep g T w [R, H_p1 [.pointer (some ⟨b1, oo1, none⟩)], H1 [.slice a2 n1 c2], ownA rKindKnown 65 (.slice a2 n1 c2) p1.list] ∧ True) := by
  refine enter (args := [.slice a1 (List.length p0) c1, .func (.func 49) #[] #[.pointer (some ⟨b_p1, o_p1, none⟩)]]) Try.func46 rfl Try.ntmps46 rfl fun J => ?_
  unfold slices_ContainsFunc_3 at hm
  refine sq2 ?_
  refine rg (pv (r_zb rfl) (nil (t_then ?_)))
  refine sq2 ?_
  obtain ⟨y1, hx1, hm⟩ := bindS hm
  refine rg (pv (r_ms rfl) (pv (r_mf rfl) (wl rfl (calS cf51 rfl (slices_IndexFunc_5_sim (p0 := p0) (p1 := p1) (H_p1 := H_p1) (H1 := H1) (hS.bun [0] [1, 2, 3] rfl) h1 hL_p1 hL1 hx1) rfl fun v1 T1 w1 im1 rv1 => ?_))))
  obtain ⟨rfl, hS1, _⟩ := rv1
  have hS1 : Sep g T1 w1 [R, H_p1 [.pointer (some ⟨b1, oo1, none⟩)], H1 [.slice a2 n1 c2], ownA rKindKnown 65 (.slice a2 n1 c2) p1.list] := hS1.unb
  refine pv (r_ib rfl rfl rfl) (pv (r_zb rfl) (nil (t_thenR [(4, .bool (decide (0 ≤ y1)))] ⟨rfl, trivial⟩ fun J => ?_)))
  have hm := Option.some.inj hm
  subst hm
  exact rtn (ret1 rfl rfl ⟨_, rfl, _, im1, ⟨rfl, hS1.sel [0, 1, 2, 3] rfl, trivial⟩⟩)

set_option maxRecDepth 100000 in
set_option maxHeartbeats 1000000 in
theorem kind_Table_may_4_sim {g : World} {T0 : Nat → Prop} {w0 : World} {R : Assn} {p0 : GField} {p1 : GField} {b_p1 o_p1 : Nat} {H_p1 : List Value → Assn} {r : Bool} (hS : Sep g T0 w0 [R, H_p1 [.string ⟨p1.Name.toArray⟩, .int .i64 p1.Type_, .int .i64 p1.At]]) (hL_p1 : Ln b_p1 o_p1 H_p1) (hm : kind_Table_may_4 p0 p1 = some r) :
    Calls Try.prog 50 #[.agg #[.string ⟨p0.Name.toArray⟩, .int .i64 p0.Type_, .int .i64 p0.At], .pointer (some ⟨b_p1, o_p1, none⟩)] w0 (RetS T0 w0 fun T w v => v = .bool r ∧ Sep g T w [R, H_p1 [.string ⟨p1.Name.toArray⟩, .int .i64 p1.Type_, .int .i64 p1.At]] ∧ True) := by
  refine enter (args := [.agg #[.string ⟨p0.Name.toArray⟩, .int .i64 p0.Type_, .int .i64 p0.At], .pointer (some ⟨b_p1, o_p1, none⟩)]) Try.func50 rfl Try.ntmps50 rfl fun J => ?_
  unfold kind_Table_may_4 at hm
  refine sq2 ?_
  refine rg (wl rfl (bxS (cs := [.string ⟨p0.Name.toArray⟩, .int .i64 p0.Type_, .int .i64 p0.At]) rfl rfl hS fun w1 b1 im1 hS1 => ?_))
  refine pv (r_zb rfl) (nil (t_then ?_))
  refine sq2 ?_
  refine rg (pv (r_fa rfl Try.underlying45 rfl Try.sizeOf9 rfl) (pv (r_ld rfl Try.isAgg9 (hS1.cell0 (i := 0) ⟨rfl, rfl⟩ (j := 0) rfl)) (pv (r_fa rfl Try.underlying45 rfl Try.sizeOf9 rfl) (pv (r_ld rfl Try.isAgg9 (hS1.cellB (i := 2) ⟨rfl, rfl⟩ hL_p1 (j := 0) rfl)) (pv (r_sqL rfl rfl) (pv (r_zb rfl) (nil (t_thenR [(3, .bool (decide (p0.Name = p1.Name)))] ⟨rfl, trivial⟩ fun J => ?_))))))))
  have hm := Option.some.inj hm
  subst hm
  exact rtn (ret1 rfl rfl ⟨_, rfl, _, im1, ⟨rfl, hS1.sel [1, 2] rfl, trivial⟩⟩)

set_option maxRecDepth 100000 in
set_option maxHeartbeats 1000000 in
theorem slices_IndexFunc_6_sim {g : World} {T0 : Nat → Prop} {w0 : World} {R : Assn} {p0 : List GField} {a1 : Option Addr} {c1 : Nat} {p1 : GField} {b_p1 o_p1 : Nat} {H_p1 : List Value → Assn} {r : Int} (hS : Sep g T0 w0 [R, H_p1 [.string ⟨p1.Name.toArray⟩, .int .i64 p1.Type_, .int .i64 p1.At]]) (h1 : SlR rGField T0 w0 (.slice a1 (List.length p0) c1) p0) (hL_p1 : Ln b_p1 o_p1 H_p1) (hm : slices_IndexFunc_6 p0 p1 = some r) :
    Calls Try.prog 51 #[.slice a1 (List.length p0) c1, .func (.func 50) #[] #[.pointer (some ⟨b_p1, o_p1, none⟩)]] w0 (RetS T0 w0 fun T w v => v = .int .i64 r ∧ Sep g T w [R, H_p1 [.string ⟨p1.Name.toArray⟩, .int .i64 p1.Type_, .int .i64 p1.At]] ∧ True) := by
  refine enter (args := [.slice a1 (List.length p0) c1, .func (.func 50) #[] #[.pointer (some ⟨b_p1, o_p1, none⟩)]]) Try.func51 rfl Try.ntmps51 rfl fun J => ?_
  unfold slices_IndexFunc_6 at hm
  refine sq2 ?_
  refine rg (pv (r_zi rfl) (nil (t_then ?_)))
  refine sq2 ?_
  refine sq2 ?_
  refine rg (pv (r_ms rfl) (pv (r_ln rfl Try.underlying32) (pv (r_mi rfl) (nil (t_then ?_)))))
  obtain ⟨o1, ho1, hq1⟩ := bindS hm
  obtain ⟨bd1, hbd1, ho1⟩ := loop_open ho1
  refine blk (wp_loop_ghost (fun m a w1 => ∃ (J : Nat → Value) (T1 : Nat → Prop) (x1 : Int), a = env 19 J [(0, .slice a1 (List.length p0) c1), (1, .func (.func 50) #[] #[.pointer (some ⟨b_p1, o_p1, none⟩)]), (7, .int .i64 (List.length p0 : Int)), (8, .int .i64 x1)] ∧ Im T0 w0 T1 w1 ∧ Sep g T1 w1 [R, H_p1 [.string ⟨p1.Name.toArray⟩, .int .i64 p1.Type_, .int .i64 p1.At]] ∧ loopM bd1 m x1 = some o1) NN ⟨_, _, 0, env_has ⟨rfl, rfl, rfl, rfl, trivial⟩, Im.refl, hS.sel [0, 1] rfl, ho1⟩ ?_)
  rintro m _ w1 ⟨J, T1, x1, rfl, im1, hS1, ho1⟩
  obtain ⟨m1, z1, rfl, hm, hn1⟩ := loop_round ho1
  rw [hbd1] at hm
  refine sq2 ?_
  refine rg (pv (r_ib rfl rfl rfl) (nil (t_then ?_)))
  refine sq2 ?_
  refine cnd rfl (fun hb1 => ?_) (fun hb1 => ?_)
  · have hm := ctrue hb1 hm
    refine skp (t_then ?_)
    refine sq2 ?_
    refine blk ?_
    refine sq2 ?_
    refine rg (pv (r_mi rfl) (pv (r_zi rfl) (nil (t_then ?_))))
    refine sq2 ?_
    obtain ⟨u1, hx1, hm⟩ := bindS hm
    obtain ⟨b1, of1, cs1, k1, cp1, hv1, hp1, hl1, he1, hr1, hc1, hT1⟩ := (h1.mono im1).ixT hx1 rfl
    cases rGField_open hr1
    obtain ⟨y1, hx2, hm⟩ := bindS hm
    refine rg (pv (r_mf rfl) (pv (r_ms rfl) (pv (r_mi rfl) (pv (r_ixe hv1 rfl Try.underlying32 Try.sizeOf45 hp1 hl1 he1) (pv (r_ldS rfl Try.isAgg45 Try.sizeOf45 rfl hc1 (cs := [.string ⟨u1.Name.toArray⟩, .int .i64 u1.Type_, .int .i64 u1.At])) (wl rfl (calS cf50 rfl (kind_Table_may_4_sim (p0 := u1) (p1 := p1) (H_p1 := H_p1) (hS1.bun [0] [1] rfl) hL_p1 hx2) rfl fun v1 T2 w2 im2 rv1 => ?_)))))))
    obtain ⟨rfl, hS2, _⟩ := rv1
    have hS2 : Sep g T2 w2 [R, H_p1 [.string ⟨p1.Name.toArray⟩, .int .i64 p1.Type_, .int .i64 p1.At]] := hS2.unb
    refine nil (t_thenR [(0, .slice a1 (List.length p0) c1), (1, .func (.func 50) #[] #[.pointer (some ⟨b_p1, o_p1, none⟩)]), (5, .int .i64 x1), (7, .int .i64 (List.length p0 : Int)), (8, .int .i64 x1), (16, .bool y1)] ⟨rfl, rfl, rfl, rfl, rfl, rfl, trivial⟩ fun J => ?_)
    refine cnd rfl (fun hb2 => ?_) (fun hb2 => ?_)
    · have hm := ctrue hb2 hm
      refine sq2 ?_
      refine rg (pv (r_mi rfl) (pv (r_zi rfl) (nil (t_thenR [(4, .int .i64 x1)] ⟨rfl, trivial⟩ fun J => ?_))))
      have hm := Option.some.inj hm
      subst hm
      have hn1 : _ = Lp.ret _ := hn1
      subst hn1
      have hm := thn_ret hq1
      have hm := Option.some.inj hm
      subst hm
      exact rtn (r_blk (r_then (r_then (r_blk (r_then (ret1 rfl rfl ⟨_, rfl, _, (Im.trans im1 im2), ⟨rfl, hS2.sel [0, 1] rfl, trivial⟩⟩))))))
    · have hm := cfalse hb2 hm
      refine skp (t_blk (t_then ?_))
      have hm := Option.some.inj hm
      subst hm
      exact rg (pv (r_ib rfl rfl rfl) (pv (r_mi rfl) (nil (t_then ⟨m1, Nat.lt_succ_self _, _, _, (IntKind.wrap .i64 (x1 + 1)), env_has ⟨rfl, rfl, rfl, rfl, trivial⟩, (Im.trans im1 im2), hS2.sel [0, 1] rfl, hn1⟩))))
  · have hm := cfalse hb1 hm
    have hm := Option.some.inj hm
    subst hm
    have hn1 : _ = Lp.brk _ := hn1
    subst hn1
    have hm := thn_brk hq1
    refine xt (x_then (x_then (x_eq (t_thenR [] trivial fun J => ?_))))
    refine sq2 ?_
    refine rg (pv (r_zi rfl) (nil (t_then ?_)))
    have hm := Option.some.inj hm
    subst hm
    exact rtn (ret1 rfl rfl ⟨_, rfl, _, im1, ⟨rfl, hS1.sel [0, 1] rfl, trivial⟩⟩)

set_option maxRecDepth 100000 in
set_option maxHeartbeats 1000000 in
theorem slices_ContainsFunc_4_sim {g : World} {T0 : Nat → Prop} {w0 : World} {R : Assn} {p0 : List GField} {a1 : Option Addr} {c1 : Nat} {p1 : GField} {b_p1 o_p1 : Nat} {H_p1 : List Value → Assn} {r : Bool} (hS : Sep g T0 w0 [R, H_p1 [.string ⟨p1.Name.toArray⟩, .int .i64 p1.Type_, .int .i64 p1.At]]) (h1 : SlR rGField T0 w0 (.slice a1 (List.length p0) c1) p0) (hL_p1 : Ln b_p1 o_p1 H_p1) (hm : slices_ContainsFunc_4 p0 p1 = some r) :
    Calls Try.prog 46 #[.slice a1 (List.length p0) c1, .func (.func 50) #[] #[.pointer (some ⟨b_p1, o_p1, none⟩)]] w0 (RetS T0 w0 fun T w v => v = .bool r ∧ Sep g T w [R, H_p1 [.string ⟨p1.Name.toArray⟩, .int .i64 p1.Type_, .int .i64 p1.At]] ∧ True) := by
  refine enter (args := [.slice a1 (List.length p0) c1, .func (.func 50) #[] #[.pointer (some ⟨b_p1, o_p1, none⟩)]]) Try.func46 rfl Try.ntmps46 rfl fun J => ?_
  unfold slices_ContainsFunc_4 at hm
  refine sq2 ?_
  refine rg (pv (r_zb rfl) (nil (t_then ?_)))
  refine sq2 ?_
  obtain ⟨y1, hx1, hm⟩ := bindS hm
  refine rg (pv (r_ms rfl) (pv (r_mf rfl) (wl rfl (calS cf51 rfl (slices_IndexFunc_6_sim (p0 := p0) (p1 := p1) (H_p1 := H_p1) (hS.bun [0] [1] rfl) h1 hL_p1 hx1) rfl fun v1 T1 w1 im1 rv1 => ?_))))
  obtain ⟨rfl, hS1, _⟩ := rv1
  have hS1 : Sep g T1 w1 [R, H_p1 [.string ⟨p1.Name.toArray⟩, .int .i64 p1.Type_, .int .i64 p1.At]] := hS1.unb
  refine pv (r_ib rfl rfl rfl) (pv (r_zb rfl) (nil (t_thenR [(4, .bool (decide (0 ≤ y1)))] ⟨rfl, trivial⟩ fun J => ?_)))
  have hm := Option.some.inj hm
  subst hm
  exact rtn (ret1 rfl rfl ⟨_, rfl, _, im1, ⟨rfl, hS1.sel [0, 1] rfl, trivial⟩⟩)

set_option maxRecDepth 100000 in
set_option maxHeartbeats 1000000 in
theorem kind_Table_may_sim {g : World} {T0 : Nat → Prop} {w0 : World} {R : Assn} {p0 : KindTable} {b_p0 o_p0 : Nat} {H_p0 : List Value → Assn} {a1 : Option Addr} {n1 : Nat} {c1 : Nat} {p1 : List GField} {a2 : Option Addr} {c2 : Nat} {r : Int} (hS : Sep g T0 w0 [R, H_p0 [.slice a1 n1 c1], ownA rKindKnown 65 (.slice a1 n1 c1) p0.list]) (hL_p0 : Ln b_p0 o_p0 H_p0) (h1 : SlR rGField T0 w0 (.slice a2 (List.length p1) c2) p1) (hm : kind_Table_may p0 p1 = some r) :
    Calls Try.prog 38 #[.pointer (some ⟨b_p0, o_p0, none⟩), .slice a2 (List.length p1) c2] w0 (RetS T0 w0 fun T w v => v = .int .i64 r ∧ Sep g T w [R, H_p0 [.slice a1 n1 c1], ownA rKindKnown 65 (.slice a1 n1 c1) p0.list] ∧ True) := by
  refine enter (args := [.pointer (some ⟨b_p0, o_p0, none⟩), .slice a2 (List.length p1) c2]) Try.func38 rfl Try.ntmps38 rfl fun J => ?_
  unfold kind_Table_may at hm
  refine sq2 ?_
  refine rg (wl rfl (bxS (cs := [.pointer (some ⟨b_p0, o_p0, none⟩)]) rfl rfl hS fun w1 b1 im1 hS1 => ?_))
  refine pv (r_zi rfl) (nil (t_then ?_))
  refine sq2 ?_
  refine blk ?_
  refine sq2 ?_
  refine rg (pv (r_ms rfl) (pv (r_ln rfl Try.underlying32) (pv (r_ib rfl rfl rfl) (pv (r_mb rfl) (?_)))))
  rcases Bool.eq_false_or_eq_true ((List.length p1 : Int) == 0) with hb1 | hb1
  · have hm := ctrue hb1 hm
    refine gF (d0 := 11) rfl rfl (by rw [hb1]; rfl) (gF (d0 := 11) rfl rfl (by rw [hb1]; rfl) (pv (r_pkt rfl hb1 rfl) (pv (r_zb rfl) (nil (t_thenR [(1, .slice a2 (List.length p1) c2), (2, .pointer (some ⟨b1, 0, none⟩)), (7, .bool true)] ⟨rfl, rfl, rfl, trivial⟩ fun J => ?_)))))
    refine cnd (b := true) rfl (fun _ => ?_) (fun h => nomatch h)
    refine sq2 ?_
    refine rg (pv (r_zi rfl) (nil (t_then ?_)))
    have hm := Option.some.inj hm
    subst hm
    exact rtn (r_blk (r_then (ret1 rfl rfl ⟨_, rfl, _, im1, ⟨rfl, hS1.sel [1, 2, 3] rfl, trivial⟩⟩)))
  · have hm := cfalse hb1 hm
    obtain ⟨y1, hx1, hm⟩ := bindS hm
    refine gT (d0 := 11) rfl rfl hb1 (pv (r_ms rfl) (gT (d0 := 11) rfl rfl hb1 (wl rfl (calS cf46 rfl (slices_ContainsFunc_sim (p0 := p1) (hS1.bun [0, 1, 2, 3] [] rfl) (h1.mono im1) hx1) rfl fun v1 T1 w2 im2 rv1 => ?_))))
    obtain ⟨rfl, hS2, _⟩ := rv1
    have hS2 : Sep g T1 w2 [boxA b1 [.pointer (some ⟨b_p0, o_p0, none⟩)], R, H_p0 [.slice a1 n1 c1], ownA rKindKnown 65 (.slice a1 n1 c1) p0.list] := hS2.unb
    refine pv (r_pkf rfl hb1 rfl) (pv (r_zb rfl) (nil (t_thenR [(1, .slice a2 (List.length p1) c2), (2, .pointer (some ⟨b1, 0, none⟩)), (7, .bool y1)] ⟨rfl, rfl, rfl, trivial⟩ fun J => ?_)))
    refine cnd rfl (fun hb2 => ?_) (fun hb2 => ?_)
    · have hm := ctrue hb2 hm
      refine sq2 ?_
      refine rg (pv (r_zi rfl) (nil (t_then ?_)))
      have hm := Option.some.inj hm
      subst hm
      exact rtn (r_blk (r_then (ret1 rfl rfl ⟨_, rfl, _, (Im.trans im1 im2), ⟨rfl, hS2.sel [1, 2, 3] rfl, trivial⟩⟩)))
    · have hm := cfalse hb2 hm
      refine sq2 ?_
      obtain ⟨y2, hx2, hm⟩ := bindS hm
      refine rg (pv (r_ms rfl) (pv (r_mkf (u := .func (.func 48) #[] #[.pointer (some ⟨b1, 0, none⟩)]) rfl) (wl rfl (calS cf46 rfl (slices_ContainsFunc_2_sim (p0 := p1) (p1 := p0) (H_p1 := boxA b1) (H1 := H_p0) (hS2.bun [1] [0, 2, 3] rfl) (h1.mono (Im.trans im1 im2)) (lnBox b1) hL_p0 hx2) rfl fun v2 T2 w3 im3 rv2 => ?_))))
      obtain ⟨rfl, hS3, _⟩ := rv2
      have hS3 : Sep g T2 w3 [R, boxA b1 [.pointer (some ⟨b_p0, o_p0, none⟩)], H_p0 [.slice a1 n1 c1], ownA rKindKnown 65 (.slice a1 n1 c1) p0.list] := hS3.unb
      refine pv (r_zb rfl) (nil (t_then ?_))
      refine cnd rfl (fun hb3 => ?_) (fun hb3 => ?_)
      · have hm := ctrue hb3 hm
        refine sq2 ?_
        refine rg (pv (r_zi rfl) (nil (t_thenR [(4, .int .i64 4)] ⟨rfl, trivial⟩ fun J => ?_)))
        have hm := Option.some.inj hm
        subst hm
        exact rtn (r_blk (r_then (ret1 rfl rfl ⟨_, rfl, _, (Im.trans im1 (Im.trans im2 im3)), ⟨rfl, hS3.sel [0, 2, 3] rfl, trivial⟩⟩)))
      · have hm := cfalse hb3 hm
        refine sq2 ?_
        obtain ⟨y3, hx3, hm⟩ := bindS hm
        refine rg (pv (r_ms rfl) (pv (r_mkf (u := .func (.func 49) #[] #[.pointer (some ⟨b1, 0, none⟩)]) rfl) (wl rfl (calS cf46 rfl (slices_ContainsFunc_3_sim (p0 := p1) (p1 := p0) (H_p1 := boxA b1) (H1 := H_p0) (hS3.bun [0] [1, 2, 3] rfl) (h1.mono (Im.trans im1 (Im.trans im2 im3))) (lnBox b1) hL_p0 hx3) rfl fun v3 T3 w4 im4 rv3 => ?_))))
        obtain ⟨rfl, hS4, _⟩ := rv3
        have hS4 : Sep g T3 w4 [R, boxA b1 [.pointer (some ⟨b_p0, o_p0, none⟩)], H_p0 [.slice a1 n1 c1], ownA rKindKnown 65 (.slice a1 n1 c1) p0.list] := hS4.unb
        refine pv (r_zb rfl) (nil (t_thenR [(1, .slice a2 (List.length p1) c2), (19, .bool y3)] ⟨rfl, rfl, trivial⟩ fun J => ?_))
        refine cnd rfl (fun hb4 => ?_) (fun hb4 => ?_)
        · have hm := ctrue hb4 hm
          refine sq2 ?_
          refine rg (pv (r_zi rfl) (nil (t_then ?_)))
          have hm := Option.some.inj hm
          subst hm
          exact rtn (r_blk (r_then (ret1 rfl rfl ⟨_, rfl, _, (Im.trans im1 (Im.trans im2 (Im.trans im3 im4))), ⟨rfl, hS4.sel [0, 2, 3] rfl, trivial⟩⟩)))
        · have hm := cfalse hb4 hm
          refine skp (t_blk (t_then ?_))
          refine sq2 ?_
          refine sq2 ?_
          refine rg (pv (r_ms rfl) (pv (r_ln rfl Try.underlying32) (pv (r_mi rfl) (nil (t_then ?_)))))
          obtain ⟨o1, ho1, hq1⟩ := bindS hm
          obtain ⟨bd1, hbd1, ho1⟩ := loop_open ho1
          refine blk (wp_loop_ghost (fun m a w5 => ∃ (J : Nat → Value) (T4 : Nat → Prop) (x1 : Int), a = env 36 J [(1, .slice a2 (List.length p1) c2), (23, .slice a2 (List.length p1) c2), (24, .int .i64 (List.length p1 : Int)), (25, .int .i64 x1)] ∧ Im T3 w4 T4 w5 ∧ Sep g T4 w5 [R, H_p0 [.slice a1 n1 c1], ownA rKindKnown 65 (.slice a1 n1 c1) p0.list] ∧ loopM bd1 m x1 = some o1) NN ⟨_, _, 0, env_has ⟨rfl, rfl, rfl, rfl, trivial⟩, Im.refl, hS4.sel [0, 2, 3] rfl, ho1⟩ ?_)
          rintro m _ w5 ⟨J, T4, x1, rfl, im5, hS5, ho1⟩
          obtain ⟨m1, z1, rfl, hm, hn1⟩ := loop_round ho1
          rw [hbd1] at hm
          refine sq2 ?_
          refine rg (pv (r_ib rfl rfl rfl) (nil (t_then ?_)))
          refine sq2 ?_
          refine cnd rfl (fun hb5 => ?_) (fun hb5 => ?_)
          · have hm := ctrue hb5 hm
            refine skp (t_then ?_)
            refine sq2 ?_
            refine blk ?_
            refine sq2 ?_
            obtain ⟨u1, hx4, hm⟩ := bindS hm
            obtain ⟨b2, of1, cs1, k1, cp1, hv1, hp1, hl1, he1, hr1, hc1, hT1⟩ := (h1.mono (Im.trans im1 (Im.trans im2 (Im.trans im3 (Im.trans im4 im5))))).ixT hx4 rfl
            cases rGField_open hr1
            refine rg (pv (r_mi rfl) (pv (r_ixe hv1 rfl Try.underlying32 Try.sizeOf45 hp1 hl1 he1) (pv (r_ldS rfl Try.isAgg45 Try.sizeOf45 rfl hc1 (cs := [.string ⟨u1.Name.toArray⟩, .int .i64 u1.Type_, .int .i64 u1.At])) (wl rfl (alS (zs := [.string ⟨([] : List UInt8).toArray⟩, .int .i64 0, .int .i64 0]) Try.zeroValue45 rfl hS5 fun w6 b3 im6 hS6 => ?_)))))
            refine pv (r_zi rfl) (wl rfl (st0B (q := 0) hS6 ⟨rfl, rfl⟩ rfl rfl rfl Try.sizeOf45 rfl rfl rfl fun w7 im7 hS7 => ?_))
            have hS7 : Sep g T4 w7 [boxA b3 [.string ⟨u1.Name.toArray⟩, .int .i64 u1.Type_, .int .i64 u1.At], R, H_p0 [.slice a1 n1 c1], ownA rKindKnown 65 (.slice a1 n1 c1) p0.list] := hS7
            refine nil (t_then ?_)
            refine sq2 ?_
            obtain ⟨u2, hx5, hm⟩ := bindS hm
            obtain ⟨a3, c3, he2, h2⟩ := (h1.mono (Im.trans im1 (Im.trans im2 (Im.trans im3 (Im.trans im4 (Im.trans im5 (Im.trans im6 im7))))))).part hx5
            obtain ⟨y4, hx6, hm⟩ := bindS hm
            refine rg (pv (r_ms rfl) (pv (r_mi rfl) (pv (r_slR rfl (h1.mono (Im.trans im1 (Im.trans im2 (Im.trans im3 (Im.trans im4 (Im.trans im5 (Im.trans im6 im7))))))) rfl ⟨_, rfl⟩ hx5 Try.underlying32 Try.sizeOf45 rfl he2) (pv (r_mkf (u := .func (.func 50) #[] #[.pointer (some ⟨b3, 0, none⟩)]) rfl) (wl rfl (calS cf46 rfl (slices_ContainsFunc_4_sim (p0 := u2) (p1 := u1) (H_p1 := boxA b3) (hS7.bun [1, 2, 3] [0] rfl) h2 (lnBox b3) hx6) rfl fun v4 T5 w8 im8 rv4 => ?_))))))
            obtain ⟨rfl, hS8, _⟩ := rv4
            have hS8 : Sep g T5 w8 [R, H_p0 [.slice a1 n1 c1], ownA rKindKnown 65 (.slice a1 n1 c1) p0.list, boxA b3 [.string ⟨u1.Name.toArray⟩, .int .i64 u1.Type_, .int .i64 u1.At]] := hS8.unb
            refine nil (t_thenR [(1, .slice a2 (List.length p1) c2), (23, .slice a2 (List.length p1) c2), (24, .int .i64 (List.length p1 : Int)), (25, .int .i64 x1), (34, .bool y4)] ⟨rfl, rfl, rfl, rfl, rfl, trivial⟩ fun J => ?_)
            refine cnd rfl (fun hb6 => ?_) (fun hb6 => ?_)
            · have hm := ctrue hb6 hm
              refine sq2 ?_
              refine rg (pv (r_zi rfl) (nil (t_thenR [(4, .int .i64 6)] ⟨rfl, trivial⟩ fun J => ?_)))
              have hm := Option.some.inj hm
              subst hm
              have hn1 : _ = Lp.ret _ := hn1
              subst hn1
              have hm := thn_ret hq1
              have hm := Option.some.inj hm
              subst hm
              exact rtn (r_blk (r_then (r_then (r_blk (r_then (ret1 rfl rfl ⟨_, rfl, _, (Im.trans im1 (Im.trans im2 (Im.trans im3 (Im.trans im4 (Im.trans im5 (Im.trans im6 (Im.trans im7 im8))))))), ⟨rfl, hS8.sel [0, 1, 2] rfl, trivial⟩⟩))))))
            · have hm := cfalse hb6 hm
              refine skp (t_blk (t_then ?_))
              have hm := Option.some.inj hm
              subst hm
              exact rg (pv (r_ib rfl rfl rfl) (pv (r_mi rfl) (nil (t_then ⟨m1, Nat.lt_succ_self _, _, _, (IntKind.wrap .i64 (x1 + 1)), env_has ⟨rfl, rfl, rfl, rfl, trivial⟩, (Im.trans im5 (Im.trans im6 (Im.trans im7 im8))), hS8.sel [0, 1, 2] rfl, hn1⟩))))
          · have hm := cfalse hb5 hm
            have hm := Option.some.inj hm
            subst hm
            have hn1 : _ = Lp.brk _ := hn1
            subst hn1
            have hm := thn_brk hq1
            refine xt (x_then (x_then (x_eq (t_thenR [] trivial fun J => ?_))))
            refine sq2 ?_
            refine rg (pv (r_zi rfl) (nil (t_then ?_)))
            have hm := Option.some.inj hm
            subst hm
            exact rtn (ret1 rfl rfl ⟨_, rfl, _, (Im.trans im1 (Im.trans im2 (Im.trans im3 (Im.trans im4 im5)))), ⟨rfl, hS5.sel [0, 1, 2] rfl, trivial⟩⟩)

set_option maxRecDepth 100000 in
set_option maxHeartbeats 1000000 in
theorem slices_Clone_sim {g : World} {T0 : Nat → Prop} {w0 : World} {R : Assn} {p0 : List GField} {a1 : Option Addr} {c1 : Nat} {r : (List GField)} (hS : Sep g T0 w0 [R]) (h1 : SlR rGField T0 w0 (.slice a1 (List.length p0) c1) p0) (hm : slices_Clone p0 = some r) :
    Calls Try.prog 36 #[.slice a1 (List.length p0) c1] w0 (RetS T0 w0 fun T w v => ∃ (a4 : Option Addr) (n3 : Nat) (c4 : Nat), v = .slice a4 n3 c4 ∧ Sep g T w [R, ownA rGField 45 (.slice a4 n3 c4) r] ∧ True) := by
  refine enter (args := [.slice a1 (List.length p0) c1]) Try.func36 rfl Try.ntmps36 rfl fun J => ?_
  unfold slices_Clone at hm
  refine sq2 ?_
  refine rg (pv (r_zs rfl) (nil (t_then ?_)))
  refine sq2 ?_
  refine sq2 ?_
  refine rg (pv (r_ms rfl) (pv (r_sne rfl rfl rfl Try.underlying32) (nil (t_then ?_))))
  rcases SlR.nilOr h1 with ⟨hb1, hl0⟩ | hb1
  · subst hb1
    subst hl0
    have hm : some [] = some r := hm
    refine cnd (b := true) rfl (fun _ => ?_) (fun h => nomatch h)
    refine sq2 ?_
    refine rg (pv (r_zs rfl) (nil (t_then ?_)))
    have hS1 := hS.nilO rGField 45
    have hm := Option.some.inj hm
    subst hm
    exact rtn (r_then (ret1 rfl rfl ⟨_, rfl, _, Im.refl, ⟨_, _, _, rfl, hS1.sel [1, 0] rfl, trivial⟩⟩))
  · refine cnd rfl (fun h => absurd (h.symm.trans hb1) (fun h => nomatch h)) (fun _ => ?_)
    refine skp (t_then ?_)
    refine sq2 ?_
    refine rg (wl rfl (bs0S rGField hS Try.underlying32 Try.sizeOf45 fun w1 a2 n1 c2 im1 hS2 => ?_))
    obtain ⟨z_1, hro1, hm⟩ := bindS hm
    refine pv (r_ms rfl) (wl rfl (apO (q := 0) (l := ([] : List GField)) (us := p0) hS2 ⟨rfl, rfl⟩ rfl rfl (h1.mono im1).v Try.underlying32 el45 (room_some hro1) fun w2 a3 n2 c3 im2 hS3 => ?_))
    have hS3 : Sep g T0 w2 [ownA rGField 45 (.slice a3 n2 c3) (([] : List GField) ++ p0), R] := hS3
    refine pv (r_zs rfl) (nil (t_thenR [(2, .slice a3 n2 c3)] ⟨rfl, trivial⟩ fun J => ?_))
    have hm := Option.some.inj hm
    subst hm
    exact rtn (ret1 rfl rfl ⟨_, rfl, _, (Im.trans im1 im2), ⟨_, _, _, rfl, hS3.sel [1, 0] rfl, trivial⟩⟩)

set_option maxRecDepth 100000 in
set_option maxHeartbeats 1000000 in
theorem kind_Table_Align_sim {g : World} {T0 : Nat → Prop} {w0 : World} {R : Assn} {p0 : KindTable} {b_p0 o_p0 : Nat} {H_p0 : List Value → Assn} {a1 : Option Addr} {n1 : Nat} {c1 : Nat} {p1 : Int} {r : Int} (hS : Sep g T0 w0 [R, H_p0 [.slice a1 n1 c1], ownA rKindKnown 65 (.slice a1 n1 c1) p0.list]) (hL_p0 : Ln b_p0 o_p0 H_p0) (hm : kind_Table_Align p0 p1 = some r) :
    Calls Try.prog 22 #[.pointer (some ⟨b_p0, o_p0, none⟩), .int .i64 p1] w0 (RetS T0 w0 fun T w v => v = .int .i64 r ∧ Sep g T w [R, H_p0 [.slice a1 n1 c1], ownA rKindKnown 65 (.slice a1 n1 c1) p0.list] ∧ True) := by
  refine enter (args := [.pointer (some ⟨b_p0, o_p0, none⟩), .int .i64 p1]) Try.func22 rfl Try.ntmps22 rfl fun J => ?_
  unfold kind_Table_Align at hm
  refine sq2 ?_
  refine rg (pv (r_zi rfl) (nil (t_then ?_)))
  refine sq2 ?_
  refine sq2 ?_
  obtain ⟨y1, hx1, hm⟩ := bindS hm
  refine rg (pv (r_mp rfl) (pv (r_mi rfl) (wl rfl (calS cf33 rfl (kind_Table_has_sim (p0 := p0) (H_p0 := H_p0) (p1 := p1) (hS.bun [0] [1, 2] rfl) hL_p0 hx1) rfl fun v1 T1 w1 im1 rv1 => ?_))))
  obtain ⟨rfl, hS1, _⟩ := rv1
  have hS1 : Sep g T1 w1 [R, H_p0 [.slice a1 n1 c1], ownA rKindKnown 65 (.slice a1 n1 c1) p0.list] := hS1.unb
  refine pv (r_nt rfl) (nil (t_then ?_))
  refine cnd rfl (fun hb1 => ?_) (fun hb1 => ?_)
  · have hm := ctrue hb1 hm
    refine sq2 ?_
    refine rg (pv (r_zi rfl) (nil (t_thenR [(4, .int .i64 0)] ⟨rfl, trivial⟩ fun J => ?_)))
    have hm := Option.some.inj hm
    subst hm
    exact rtn (r_then (ret1 rfl rfl ⟨_, rfl, _, im1, ⟨rfl, hS1.sel [0, 1, 2] rfl, trivial⟩⟩))
  · have hm := cfalse hb1 hm
    refine skp (t_thenR [(0, .pointer (some ⟨b_p0, o_p0, none⟩)), (1, .int .i64 p1)] ⟨rfl, rfl, trivial⟩ fun J => ?_)
    refine sq2 ?_
    obtain ⟨u1, hx2, hm⟩ := bindS hm
    obtain ⟨b1, of1, cs1, k1, cp1, hv1, hp1, hl1, he1, hr1, hc1⟩ := (hS1.own (i := 2) ⟨rfl, rfl⟩).v.ixq hx2 rfl
    obtain ⟨a2, c2, rfl, h1⟩ := rKindKnown_open hr1
    refine rg (pv (r_mp rfl) (pv (r_nc rfl) (pv (r_fa rfl Try.underlying68 rfl Try.sizeOf66 rfl) (pv (r_ld rfl Try.isAgg66 (hS1.cellB (i := 1) ⟨rfl, rfl⟩ hL_p0 (j := 0) rfl)) (pv (r_mi rfl) (pv (r_ixe hv1 rfl Try.underlying66 Try.sizeOf65 hp1 hl1 he1) (pv (r_fa rfl Try.underlying65 rfl Try.sizeOf3 rfl) (pv (r_ld rfl Try.isAgg3 (hc1.get (j := 6) rfl)) (pv (r_zi rfl) (nil (t_thenR [(4, .int .i64 u1.align)] ⟨rfl, trivial⟩ fun J => ?_)))))))))))
    have hm := Option.some.inj hm
    subst hm
    exact rtn (ret1 rfl rfl ⟨_, rfl, _, im1, ⟨rfl, hS1.sel [0, 1, 2] rfl, trivial⟩⟩)

set_option maxRecDepth 100000 in
set_option maxHeartbeats 1000000 in
theorem kind_up_sim {g : World} {T0 : Nat → Prop} {w0 : World} {R : Assn} {p0 : Int} {p1 : Int} {r : Int} (hS : Sep g T0 w0 [R])  (hm : kind_up p0 p1 = some r) :
    Calls Try.prog 40 #[.int .i64 p0, .int .i64 p1] w0 (RetS T0 w0 fun T w v => v = .int .i64 r ∧ Sep g T w [R] ∧ True) := by
  refine enter (args := [.int .i64 p0, .int .i64 p1]) Try.func40 rfl Try.ntmps40 rfl fun J => ?_
  unfold kind_up at hm
  refine sq2 ?_
  refine rg (pv (r_zi rfl) (nil (t_then ?_)))
  refine sq2 ?_
  obtain ⟨_, hz1, hm⟩ := bindS hm
  have hz1 := nz_some hz1
  refine rg (pv (r_mi rfl) (pv (r_mi rfl) (pv (r_ib rfl rfl rfl) (pv (r_ib rfl rfl rfl) (pv (r_mi rfl) (pv (r_iq rfl rfl hz1) (pv (r_mi rfl) (pv (r_ib rfl rfl rfl) (pv (r_zi rfl) (nil (t_thenR [(4, .int .i64 (IntKind.wrap .i64 ((IntKind.wrap .i64 (Int.tdiv (IntKind.wrap .i64 ((IntKind.wrap .i64 (p0 + p1)) - 1)) p1)) * p1)))] ⟨rfl, trivial⟩ fun J => ?_)))))))))))
  have hm := Option.some.inj hm
  subst hm
  exact rtn (ret1 rfl rfl ⟨_, rfl, _, Im.refl, ⟨rfl, hS.sel [0] rfl, trivial⟩⟩)

set_option maxRecDepth 100000 in
set_option maxHeartbeats 1000000 in
theorem kind_Table_Struct_1_sim {g : World} {T0 : Nat → Prop} {w0 : World} {R : Assn} {p0 : GField} {b_p0 o_p0 : Nat} {H_p0 : List Value → Assn} {p1 : Int} {b_p1 o_p1 : Nat} {H_p1 : List Value → Assn} {p2 : KindTable} {b_p2 o_p2 : Nat} {H_p2 : List Value → Assn} {b1 : Nat} {oo1 : Nat} {H1 : List Value → Assn} {a1 : Option Addr} {n1 : Nat} {c1 : Nat} {p3 : Int} {b_p3 o_p3 : Nat} {H_p3 : List Value → Assn} {r : Bool × GField × Int × Int} (hS : Sep g T0 w0 [R, H_p0 [.string ⟨p0.Name.toArray⟩, .int .i64 p0.Type_, .int .i64 p0.At], H_p1 [.int .i64 p1], H_p2 [.pointer (some ⟨b1, oo1, none⟩)], H1 [.slice a1 n1 c1], ownA rKindKnown 65 (.slice a1 n1 c1) p2.list, H_p3 [.int .i64 p3]]) (hL_p0 : Ln b_p0 o_p0 H_p0) (hL_p1 : Ln b_p1 o_p1 H_p1) (hL_p2 : Ln b_p2 o_p2 H_p2) (hL1 : Ln b1 oo1 H1) (hL_p3 : Ln b_p3 o_p3 H_p3) (hm : kind_Table_Struct_1 p0 p1 p2 p3 = some r) :
    Calls Try.prog 39 #[.pointer (some ⟨b_p0, o_p0, none⟩), .pointer (some ⟨b_p1, o_p1, none⟩), .pointer (some ⟨b_p2, o_p2, none⟩), .pointer (some ⟨b_p3, o_p3, none⟩)] w0 (RetS T0 w0 fun T w v => v = .bool r.1 ∧ Sep g T w [R, H_p0 [.string ⟨r.2.1.Name.toArray⟩, .int .i64 r.2.1.Type_, .int .i64 r.2.1.At], H_p1 [.int .i64 r.2.2.1], H_p2 [.pointer (some ⟨b1, oo1, none⟩)], H1 [.slice a1 n1 c1], ownA rKindKnown 65 (.slice a1 n1 c1) p2.list, H_p3 [.int .i64 r.2.2.2]] ∧ True) := by
  refine enter (args := [.pointer (some ⟨b_p0, o_p0, none⟩), .pointer (some ⟨b_p1, o_p1, none⟩), .pointer (some ⟨b_p2, o_p2, none⟩), .pointer (some ⟨b_p3, o_p3, none⟩)]) Try.func39 rfl Try.ntmps39 rfl fun J => ?_
  unfold kind_Table_Struct_1 at hm
  refine sq2 ?_
  refine rg (pv (r_zb rfl) (nil (t_then ?_)))
  refine sq2 ?_
  refine rs [0, 1, 1, 0, 0, 0, 1, 2, 2, 0, 0, 2] [0, 1, 2, 3, 4, 5, 6, 7, 8, 9, 10, 11] mix (by kernel_rfl) hS.lt fun w1 i1 => ?_
  have im1 := i1.imm
  have hS1 := hS.keep i1 (fun _ h => h)
  obtain ⟨y1, hx1, hm⟩ := bindS hm
  refine s0 rfl trivial (fun _ => r_mp rfl) rfl (s1 rfl trivial (r_ld rfl Try.isAgg3 (hS1.cellB (i := 2) ⟨rfl, rfl⟩ hL_p1 (j := 0) rfl)) rfl (s1 rfl trivial (r_ld rfl Try.isAgg25 (hS1.cellB (i := 3) ⟨rfl, rfl⟩ hL_p2 (j := 0) rfl)) rfl (s0 rfl trivial (fun _ => r_mp rfl) rfl (s0 rfl trivial (fun _ => r_nc rfl) rfl (s0 rfl trivial (fun _ => r_fa rfl Try.underlying45 rfl Try.sizeOf3 rfl) rfl (s1 rfl trivial (r_ld rfl Try.isAgg3 (hS1.cellB (i := 1) ⟨rfl, rfl⟩ hL_p0 (j := 1) rfl)) rfl (s2 [(1, .int .i64 p1)] rfl trivial rfl (by kernel_rfl) (calS cf22 rfl (kind_Table_Align_sim (p0 := p2) (H_p0 := H1) (p1 := p0.Type_) (hS1.bun [0, 1, 2, 3, 6] [4, 5] rfl) hL1 hx1) rfl fun v1 T1 w2 im2 rv1 => ?_))))))))
  obtain ⟨rfl, hS2, _⟩ := rv1
  have hS2 : Sep g T1 w2 [R, H_p0 [.string ⟨p0.Name.toArray⟩, .int .i64 p0.Type_, .int .i64 p0.At], H_p1 [.int .i64 p1], H_p2 [.pointer (some ⟨b1, oo1, none⟩)], H_p3 [.int .i64 p3], H1 [.slice a1 n1 c1], ownA rKindKnown 65 (.slice a1 n1 c1) p2.list] := hS2.unb
  refine ⟨st1 rfl (r_ld rfl Try.isAgg3 (hS2.cellB (i := 2) ⟨rfl, rfl⟩ hL_p1 (j := 0) rfl)) (st0), ?_⟩
  obtain ⟨y2, hx2, hm⟩ := bindS hm
  refine s2 [] rfl trivial rfl (by kernel_rfl) (calS cf40 rfl (kind_up_sim (p0 := p1) (p1 := y1) (hS2.bun [0, 1, 2, 3, 4, 5, 6] [] rfl)  hx2) rfl fun v2 T2 w3 im3 rv2 => ?_)
  obtain ⟨rfl, hS3, _⟩ := rv2
  have hS3 : Sep g T2 w3 [R, H_p0 [.string ⟨p0.Name.toArray⟩, .int .i64 p0.Type_, .int .i64 p0.At], H_p1 [.int .i64 p1], H_p2 [.pointer (some ⟨b1, oo1, none⟩)], H_p3 [.int .i64 p3], H1 [.slice a1 n1 c1], ownA rKindKnown 65 (.slice a1 n1 c1) p2.list] := hS3.unb
  refine ⟨st0, ?_⟩
  refine s0 rfl trivial (fun _ => r_nc rfl) rfl (s0 rfl trivial (fun _ => r_fa rfl Try.underlying45 rfl Try.sizeOf3 rfl) rfl (s2 [] rfl trivial rfl (by kernel_rfl) (stB (q := 1) (j := 2) hS3 ⟨rfl, rfl⟩ hL_p0 rfl rfl rfl Try.sizeOf3 rfl rfl rfl fun w4 im4 hS4 => ?_)))
  have hS4 : Sep g T2 w4 [R, H_p0 [.string ⟨p0.Name.toArray⟩, .int .i64 p0.Type_, .int .i64 y2], H_p1 [.int .i64 p1], H_p2 [.pointer (some ⟨b1, oo1, none⟩)], H_p3 [.int .i64 p3], H1 [.slice a1 n1 c1], ownA rKindKnown 65 (.slice a1 n1 c1) p2.list] := hS4
  refine ⟨st0, ?_⟩
  refine se (t_thenR [(0, .pointer (some ⟨b_p0, o_p0, none⟩)), (1, .pointer (some ⟨b_p1, o_p1, none⟩)), (2, .pointer (some ⟨b_p2, o_p2, none⟩)), (3, .pointer (some ⟨b_p3, o_p3, none⟩))] ⟨rfl, rfl, rfl, rfl, trivial⟩ fun J => ?_)
  refine sq2 ?_
  refine rs [0, 0, 0, 1, 1, 0, 0, 0, 1, 2, 0, 2] [0, 1, 2, 3, 4, 5, 6, 7, 8, 9, 10, 11] mix (by kernel_rfl) hS4.lt fun w5 i2 => ?_
  have im5 := i2.imm
  have hS5 := hS4.keep i2 (fun _ h => h)
  obtain ⟨y3, hx3, hm⟩ := bindS hm
  refine s0 rfl trivial (fun _ => r_mp rfl) rfl (s0 rfl trivial (fun _ => r_nc rfl) rfl (s0 rfl trivial (fun _ => r_fa rfl Try.underlying45 rfl Try.sizeOf3 rfl) rfl (s1 rfl trivial (r_ld rfl Try.isAgg3 (hS5.cellB (i := 1) ⟨rfl, rfl⟩ hL_p0 (j := 2) rfl)) rfl (s1 rfl trivial (r_ld rfl Try.isAgg25 (hS5.cellB (i := 3) ⟨rfl, rfl⟩ hL_p2 (j := 0) rfl)) rfl (s0 rfl trivial (fun _ => r_mp rfl) rfl (s0 rfl trivial (fun _ => r_nc rfl) rfl (s0 rfl trivial (fun _ => r_fa rfl Try.underlying45 rfl Try.sizeOf3 rfl) rfl (s1 rfl trivial (r_ld rfl Try.isAgg3 (hS5.cellB (i := 1) ⟨rfl, rfl⟩ hL_p0 (j := 1) rfl)) rfl (s2 [(3, .int .i64 y2)] rfl trivial rfl (by kernel_rfl) (calS cf21 rfl (kind_Table_Size_sim (p0 := p2) (H_p0 := H1) (p1 := p0.Type_) (hS5.bun [0, 1, 2, 3, 4] [5, 6] rfl) hL1 hx3) rfl fun v3 T3 w6 im6 rv3 => ?_))))))))))
  obtain ⟨rfl, hS6, _⟩ := rv3
  have hS6 : Sep g T3 w6 [R, H_p0 [.string ⟨p0.Name.toArray⟩, .int .i64 p0.Type_, .int .i64 y2], H_p1 [.int .i64 p1], H_p2 [.pointer (some ⟨b1, oo1, none⟩)], H_p3 [.int .i64 p3], H1 [.slice a1 n1 c1], ownA rKindKnown 65 (.slice a1 n1 c1) p2.list] := hS6.unb
  refine ⟨st1 rfl (r_ld rfl Try.isAgg3 (hS6.cellB (i := 1) ⟨rfl, rfl⟩ hL_p0 (j := 2) rfl)) (st0), ?_⟩
  refine s0 rfl trivial (fun _ => r_ib rfl rfl rfl) rfl (s2 [] rfl trivial rfl (by kernel_rfl) (stB (q := 2) (j := 0) hS6 ⟨rfl, rfl⟩ hL_p1 rfl rfl rfl Try.sizeOf3 rfl rfl rfl fun w7 im7 hS7 => ?_))
  have hS7 : Sep g T3 w7 [R, H_p0 [.string ⟨p0.Name.toArray⟩, .int .i64 p0.Type_, .int .i64 y2], H_p1 [.int .i64 (IntKind.wrap .i64 (y2 + y3))], H_p2 [.pointer (some ⟨b1, oo1, none⟩)], H_p3 [.int .i64 p3], H1 [.slice a1 n1 c1], ownA rKindKnown 65 (.slice a1 n1 c1) p2.list] := hS7
  refine ⟨st0, ?_⟩
  refine se (t_thenR [(0, .pointer (some ⟨b_p0, o_p0, none⟩)), (1, .pointer (some ⟨b_p1, o_p1, none⟩)), (2, .pointer (some ⟨b_p2, o_p2, none⟩)), (3, .pointer (some ⟨b_p3, o_p3, none⟩))] ⟨rfl, rfl, rfl, rfl, trivial⟩ fun J => ?_)
  refine sq2 ?_
  refine rs [1, 1, 0, 0, 0, 1, 2, 0, 2] [0, 1, 2, 3, 4, 5, 6, 7, 8] mix (by kernel_rfl) hS7.lt fun w8 i3 => ?_
  have im8 := i3.imm
  have hS8 := hS7.keep i3 (fun _ h => h)
  obtain ⟨y4, hx4, hm⟩ := bindS hm
  refine s1 rfl trivial (r_ld rfl Try.isAgg3 (hS8.cellB (i := 4) ⟨rfl, rfl⟩ hL_p3 (j := 0) rfl)) rfl (s1 rfl trivial (r_ld rfl Try.isAgg25 (hS8.cellB (i := 3) ⟨rfl, rfl⟩ hL_p2 (j := 0) rfl)) rfl (s0 rfl trivial (fun _ => r_mp rfl) rfl (s0 rfl trivial (fun _ => r_nc rfl) rfl (s0 rfl trivial (fun _ => r_fa rfl Try.underlying45 rfl Try.sizeOf3 rfl) rfl (s1 rfl trivial (r_ld rfl Try.isAgg3 (hS8.cellB (i := 1) ⟨rfl, rfl⟩ hL_p0 (j := 1) rfl)) rfl (s2 [(0, .int .i64 p3)] rfl trivial rfl (by kernel_rfl) (calS cf22 rfl (kind_Table_Align_sim (p0 := p2) (H_p0 := H1) (p1 := p0.Type_) (hS8.bun [0, 1, 2, 3, 4] [5, 6] rfl) hL1 hx4) rfl fun v4 T4 w9 im9 rv4 => ?_)))))))
  obtain ⟨rfl, hS9, _⟩ := rv4
  have hS9 : Sep g T4 w9 [R, H_p0 [.string ⟨p0.Name.toArray⟩, .int .i64 p0.Type_, .int .i64 y2], H_p1 [.int .i64 (IntKind.wrap .i64 (y2 + y3))], H_p2 [.pointer (some ⟨b1, oo1, none⟩)], H_p3 [.int .i64 p3], H1 [.slice a1 n1 c1], ownA rKindKnown 65 (.slice a1 n1 c1) p2.list] := hS9.unb
  refine ⟨st1 rfl (r_ld rfl Try.isAgg3 (hS9.cellB (i := 4) ⟨rfl, rfl⟩ hL_p3 (j := 0) rfl)) (st0), ?_⟩
  refine s0 rfl trivial (fun _ => r_imx rfl rfl) rfl (s2 [] rfl trivial rfl (by kernel_rfl) (stB (q := 4) (j := 0) hS9 ⟨rfl, rfl⟩ hL_p3 rfl rfl rfl Try.sizeOf3 rfl rfl rfl fun w10 im10 hS10 => ?_))
  have hS10 : Sep g T4 w10 [R, H_p0 [.string ⟨p0.Name.toArray⟩, .int .i64 p0.Type_, .int .i64 y2], H_p1 [.int .i64 (IntKind.wrap .i64 (y2 + y3))], H_p2 [.pointer (some ⟨b1, oo1, none⟩)], H_p3 [.int .i64 (max p3 y4)], H1 [.slice a1 n1 c1], ownA rKindKnown 65 (.slice a1 n1 c1) p2.list] := hS10
  refine ⟨st0, ?_⟩
  refine se (t_thenR [(1, .pointer (some ⟨b_p1, o_p1, none⟩))] ⟨rfl, trivial⟩ fun J => ?_)
  refine sq2 ?_
  refine rg (pv (r_ld rfl Try.isAgg3 (hS10.cellB (i := 2) ⟨rfl, rfl⟩ hL_p1 (j := 0) rfl)) (pv (r_ib rfl rfl rfl) (pv (r_zb rfl) (nil (t_then ?_)))))
  have hm := Option.some.inj hm
  subst hm
  exact rtn (ret1 rfl rfl ⟨_, rfl, _, (Im.trans im1 (Im.trans im2 (Im.trans im3 (Im.trans im4 (Im.trans im5 (Im.trans im6 (Im.trans im7 (Im.trans im8 (Im.trans im9 im10))))))))), ⟨rfl, hS10.sel [0, 1, 2, 3, 5, 6, 4] rfl, trivial⟩⟩)

set_option maxRecDepth 100000 in
set_option maxHeartbeats 1000000 in
theorem kind_Table_Struct_sim {g : World} {T0 : Nat → Prop} {w0 : World} {R : Assn} {p0 : KindTable} {b_p0 o_p0 : Nat} {H_p0 : List Value → Assn} {a1 : Option Addr} {n1 : Nat} {c1 : Nat} {p1 : List UInt8} {p2 : List GField} {a2 : Option Addr} {c2 : Nat} {r : Int × Int × KindTable} (hS : Sep g T0 w0 [R, H_p0 [.slice a1 n1 c1], ownA rKindKnown 65 (.slice a1 n1 c1) p0.list]) (hL_p0 : Ln b_p0 o_p0 H_p0) (h1 : SlR rGField T0 w0 (.slice a2 (List.length p2) c2) p2) (hm : kind_Table_Struct p0 p1 p2 = some r) :
    Calls Try.prog 28 #[.pointer (some ⟨b_p0, o_p0, none⟩), .string ⟨p1.toArray⟩, .slice a2 (List.length p2) c2] w0 (RetS T0 w0 fun T w v => ∃ (a11 : Option Addr) (n4 : Nat) (c11 : Nat), v = .tuple #[.int .i64 r.1, .int .i64 r.2.1] ∧ Sep g T w [R, H_p0 [.slice a11 n4 c11], ownA rKindKnown 65 (.slice a11 n4 c11) r.2.2.list] ∧ True) := by
  refine enter (args := [.pointer (some ⟨b_p0, o_p0, none⟩), .string ⟨p1.toArray⟩, .slice a2 (List.length p2) c2]) Try.func28 rfl Try.ntmps28 rfl fun J => ?_
  unfold kind_Table_Struct at hm
  refine sq2 ?_
  refine rg (wl rfl (bxS (cs := [.pointer (some ⟨b_p0, o_p0, none⟩)]) rfl rfl hS fun w1 b1 im1 hS1 => ?_))
  refine pv (r_zi rfl) (pv (r_zi rfl) (nil (t_then ?_)))
  refine sq2 ?_
  refine sq2 ?_
  refine rg (pv (r_ld rfl Try.isAgg25 (hS1.cell0 (i := 0) ⟨rfl, rfl⟩ (j := 0) rfl)) (pv (r_pne rfl rfl rfl Try.underlying25) (nil (t_then ?_))))
  refine cnd (b := false) rfl (fun h => nomatch h) (fun _ => ?_)
  refine skp (t_thenR [(1, .string ⟨p1.toArray⟩), (2, .slice a2 (List.length p2) c2), (3, .pointer (some ⟨b1, 0, none⟩))] ⟨rfl, rfl, rfl, trivial⟩ fun J => ?_)
  refine sq2 ?_
  obtain ⟨y1, hx1, hm⟩ := bindS hm
  refine rg (pv (r_ld rfl Try.isAgg25 (hS1.cell0 (i := 0) ⟨rfl, rfl⟩ (j := 0) rfl)) (pv (r_mt rfl) (wl rfl (calS cf35 rfl (kind_Table_named_sim (p0 := p0) (H_p0 := H_p0) (p1 := p1) (hS1.bun [0, 1] [2, 3] rfl) hL_p0 hx1) rfl fun v1 T1 w2 im2 rv1 => ?_))))
  obtain ⟨rfl, hS2, _⟩ := rv1
  have hS2 : Sep g T1 w2 [boxA b1 [.pointer (some ⟨b_p0, o_p0, none⟩)], R, H_p0 [.slice a1 n1 c1], ownA rKindKnown 65 (.slice a1 n1 c1) p0.list] := hS2.unb
  refine pv (r_zi rfl) (nil (t_then ?_))
  refine sq2 ?_
  refine sq2 ?_
  refine rg (pv (r_mi rfl) (pv (r_ib rfl rfl rfl) (pv (r_mb rfl) (?_))))
  rcases Bool.eq_false_or_eq_true (decide (y1 < 0)) with hb2 | hb2
  · have hm := ctrue hb2 hm
    refine gF (d0 := 23) rfl rfl (by rw [hb2]; rfl) (gF (d0 := 23) rfl rfl (by rw [hb2]; rfl) (gF (d0 := 23) rfl rfl (by rw [hb2]; rfl) (gF (d0 := 23) rfl rfl (by rw [hb2]; rfl) (gF (d0 := 23) rfl rfl (by rw [hb2]; rfl) (gF (d0 := 23) rfl rfl (by rw [hb2]; rfl) (gF (d0 := 23) rfl rfl (by rw [hb2]; rfl) (gF (d0 := 23) rfl rfl (by rw [hb2]; rfl) (gF (d0 := 23) rfl rfl (by rw [hb2]; rfl) (pv (r_pkt rfl hb2 rfl) (nil (t_thenR [(2, .slice a2 (List.length p2) c2), (3, .pointer (some ⟨b1, 0, none⟩)), (8, .int .i64 y1), (33, .bool true)] ⟨rfl, rfl, rfl, rfl, trivial⟩ fun J => ?_)))))))))))
    refine cnd (b := true) rfl (fun _ => ?_) (fun h => nomatch h)
    refine sq2 ?_
    refine rg (pv (r_zi rfl) (pv (r_zi rfl) (nil (t_then ?_))))
    have hm := Option.some.inj hm
    subst hm
    exact rtn (r_then (retN (vs := [.int .i64 0, .int .i64 4]) rfl ⟨rfl, rfl, trivial⟩ rfl ⟨_, rfl, _, (Im.trans im1 im2), ⟨_, _, _, rfl, hS2.sel [1, 2, 3] rfl, trivial⟩⟩))
  · have hm := cfalse hb2 hm
    obtain ⟨u1, hx2, hm⟩ := bindS hm
    obtain ⟨b2, of1, cs1, k1, cp1, hv1, hp1, hl1, he1, hr1, hc1⟩ := (hS2.own (i := 3) ⟨rfl, rfl⟩).v.ixq hx2 rfl
    obtain ⟨a3, c3, rfl, h2⟩ := rKindKnown_open hr1
    refine gT (d0 := 23) rfl rfl hb2 (pv (r_ld rfl Try.isAgg25 (hS2.cell0 (i := 0) ⟨rfl, rfl⟩ (j := 0) rfl)) (gT (d0 := 23) rfl rfl hb2 (pv (r_nc rfl) (gT (d0 := 23) rfl rfl hb2 (pv (r_fa rfl Try.underlying68 rfl Try.sizeOf66 rfl) (gT (d0 := 23) rfl rfl hb2 (pv (r_ld rfl Try.isAgg66 (hS2.cellB (i := 2) ⟨rfl, rfl⟩ hL_p0 (j := 0) rfl)) (gT (d0 := 23) rfl rfl hb2 (pv (r_mi rfl) (gT (d0 := 23) rfl rfl hb2 (pv (r_ixe hv1 rfl Try.underlying66 Try.sizeOf65 hp1 hl1 he1) (gT (d0 := 23) rfl rfl hb2 (pv (r_fa rfl Try.underlying65 rfl Try.sizeOf4 rfl) (gT (d0 := 23) rfl rfl hb2 (pv (r_ld rfl Try.isAgg4 (hc1.get (j := 7) rfl)) (gT (d0 := 23) rfl rfl hb2 (pv (r_nt rfl) (pv (r_pkf rfl hb2 rfl) (nil (t_thenR [(2, .slice a2 (List.length p2) c2), (3, .pointer (some ⟨b1, 0, none⟩)), (8, .int .i64 y1), (33, .bool (!u1.open_))] ⟨rfl, rfl, rfl, rfl, trivial⟩ fun J => ?_))))))))))))))))))))
    refine cnd rfl (fun hb3 => ?_) (fun hb3 => ?_)
    · have hm := ctrue hb3 hm
      refine sq2 ?_
      refine rg (pv (r_zi rfl) (pv (r_zi rfl) (nil (t_then ?_))))
      have hm := Option.some.inj hm
      subst hm
      exact rtn (r_then (retN (vs := [.int .i64 0, .int .i64 4]) rfl ⟨rfl, rfl, trivial⟩ rfl ⟨_, rfl, _, (Im.trans im1 im2), ⟨_, _, _, rfl, hS2.sel [1, 2, 3] rfl, trivial⟩⟩))
    · have hm := cfalse hb3 hm
      refine skp (t_then ?_)
      refine sq2 ?_
      refine sq2 ?_
      obtain ⟨y2, hx3, hm⟩ := bindS hm
      refine rg (pv (r_ld rfl Try.isAgg25 (hS2.cell0 (i := 0) ⟨rfl, rfl⟩ (j := 0) rfl)) (pv (r_ms rfl) (wl rfl (calS cf38 rfl (kind_Table_may_sim (p0 := p0) (H_p0 := H_p0) (p1 := p2) (hS2.bun [0, 1] [2, 3] rfl) hL_p0 (h1.mono (Im.trans im1 im2)) hx3) rfl fun v2 T2 w3 im3 rv2 => ?_))))
      obtain ⟨rfl, hS3, _⟩ := rv2
      have hS3 : Sep g T2 w3 [boxA b1 [.pointer (some ⟨b_p0, o_p0, none⟩)], R, H_p0 [.slice a1 n1 c1], ownA rKindKnown 65 (.slice a1 n1 c1) p0.list] := hS3.unb
      refine pv (r_zi rfl) (nil (t_then ?_))
      refine sq2 ?_
      refine rg (pv (r_mi rfl) (pv (r_ib rfl rfl rfl) (nil (t_thenR [(2, .slice a2 (List.length p2) c2), (3, .pointer (some ⟨b1, 0, none⟩)), (8, .int .i64 y1), (9, .int .i64 y2), (38, .bool (y2 != 0))] ⟨rfl, rfl, rfl, rfl, rfl, trivial⟩ fun J => ?_))))
      refine cnd rfl (fun hb4 => ?_) (fun hb4 => ?_)
      · have hm := ctrue hb4 hm
        refine sq2 ?_
        refine rg (pv (r_mi rfl) (pv (r_zi rfl) (pv (r_zi rfl) (nil (t_thenR [(6, .int .i64 0), (7, .int .i64 y2)] ⟨rfl, rfl, trivial⟩ fun J => ?_)))))
        have hm := Option.some.inj hm
        subst hm
        exact rtn (r_then (retN (vs := [.int .i64 0, .int .i64 y2]) rfl ⟨rfl, rfl, trivial⟩ rfl ⟨_, rfl, _, (Im.trans im1 (Im.trans im2 im3)), ⟨_, _, _, rfl, hS3.sel [1, 2, 3] rfl, trivial⟩⟩))
      · have hm := cfalse hb4 hm
        refine skp (t_then ?_)
        refine sq2 ?_
        obtain ⟨y3, hx4, hm⟩ := bindS hm
        refine rg (pv (r_ms rfl) (wl rfl (calS cf36 rfl (slices_Clone_sim (p0 := p2) (hS3.bun [0, 1, 2, 3] [] rfl) (h1.mono (Im.trans im1 (Im.trans im2 im3))) hx4) rfl fun v3 T3 w4 im4 rv3 => ?_)))
        obtain ⟨a4, n2, c4, rfl, hS4, _⟩ := rv3
        have hS4 : Sep g T3 w4 [boxA b1 [.pointer (some ⟨b_p0, o_p0, none⟩)], R, H_p0 [.slice a1 n1 c1], ownA rKindKnown 65 (.slice a1 n1 c1) p0.list, ownA rGField 45 (.slice a4 n2 c4) y3] := hS4.unb
        refine pv (r_zs rfl) (nil (t_thenR [(3, .pointer (some ⟨b1, 0, none⟩)), (8, .int .i64 y1), (10, .slice a4 n2 c4)] ⟨rfl, rfl, rfl, trivial⟩ fun J => ?_))
        refine sq2 ?_
        refine rg (wl rfl (alS (zs := [.int .i64 0]) Try.zeroValue3 rfl hS4 fun w5 b3 im5 hS5 => ?_))
        refine wl rfl (alS (zs := [.int .i64 0]) Try.zeroValue3 rfl hS5 fun w6 b4 im6 hS6 => ?_)
        refine wl rfl (st0B (q := 1) hS6 ⟨rfl, rfl⟩ rfl rfl rfl Try.sizeOf3 rfl rfl rfl fun w7 im7 hS7 => ?_)
        have hS7 : Sep g T3 w7 [boxA b4 [.int .i64 0], boxA b3 [.int .i64 0], boxA b1 [.pointer (some ⟨b_p0, o_p0, none⟩)], R, H_p0 [.slice a1 n1 c1], ownA rKindKnown 65 (.slice a1 n1 c1) p0.list, ownA rGField 45 (.slice a4 n2 c4) y3] := hS7
        refine wl rfl (st0B (q := 0) hS7 ⟨rfl, rfl⟩ rfl rfl rfl Try.sizeOf3 rfl rfl rfl fun w8 im8 hS8 => ?_)
        have hS8 : Sep g T3 w8 [boxA b4 [.int .i64 1], boxA b3 [.int .i64 0], boxA b1 [.pointer (some ⟨b_p0, o_p0, none⟩)], R, H_p0 [.slice a1 n1 c1], ownA rKindKnown 65 (.slice a1 n1 c1) p0.list, ownA rGField 45 (.slice a4 n2 c4) y3] := hS8
        refine nil (t_then ?_)
        refine sq2 ?_
        refine rg (pv (r_mkf (u := .func (.func 39) #[] #[.pointer (some ⟨b3, 0, none⟩), .pointer (some ⟨b1, 0, none⟩), .pointer (some ⟨b4, 0, none⟩)]) rfl) (pv (r_zf rfl) (nil (t_then ?_))))
        refine sq2 ?_
        refine sq2 ?_
        refine rg (pv (r_ms rfl) (pv (r_lnV rfl (hS8.own (i := 6) ⟨rfl, rfl⟩).v Try.underlying32) (pv (r_mi rfl) (nil (t_then ?_)))))
        obtain ⟨o1, ho1, hq1⟩ := bindS hm
        obtain ⟨bd1, hbd1, ho1⟩ := loop_open ho1
        refine blk (wp_loop_ghost (fun m a w9 => ∃ (J : Nat → Value) (T4 : Nat → Prop) (x4 : Int) (x3 : Int) (x1 : List GField) (a5 : Option Addr) (n3 : Nat) (c5 : Nat) (x2 : Int), a = env 84 J [(3, .pointer (some ⟨b1, 0, none⟩)), (8, .int .i64 y1), (10, .slice a5 n3 c5), (11, .pointer (some ⟨b3, 0, none⟩)), (12, .pointer (some ⟨b4, 0, none⟩)), (13, .func (.func 39) #[] #[.pointer (some ⟨b3, 0, none⟩), .pointer (some ⟨b1, 0, none⟩), .pointer (some ⟨b4, 0, none⟩)]), (44, .int .i64 (List.length y3 : Int)), (45, .int .i64 x2)] ∧ Im T3 w8 T4 w9 ∧ Sep g T4 w9 [boxA b4 [.int .i64 x3], boxA b3 [.int .i64 x4], boxA b1 [.pointer (some ⟨b_p0, o_p0, none⟩)], R, H_p0 [.slice a1 n1 c1], ownA rKindKnown 65 (.slice a1 n1 c1) p0.list, ownA rGField 45 (.slice a5 n3 c5) x1] ∧ loopM bd1 m (x1, x2, x3, x4) = some o1) NN ⟨_, _, 0, 1, y3, _, _, _, 0, env_has ⟨rfl, rfl, rfl, rfl, rfl, rfl, rfl, rfl, trivial⟩, Im.refl, hS8.sel [0, 1, 2, 3, 4, 5, 6] rfl, ho1⟩ ?_)
        rintro m _ w9 ⟨J, T4, x4, x3, x1, a5, n3, c5, x2, rfl, im9, hS9, ho1⟩
        obtain ⟨m1, z1, rfl, hm, hn1⟩ := loop_round ho1
        rw [hbd1] at hm
        refine sq2 ?_
        refine rg (pv (r_ib rfl rfl rfl) (nil (t_then ?_)))
        refine sq2 ?_
        refine cnd rfl (fun hb5 => ?_) (fun hb5 => ?_)
        · have hm := ctrue hb5 hm
          refine skp (t_then ?_)
          refine sq2 ?_
          refine blk ?_
          refine sq2 ?_
          refine rg (pv (r_mi rfl) (pv (r_zi rfl) (nil (t_then ?_))))
          refine sq2 ?_
          obtain ⟨u2, hx5, hm⟩ := bindS hm
          obtain ⟨b5, of2, cs2, k2, cp2, hv2, hp2, hl2, he2, hr2, hc2⟩ := (hS9.own (i := 6) ⟨rfl, rfl⟩).v.ixq hx5 rfl
          cases rGField_open hr2
          obtain ⟨u3, hx6, hm⟩ := bindS hm
          obtain ⟨y4, hx7, hm⟩ := bindS hm
          refine rg (pv (r_mf rfl) (pv (r_ms rfl) (pv (r_mi rfl) (pv (r_ixe hv2 rfl Try.underlying32 Try.sizeOf45 hp2 hl2 he2) (?_)))))
          obtain ⟨cs3, hr3, hS10⟩ := hS9.focus (q := 6) ⟨rfl, rfl⟩ hx6
          cases rGField_open hr3
          have hS10 : Sep g T4 w9 [boxA b4 [.int .i64 x3], boxA b3 [.int .i64 x4], boxA b1 [.pointer (some ⟨b_p0, o_p0, none⟩)], R, H_p0 [.slice a1 n1 c1], ownA rKindKnown 65 (.slice a1 n1 c1) p0.list, (holeA rGField 45 (.slice a5 n3 c5) x1 (Int.toNat x2)) [.string ⟨u3.Name.toArray⟩, .int .i64 u3.Type_, .int .i64 u3.At]] := hS10
          refine wl rfl (calS cf39 rfl (kind_Table_Struct_1_sim (p0 := u3) (H_p0 := holeA rGField 45 (.slice a5 n3 c5) x1 (Int.toNat x2)) (p1 := x4) (H_p1 := boxA b3) (p2 := p0) (H_p2 := boxA b1) (H1 := H_p0) (p3 := x3) (H_p3 := boxA b4) (hS10.bun [3] [6, 1, 2, 4, 5, 0] rfl) (lnHole hv2 he2) (lnBox b3) (lnBox b1) hL_p0 (lnBox b4) hx7) rfl fun v4 T5 w10 im10 rv4 => ?_)
          obtain ⟨rfl, hS11, _⟩ := rv4
          have hS11 : Sep g T5 w10 [R, (holeA rGField 45 (.slice a5 n3 c5) x1 (Int.toNat x2)) [.string ⟨y4.2.1.Name.toArray⟩, .int .i64 y4.2.1.Type_, .int .i64 y4.2.1.At], boxA b3 [.int .i64 y4.2.2.1], boxA b1 [.pointer (some ⟨b_p0, o_p0, none⟩)], H_p0 [.slice a1 n1 c1], ownA rKindKnown 65 (.slice a1 n1 c1) p0.list, boxA b4 [.int .i64 y4.2.2.2]] := hS11.unb
          have hS12 : Sep g T5 w10 [R, ownA rGField 45 (.slice a5 n3 c5) (List.set x1 (Int.toNat x2) y4.2.1), boxA b3 [.int .i64 y4.2.2.1], boxA b1 [.pointer (some ⟨b_p0, o_p0, none⟩)], H_p0 [.slice a1 n1 c1], ownA rKindKnown 65 (.slice a1 n1 c1) p0.list, boxA b4 [.int .i64 y4.2.2.2]] := hS11.unfocus (q := 1) (u := y4.2.1) ⟨rfl, rfl⟩ (rGField_mk (x := y4.2.1)  : rGField.rp _ _ _ _)
          refine pv (r_nt rfl) (nil (t_thenR [(3, .pointer (some ⟨b1, 0, none⟩)), (8, .int .i64 y1), (10, .slice a5 n3 c5), (11, .pointer (some ⟨b3, 0, none⟩)), (12, .pointer (some ⟨b4, 0, none⟩)), (13, .func (.func 39) #[] #[.pointer (some ⟨b3, 0, none⟩), .pointer (some ⟨b1, 0, none⟩), .pointer (some ⟨b4, 0, none⟩)]), (44, .int .i64 (List.length y3 : Int)), (45, .int .i64 x2), (53, .bool (!y4.1))] ⟨rfl, rfl, rfl, rfl, rfl, rfl, rfl, rfl, rfl, trivial⟩ fun J => ?_))
          refine cnd rfl (fun hb6 => ?_) (fun hb6 => ?_)
          · have hm := ctrue hb6 hm
            refine sq2 ?_
            refine rg (pv (r_zi rfl) (pv (r_zi rfl) (nil (t_thenR [(6, .int .i64 0), (7, .int .i64 2)] ⟨rfl, rfl, trivial⟩ fun J => ?_))))
            have hm := Option.some.inj hm
            subst hm
            have hn1 : _ = Lp.ret _ := hn1
            subst hn1
            have hm := thn_ret hq1
            have hm := Option.some.inj hm
            subst hm
            exact rtn (r_blk (r_then (r_then (r_blk (r_then (retN (vs := [.int .i64 0, .int .i64 2]) rfl ⟨rfl, rfl, trivial⟩ rfl ⟨_, rfl, _, (Im.trans im1 (Im.trans im2 (Im.trans im3 (Im.trans im4 (Im.trans im5 (Im.trans im6 (Im.trans im7 (Im.trans im8 (Im.trans im9 im10))))))))), ⟨_, _, _, rfl, hS12.sel [0, 4, 5] rfl, trivial⟩⟩))))))
          · have hm := cfalse hb6 hm
            refine skp (t_blk (t_then ?_))
            have hm := Option.some.inj hm
            subst hm
            exact rg (pv (r_ib rfl rfl rfl) (pv (r_mi rfl) (nil (t_then ⟨m1, Nat.lt_succ_self _, _, _, y4.2.2.1, y4.2.2.2, (List.set x1 (Int.toNat x2) y4.2.1), _, _, _, (IntKind.wrap .i64 (x2 + 1)), env_has ⟨rfl, rfl, rfl, rfl, rfl, rfl, rfl, rfl, trivial⟩, (Im.trans im9 im10), hS12.sel [6, 2, 3, 0, 4, 5, 1] rfl, hn1⟩))))
        · have hm := cfalse hb5 hm
          have hm := Option.some.inj hm
          subst hm
          have hn1 : _ = Lp.brk _ := hn1
          subst hn1
          have hm := thn_brk hq1
          refine xt (x_then (x_then (x_eq (t_then ?_))))
          refine sq2 ?_
          refine sq2 ?_
          obtain ⟨y5, hx8, hm⟩ := bindS hm
          refine rg (pv (r_ld rfl Try.isAgg3 (hS9.cell0 (i := 1) ⟨rfl, rfl⟩ (j := 0) rfl)) (pv (r_ld rfl Try.isAgg3 (hS9.cell0 (i := 0) ⟨rfl, rfl⟩ (j := 0) rfl)) (wl rfl (calS cf40 rfl (kind_up_sim (p0 := x4) (p1 := x3) (hS9.bun [0, 1, 2, 3, 4, 5, 6] [] rfl)  hx8) rfl fun v5 T6 w11 im11 rv5 => ?_))))
          obtain ⟨rfl, hS13, _⟩ := rv5
          have hS13 : Sep g T6 w11 [boxA b4 [.int .i64 x3], boxA b3 [.int .i64 x4], boxA b1 [.pointer (some ⟨b_p0, o_p0, none⟩)], R, H_p0 [.slice a1 n1 c1], ownA rKindKnown 65 (.slice a1 n1 c1) p0.list, ownA rGField 45 (.slice a5 n3 c5) x1] := hS13.unb
          refine pv (r_ib rfl rfl rfl) (nil (t_thenR [(3, .pointer (some ⟨b1, 0, none⟩)), (8, .int .i64 y1), (10, .slice a5 n3 c5), (11, .pointer (some ⟨b3, 0, none⟩)), (12, .pointer (some ⟨b4, 0, none⟩)), (58, .bool (decide (32768 < y5)))] ⟨rfl, rfl, rfl, rfl, rfl, rfl, trivial⟩ fun J => ?_))
          refine cnd rfl (fun hb7 => ?_) (fun hb7 => ?_)
          · have hm := ctrue hb7 hm
            refine sq2 ?_
            refine rg (pv (r_zi rfl) (pv (r_zi rfl) (nil (t_thenR [(6, .int .i64 0), (7, .int .i64 2)] ⟨rfl, rfl, trivial⟩ fun J => ?_))))
            have hm := Option.some.inj hm
            subst hm
            exact rtn (r_then (retN (vs := [.int .i64 0, .int .i64 2]) rfl ⟨rfl, rfl, trivial⟩ rfl ⟨_, rfl, _, (Im.trans im1 (Im.trans im2 (Im.trans im3 (Im.trans im4 (Im.trans im5 (Im.trans im6 (Im.trans im7 (Im.trans im8 (Im.trans im9 im11))))))))), ⟨_, _, _, rfl, hS13.sel [3, 4, 5] rfl, trivial⟩⟩))
          · have hm := cfalse hb7 hm
            refine skp (t_then ?_)
            refine sq2 ?_
            obtain ⟨u4, hx9, hm⟩ := bindS hm
            obtain ⟨b6, of3, cs4, k3, cp3, hv3, hp3, hl3, he3, hr4, hc3⟩ := (hS13.own (i := 5) ⟨rfl, rfl⟩).v.ixq hx9 rfl
            obtain ⟨a6, c6, rfl, h3⟩ := rKindKnown_open hr4
            refine rg (pv (r_ld rfl Try.isAgg25 (hS13.cell0 (i := 2) ⟨rfl, rfl⟩ (j := 0) rfl)) (pv (r_nc rfl) (pv (r_fa rfl Try.underlying68 rfl Try.sizeOf66 rfl) (pv (r_ld rfl Try.isAgg66 (hS13.cellB (i := 4) ⟨rfl, rfl⟩ hL_p0 (j := 0) rfl)) (pv (r_mi rfl) (pv (r_ixe hv3 rfl Try.underlying66 Try.sizeOf65 hp3 hl3 he3) (pv (r_zp rfl) (nil (t_thenR [(8, .int .i64 y1), (10, .slice a5 n3 c5), (11, .pointer (some ⟨b3, 0, none⟩)), (12, .pointer (some ⟨b4, 0, none⟩)), (15, .pointer (some ⟨b6, of3, none⟩))] ⟨rfl, rfl, rfl, rfl, rfl, trivial⟩ fun J => ?_)))))))))
            refine sq2 ?_
            refine rs [0, 0, 0, 0, 0, 1, 1, 2, 1, 0, 0, 0, 2, 0, 0, 2, 0, 0, 2, 0, 0, 2] [0, 1, 2, 3, 4, 5, 6, 8, 7, 9, 10, 11, 12, 13, 14, 15, 16, 17, 18, 19, 20, 21] mix (by kernel_rfl) hS13.lt fun w12 i1 => ?_
            have im12 := i1.imm
            have hS14 := hS13.keep i1 (fun _ h => h)
            obtain ⟨y6, hx10, hm⟩ := bindS hm
            refine s0 rfl trivial (fun _ => r_mp rfl) rfl (s0 rfl trivial (fun _ => r_mp rfl) rfl (s0 rfl trivial (fun _ => r_mp rfl) rfl (s0 rfl trivial (fun _ => r_mp rfl) rfl (s0 rfl trivial (fun _ => r_ms rfl) rfl (s1 rfl trivial (r_ld rfl Try.isAgg3 (hS14.cell0 (i := 1) ⟨rfl, rfl⟩ (j := 0) rfl)) rfl (s1 rfl trivial (r_ld rfl Try.isAgg3 (hS14.cell0 (i := 0) ⟨rfl, rfl⟩ (j := 0) rfl)) rfl (s1 rfl trivial (r_ld rfl Try.isAgg3 (hS14.cell0 (i := 0) ⟨rfl, rfl⟩ (j := 0) rfl)) rfl (s2 [(8, .int .i64 x3)] rfl trivial rfl (by kernel_rfl) (calS cf40 rfl (kind_up_sim (p0 := x4) (p1 := x3) (hS14.bun [3, 4, 5, 6, 1, 0] [] rfl)  hx10) rfl fun v6 T7 w13 im13 rv6 => ?_)))))))))
            obtain ⟨rfl, hS15, _⟩ := rv6
            have hS15 : Sep g T7 w13 [R, H_p0 [.slice a1 n1 c1], ownA rKindKnown 65 (.slice a1 n1 c1) p0.list, ownA rGField 45 (.slice a5 n3 c5) x1, boxA b3 [.int .i64 x4], boxA b4 [.int .i64 x3]] := hS15.unb
            refine ⟨st1 rfl (r_ld rfl Try.isAgg3 (hS15.cell0 (i := 5) ⟨rfl, rfl⟩ (j := 0) rfl)) (st0), ?_⟩
            refine s0 rfl trivial (fun _ => r_nc rfl) rfl (s0 rfl trivial (fun _ => r_fa rfl Try.underlying65 rfl Try.sizeOf55 rfl) rfl (s0 rfl trivial (fun _ => r_fa rfl Try.underlying55 rfl Try.sizeOf32 rfl) rfl (?_)))
            obtain ⟨T8, im14, hS16, h4⟩ := hS15.seal 3 ⟨rfl, rfl⟩
            have hsh := h4.len
            subst hsh
            have hS16 : Sep g T8 w13 [R, H_p0 [.slice a1 n1 c1], ownA rKindKnown 65 (.slice a1 n1 c1) p0.list, empA, boxA b3 [.int .i64 x4], boxA b4 [.int .i64 x3]] := hS16
            obtain ⟨u5, hx11, hm⟩ := bindS hm
            refine s2 [(8, .int .i64 x3)] rfl trivial rfl (by kernel_rfl) (stO (q := 2) (i := Int.toNat y1) (j := 4) (u := u5) (u' := { u5 with Type_ := { u5.Type_ with Fields := x1 } }) hS16 ⟨rfl, rfl⟩ hv3 (idx_some hx11).2.2 he3 rfl rfl rfl Try.sizeOf32 rfl rfl rfl (fun c0 hc0 => by obtain ⟨a7, c7, rfl, h5⟩ := rKindKnown_open hc0; exact (rKindKnown_mk (x := { u5 with Type_ := { u5.Type_ with Fields := x1 } }) h4 : rKindKnown.rp _ _ _ _)) fun w14 im15 hS17 => ?_)
            have hS17 : Sep g T8 w14 [R, H_p0 [.slice a1 n1 c1], ownA rKindKnown 65 (.slice a1 n1 c1) (List.set p0.list (Int.toNat y1) ({ u5 with Type_ := { u5.Type_ with Fields := x1 } })), empA, boxA b3 [.int .i64 x4], boxA b4 [.int .i64 x3]] := hS17
            refine ⟨st1 rfl (r_ld rfl Try.isAgg3 (hS17.cell0 (i := 5) ⟨rfl, rfl⟩ (j := 0) rfl)) (st0), ?_⟩
            obtain ⟨u6, hx12, hm⟩ := bindS hm
            refine s0 rfl trivial (fun _ => r_nc rfl) rfl (s0 rfl trivial (fun _ => r_fa rfl Try.underlying65 rfl Try.sizeOf3 rfl) rfl (s2 [(8, .int .i64 x3)] rfl trivial rfl (by kernel_rfl) (stO (q := 2) (i := Int.toNat y1) (j := 5) (u := u6) (u' := { u6 with size := y6 }) hS17 ⟨rfl, rfl⟩ hv3 (idx_some hx12).2.2 he3 rfl rfl rfl Try.sizeOf3 rfl rfl rfl (fun c0 hc0 => by obtain ⟨a8, c8, rfl, h6⟩ := rKindKnown_open hc0; exact (rKindKnown_mk (x := { u6 with size := y6 }) h6 : rKindKnown.rp _ _ _ _)) fun w15 im16 hS18 => ?_)))
            have hS18 : Sep g T8 w15 [R, H_p0 [.slice a1 n1 c1], ownA rKindKnown 65 (.slice a1 n1 c1) (List.set (List.set p0.list (Int.toNat y1) ({ u5 with Type_ := { u5.Type_ with Fields := x1 } })) (Int.toNat y1) ({ u6 with size := y6 })), empA, boxA b3 [.int .i64 x4], boxA b4 [.int .i64 x3]] := hS18
            refine ⟨st1 rfl (r_ld rfl Try.isAgg3 (hS18.cell0 (i := 5) ⟨rfl, rfl⟩ (j := 0) rfl)) (st0), ?_⟩
            obtain ⟨u7, hx13, hm⟩ := bindS hm
            refine s0 rfl trivial (fun _ => r_nc rfl) rfl (s0 rfl trivial (fun _ => r_fa rfl Try.underlying65 rfl Try.sizeOf3 rfl) rfl (s2 [] rfl trivial rfl (by kernel_rfl) (stO (q := 2) (i := Int.toNat y1) (j := 6) (u := u7) (u' := { u7 with align := x3 }) hS18 ⟨rfl, rfl⟩ hv3 (idx_some hx13).2.2 he3 rfl rfl rfl Try.sizeOf3 rfl rfl rfl (fun c0 hc0 => by obtain ⟨a9, c9, rfl, h7⟩ := rKindKnown_open hc0; exact (rKindKnown_mk (x := { u7 with align := x3 }) h7 : rKindKnown.rp _ _ _ _)) fun w16 im17 hS19 => ?_)))
            have hS19 : Sep g T8 w16 [R, H_p0 [.slice a1 n1 c1], ownA rKindKnown 65 (.slice a1 n1 c1) (List.set (List.set (List.set p0.list (Int.toNat y1) ({ u5 with Type_ := { u5.Type_ with Fields := x1 } })) (Int.toNat y1) ({ u6 with size := y6 })) (Int.toNat y1) ({ u7 with align := x3 })), empA, boxA b3 [.int .i64 x4], boxA b4 [.int .i64 x3]] := hS19
            refine ⟨st0, ?_⟩
            obtain ⟨u8, hx14, hm⟩ := bindS hm
            refine s0 rfl trivial (fun _ => r_nc rfl) rfl (s0 rfl trivial (fun _ => r_fa rfl Try.underlying65 rfl Try.sizeOf4 rfl) rfl (s2 [] rfl trivial rfl (by kernel_rfl) (stO (q := 2) (i := Int.toNat y1) (j := 7) (u := u8) (u' := { u8 with open_ := false }) hS19 ⟨rfl, rfl⟩ hv3 (idx_some hx14).2.2 he3 rfl rfl rfl Try.sizeOf4 rfl rfl rfl (fun c0 hc0 => by obtain ⟨a10, c10, rfl, h8⟩ := rKindKnown_open hc0; exact (rKindKnown_mk (x := { u8 with open_ := false }) h8 : rKindKnown.rp _ _ _ _)) fun w17 im18 hS20 => ?_)))
            have hS20 : Sep g T8 w17 [R, H_p0 [.slice a1 n1 c1], ownA rKindKnown 65 (.slice a1 n1 c1) (List.set (List.set (List.set (List.set p0.list (Int.toNat y1) ({ u5 with Type_ := { u5.Type_ with Fields := x1 } })) (Int.toNat y1) ({ u6 with size := y6 })) (Int.toNat y1) ({ u7 with align := x3 })) (Int.toNat y1) ({ u8 with open_ := false })), empA, boxA b3 [.int .i64 x4], boxA b4 [.int .i64 x3]] := hS20
            refine ⟨st0, ?_⟩
            refine se (t_thenR [(8, .int .i64 y1)] ⟨rfl, trivial⟩ fun J => ?_)
            refine sq2 ?_
            refine rg (pv (r_mi rfl) (pv (r_zi rfl) (pv (r_zi rfl) (nil (t_then ?_)))))
            have hm := Option.some.inj hm
            subst hm
            exact rtn (retN (vs := [.int .i64 y1, .int .i64 0]) rfl ⟨rfl, rfl, trivial⟩ rfl ⟨_, rfl, _, (Im.trans im1 (Im.trans im2 (Im.trans im3 (Im.trans im4 (Im.trans im5 (Im.trans im6 (Im.trans im7 (Im.trans im8 (Im.trans im9 (Im.trans im11 (Im.trans im12 (Im.trans im13 (Im.trans im14 (Im.trans im15 (Im.trans im16 (Im.trans im17 im18)))))))))))))))), ⟨_, _, _, rfl, hS20.sel [0, 1, 2] rfl, trivial⟩⟩)

set_option maxRecDepth 100000 in
set_option maxHeartbeats 1000000 in
theorem kind_Table_Field_sim {g : World} {T0 : Nat → Prop} {w0 : World} {R : Assn} {p0 : KindTable} {b_p0 o_p0 : Nat} {H_p0 : List Value → Assn} {a1 : Option Addr} {n1 : Nat} {c1 : Nat} {p1 : Int} {p2 : List UInt8} {r : GField × Int} (hS : Sep g T0 w0 [R, H_p0 [.slice a1 n1 c1], ownA rKindKnown 65 (.slice a1 n1 c1) p0.list]) (hL_p0 : Ln b_p0 o_p0 H_p0) (hm : kind_Table_Field p0 p1 p2 = some r) :
    Calls Try.prog 18 #[.pointer (some ⟨b_p0, o_p0, none⟩), .int .i64 p1, .string ⟨p2.toArray⟩] w0 (RetS T0 w0 fun T w v => v = .tuple #[.agg #[.string ⟨r.1.Name.toArray⟩, .int .i64 r.1.Type_, .int .i64 r.1.At], .int .i64 r.2] ∧ Sep g T w [R, H_p0 [.slice a1 n1 c1], ownA rKindKnown 65 (.slice a1 n1 c1) p0.list] ∧ True) := by
  refine enter (args := [.pointer (some ⟨b_p0, o_p0, none⟩), .int .i64 p1, .string ⟨p2.toArray⟩]) Try.func18 rfl Try.ntmps18 rfl fun J => ?_
  unfold kind_Table_Field at hm
  refine sq2 ?_
  refine rg (wl rfl (alS (zs := [.string ⟨([] : List UInt8).toArray⟩, .int .i64 0, .int .i64 0]) Try.zeroValue45 rfl hS fun w1 b1 im1 hS1 => ?_))
  refine pv (r_zi rfl) (nil (t_then ?_))
  refine sq2 ?_
  refine blk ?_
  refine sq2 ?_
  refine rg (pv (r_mp rfl) (pv (r_pne rfl rfl rfl Try.underlying25) (pv (r_zb rfl) (nil (t_then ?_)))))
  refine cnd (b := false) rfl (fun h => nomatch h) (fun _ => ?_)
  refine sq2 ?_
  obtain ⟨y1, hx1, hm⟩ := bindS hm
  refine rg (pv (r_mp rfl) (pv (r_mi rfl) (wl rfl (calS cf33 rfl (kind_Table_has_sim (p0 := p0) (H_p0 := H_p0) (p1 := p1) (hS1.bun [0, 1] [2, 3] rfl) hL_p0 hx1) rfl fun v1 T1 w2 im2 rv1 => ?_))))
  obtain ⟨rfl, hS2, _⟩ := rv1
  have hS2 : Sep g T1 w2 [boxA b1 [.string ⟨([] : List UInt8).toArray⟩, .int .i64 0, .int .i64 0], R, H_p0 [.slice a1 n1 c1], ownA rKindKnown 65 (.slice a1 n1 c1) p0.list] := hS2.unb
  refine pv (r_nt rfl) (pv (r_zb rfl) (nil (t_thenR [(0, .pointer (some ⟨b_p0, o_p0, none⟩)), (1, .int .i64 p1), (2, .string ⟨p2.toArray⟩), (6, .pointer (some ⟨b1, 0, none⟩)), (14, .bool (!y1))] ⟨rfl, rfl, rfl, rfl, rfl, trivial⟩ fun J => ?_)))
  refine cnd rfl (fun hb2 => ?_) (fun hb2 => ?_)
  · have hm := ctrue hb2 hm
    refine sq2 ?_
    refine rg (pv (r_bd (by kernel_rfl) rfl (u := .agg #[.string ⟨([] : List UInt8).toArray⟩, .int .i64 0, .int .i64 0])) (wl rfl (st0B (q := 0) hS2 ⟨rfl, rfl⟩ rfl rfl rfl Try.sizeOf45 rfl rfl rfl fun w3 im3 hS3 => ?_)))
    have hS3 : Sep g T1 w3 [boxA b1 [.string ⟨([] : List UInt8).toArray⟩, .int .i64 0, .int .i64 0], R, H_p0 [.slice a1 n1 c1], ownA rKindKnown 65 (.slice a1 n1 c1) p0.list] := hS3
    refine pv (r_zi rfl) (nil (t_thenR [(6, .pointer (some ⟨b1, 0, none⟩)), (7, .int .i64 4)] ⟨rfl, rfl, trivial⟩ fun J => ?_))
    have hm := Option.some.inj hm
    subst hm
    exact rtn (r_blk (r_then (retN (vs := [.agg #[.string ⟨([] : List UInt8).toArray⟩, .int .i64 0, .int .i64 0], .int .i64 4]) rfl ⟨rvS rfl Try.isAgg45 Try.sizeOf45 rfl (hS3.bx (i := 0) ⟨rfl, rfl⟩), rfl, trivial⟩ rfl ⟨_, rfl, _, (Im.trans im1 (Im.trans im2 im3)), ⟨rfl, hS3.sel [1, 2, 3] rfl, trivial⟩⟩)))
  · have hm := cfalse hb2 hm
    refine sq2 ?_
    obtain ⟨u1, hx2, hm⟩ := bindS hm
    obtain ⟨b2, of1, cs1, k1, cp1, hv1, hp1, hl1, he1, hr1, hc1⟩ := (hS2.own (i := 3) ⟨rfl, rfl⟩).v.ixq hx2 rfl
    obtain ⟨a2, c2, rfl, h1⟩ := rKindKnown_open hr1
    refine rg (pv (r_mp rfl) (pv (r_nc rfl) (pv (r_fa rfl Try.underlying68 rfl Try.sizeOf66 rfl) (pv (r_ld rfl Try.isAgg66 (hS2.cellB (i := 2) ⟨rfl, rfl⟩ hL_p0 (j := 0) rfl)) (pv (r_mi rfl) (pv (r_ixe hv1 rfl Try.underlying66 Try.sizeOf65 hp1 hl1 he1) (pv (r_fa rfl Try.underlying65 rfl Try.sizeOf55 rfl) (pv (r_fa rfl Try.underlying55 rfl Try.sizeOf3 rfl) (pv (r_ld rfl Try.isAgg3 (hc1.get (j := 0) rfl)) (pv (r_ib rfl rfl rfl) (pv (r_zb rfl) (nil (t_thenR [(0, .pointer (some ⟨b_p0, o_p0, none⟩)), (1, .int .i64 p1), (2, .string ⟨p2.toArray⟩), (6, .pointer (some ⟨b1, 0, none⟩)), (20, .bool (u1.Type_.Kind != 5))] ⟨rfl, rfl, rfl, rfl, rfl, trivial⟩ fun J => ?_)))))))))))))
    refine cnd rfl (fun hb3 => ?_) (fun hb3 => ?_)
    · have hm := ctrue hb3 hm
      refine sq2 ?_
      refine rg (pv (r_bd (by kernel_rfl) rfl (u := .agg #[.string ⟨([] : List UInt8).toArray⟩, .int .i64 0, .int .i64 0])) (wl rfl (st0B (q := 0) hS2 ⟨rfl, rfl⟩ rfl rfl rfl Try.sizeOf45 rfl rfl rfl fun w4 im4 hS4 => ?_)))
      have hS4 : Sep g T1 w4 [boxA b1 [.string ⟨([] : List UInt8).toArray⟩, .int .i64 0, .int .i64 0], R, H_p0 [.slice a1 n1 c1], ownA rKindKnown 65 (.slice a1 n1 c1) p0.list] := hS4
      refine pv (r_zi rfl) (nil (t_thenR [(6, .pointer (some ⟨b1, 0, none⟩)), (7, .int .i64 5)] ⟨rfl, rfl, trivial⟩ fun J => ?_))
      have hm := Option.some.inj hm
      subst hm
      exact rtn (r_blk (r_then (retN (vs := [.agg #[.string ⟨([] : List UInt8).toArray⟩, .int .i64 0, .int .i64 0], .int .i64 5]) rfl ⟨rvS rfl Try.isAgg45 Try.sizeOf45 rfl (hS4.bx (i := 0) ⟨rfl, rfl⟩), rfl, trivial⟩ rfl ⟨_, rfl, _, (Im.trans im1 (Im.trans im2 im4)), ⟨rfl, hS4.sel [1, 2, 3] rfl, trivial⟩⟩)))
    · have hm := cfalse hb3 hm
      refine skp (t_blk (t_then ?_))
      refine sq2 ?_
      refine sq2 ?_
      obtain ⟨u2, hx3, hm⟩ := bindS hm
      obtain ⟨b3, of2, cs2, k2, cp2, hv2, hp2, hl2, he2, hr2, hc2⟩ := (hS2.own (i := 3) ⟨rfl, rfl⟩).v.ixq hx3 rfl
      obtain ⟨a3, c3, rfl, h2⟩ := rKindKnown_open hr2
      refine rg (pv (r_mp rfl) (pv (r_nc rfl) (pv (r_fa rfl Try.underlying68 rfl Try.sizeOf66 rfl) (pv (r_ld rfl Try.isAgg66 (hS2.cellB (i := 2) ⟨rfl, rfl⟩ hL_p0 (j := 0) rfl)) (pv (r_mi rfl) (pv (r_ixe hv2 rfl Try.underlying66 Try.sizeOf65 hp2 hl2 he2) (pv (r_fa rfl Try.underlying65 rfl Try.sizeOf55 rfl) (pv (r_fa rfl Try.underlying55 rfl Try.sizeOf32 rfl) (pv (r_ld rfl Try.isAgg32 (hc2.get (j := 4) rfl)) (pv (r_ln rfl Try.underlying32) (pv (r_mi rfl) (nil (t_thenR [(2, .string ⟨p2.toArray⟩), (6, .pointer (some ⟨b1, 0, none⟩)), (40, .slice a3 (List.length u2.Type_.Fields) c3), (41, .int .i64 (List.length u2.Type_.Fields : Int)), (42, .int .i64 0)] ⟨rfl, rfl, rfl, rfl, rfl, trivial⟩ fun J => ?_)))))))))))))
      obtain ⟨o1, ho1, hq1⟩ := bindS hm
      obtain ⟨bd1, hbd1, ho1⟩ := loop_open ho1
      refine blk (wp_loop_ghost (fun m a w5 => ∃ (J : Nat → Value) (T2 : Nat → Prop) (x1 : Int), a = env 53 J [(2, .string ⟨p2.toArray⟩), (6, .pointer (some ⟨b1, 0, none⟩)), (40, .slice a3 (List.length u2.Type_.Fields) c3), (41, .int .i64 (List.length u2.Type_.Fields : Int)), (42, .int .i64 x1)] ∧ Im T1 w2 T2 w5 ∧ Sep g T2 w5 [boxA b1 [.string ⟨([] : List UInt8).toArray⟩, .int .i64 0, .int .i64 0], R, H_p0 [.slice a1 n1 c1], ownA rKindKnown 65 (.slice a1 n1 c1) p0.list] ∧ loopM bd1 m x1 = some o1) NN ⟨_, _, 0, env_has ⟨rfl, rfl, rfl, rfl, rfl, trivial⟩, Im.refl, hS2.sel [0, 1, 2, 3] rfl, ho1⟩ ?_)
      rintro m _ w5 ⟨J, T2, x1, rfl, im5, hS5, ho1⟩
      obtain ⟨m1, z1, rfl, hm, hn1⟩ := loop_round ho1
      rw [hbd1] at hm
      refine sq2 ?_
      refine rg (pv (r_ib rfl rfl rfl) (nil (t_then ?_)))
      refine sq2 ?_
      refine cnd rfl (fun hb4 => ?_) (fun hb4 => ?_)
      · have hm := ctrue hb4 hm
        refine skp (t_then ?_)
        refine sq2 ?_
        refine blk ?_
        refine sq2 ?_
        obtain ⟨u3, hx4, hm⟩ := bindS hm
        obtain ⟨b4, of3, cs3, k3, cp3, hv3, hp3, hl3, he3, hr3, hc3, hT1⟩ := (h2.mono im5).ixT hx4 rfl
        cases rGField_open hr3
        refine rg (pv (r_ixe hv3 rfl Try.underlying32 Try.sizeOf45 hp3 hl3 he3) (pv (r_ldS rfl Try.isAgg45 Try.sizeOf45 rfl hc3 (cs := [.string ⟨u3.Name.toArray⟩, .int .i64 u3.Type_, .int .i64 u3.At])) (wl rfl (alS (zs := [.string ⟨([] : List UInt8).toArray⟩, .int .i64 0, .int .i64 0]) Try.zeroValue45 rfl hS5 fun w6 b5 im6 hS6 => ?_))))
        refine wl rfl (st0B (q := 0) hS6 ⟨rfl, rfl⟩ rfl rfl rfl Try.sizeOf45 rfl rfl rfl fun w7 im7 hS7 => ?_)
        have hS7 : Sep g T2 w7 [boxA b5 [.string ⟨u3.Name.toArray⟩, .int .i64 u3.Type_, .int .i64 u3.At], boxA b1 [.string ⟨([] : List UInt8).toArray⟩, .int .i64 0, .int .i64 0], R, H_p0 [.slice a1 n1 c1], ownA rKindKnown 65 (.slice a1 n1 c1) p0.list] := hS7
        refine nil (t_then ?_)
        refine sq2 ?_
        refine rg (pv (r_fa rfl Try.underlying45 rfl Try.sizeOf9 rfl) (pv (r_ld rfl Try.isAgg9 (hS7.cell0 (i := 0) ⟨rfl, rfl⟩ (j := 0) rfl)) (pv (r_mt rfl) (pv (r_sqL rfl rfl) (nil (t_thenR [(2, .string ⟨p2.toArray⟩), (6, .pointer (some ⟨b1, 0, none⟩)), (9, .pointer (some ⟨b5, 0, none⟩)), (40, .slice a3 (List.length u2.Type_.Fields) c3), (41, .int .i64 (List.length u2.Type_.Fields : Int)), (42, .int .i64 x1), (49, .bool (decide (u3.Name = p2)))] ⟨rfl, rfl, rfl, rfl, rfl, rfl, rfl, trivial⟩ fun J => ?_))))))
        refine cnd rfl (fun hb5 => ?_) (fun hb5 => ?_)
        · have hm := ctrue hb5 hm
          refine sq2 ?_
          refine rg (pv (r_ldS rfl Try.isAgg45 Try.sizeOf45 rfl (hS7.cells0 (i := 0) ⟨rfl, rfl⟩ (o := 0) rfl) (cs := [.string ⟨u3.Name.toArray⟩, .int .i64 u3.Type_, .int .i64 u3.At])) (wl rfl (st0B (q := 1) hS7 ⟨rfl, rfl⟩ rfl rfl rfl Try.sizeOf45 rfl rfl rfl fun w8 im8 hS8 => ?_)))
          have hS8 : Sep g T2 w8 [boxA b5 [.string ⟨u3.Name.toArray⟩, .int .i64 u3.Type_, .int .i64 u3.At], boxA b1 [.string ⟨u3.Name.toArray⟩, .int .i64 u3.Type_, .int .i64 u3.At], R, H_p0 [.slice a1 n1 c1], ownA rKindKnown 65 (.slice a1 n1 c1) p0.list] := hS8
          refine pv (r_zi rfl) (nil (t_thenR [(6, .pointer (some ⟨b1, 0, none⟩)), (7, .int .i64 0)] ⟨rfl, rfl, trivial⟩ fun J => ?_))
          have hm := Option.some.inj hm
          subst hm
          have hn1 : _ = Lp.ret _ := hn1
          subst hn1
          have hm := thn_ret hq1
          have hm := Option.some.inj hm
          subst hm
          exact rtn (r_blk (r_then (r_then (r_blk (r_then (retN (vs := [.agg #[.string ⟨u3.Name.toArray⟩, .int .i64 u3.Type_, .int .i64 u3.At], .int .i64 0]) rfl ⟨rvS rfl Try.isAgg45 Try.sizeOf45 rfl (hS8.bx (i := 1) ⟨rfl, rfl⟩), rfl, trivial⟩ rfl ⟨_, rfl, _, (Im.trans im1 (Im.trans im2 (Im.trans im5 (Im.trans im6 (Im.trans im7 im8))))), ⟨rfl, hS8.sel [2, 3, 4] rfl, trivial⟩⟩))))))
        · have hm := cfalse hb5 hm
          refine skp (t_blk (t_then ?_))
          have hm := Option.some.inj hm
          subst hm
          exact rg (pv (r_ib rfl rfl rfl) (pv (r_mi rfl) (nil (t_then ⟨m1, Nat.lt_succ_self _, _, _, (IntKind.wrap .i64 (x1 + 1)), env_has ⟨rfl, rfl, rfl, rfl, rfl, trivial⟩, (Im.trans im5 (Im.trans im6 im7)), hS7.sel [1, 2, 3, 4] rfl, hn1⟩))))
      · have hm := cfalse hb4 hm
        have hm := Option.some.inj hm
        subst hm
        have hn1 : _ = Lp.brk _ := hn1
        subst hn1
        have hm := thn_brk hq1
        refine xt (x_then (x_then (x_eq (t_thenR [(6, .pointer (some ⟨b1, 0, none⟩))] ⟨rfl, trivial⟩ fun J => ?_))))
        refine sq2 ?_
        refine rg (pv (r_bd (by kernel_rfl) rfl (u := .agg #[.string ⟨([] : List UInt8).toArray⟩, .int .i64 0, .int .i64 0])) (wl rfl (st0B (q := 0) hS5 ⟨rfl, rfl⟩ rfl rfl rfl Try.sizeOf45 rfl rfl rfl fun w9 im9 hS9 => ?_)))
        have hS9 : Sep g T2 w9 [boxA b1 [.string ⟨([] : List UInt8).toArray⟩, .int .i64 0, .int .i64 0], R, H_p0 [.slice a1 n1 c1], ownA rKindKnown 65 (.slice a1 n1 c1) p0.list] := hS9
        refine pv (r_zi rfl) (nil (t_then ?_))
        have hm := Option.some.inj hm
        subst hm
        exact rtn (retN (vs := [.agg #[.string ⟨([] : List UInt8).toArray⟩, .int .i64 0, .int .i64 0], .int .i64 4]) rfl ⟨rvS rfl Try.isAgg45 Try.sizeOf45 rfl (hS9.bx (i := 0) ⟨rfl, rfl⟩), rfl, trivial⟩ rfl ⟨_, rfl, _, (Im.trans im1 (Im.trans im2 (Im.trans im5 im9))), ⟨rfl, hS9.sel [1, 2, 3] rfl, trivial⟩⟩)

set_option maxRecDepth 100000 in
set_option maxHeartbeats 1000000 in
theorem kind_Table_Array_sim {g : World} {T0 : Nat → Prop} {w0 : World} {R : Assn} {p0 : KindTable} {b_p0 o_p0 : Nat} {H_p0 : List Value → Assn} {a1 : Option Addr} {n1 : Nat} {c1 : Nat} {p1 : Int} {p2 : Int} {r : Int × Int × KindTable} (hS : Sep g T0 w0 [R, H_p0 [.slice a1 n1 c1], ownA rKindKnown 65 (.slice a1 n1 c1) p0.list]) (hL_p0 : Ln b_p0 o_p0 H_p0) (hm : kind_Table_Array p0 p1 p2 = some r) :
    Calls Try.prog 14 #[.pointer (some ⟨b_p0, o_p0, none⟩), .int .i64 p1, .int .i64 p2] w0 (RetS T0 w0 fun T w v => ∃ (a6 : Option Addr) (n3 : Nat) (c6 : Nat), v = .tuple #[.int .i64 r.1, .int .i64 r.2.1] ∧ Sep g T w [R, H_p0 [.slice a6 n3 c6], ownA rKindKnown 65 (.slice a6 n3 c6) r.2.2.list] ∧ True) := by
  refine enter (args := [.pointer (some ⟨b_p0, o_p0, none⟩), .int .i64 p1, .int .i64 p2]) Try.func14 rfl Try.ntmps14 rfl fun J => ?_
  unfold kind_Table_Array at hm
  refine sq2 ?_
  refine rg (pv (r_zi rfl) (pv (r_zi rfl) (nil (t_then ?_))))
  refine sq2 ?_
  refine blk ?_
  refine sq2 ?_
  refine rg (pv (r_mp rfl) (pv (r_pne rfl rfl rfl Try.underlying25) (pv (r_zb rfl) (nil (t_then ?_)))))
  refine cnd (b := false) rfl (fun h => nomatch h) (fun _ => ?_)
  refine sq2 ?_
  obtain ⟨y1, hx1, hm⟩ := bindS hm
  refine rg (pv (r_mp rfl) (pv (r_mi rfl) (wl rfl (calS cf33 rfl (kind_Table_has_sim (p0 := p0) (H_p0 := H_p0) (p1 := p1) (hS.bun [0] [1, 2] rfl) hL_p0 hx1) rfl fun v1 T1 w1 im1 rv1 => ?_))))
  obtain ⟨rfl, hS1, _⟩ := rv1
  have hS1 : Sep g T1 w1 [R, H_p0 [.slice a1 n1 c1], ownA rKindKnown 65 (.slice a1 n1 c1) p0.list] := hS1.unb
  refine pv (r_nt rfl) (pv (r_zb rfl) (nil (t_thenR [(0, .pointer (some ⟨b_p0, o_p0, none⟩)), (1, .int .i64 p1), (2, .int .i64 p2), (12, .bool (!y1))] ⟨rfl, rfl, rfl, rfl, trivial⟩ fun J => ?_)))
  refine cnd rfl (fun hb2 => ?_) (fun hb2 => ?_)
  · have hm := ctrue hb2 hm
    refine sq2 ?_
    refine rg (pv (r_zi rfl) (pv (r_zi rfl) (nil (t_then ?_))))
    have hm := Option.some.inj hm
    subst hm
    exact rtn (r_blk (r_then (retN (vs := [.int .i64 0, .int .i64 4]) rfl ⟨rfl, rfl, trivial⟩ rfl ⟨_, rfl, _, im1, ⟨_, _, _, rfl, hS1.sel [0, 1, 2] rfl, trivial⟩⟩)))
  · have hm := cfalse hb2 hm
    refine sq2 ?_
    obtain ⟨u1, hx2, hm⟩ := bindS hm
    obtain ⟨b1, of1, cs1, k1, cp1, hv1, hp1, hl1, he1, hr1, hc1⟩ := (hS1.own (i := 2) ⟨rfl, rfl⟩).v.ixq hx2 rfl
    obtain ⟨a2, c2, rfl, h1⟩ := rKindKnown_open hr1
    refine rg (pv (r_mp rfl) (pv (r_nc rfl) (pv (r_fa rfl Try.underlying68 rfl Try.sizeOf66 rfl) (pv (r_ld rfl Try.isAgg66 (hS1.cellB (i := 1) ⟨rfl, rfl⟩ hL_p0 (j := 0) rfl)) (pv (r_mi rfl) (pv (r_ixe hv1 rfl Try.underlying66 Try.sizeOf65 hp1 hl1 he1) (pv (r_fa rfl Try.underlying65 rfl Try.sizeOf3 rfl) (pv (r_ld rfl Try.isAgg3 (hc1.get (j := 5) rfl)) (pv (r_ib rfl rfl rfl) (pv (r_zb rfl) (nil (t_thenR [(0, .pointer (some ⟨b_p0, o_p0, none⟩)), (1, .int .i64 p1), (2, .int .i64 p2), (17, .bool (u1.size == 0))] ⟨rfl, rfl, rfl, rfl, trivial⟩ fun J => ?_))))))))))))
    refine cnd rfl (fun hb3 => ?_) (fun hb3 => ?_)
    · have hm := ctrue hb3 hm
      refine sq2 ?_
      refine rg (pv (r_zi rfl) (pv (r_zi rfl) (nil (t_then ?_))))
      have hm := Option.some.inj hm
      subst hm
      exact rtn (r_blk (r_then (retN (vs := [.int .i64 0, .int .i64 5]) rfl ⟨rfl, rfl, trivial⟩ rfl ⟨_, rfl, _, im1, ⟨_, _, _, rfl, hS1.sel [0, 1, 2] rfl, trivial⟩⟩)))
    · have hm := cfalse hb3 hm
      refine sq2 ?_
      refine rg (pv (r_mi rfl) (pv (r_ib rfl rfl rfl) (pv (r_zb rfl) (nil (t_then ?_)))))
      refine cnd rfl (fun hb4 => ?_) (fun hb4 => ?_)
      · have hm := ctrue hb4 hm
        refine sq2 ?_
        refine rg (pv (r_zi rfl) (pv (r_zi rfl) (nil (t_thenR [(6, .int .i64 0), (7, .int .i64 1)] ⟨rfl, rfl, trivial⟩ fun J => ?_))))
        have hm := Option.some.inj hm
        subst hm
        exact rtn (r_blk (r_then (retN (vs := [.int .i64 0, .int .i64 1]) rfl ⟨rfl, rfl, trivial⟩ rfl ⟨_, rfl, _, im1, ⟨_, _, _, rfl, hS1.sel [0, 1, 2] rfl, trivial⟩⟩)))
      · have hm := cfalse hb4 hm
        refine sq2 ?_
        obtain ⟨u2, hx3, hm⟩ := bindS hm
        obtain ⟨b2, of2, cs2, k2, cp2, hv2, hp2, hl2, he2, hr2, hc2⟩ := (hS1.own (i := 2) ⟨rfl, rfl⟩).v.ixq hx3 rfl
        obtain ⟨a3, c3, rfl, h2⟩ := rKindKnown_open hr2
        obtain ⟨_, hz1, hm⟩ := bindS hm
        have hz1 := nz_some hz1
        refine rg (pv (r_mi rfl) (pv (r_mp rfl) (pv (r_nc rfl) (pv (r_fa rfl Try.underlying68 rfl Try.sizeOf66 rfl) (pv (r_ld rfl Try.isAgg66 (hS1.cellB (i := 1) ⟨rfl, rfl⟩ hL_p0 (j := 0) rfl)) (pv (r_mi rfl) (pv (r_ixe hv2 rfl Try.underlying66 Try.sizeOf65 hp2 hl2 he2) (pv (r_fa rfl Try.underlying65 rfl Try.sizeOf3 rfl) (pv (r_ld rfl Try.isAgg3 (hc2.get (j := 5) rfl)) (pv (r_iq rfl rfl hz1) (pv (r_ib rfl rfl rfl) (pv (r_zb rfl) (nil (t_thenR [(0, .pointer (some ⟨b_p0, o_p0, none⟩)), (1, .int .i64 p1), (2, .int .i64 p2), (30, .bool (decide ((IntKind.wrap .i64 (Int.tdiv 32768 u2.size)) < p2)))] ⟨rfl, rfl, rfl, rfl, trivial⟩ fun J => ?_))))))))))))))
        refine cnd rfl (fun hb5 => ?_) (fun hb5 => ?_)
        · have hm := ctrue hb5 hm
          refine sq2 ?_
          refine rg (pv (r_zi rfl) (pv (r_zi rfl) (nil (t_then ?_))))
          have hm := Option.some.inj hm
          subst hm
          exact rtn (r_blk (r_then (retN (vs := [.int .i64 0, .int .i64 2]) rfl ⟨rfl, rfl, trivial⟩ rfl ⟨_, rfl, _, im1, ⟨_, _, _, rfl, hS1.sel [0, 1, 2] rfl, trivial⟩⟩)))
        · have hm := cfalse hb5 hm
          refine skp (t_blk (t_then ?_))
          refine sq2 ?_
          obtain ⟨u3, hx4, hm⟩ := bindS hm
          obtain ⟨b3, of3, cs3, k3, cp3, hv3, hp3, hl3, he3, hr3, hc3⟩ := (hS1.own (i := 2) ⟨rfl, rfl⟩).v.ixq hx4 rfl
          obtain ⟨a4, c4, rfl, h3⟩ := rKindKnown_open hr3
          refine rg (pv (r_mp rfl) (pv (r_nc rfl) (pv (r_fa rfl Try.underlying68 rfl Try.sizeOf66 rfl) (pv (r_ld rfl Try.isAgg66 (hS1.cellB (i := 1) ⟨rfl, rfl⟩ hL_p0 (j := 0) rfl)) (pv (r_mi rfl) (pv (r_ixe hv3 rfl Try.underlying66 Try.sizeOf65 hp3 hl3 he3) (pv (r_ldS rfl Try.isAgg65 Try.sizeOf65 rfl hc3 (cs := [.int .i64 u3.Type_.Kind, .int .i64 u3.Type_.Elem, .int .i64 u3.Type_.Len, .string ⟨u3.Type_.Name.toArray⟩, .slice a4 (List.length u3.Type_.Fields) c4, .int .i64 u3.size, .int .i64 u3.align, .bool u3.open_])) (wl rfl (alS (zs := [.int .i64 0, .int .i64 0, .int .i64 0, .string ⟨([] : List UInt8).toArray⟩, .slice none 0 0, .int .i64 0, .int .i64 0, .bool false]) Try.zeroValue65 rfl hS1 fun w2 b4 im2 hS2 => ?_)))))))))
          refine wl rfl (st0B (q := 0) hS2 ⟨rfl, rfl⟩ rfl rfl rfl Try.sizeOf65 rfl rfl rfl fun w3 im3 hS3 => ?_)
          have hS3 : Sep g T1 w3 [boxA b4 [.int .i64 u3.Type_.Kind, .int .i64 u3.Type_.Elem, .int .i64 u3.Type_.Len, .string ⟨u3.Type_.Name.toArray⟩, .slice a4 (List.length u3.Type_.Fields) c4, .int .i64 u3.size, .int .i64 u3.align, .bool u3.open_], R, H_p0 [.slice a1 n1 c1], ownA rKindKnown 65 (.slice a1 n1 c1) p0.list] := hS3
          refine nil (t_thenR [(0, .pointer (some ⟨b_p0, o_p0, none⟩)), (1, .int .i64 p1), (2, .int .i64 p2), (8, .pointer (some ⟨b4, 0, none⟩))] ⟨rfl, rfl, rfl, rfl, trivial⟩ fun J => ?_)
          refine sq2 ?_
          obtain ⟨y2, hx5, hm⟩ := bindS hm
          refine rg (pv (r_mp rfl) (pv (r_mi rfl) (pv (r_mi rfl) (pv (r_bd (by kernel_rfl) rfl (u := .agg #[.int .i64 4, .int .i64 p1, .int .i64 p2, .string ⟨([] : List UInt8).toArray⟩, .slice none 0 0])) (pv (r_mi rfl) (pv (r_fa rfl Try.underlying65 rfl Try.sizeOf3 rfl) (pv (r_ld rfl Try.isAgg3 (hS3.cell0 (i := 0) ⟨rfl, rfl⟩ (j := 5) rfl)) (pv (r_ib rfl rfl rfl) (pv (r_fa rfl Try.underlying65 rfl Try.sizeOf3 rfl) (pv (r_ld rfl Try.isAgg3 (hS3.cell0 (i := 0) ⟨rfl, rfl⟩ (j := 6) rfl)) (pv (r_bd (by kernel_rfl) rfl (u := .agg #[.int .i64 4, .int .i64 p1, .int .i64 p2, .string ⟨([] : List UInt8).toArray⟩, .slice none 0 0, .int .i64 (IntKind.wrap .i64 (p2 * u3.size)), .int .i64 u3.align, .bool false])) (wl rfl (calS cf34 rfl (kind_Table_put_sim (p0 := p0) (H_p0 := H_p0) (p1 := (⟨(⟨4, p1, p2, ([] : List UInt8), []⟩ : GType), IntKind.wrap .i64 (p2 * u3.size), u3.align, false⟩ : KindKnown)) (hS3.bun [1] [2, 3] rfl) hL_p0 SlR_nil hx5) rfl fun v2 T2 w4 im4 rv2 => ?_)))))))))))))
          obtain ⟨a5, n2, c5, rfl, hS4, _⟩ := rv2
          have hS4 : Sep g T2 w4 [R, H_p0 [.slice a5 n2 c5], ownA rKindKnown 65 (.slice a5 n2 c5) y2.2.2.list] := hS4.unb
          refine pv (r_ex (v := .int .i64 y2.1) rfl rfl) (pv (r_ex (v := .int .i64 y2.2.1) rfl rfl) (pv (r_zi rfl) (pv (r_zi rfl) (nil (t_thenR [(6, .int .i64 y2.1), (7, .int .i64 y2.2.1)] ⟨rfl, rfl, trivial⟩ fun J => ?_)))))
          have hm := Option.some.inj hm
          subst hm
          exact rtn (retN (vs := [.int .i64 y2.1, .int .i64 y2.2.1]) rfl ⟨rfl, rfl, trivial⟩ rfl ⟨_, rfl, _, (Im.trans im1 (Im.trans im2 (Im.trans im3 im4))), ⟨_, _, _, rfl, hS4.sel [0, 1, 2] rfl, trivial⟩⟩)

set_option maxRecDepth 100000 in
set_option maxHeartbeats 1000000 in
theorem law08_awake_sim {g : World} {T0 : Nat → Prop} {w0 : World} {R : Assn}  {r : Bool} (hS : Sep g T0 w0 [R])  (hm : law08_awake = some r) :
    Calls Try.prog 9 #[] w0 (RetS T0 w0 fun T w v => v = .bool r ∧ Sep g T w [R] ∧ True) := by
  refine enter (args := []) Try.func9 rfl Try.ntmps9 rfl fun J => ?_
  unfold law08_awake at hm
  refine sq2 ?_
  refine rg (pv (r_zb rfl) (nil (t_then ?_)))
  refine sq2 ?_
  obtain ⟨y1, hx1, hm⟩ := bindS hm
  refine rg (wl rfl (calS cf10 rfl (kind_New_sim  (hS.bun [0] [] rfl)  hx1) rfl fun v1 T1 w1 im1 rv1 => ?_))
  obtain ⟨b1, a1, n1, c1, rfl, hS1, _⟩ := rv1
  have hS1 : Sep g T1 w1 [R, boxA b1 [.slice a1 n1 c1], ownA rKindKnown 65 (.slice a1 n1 c1) y1.list] := hS1.unb
  refine pv (r_zp rfl) (nil (t_then ?_))
  refine sq2 ?_
  obtain ⟨y2, hx2, hm⟩ := bindS hm
  refine rg (pv (r_mp rfl) (wl rfl (calS cf27 rfl (kind_Table_Open_sim (p0 := y1) (H_p0 := boxA b1) (p1 := ([115] : List UInt8)) (hS1.bun [0] [1, 2] rfl) (lnBox b1) hx2) rfl fun v2 T2 w2 im2 rv2 => ?_)))
  obtain ⟨a2, n2, c2, rfl, hS2, _⟩ := rv2
  have hS2 : Sep g T2 w2 [R, boxA b1 [.slice a2 n2 c2], ownA rKindKnown 65 (.slice a2 n2 c2) y2.2.2.list] := hS2.unb
  refine pv (r_mv rfl) (pv (r_ex (v := .int .i64 y2.1) rfl rfl) (pv (r_ex (v := .int .i64 y2.2.1) rfl rfl) (pv (r_zi rfl) (pv (r_zi rfl) (nil (t_thenR [(1, .pointer (some ⟨b1, 0, none⟩)), (2, .int .i64 y2.1), (3, .int .i64 y2.2.1)] ⟨rfl, rfl, rfl, trivial⟩ fun J => ?_))))))
  refine sq2 ?_
  refine rg (pv (r_mp rfl) (pv (r_bd (by kernel_rfl) rfl (u := .agg #[.string ⟨([97] : List UInt8).toArray⟩, .int .i64 2, .int .i64 0])) (pv (r_bd (by kernel_rfl) rfl (u := .agg #[.string ⟨([98] : List UInt8).toArray⟩, .int .i64 1, .int .i64 0])) (pv (r_bd (by kernel_rfl) rfl (u := .agg #[.string ⟨([99] : List UInt8).toArray⟩, .int .i64 2, .int .i64 0])) (wl rfl (bsS (r := rGField) (l := ([(⟨([97] : List UInt8), 2, 0⟩ : GField), (⟨([98] : List UInt8), 1, 0⟩ : GField), (⟨([99] : List UInt8), 2, 0⟩ : GField)] : List GField)) (css := [[.string ⟨([97] : List UInt8).toArray⟩, .int .i64 2, .int .i64 0], [.string ⟨([98] : List UInt8).toArray⟩, .int .i64 1, .int .i64 0], [.string ⟨([99] : List UInt8).toArray⟩, .int .i64 2, .int .i64 0]]) hS2 Try.underlying32 Try.sizeOf45 Try.zeroValue45 rfl rfl (by kernel_rfl) rfl ⟨(rGField_mk (x := (⟨([97] : List UInt8), 2, 0⟩ : GField))  : rGField.rp _ _ _ _), (rGField_mk (x := (⟨([98] : List UInt8), 1, 0⟩ : GField))  : rGField.rp _ _ _ _), (rGField_mk (x := (⟨([99] : List UInt8), 2, 0⟩ : GField))  : rGField.rp _ _ _ _), trivial⟩ rfl rfl fun w3 a3 n3 c3 im3 hS3 => ?_))))))
  obtain ⟨T3, im4, hS4, h1⟩ := hS3.seal 0 ⟨rfl, rfl⟩
  have hsh := h1.len
  subst hsh
  have hS4 : Sep g T3 w3 [empA, R, boxA b1 [.slice a2 n2 c2], ownA rKindKnown 65 (.slice a2 n2 c2) y2.2.2.list] := hS4
  obtain ⟨y3, hx3, hm⟩ := bindS hm
  refine wl rfl (calS cf28 rfl (kind_Table_Struct_sim (p0 := y2.2.2) (H_p0 := boxA b1) (p1 := ([115] : List UInt8)) (p2 := ([(⟨([97] : List UInt8), 2, 0⟩ : GField), (⟨([98] : List UInt8), 1, 0⟩ : GField), (⟨([99] : List UInt8), 2, 0⟩ : GField)] : List GField)) (hS4.bun [1] [2, 3] rfl) (lnBox b1) h1 hx3) rfl fun v3 T4 w4 im5 rv3 => ?_)
  obtain ⟨a4, n4, c4, rfl, hS5, _⟩ := rv3
  have hS5 : Sep g T4 w4 [R, boxA b1 [.slice a4 n4 c4], ownA rKindKnown 65 (.slice a4 n4 c4) y3.2.2.list] := hS5.unb
  refine pv (r_mv rfl) (pv (r_ex (v := .int .i64 y3.1) rfl rfl) (pv (r_ex (v := .int .i64 y3.2.1) rfl rfl) (pv (r_zi rfl) (pv (r_zi rfl) (nil (t_thenR [(1, .pointer (some ⟨b1, 0, none⟩)), (2, .int .i64 y2.1), (3, .int .i64 y2.2.1), (4, .int .i64 y3.1), (5, .int .i64 y3.2.1)] ⟨rfl, rfl, rfl, rfl, rfl, trivial⟩ fun J => ?_))))))
  refine sq2 ?_
  obtain ⟨y4, hx4, hm⟩ := bindS hm
  refine rg (pv (r_mp rfl) (pv (r_mi rfl) (wl rfl (calS cf18 rfl (kind_Table_Field_sim (p0 := y3.2.2) (H_p0 := boxA b1) (p1 := y3.1) (p2 := ([99] : List UInt8)) (hS5.bun [0] [1, 2] rfl) (lnBox b1) hx4) rfl fun v4 T5 w5 im6 rv4 => ?_))))
  obtain ⟨rfl, hS6, _⟩ := rv4
  have hS6 : Sep g T5 w5 [R, boxA b1 [.slice a4 n4 c4], ownA rKindKnown 65 (.slice a4 n4 c4) y3.2.2.list] := hS6.unb
  refine pv (r_mv rfl) (pv (r_ex (v := .agg #[.string ⟨y4.1.Name.toArray⟩, .int .i64 y4.1.Type_, .int .i64 y4.1.At]) rfl rfl) (pv (r_ex (v := .int .i64 y4.2) rfl rfl) (wl rfl (alS (zs := [.string ⟨([] : List UInt8).toArray⟩, .int .i64 0, .int .i64 0]) Try.zeroValue45 rfl hS6 fun w6 b2 im7 hS7 => ?_))))
  refine wl rfl (st0B (q := 0) hS7 ⟨rfl, rfl⟩ rfl rfl rfl Try.sizeOf45 rfl rfl rfl fun w7 im8 hS8 => ?_)
  have hS8 : Sep g T5 w7 [boxA b2 [.string ⟨y4.1.Name.toArray⟩, .int .i64 y4.1.Type_, .int .i64 y4.1.At], R, boxA b1 [.slice a4 n4 c4], ownA rKindKnown 65 (.slice a4 n4 c4) y3.2.2.list] := hS8
  refine pv (r_zi rfl) (nil (t_thenR [(1, .pointer (some ⟨b1, 0, none⟩)), (2, .int .i64 y2.1), (3, .int .i64 y2.2.1), (4, .int .i64 y3.1), (5, .int .i64 y3.2.1), (6, .pointer (some ⟨b2, 0, none⟩)), (7, .int .i64 y4.2)] ⟨rfl, rfl, rfl, rfl, rfl, rfl, rfl, trivial⟩ fun J => ?_))
  refine sq2 ?_
  obtain ⟨y5, hx5, hm⟩ := bindS hm
  refine rg (pv (r_mp rfl) (wl rfl (calS cf14 rfl (kind_Table_Array_sim (p0 := y3.2.2) (H_p0 := boxA b1) (p1 := 2) (p2 := 3) (hS8.bun [0, 1] [2, 3] rfl) (lnBox b1) hx5) rfl fun v5 T6 w8 im9 rv5 => ?_)))
  obtain ⟨a5, n5, c5, rfl, hS9, _⟩ := rv5
  have hS9 : Sep g T6 w8 [boxA b2 [.string ⟨y4.1.Name.toArray⟩, .int .i64 y4.1.Type_, .int .i64 y4.1.At], R, boxA b1 [.slice a5 n5 c5], ownA rKindKnown 65 (.slice a5 n5 c5) y5.2.2.list] := hS9.unb
  refine pv (r_mv rfl) (pv (r_ex (v := .int .i64 y5.1) rfl rfl) (pv (r_ex (v := .int .i64 y5.2.1) rfl rfl) (pv (r_zi rfl) (pv (r_zi rfl) (nil (t_thenR [(1, .pointer (some ⟨b1, 0, none⟩)), (2, .int .i64 y2.1), (3, .int .i64 y2.2.1), (4, .int .i64 y3.1), (5, .int .i64 y3.2.1), (6, .pointer (some ⟨b2, 0, none⟩)), (7, .int .i64 y4.2), (8, .int .i64 y5.1), (9, .int .i64 y5.2.1)] ⟨rfl, rfl, rfl, rfl, rfl, rfl, rfl, rfl, rfl, trivial⟩ fun J => ?_))))))
  refine sq2 ?_
  refine rg (pv (r_mi rfl) (pv (r_ib rfl rfl rfl) (pv (r_mb rfl) (?_))))
  rcases Bool.eq_false_or_eq_true (y2.2.1 == 0) with hb1 | hb1
  · have hm := ctrue hb1 hm
    refine gT (d0 := 38) rfl rfl hb1 (pv (r_mi rfl) (gT (d0 := 38) rfl rfl hb1 (pv (r_ib rfl rfl rfl) (pv (r_pkt rfl hb1 rfl) (pv (r_mb rfl) (?_))))))
    rcases Bool.eq_false_or_eq_true (y3.2.1 == 0) with hb2 | hb2
    · have hm := ctrue hb2 hm
      refine gT (d0 := 42) rfl rfl hb2 (pv (r_mi rfl) (gT (d0 := 42) rfl rfl hb2 (pv (r_ib rfl rfl rfl) (pv (r_pkt rfl hb2 rfl) (pv (r_mb rfl) (?_))))))
      rcases Bool.eq_false_or_eq_true (y4.2 == 0) with hb3 | hb3
      · have hm := ctrue hb3 hm
        refine gT (d0 := 46) rfl rfl hb3 (pv (r_mi rfl) (gT (d0 := 46) rfl rfl hb3 (pv (r_ib rfl rfl rfl) (pv (r_pkt rfl hb3 rfl) (pv (r_mb rfl) (?_))))))
        rcases Bool.eq_false_or_eq_true (y5.2.1 == 0) with hb4 | hb4
        · have hm := ctrue hb4 hm
          refine gT (d0 := 50) rfl rfl hb4 (pv (r_mi rfl) (gT (d0 := 50) rfl rfl hb4 (pv (r_mi rfl) (gT (d0 := 50) rfl rfl hb4 (pv (r_ib rfl rfl rfl) (pv (r_pkt rfl hb4 rfl) (pv (r_mb rfl) (?_))))))))
          rcases Bool.eq_false_or_eq_true (y2.1 == y3.1) with hb5 | hb5
          · have hm := ctrue hb5 hm
            refine gT (d0 := 55) rfl rfl hb5 (pv (r_fa rfl Try.underlying45 rfl Try.sizeOf3 rfl) (gT (d0 := 55) rfl rfl hb5 (pv (r_ld rfl Try.isAgg3 (hS9.cell0 (i := 0) ⟨rfl, rfl⟩ (j := 2) rfl)) (gT (d0 := 55) rfl rfl hb5 (pv (r_ib rfl rfl rfl) (pv (r_pkt rfl hb5 rfl) (pv (r_mb rfl) (?_))))))))
            rcases Bool.eq_false_or_eq_true (y4.1.At == 8) with hb6 | hb6
            · have hm := ctrue hb6 hm
              obtain ⟨y6, hx6, hm⟩ := bindS hm
              refine gT (d0 := 60) rfl rfl hb6 (pv (r_mp rfl) (gT (d0 := 60) rfl rfl hb6 (pv (r_mi rfl) (gT (d0 := 60) rfl rfl hb6 (wl rfl (calS cf21 rfl (kind_Table_Size_sim (p0 := y5.2.2) (H_p0 := boxA b1) (p1 := y3.1) (hS9.bun [1] [2, 3] rfl) (lnBox b1) hx6) rfl fun v6 T7 w9 im10 rv6 => ?_))))))
              obtain ⟨rfl, hS10, _⟩ := rv6
              have hS10 : Sep g T7 w9 [R, boxA b1 [.slice a5 n5 c5], ownA rKindKnown 65 (.slice a5 n5 c5) y5.2.2.list] := hS10.unb
              refine gT (d0 := 60) rfl rfl hb6 (pv (r_ib rfl rfl rfl) (pv (r_pkt rfl hb6 rfl) (pv (r_mb rfl) (?_))))
              rcases Bool.eq_false_or_eq_true (y6 == 12) with hb7 | hb7
              · have hm := ctrue hb7 hm
                obtain ⟨y7, hx7, hm⟩ := bindS hm
                refine gT (d0 := 66) rfl rfl hb7 (pv (r_mp rfl) (gT (d0 := 66) rfl rfl hb7 (pv (r_mi rfl) (gT (d0 := 66) rfl rfl hb7 (wl rfl (calS cf21 rfl (kind_Table_Size_sim (p0 := y5.2.2) (H_p0 := boxA b1) (p1 := y5.1) (hS10.bun [0] [1, 2] rfl) (lnBox b1) hx7) rfl fun v7 T8 w10 im11 rv7 => ?_))))))
                obtain ⟨rfl, hS11, _⟩ := rv7
                have hS11 : Sep g T8 w10 [R, boxA b1 [.slice a5 n5 c5], ownA rKindKnown 65 (.slice a5 n5 c5) y5.2.2.list] := hS11.unb
                refine gT (d0 := 66) rfl rfl hb7 (pv (r_ib rfl rfl rfl) (pv (r_pkt rfl hb7 rfl) (pv (r_zb rfl) (nil (t_thenR [(0, .bool (y7 == 3))] ⟨rfl, trivial⟩ fun J => ?_)))))
                have hm := Option.some.inj hm
                subst hm
                exact rtn (ret1 rfl rfl ⟨_, rfl, _, (Im.trans im1 (Im.trans im2 (Im.trans im3 (Im.trans im4 (Im.trans im5 (Im.trans im6 (Im.trans im7 (Im.trans im8 (Im.trans im9 (Im.trans im10 im11)))))))))), ⟨rfl, hS11.sel [0] rfl, trivial⟩⟩)
              · have hm := cfalse hb7 hm
                refine gF (d0 := 66) rfl rfl (by rw [hb7]; rfl) (gF (d0 := 66) rfl rfl (by rw [hb7]; rfl) (gF (d0 := 66) rfl rfl (by rw [hb7]; rfl) (gF (d0 := 66) rfl rfl (by rw [hb7]; rfl) (pv (r_pkf rfl hb7 rfl) (pv (r_zb rfl) (nil (t_thenR [(0, .bool false)] ⟨rfl, trivial⟩ fun J => ?_)))))))
                have hm := Option.some.inj hm
                subst hm
                exact rtn (ret1 rfl rfl ⟨_, rfl, _, (Im.trans im1 (Im.trans im2 (Im.trans im3 (Im.trans im4 (Im.trans im5 (Im.trans im6 (Im.trans im7 (Im.trans im8 (Im.trans im9 im10))))))))), ⟨rfl, hS10.sel [0] rfl, trivial⟩⟩)
            · have hm := cfalse hb6 hm
              refine gF (d0 := 60) rfl rfl (by rw [hb6]; rfl) (gF (d0 := 60) rfl rfl (by rw [hb6]; rfl) (gF (d0 := 60) rfl rfl (by rw [hb6]; rfl) (gF (d0 := 60) rfl rfl (by rw [hb6]; rfl) (pv (r_pkf rfl hb6 rfl) (pv (r_mb rfl) (gF (d0 := 66) rfl rfl rfl (gF (d0 := 66) rfl rfl rfl (gF (d0 := 66) rfl rfl rfl (gF (d0 := 66) rfl rfl rfl (pv (r_pkf rfl rfl rfl) (pv (r_zb rfl) (nil (t_thenR [(0, .bool false)] ⟨rfl, trivial⟩ fun J => ?_)))))))))))))
              have hm := Option.some.inj hm
              subst hm
              exact rtn (ret1 rfl rfl ⟨_, rfl, _, (Im.trans im1 (Im.trans im2 (Im.trans im3 (Im.trans im4 (Im.trans im5 (Im.trans im6 (Im.trans im7 (Im.trans im8 im9)))))))), ⟨rfl, hS9.sel [1] rfl, trivial⟩⟩)
          · have hm := cfalse hb5 hm
            refine gF (d0 := 55) rfl rfl (by rw [hb5]; rfl) (gF (d0 := 55) rfl rfl (by rw [hb5]; rfl) (gF (d0 := 55) rfl rfl (by rw [hb5]; rfl) (pv (r_pkf rfl hb5 rfl) (pv (r_mb rfl) (gF (d0 := 60) rfl rfl rfl (gF (d0 := 60) rfl rfl rfl (gF (d0 := 60) rfl rfl rfl (gF (d0 := 60) rfl rfl rfl (pv (r_pkf rfl rfl rfl) (pv (r_mb rfl) (gF (d0 := 66) rfl rfl rfl (gF (d0 := 66) rfl rfl rfl (gF (d0 := 66) rfl rfl rfl (gF (d0 := 66) rfl rfl rfl (pv (r_pkf rfl rfl rfl) (pv (r_zb rfl) (nil (t_thenR [(0, .bool false)] ⟨rfl, trivial⟩ fun J => ?_))))))))))))))))))
            have hm := Option.some.inj hm
            subst hm
            exact rtn (ret1 rfl rfl ⟨_, rfl, _, (Im.trans im1 (Im.trans im2 (Im.trans im3 (Im.trans im4 (Im.trans im5 (Im.trans im6 (Im.trans im7 (Im.trans im8 im9)))))))), ⟨rfl, hS9.sel [1] rfl, trivial⟩⟩)
        · have hm := cfalse hb4 hm
          refine gF (d0 := 50) rfl rfl (by rw [hb4]; rfl) (gF (d0 := 50) rfl rfl (by rw [hb4]; rfl) (gF (d0 := 50) rfl rfl (by rw [hb4]; rfl) (pv (r_pkf rfl hb4 rfl) (pv (r_mb rfl) (gF (d0 := 55) rfl rfl rfl (gF (d0 := 55) rfl rfl rfl (gF (d0 := 55) rfl rfl rfl (pv (r_pkf rfl rfl rfl) (pv (r_mb rfl) (gF (d0 := 60) rfl rfl rfl (gF (d0 := 60) rfl rfl rfl (gF (d0 := 60) rfl rfl rfl (gF (d0 := 60) rfl rfl rfl (pv (r_pkf rfl rfl rfl) (pv (r_mb rfl) (gF (d0 := 66) rfl rfl rfl (gF (d0 := 66) rfl rfl rfl (gF (d0 := 66) rfl rfl rfl (gF (d0 := 66) rfl rfl rfl (pv (r_pkf rfl rfl rfl) (pv (r_zb rfl) (nil (t_thenR [(0, .bool false)] ⟨rfl, trivial⟩ fun J => ?_)))))))))))))))))))))))
          have hm := Option.some.inj hm
          subst hm
          exact rtn (ret1 rfl rfl ⟨_, rfl, _, (Im.trans im1 (Im.trans im2 (Im.trans im3 (Im.trans im4 (Im.trans im5 (Im.trans im6 (Im.trans im7 (Im.trans im8 im9)))))))), ⟨rfl, hS9.sel [1] rfl, trivial⟩⟩)
      · have hm := cfalse hb3 hm
        refine gF (d0 := 46) rfl rfl (by rw [hb3]; rfl) (gF (d0 := 46) rfl rfl (by rw [hb3]; rfl) (pv (r_pkf rfl hb3 rfl) (pv (r_mb rfl) (gF (d0 := 50) rfl rfl rfl (gF (d0 := 50) rfl rfl rfl (gF (d0 := 50) rfl rfl rfl (pv (r_pkf rfl rfl rfl) (pv (r_mb rfl) (gF (d0 := 55) rfl rfl rfl (gF (d0 := 55) rfl rfl rfl (gF (d0 := 55) rfl rfl rfl (pv (r_pkf rfl rfl rfl) (pv (r_mb rfl) (gF (d0 := 60) rfl rfl rfl (gF (d0 := 60) rfl rfl rfl (gF (d0 := 60) rfl rfl rfl (gF (d0 := 60) rfl rfl rfl (pv (r_pkf rfl rfl rfl) (pv (r_mb rfl) (gF (d0 := 66) rfl rfl rfl (gF (d0 := 66) rfl rfl rfl (gF (d0 := 66) rfl rfl rfl (gF (d0 := 66) rfl rfl rfl (pv (r_pkf rfl rfl rfl) (pv (r_zb rfl) (nil (t_thenR [(0, .bool false)] ⟨rfl, trivial⟩ fun J => ?_)))))))))))))))))))))))))))
        have hm := Option.some.inj hm
        subst hm
        exact rtn (ret1 rfl rfl ⟨_, rfl, _, (Im.trans im1 (Im.trans im2 (Im.trans im3 (Im.trans im4 (Im.trans im5 (Im.trans im6 (Im.trans im7 (Im.trans im8 im9)))))))), ⟨rfl, hS9.sel [1] rfl, trivial⟩⟩)
    · have hm := cfalse hb2 hm
      refine gF (d0 := 42) rfl rfl (by rw [hb2]; rfl) (gF (d0 := 42) rfl rfl (by rw [hb2]; rfl) (pv (r_pkf rfl hb2 rfl) (pv (r_mb rfl) (gF (d0 := 46) rfl rfl rfl (gF (d0 := 46) rfl rfl rfl (pv (r_pkf rfl rfl rfl) (pv (r_mb rfl) (gF (d0 := 50) rfl rfl rfl (gF (d0 := 50) rfl rfl rfl (gF (d0 := 50) rfl rfl rfl (pv (r_pkf rfl rfl rfl) (pv (r_mb rfl) (gF (d0 := 55) rfl rfl rfl (gF (d0 := 55) rfl rfl rfl (gF (d0 := 55) rfl rfl rfl (pv (r_pkf rfl rfl rfl) (pv (r_mb rfl) (gF (d0 := 60) rfl rfl rfl (gF (d0 := 60) rfl rfl rfl (gF (d0 := 60) rfl rfl rfl (gF (d0 := 60) rfl rfl rfl (pv (r_pkf rfl rfl rfl) (pv (r_mb rfl) (gF (d0 := 66) rfl rfl rfl (gF (d0 := 66) rfl rfl rfl (gF (d0 := 66) rfl rfl rfl (gF (d0 := 66) rfl rfl rfl (pv (r_pkf rfl rfl rfl) (pv (r_zb rfl) (nil (t_thenR [(0, .bool false)] ⟨rfl, trivial⟩ fun J => ?_)))))))))))))))))))))))))))))))
      have hm := Option.some.inj hm
      subst hm
      exact rtn (ret1 rfl rfl ⟨_, rfl, _, (Im.trans im1 (Im.trans im2 (Im.trans im3 (Im.trans im4 (Im.trans im5 (Im.trans im6 (Im.trans im7 (Im.trans im8 im9)))))))), ⟨rfl, hS9.sel [1] rfl, trivial⟩⟩)
  · have hm := cfalse hb1 hm
    refine gF (d0 := 38) rfl rfl (by rw [hb1]; rfl) (gF (d0 := 38) rfl rfl (by rw [hb1]; rfl) (pv (r_pkf rfl hb1 rfl) (pv (r_mb rfl) (gF (d0 := 42) rfl rfl rfl (gF (d0 := 42) rfl rfl rfl (pv (r_pkf rfl rfl rfl) (pv (r_mb rfl) (gF (d0 := 46) rfl rfl rfl (gF (d0 := 46) rfl rfl rfl (pv (r_pkf rfl rfl rfl) (pv (r_mb rfl) (gF (d0 := 50) rfl rfl rfl (gF (d0 := 50) rfl rfl rfl (gF (d0 := 50) rfl rfl rfl (pv (r_pkf rfl rfl rfl) (pv (r_mb rfl) (gF (d0 := 55) rfl rfl rfl (gF (d0 := 55) rfl rfl rfl (gF (d0 := 55) rfl rfl rfl (pv (r_pkf rfl rfl rfl) (pv (r_mb rfl) (gF (d0 := 60) rfl rfl rfl (gF (d0 := 60) rfl rfl rfl (gF (d0 := 60) rfl rfl rfl (gF (d0 := 60) rfl rfl rfl (pv (r_pkf rfl rfl rfl) (pv (r_mb rfl) (gF (d0 := 66) rfl rfl rfl (gF (d0 := 66) rfl rfl rfl (gF (d0 := 66) rfl rfl rfl (gF (d0 := 66) rfl rfl rfl (pv (r_pkf rfl rfl rfl) (pv (r_zb rfl) (nil (t_thenR [(0, .bool false)] ⟨rfl, trivial⟩ fun J => ?_)))))))))))))))))))))))))))))))))))
    have hm := Option.some.inj hm
    subst hm
    exact rtn (ret1 rfl rfl ⟨_, rfl, _, (Im.trans im1 (Im.trans im2 (Im.trans im3 (Im.trans im4 (Im.trans im5 (Im.trans im6 (Im.trans im7 (Im.trans im8 im9)))))))), ⟨rfl, hS9.sel [1] rfl, trivial⟩⟩)

set_option maxRecDepth 100000 in
set_option maxHeartbeats 1000000 in
theorem ref08_Begin_sim {g : World} {T0 : Nat → Prop} {w0 : World} {R : Assn}  {r : (List ref08Type)} (hS : Sep g T0 w0 [R])  (hm : ref08_Begin = some r) :
    Calls Try.prog 12 #[] w0 (RetS T0 w0 fun T w v => ∃ (a2 : Option Addr) (n2 : Nat) (c2 : Nat), v = .slice a2 n2 c2 ∧ Sep g T w [R, ownA rref08Type 51 (.slice a2 n2 c2) r] ∧ True) := by
  refine enter (args := []) Try.func12 rfl Try.ntmps12 rfl fun J => ?_
  unfold ref08_Begin at hm
  refine sq2 ?_
  refine rg (pv (r_zs rfl) (nil (t_then ?_)))
  refine sq2 ?_
  refine rg (pv (r_bd (by kernel_rfl) rfl (u := .agg #[.int .i64 0, .int .i64 0, .int .i64 0, .string ⟨([] : List UInt8).toArray⟩, .slice none 0 0, .bool false])) (pv (r_bd (by kernel_rfl) rfl (u := .agg #[.int .i64 1, .int .i64 0, .int .i64 0, .string ⟨([] : List UInt8).toArray⟩, .slice none 0 0, .bool false])) (pv (r_bd (by kernel_rfl) rfl (u := .agg #[.int .i64 2, .int .i64 0, .int .i64 0, .string ⟨([] : List UInt8).toArray⟩, .slice none 0 0, .bool false])) (wl rfl (bsS (r := rref08Type) (l := ([(⟨0, 0, 0, ([] : List UInt8), [], false⟩ : ref08Type), (⟨1, 0, 0, ([] : List UInt8), [], false⟩ : ref08Type), (⟨2, 0, 0, ([] : List UInt8), [], false⟩ : ref08Type)] : List ref08Type)) (css := [[.int .i64 0, .int .i64 0, .int .i64 0, .string ⟨([] : List UInt8).toArray⟩, .slice none 0 0, .bool false], [.int .i64 1, .int .i64 0, .int .i64 0, .string ⟨([] : List UInt8).toArray⟩, .slice none 0 0, .bool false], [.int .i64 2, .int .i64 0, .int .i64 0, .string ⟨([] : List UInt8).toArray⟩, .slice none 0 0, .bool false]]) hS Try.underlying28 Try.sizeOf51 Try.zeroValue51 rfl rfl (by kernel_rfl) rfl ⟨(rref08Type_mk (x := (⟨0, 0, 0, ([] : List UInt8), [], false⟩ : ref08Type)) SlR_nil : rref08Type.rp _ _ _ _), (rref08Type_mk (x := (⟨1, 0, 0, ([] : List UInt8), [], false⟩ : ref08Type)) SlR_nil : rref08Type.rp _ _ _ _), (rref08Type_mk (x := (⟨2, 0, 0, ([] : List UInt8), [], false⟩ : ref08Type)) SlR_nil : rref08Type.rp _ _ _ _), trivial⟩ rfl rfl fun w1 a1 n1 c1 im1 hS1 => ?_)))))
  refine pv (r_zs rfl) (nil (t_thenR [(0, .slice a1 n1 c1)] ⟨rfl, trivial⟩ fun J => ?_))
  have hm := Option.some.inj hm
  subst hm
  exact rtn (ret1 rfl rfl ⟨_, rfl, _, im1, ⟨_, _, _, rfl, hS1.sel [1, 0] rfl, trivial⟩⟩)

set_option maxRecDepth 100000 in
set_option maxHeartbeats 1000000 in
theorem kind_Table_Ptr_sim {g : World} {T0 : Nat → Prop} {w0 : World} {R : Assn} {p0 : KindTable} {b_p0 o_p0 : Nat} {H_p0 : List Value → Assn} {a1 : Option Addr} {n1 : Nat} {c1 : Nat} {p1 : Int} {r : Int × Int × KindTable} (hS : Sep g T0 w0 [R, H_p0 [.slice a1 n1 c1], ownA rKindKnown 65 (.slice a1 n1 c1) p0.list]) (hL_p0 : Ln b_p0 o_p0 H_p0) (hm : kind_Table_Ptr p0 p1 = some r) :
    Calls Try.prog 13 #[.pointer (some ⟨b_p0, o_p0, none⟩), .int .i64 p1] w0 (RetS T0 w0 fun T w v => ∃ (a3 : Option Addr) (n3 : Nat) (c3 : Nat), v = .tuple #[.int .i64 r.1, .int .i64 r.2.1] ∧ Sep g T w [R, H_p0 [.slice a3 n3 c3], ownA rKindKnown 65 (.slice a3 n3 c3) r.2.2.list] ∧ True) := by
  refine enter (args := [.pointer (some ⟨b_p0, o_p0, none⟩), .int .i64 p1]) Try.func13 rfl Try.ntmps13 rfl fun J => ?_
  unfold kind_Table_Ptr at hm
  refine sq2 ?_
  refine rg (pv (r_zi rfl) (pv (r_zi rfl) (nil (t_then ?_))))
  refine sq2 ?_
  refine blk ?_
  refine sq2 ?_
  refine rg (pv (r_mp rfl) (pv (r_pne rfl rfl rfl Try.underlying25) (pv (r_zb rfl) (nil (t_then ?_)))))
  refine cnd (b := false) rfl (fun h => nomatch h) (fun _ => ?_)
  refine sq2 ?_
  obtain ⟨y1, hx1, hm⟩ := bindS hm
  refine rg (pv (r_mp rfl) (pv (r_mi rfl) (wl rfl (calS cf33 rfl (kind_Table_has_sim (p0 := p0) (H_p0 := H_p0) (p1 := p1) (hS.bun [0] [1, 2] rfl) hL_p0 hx1) rfl fun v1 T1 w1 im1 rv1 => ?_))))
  obtain ⟨rfl, hS1, _⟩ := rv1
  have hS1 : Sep g T1 w1 [R, H_p0 [.slice a1 n1 c1], ownA rKindKnown 65 (.slice a1 n1 c1) p0.list] := hS1.unb
  refine pv (r_nt rfl) (pv (r_zb rfl) (nil (t_thenR [(0, .pointer (some ⟨b_p0, o_p0, none⟩)), (1, .int .i64 p1), (9, .bool (!y1))] ⟨rfl, rfl, rfl, trivial⟩ fun J => ?_)))
  refine cnd rfl (fun hb2 => ?_) (fun hb2 => ?_)
  · have hm := ctrue hb2 hm
    refine sq2 ?_
    refine rg (pv (r_zi rfl) (pv (r_zi rfl) (nil (t_then ?_))))
    have hm := Option.some.inj hm
    subst hm
    exact rtn (r_blk (r_then (retN (vs := [.int .i64 0, .int .i64 4]) rfl ⟨rfl, rfl, trivial⟩ rfl ⟨_, rfl, _, im1, ⟨_, _, _, rfl, hS1.sel [0, 1, 2] rfl, trivial⟩⟩)))
  · have hm := cfalse hb2 hm
    refine skp (t_blk (t_then ?_))
    refine sq2 ?_
    obtain ⟨y2, hx2, hm⟩ := bindS hm
    refine rg (pv (r_mp rfl) (pv (r_mi rfl) (pv (r_bd (by kernel_rfl) rfl (u := .agg #[.int .i64 3, .int .i64 p1, .int .i64 0, .string ⟨([] : List UInt8).toArray⟩, .slice none 0 0])) (pv (r_bd (by kernel_rfl) rfl (u := .agg #[.int .i64 3, .int .i64 p1, .int .i64 0, .string ⟨([] : List UInt8).toArray⟩, .slice none 0 0, .int .i64 4, .int .i64 4, .bool false])) (wl rfl (calS cf34 rfl (kind_Table_put_sim (p0 := p0) (H_p0 := H_p0) (p1 := (⟨(⟨3, p1, 0, ([] : List UInt8), []⟩ : GType), 4, 4, false⟩ : KindKnown)) (hS1.bun [0] [1, 2] rfl) hL_p0 SlR_nil hx2) rfl fun v2 T2 w2 im2 rv2 => ?_))))))
    obtain ⟨a2, n2, c2, rfl, hS2, _⟩ := rv2
    have hS2 : Sep g T2 w2 [R, H_p0 [.slice a2 n2 c2], ownA rKindKnown 65 (.slice a2 n2 c2) y2.2.2.list] := hS2.unb
    refine pv (r_ex (v := .int .i64 y2.1) rfl rfl) (pv (r_ex (v := .int .i64 y2.2.1) rfl rfl) (pv (r_zi rfl) (pv (r_zi rfl) (nil (t_thenR [(4, .int .i64 y2.1), (5, .int .i64 y2.2.1)] ⟨rfl, rfl, trivial⟩ fun J => ?_)))))
    have hm := Option.some.inj hm
    subst hm
    exact rtn (retN (vs := [.int .i64 y2.1, .int .i64 y2.2.1]) rfl ⟨rfl, rfl, trivial⟩ rfl ⟨_, rfl, _, (Im.trans im1 im2), ⟨_, _, _, rfl, hS2.sel [0, 1, 2] rfl, trivial⟩⟩)

set_option maxRecDepth 100000 in
set_option maxHeartbeats 1000000 in
theorem ref08_Is_sim {g : World} {T0 : Nat → Prop} {w0 : World} {R : Assn} {p0 : List ref08Type} {a1 : Option Addr} {c1 : Nat} {p1 : Int} {r : Bool} (hS : Sep g T0 w0 [R]) (h1 : SlR rref08Type T0 w0 (.slice a1 (List.length p0) c1) p0) (hm : ref08_Is p0 p1 = some r) :
    Calls Try.prog 19 #[.slice a1 (List.length p0) c1, .int .i64 p1] w0 (RetS T0 w0 fun T w v => v = .bool r ∧ Sep g T w [R] ∧ True) := by
  refine enter (args := [.slice a1 (List.length p0) c1, .int .i64 p1]) Try.func19 rfl Try.ntmps19 rfl fun J => ?_
  unfold ref08_Is at hm
  refine sq2 ?_
  refine rg (pv (r_zb rfl) (nil (t_then ?_)))
  refine sq2 ?_
  refine rg (pv (r_mi rfl) (pv (r_ib rfl rfl rfl) (pv (r_mb rfl) (?_))))
  rcases Bool.eq_false_or_eq_true (decide (0 ≤ p1)) with hb1 | hb1
  · have hm := ctrue hb1 hm
    refine gT (d0 := 7) rfl rfl hb1 (pv (r_mi rfl) (gT (d0 := 7) rfl rfl hb1 (pv (r_ms rfl) (gT (d0 := 7) rfl rfl hb1 (pv (r_ln rfl Try.underlying28) (gT (d0 := 7) rfl rfl hb1 (pv (r_ib rfl rfl rfl) (pv (r_pkt rfl hb1 rfl) (pv (r_zb rfl) (nil (t_thenR [(4, .bool (decide (p1 < (List.length p0 : Int))))] ⟨rfl, trivial⟩ fun J => ?_)))))))))))
    have hm := Option.some.inj hm
    subst hm
    exact rtn (ret1 rfl rfl ⟨_, rfl, _, Im.refl, ⟨rfl, hS.sel [0] rfl, trivial⟩⟩)
  · have hm := cfalse hb1 hm
    refine gF (d0 := 7) rfl rfl (by rw [hb1]; rfl) (gF (d0 := 7) rfl rfl (by rw [hb1]; rfl) (gF (d0 := 7) rfl rfl (by rw [hb1]; rfl) (gF (d0 := 7) rfl rfl (by rw [hb1]; rfl) (pv (r_pkf rfl hb1 rfl) (pv (r_zb rfl) (nil (t_thenR [(4, .bool false)] ⟨rfl, trivial⟩ fun J => ?_)))))))
    have hm := Option.some.inj hm
    subst hm
    exact rtn (ret1 rfl rfl ⟨_, rfl, _, Im.refl, ⟨rfl, hS.sel [0] rfl, trivial⟩⟩)

set_option maxRecDepth 100000 in
set_option maxHeartbeats 1000000 in
theorem ref08_put_sim {g : World} {T0 : Nat → Prop} {w0 : World} {R : Assn} {p0 : List ref08Type} {a1 : Option Addr} {c1 : Nat} {p1 : ref08Type} {a2 : Option Addr} {c2 : Nat} {r : ref08Made} (hS : Sep g T0 w0 [R]) (h1 : SlR rref08Type T0 w0 (.slice a1 (List.length p0) c1) p0) (h2 : SlR rGField T0 w0 (.slice a2 (List.length p1.Fields) c2) p1.Fields) (hm : ref08_put p0 p1 = some r) :
    Calls Try.prog 41 #[.slice a1 (List.length p0) c1, .agg #[.int .i64 p1.Kind, .int .i64 p1.Elem, .int .i64 p1.Len, .string ⟨p1.Name.toArray⟩, .slice a2 (List.length p1.Fields) c2, .bool p1.Open]] w0 (RetS T0 w0 fun T w v => ∃ (a12 : Option Addr) (c12 : Nat), v = .agg #[.int .i64 r.N, .slice a12 (List.length r.T) c12, .int .i64 r.E] ∧ Sep g T w [R] ∧ SlR rref08Type T w (.slice a12 (List.length r.T) c12) r.T ∧ True) := by
  refine enter (args := [.slice a1 (List.length p0) c1, .agg #[.int .i64 p1.Kind, .int .i64 p1.Elem, .int .i64 p1.Len, .string ⟨p1.Name.toArray⟩, .slice a2 (List.length p1.Fields) c2, .bool p1.Open]]) Try.func41 rfl Try.ntmps41 rfl fun J => ?_
  unfold ref08_put at hm
  refine sq2 ?_
  refine rg (wl rfl (bxS (cs := [.int .i64 p1.Kind, .int .i64 p1.Elem, .int .i64 p1.Len, .string ⟨p1.Name.toArray⟩, .slice a2 (List.length p1.Fields) c2, .bool p1.Open]) rfl rfl hS fun w1 b1 im1 hS1 => ?_))
  refine wl rfl (alS (zs := [.int .i64 0, .slice none 0 0, .int .i64 0]) Try.zeroValue30 rfl hS1 fun w2 b2 im2 hS2 => ?_)
  refine nil (t_then ?_)
  refine sq2 ?_
  refine sq2 ?_
  refine rg (pv (r_zi rfl) (nil (t_then ?_)))
  obtain ⟨o1, ho1, hq1⟩ := bindS hm
  obtain ⟨bd1, hbd1, ho1⟩ := loop_open ho1
  refine blk (wp_loop_ghost (fun m a w3 => ∃ (J : Nat → Value) (T1 : Nat → Prop) (x1 : Int), a = env 76 J [(0, .slice a1 (List.length p0) c1), (3, .pointer (some ⟨b1, 0, none⟩)), (4, .pointer (some ⟨b2, 0, none⟩)), (5, .int .i64 x1)] ∧ Im T0 w2 T1 w3 ∧ Sep g T1 w3 [boxA b2 [.int .i64 0, .slice none 0 0, .int .i64 0], boxA b1 [.int .i64 p1.Kind, .int .i64 p1.Elem, .int .i64 p1.Len, .string ⟨p1.Name.toArray⟩, .slice a2 (List.length p1.Fields) c2, .bool p1.Open], R] ∧ loopM bd1 m x1 = some o1) NN ⟨_, _, 0, env_has ⟨rfl, rfl, rfl, rfl, trivial⟩, Im.refl, hS2.sel [0, 1, 2] rfl, ho1⟩ ?_)
  rintro m _ w3 ⟨J, T1, x1, rfl, im3, hS3, ho1⟩
  obtain ⟨m1, z1, rfl, hm, hn1⟩ := loop_round ho1
  rw [hbd1] at hm
  refine sq2 ?_
  refine sq2 ?_
  refine rg (pv (r_mi rfl) (pv (r_ms rfl) (pv (r_ln rfl Try.underlying28) (pv (r_ib rfl rfl rfl) (nil (t_then ?_))))))
  refine cnd rfl (fun hb1 => ?_) (fun hb1 => ?_)
  · have hm := ctrue hb1 hm
    refine skp (t_then ?_)
    refine sq2 ?_
    refine blk ?_
    refine sq2 ?_
    obtain ⟨u1, hx1, hm⟩ := bindS hm
    obtain ⟨b3, of1, cs1, k1, cp1, hv1, hp1, hl1, he1, hr1, hc1, hT1⟩ := (h1.mono (Im.trans im1 (Im.trans im2 im3))).ixT hx1 rfl
    obtain ⟨a3, c3, rfl, h3⟩ := rref08Type_open hr1
    refine rq mix (by kernel_rfl) hS3.lt (qv (fun _ hq => r_ms rfl) (qv (fun _ hq => r_mi rfl) (qv (fun _ hq => r_ixe hv1 rfl Try.underlying28 Try.sizeOf51 hp1 hl1 he1) (qv (fun _ hq => r_fa rfl Try.underlying51 rfl Try.sizeOf3 rfl) (qv (fun _ hq => r_ld rfl Try.isAgg3 (hq.cell (hc1.get (j := 0) rfl))) (qv (fun _ hq => r_fa rfl Try.underlying51 rfl Try.sizeOf3 rfl) (qv (fun _ hq => r_ld rfl Try.isAgg3 (hq.cell (hS3.cell0 (i := 1) ⟨rfl, rfl⟩ (j := 0) rfl))) (qv (fun _ hq => r_ib rfl rfl rfl) (qv (fun _ hq => r_mb rfl) (?_))))))))))
    rcases Bool.eq_false_or_eq_true (u1.Kind == p1.Kind) with hb2 | hb2
    · have hm := ctrue hb2 hm
      obtain ⟨u2, hx2, hm⟩ := bindS hm
      obtain ⟨b4, of2, cs2, k2, cp2, hv2, hp2, hl2, he2, hr2, hc2, hT2⟩ := (h1.mono (Im.trans im1 (Im.trans im2 im3))).ixT hx2 rfl
      obtain ⟨a4, c4, rfl, h4⟩ := rref08Type_open hr2
      refine qgT (d0 := 22) rfl rfl hb2 (qv (fun _ hq => r_ms rfl) (qgT (d0 := 22) rfl rfl hb2 (qv (fun _ hq => r_mi rfl) (qgT (d0 := 22) rfl rfl hb2 (qv (fun _ hq => r_ixe hv2 rfl Try.underlying28 Try.sizeOf51 hp2 hl2 he2) (qgT (d0 := 22) rfl rfl hb2 (qv (fun _ hq => r_fa rfl Try.underlying51 rfl Try.sizeOf3 rfl) (qgT (d0 := 22) rfl rfl hb2 (qv (fun _ hq => r_ld rfl Try.isAgg3 (hq.cell (hc2.get (j := 1) rfl))) (qgT (d0 := 22) rfl rfl hb2 (qv (fun _ hq => r_fa rfl Try.underlying51 rfl Try.sizeOf3 rfl) (qgT (d0 := 22) rfl rfl hb2 (qv (fun _ hq => r_ld rfl Try.isAgg3 (hq.cell (hS3.cell0 (i := 1) ⟨rfl, rfl⟩ (j := 1) rfl))) (qgT (d0 := 22) rfl rfl hb2 (qv (fun _ hq => r_ib rfl rfl rfl) (qv (fun _ hq => r_pkt rfl hb2 rfl) (qv (fun _ hq => r_mb rfl) (?_))))))))))))))))))
      rcases Bool.eq_false_or_eq_true (u2.Elem == p1.Elem) with hb3 | hb3
      · have hm := ctrue hb3 hm
        obtain ⟨u3, hx3, hm⟩ := bindS hm
        obtain ⟨b5, of3, cs3, k3, cp3, hv3, hp3, hl3, he3, hr3, hc3, hT3⟩ := (h1.mono (Im.trans im1 (Im.trans im2 im3))).ixT hx3 rfl
        obtain ⟨a5, c5, rfl, h5⟩ := rref08Type_open hr3
        refine qgT (d0 := 32) rfl rfl hb3 (qv (fun _ hq => r_ms rfl) (qgT (d0 := 32) rfl rfl hb3 (qv (fun _ hq => r_mi rfl) (qgT (d0 := 32) rfl rfl hb3 (qv (fun _ hq => r_ixe hv3 rfl Try.underlying28 Try.sizeOf51 hp3 hl3 he3) (qgT (d0 := 32) rfl rfl hb3 (qv (fun _ hq => r_fa rfl Try.underlying51 rfl Try.sizeOf3 rfl) (qgT (d0 := 32) rfl rfl hb3 (qv (fun _ hq => r_ld rfl Try.isAgg3 (hq.cell (hc3.get (j := 2) rfl))) (qgT (d0 := 32) rfl rfl hb3 (qv (fun _ hq => r_fa rfl Try.underlying51 rfl Try.sizeOf3 rfl) (qgT (d0 := 32) rfl rfl hb3 (qv (fun _ hq => r_ld rfl Try.isAgg3 (hq.cell (hS3.cell0 (i := 1) ⟨rfl, rfl⟩ (j := 2) rfl))) (qgT (d0 := 32) rfl rfl hb3 (qv (fun _ hq => r_ib rfl rfl rfl) (qv (fun _ hq => r_pkt rfl hb3 rfl) (qv (fun _ hq => r_mb rfl) (?_))))))))))))))))))
        rcases Bool.eq_false_or_eq_true (u3.Len == p1.Len) with hb4 | hb4
        · have hm := ctrue hb4 hm
          refine qgT (d0 := 42) rfl rfl hb4 (qv (fun _ hq => r_fa rfl Try.underlying51 rfl Try.sizeOf3 rfl) (qgT (d0 := 42) rfl rfl hb4 (qv (fun _ hq => r_ld rfl Try.isAgg3 (hq.cell (hS3.cell0 (i := 1) ⟨rfl, rfl⟩ (j := 0) rfl))) (qgT (d0 := 42) rfl rfl hb4 (qv (fun _ hq => r_ib rfl rfl rfl) (qv (fun _ hq => r_pkt rfl hb4 rfl) (qn fun w4 T2 i1 => ?_)))))))
          have im4 := i1.imm
          have hS4 := hS3.keep i1 (fun _ h => h)
          refine t_thenR [(0, .slice a1 (List.length p0) c1), (3, .pointer (some ⟨b1, 0, none⟩)), (4, .pointer (some ⟨b2, 0, none⟩)), (5, .int .i64 x1), (46, .bool (p1.Kind != 5))] ⟨rfl, rfl, rfl, rfl, rfl, trivial⟩ fun J => ?_
          refine cnd rfl (fun hb5 => ?_) (fun hb5 => ?_)
          · have hm := ctrue hb5 hm
            refine sq2 ?_
            refine rg (pv (r_mi rfl) (pv (r_ms rfl) (pv (r_bd (by kernel_rfl) rfl (u := .agg #[.int .i64 x1, .slice a1 (List.length p0) c1, .int .i64 0])) (wl rfl (st0B (q := 0) hS4 ⟨rfl, rfl⟩ rfl rfl rfl Try.sizeOf30 rfl rfl rfl fun w5 im5 hS5 => ?_)))))
            have hS5 : Sep g T2 w5 [boxA b2 [.int .i64 x1, .slice a1 (List.length p0) c1, .int .i64 0], boxA b1 [.int .i64 p1.Kind, .int .i64 p1.Elem, .int .i64 p1.Len, .string ⟨p1.Name.toArray⟩, .slice a2 (List.length p1.Fields) c2, .bool p1.Open], R] := hS5
            refine nil (t_thenR [(4, .pointer (some ⟨b2, 0, none⟩))] ⟨rfl, trivial⟩ fun J => ?_)
            have hm := Option.some.inj hm
            subst hm
            have hn1 : _ = Lp.ret _ := hn1
            subst hn1
            have hm := thn_ret hq1
            have hm := Option.some.inj hm
            subst hm
            exact rtn (r_blk (r_then (r_then (r_blk (r_then (retN (vs := [.agg #[.int .i64 x1, .slice a1 (List.length p0) c1, .int .i64 0]]) rfl ⟨rvS rfl Try.isAgg30 Try.sizeOf30 rfl (hS5.bx (i := 0) ⟨rfl, rfl⟩), trivial⟩ rfl ⟨_, rfl, _, (Im.trans im1 (Im.trans im2 (Im.trans im3 (Im.trans im4 im5)))), ⟨_, _, rfl, hS5.sel [2] rfl, (h1.mono (Im.trans im1 (Im.trans im2 (Im.trans im3 (Im.trans im4 im5))))), trivial⟩⟩))))))
          · have hm := cfalse hb5 hm
            refine skp (t_blk (t_then ?_))
            have hm := Option.some.inj hm
            subst hm
            exact rg (pv (r_mi rfl) (pv (r_ib rfl rfl rfl) (pv (r_zi rfl) (nil (t_then ⟨m1, Nat.lt_succ_self _, _, _, (IntKind.wrap .i64 (x1 + 1)), env_has ⟨rfl, rfl, rfl, rfl, trivial⟩, (Im.trans im3 im4), hS4.sel [0, 1, 2] rfl, hn1⟩)))))
        · have hm := cfalse hb4 hm
          refine qgF (d0 := 42) rfl rfl (by rw [hb4]; rfl) (qgF (d0 := 42) rfl rfl (by rw [hb4]; rfl) (qgF (d0 := 42) rfl rfl (by rw [hb4]; rfl) (qv (fun _ hq => r_pkf rfl hb4 rfl) (qn fun w6 T3 i2 => ?_))))
          have im6 := i2.imm
          have hS6 := hS3.keep i2 (fun _ h => h)
          refine t_thenR [(0, .slice a1 (List.length p0) c1), (3, .pointer (some ⟨b1, 0, none⟩)), (4, .pointer (some ⟨b2, 0, none⟩)), (5, .int .i64 x1), (46, .bool false)] ⟨rfl, rfl, rfl, rfl, rfl, trivial⟩ fun J => ?_
          refine cnd (b := false) rfl (fun h => nomatch h) (fun _ => ?_)
          refine skp (t_blk (t_then ?_))
          have hm := Option.some.inj hm
          subst hm
          exact rg (pv (r_mi rfl) (pv (r_ib rfl rfl rfl) (pv (r_zi rfl) (nil (t_then ⟨m1, Nat.lt_succ_self _, _, _, (IntKind.wrap .i64 (x1 + 1)), env_has ⟨rfl, rfl, rfl, rfl, trivial⟩, (Im.trans im3 im6), hS6.sel [0, 1, 2] rfl, hn1⟩)))))
      · have hm := cfalse hb3 hm
        refine qgF (d0 := 32) rfl rfl (by rw [hb3]; rfl) (qgF (d0 := 32) rfl rfl (by rw [hb3]; rfl) (qgF (d0 := 32) rfl rfl (by rw [hb3]; rfl) (qgF (d0 := 32) rfl rfl (by rw [hb3]; rfl) (qgF (d0 := 32) rfl rfl (by rw [hb3]; rfl) (qgF (d0 := 32) rfl rfl (by rw [hb3]; rfl) (qgF (d0 := 32) rfl rfl (by rw [hb3]; rfl) (qgF (d0 := 32) rfl rfl (by rw [hb3]; rfl) (qv (fun _ hq => r_pkf rfl hb3 rfl) (qv (fun _ hq => r_mb rfl) (qgF (d0 := 42) rfl rfl rfl (qgF (d0 := 42) rfl rfl rfl (qgF (d0 := 42) rfl rfl rfl (qv (fun _ hq => r_pkf rfl rfl rfl) (qn fun w7 T4 i3 => ?_))))))))))))))
        have im7 := i3.imm
        have hS7 := hS3.keep i3 (fun _ h => h)
        refine t_thenR [(0, .slice a1 (List.length p0) c1), (3, .pointer (some ⟨b1, 0, none⟩)), (4, .pointer (some ⟨b2, 0, none⟩)), (5, .int .i64 x1), (46, .bool false)] ⟨rfl, rfl, rfl, rfl, rfl, trivial⟩ fun J => ?_
        refine cnd (b := false) rfl (fun h => nomatch h) (fun _ => ?_)
        refine skp (t_blk (t_then ?_))
        have hm := Option.some.inj hm
        subst hm
        exact rg (pv (r_mi rfl) (pv (r_ib rfl rfl rfl) (pv (r_zi rfl) (nil (t_then ⟨m1, Nat.lt_succ_self _, _, _, (IntKind.wrap .i64 (x1 + 1)), env_has ⟨rfl, rfl, rfl, rfl, trivial⟩, (Im.trans im3 im7), hS7.sel [0, 1, 2] rfl, hn1⟩)))))
    · have hm := cfalse hb2 hm
      refine qgF (d0 := 22) rfl rfl (by rw [hb2]; rfl) (qgF (d0 := 22) rfl rfl (by rw [hb2]; rfl) (qgF (d0 := 22) rfl rfl (by rw [hb2]; rfl) (qgF (d0 := 22) rfl rfl (by rw [hb2]; rfl) (qgF (d0 := 22) rfl rfl (by rw [hb2]; rfl) (qgF (d0 := 22) rfl rfl (by rw [hb2]; rfl) (qgF (d0 := 22) rfl rfl (by rw [hb2]; rfl) (qgF (d0 := 22) rfl rfl (by rw [hb2]; rfl) (qv (fun _ hq => r_pkf rfl hb2 rfl) (qv (fun _ hq => r_mb rfl) (qgF (d0 := 32) rfl rfl rfl (qgF (d0 := 32) rfl rfl rfl (qgF (d0 := 32) rfl rfl rfl (qgF (d0 := 32) rfl rfl rfl (qgF (d0 := 32) rfl rfl rfl (qgF (d0 := 32) rfl rfl rfl (qgF (d0 := 32) rfl rfl rfl (qgF (d0 := 32) rfl rfl rfl (qv (fun _ hq => r_pkf rfl rfl rfl) (qv (fun _ hq => r_mb rfl) (qgF (d0 := 42) rfl rfl rfl (qgF (d0 := 42) rfl rfl rfl (qgF (d0 := 42) rfl rfl rfl (qv (fun _ hq => r_pkf rfl rfl rfl) (qn fun w8 T5 i4 => ?_))))))))))))))))))))))))
      have im8 := i4.imm
      have hS8 := hS3.keep i4 (fun _ h => h)
      refine t_thenR [(0, .slice a1 (List.length p0) c1), (3, .pointer (some ⟨b1, 0, none⟩)), (4, .pointer (some ⟨b2, 0, none⟩)), (5, .int .i64 x1), (46, .bool false)] ⟨rfl, rfl, rfl, rfl, rfl, trivial⟩ fun J => ?_
      refine cnd (b := false) rfl (fun h => nomatch h) (fun _ => ?_)
      refine skp (t_blk (t_then ?_))
      have hm := Option.some.inj hm
      subst hm
      exact rg (pv (r_mi rfl) (pv (r_ib rfl rfl rfl) (pv (r_zi rfl) (nil (t_then ⟨m1, Nat.lt_succ_self _, _, _, (IntKind.wrap .i64 (x1 + 1)), env_has ⟨rfl, rfl, rfl, rfl, trivial⟩, (Im.trans im3 im8), hS8.sel [0, 1, 2] rfl, hn1⟩)))))
  · have hm := cfalse hb1 hm
    have hm := Option.some.inj hm
    subst hm
    have hn1 : _ = Lp.brk _ := hn1
    subst hn1
    have hm := thn_brk hq1
    refine xt (x_then (x_then (x_eq (t_thenR [(0, .slice a1 (List.length p0) c1), (3, .pointer (some ⟨b1, 0, none⟩)), (4, .pointer (some ⟨b2, 0, none⟩))] ⟨rfl, rfl, rfl, trivial⟩ fun J => ?_))))
    refine sq2 ?_
    refine sq2 ?_
    refine rg (pv (r_ms rfl) (pv (r_ln rfl Try.underlying28) (pv (r_ib rfl rfl rfl) (nil (t_then ?_)))))
    refine cnd rfl (fun hb9 => ?_) (fun hb9 => ?_)
    · have hm := ctrue hb9 hm
      refine sq2 ?_
      refine rg (pv (r_ms rfl) (pv (r_bd (by kernel_rfl) rfl (u := .agg #[.int .i64 0, .slice a1 (List.length p0) c1, .int .i64 8])) (wl rfl (st0B (q := 0) hS3 ⟨rfl, rfl⟩ rfl rfl rfl Try.sizeOf30 rfl rfl rfl fun w9 im9 hS9 => ?_))))
      have hS9 : Sep g T1 w9 [boxA b2 [.int .i64 0, .slice a1 (List.length p0) c1, .int .i64 8], boxA b1 [.int .i64 p1.Kind, .int .i64 p1.Elem, .int .i64 p1.Len, .string ⟨p1.Name.toArray⟩, .slice a2 (List.length p1.Fields) c2, .bool p1.Open], R] := hS9
      refine nil (t_thenR [(4, .pointer (some ⟨b2, 0, none⟩))] ⟨rfl, trivial⟩ fun J => ?_)
      have hm := Option.some.inj hm
      subst hm
      exact rtn (r_then (retN (vs := [.agg #[.int .i64 0, .slice a1 (List.length p0) c1, .int .i64 8]]) rfl ⟨rvS rfl Try.isAgg30 Try.sizeOf30 rfl (hS9.bx (i := 0) ⟨rfl, rfl⟩), trivial⟩ rfl ⟨_, rfl, _, (Im.trans im1 (Im.trans im2 (Im.trans im3 im9))), ⟨_, _, rfl, hS9.sel [2] rfl, (h1.mono (Im.trans im1 (Im.trans im2 (Im.trans im3 im9)))), trivial⟩⟩))
    · have hm := cfalse hb9 hm
      refine skp (t_then ?_)
      refine sq2 ?_
      refine rg (pv (r_zs rfl) (nil (t_then ?_)))
      refine sq2 ?_
      refine sq2 ?_
      refine rg (pv (r_zi rfl) (nil (t_then ?_)))
      obtain ⟨o1, ho1, hq1⟩ := bindS hm
      obtain ⟨bd1, hbd1, ho1⟩ := loop_open ho1
      have hS10 := hS3.nilO rref08Type 51
      refine blk (wp_loop_ghost (fun m a w10 => ∃ (J : Nat → Value) (T6 : Nat → Prop) (x2 : List ref08Type) (a6 : Option Addr) (n1 : Nat) (c6 : Nat) (x3 : Int), a = env 76 J [(0, .slice a1 (List.length p0) c1), (3, .pointer (some ⟨b1, 0, none⟩)), (4, .pointer (some ⟨b2, 0, none⟩)), (6, .slice a6 n1 c6), (7, .int .i64 x3)] ∧ Im T1 w3 T6 w10 ∧ Sep g T6 w10 [ownA rref08Type 51 (.slice a6 n1 c6) x2, boxA b2 [.int .i64 0, .slice none 0 0, .int .i64 0], boxA b1 [.int .i64 p1.Kind, .int .i64 p1.Elem, .int .i64 p1.Len, .string ⟨p1.Name.toArray⟩, .slice a2 (List.length p1.Fields) c2, .bool p1.Open], R] ∧ loopM bd1 m (x2, x3) = some o1) NN ⟨_, _, [], _, _, _, 0, env_has ⟨rfl, rfl, rfl, rfl, rfl, trivial⟩, Im.refl, hS10.sel [0, 1, 2, 3] rfl, ho1⟩ ?_)
      rintro m _ w10 ⟨J, T6, x2, a6, n1, c6, x3, rfl, im10, hS11, ho1⟩
      obtain ⟨m1, z1, rfl, hm, hn1⟩ := loop_round ho1
      rw [hbd1] at hm
      refine sq2 ?_
      refine sq2 ?_
      refine rg (pv (r_mi rfl) (pv (r_ms rfl) (pv (r_ln rfl Try.underlying28) (pv (r_ib rfl rfl rfl) (nil (t_then ?_))))))
      refine cnd rfl (fun hb10 => ?_) (fun hb10 => ?_)
      · have hm := ctrue hb10 hm
        refine skp (t_then ?_)
        refine sq2 ?_
        refine blk ?_
        obtain ⟨u4, hx4, hm⟩ := bindS hm
        obtain ⟨b6, of4, cs4, k4, cp4, hv4, hp4, hl4, he4, hr4, hc4, hT4⟩ := (h1.mono (Im.trans im1 (Im.trans im2 (Im.trans im3 im10)))).ixT hx4 rfl
        obtain ⟨a7, c7, rfl, h6⟩ := rref08Type_open hr4
        refine rg (pv (r_ms rfl) (pv (r_ms rfl) (pv (r_mi rfl) (pv (r_ixe hv4 rfl Try.underlying28 Try.sizeOf51 hp4 hl4 he4) (pv (r_ldS rfl Try.isAgg51 Try.sizeOf51 rfl hc4 (cs := [.int .i64 u4.Kind, .int .i64 u4.Elem, .int .i64 u4.Len, .string ⟨u4.Name.toArray⟩, .slice a7 (List.length u4.Fields) c7, .bool u4.Open])) (wl rfl (bsS (r := rref08Type) (l := ([u4] : List ref08Type)) (css := [[.int .i64 u4.Kind, .int .i64 u4.Elem, .int .i64 u4.Len, .string ⟨u4.Name.toArray⟩, .slice a7 (List.length u4.Fields) c7, .bool u4.Open]]) hS11 Try.underlying28 Try.sizeOf51 Try.zeroValue51 rfl rfl (by kernel_rfl) rfl ⟨(rref08Type_mk (x := u4) h6 : rref08Type.rp _ _ _ _), trivial⟩ rfl rfl fun w11 a8 n2 c8 im11 hS12 => ?_)))))))
        obtain ⟨z_1, hro1, hm⟩ := bindS hm
        refine wl rfl (apO (q := 1) (l := x2) (us := ([u4] : List ref08Type)) hS12 ⟨rfl, rfl⟩ rfl rfl (hS12.own (i := 0) ⟨rfl, rfl⟩).v Try.underlying28 el51 (room_some hro1) fun w12 a9 n3 c9 im12 hS13 => ?_)
        have hS13 : Sep g T6 w12 [ownA rref08Type 51 (.slice a8 n2 c8) ([u4] : List ref08Type), ownA rref08Type 51 (.slice a9 n3 c9) (x2 ++ ([u4] : List ref08Type)), boxA b2 [.int .i64 0, .slice none 0 0, .int .i64 0], boxA b1 [.int .i64 p1.Kind, .int .i64 p1.Elem, .int .i64 p1.Len, .string ⟨p1.Name.toArray⟩, .slice a2 (List.length p1.Fields) c2, .bool p1.Open], R] := hS13
        refine pv (r_zs rfl) (nil (t_blk (t_thenR [(0, .slice a1 (List.length p0) c1), (3, .pointer (some ⟨b1, 0, none⟩)), (4, .pointer (some ⟨b2, 0, none⟩)), (6, .slice a9 n3 c9), (7, .int .i64 x3)] ⟨rfl, rfl, rfl, rfl, rfl, trivial⟩ fun J => ?_)))
        have hm := Option.some.inj hm
        subst hm
        exact rg (pv (r_mi rfl) (pv (r_ib rfl rfl rfl) (pv (r_zi rfl) (nil (t_then ⟨m1, Nat.lt_succ_self _, _, _, (x2 ++ ([u4] : List ref08Type)), _, _, _, (IntKind.wrap .i64 (x3 + 1)), env_has ⟨rfl, rfl, rfl, rfl, rfl, trivial⟩, (Im.trans im10 (Im.trans im11 im12)), hS13.sel [1, 2, 3, 4] rfl, hn1⟩)))))
      · have hm := cfalse hb10 hm
        have hm := Option.some.inj hm
        subst hm
        have hn1 : _ = Lp.brk _ := hn1
        subst hn1
        have hm := thn_brk hq1
        refine xt (x_then (x_then (x_eq (t_thenR [(0, .slice a1 (List.length p0) c1), (3, .pointer (some ⟨b1, 0, none⟩)), (4, .pointer (some ⟨b2, 0, none⟩)), (6, .slice a6 n1 c6)] ⟨rfl, rfl, rfl, rfl, trivial⟩ fun J => ?_))))
        refine sq2 ?_
        refine rg (pv (r_ms rfl) (pv (r_ldS rfl Try.isAgg51 Try.sizeOf51 rfl (hS11.cells0 (i := 2) ⟨rfl, rfl⟩ (o := 0) rfl) (cs := [.int .i64 p1.Kind, .int .i64 p1.Elem, .int .i64 p1.Len, .string ⟨p1.Name.toArray⟩, .slice a2 (List.length p1.Fields) c2, .bool p1.Open])) (wl rfl (bsS (r := rref08Type) (l := ([p1] : List ref08Type)) (css := [[.int .i64 p1.Kind, .int .i64 p1.Elem, .int .i64 p1.Len, .string ⟨p1.Name.toArray⟩, .slice a2 (List.length p1.Fields) c2, .bool p1.Open]]) hS11 Try.underlying28 Try.sizeOf51 Try.zeroValue51 rfl rfl (by kernel_rfl) rfl ⟨(rref08Type_mk (x := p1) (h2.mono (Im.trans im1 (Im.trans im2 (Im.trans im3 im10)))) : rref08Type.rp _ _ _ _), trivial⟩ rfl rfl fun w13 a10 n4 c10 im13 hS14 => ?_))))
        obtain ⟨z_2, hro2, hm⟩ := bindS hm
        refine wl rfl (apO (q := 1) (l := x2) (us := ([p1] : List ref08Type)) hS14 ⟨rfl, rfl⟩ rfl rfl (hS14.own (i := 0) ⟨rfl, rfl⟩).v Try.underlying28 el51 (room_some hro2) fun w14 a11 n5 c11 im14 hS15 => ?_)
        have hS15 : Sep g T6 w14 [ownA rref08Type 51 (.slice a10 n4 c10) ([p1] : List ref08Type), ownA rref08Type 51 (.slice a11 n5 c11) (x2 ++ ([p1] : List ref08Type)), boxA b2 [.int .i64 0, .slice none 0 0, .int .i64 0], boxA b1 [.int .i64 p1.Kind, .int .i64 p1.Elem, .int .i64 p1.Len, .string ⟨p1.Name.toArray⟩, .slice a2 (List.length p1.Fields) c2, .bool p1.Open], R] := hS15
        refine pv (r_zs rfl) (nil (t_thenR [(0, .slice a1 (List.length p0) c1), (4, .pointer (some ⟨b2, 0, none⟩)), (6, .slice a11 n5 c11)] ⟨rfl, rfl, rfl, trivial⟩ fun J => ?_))
        refine sq2 ?_
        refine rg (pv (r_ms rfl) (pv (r_ln rfl Try.underlying28) (pv (r_ms rfl) (pv (r_bd (by kernel_rfl) rfl (u := .agg #[.int .i64 (List.length p0 : Int), .slice a11 n5 c11, .int .i64 0])) (wl rfl (st0B (q := 2) hS15 ⟨rfl, rfl⟩ rfl rfl rfl Try.sizeOf30 rfl rfl rfl fun w15 im15 hS16 => ?_))))))
        have hS16 : Sep g T6 w15 [ownA rref08Type 51 (.slice a10 n4 c10) ([p1] : List ref08Type), ownA rref08Type 51 (.slice a11 n5 c11) (x2 ++ ([p1] : List ref08Type)), boxA b2 [.int .i64 (List.length p0 : Int), .slice a11 n5 c11, .int .i64 0], boxA b1 [.int .i64 p1.Kind, .int .i64 p1.Elem, .int .i64 p1.Len, .string ⟨p1.Name.toArray⟩, .slice a2 (List.length p1.Fields) c2, .bool p1.Open], R] := hS16
        refine nil (t_thenR [(4, .pointer (some ⟨b2, 0, none⟩))] ⟨rfl, trivial⟩ fun J => ?_)
        obtain ⟨T7, im16, hS17, h7⟩ := hS16.seal 1 ⟨rfl, rfl⟩
        have hsh := h7.len
        subst hsh
        have hS17 : Sep g T7 w15 [ownA rref08Type 51 (.slice a10 n4 c10) ([p1] : List ref08Type), empA, boxA b2 [.int .i64 (List.length p0 : Int), .slice a11 (List.length (x2 ++ ([p1] : List ref08Type))) c11, .int .i64 0], boxA b1 [.int .i64 p1.Kind, .int .i64 p1.Elem, .int .i64 p1.Len, .string ⟨p1.Name.toArray⟩, .slice a2 (List.length p1.Fields) c2, .bool p1.Open], R] := hS17
        have hm := Option.some.inj hm
        subst hm
        exact rtn (retN (vs := [.agg #[.int .i64 (List.length p0 : Int), .slice a11 (List.length (x2 ++ ([p1] : List ref08Type))) c11, .int .i64 0]]) rfl ⟨rvS rfl Try.isAgg30 Try.sizeOf30 rfl (hS17.bx (i := 2) ⟨rfl, rfl⟩), trivial⟩ rfl ⟨_, rfl, _, (Im.trans im1 (Im.trans im2 (Im.trans im3 (Im.trans im10 (Im.trans im13 (Im.trans im14 (Im.trans im15 im16))))))), ⟨_, _, rfl, hS17.sel [4] rfl, h7, trivial⟩⟩)

set_option maxRecDepth 100000 in
set_option maxHeartbeats 1000000 in
theorem ref08_Ptr_sim {g : World} {T0 : Nat → Prop} {w0 : World} {R : Assn} {p0 : List ref08Type} {a1 : Option Addr} {c1 : Nat} {p1 : Int} {r : ref08Made} (hS : Sep g T0 w0 [R]) (h1 : SlR rref08Type T0 w0 (.slice a1 (List.length p0) c1) p0) (hm : ref08_Ptr p0 p1 = some r) :
    Calls Try.prog 29 #[.slice a1 (List.length p0) c1, .int .i64 p1] w0 (RetS T0 w0 fun T w v => ∃ (a3 : Option Addr) (c3 : Nat), v = .agg #[.int .i64 r.N, .slice a3 (List.length r.T) c3, .int .i64 r.E] ∧ Sep g T w [R] ∧ SlR rref08Type T w (.slice a3 (List.length r.T) c3) r.T ∧ True) := by
  refine enter (args := [.slice a1 (List.length p0) c1, .int .i64 p1]) Try.func29 rfl Try.ntmps29 rfl fun J => ?_
  unfold ref08_Ptr at hm
  refine sq2 ?_
  refine rg (wl rfl (alS (zs := [.int .i64 0, .slice none 0 0, .int .i64 0]) Try.zeroValue30 rfl hS fun w1 b1 im1 hS1 => ?_))
  refine nil (t_then ?_)
  refine sq2 ?_
  refine sq2 ?_
  obtain ⟨y1, hx1, hm⟩ := bindS hm
  refine rg (pv (r_ms rfl) (pv (r_mi rfl) (wl rfl (calS cf19 rfl (ref08_Is_sim (p0 := p0) (p1 := p1) (hS1.bun [0, 1] [] rfl) (h1.mono im1) hx1) rfl fun v1 T1 w2 im2 rv1 => ?_))))
  obtain ⟨rfl, hS2, _⟩ := rv1
  have hS2 : Sep g T1 w2 [boxA b1 [.int .i64 0, .slice none 0 0, .int .i64 0], R] := hS2.unb
  refine pv (r_nt rfl) (nil (t_then ?_))
  refine cnd rfl (fun hb1 => ?_) (fun hb1 => ?_)
  · have hm := ctrue hb1 hm
    refine sq2 ?_
    refine rg (pv (r_ms rfl) (pv (r_bd (by kernel_rfl) rfl (u := .agg #[.int .i64 0, .slice a1 (List.length p0) c1, .int .i64 4])) (wl rfl (st0B (q := 0) hS2 ⟨rfl, rfl⟩ rfl rfl rfl Try.sizeOf30 rfl rfl rfl fun w3 im3 hS3 => ?_))))
    have hS3 : Sep g T1 w3 [boxA b1 [.int .i64 0, .slice a1 (List.length p0) c1, .int .i64 4], R] := hS3
    refine nil (t_thenR [(4, .pointer (some ⟨b1, 0, none⟩))] ⟨rfl, trivial⟩ fun J => ?_)
    have hm := Option.some.inj hm
    subst hm
    exact rtn (r_then (retN (vs := [.agg #[.int .i64 0, .slice a1 (List.length p0) c1, .int .i64 4]]) rfl ⟨rvS rfl Try.isAgg30 Try.sizeOf30 rfl (hS3.bx (i := 0) ⟨rfl, rfl⟩), trivial⟩ rfl ⟨_, rfl, _, (Im.trans im1 (Im.trans im2 im3)), ⟨_, _, rfl, hS3.sel [1] rfl, (h1.mono (Im.trans im1 (Im.trans im2 im3))), trivial⟩⟩))
  · have hm := cfalse hb1 hm
    refine skp (t_then ?_)
    refine sq2 ?_
    obtain ⟨y2, hx2, hm⟩ := bindS hm
    refine rg (pv (r_ms rfl) (pv (r_mi rfl) (pv (r_bd (by kernel_rfl) rfl (u := .agg #[.int .i64 3, .int .i64 p1, .int .i64 0, .string ⟨([] : List UInt8).toArray⟩, .slice none 0 0, .bool false])) (wl rfl (calS cf41 rfl (ref08_put_sim (p0 := p0) (p1 := (⟨3, p1, 0, ([] : List UInt8), [], false⟩ : ref08Type)) (hS2.bun [0, 1] [] rfl) (h1.mono (Im.trans im1 im2)) SlR_nil hx2) rfl fun v2 T2 w4 im4 rv2 => ?_)))))
    obtain ⟨a2, c2, rfl, hS4, h2, _⟩ := rv2
    have hS4 : Sep g T2 w4 [boxA b1 [.int .i64 0, .slice none 0 0, .int .i64 0], R] := hS4.unb
    refine wl rfl (st0B (q := 0) hS4 ⟨rfl, rfl⟩ rfl rfl rfl Try.sizeOf30 rfl rfl rfl fun w5 im5 hS5 => ?_)
    have hS5 : Sep g T2 w5 [boxA b1 [.int .i64 y2.N, .slice a2 (List.length y2.T) c2, .int .i64 y2.E], R] := hS5
    refine nil (t_thenR [(4, .pointer (some ⟨b1, 0, none⟩))] ⟨rfl, trivial⟩ fun J => ?_)
    have hm := Option.some.inj hm
    subst hm
    exact rtn (retN (vs := [.agg #[.int .i64 y2.N, .slice a2 (List.length y2.T) c2, .int .i64 y2.E]]) rfl ⟨rvS rfl Try.isAgg30 Try.sizeOf30 rfl (hS5.bx (i := 0) ⟨rfl, rfl⟩), trivial⟩ rfl ⟨_, rfl, _, (Im.trans im1 (Im.trans im2 (Im.trans im4 im5))), ⟨_, _, rfl, hS5.sel [1] rfl, (h2.mono im5), trivial⟩⟩)
end Go.Proofs.Ytjbmmcbpdodalaa
